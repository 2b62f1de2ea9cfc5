import JvmDerived
import JvmDerived.Pilot.@@N@@Statement
import JvmDerived.Pilot.@@N@@Code
set_option linter.unusedVariables false
set_option linter.unusedSimpArgs false
namespace Jvm.Wp
open Jvm Jvm.ClassFile Sem Op Lib Jvm.Free Jvm.Stand Jvm.LawKit Jvm.RoadKit
def w32 (x : Int) : Int := (x + 2147483648) % 4294967296 - 2147483648
def w64 (x : Int) : Int := (x + 9223372036854775808) % 18446744073709551616 - 9223372036854775808
def InR (x : Int) : Prop := -2147483648 ≤ x ∧ x < 2147483648
def InL (x : Int) : Prop := -9223372036854775808 ≤ x ∧ x < 9223372036854775808
theorem w32_in (x : Int) : InR (w32 x) := by unfold InR w32; omega
theorem w64_in (x : Int) : InL (w64 x) := by unfold InL w64; omega
theorem w32_id {x : Int} (h1 : -2147483648 ≤ x) (h2 : x < 2147483648) : w32 x = x := by unfold w32; omega
theorem w64_id {x : Int} (h1 : -9223372036854775808 ≤ x) (h2 : x < 9223372036854775808) : w64 x = x := by unfold w64; omega
theorem bmod32 (x : Int) : x.bmod 4294967296 = w32 x := by unfold w32; rw [Int.bmod_def]; split <;> omega
theorem bmod64 (x : Int) : x.bmod 18446744073709551616 = w64 x := by unfold w64; rw [Int.bmod_def]; split <;> omega
abbrev o32 (x : Int) : Int32 := Int32.ofInt x
abbrev o64 (x : Int) : Int64 := Int64.ofInt x
theorem t32 (x : Int) : (o32 x).toInt = w32 x := by rw [← bmod32]; exact Int32.toInt_ofInt
theorem t64 (x : Int) : (o64 x).toInt = w64 x := by rw [← bmod64]; exact Int64.toInt_ofInt
theorem t32i {x : Int} (h : InR x) : (o32 x).toInt = x := by rw [t32, w32_id h.1 h.2]
theorem t64i {x : Int} (h : InL x) : (o64 x).toInt = x := by rw [t64, w64_id h.1 h.2]
theorem o32_w (x : Int) : o32 (w32 x) = o32 x := Int32.toInt_inj.mp (by rw [t32, t32, w32_id (w32_in x).1 (w32_in x).2])
theorem o64_w (x : Int) : o64 (w64 x) = o64 x := Int64.toInt_inj.mp (by rw [t64, t64, w64_id (w64_in x).1 (w64_in x).2])
theorem o32_t (x : Int32) : o32 x.toInt = x := Int32.ofInt_toInt x
theorem o64_t (x : Int64) : o64 x.toInt = x := Int64.ofInt_toInt x
theorem r32 (x : Int32) : InR x.toInt := ⟨x.le_toInt, x.toInt_lt⟩
theorem r64 (x : Int64) : InL x.toInt := ⟨x.le_toInt, x.toInt_lt⟩
/-! what the opcodes reckon -/
def aAdd (x y : Int) : Int := w32 (x + y)
def aSub (x y : Int) : Int := w32 (x - y)
def aMul (x y : Int) : Int := w32 (x * y)
def aNeg (x : Int) : Int := w32 (-x)
def aDiv (x y : Int) : Int := w32 (x.tdiv y)
def aRem (x y : Int) : Int := x.tmod y
def aAnd (x y : Int) : Int := (o32 x &&& o32 y).toInt
def aOr (x y : Int) : Int := (o32 x ||| o32 y).toInt
def aXor (x y : Int) : Int := (o32 x ^^^ o32 y).toInt
def aShl (x y : Int) : Int := (o32 x <<< (o32 y &&& 31)).toInt
def aShr (x y : Int) : Int := (o32 x >>> (o32 y &&& 31)).toInt
def aUshr (x y : Int) : Int := ((o32 x).toUInt32 >>> (o32 y &&& 31).toUInt32).toInt32.toInt
def lAdd (x y : Int) : Int := w64 (x + y)
def lSub (x y : Int) : Int := w64 (x - y)
def lMul (x y : Int) : Int := w64 (x * y)
def lDiv (x y : Int) : Int := w64 (x.tdiv y)
def lRem (x y : Int) : Int := x.tmod y
def lAnd (x y : Int) : Int := (o64 x &&& o64 y).toInt
def lOr (x y : Int) : Int := (o64 x ||| o64 y).toInt
def lXor (x y : Int) : Int := (o64 x ^^^ o64 y).toInt
def lShl (x y : Int) : Int := (o64 x <<< ((o32 y).toInt64 &&& 63)).toInt
def lShr (x y : Int) : Int := (o64 x >>> ((o32 y).toInt64 &&& 63)).toInt
def lUshr (x y : Int) : Int := ((o64 x).toUInt64 >>> ((o32 y).toInt64.toUInt64 &&& Int64.toUInt64 63)).toInt64.toInt
def lCmp (x y : Int) : Int := if x < y then -1 else if x = y then 0 else 1
def i2b (x : Int) : Int := (x + 128) % 256 - 128
def i2c (x : Int) : Int := x % 65536
def i2z (x : Int) : Int := x % 2
theorem e_add (x y : Int) : o32 (aAdd x y) = o32 x + o32 y := by unfold aAdd; rw [o32_w]; exact Int32.ofInt_add x y
theorem e_sub (x y : Int) : o32 (aSub x y) = o32 x - o32 y := by unfold aSub; rw [o32_w]; exact Int32.ofInt_sub x y
theorem e_mul (x y : Int) : o32 (aMul x y) = o32 x * o32 y := by unfold aMul; rw [o32_w]; exact Int32.ofInt_mul x y
theorem e_neg (x : Int) : o32 (aNeg x) = - o32 x := by unfold aNeg; rw [o32_w]; exact Int32.ofInt_neg x
theorem e_div {x y : Int} (hx : InR x) (hy : InR y) : o32 (aDiv x y) = o32 x / o32 y := by
  unfold aDiv; rw [o32_w]; apply Int32.toInt_inj.mp; rw [t32, Int32.toInt_div, t32i hx, t32i hy]; exact (bmod32 _).symm
theorem e_rem {x y : Int} (hx : InR x) (hy : InR y) : o32 (aRem x y) = o32 x % o32 y := by
  unfold aRem; apply Int32.toInt_inj.mp; rw [Int32.toInt_mod, t32i hx, t32i hy, t32]
  have q := r32 (o32 x % o32 y); rw [Int32.toInt_mod, t32i hx, t32i hy] at q; exact w32_id q.1 q.2
theorem in_rem {x y : Int} (hx : InR x) (hy : InR y) : InR (aRem x y) := by
  have q := r32 (o32 x % o32 y); rw [Int32.toInt_mod, t32i hx, t32i hy] at q; exact q
theorem e_ladd (x y : Int) : o64 (lAdd x y) = o64 x + o64 y := by unfold lAdd; rw [o64_w]; exact Int64.ofInt_add x y
theorem e_lsub (x y : Int) : o64 (lSub x y) = o64 x - o64 y := by unfold lSub; rw [o64_w]; exact Int64.ofInt_sub x y
theorem e_lmul (x y : Int) : o64 (lMul x y) = o64 x * o64 y := by unfold lMul; rw [o64_w]; exact Int64.ofInt_mul x y
theorem e_ldiv {x y : Int} (hx : InL x) (hy : InL y) : o64 (lDiv x y) = o64 x / o64 y := by
  unfold lDiv; rw [o64_w]; apply Int64.toInt_inj.mp; rw [t64, Int64.toInt_div, t64i hx, t64i hy]; exact (bmod64 _).symm
theorem e_lrem {x y : Int} (hx : InL x) (hy : InL y) : o64 (lRem x y) = o64 x % o64 y := by
  unfold lRem; apply Int64.toInt_inj.mp; rw [Int64.toInt_mod, t64i hx, t64i hy, t64]
  have q := r64 (o64 x % o64 y); rw [Int64.toInt_mod, t64i hx, t64i hy] at q; exact w64_id q.1 q.2
theorem in_lrem {x y : Int} (hx : InL x) (hy : InL y) : InL (lRem x y) := by
  have q := r64 (o64 x % o64 y); rw [Int64.toInt_mod, t64i hx, t64i hy] at q; exact q
theorem e_i2l {x : Int} (hx : InR x) : o64 x = (o32 x).toInt64 := by
  apply Int64.toInt_inj.mp; rw [Int32.toInt_toInt64, t32i hx, t64]; exact w64_id (by have := hx.1; omega) (by have := hx.2; omega)
theorem e_l2i {x : Int} (hx : InL x) : o32 (w32 x) = (o64 x).toInt32 := by
  apply Int32.toInt_inj.mp; rw [Int64.toInt_toInt32, t64i hx, t32, w32_id (w32_in x).1 (w32_in x).2]; exact (bmod32 x).symm
theorem e_i2b {x : Int} (hx : InR x) : o32 (i2b x) = (o32 x).toInt8.toInt32 := by
  apply Int32.toInt_inj.mp; rw [Int8.toInt_toInt32, Int32.toInt_toInt8, t32i hx, t32, w32_id (by unfold i2b; omega) (by unfold i2b; omega)]
  unfold i2b; show _ = x.bmod 256; rw [Int.bmod_def]; split <;> omega
theorem e_lcmp {x y : Int} (hx : InL x) (hy : InL y) : o32 (lCmp x y) = (if o64 y < o64 x then 1 else if o64 x = o64 y then 0 else -1 : Int32) := by
  have h1 : o64 y < o64 x ↔ y < x := by rw [Int64.lt_iff_toInt_lt, t64i hx, t64i hy]
  have h2 : o64 x = o64 y ↔ x = y := by rw [← Int64.toInt_inj, t64i hx, t64i hy]
  unfold lCmp
  by_cases a : x < y
  · rw [if_pos a, if_neg (by rw [h1]; omega), if_neg (by rw [h2]; omega)]; rfl
  · by_cases b : x = y
    · rw [if_neg a, if_pos b, if_neg (by rw [h1]; omega), if_pos (h2.mpr b)]; rfl
    · rw [if_neg a, if_neg b, if_pos (h1.mpr (by omega))]; rfl
theorem in_b (x : Int) : InR (i2b x) := by unfold InR i2b; omega
theorem in_c (x : Int) : InR (i2c x) := by unfold InR i2c; omega
theorem in_z (x : Int) : InR (i2z x) := by unfold InR i2z; omega
theorem in_cmp (x y : Int) : InR (lCmp x y) := by unfold InR lCmp; split <;> (try split) <;> omega
theorem e_i2c {x : Int} (hx : InR x) : o32 (i2c x) = (o32 x).toUInt32.toUInt16.toUInt32.toInt32 := by
  apply Int32.toInt_inj.mp
  have h1 : (o32 x).toUInt32.toUInt16.toUInt32.toInt32.toBitVec.toNat = (o32 x).toBitVec.toNat % 65536 := by
    show ((o32 x).toUInt32.toUInt16.toUInt32).toNat = _
    rw [UInt16.toNat_toUInt32, UInt32.toNat_toUInt16]; rfl
  have h2 := (o32 x).toBitVec.isLt
  have h3 : (o32 x).toBitVec.toInt = x := t32i hx
  rw [BitVec.toInt_eq_toNat_cond] at h3
  rw [t32, w32_id (in_c x).1 (in_c x).2]
  show i2c x = (o32 x).toUInt32.toUInt16.toUInt32.toInt32.toBitVec.toInt
  rw [BitVec.toInt_eq_toNat_cond, h1]; unfold i2c
  have h4 := hx.1
  have h5 := hx.2
  split at h3 <;> split <;> omega
theorem e_i2z {x : Int} (hx : InR x) : o32 (i2z x) = o32 x &&& 1 := by
  apply Int32.toInt_inj.mp
  have h2 := (o32 x).toBitVec.isLt
  have h3 : (o32 x).toBitVec.toInt = x := t32i hx
  have h1 : (o32 x &&& 1).toBitVec.toNat = (o32 x).toBitVec.toNat % 2 := by
    show ((o32 x).toBitVec &&& 1#32).toNat = _
    rw [BitVec.toNat_and]; exact Nat.and_one_is_mod _
  rw [BitVec.toInt_eq_toNat_cond] at h3
  rw [t32, w32_id (in_z x).1 (in_z x).2]
  show i2z x = (o32 x &&& 1).toBitVec.toInt
  rw [BitVec.toInt_eq_toNat_cond, h1]; unfold i2z
  have h4 := hx.1
  have h5 := hx.2
  split at h3 <;> split <;> omega
/-! values and frames -/
abbrev AV : Type := Sum Int (Sum Int Nat)
abbrev I (x : Int) : AV := .inl x
abbrev J (x : Int) : AV := .inr (.inl x)
abbrev Rf (n : Nat) : AV := .inr (.inr n)
def cval (cv : Nat → Addr) : AV → Value
  | .inl x => .int (o32 x)
  | .inr (.inl x) => .long (o64 x)
  | .inr (.inr n) => .ref (cv n)
def good : AV → Prop
  | .inl x => InR x
  | .inr (.inl x) => InL x
  | .inr (.inr _) => True
def SOk (S : List AV) : Prop := ∀ v ∈ S, good v
def WF (Ls : Array Slot) : Prop := (∀ i : Nat, Ls[i]? = some Slot.second → ∃ (j : Nat) (x : Value), i = j + 1 ∧ Ls[j]? = some (Slot.val x) ∧ x.category = 2) ∧ ∀ (i : Nat) (x : Value), Ls[i]? = some (Slot.val x) → x.category = 2 → Ls[i + 1]? = some Slot.second
def LRel (cv : Nat → Addr) (L : List (Option AV)) (Ls : Array Slot) : Prop := Ls.size = L.length ∧ WF Ls ∧ ∀ (i : Nat) (v : AV), L[i]? = some (some v) → Ls[i]? = some (Slot.val (cval cv v)) ∧ good v
/-- a store wipes a long that it cuts in two -/
def clr (L : List (Option AV)) : Nat → List (Option AV)
  | 0 => L
  | j + 1 => match L[j]? with
    | some (some (.inr (.inl _))) => L.set j none
    | _ => L
def st1 (L : List (Option AV)) (i : Nat) (v : AV) : List (Option AV) := (clr L i).set i (some v)
def st2 (L : List (Option AV)) (i : Nat) (v : AV) : List (Option AV) := ((clr L i).set i (some v)).set (i + 1) none
theorem cat_cval {cv : Nat → Addr} (v : AV) : (cval cv v).category = 2 ↔ ∃ x, v = J x := by
  rcases v with x | x | n <;> simp [cval, Value.category]
theorem clr_len (L : List (Option AV)) (i : Nat) : (clr L i).length = L.length := by
  cases i <;> simp [clr]; split <;> simp
theorem clr_get {L : List (Option AV)} {i k : Nat} {v : AV} (h : (clr L i)[k]? = some (some v)) : L[k]? = some (some v) ∧ ((∃ x, v = J x) → k + 1 ≠ i) := by
  cases i with
  | zero => exact ⟨h, fun _ => by omega⟩
  | succ j =>
    simp only [clr] at h
    split at h
    · rename_i x hx
      rw [List.getElem?_set] at h
      split at h
      · split at h <;> simp at h
      · exact ⟨h, fun _ q => by omega⟩
    · rename_i hx
      refine ⟨h, fun ⟨x, hv⟩ q => ?_⟩
      have : k = j := by omega
      subst this; subst hv
      exact hx x h
theorem WF.tab {Ls : Array Slot} (h : WF Ls) {i : Nat} {x : Value} (hx : Ls[i]? = some (.val x)) (hc : x.category = 2) : Ls[i + 1]? = some .second := h.2 i x hx hc
theorem store_one {cv : Nat → Addr} {L : List (Option AV)} {Ls : Array Slot} (h : LRel cv L Ls) {i : Nat} (hi : i < L.length) {v : AV} (hg : good v) (hv : ∀ x, v ≠ J x) :
    ∃ Ls', storeLocals Ls i (cval cv v) = some Ls' ∧ LRel cv (st1 L i v) Ls' := by
  obtain ⟨hs, ⟨w1, w2⟩, hr⟩ := h
  have hi' : i < Ls.size := by omega
  have hcat : ¬ (cval cv v).category = 2 := fun q => by obtain ⟨x, e⟩ := (cat_cval v).mp q; exact hv x e
  have key : ∀ (Lm : Array Slot), Lm.size = Ls.size → (∀ (k : Nat) (x : Value), k ≠ i → Lm[k]? = some (Slot.val x) → Ls[k]? = some (Slot.val x)) → (∀ k : Nat, k ≠ i → Lm[k]? = some Slot.second → Ls[k]? = some Slot.second) →
      (∀ (k : Nat) (x : Value), k ≠ i → Ls[k]? = some (Slot.val x) → (x.category = 2 → k + 1 ≠ i) → Lm[k]? = some (Slot.val x)) → (∀ x : Value, Ls[i]? = some (Slot.val x) → x.category = 2 → Lm[i + 1]? ≠ some Slot.second) → (∀ (j : Nat) (x : Value), i = j + 1 → Ls[j]? = some (Slot.val x) → x.category = 2 → Lm[j]? ≠ some (Slot.val x)) →
      (∀ (k : Nat) (x : Value), k ≠ i → k + 1 ≠ i → Lm[k]? = some (Slot.val x) → x.category = 2 → Lm[k + 1]? = some Slot.second) →
      ∃ Ls', storeSelf Lm i (cval cv v) = some Ls' ∧ LRel cv (st1 L i v) Ls' := by
    intro Lm hsz c1 c2 c3 c4 c5 c6
    have him : i < Lm.size := by omega
    refine ⟨Lm.setIfInBounds i (.val (cval cv v)), by simp [storeSelf, setAt, him, hcat], by simp [st1, clr_len]; omega, ⟨fun k hk => ?_, fun k x hk hx => ?_⟩, fun k u hu => ?_⟩
    · by_cases e : k = i
      · subst e; rw [Array.getElem?_setIfInBounds_self_of_lt him] at hk; simp at hk
      · rw [Array.getElem?_setIfInBounds_ne (Ne.symm e)] at hk
        obtain ⟨j, x, e1, e2, e3⟩ := w1 k (c2 k e hk)
        by_cases ej : j = i
        · subst ej; subst e1; exact absurd hk (c4 x e2 e3)
        · exact ⟨j, x, e1, by rw [Array.getElem?_setIfInBounds_ne (Ne.symm ej)]; exact c3 j x ej e2 (fun _ => by omega), e3⟩
    · by_cases e : k = i
      · subst e; rw [Array.getElem?_setIfInBounds_self_of_lt him] at hk; simp at hk; subst hk; exact absurd hx hcat
      · rw [Array.getElem?_setIfInBounds_ne (Ne.symm e)] at hk
        by_cases e1 : k + 1 = i
        · exact absurd hk (c5 k x e1.symm (c1 k x e hk) hx)
        · rw [Array.getElem?_setIfInBounds_ne (fun q => e1 q.symm)]; exact c6 k x e e1 hk hx
    · simp only [st1, List.getElem?_set] at hu
      split at hu
      · rename_i e
        subst e
        split at hu
        · simp at hu; subst hu; exact ⟨by rw [Array.getElem?_setIfInBounds_self_of_lt him], hg⟩
        · simp at hu
      · rename_i e
        obtain ⟨q1, q2⟩ := clr_get hu
        obtain ⟨q3, q4⟩ := hr k u q1
        refine ⟨?_, q4⟩
        rw [Array.getElem?_setIfInBounds_ne e]
        exact c3 k _ (fun q => e q.symm) q3 (fun hc => q2 ((cat_cval u).mp hc))
  have hget : Ls[i]? = some Ls[i] := Array.getElem?_eq_getElem hi'
  cases hsl : Ls[i] with
  | unset =>
    rw [hsl] at hget
    obtain ⟨Ls', e1, e2⟩ := key Ls rfl (fun _ _ _ q => q) (fun _ _ q => q) (fun _ _ _ q _ => q) (fun x q => by rw [hget] at q; simp at q) (fun j x e q1 q2 q3 => by subst e; have := w2 j x q1 q2; rw [hget] at this; simp at this) (fun k x _ _ q1 q2 => w2 k x q1 q2)
    exact ⟨Ls', by simp [storeLocals, hget, e1], e2⟩
  | second =>
    rw [hsl] at hget
    obtain ⟨j, x, e, q1, q2⟩ := w1 i hget
    subst e
    have hj : j < Ls.size := by omega
    obtain ⟨Ls', e1, e2⟩ := key (Ls.setIfInBounds j .unset) (by simp) (fun k y hk q => by
        by_cases e : k = j
        · subst e; rw [Array.getElem?_setIfInBounds_self_of_lt hj] at q; simp at q
        · rwa [Array.getElem?_setIfInBounds_ne (Ne.symm e)] at q) (fun k hk q => by
        by_cases e : k = j
        · subst e; rw [Array.getElem?_setIfInBounds_self_of_lt hj] at q; simp at q
        · rwa [Array.getElem?_setIfInBounds_ne (Ne.symm e)] at q) (fun k y hk q hc => by
        by_cases e : k = j
        · subst e; rw [q1] at q; cases q; exact absurd rfl (hc q2)
        · rwa [Array.getElem?_setIfInBounds_ne (Ne.symm e)]) (fun y q => by rw [hget] at q; simp at q) (fun j' y e q q' => by
        have : j' = j := by omega
        subst this
        rw [Array.getElem?_setIfInBounds_self_of_lt hj]; simp) (fun k y hk hk1 q hc => by
        have e : k ≠ j := fun e => hk1 (by omega)
        rw [Array.getElem?_setIfInBounds_ne (Ne.symm e)] at q
        have := w2 k y q hc
        by_cases e2 : k + 1 = j
        · rw [e2, q1] at this; simp at this
        · rwa [Array.getElem?_setIfInBounds_ne (fun q => e2 q.symm)])
    exact ⟨Ls', by simp [storeLocals, hget, setAt, hj, e1], e2⟩
  | val old =>
    rw [hsl] at hget
    by_cases ho : old.category = 2
    · have hs2 := w2 i old hget ho
      have hi1 : i + 1 < Ls.size := (Array.getElem?_eq_some_iff.mp hs2).1
      obtain ⟨Ls', e1, e2⟩ := key (Ls.setIfInBounds (i + 1) .unset) (by simp) (fun k y hk q => by
          by_cases e : k = i + 1
          · subst e; rw [Array.getElem?_setIfInBounds_self_of_lt hi1] at q; simp at q
          · rwa [Array.getElem?_setIfInBounds_ne (Ne.symm e)] at q) (fun k hk q => by
          by_cases e : k = i + 1
          · subst e; rw [Array.getElem?_setIfInBounds_self_of_lt hi1] at q; simp at q
          · rwa [Array.getElem?_setIfInBounds_ne (Ne.symm e)] at q) (fun k y hk q hc => by
          by_cases e : k = i + 1
          · subst e; rw [hs2] at q; simp at q
          · rwa [Array.getElem?_setIfInBounds_ne (Ne.symm e)]) (fun y q _ => by rw [Array.getElem?_setIfInBounds_self_of_lt hi1]; simp) (fun j y e q1 q2 => by
          subst e; have := w2 j y q1 q2; rw [hget] at this; simp at this) (fun k y hk hk1 q hc => by
          by_cases e : k = i + 1
          · subst e; rw [Array.getElem?_setIfInBounds_self_of_lt hi1] at q; simp at q
          · rw [Array.getElem?_setIfInBounds_ne (Ne.symm e)] at q
            have := w2 k y q hc
            rwa [Array.getElem?_setIfInBounds_ne (by omega)])
      exact ⟨Ls', by simp [storeLocals, hget, setAt, hi1, ho, e1], e2⟩
    · obtain ⟨Ls', e1, e2⟩ := key Ls rfl (fun _ _ _ q => q) (fun _ _ q => q) (fun _ _ _ q _ => q) (fun x q hc => by rw [hget] at q; cases q; exact absurd hc ho) (fun j x e q1 q2 q3 => by subst e; have := w2 j x q1 q2; rw [hget] at this; simp at this) (fun k x _ _ q1 q2 => w2 k x q1 q2)
      exact ⟨Ls', by simp [storeLocals, hget, ho, e1], e2⟩
theorem store_two {cv : Nat → Addr} {L : List (Option AV)} {Ls : Array Slot} (h : LRel cv L Ls) {i : Nat} (hi : i + 1 < L.length) {x0 : Int} (hg : InL x0) :
    ∃ Ls', storeLocals Ls i (cval cv (J x0)) = some Ls' ∧ LRel cv (st2 L i (J x0)) Ls' := by
  obtain ⟨hs, ⟨w1, w2⟩, hr⟩ := h
  have hi1 : i + 1 < Ls.size := by omega
  have hi' : i < Ls.size := by omega
  have key : ∀ (E : Array Slot), E.size = Ls.size → E[i]? = some (Slot.val (cval cv (J x0))) → E[i + 1]? = some Slot.second → (∀ k : Nat, k ≠ i → k ≠ i + 1 → E[k]? = Ls[k]? ∨ E[k]? = some Slot.unset) →
      (∀ (k : Nat) (x : Value), k ≠ i → k ≠ i + 1 → Ls[k]? = some (Slot.val x) → (x.category = 2 → k + 1 ≠ i) → E[k]? = some (Slot.val x)) → (∀ (k : Nat) (x : Value), k + 1 = i → Ls[k]? = some (Slot.val x) → x.category = 2 → E[k]? = some Slot.unset) →
      (Ls[i + 2]? = some Slot.second → E[i + 2]? = some Slot.unset) → (∀ k : Nat, k ≠ i → k ≠ i + 1 → k ≠ i + 2 → Ls[k]? = some Slot.second → E[k]? = some Slot.second) → LRel cv (st2 L i (J x0)) E := by
    intro E hE a b c d e f g
    refine ⟨by simp [st2, clr_len]; omega, ⟨fun k hk => ?_, fun k x hk hx => ?_⟩, fun k u hu => ?_⟩
    · by_cases e1 : k = i + 1
      · exact ⟨i, _, e1, a, rfl⟩
      · by_cases e2 : k = i
        · subst e2; rw [a] at hk; simp at hk
        · have q : Ls[k]? = some Slot.second := by
            rcases c k e2 e1 with q | q
            · rw [← q]; exact hk
            · rw [q] at hk; simp at hk
          obtain ⟨j, x, q1, q2, q3⟩ := w1 k q
          have e3 : k ≠ i + 2 := fun z => by subst z; rw [f q] at hk; simp at hk
          exact ⟨j, x, q1, d j x (by omega) (by omega) q2 (fun _ => by omega), q3⟩
    · by_cases e1 : k = i
      · subst e1; exact b
      · by_cases e2 : k = i + 1
        · subst e2; rw [b] at hk; simp at hk
        · have q : Ls[k]? = some (Slot.val x) := by
            rcases c k e1 e2 with q | q
            · rw [← q]; exact hk
            · rw [q] at hk; simp at hk
          have e3 : k + 1 ≠ i := fun z => by rw [e k x z q hx] at hk; simp at hk
          exact g (k + 1) e3 (by omega) (by omega) (w2 k x q hx)
    · simp only [st2, List.getElem?_set, List.length_set, clr_len] at hu
      split at hu
      · simp at hu
      · rename_i e1
        split at hu
        · rename_i e2
          subst e2
          split at hu
          · simp at hu; subst hu; exact ⟨a, hg⟩
          · simp at hu
        · rename_i e2
          obtain ⟨q1, q2⟩ := clr_get hu
          obtain ⟨q3, q4⟩ := hr k u q1
          exact ⟨d k _ (fun q => e2 q.symm) (fun q => e1 q.symm) q3 (fun hc => q2 ((cat_cval u).mp hc)), q4⟩
  have self : ∀ (Lm : Array Slot), Lm.size = Ls.size → (∀ k : Nat, k ≠ i → k + 1 ≠ i → k ≠ i + 1 → Lm[k]? = Ls[k]?) → (Lm[i + 1]? = Ls[i + 1]? ∨ (Lm[i + 1]? = some Slot.unset ∧ Ls[i + 1]? = some Slot.second)) →
      (∀ k : Nat, k + 1 = i → (∀ x : Value, Ls[k]? = some (Slot.val x) → x.category = 2 → Lm[k]? = some Slot.unset) ∧ (Lm[k]? = Ls[k]? ∨ (Lm[k]? = some Slot.unset ∧ ∃ x : Value, Ls[k]? = some (Slot.val x) ∧ x.category = 2))) →
      ∃ Ls', storeSelf Lm i (cval cv (J x0)) = some Ls' ∧ LRel cv (st2 L i (J x0)) Ls' := by
    intro Lm hsz c1 c2 c3
    have him : i < Lm.size := by omega
    have him1 : i + 1 < Lm.size := by omega
    have hcat : (cval cv (J x0)).category = 2 := rfl
    have hg1 : (Lm.setIfInBounds i (Slot.val (cval cv (J x0))))[i + 1]? = Lm[i + 1]? := Array.getElem?_setIfInBounds_ne (by omega)
    have fin : ∀ (E : Array Slot), E.size = Ls.size → E[i]? = some (Slot.val (cval cv (J x0))) → E[i + 1]? = some Slot.second → (∀ k : Nat, k ≠ i → k ≠ i + 1 → k ≠ i + 2 → E[k]? = Lm[k]?) → (E[i + 2]? = Lm[i + 2]? ∧ (∀ x : Value, Lm[i + 1]? = some (Slot.val x) → x.category ≠ 2) ∨ E[i + 2]? = some Slot.unset ∧ Lm[i + 2]? = some Slot.second) → LRel cv (st2 L i (J x0)) E := by
      intro E hE a b c4 c5
      refine key E hE a b (fun k h1 h2 => ?_) (fun k x h1 h2 h3 h4 => ?_) (fun k x h1 h2 h3 => ?_) (fun h1 => ?_) (fun k h1 h2 h3 h4 => ?_)
      · by_cases e : k = i + 2
        · subst e
          have q := c1 (i + 2) h1 (by omega) h2
          rcases c5 with ⟨c5, -⟩ | ⟨c5, -⟩
          · exact Or.inl (c5.trans q)
          · exact Or.inr c5
        · rw [c4 k h1 h2 e]
          by_cases e3 : k + 1 = i
          · rcases (c3 k e3).2 with q | q
            · exact Or.inl q
            · exact Or.inr q.1
          · exact Or.inl (c1 k h1 e3 h2)
      · by_cases e : k = i + 2
        · subst e
          have q := c1 (i + 2) h1 (by omega) h2
          rcases c5 with ⟨c5, -⟩ | ⟨-, c5⟩
          · rw [c5, q]; exact h3
          · rw [q, h3] at c5; simp at c5
        · rw [c4 k h1 h2 e]
          by_cases e3 : k + 1 = i
          · rcases (c3 k e3).2 with q | ⟨-, y, q1, q2⟩
            · rw [q]; exact h3
            · rw [h3] at q1; cases q1; exact absurd e3 (h4 q2)
          · rw [c1 k h1 e3 h2]; exact h3
      · rw [c4 k (by omega) (by omega) (by omega)]; exact (c3 k h1).1 x h2 h3
      · rcases c5 with ⟨c5, c6⟩ | ⟨c5, -⟩
        · obtain ⟨j, y, q1, q2, q3⟩ := w1 (i + 2) h1
          have : j = i + 1 := by omega
          subst this
          rcases c2 with c2 | ⟨-, c2⟩
          · exact absurd q3 (c6 y (c2.trans q2))
          · rw [q2] at c2; simp at c2
        · exact c5
      · rw [c4 k h1 h2 h3]
        by_cases e3 : k + 1 = i
        · rcases (c3 k e3).2 with q | ⟨-, y, q1, q2⟩
          · rw [q]; exact h4
          · rw [h4] at q1; simp at q1
        · rw [c1 k h1 e3 h2]; exact h4
    have hget : Lm[i + 1]? = some Lm[i + 1] := Array.getElem?_eq_getElem him1
    have plain : (∀ x : Value, Lm[i + 1]? = some (Slot.val x) → x.category ≠ 2) → LRel cv (st2 L i (J x0)) ((Lm.setIfInBounds i (Slot.val (cval cv (J x0)))).setIfInBounds (i + 1) Slot.second) := fun hno =>
      fin _ (by simp; omega) (by rw [Array.getElem?_setIfInBounds_ne (by omega), Array.getElem?_setIfInBounds_self_of_lt him]) (by rw [Array.getElem?_setIfInBounds_self_of_lt (by simp; omega)]) (fun k h1 h2 h3 => by rw [Array.getElem?_setIfInBounds_ne (by omega), Array.getElem?_setIfInBounds_ne (by omega)]) (Or.inl ⟨by rw [Array.getElem?_setIfInBounds_ne (by omega), Array.getElem?_setIfInBounds_ne (by omega)], hno⟩)
    have e0 : ∀ y, storeSelf Lm i (cval cv (J x0)) = some y ↔ (match Lm[i + 1] with
      | .val old => if old.category = 2 then (setAt (Lm.setIfInBounds i (Slot.val (cval cv (J x0)))) (i + 2) .unset).bind fun z => setAt z (i + 1) .second else setAt (Lm.setIfInBounds i (Slot.val (cval cv (J x0)))) (i + 1) .second
      | _ => setAt (Lm.setIfInBounds i (Slot.val (cval cv (J x0)))) (i + 1) .second) = some y := by
      intro y
      simp only [storeSelf, setAt, him, if_true, Option.bind_eq_bind, Option.bind_some, hcat, hg1, hget]
      cases Lm[i + 1] <;> simp
    cases hsl : Lm[i + 1] with
    | unset =>
      rw [hsl] at hget
      exact ⟨_, (e0 _).mpr (by rw [hsl]; simp [setAt, him1]), plain (fun x q => by rw [hget] at q; simp at q)⟩
    | second =>
      rw [hsl] at hget
      exact ⟨_, (e0 _).mpr (by rw [hsl]; simp [setAt, him1]), plain (fun x q => by rw [hget] at q; simp at q)⟩
    | val old =>
      rw [hsl] at hget
      by_cases ho : old.category = 2
      · have q : Ls[i + 1]? = some (Slot.val old) := by
          rcases c2 with c2 | ⟨c2, -⟩
          · rw [← c2]; exact hget
          · rw [hget] at c2; simp at c2
        have q2 := w2 (i + 1) old q ho
        have hi2 : i + 2 < Ls.size := (Array.getElem?_eq_some_iff.mp q2).1
        have q3 : Lm[i + 2]? = some Slot.second := by rw [c1 (i + 2) (by omega) (by omega) (by omega)]; exact q2
        refine ⟨((Lm.setIfInBounds i (Slot.val (cval cv (J x0)))).setIfInBounds (i + 2) Slot.unset).setIfInBounds (i + 1) Slot.second, (e0 _).mpr (by rw [hsl]; simp [ho, setAt, show i + 2 < Lm.size by omega, him1]), ?_⟩
        exact fin _ (by simp; omega) (by rw [Array.getElem?_setIfInBounds_ne (by omega), Array.getElem?_setIfInBounds_ne (by omega), Array.getElem?_setIfInBounds_self_of_lt him]) (by rw [Array.getElem?_setIfInBounds_self_of_lt (by simp; omega)]) (fun k h1 h2 h3 => by rw [Array.getElem?_setIfInBounds_ne (by omega), Array.getElem?_setIfInBounds_ne (by omega), Array.getElem?_setIfInBounds_ne (by omega)])
          (Or.inr ⟨by rw [Array.getElem?_setIfInBounds_ne (by omega), Array.getElem?_setIfInBounds_self_of_lt (by simp; omega)], q3⟩)
      · exact ⟨_, (e0 _).mpr (by rw [hsl]; simp [ho, setAt, him1]), plain (fun x q => by rw [hget] at q; cases q; exact ho)⟩
  have hget : Ls[i]? = some Ls[i] := Array.getElem?_eq_getElem hi'
  cases hsl : Ls[i] with
  | unset =>
    rw [hsl] at hget
    obtain ⟨Ls', e1, e2⟩ := self Ls rfl (fun _ _ _ _ => rfl) (Or.inl rfl) (fun k hk => ⟨fun x q1 q2 => by subst hk; have := w2 k x q1 q2; rw [hget] at this; simp at this, Or.inl rfl⟩)
    exact ⟨Ls', by simp [storeLocals, hget, e1], e2⟩
  | second =>
    rw [hsl] at hget
    obtain ⟨j, x, e, q1, q2⟩ := w1 i hget
    subst e
    have hj : j < Ls.size := by omega
    obtain ⟨Ls', e1, e2⟩ := self (Ls.setIfInBounds j .unset) (by simp) (fun k h1 h2 h3 => Array.getElem?_setIfInBounds_ne (by omega)) (Or.inl (Array.getElem?_setIfInBounds_ne (by omega))) (fun k hk => by
      have : k = j := by omega
      subst this
      rw [Array.getElem?_setIfInBounds_self_of_lt hj]
      exact ⟨fun _ _ _ => rfl, Or.inr ⟨rfl, x, q1, q2⟩⟩)
    exact ⟨Ls', by simp [storeLocals, hget, setAt, hj, e1], e2⟩
  | val old =>
    rw [hsl] at hget
    have nosec : ∀ k : Nat, k + 1 = i → ∀ x : Value, Ls[k]? = some (Slot.val x) → x.category ≠ 2 := fun k hk x q1 q2 => by subst hk; have := w2 k x q1 q2; rw [hget] at this; simp at this
    by_cases ho : old.category = 2
    · have hs2 := w2 i old hget ho
      obtain ⟨Ls', e1, e2⟩ := self (Ls.setIfInBounds (i + 1) .unset) (by simp) (fun k h1 h2 h3 => Array.getElem?_setIfInBounds_ne (by omega)) (Or.inr ⟨Array.getElem?_setIfInBounds_self_of_lt hi1, hs2⟩) (fun k hk => ⟨fun x q1 q2 => absurd q2 (nosec k hk x q1), Or.inl (Array.getElem?_setIfInBounds_ne (by omega))⟩)
      exact ⟨Ls', by simp [storeLocals, hget, setAt, hi1, ho, e1], e2⟩
    · obtain ⟨Ls', e1, e2⟩ := self Ls rfl (fun _ _ _ _ => rfl) (Or.inl rfl) (fun k hk => ⟨fun x q1 q2 => absurd q2 (nosec k hk x q1), Or.inl rfl⟩)
      exact ⟨Ls', by simp [storeLocals, hget, ho, e1], e2⟩
/-! the frame at the entry -/
def spread : List AV → List (Option AV)
  | [] => []
  | .inr (.inl x) :: r => some (J x) :: none :: spread r
  | v :: r => some v :: spread r
def entry (args : List AV) (mx : Nat) : List (Option AV) := spread args ++ List.replicate (mx - (spread args).length) none
def spreadS : List Value → List Slot
  | [] => []
  | v :: r => if v.category = 2 then .val v :: .second :: spreadS r else .val v :: spreadS r
theorem argsTo_eq (vs : List Value) (mx : Nat) : argsToLocals vs.toArray mx = (spreadS vs ++ List.replicate (mx - (spreadS vs).length) Slot.unset).toArray := by
  have h : ∀ (vs : List Value) (acc : Array Slot), vs.foldl (fun acc v => if v.category = 2 then (acc.push (.val v)).push .second else acc.push (.val v)) acc = acc ++ (spreadS vs).toArray := by
    intro vs
    induction vs with
    | nil => intro acc; simp [spreadS]
    | cons v r ih =>
      intro acc
      rw [List.foldl_cons, ih]
      simp only [spreadS]
      split <;> simp
  unfold argsToLocals
  rw [List.foldl_toArray, h]
  apply Array.ext'
  simp
theorem spread_len (cv : Nat → Addr) (args : List AV) : (spreadS (args.map (cval cv))).length = (spread args).length := by
  induction args with
  | nil => rfl
  | cons v r ih => rcases v with x | x | n <;> simp [spread, spreadS, cval, Value.category, ih]
theorem spread_rel (cv : Nat → Addr) : ∀ (args : List AV), (∀ v ∈ args, good v) → ∀ (tl : List Slot), (∀ s ∈ tl, s = Slot.unset) →
    (∀ i : Nat, (spreadS (args.map (cval cv)) ++ tl)[i]? = some Slot.second → ∃ (j : Nat) (x : Value), i = j + 1 ∧ (spreadS (args.map (cval cv)) ++ tl)[j]? = some (Slot.val x) ∧ x.category = 2) ∧
    (∀ (i : Nat) (x : Value), (spreadS (args.map (cval cv)) ++ tl)[i]? = some (Slot.val x) → x.category = 2 → (spreadS (args.map (cval cv)) ++ tl)[i + 1]? = some Slot.second) ∧
    ∀ (i : Nat) (v : AV) (tn : List (Option AV)), (∀ s ∈ tn, s = none) → (spread args ++ tn)[i]? = some (some v) → (spreadS (args.map (cval cv)) ++ tl)[i]? = some (Slot.val (cval cv v)) ∧ good v
  | [], _, tl, ht => by
    refine ⟨fun i h => ?_, fun i x h => ?_, fun i v tn hn h => ?_⟩
    · have := ht _ (List.mem_of_getElem? h); simp at this
    · have := ht _ (List.mem_of_getElem? h); simp at this
    · have := hn _ (List.mem_of_getElem? h); simp at this
  | v :: r, hg, tl, ht => by
    obtain ⟨h1, h2, h3⟩ := spread_rel cv r (fun v hv => hg v (List.mem_cons_of_mem _ hv)) tl ht
    have hv := hg v (List.mem_cons_self ..)
    rcases v with x | x | n
    · refine ⟨fun i h => ?_, fun i y h hc => ?_, fun i u tn hn h => ?_⟩
      · cases i with
        | zero => simp [spreadS, cval, Value.category] at h
        | succ i => simp [spreadS, cval, Value.category] at h; obtain ⟨j, y, e1, e2, e3⟩ := h1 i (by simpa using h); exact ⟨j + 1, y, by omega, by simpa [spreadS, cval, Value.category] using e2, e3⟩
      · cases i with
        | zero => simp [spreadS, cval, Value.category] at h; subst h; simp [Value.category] at hc
        | succ i => simp [spreadS, cval, Value.category] at h; simpa [spreadS, cval, Value.category] using h2 i y (by simpa using h) hc
      · cases i with
        | zero => simp [spread] at h; subst h; exact ⟨by simp [spreadS, cval, Value.category], hv⟩
        | succ i => simp [spread] at h; obtain ⟨e1, e2⟩ := h3 i u tn hn (by simpa using h); exact ⟨by simpa [spreadS, cval, Value.category] using e1, e2⟩
    · refine ⟨fun i h => ?_, fun i y h hc => ?_, fun i u tn hn h => ?_⟩
      · match i, h with
        | 0, h => simp [spreadS, cval, Value.category] at h
        | 1, h => exact ⟨0, .long (o64 x), rfl, by simp [spreadS, cval, Value.category], rfl⟩
        | i + 2, h => simp [spreadS, cval, Value.category] at h; obtain ⟨j, y, e1, e2, e3⟩ := h1 i (by simpa using h); exact ⟨j + 2, y, by omega, by simpa [spreadS, cval, Value.category] using e2, e3⟩
      · match i, h with
        | 0, h => simp [spreadS, cval, Value.category]
        | 1, h => simp [spreadS, cval, Value.category] at h
        | i + 2, h => simp [spreadS, cval, Value.category] at h; simpa [spreadS, cval, Value.category] using h2 i y (by simpa using h) hc
      · match i, h with
        | 0, h => simp [spread] at h; subst h; exact ⟨by simp [spreadS, cval, Value.category], hv⟩
        | 1, h => simp [spread] at h
        | i + 2, h => simp [spread] at h; obtain ⟨e1, e2⟩ := h3 i u tn hn (by simpa using h); exact ⟨by simpa [spreadS, cval, Value.category] using e1, e2⟩
    · refine ⟨fun i h => ?_, fun i y h hc => ?_, fun i u tn hn h => ?_⟩
      · cases i with
        | zero => simp [spreadS, cval, Value.category] at h
        | succ i => simp [spreadS, cval, Value.category] at h; obtain ⟨j, y, e1, e2, e3⟩ := h1 i (by simpa using h); exact ⟨j + 1, y, by omega, by simpa [spreadS, cval, Value.category] using e2, e3⟩
      · cases i with
        | zero => simp [spreadS, cval, Value.category] at h; subst h; simp [Value.category] at hc
        | succ i => simp [spreadS, cval, Value.category] at h; simpa [spreadS, cval, Value.category] using h2 i y (by simpa using h) hc
      · cases i with
        | zero => simp [spread] at h; subst h; exact ⟨by simp [spreadS, cval, Value.category], hv⟩
        | succ i => simp [spread] at h; obtain ⟨e1, e2⟩ := h3 i u tn hn (by simpa using h); exact ⟨by simpa [spreadS, cval, Value.category] using e1, e2⟩
theorem entry_rel (cv : Nat → Addr) {args : List AV} {mx : Nat} (hg : ∀ v ∈ args, good v) (hm : (spread args).length ≤ mx) : LRel cv (entry args mx) (argsToLocals (args.map (cval cv)).toArray mx) := by
  rw [argsTo_eq]
  obtain ⟨h1, h2, h3⟩ := spread_rel cv args hg (List.replicate (mx - (spreadS (args.map (cval cv))).length) Slot.unset) (fun s hs => (List.mem_replicate.mp hs).2)
  refine ⟨by simp [entry, spread_len], ⟨fun i h => ?_, fun i x h hc => ?_⟩, fun i v h => ?_⟩
  · obtain ⟨j, x, e1, e2, e3⟩ := h1 i (by simpa using h); exact ⟨j, x, e1, by simpa using e2, e3⟩
  · simpa using h2 i x (by simpa using h) hc
  · simpa using h3 i v _ (fun s hs => (List.mem_replicate.mp hs).2) h
/-! the judgement: from here the method returns, as the plain function says -/
abbrev Mi : Type := MethodName × ByteArray × Nat × Option FieldType × Nat × Nat
abbrev Cx (μ : Type) : Type := Launch × State × Nat × (Nat → Addr) × (μ → Heap → Prop)
abbrev Cx.cv {μ : Type} (X : Cx μ) : Nat → Addr := X.2.2.2.1
abbrev Cx.rep {μ : Type} (X : Cx μ) : μ → Heap → Prop := X.2.2.2.2
def rval (rt : Option FieldType) (z : Int) : Option AV := match rt with
  | none => none
  | some .long => some (J z)
  | some _ => some (I z)
def Goes {μ : Type} (X : Cx μ) (M : Mi) (kc ks : Nat) (pc : Nat) (L : List (Option AV)) (S : List AV) (σ : μ) (v : Option AV) (σ' : μ) : Prop :=
  ∀ (p : Program) (e : Env) (R : Room) (s : State) (m : MethodId) (args : Array Value) (below : List Frame) (meth : Method) (c : Code) (T : State) (locs : List Loc) (cells slots : Nat) (Ls : Array Slot),
    Stand p X.1 e R s m args below meth c T locs cells slots → p.tables.exec = Jvm.exec → X.2.1.Warmed39 s.vm → s.vm.findClass M.1.cls = some m.cls → meth.name = M.1.name → c.code = M.2.1 → c.maxLocals = M.2.2.1 → meth.sig.returnType = M.2.2.2.1 →
    M.2.2.2.2.1 ≤ R.frames → M.2.2.2.2.2 ≤ R.locals → cells + kc ≤ R.cells → slots + ks ≤ R.slots → X.rep σ T.heap → LRel X.cv L Ls → SOk S → L.length = M.2.2.1 → Fr X.2.2.1 locs →
    ∃ (T' : State) (locs' : List Loc), Stand p X.1 e R s m args below meth c T' locs' (cells + kc) (slots + ks) ∧ X.rep σ' T'.heap ∧ Fr X.2.2.1 locs' ∧ (M.2.2.2.1 = none → v = none) ∧ (∀ w, v = some w → good w) ∧
      ∀ fs, (∀ (f : JFrame) (acts : List Action), f.method = m → f.locked = none → f.entered = [] → (doReturn e (T'.setTop f) acts (v.map (cval X.cv))).1 = T'.setFrames fs) →
        Steps p.tables e below (T.setTop (mkF m pc Ls (S.map (cval X.cv)))) (T'.setFrames fs)
def GQ {μ : Type} (X : Cx μ) (M : Mi) (kc ks : Nat) (pc : Nat) (L : List (Option AV)) (S : List AV) (σ : μ) (o : Option (Int × μ)) : Prop :=
  ∀ z σ', o = some (z, σ') → Goes X M kc ks pc L S σ (rval M.2.2.2.1 z) σ'
/-! how a plain function goes on behind a step that may fail -/
def cB {μ : Type} (q : Option (Int × μ)) (f : Int → μ → Option (Int × μ)) : Option (Int × μ) := match q with
  | none => none
  | some r => f r.1 r.2
def lB {α β : Type} (x : α) (f : α → β) : β := f x
def dB {α : Type} (y : Int) (q : Option α) : Option α := if y = 0 then none else q
theorem cB_some {μ : Type} (z : Int) (σ : μ) (f : Int → μ → Option (Int × μ)) : cB (some (z, σ)) f = f z σ := rfl
theorem cB_none {μ : Type} (f : Int → μ → Option (Int × μ)) : cB (none : Option (Int × μ)) f = none := rfl
theorem lB_eq {α β : Type} (x : α) (f : α → β) : lB x f = f x := rfl
section Rules
variable {μ : Type} {X : Cx μ} {M : Mi} {kc ks pc pc' : Nat} {L L' : List (Option AV)} {S S' : List AV} {σ : μ} {o oT oF : Option (Int × μ)} {x y : Int}
theorem SOk.cons {v : AV} (h : good v) (hS : SOk S) : SOk (v :: S) := fun w hw => (List.mem_cons.mp hw).elim (fun q => q ▸ h) (hS w)
theorem SOk.tl {v : AV} (hS : SOk (v :: S)) : SOk S := fun w hw => hS w (List.mem_cons_of_mem _ hw)
theorem SOk.hd {v : AV} (hS : SOk (v :: S)) : good v := hS v (List.mem_cons_self ..)
theorem SOk.hd2 {u v : AV} (hS : SOk (u :: v :: S)) : good v := hS.tl.hd
theorem st1_len (L : List (Option AV)) (i : Nat) (v : AV) : (st1 L i v).length = L.length := by simp [st1, clr_len]
theorem st2_len (L : List (Option AV)) (i : Nat) (v : AV) : (st2 L i v).length = L.length := by simp [st2, clr_len]
theorem GQ.no : GQ X M kc ks pc L S σ none := fun _ _ h => nomatch h
theorem GQ.plain (nx : GQ X M kc ks pc' L' S' σ o) (hlen : L'.length = L.length)
    (h : ∀ {tb : Tables} [Ours tb] {e : Env} {below : List Frame} {T : State} {m : MethodId} {c : Code} {Ls : Array Slot}, At T m c below → tb.exec = Jvm.exec → c.code = M.2.1 → LRel X.cv L Ls → SOk S →
      ∃ Ls', LRel X.cv L' Ls' ∧ SOk S' ∧ ∀ target, (Steps tb e below (T.setTop (mkF m pc' Ls' (S'.map (cval X.cv)))) target → Steps tb e below (T.setTop (mkF m pc Ls (S.map (cval X.cv)))) target)) : GQ X M kc ks pc L S σ o := by
  intro z σ' ho p e R s m args below meth c T locs cells slots Ls Y hx hZ hown hnm hby hml hrt hf hl hc hs hrep hL hS hLl hF
  obtain ⟨Ls1, hL1, hS1, st⟩ := h (e := e) Y.here hx hby hL hS
  obtain ⟨T', locs', Y', hrep', hF', hv1, hv2, st'⟩ := nx z σ' ho p e R s m args below meth c T locs cells slots Ls1 Y hx hZ hown hnm hby hml hrt hf hl hc hs hrep hL1 hS1 (by omega) hF
  exact ⟨T', locs', Y', hrep', hF', hv1, hv2, fun fs hfs => st _ (st' fs hfs)⟩
/-- what is known of the variables may be forgotten -/
def Sub (L' L : List (Option AV)) : Prop := L'.length = L.length ∧ ∀ (i : Nat) (v : AV), L'[i]? = some (some v) → L[i]? = some (some v)
theorem Sub.nil : Sub [] [] := ⟨rfl, fun i v h => by simp at h⟩
theorem Sub.keep {a : Option AV} (h : Sub L' L) : Sub (a :: L') (a :: L) := ⟨by simp [h.1], fun i v q => by cases i with | zero => simpa using q | succ i => simpa using h.2 i v (by simpa using q)⟩
theorem Sub.drop {a : Option AV} (h : Sub L' L) : Sub (none :: L') (a :: L) := ⟨by simp [h.1], fun i v q => by cases i with | zero => simp at q | succ i => simpa using h.2 i v (by simpa using q)⟩
theorem GQ.weak (hs : Sub L' L) (nx : GQ X M kc ks pc L' S σ o) : GQ X M kc ks pc L S σ o :=
  GQ.plain nx hs.1 (fun _ _ _ hL hS => ⟨_, ⟨by rw [hL.1, hs.1], hL.2.1, fun i v q => hL.2.2 i v (hs.2 i v q)⟩, hS, fun _ st => st⟩)
theorem GQ.letI {e : Int} {f : Int → Option (Int × μ)} (nx : ∀ z, GQ X M kc ks pc L (I z :: S) σ (f z)) : GQ X M kc ks pc L (I e :: S) σ (lB e f) := nx e
theorem GQ.letJ {e : Int} {f : Int → Option (Int × μ)} (nx : ∀ z, GQ X M kc ks pc L (J z :: S) σ (f z)) : GQ X M kc ks pc L (J e :: S) σ (lB e f) := nx e
theorem GQ.letM {e : μ} {f : μ → Option (Int × μ)} (nx : ∀ z, GQ X M kc ks pc L S z (f z)) : GQ X M kc ks pc L S e (lB e f) := nx e
theorem GQ.iload {k : Nat} (hd : decode M.2.1 pc = .ok (.iload k, 2)) (hl : L[k]? = some (some (I x))) (hp : pc + 2 = pc') (nx : GQ X M kc ks pc' L (I x :: S) σ o) : GQ X M kc ks pc L S σ o := by
  subst hp; exact GQ.plain nx rfl (fun hA hx hc hL hS => ⟨_, hL, hS.cons (hL.2.2 _ _ hl).2, fun _ st => XS.iload hA hx rfl (hb hc hd) (hL.2.2 _ _ hl).1 st⟩)
theorem GQ.iloadN {k : Fin 4} (hd : decode M.2.1 pc = .ok (.iload_n k, 1)) (hl : L[k.val]? = some (some (I x))) (hp : pc + 1 = pc') (nx : GQ X M kc ks pc' L (I x :: S) σ o) : GQ X M kc ks pc L S σ o := by
  subst hp; exact GQ.plain nx rfl (fun hA hx hc hL hS => ⟨_, hL, hS.cons (hL.2.2 _ _ hl).2, fun _ st => XS.iloadN hA hx rfl (hb hc hd) (hL.2.2 _ _ hl).1 st⟩)
theorem GQ.lload {k : Nat} (hd : decode M.2.1 pc = .ok (.lload k, 2)) (hl : L[k]? = some (some (J x))) (hp : pc + 2 = pc') (nx : GQ X M kc ks pc' L (J x :: S) σ o) : GQ X M kc ks pc L S σ o := by
  subst hp; exact GQ.plain nx rfl (fun hA hx hc hL hS => ⟨_, hL, hS.cons (hL.2.2 _ _ hl).2, fun _ st => XT.lload hA hx rfl (hb hc hd) (hL.2.2 _ _ hl).1 st⟩)
theorem GQ.lloadN {k : Fin 4} (hd : decode M.2.1 pc = .ok (.lload_n k, 1)) (hl : L[k.val]? = some (some (J x))) (hp : pc + 1 = pc') (nx : GQ X M kc ks pc' L (J x :: S) σ o) : GQ X M kc ks pc L S σ o := by
  subst hp; exact GQ.plain nx rfl (fun hA hx hc hL hS => ⟨_, hL, hS.cons (hL.2.2 _ _ hl).2, fun _ st => XT.lloadN hA hx rfl (hb hc hd) (hL.2.2 _ _ hl).1 st⟩)
theorem GQ.aload {k r : Nat} (hd : decode M.2.1 pc = .ok (.aload k, 2)) (hl : L[k]? = some (some (Rf r))) (hp : pc + 2 = pc') (nx : GQ X M kc ks pc' L (Rf r :: S) σ o) : GQ X M kc ks pc L S σ o := by
  subst hp; exact GQ.plain nx rfl (fun hA hx hc hL hS => ⟨_, hL, hS.cons (hL.2.2 _ _ hl).2, fun _ st => XS.aload hA hx rfl (hb hc hd) (hL.2.2 _ _ hl).1 rfl st⟩)
theorem GQ.aloadN {k : Fin 4} {r : Nat} (hd : decode M.2.1 pc = .ok (.aload_n k, 1)) (hl : L[k.val]? = some (some (Rf r))) (hp : pc + 1 = pc') (nx : GQ X M kc ks pc' L (Rf r :: S) σ o) : GQ X M kc ks pc L S σ o := by
  subst hp; exact GQ.plain nx rfl (fun hA hx hc hL hS => ⟨_, hL, hS.cons (hL.2.2 _ _ hl).2, fun _ st => XS.aloadN hA hx rfl (hb hc hd) (hL.2.2 _ _ hl).1 rfl st⟩)
theorem GQ.istore {k : Nat} (hd : decode M.2.1 pc = .ok (.istore k, 2)) (hk : Nat.blt k L.length = true) (hl : st1 L k (I x) = L') (hp : pc + 2 = pc') (nx : GQ X M kc ks pc' L' S σ o) : GQ X M kc ks pc L (I x :: S) σ o := by
  subst hp hl; refine GQ.plain nx (st1_len ..) (fun hA hx hc hL hS => ?_)
  obtain ⟨Ls', h1, h2⟩ := store_one hL (Nat.blt_eq.mp hk) hS.hd (by simp)
  exact ⟨Ls', h2, hS.tl, fun _ st => XS.istore hA hx rfl (hb hc hd) rfl h1 st⟩
theorem GQ.istoreN {k : Fin 4} (hd : decode M.2.1 pc = .ok (.istore_n k, 1)) (hk : Nat.blt k.val L.length = true) (hl : st1 L k.val (I x) = L') (hp : pc + 1 = pc') (nx : GQ X M kc ks pc' L' S σ o) : GQ X M kc ks pc L (I x :: S) σ o := by
  subst hp hl; refine GQ.plain nx (st1_len ..) (fun hA hx hc hL hS => ?_)
  obtain ⟨Ls', h1, h2⟩ := store_one hL (Nat.blt_eq.mp hk) hS.hd (by simp)
  exact ⟨Ls', h2, hS.tl, fun _ st => XS.istoreN hA hx rfl (hb hc hd) rfl h1 st⟩
theorem GQ.lstore {k : Nat} (hd : decode M.2.1 pc = .ok (.lstore k, 2)) (hk : Nat.blt (k + 1) L.length = true) (hl : st2 L k (J x) = L') (hp : pc + 2 = pc') (nx : GQ X M kc ks pc' L' S σ o) : GQ X M kc ks pc L (J x :: S) σ o := by
  subst hp hl; refine GQ.plain nx (st2_len ..) (fun hA hx hc hL hS => ?_)
  obtain ⟨Ls', h1, h2⟩ := store_two hL (Nat.blt_eq.mp hk) (x0 := x) hS.hd
  exact ⟨Ls', h2, hS.tl, fun _ st => XT.lstore hA hx rfl (hb hc hd) rfl h1 st⟩
theorem GQ.lstoreN {k : Fin 4} (hd : decode M.2.1 pc = .ok (.lstore_n k, 1)) (hk : Nat.blt (k.val + 1) L.length = true) (hl : st2 L k.val (J x) = L') (hp : pc + 1 = pc') (nx : GQ X M kc ks pc' L' S σ o) : GQ X M kc ks pc L (J x :: S) σ o := by
  subst hp hl; refine GQ.plain nx (st2_len ..) (fun hA hx hc hL hS => ?_)
  obtain ⟨Ls', h1, h2⟩ := store_two hL (Nat.blt_eq.mp hk) (x0 := x) hS.hd
  exact ⟨Ls', h2, hS.tl, fun _ st => XT.lstoreN hA hx rfl (hb hc hd) rfl h1 st⟩
theorem GQ.astore {k r : Nat} (hd : decode M.2.1 pc = .ok (.astore k, 2)) (hk : Nat.blt k L.length = true) (hl : st1 L k (Rf r) = L') (hp : pc + 2 = pc') (nx : GQ X M kc ks pc' L' S σ o) : GQ X M kc ks pc L (Rf r :: S) σ o := by
  subst hp hl; refine GQ.plain nx (st1_len ..) (fun hA hx hc hL hS => ?_)
  obtain ⟨Ls', h1, h2⟩ := store_one hL (Nat.blt_eq.mp hk) hS.hd (by simp)
  exact ⟨Ls', h2, hS.tl, fun _ st => XS.astore hA hx rfl (hb hc hd) rfl rfl h1 st⟩
theorem GQ.astoreN {k : Fin 4} {r : Nat} (hd : decode M.2.1 pc = .ok (.astore_n k, 1)) (hk : Nat.blt k.val L.length = true) (hl : st1 L k.val (Rf r) = L') (hp : pc + 1 = pc') (nx : GQ X M kc ks pc' L' S σ o) : GQ X M kc ks pc L (Rf r :: S) σ o := by
  subst hp hl; refine GQ.plain nx (st1_len ..) (fun hA hx hc hL hS => ?_)
  obtain ⟨Ls', h1, h2⟩ := store_one hL (Nat.blt_eq.mp hk) hS.hd (by simp)
  exact ⟨Ls', h2, hS.tl, fun _ st => XS.astoreN hA hx rfl (hb hc hd) rfl rfl h1 st⟩
theorem GQ.iinc {k : Nat} {cst : Int} (hd : decode M.2.1 pc = .ok (.iinc k cst, 3)) (hk : Nat.blt k L.length = true) (hl : L[k]? = some (some (I x))) (hl' : st1 L k (I (aAdd x cst)) = L') (hp : pc + 3 = pc') (nx : GQ X M kc ks pc' L' S σ o) : GQ X M kc ks pc L S σ o := by
  subst hp hl'; refine GQ.plain nx (st1_len ..) (fun hA hx hc hL hS => ?_)
  obtain ⟨Ls', h1, h2⟩ := store_one hL (Nat.blt_eq.mp hk) (v := I (aAdd x cst)) (w32_in _) (by simp)
  exact ⟨Ls', h2, hS, fun _ st => XS.iinc hA hx rfl (hb hc hd) (hL.2.2 _ _ hl).1 (by rw [← e_add]; exact h1) st⟩
theorem GQ.iconst {i : Int} (hd : decode M.2.1 pc = .ok (.iconst i, 1)) (hi : decide (-2147483648 ≤ i ∧ i < 2147483648) = true) (hp : pc + 1 = pc') (nx : GQ X M kc ks pc' L (I i :: S) σ o) : GQ X M kc ks pc L S σ o := by
  subst hp; exact GQ.plain nx rfl (fun hA hx hc hL hS => ⟨_, hL, hS.cons (show InR i from (of_decide_eq_true hi : -2147483648 ≤ i ∧ i < 2147483648)), fun _ st => XS.iconst hA hx rfl (hb hc hd) st⟩)
theorem GQ.bipush {i : Int} (hd : decode M.2.1 pc = .ok (.bipush i, 2)) (hi : decide (-128 ≤ i ∧ i < 128) = true) (hp : pc + 2 = pc') (nx : GQ X M kc ks pc' L (I i :: S) σ o) : GQ X M kc ks pc L S σ o := by
  have hi := of_decide_eq_true hi
  have he : o32 i = (Int8.ofInt i).toInt32 := by
    apply Int32.toInt_inj.mp; rw [Int8.toInt_toInt32, t32, w32_id (by omega) (by omega), Int8.toInt_ofInt_of_le (by omega) (by omega)]
  subst hp; exact GQ.plain nx rfl (fun hA hx hc hL hS => ⟨_, hL, hS.cons (show InR i from ⟨by omega, by omega⟩), fun _ st => XS.bipush hA hx rfl (hb hc hd) (by rw [← he]; exact st)⟩)
theorem GQ.sipush {i : Int} (hd : decode M.2.1 pc = .ok (.sipush i, 3)) (hi : decide (-32768 ≤ i ∧ i < 32768) = true) (hp : pc + 3 = pc') (nx : GQ X M kc ks pc' L (I i :: S) σ o) : GQ X M kc ks pc L S σ o := by
  have hi := of_decide_eq_true hi
  have he : o32 i = (Int16.ofInt i).toInt32 := by
    apply Int32.toInt_inj.mp; rw [Int16.toInt_toInt32, t32, w32_id (by omega) (by omega), Int16.toInt_ofInt_of_le (by omega) (by omega)]
  subst hp; exact GQ.plain nx rfl (fun hA hx hc hL hS => ⟨_, hL, hS.cons (show InR i from ⟨by omega, by omega⟩), fun _ st => XS.sipush hA hx rfl (hb hc hd) (by rw [← he]; exact st)⟩)
theorem GQ.lconst {k : Fin 2} {i : Int} (hd : decode M.2.1 pc = .ok (.lconst k, 1)) (hi : (k.val : Int) = i) (hp : pc + 1 = pc') (nx : GQ X M kc ks pc' L (J i :: S) σ o) : GQ X M kc ks pc L S σ o := by
  have hk := k.isLt
  subst hp hi; exact GQ.plain nx rfl (fun hA hx hc hL hS => ⟨_, hL, hS.cons (show InL _ from ⟨by omega, by omega⟩), fun _ st => XT.lconst hA hx rfl (hb hc hd) st⟩)
theorem GQ.goto {off : Int} (hd : decode M.2.1 pc = .ok (.goto off, 3)) (ho : decide (0 ≤ (pc : Int) + off) = true) (hp : ((pc : Int) + off).toNat = pc') (nx : GQ X M kc ks pc' L S σ o) : GQ X M kc ks pc L S σ o :=
  GQ.plain nx rfl (fun hA hx hc hL hS => ⟨_, hL, hS, fun _ st => XS.goto hA hx rfl (pc0 := pc) rfl (hb hc hd) (of_decide_eq_true ho) hp st⟩)
theorem GQ.popI (hd : decode M.2.1 pc = .ok (.pop, 1)) (hp : pc + 1 = pc') (nx : GQ X M kc ks pc' L S σ o) : GQ X M kc ks pc L (I x :: S) σ o := by
  subst hp; exact GQ.plain nx rfl (fun hA hx hc hL hS => ⟨_, hL, hS.tl, fun _ st => XT.pop hA hx rfl (hb hc hd) rfl rfl st⟩)
theorem GQ.dupI (hd : decode M.2.1 pc = .ok (.dup, 1)) (hp : pc + 1 = pc') (nx : GQ X M kc ks pc' L (I x :: I x :: S) σ o) : GQ X M kc ks pc L (I x :: S) σ o := by
  subst hp; exact GQ.plain nx rfl (fun hA hx hc hL hS => ⟨_, hL, hS.cons hS.hd, fun _ st => XS.dup hA hx rfl (hb hc hd) rfl rfl st⟩)
theorem GQ.dupR {r : Nat} (hd : decode M.2.1 pc = .ok (.dup, 1)) (hp : pc + 1 = pc') (nx : GQ X M kc ks pc' L (Rf r :: Rf r :: S) σ o) : GQ X M kc ks pc L (Rf r :: S) σ o := by
  subst hp; exact GQ.plain nx rfl (fun hA hx hc hL hS => ⟨_, hL, hS.cons hS.hd, fun _ st => XS.dup hA hx rfl (hb hc hd) rfl rfl st⟩)
theorem GQ.dup2 {r : Nat} (hd : decode M.2.1 pc = .ok (.dup2, 1)) (hp : pc + 1 = pc') (nx : GQ X M kc ks pc' L (I x :: Rf r :: I x :: Rf r :: S) σ o) : GQ X M kc ks pc L (I x :: Rf r :: S) σ o := by
  subst hp; exact GQ.plain nx rfl (fun hA hx hc hL hS => ⟨_, hL, (hS.cons hS.hd2).cons hS.hd, fun _ st => XT.dup2 hA hx rfl (hb hc hd) rfl rfl rfl st⟩)
/-! ints -/
theorem GQ.iadd (hd : decode M.2.1 pc = .ok (.iadd, 1)) (hp : pc + 1 = pc') (nx : GQ X M kc ks pc' L (I (aAdd x y) :: S) σ o) : GQ X M kc ks pc L (I y :: I x :: S) σ o := by
  subst hp; exact GQ.plain nx rfl (fun hA hx hc hL hS => ⟨_, hL, hS.tl.tl.cons (w32_in _), fun _ st => XS.iadd hA hx rfl (hb hc hd) rfl (by rw [← e_add]; exact st)⟩)
theorem GQ.isub (hd : decode M.2.1 pc = .ok (.isub, 1)) (hp : pc + 1 = pc') (nx : GQ X M kc ks pc' L (I (aSub x y) :: S) σ o) : GQ X M kc ks pc L (I y :: I x :: S) σ o := by
  subst hp; exact GQ.plain nx rfl (fun hA hx hc hL hS => ⟨_, hL, hS.tl.tl.cons (w32_in _), fun _ st => XS.isub hA hx rfl (hb hc hd) rfl (by rw [← e_sub]; exact st)⟩)
theorem GQ.imul (hd : decode M.2.1 pc = .ok (.imul, 1)) (hp : pc + 1 = pc') (nx : GQ X M kc ks pc' L (I (aMul x y) :: S) σ o) : GQ X M kc ks pc L (I y :: I x :: S) σ o := by
  subst hp; exact GQ.plain nx rfl (fun hA hx hc hL hS => ⟨_, hL, hS.tl.tl.cons (w32_in _), fun _ st => XS.imul hA hx rfl (hb hc hd) rfl (by rw [← e_mul]; exact st)⟩)
theorem GQ.ineg (hd : decode M.2.1 pc = .ok (.ineg, 1)) (hp : pc + 1 = pc') (nx : GQ X M kc ks pc' L (I (aNeg x) :: S) σ o) : GQ X M kc ks pc L (I x :: S) σ o := by
  subst hp; exact GQ.plain nx rfl (fun hA hx hc hL hS => ⟨_, hL, hS.tl.cons (w32_in _), fun _ st => XS.ineg hA hx rfl (hb hc hd) rfl (by rw [← e_neg]; exact st)⟩)
theorem GQ.iand (hd : decode M.2.1 pc = .ok (.iand, 1)) (hp : pc + 1 = pc') (nx : GQ X M kc ks pc' L (I (aAnd x y) :: S) σ o) : GQ X M kc ks pc L (I y :: I x :: S) σ o := by
  subst hp; exact GQ.plain nx rfl (fun hA hx hc hL hS => ⟨_, hL, hS.tl.tl.cons (r32 _), fun _ st => XS.iand hA hx rfl (hb hc hd) rfl (by rw [← o32_t (o32 x &&& o32 y)]; exact st)⟩)
theorem GQ.ior (hd : decode M.2.1 pc = .ok (.ior, 1)) (hp : pc + 1 = pc') (nx : GQ X M kc ks pc' L (I (aOr x y) :: S) σ o) : GQ X M kc ks pc L (I y :: I x :: S) σ o := by
  subst hp; exact GQ.plain nx rfl (fun hA hx hc hL hS => ⟨_, hL, hS.tl.tl.cons (r32 _), fun _ st => XT.ior hA hx rfl (hb hc hd) rfl (by rw [← o32_t (o32 x ||| o32 y)]; exact st)⟩)
theorem GQ.ixor (hd : decode M.2.1 pc = .ok (.ixor, 1)) (hp : pc + 1 = pc') (nx : GQ X M kc ks pc' L (I (aXor x y) :: S) σ o) : GQ X M kc ks pc L (I y :: I x :: S) σ o := by
  subst hp; exact GQ.plain nx rfl (fun hA hx hc hL hS => ⟨_, hL, hS.tl.tl.cons (r32 _), fun _ st => XT.ixor hA hx rfl (hb hc hd) rfl (by rw [← o32_t (o32 x ^^^ o32 y)]; exact st)⟩)
theorem GQ.ishl (hd : decode M.2.1 pc = .ok (.ishl, 1)) (hp : pc + 1 = pc') (nx : GQ X M kc ks pc' L (I (aShl x y) :: S) σ o) : GQ X M kc ks pc L (I y :: I x :: S) σ o := by
  subst hp; exact GQ.plain nx rfl (fun hA hx hc hL hS => ⟨_, hL, hS.tl.tl.cons (r32 _), fun _ st => XT.ishl hA hx rfl (hb hc hd) rfl (by rw [← o32_t (o32 x <<< (o32 y &&& 31))]; exact st)⟩)
theorem GQ.ishr (hd : decode M.2.1 pc = .ok (.ishr, 1)) (hp : pc + 1 = pc') (nx : GQ X M kc ks pc' L (I (aShr x y) :: S) σ o) : GQ X M kc ks pc L (I y :: I x :: S) σ o := by
  subst hp; exact GQ.plain nx rfl (fun hA hx hc hL hS => ⟨_, hL, hS.tl.tl.cons (r32 _), fun _ st => XT.ishr hA hx rfl (hb hc hd) rfl (by rw [← o32_t (o32 x >>> (o32 y &&& 31))]; exact st)⟩)
theorem GQ.iushr (hd : decode M.2.1 pc = .ok (.iushr, 1)) (hp : pc + 1 = pc') (nx : GQ X M kc ks pc' L (I (aUshr x y) :: S) σ o) : GQ X M kc ks pc L (I y :: I x :: S) σ o := by
  subst hp; exact GQ.plain nx rfl (fun hA hx hc hL hS => ⟨_, hL, hS.tl.tl.cons (r32 _), fun _ st => XT.iushr hA hx rfl (hb hc hd) rfl (by rw [← o32_t (XT.ushr (o32 x) (o32 y))]; exact st)⟩)
theorem ne0 {y : Int} (hy : InR y) (h : ¬ y = 0) : o32 y ≠ 0 := fun q => h (by have := congrArg Int32.toInt q; rw [t32i hy] at this; exact this)
theorem ne0L {y : Int} (hy : InL y) (h : ¬ y = 0) : o64 y ≠ 0 := fun q => h (by have := congrArg Int64.toInt q; rw [t64i hy] at this; exact this)
theorem GQ.guard {P : Prop} [Decidable P] (h : P → GQ X M kc ks pc L S σ o) : GQ X M kc ks pc L S σ (if P then o else none) := by
  by_cases q : P
  · rw [if_pos q]; exact h q
  · rw [if_neg q]; exact GQ.no
theorem GQ.idiv (hd : decode M.2.1 pc = .ok (.idiv, 1)) (hp : pc + 1 = pc') (nx : GQ X M kc ks pc' L (I (aDiv x y) :: S) σ o) : GQ X M kc ks pc L (I y :: I x :: S) σ (dB y o) := by
  unfold dB
  by_cases q : y = 0
  · rw [if_pos q]; exact GQ.no
  · rw [if_neg q]; subst hp; exact GQ.plain nx rfl (fun hA hx hc hL hS => ⟨_, hL, hS.tl.tl.cons (w32_in _), fun _ st => XS.idiv hA hx rfl (hb hc hd) rfl (ne0 hS.hd q) (by rw [← e_div hS.hd2 hS.hd]; exact st)⟩)
theorem GQ.irem (hd : decode M.2.1 pc = .ok (.irem, 1)) (hp : pc + 1 = pc') (nx : GQ X M kc ks pc' L (I (aRem x y) :: S) σ o) : GQ X M kc ks pc L (I y :: I x :: S) σ (dB y o) := by
  unfold dB
  by_cases q : y = 0
  · rw [if_pos q]; exact GQ.no
  · rw [if_neg q]; subst hp; exact GQ.plain nx rfl (fun hA hx hc hL hS => ⟨_, hL, hS.tl.tl.cons (in_rem hS.hd2 hS.hd), fun _ st => XS.irem hA hx rfl (hb hc hd) rfl (ne0 hS.hd q) (by rw [irem_eq_mod, ← e_rem hS.hd2 hS.hd]; exact st)⟩)
theorem GQ.i2l (hd : decode M.2.1 pc = .ok (.i2l, 1)) (hp : pc + 1 = pc') (nx : GQ X M kc ks pc' L (J x :: S) σ o) : GQ X M kc ks pc L (I x :: S) σ o := by
  subst hp; exact GQ.plain nx rfl (fun hA hx hc hL hS => ⟨_, hL, hS.tl.cons (show InL x from ⟨by have : InR x := hS.hd; have := this.1; omega, by have : InR x := hS.hd; have := this.2; omega⟩), fun _ st => XT.i2l hA hx rfl (hb hc hd) rfl (by rw [← e_i2l hS.hd]; exact st)⟩)
theorem GQ.l2i (hd : decode M.2.1 pc = .ok (.l2i, 1)) (hp : pc + 1 = pc') (nx : GQ X M kc ks pc' L (I (w32 x) :: S) σ o) : GQ X M kc ks pc L (J x :: S) σ o := by
  subst hp; exact GQ.plain nx rfl (fun hA hx hc hL hS => ⟨_, hL, hS.tl.cons (w32_in _), fun _ st => XT.l2i hA hx rfl (hb hc hd) rfl (by rw [← e_l2i hS.hd]; exact st)⟩)
theorem GQ.i2b (hd : decode M.2.1 pc = .ok (.i2b, 1)) (hp : pc + 1 = pc') (nx : GQ X M kc ks pc' L (I (Wp.i2b x) :: S) σ o) : GQ X M kc ks pc L (I x :: S) σ o := by
  subst hp; exact GQ.plain nx rfl (fun hA hx hc hL hS => ⟨_, hL, hS.tl.cons (in_b _), fun _ st => XT.i2b hA hx rfl (hb hc hd) rfl (by rw [← e_i2b hS.hd]; exact st)⟩)
theorem GQ.i2c (hd : decode M.2.1 pc = .ok (.i2c, 1)) (hp : pc + 1 = pc') (nx : GQ X M kc ks pc' L (I (Wp.i2c x) :: S) σ o) : GQ X M kc ks pc L (I x :: S) σ o := by
  subst hp; exact GQ.plain nx rfl (fun hA hx hc hL hS => ⟨_, hL, hS.tl.cons (in_c _), fun _ st => XT.i2c hA hx rfl (hb hc hd) rfl (by rw [← e_i2c hS.hd]; exact st)⟩)
/-! longs -/
theorem GQ.ladd (hd : decode M.2.1 pc = .ok (.ladd, 1)) (hp : pc + 1 = pc') (nx : GQ X M kc ks pc' L (J (lAdd x y) :: S) σ o) : GQ X M kc ks pc L (J y :: J x :: S) σ o := by
  subst hp; exact GQ.plain nx rfl (fun hA hx hc hL hS => ⟨_, hL, hS.tl.tl.cons (w64_in _), fun _ st => XT.ladd hA hx rfl (hb hc hd) rfl (by rw [← e_ladd]; exact st)⟩)
theorem GQ.lsub (hd : decode M.2.1 pc = .ok (.lsub, 1)) (hp : pc + 1 = pc') (nx : GQ X M kc ks pc' L (J (lSub x y) :: S) σ o) : GQ X M kc ks pc L (J y :: J x :: S) σ o := by
  subst hp; exact GQ.plain nx rfl (fun hA hx hc hL hS => ⟨_, hL, hS.tl.tl.cons (w64_in _), fun _ st => XT.lsub hA hx rfl (hb hc hd) rfl (by rw [← e_lsub]; exact st)⟩)
theorem GQ.lmul (hd : decode M.2.1 pc = .ok (.lmul, 1)) (hp : pc + 1 = pc') (nx : GQ X M kc ks pc' L (J (lMul x y) :: S) σ o) : GQ X M kc ks pc L (J y :: J x :: S) σ o := by
  subst hp; exact GQ.plain nx rfl (fun hA hx hc hL hS => ⟨_, hL, hS.tl.tl.cons (w64_in _), fun _ st => XT.lmul hA hx rfl (hb hc hd) rfl (by rw [← e_lmul]; exact st)⟩)
theorem GQ.land (hd : decode M.2.1 pc = .ok (.land, 1)) (hp : pc + 1 = pc') (nx : GQ X M kc ks pc' L (J (lAnd x y) :: S) σ o) : GQ X M kc ks pc L (J y :: J x :: S) σ o := by
  subst hp; exact GQ.plain nx rfl (fun hA hx hc hL hS => ⟨_, hL, hS.tl.tl.cons (r64 _), fun _ st => XT.land hA hx rfl (hb hc hd) rfl (by rw [← o64_t (o64 x &&& o64 y)]; exact st)⟩)
theorem GQ.lor (hd : decode M.2.1 pc = .ok (.lor, 1)) (hp : pc + 1 = pc') (nx : GQ X M kc ks pc' L (J (lOr x y) :: S) σ o) : GQ X M kc ks pc L (J y :: J x :: S) σ o := by
  subst hp; exact GQ.plain nx rfl (fun hA hx hc hL hS => ⟨_, hL, hS.tl.tl.cons (r64 _), fun _ st => XT.lor hA hx rfl (hb hc hd) rfl (by rw [← o64_t (o64 x ||| o64 y)]; exact st)⟩)
theorem GQ.lxor (hd : decode M.2.1 pc = .ok (.lxor, 1)) (hp : pc + 1 = pc') (nx : GQ X M kc ks pc' L (J (lXor x y) :: S) σ o) : GQ X M kc ks pc L (J y :: J x :: S) σ o := by
  subst hp; exact GQ.plain nx rfl (fun hA hx hc hL hS => ⟨_, hL, hS.tl.tl.cons (r64 _), fun _ st => XT.lxor hA hx rfl (hb hc hd) rfl (by rw [← o64_t (o64 x ^^^ o64 y)]; exact st)⟩)
theorem GQ.lshl (hd : decode M.2.1 pc = .ok (.lshl, 1)) (hp : pc + 1 = pc') (nx : GQ X M kc ks pc' L (J (lShl x y) :: S) σ o) : GQ X M kc ks pc L (I y :: J x :: S) σ o := by
  subst hp; exact GQ.plain nx rfl (fun hA hx hc hL hS => ⟨_, hL, hS.tl.tl.cons (r64 _), fun _ st => XT.lshl hA hx rfl (hb hc hd) rfl (by rw [← o64_t (o64 x <<< ((o32 y).toInt64 &&& 63))]; exact st)⟩)
theorem GQ.lshr (hd : decode M.2.1 pc = .ok (.lshr, 1)) (hp : pc + 1 = pc') (nx : GQ X M kc ks pc' L (J (lShr x y) :: S) σ o) : GQ X M kc ks pc L (I y :: J x :: S) σ o := by
  subst hp; exact GQ.plain nx rfl (fun hA hx hc hL hS => ⟨_, hL, hS.tl.tl.cons (r64 _), fun _ st => XT.lshr hA hx rfl (hb hc hd) rfl (by rw [← o64_t (o64 x >>> ((o32 y).toInt64 &&& 63))]; exact st)⟩)
theorem GQ.lushr (hd : decode M.2.1 pc = .ok (.lushr, 1)) (hp : pc + 1 = pc') (nx : GQ X M kc ks pc' L (J (lUshr x y) :: S) σ o) : GQ X M kc ks pc L (I y :: J x :: S) σ o := by
  subst hp; exact GQ.plain nx rfl (fun hA hx hc hL hS => ⟨_, hL, hS.tl.tl.cons (r64 _), fun _ st => XT.lushr hA hx rfl (hb hc hd) rfl (by rw [← o64_t (XT.ushrL (o64 x) (o32 y))]; exact st)⟩)
theorem GQ.ldiv (hd : decode M.2.1 pc = .ok (.ldiv, 1)) (hp : pc + 1 = pc') (nx : GQ X M kc ks pc' L (J (lDiv x y) :: S) σ o) : GQ X M kc ks pc L (J y :: J x :: S) σ (dB y o) := by
  unfold dB
  by_cases q : y = 0
  · rw [if_pos q]; exact GQ.no
  · rw [if_neg q]; subst hp; exact GQ.plain nx rfl (fun hA hx hc hL hS => ⟨_, hL, hS.tl.tl.cons (w64_in _), fun _ st => XT.ldiv hA hx rfl (hb hc hd) rfl (ne0L hS.hd q) (by rw [← e_ldiv hS.hd2 hS.hd]; exact st)⟩)
theorem GQ.lrem (hd : decode M.2.1 pc = .ok (.lrem, 1)) (hp : pc + 1 = pc') (nx : GQ X M kc ks pc' L (J (lRem x y) :: S) σ o) : GQ X M kc ks pc L (J y :: J x :: S) σ (dB y o) := by
  unfold dB
  by_cases q : y = 0
  · rw [if_pos q]; exact GQ.no
  · rw [if_neg q]; subst hp; exact GQ.plain nx rfl (fun hA hx hc hL hS => ⟨_, hL, hS.tl.tl.cons (in_lrem hS.hd2 hS.hd), fun _ st => XT.lrem hA hx rfl (hb hc hd) rfl (ne0L hS.hd q) (by rw [lrem_mod, ← e_lrem hS.hd2 hS.hd]; exact st)⟩)
theorem GQ.lcmp (hd : decode M.2.1 pc = .ok (.lcmp, 1)) (hp : pc + 1 = pc') (nx : GQ X M kc ks pc' L (I (lCmp x y) :: S) σ o) : GQ X M kc ks pc L (J y :: J x :: S) σ o := by
  subst hp; exact GQ.plain nx rfl (fun hA hx hc hL hS => ⟨_, hL, hS.tl.tl.cons (in_cmp ..), fun _ st => XT.lcmp hA hx rfl (hb hc hd) rfl (by rw [XT.cmpL, ← e_lcmp hS.hd2 hS.hd]; exact st)⟩)
/-! branches -/
theorem GQ.br {P : Prop} [Decidable P] {pcT pcF : Nat} (nT : GQ X M kc ks pcT L S' σ oT) (nF : GQ X M kc ks pcF L S' σ oF) (hS' : SOk S → SOk S')
    (h : ∀ {tb : Tables} [Ours tb] {e : Env} {below : List Frame} {T : State} {m : MethodId} {c : Code} {Ls : Array Slot} {target : State}, At T m c below → tb.exec = Jvm.exec → c.code = M.2.1 → SOk S →
      (P → Steps tb e below (T.setTop (mkF m pcT Ls (S'.map (cval X.cv)))) target → Steps tb e below (T.setTop (mkF m pc Ls (S.map (cval X.cv)))) target) ∧
      (¬ P → Steps tb e below (T.setTop (mkF m pcF Ls (S'.map (cval X.cv)))) target → Steps tb e below (T.setTop (mkF m pc Ls (S.map (cval X.cv)))) target)) : GQ X M kc ks pc L S σ (if P then oT else oF) := by
  by_cases q : P
  · rw [if_pos q]; exact GQ.plain nT rfl (fun hA hx hc hL hS => ⟨_, hL, hS' hS, fun t st => (h hA hx hc hS).1 q st⟩)
  · rw [if_neg q]; exact GQ.plain nF rfl (fun hA hx hc hL hS => ⟨_, hL, hS' hS, fun t st => (h hA hx hc hS).2 q st⟩)
theorem o_lt {x y : Int} (hx : InR x) (hy : InR y) : o32 x < o32 y ↔ x < y := by rw [Int32.lt_iff_toInt_lt, t32i hx, t32i hy]
theorem o_le {x y : Int} (hx : InR x) (hy : InR y) : o32 x ≤ o32 y ↔ ¬ y < x := by rw [Int32.le_iff_toInt_le, t32i hx, t32i hy]; omega
theorem o_eq {x y : Int} (hx : InR x) (hy : InR y) : o32 x = o32 y ↔ x = y := by rw [← Int32.toInt_inj, t32i hx, t32i hy]
theorem GQ.icmpT {P : Prop} [Decidable P] {cd : ClassFile.Cond} {off : Int} {pcT pcF : Nat} (hP : InR x → InR y → (if_icmp.holds cd (o32 x) (o32 y) = true ↔ P)) (hd : decode M.2.1 pc = .ok (.if_icmp cd off, 3)) (ho : decide (0 ≤ (pc : Int) + off) = true) (hpT : ((pc : Int) + off).toNat = pcT) (hpF : pc + 3 = pcF)
    (nT : GQ X M kc ks pcT L S σ oT) (nF : GQ X M kc ks pcF L S σ oF) : GQ X M kc ks pc L (I y :: I x :: S) σ (if P then oT else oF) := by
  subst hpF
  refine GQ.br nT nF (fun h => h.tl.tl) (fun hA hx hc hS => ⟨fun q st => XS.icmpYes hA hx rfl (pc0 := pc) rfl (hb hc hd) rfl ((hP hS.hd2 hS.hd).mpr q) (of_decide_eq_true ho) hpT st, fun q st => XS.icmpNo hA hx rfl (hb hc hd) rfl ?_ st⟩)
  cases hh : if_icmp.holds cd (o32 x) (o32 y) with
  | false => rfl
  | true => exact absurd ((hP hS.hd2 hS.hd).mp hh) q
theorem GQ.icmpF {P : Prop} [Decidable P] {cd : ClassFile.Cond} {off : Int} {pcT pcF : Nat} (hP : InR x → InR y → (if_icmp.holds cd (o32 x) (o32 y) = true ↔ ¬ P)) (hd : decode M.2.1 pc = .ok (.if_icmp cd off, 3)) (ho : decide (0 ≤ (pc : Int) + off) = true) (hpT : ((pc : Int) + off).toNat = pcT) (hpF : pc + 3 = pcF)
    (nT : GQ X M kc ks pcT L S σ oT) (nF : GQ X M kc ks pcF L S σ oF) : GQ X M kc ks pc L (I y :: I x :: S) σ (if P then oF else oT) := by
  subst hpF
  refine GQ.br nF nT (fun h => h.tl.tl) (fun hA hx hc hS => ⟨fun q st => XS.icmpNo hA hx rfl (hb hc hd) rfl ?_ st, fun q st => XS.icmpYes hA hx rfl (pc0 := pc) rfl (hb hc hd) rfl ((hP hS.hd2 hS.hd).mpr q) (of_decide_eq_true ho) hpT st⟩)
  cases hh : if_icmp.holds cd (o32 x) (o32 y) with
  | false => rfl
  | true => exact absurd q ((hP hS.hd2 hS.hd).mp hh)
theorem h_eq (hx : InR x) (hy : InR y) : if_icmp.holds .eq (o32 x) (o32 y) = true ↔ x = y := by rw [← o_eq hx hy]; simp [if_icmp.holds]
theorem h_ne (hx : InR x) (hy : InR y) : if_icmp.holds .ne (o32 x) (o32 y) = true ↔ ¬ x = y := by rw [← o_eq hx hy]; simp [if_icmp.holds]
theorem h_lt (hx : InR x) (hy : InR y) : if_icmp.holds .lt (o32 x) (o32 y) = true ↔ x < y := by rw [← o_lt hx hy]; simp [if_icmp.holds]
theorem h_ge (hx : InR x) (hy : InR y) : if_icmp.holds .ge (o32 x) (o32 y) = true ↔ ¬ x < y := by rw [← o_le hy hx]; simp [if_icmp.holds]
theorem h_gt (hx : InR x) (hy : InR y) : if_icmp.holds .gt (o32 x) (o32 y) = true ↔ y < x := by rw [← o_lt hy hx]; simp [if_icmp.holds]
theorem h_le (hx : InR x) (hy : InR y) : if_icmp.holds .le (o32 x) (o32 y) = true ↔ ¬ y < x := by rw [← o_le hx hy]; simp [if_icmp.holds]
theorem h_if0 (cd : ClassFile.Cond) (x : Int) : ifCond.holds cd (o32 x) = if_icmp.holds cd (o32 x) (o32 0) := by cases cd <;> rfl
theorem GQ.ifT {P : Prop} [Decidable P] {cd : ClassFile.Cond} {off : Int} {pcT pcF : Nat} (hP : InR x → InR 0 → (if_icmp.holds cd (o32 x) (o32 0) = true ↔ P)) (hd : decode M.2.1 pc = .ok (.ifCond cd off, 3)) (ho : decide (0 ≤ (pc : Int) + off) = true) (hpT : ((pc : Int) + off).toNat = pcT) (hpF : pc + 3 = pcF)
    (nT : GQ X M kc ks pcT L S σ oT) (nF : GQ X M kc ks pcF L S σ oF) : GQ X M kc ks pc L (I x :: S) σ (if P then oT else oF) := by
  subst hpF
  have z0 : InR 0 := ⟨by omega, by omega⟩
  refine GQ.br nT nF (fun h => h.tl) (fun hA hx hc hS => ⟨fun q st => XS.ifYes hA hx rfl (pc0 := pc) rfl (hb hc hd) rfl ((h_if0 cd x).trans ((hP hS.hd z0).mpr q)) (of_decide_eq_true ho) hpT st, fun q st => XS.ifNo hA hx rfl (hb hc hd) rfl ?_ st⟩)
  rw [h_if0]
  cases hh : if_icmp.holds cd (o32 x) (o32 0) with
  | false => rfl
  | true => exact absurd ((hP hS.hd z0).mp hh) q
theorem GQ.ifF {P : Prop} [Decidable P] {cd : ClassFile.Cond} {off : Int} {pcT pcF : Nat} (hP : InR x → InR 0 → (if_icmp.holds cd (o32 x) (o32 0) = true ↔ ¬ P)) (hd : decode M.2.1 pc = .ok (.ifCond cd off, 3)) (ho : decide (0 ≤ (pc : Int) + off) = true) (hpT : ((pc : Int) + off).toNat = pcT) (hpF : pc + 3 = pcF)
    (nT : GQ X M kc ks pcT L S σ oT) (nF : GQ X M kc ks pcF L S σ oF) : GQ X M kc ks pc L (I x :: S) σ (if P then oF else oT) := by
  subst hpF
  have z0 : InR 0 := ⟨by omega, by omega⟩
  refine GQ.br nF nT (fun h => h.tl) (fun hA hx hc hS => ⟨fun q st => XS.ifNo hA hx rfl (hb hc hd) rfl ?_ st, fun q st => XS.ifYes hA hx rfl (pc0 := pc) rfl (hb hc hd) rfl ((h_if0 cd x).trans ((hP hS.hd z0).mpr q)) (of_decide_eq_true ho) hpT st⟩)
  rw [h_if0]
  cases hh : if_icmp.holds cd (o32 x) (o32 0) with
  | false => rfl
  | true => exact absurd q ((hP hS.hd z0).mp hh)
/-! returns -/
theorem GQ.out {v : Option AV} {z : Int} (hv : rval M.2.2.2.1 z = v) (hg : SOk S → ∀ w, v = some w → good w) (hn : M.2.2.2.1 = none → v = none)
    (h : ∀ {p : Program} {e : Env} {R : Room} {s : State} {m : MethodId} {args : Array Value} {below : List Frame} {meth : Method} {c : Code} {T : State} {locs : List Loc} {cells slots : Nat} {Ls : Array Slot} {fs : List Frame},
      Stand p X.1 e R s m args below meth c T locs cells slots → p.tables.exec = Jvm.exec → c.code = M.2.1 → meth.sig.returnType = M.2.2.2.1 → SOk S →
      (∀ (f : JFrame) (acts : List Action), f.method = m → f.locked = none → f.entered = [] → (doReturn e (T.setTop f) acts (v.map (cval X.cv))).1 = T.setFrames fs) → Steps p.tables e below (T.setTop (mkF m pc Ls (S.map (cval X.cv)))) (T.setFrames fs)) :
    GQ X M kc ks pc L S σ (some (z, σ)) := by
  subst hv
  intro z' σ' ho p e R s m args below meth c T locs cells slots Ls Y hx hZ hown hnm hby hml hrt hf hl hc hs hrep hL hS hLl hF
  cases ho
  exact ⟨T, locs, Y.more (Nat.le_add_right _ _) (Nat.le_add_right _ _), hrep, hF, hn, hg hS, fun fs hfs => h Y hx hby hrt hS hfs⟩
theorem GQ.ret (hr : M.2.2.2.1 = none) (hd : decode M.2.1 pc = .ok (.return_, 1)) : GQ X M kc ks pc L [] σ (some (0, σ)) :=
  GQ.out (v := none) (by rw [hr]; rfl) (fun _ w h => nomatch h) (fun _ => rfl) (fun Y hx hc hrt _ hfs => Y.returnOut hx (hrt.trans hr) (hb hc hd) hfs)
theorem GQ.iret (hr : M.2.2.2.1 = some .int) (hd : decode M.2.1 pc = .ok (.ireturn, 1)) : GQ X M kc ks pc L (I x :: S) σ (some (x, σ)) :=
  GQ.out (v := some (I x)) (by rw [hr]; rfl) (fun hS w h => by cases h; exact hS.hd) (fun h => by rw [hr] at h; cases h) (fun {p e R s m args below meth c T locs cells slots Ls fs} Y hx hc hrt _ hfs => by
    have hm' : T.vm.method? m = some meth := Y.method'
    have hret := hrt.trans hr
    have hd' := hb hc hd
    have hn : narrow .int (.int (o32 x)) = .int (o32 x) := rfl
    have hfs' : ∀ (f : JFrame) (acts : List Action), f.method = m → f.locked = none → f.entered = [] → (doReturn e (T.setTop f) acts (some (.int (o32 x)))).1 = T.setFrames fs := hfs
    show Steps p.tables e below (T.setTop { method := m, pc := pc, locals := Ls, stack := .int (o32 x) :: S.map (cval X.cv), locked := none }) _
    jvm_step Y.here [Y.here.top, hx, hd', hm', hret, hn]
    first | (intro acts; rw [hfs' _ acts rfl rfl rfl]) | rw [hfs' _ _ rfl rfl rfl]
    exact Steps.refl _)
theorem GQ.zret (hr : M.2.2.2.1 = some .boolean) (hd : decode M.2.1 pc = .ok (.ireturn, 1)) : GQ X M kc ks pc L (I x :: S) σ (some (i2z x, σ)) :=
  GQ.out (v := some (I (i2z x))) (by rw [hr]; rfl) (fun hS w h => by cases h; exact in_z x) (fun h => by rw [hr] at h; cases h) (fun {p e R s m args below meth c T locs cells slots Ls fs} Y hx hc hrt hS hfs => by
    have hm' : T.vm.method? m = some meth := Y.method'
    have hret := hrt.trans hr
    have hd' := hb hc hd
    have hn : narrow .boolean (.int (o32 x)) = .int (o32 (i2z x)) := by rw [e_i2z hS.hd]; rfl
    have hfs' : ∀ (f : JFrame) (acts : List Action), f.method = m → f.locked = none → f.entered = [] → (doReturn e (T.setTop f) acts (some (.int (o32 (i2z x))))).1 = T.setFrames fs := hfs
    show Steps p.tables e below (T.setTop { method := m, pc := pc, locals := Ls, stack := .int (o32 x) :: S.map (cval X.cv), locked := none }) _
    jvm_step Y.here [Y.here.top, hx, hd', hm', hret, hn]
    first | (intro acts; rw [hfs' _ acts rfl rfl rfl]) | rw [hfs' _ _ rfl rfl rfl]
    exact Steps.refl _)
theorem GQ.lret (hr : M.2.2.2.1 = some .long) (hd : decode M.2.1 pc = .ok (.lreturn, 1)) : GQ X M kc ks pc L [J x] σ (some (x, σ)) :=
  GQ.out (v := some (J x)) (by rw [hr]; rfl) (fun hS w h => by cases h; exact hS.hd) (fun h => by rw [hr] at h; cases h) (fun Y hx hc hrt _ hfs => Y.lreturnOut hx (hrt.trans hr) (hb hc hd) hfs)
end Rules
/-! calls by contract -/
section Calls
variable {μ : Type} {X : Cx μ} {M Mc : Mi} {kc ks pc pc' : Nat} {L L' : List (Option AV)} {S S' : List AV} {σ σ1 : μ} {o oc : Option (Int × μ)} {x y z1 : Int} {a0 : Array Value}
def Rm (M : Mi) (kc ks : Nat) : Room := { frames := M.2.2.2.2.1, cells := kc, slots := ks, locals := M.2.2.2.2.2 }
theorem met_of {args0 : List AV} (H : GQ X M kc ks 0 (entry args0 M.2.2.1) [] σ o) (ho : o = some (z1, σ1)) (hpl : plainName M.1.cls = true) (hg : ∀ w ∈ args0, good w) (hm : (spread args0).length ≤ M.2.2.1) {h : Heap} (hr : X.rep σ h) (ws : List Jvm.Cond) (rm : Room)
    (h1 : M.2.2.2.2.1 ≤ rm.frames) (h2 : M.2.2.2.2.2 ≤ rm.locals) (h3 : kc ≤ rm.cells) (h4 : ks ≤ rm.slots) :
    MetFree X.1 M.1 (head1 (Jvm.Cond.code M.1 M.2.1 M.2.2.1 M.2.2.2.1 :: ws) rm) (fun a U => a = (args0.map (cval X.cv)).toArray ∧ X.2.1.Warmed39 U.vm ∧ U.heap = h) (fun _ _ _ _ _ => True)
      (fun _ U o U' => ∃ v L, o = .returned v ∧ (v = (rval M.2.2.2.1 z1).map (cval X.cv) ∧ X.rep σ1 U'.heap ∧ Fr X.2.2.1 L ∧ ∀ w, rval M.2.2.2.1 z1 = some w → good w) ∧ FrameEnd U o U' L kc ks) := by
  refine MetFree.of_bodySF (plainFor_of_name hpl) hisR ?_
  intro p e s m args below meth c s₁ Bd hml0 hP hK
  obtain ⟨rfl, hZ, hh⟩ := hP
  have Y0 := Stand.of_body Bd
  have e0 : s₁.heap = h := by rw [← hh, Bd.state]; rfl
  have hlen : (entry args0 M.2.2.1).length = M.2.2.1 := by simp only [entry, List.length_append, List.length_replicate]; omega
  obtain ⟨T', locs', Y', hr', hF', hv1, hv2, st⟩ := H z1 σ1 ho p e _ s m _ below meth c s₁ [] 0 0 _ Y0 Bd.exec hZ (findClass_of_methodNamed Bd.named) (name_of_methodNamed Bd.named Bd.method).1 Bd.bytes hml0 Bd.returns h1 h2 (by show 0 + kc ≤ rm.cells; omega) (by show 0 + ks ≤ rm.slots; omega) (by rw [e0]; exact hr) (entry_rel X.cv hg hm) (fun _ q => nomatch q) hlen (Fr.nil _)
  obtain ⟨fs, hret, hrun, hended, hW, hsame⟩ := Y'.leave (v := (rval M.2.2.2.1 z1).map (cval X.cv)) (fun q => by rw [hv1 (Bd.returns.symm.trans q)]; rfl)
  exact ⟨_, _, st fs hret, hrun, hended, _, _, rfl, ⟨rfl, hr', hF', hv2⟩, ⟨_, rfl⟩, hW, hsame.mono (by omega) (by omega)⟩
theorem back_of {args0 : List AV} (H : GQ X Mc kc ks 0 (entry args0 Mc.2.2.1) [] σ oc) (ho : oc = some (z1, σ1)) (hpl : plainName Mc.1.cls = true) (hg : ∀ w ∈ args0, good w) (hm : (spread args0).length ≤ Mc.2.2.1) {h : Heap} (hr : X.rep σ h)
    {s : State} (hZ : X.2.1.Warmed39 s.vm) (wc : (Jvm.Cond.code Mc.1 Mc.2.1 Mc.2.2.1 Mc.2.2.2.1).before a0 X.2.1 = true) (wz : (Jvm.Cond.initialized Mc.1.cls).before a0 X.2.1 = true) {R : Room} {W : Nat} (hf : Mc.2.2.2.2.1 + 1 ≤ R.frames) (hl : W + (Mc.2.2.1 + 11) + Mc.2.2.2.2.2 ≤ R.locals) {p : Program} {e : Env} {below : List Frame} {args : Array Value} {len : Nat} :
    Back X.1 R p e below s args Mc.1 len W (fun A a => a = (args0.map (cval X.cv)).toArray ∧ A.U.heap = h ∧ A.cells + kc ≤ R.cells ∧ A.slots + ks ≤ R.slots)
      (fun A _ v B => ∃ L, (v = (rval Mc.2.2.2.1 z1).map (cval X.cv) ∧ X.rep σ1 B.U.heap ∧ Fr X.2.2.1 L ∧ ∀ w, rval Mc.2.2.2.1 z1 = some w → good w) ∧ B.locs = A.locs ++ L ∧ B.cells = A.cells + kc ∧ B.slots = A.slots + ks) :=
  backOf (rm := Rm Mc kc ks) (Q := fun v h L => v = (rval Mc.2.2.2.1 z1).map (cval X.cv) ∧ X.rep σ1 h ∧ Fr X.2.2.1 L ∧ ∀ w, rval Mc.2.2.2.1 z1 = some w → good w) (as' := (args0.map (cval X.cv)).toArray) (met_of H ho hpl hg hm hr [] (Rm Mc kc ks) (Nat.le_refl _) (Nat.le_refl _) (Nat.le_refl _) (Nat.le_refl _)) hZ wc wz hf hl
def cat (S : List AV) : Nat := (S.map fun v => match v with | .inr (.inl _) => 2 | _ => 1).sum
theorem cat_eq (cv : Nat → Addr) (S : List AV) : ((S.map (cval cv)).map fun v => v.category).sum = cat S := by
  induction S with
  | nil => rfl
  | cons v r ih => rcases v with x | x | n <;> simp only [cat, List.map_cons, List.sum_cons] at ih ⊢ <;> rw [ih] <;> rfl
theorem SOk.app {A B : List AV} (h : SOk (A ++ B)) : SOk A ∧ SOk B := ⟨fun v hv => h v (List.mem_append_left _ hv), fun v hv => h v (List.mem_append_right _ hv)⟩
theorem SOk.res {v : Option AV} (h : ∀ w, v = some w → good w) (hS : SOk S) : SOk (v.toList ++ S) := by
  cases v with
  | none => exact hS
  | some w => exact SOk.cons (h w rfl) hS
/-- what is known of a callee, by its words -/
def Callee (a0 : Array Value) (Z : State) (M Mc : Mi) (na : Nat) : Prop :=
  plainName Mc.1.cls = true ∧ (Jvm.Cond.code Mc.1 Mc.2.1 Mc.2.2.1 Mc.2.2.2.1).before a0 Z = true ∧ (Jvm.Cond.initialized Mc.1.cls).before a0 Z = true ∧ Mc.2.2.2.2.1 + 1 ≤ M.2.2.2.2.1 ∧ (Mc.1.cls ≠ "java/lang/invoke/MethodHandle" ∧ Mc.1.cls ≠ "java/lang/invoke/VarHandle") ∧ (∀ sig, parseMethodDescriptor Mc.1.desc = some sig → na = sig.parameters.length)
theorem GQ.callP {idx nI r : Nat} {args0 : List AV} {f : Int → μ → Option (Int × μ)} (K : Callee a0 X.2.1 M Mc args0.length) (hroom0 : Nat.ble (cat S + (Mc.2.2.1 + 11) + Mc.2.2.2.2.2) M.2.2.2.2.2 = true) (hd : decode M.2.1 pc = .ok (.invokevirtual idx, 3)) (hp : pc + 3 = pc')
    (w1 : (Jvm.Cond.methodLink M.1.cls idx Mc.1).before a0 X.2.1 = true) (w2 : (Jvm.Cond.instanceMethod Mc.1).before a0 X.2.1 = true) (w3 : (Jvm.Cond.privateMethod Mc.1).before a0 X.2.1 = true) (w4 : (Jvm.Cond.instantiable Mc.1.cls nI).before a0 X.2.1 = true)
    (hrecv : ∀ h, X.rep σ h → ∃ cell, h[X.cv r]? = some cell ∧ ∀ q, cell.vm ≠ .statics q) (hm0 : Nat.ble (spread (Rf r :: args0)).length Mc.2.2.1 = true)
    (H : GQ X Mc 0 0 0 (entry (Rf r :: args0) Mc.2.2.1) [] σ oc) (hst : S' = args0.reverse ++ Rf r :: S) (nx : ∀ z σ1, GQ X M kc ks pc' L ((rval Mc.2.2.2.1 z).toList ++ S) σ1 (f z σ1)) : GQ X M kc ks pc L S' σ (cB oc f) := by
  intro z σ' ho p e R s m args below meth c T locs cells slots Ls Y hx hZ hown hnm hby hml hrt hf hl hc hs hrep hL hS hLl hF
  subst hst hp
  obtain ⟨k1, k2, k3, k4, k5, k6⟩ := K
  have hroom := Nat.le_of_ble_eq_true hroom0
  have hm := Nat.le_of_ble_eq_true hm0
  cases hoc : oc with
  | none => rw [hoc] at ho; exact nomatch ho
  | some q =>
    obtain ⟨z1, σ1⟩ := q
    rw [hoc] at ho H
    have hS0 := hS.app
    obtain ⟨cell, hc1, hc2⟩ := hrecv _ hrep
    have hg : ∀ w ∈ Rf r :: args0, good w := fun w hw => (List.mem_cons.mp hw).elim (fun q => q ▸ trivial) (fun q => hS0.1 w (List.mem_reverse.mpr q))
    have hpriv := Cond.privateMethod_at (mvP hZ w3 (args := #[]))
    have hsel : (Jvm.Cond.selects Mc.1.cls Mc.1 Mc.1).before args s = true := by
      obtain ⟨cc, kk, i1, i2, -, i4, -⟩ := Cond.instantiable_spec (mvT hZ w4 (args := #[]))
      exact selects_self_of_private i1 i2 (by simp at i4; exact i4.1) hpriv (mvT hZ w2) k5
    obtain ⟨v, vm1, ⟨T1, L1, c1, n1⟩, -, Y1, ⟨Lc, ⟨hv, hr1, hF1, hg1⟩, l1, l2, l3⟩, st⟩ := Y.privateBack hx (y := Mc.1) hown (mvT hZ w1) (mvT hZ w2) hsel hpriv (mvT hZ k2) k5
      (back_of (W := cat S) H rfl k1 hg hm hrep hZ k2 k3 (by omega) (by omega)) (g := mkF m pc Ls ((args0.reverse ++ Rf r :: S).map (cval X.cv))) rfl (by show Ls.size = _; rw [hL.1, hLl, hml]) (Steps.refl _) (a := X.cv r) hc1 hc2 (argsL := args0.map (cval X.cv)) (rest := S.map (cval X.cv)) (fun sig q => by rw [List.length_map]; exact k6 sig q) (by simp [cval]) (by show 2 * 0 + _ ≤ _; rw [cat_eq]; omega) (hb hby hd) (fun _ _ => ⟨rfl, rfl, by show cells + 0 ≤ _; omega, by show slots + 0 ≤ _; omega⟩)
    dsimp only [Pt.U, Pt.locs, Pt.cells, Pt.slots] at Y1 l1 l2 l3 st hr1
    subst l1 l2 l3 hv
    obtain ⟨T', locs', Y', hrep', hF', hv1, hv2, st'⟩ := nx z1 σ1 z σ' ho p e R s m args below meth c T1 _ _ _ Ls Y1 hx hZ hown hnm hby hml hrt hf hl hc hs hr1 hL (SOk.res hg1 hS0.2.tl) hLl (Fr.app hF hF1)
    refine ⟨T', locs', Y', hrep', hF', hv1, hv2, fun fs hfs => ?_⟩
    have q := st' fs hfs
    refine st.trans ?_
    have e1 : ((rval Mc.2.2.2.1 z1).toList ++ S).map (cval X.cv) = ((rval Mc.2.2.2.1 z1).map (cval X.cv)).toList ++ S.map (cval X.cv) := by cases rval Mc.2.2.2.1 z1 <;> simp
    rw [e1] at q; exact q
theorem GQ.callV {idx r : Nat} {args0 : List AV} {f : Int → μ → Option (Int × μ)} (K : Callee a0 X.2.1 M Mc args0.length) (hroom0 : Nat.ble (cat S + (Mc.2.2.1 + 11) + Mc.2.2.2.2.2) M.2.2.2.2.2 = true) (hd : decode M.2.1 pc = .ok (.invokevirtual idx, 3)) (hp : pc + 3 = pc')
    (w1 : (Jvm.Cond.methodLink M.1.cls idx Mc.1).before a0 X.2.1 = true) (w2 : (Jvm.Cond.instanceMethod Mc.1).before a0 X.2.1 = true) (w3 : (Jvm.Cond.declares Mc.1).before a0 X.2.1 = true) (w4 : (Jvm.Cond.selects Mc.1.cls Mc.1 Mc.1).before a0 X.2.1 = true)
    (hrecv : ∀ h, X.rep σ h → Exa X.2.1 h (X.cv r) Mc.1.cls) (hm0 : Nat.ble (spread (Rf r :: args0)).length Mc.2.2.1 = true)
    (H : GQ X Mc 0 0 0 (entry (Rf r :: args0) Mc.2.2.1) [] σ oc) (hst : S' = args0.reverse ++ Rf r :: S) (nx : ∀ z σ1, GQ X M kc ks pc' L ((rval Mc.2.2.2.1 z).toList ++ S) σ1 (f z σ1)) : GQ X M kc ks pc L S' σ (cB oc f) := by
  intro z σ' ho p e R s m args below meth c T locs cells slots Ls Y hx hZ hown hnm hby hml hrt hf hl hc hs hrep hL hS hLl hF
  subst hst hp
  obtain ⟨k1, k2, k3, k4, k5, k6⟩ := K
  have hroom := Nat.le_of_ble_eq_true hroom0
  have hm := Nat.le_of_ble_eq_true hm0
  cases hoc : oc with
  | none => rw [hoc] at ho; exact nomatch ho
  | some q =>
    obtain ⟨z1, σ1⟩ := q
    rw [hoc] at ho H
    have hS0 := hS.app
    have hg : ∀ w ∈ Rf r :: args0, good w := fun w hw => (List.mem_cons.mp hw).elim (fun q => q ▸ trivial) (fun q => hS0.1 w (List.mem_reverse.mpr q))
    obtain ⟨cq, kq, qa, qb, qc⟩ := isOf (T := T) hZ rfl (hrecv _ hrep)
    obtain ⟨v, vm1, ⟨T1, L1, c1, n1⟩, -, Y1, ⟨Lc, ⟨hv, hr1, hF1, hg1⟩, l1, l2, l3⟩, st⟩ := Y.virtualBack hx (y := Mc.1) (z := Mc.1) hown (mvT hZ w1) (mvT hZ w3) (notFace_of_selects (args := #[]) (mvT hZ w4)) (mvT hZ w4) (mvT hZ w2) k5
      (back_of (W := cat S) H rfl k1 hg hm hrep hZ k2 k3 (by omega) (by omega)) qa qc (g := mkF m pc Ls ((args0.reverse ++ Rf r :: S).map (cval X.cv))) rfl (by show Ls.size = _; rw [hL.1, hLl, hml]) (Steps.refl _) (argsL := args0.map (cval X.cv)) (rest := S.map (cval X.cv)) (fun sig q => by rw [List.length_map]; exact k6 sig q) (by simp [cval]) (by show 2 * 0 + _ ≤ _; rw [cat_eq]; omega) (hb hby hd) (fun _ _ => ⟨rfl, rfl, by show cells + 0 ≤ _; omega, by show slots + 0 ≤ _; omega⟩)
    dsimp only [Pt.U, Pt.locs, Pt.cells, Pt.slots] at Y1 l1 l2 l3 st hr1
    subst l1 l2 l3 hv
    obtain ⟨T', locs', Y', hrep', hF', hv1, hv2, st'⟩ := nx z1 σ1 z σ' ho p e R s m args below meth c T1 _ _ _ Ls Y1 hx hZ hown hnm hby hml hrt hf hl hc hs hr1 hL (SOk.res hg1 hS0.2.tl) hLl (Fr.app hF hF1)
    refine ⟨T', locs', Y', hrep', hF', hv1, hv2, fun fs hfs => ?_⟩
    have q := st' fs hfs
    refine st.trans ?_
    have e1 : ((rval Mc.2.2.2.1 z1).toList ++ S).map (cval X.cv) = ((rval Mc.2.2.2.1 z1).map (cval X.cv)).toList ++ S.map (cval X.cv) := by cases rval Mc.2.2.2.1 z1 <;> simp
    rw [e1] at q; exact q
theorem GQ.callS {idx : Nat} {args0 : List AV} {f : Int → μ → Option (Int × μ)} (K : Callee a0 X.2.1 M Mc args0.length) (hroom0 : Nat.ble (cat S + (Mc.2.2.1 + 11) + Mc.2.2.2.2.2) M.2.2.2.2.2 = true) (hd : decode M.2.1 pc = .ok (.invokestatic idx, 3)) (hp : pc + 3 = pc')
    (w1 : (Jvm.Cond.methodLink M.1.cls idx Mc.1).before a0 X.2.1 = true) (w2 : (Jvm.Cond.static Mc.1).before a0 X.2.1 = true) (hm0 : Nat.ble (spread args0).length Mc.2.2.1 = true)
    (H : GQ X Mc 0 0 0 (entry args0 Mc.2.2.1) [] σ oc) (hst : S' = args0.reverse ++ S) (nx : ∀ z σ1, GQ X M kc ks pc' L ((rval Mc.2.2.2.1 z).toList ++ S) σ1 (f z σ1)) : GQ X M kc ks pc L S' σ (cB oc f) := by
  intro z σ' ho p e R s m args below meth c T locs cells slots Ls Y hx hZ hown hnm hby hml hrt hf hl hc hs hrep hL hS hLl hF
  subst hst hp
  obtain ⟨k1, k2, k3, k4, k5, k6⟩ := K
  have hroom := Nat.le_of_ble_eq_true hroom0
  have hm := Nat.le_of_ble_eq_true hm0
  cases hoc : oc with
  | none => rw [hoc] at ho; exact nomatch ho
  | some q =>
    obtain ⟨z1, σ1⟩ := q
    rw [hoc] at ho H
    have hS0 := hS.app
    have hg : ∀ w ∈ args0, good w := fun w hw => hS0.1 w (List.mem_reverse.mpr hw)
    obtain ⟨v, vm1, ⟨T1, L1, c1, n1⟩, -, Y1, ⟨Lc, ⟨hv, hr1, hF1, hg1⟩, l1, l2, l3⟩, st⟩ := Jvm.LawKit.callS Y hx (y := Mc.1) hown (mvT hZ w1) (mvT hZ w2) (mvT hZ k3) (mvT hZ k2) k5
      (back_of (W := cat S) H rfl k1 hg hm hrep hZ k2 k3 (by omega) (by omega)) (g := mkF m pc Ls ((args0.reverse ++ S).map (cval X.cv))) rfl (by show Ls.size = _; rw [hL.1, hLl, hml]) (argsL := args0.map (cval X.cv)) (rest := S.map (cval X.cv)) (fun sig q => by rw [List.length_map]; exact k6 sig q) (by simp [cval]) (by show 2 * 0 + _ ≤ _; rw [cat_eq]; omega) (hb hby hd) (fun _ _ => ⟨rfl, rfl, by show cells + 0 ≤ _; omega, by show slots + 0 ≤ _; omega⟩)
    dsimp only [Pt.U, Pt.locs, Pt.cells, Pt.slots] at Y1 l1 l2 l3 st hr1
    subst l1 l2 l3 hv
    obtain ⟨T', locs', Y', hrep', hF', hv1, hv2, st'⟩ := nx z1 σ1 z σ' ho p e R s m args below meth c T1 _ _ _ Ls Y1 hx hZ hown hnm hby hml hrt hf hl hc hs hr1 hL (SOk.res hg1 hS0.2) hLl (Fr.app hF hF1)
    refine ⟨T', locs', Y', hrep', hF', hv1, hv2, fun fs hfs => ?_⟩
    have q := st' fs hfs
    refine st _ ?_
    have e1 : ((rval Mc.2.2.2.1 z1).toList ++ S).map (cval X.cv) = ((rval Mc.2.2.2.1 z1).map (cval X.cv)).toList ++ S.map (cval X.cv) := by cases rval Mc.2.2.2.1 z1 <;> simp
    rw [e1] at q; exact q
end Calls
section Ldc
variable {μ : Type} {X : Cx μ} {M Mc : Mi} {kc ks pc pc' : Nat} {L L' : List (Option AV)} {S S' : List AV} {σ σ1 : μ} {o oc : Option (Int × μ)} {x y z1 : Int} {a0 : Array Value}
/-- a step that needs the tables or the heap -/
theorem GQ.heap {σ1 : μ} (nx : GQ X M kc ks pc' L S' σ1 o)
    (h : ∀ {p : Program} {e : Env} {R : Room} {s : State} {m : MethodId} {args : Array Value} {below : List Frame} {meth : Method} {c : Code} {T : State} {locs : List Loc} {cells slots : Nat} {Ls : Array Slot},
      Stand p X.1 e R s m args below meth c T locs cells slots → p.tables.exec = Jvm.exec → X.2.1.Warmed39 s.vm → s.vm.findClass M.1.cls = some m.cls → meth.name = M.1.name → c.code = M.2.1 → X.rep σ T.heap → SOk S → Fr X.2.2.1 locs →
      ∃ (T1 : State) (locs1 : List Loc), Stand p X.1 e R s m args below meth c T1 locs1 cells slots ∧ X.rep σ1 T1.heap ∧ SOk S' ∧ Fr X.2.2.1 locs1 ∧
        ∀ target, Steps p.tables e below (T1.setTop (mkF m pc' Ls (S'.map (cval X.cv)))) target → Steps p.tables e below (T.setTop (mkF m pc Ls (S.map (cval X.cv)))) target) : GQ X M kc ks pc L S σ o := by
  intro z σ' ho p e R s m args below meth c T locs cells slots Ls Y hx hZ hown hnm hby hml hrt hf hl hc hs hrep hL hS hLl hF
  obtain ⟨T1, locs1, Y1, hr1, hS1, hF1, st⟩ := h (Ls := Ls) Y hx hZ hown hnm hby hrep hS hF
  obtain ⟨T', locs', Y', hrep', hF', hv1, hv2, st'⟩ := nx z σ' ho p e R s m args below meth c T1 locs1 cells slots Ls Y1 hx hZ hown hnm hby hml hrt hf hl hc hs hr1 hL hS1 hLl hF1
  exact ⟨T', locs', Y', hrep', hF', hv1, hv2, fun fs hfs => st _ (st' fs hfs)⟩
theorem GQ.ldc {idx : Nat} {i : Int} {v : Int32} (hd : decode M.2.1 pc = .ok (.ldc idx, 2)) (w : (Jvm.Cond.constant M.1.cls idx v).before a0 X.2.1 = true) (hi : v.toInt = i) (hp : pc + 2 = pc') (nx : GQ X M kc ks pc' L (I i :: S) σ o) : GQ X M kc ks pc L S σ o := by
  subst hp hi
  refine GQ.heap nx (fun {p e R s m args below meth c T locs cells slots Ls} Y hx hZ hown hnm hby hr hS hF => ⟨T, locs, Y, hr, hS.cons (r32 v), hF, fun t st => ?_⟩)
  have w' : (Jvm.Cond.constant M.1.cls idx v).before args s = true := mvT hZ w
  have q := Y.ldcInt hx hown w' (g := mkF m pc Ls (S.map (cval X.cv))) rfl (hb hby hd) t
  have e1 : cval X.cv (I v.toInt) = Value.int v := congrArg Value.int (o32_t v)
  rw [List.map_cons, e1] at st
  exact q st
theorem GQ.ldc2 {idx : Nat} {i : Int} {v : Int64} (hd : decode M.2.1 pc = .ok (.ldc2_w idx, 3)) (w : (Jvm.Cond.constantLong M.1.cls idx v).before a0 X.2.1 = true) (hi : v.toInt = i) (hp : pc + 3 = pc') (nx : GQ X M kc ks pc' L (J i :: S) σ o) : GQ X M kc ks pc L S σ o := by
  subst hp hi
  refine GQ.heap nx (fun {p e R s m args below meth c T locs cells slots Ls} Y hx hZ hown hnm hby hr hS hF => ⟨T, locs, Y, hr, hS.cons (r64 v), hF, fun t st => ?_⟩)
  have w' : (Jvm.Cond.constantLong M.1.cls idx v).before args s = true := mvT hZ w
  have q := Y.ldc2Long hx hown w' (g := mkF m pc Ls (S.map (cval X.cv))) rfl (hb hby hd) t
  have e1 : cval X.cv (J v.toInt) = Value.long v := congrArg Value.long (o64_t v)
  rw [List.map_cons, e1] at st
  exact q st
end Ldc
/-! an object of the project's class: its plain fields and its arrays -/
abbrev Obj : Type := (Nat → Int) × (Nat → Nat → Int)
abbrev Fe : Type := String × String × FieldType × Nat
def upd {α : Type} (f : Nat → α) (k : Nat) (v : α) : Nat → α := fun j => if j = k then v else f j
theorem upd_same {α : Type} (f : Nat → α) (k : Nat) (v : α) : upd f k v k = v := if_pos rfl
theorem upd_ne {α : Type} (f : Nat → α) {k j : Nat} (v : α) (h : j ≠ k) : upd f k v j = f j := if_neg h
def setF (σ : Obj) (k : Nat) (v : Int) : Obj := (upd σ.1 k v, σ.2)
def setA (σ : Obj) (k i : Nat) (v : Int) : Obj := (σ.1, upd σ.2 k (upd (σ.2 k) i v))
def fitI (ty : FieldType) (x : Int) : Prop := match ty with
  | .boolean => x = 0 ∨ x = 1
  | .byte => -128 ≤ x ∧ x ≤ 127
  | .char => 0 ≤ x ∧ x ≤ 65535
  | .int => InR x
  | _ => False
def nrw (ty : FieldType) (x : Int) : Int := match ty with
  | .boolean => i2z x
  | .byte => i2b x
  | .char => i2c x
  | _ => x
def intK (ty : FieldType) : Bool := match ty with
  | .boolean | .byte | .char | .int => true
  | _ => false
theorem fitI_in {ty : FieldType} {x : Int} (h : fitI ty x) : InR x := by
  cases ty <;> simp only [fitI] at h <;> first | exact h.elim | exact h | (unfold InR; omega)
theorem fit_nrw {ty : FieldType} (ht : intK ty = true) {x : Int} (hx : InR x) : fitI ty (nrw ty x) := by
  cases ty <;> simp only [intK] at ht <;> first | cases ht | skip
  all_goals simp only [fitI, nrw, i2z, i2b, i2c] <;> first | exact hx | omega
theorem narrow_nrw {ty : FieldType} (ht : intK ty = true) {x : Int} (hx : InR x) : narrow ty (.int (o32 x)) = .int (o32 (nrw ty x)) := by
  cases ty <;> simp only [intK] at ht <;> first | cases ht | skip
  all_goals first | rfl | (simp only [nrw, e_i2z hx]; rfl) | (simp only [nrw, e_i2b hx]; rfl) | (simp only [nrw, e_i2c hx]; rfl)
theorem nar_nrw {ty : FieldType} (ht : intK ty = true) {x : Int} (hx : InR x) : nar ty (o32 x) = o32 (nrw ty x) := by
  cases ty <;> simp only [intK] at ht <;> first | cases ht | skip
  all_goals first | (simp only [nrw, nar, e_i2z hx]; done) | (simp only [nrw, nar, e_i2b hx]; done) | (simp only [nrw, nar, e_i2c hx]; done) | rfl
theorem fits_of {ty : FieldType} {x : Int} (h : fitI ty x) : fits ty (.int (o32 x)) = true := by
  have hx := fitI_in h
  cases ty <;> simp only [fitI] at h <;> first | exact h.elim | skip
  all_goals first | rfl | (rcases h with rfl | rfl <;> decide) | skip
  all_goals
    simp only [fits, Bool.and_eq_true, decide_eq_true_eq, Int32.le_iff_toInt_le, t32i hx]
    exact h
/-- the words on the class -/
def CA (a0 : Array Value) (Z : State) (C : String) (nI : Nat) (F : List (Option Fe)) : Prop :=
  (∀ (k : Nat) (e : Fe), F[k]? = some (some e) → Laid Z a0 C C e.1 e.2.1 ∧ intK e.2.2.1 = true ∧ parseFieldDescriptor e.2.1 = some (if e.2.2.2 = 0 then e.2.2.1 else .array e.2.2.1)) ∧
  (∀ (k k' : Nat) (e e' : Fe), F[k]? = some (some e) → F[k']? = some (some e') → e.1 = e'.1 → k = k') ∧ (Jvm.Cond.instantiable C nI).before a0 Z = true
def okJ (F : List (Option Fe)) (j : Nat) : Prop := j = 0 ∨ ∃ (k : Nat) (e : Fe), j = k + 1 ∧ F[k]? = some (some e) ∧ 0 < e.2.2.2
def Inj (F : List (Option Fe)) (cv : Nat → Addr) : Prop := ∀ j j', okJ F j → okJ F j' → cv j = cv j' → j = j'
def ARep (Z : State) (h : Heap) (a : Addr) (ty : FieldType) (len : Nat) (f : Nat → Int) : Prop := ∃ c, Arr Z h a c ty ∧ c.slots.size = len ∧ ∀ i, i < len → c.slots[i]? = some (.int (o32 (f i))) ∧ fitI ty (f i)
def ORep (Z : State) (C : String) (F : List (Option Fe)) (cv : Nat → Addr) (σ : Obj) (h : Heap) : Prop :=
  Exa Z h (cv 0) C ∧ ∀ (k : Nat) (e : Fe), F[k]? = some (some e) → (e.2.2.2 = 0 → Fld Z h (cv 0) C e.1 e.2.1 (.int (o32 (σ.1 k))) ∧ fitI e.2.2.1 (σ.1 k)) ∧ (0 < e.2.2.2 → Fld Z h (cv 0) C e.1 e.2.1 (.ref (cv (k + 1))) ∧ ARep Z h (cv (k + 1)) e.2.2.1 e.2.2.2 (σ.2 k))
def wsOf (F : List (Option Fe)) (cv : Nat → Addr) : List Addr := (List.range (F.length + 1)).map cv
theorem ARep.other {Z : State} {h h' : Heap} {a b : Addr} {ty : FieldType} {len sl : Nat} {f : Nat → Int} {v : Value} (A : ARep Z h b ty len f) (W : Wr h h' a sl v) (ne : b ≠ a) : ARep Z h' b ty len f := by
  obtain ⟨c, h1, h2⟩ := A; exact ⟨c, h1.other W ne, h2⟩
theorem ARep.set {Z : State} {h h' : Heap} {a : Addr} {ty : FieldType} {len i : Nat} {f : Nat → Int} {x : Int} (A : ARep Z h a ty len f) (W : Wr h h' a i (.int (o32 x))) (hx : fitI ty x) : ARep Z h' a ty len (upd f i x) := by
  obtain ⟨c, h1, h2, h3⟩ := A
  refine ⟨_, h1.same W, by simp [Cell.setSlot, h2], fun j hj => ?_⟩
  by_cases e : j = i
  · subst e; simp [Cell.setSlot, upd_same, hx, h2, hj]
  · rw [upd_ne f x e]
    exact ⟨by rw [← (h3 j hj).1]; exact Array.getElem?_setIfInBounds_ne (Ne.symm e), (h3 j hj).2⟩
section Mem
variable {Z : State} {C : String} {F : List (Option Fe)} {cv : Nat → Addr} {σ : Obj} {h h' : Heap} {a0 : Array Value} {nI : Nat}
theorem okJ.arr {k : Nat} {e : Fe} (hF : F[k]? = some (some e)) (hl : 0 < e.2.2.2) : okJ F (k + 1) := Or.inr ⟨k, e, rfl, hF, hl⟩
theorem okJ.mem {j : Nat} (hj : okJ F j) : cv j ∈ wsOf F cv := by
  refine List.mem_map.mpr ⟨j, List.mem_range.mpr ?_, rfl⟩
  rcases hj with rfl | ⟨k, e, rfl, hF, -⟩
  · omega
  · have := (List.getElem?_eq_some_iff.mp hF).1; omega
theorem ORep.putF (R : ORep Z C F cv σ h) (hI : Inj F cv) (K : CA a0 Z C nI F) {k : Nat} {e : Fe} (hF : F[k]? = some (some e)) (hl : e.2.2.2 = 0) {x : Int} (hx : fitI e.2.2.1 x) (W : Wr h h' (cv 0) (Jvm.RoadKit.slotOf Z C e.1 e.2.1) (.int (o32 x))) : ORep Z C F cv (setF σ k x) h' := by
  refine ⟨R.1.wr W, fun j e' hF' => ⟨fun hl' => ?_, fun hl' => ?_⟩⟩
  · obtain ⟨q1, q2⟩ := (R.2 j e' hF').1 hl'
    by_cases ej : j = k
    · subst ej
      cases hF.symm.trans hF'
      show Fld Z h' (cv 0) C e.1 e.2.1 (.int (o32 (upd σ.1 j x j))) ∧ fitI e.2.2.1 (upd σ.1 j x j)
      rw [upd_same]; exact ⟨q1.same W, hx⟩
    · show Fld Z h' (cv 0) C e'.1 e'.2.1 (.int (o32 (upd σ.1 k x j))) ∧ fitI e'.2.2.1 (upd σ.1 k x j)
      rw [upd_ne _ _ ej]
      exact ⟨q1.other W (Or.inr (slot_ne (K.1 j e' hF').1 (K.1 k e hF).1 (fun q => ej (K.2.1 j k e' e hF' hF q)) (K.1 j e' hF').2.2 (K.1 k e hF).2.2)), q2⟩
  · obtain ⟨q1, q2⟩ := (R.2 j e' hF').2 hl'
    have ej : j ≠ k := fun q => by subst q; cases hF.symm.trans hF'; omega
    exact ⟨q1.other W (Or.inr (slot_ne (K.1 j e' hF').1 (K.1 k e hF).1 (fun q => ej (K.2.1 j k e' e hF' hF q)) (K.1 j e' hF').2.2 (K.1 k e hF).2.2)), q2.other W (fun q => by have := hI _ _ (okJ.arr hF' hl') (Or.inl rfl) q; omega)⟩
theorem ORep.putA (R : ORep Z C F cv σ h) (hI : Inj F cv) {k i : Nat} {e : Fe} (hF : F[k]? = some (some e)) (hl : 0 < e.2.2.2) {x : Int} (hx : fitI e.2.2.1 x) (W : Wr h h' (cv (k + 1)) i (.int (o32 x))) : ORep Z C F cv (setA σ k i x) h' := by
  have n0 : cv 0 ≠ cv (k + 1) := fun q => by have := hI _ _ (Or.inl rfl) (okJ.arr hF hl) q; omega
  refine ⟨R.1.wr W, fun j e' hF' => ⟨fun hl' => ?_, fun hl' => ?_⟩⟩
  · obtain ⟨q1, q2⟩ := (R.2 j e' hF').1 hl'
    exact ⟨q1.other W (Or.inl n0), q2⟩
  · obtain ⟨q1, q2⟩ := (R.2 j e' hF').2 hl'
    refine ⟨q1.other W (Or.inl n0), ?_⟩
    by_cases ej : j = k
    · subst ej
      cases hF.symm.trans hF'
      show ARep Z h' (cv (j + 1)) e.2.2.1 e.2.2.2 (upd σ.2 j (upd (σ.2 j) i x) j)
      rw [upd_same]; exact q2.set W hx
    · show ARep Z h' (cv (j + 1)) e'.2.2.1 e'.2.2.2 (upd σ.2 k (upd (σ.2 k) i x) j)
      rw [upd_ne _ _ ej]
      exact q2.other W (fun q => by have := hI _ _ (okJ.arr hF' hl') (okJ.arr hF hl) q; omega)
theorem ORep.keep {ws : List Addr} (R : ORep Z C F cv σ h) (K : Keep h h' ws) (hn : ∀ j, okJ F j → cv j ∉ ws) : ORep Z C F cv σ h' := by
  refine ⟨R.1.keep K, fun j e' hF' => ⟨fun hl' => ?_, fun hl' => ?_⟩⟩
  · obtain ⟨q1, q2⟩ := (R.2 j e' hF').1 hl'
    exact ⟨q1.keep K (hn 0 (Or.inl rfl)), q2⟩
  · obtain ⟨q1, c, q2, q3⟩ := (R.2 j e' hF').2 hl'
    exact ⟨q1.keep K (hn 0 (Or.inl rfl)), c, ⟨K.2.1 _ c q2.1 (hn _ (okJ.arr hF' hl')), q2.2⟩, q3⟩
end Mem
/-- a method of the project's class at work on its own object -/
def XA (l : Launch) (Z : State) (n0 : Nat) (C : String) (F : List (Option Fe)) (cv : Nat → Addr) (h0 : Heap) : Cx Obj := (l, Z, n0, cv, fun σ h => ORep Z C F cv σ h ∧ Keep h0 h (wsOf F cv) ∧ h.size = h0.size)
/-- what every walk of such a method knows -/
def KA (a0 : Array Value) (Z : State) (n0 : Nat) (C : String) (nI : Nat) (F : List (Option Fe)) (cv : Nat → Addr) : Prop := CA a0 Z C nI F ∧ Inj F cv ∧ ∀ j, n0 ≤ cv j
def rB (f : Nat → Int) (len : Nat) (i : Int) (g : Int → Option α) : Option α := if 0 ≤ i ∧ i < len then g (f i.toNat) else none
def wB (σ : Obj) (k len : Nat) (i v : Int) (g : Obj → Option α) : Option α := if 0 ≤ i ∧ i < len then g (setA σ k i.toNat v) else none
section MemRules
variable {l : Launch} {Z : State} {n0 : Nat} {C : String} {F : List (Option Fe)} {cv : Nat → Addr} {h0 : Heap} {M : Mi} {kc ks pc pc' idx k nI : Nat} {L L' : List (Option AV)} {S S' : List AV} {σ : Obj} {o : Option (Int × Obj)} {x y i : Int} {a0 : Array Value} {n d : String} {ty : FieldType} {len : Nat}
theorem GQ.getI (hF : F[k]? = some (some (n, d, ty, 0))) (w : (Jvm.Cond.fieldLink M.1.cls idx C n d).before a0 Z = true) (hd : decode M.2.1 pc = .ok (.getfield idx, 3)) (hp : pc + 3 = pc')
    (nx : GQ (XA l Z n0 C F cv h0) M kc ks pc' L (I (σ.1 k) :: S) σ o) : GQ (XA l Z n0 C F cv h0) M kc ks pc L (Rf 0 :: S) σ o := by
  subst hp
  refine GQ.heap nx (fun {p e R s m args below meth c T locs cells slots Ls} Y hx hZ hown hnm hby hr hS hF' => ?_)
  obtain ⟨q1, q2⟩ := (hr.1.2 k _ hF).1 rfl
  obtain ⟨T1, Y1, e1, st⟩ := getF Y hx hZ hown (host := "") (Or.inl w) Via.refl rfl q1 (g := mkF m pc Ls ((Rf 0 :: S).map (cval cv))) rfl rfl (hb hby hd)
  exact ⟨T1, locs, Y1, by rw [e1]; exact hr, hS.tl.cons (fitI_in q2), hF', st⟩
theorem GQ.getA (hF : F[k]? = some (some (n, d, ty, len))) (hl : 0 < len) (w : (Jvm.Cond.fieldLink M.1.cls idx C n d).before a0 Z = true) (hd : decode M.2.1 pc = .ok (.getfield idx, 3)) (hp : pc + 3 = pc')
    (nx : GQ (XA l Z n0 C F cv h0) M kc ks pc' L (Rf (k + 1) :: S) σ o) : GQ (XA l Z n0 C F cv h0) M kc ks pc L (Rf 0 :: S) σ o := by
  subst hp
  refine GQ.heap nx (fun {p e R s m args below meth c T locs cells slots Ls} Y hx hZ hown hnm hby hr hS hF' => ?_)
  obtain ⟨q1, q2⟩ := (hr.1.2 k _ hF).2 hl
  obtain ⟨T1, Y1, e1, st⟩ := getF Y hx hZ hown (host := "") (Or.inl w) Via.refl rfl q1 (g := mkF m pc Ls ((Rf 0 :: S).map (cval cv))) rfl rfl (hb hby hd)
  exact ⟨T1, locs, Y1, by rw [e1]; exact hr, hS.tl.cons trivial, hF', st⟩
theorem GQ.putI (K : KA a0 Z n0 C nI F cv) (hF : F[k]? = some (some (n, d, ty, 0))) (w : (Jvm.Cond.fieldLink M.1.cls idx C n d).before a0 Z = true) (wl : (Jvm.Cond.lays C C n d).before a0 Z = true) (hd : decode M.2.1 pc = .ok (.putfield idx, 3)) (hp : pc + 3 = pc')
    (nx : GQ (XA l Z n0 C F cv h0) M kc ks pc' L S (setF σ k (nrw ty x)) o) : GQ (XA l Z n0 C F cv h0) M kc ks pc L (I x :: Rf 0 :: S) σ o := by
  subst hp
  refine GQ.heap nx (fun {p e R s m args below meth c T locs cells slots Ls} Y hx hZ hown hnm hby hr hS hF' => ?_)
  obtain ⟨⟨K1, K2, K3⟩, hI, hn⟩ := K
  obtain ⟨q1, q2⟩ := (hr.1.2 k _ hF).1 rfl
  obtain ⟨c1, c2, c3⟩ := K1 k _ hF
  have hxx : InR x := hS.hd
  obtain ⟨T1, h1, Y1, e1, W1, st⟩ := putFN Y hx hZ hown w Via.refl rfl q1 hr.1.1 (Or.inl wl) K3 (ty := ty) c3 (narrow_nrw c2 hxx) (fits_of (fit_nrw c2 hxx)) (g := mkF m pc Ls ((I x :: Rf 0 :: S).map (cval cv))) rfl rfl (hb hby hd)
  exact ⟨T1, _, Y1, by rw [e1]; exact ⟨hr.1.putF hI ⟨K1, K2, K3⟩ hF rfl (fit_nrw c2 hxx) W1, hr.2.1.wr W1 (Or.inl (okJ.mem (Or.inl rfl))), W1.size.trans hr.2.2⟩, hS.tl.tl, Fr.snoc Y1 hF' (hn 0), st⟩
theorem i_in {i : Int} (hi : InR i) {cs : Nat} (h : 0 ≤ i ∧ i < cs) : (¬ (o32 i < 0 ∨ cs ≤ (o32 i).toNatClampNeg)) ∧ (o32 i).toNatClampNeg = i.toNat := by
  have e1 : (o32 i).toNatClampNeg = i.toNat := by simp only [Int32.toNatClampNeg, t32i hi]
  refine ⟨fun q => ?_, e1⟩
  rw [e1] at q
  rcases q with q | q
  · have := Int32.lt_iff_toInt_lt.mp q; rw [t32i hi] at this; have e0 : (0 : Int32).toInt = 0 := rfl; omega
  · omega
theorem GQ.rd {ins : Instr} {g : Int → Option (Int × Obj)} (hF : F[k]? = some (some (n, d, ty, len))) (hl : 0 < len) (hi : (ins = .iaload ∧ ty = .int) ∨ (ins = .baload ∧ ty = .byte) ∨ (ins = .baload ∧ ty = .boolean) ∨ (ins = .caload ∧ ty = .char)) (hd : decode M.2.1 pc = .ok (ins, 1)) (hp : pc + 1 = pc')
    (nx : ∀ z, GQ (XA l Z n0 C F cv h0) M kc ks pc' L (I z :: S) σ (g z)) : GQ (XA l Z n0 C F cv h0) M kc ks pc L (I i :: Rf (k + 1) :: S) σ (rB (σ.2 k) len i g) := by
  subst hp
  unfold rB
  refine GQ.guard (fun hin => ?_)
  refine GQ.heap (nx _) (fun {p e R s m args below meth c T locs cells slots Ls} Y hx hZ hown hnm hby hr hS hF' => ?_)
  obtain ⟨-, cl, A, q3, q4⟩ := (hr.1.2 k _ hF).2 hl
  obtain ⟨j1, j2⟩ := i_in (cs := cl.slots.size) hS.hd (by rw [q3]; exact hin)
  obtain ⟨v1, v2⟩ := q4 i.toNat (by show i.toNat < len; omega)
  have v1 : cl.slots[(o32 i).toNatClampNeg]? = some (.int (o32 (σ.2 k i.toNat))) := by rw [j2]; exact v1
  have hA : ∀ t, ty = t → s.isArrayOf cl t := fun t e => e ▸ State.isArrayOf_alike hZ.alike A.2.1
  refine ⟨T, locs, Y, hr, hS.tl.tl.cons (fitI_in v2), hF', fun t st => ?_⟩
  have st' : Steps p.tables e below (T.setTop { (mkF m pc Ls ((I i :: Rf (k + 1) :: S).map (cval cv))) with pc := pc + 1, stack := .int (o32 (σ.2 k i.toNat)) :: S.map (cval cv) }) t := st
  rcases hi with ⟨rfl, rfl⟩ | ⟨rfl, rfl⟩ | ⟨rfl, rfl⟩ | ⟨rfl, rfl⟩
  · exact Y.iaload hx A.1 (hA _ rfl) A.2.2 j1 v1 (g := mkF m pc Ls ((I i :: Rf (k + 1) :: S).map (cval cv))) rfl rfl (hb hby hd) t st'
  · exact Y.baloadBytes hx A.1 (hA _ rfl) A.2.2 j1 v1 (g := mkF m pc Ls ((I i :: Rf (k + 1) :: S).map (cval cv))) rfl rfl (hb hby hd) t st'
  · exact Y.baloadBooleans hx A.1 (hA _ rfl) A.2.2 j1 v1 (g := mkF m pc Ls ((I i :: Rf (k + 1) :: S).map (cval cv))) rfl rfl (hb hby hd) t st'
  · exact Y.caload hx A.1 (hA _ rfl) A.2.2 j1 v1 (g := mkF m pc Ls ((I i :: Rf (k + 1) :: S).map (cval cv))) rfl rfl (hb hby hd) t st'
theorem GQ.wr {ins : Instr} {g : Obj → Option (Int × Obj)} (K : KA a0 Z n0 C nI F cv) (hF : F[k]? = some (some (n, d, ty, len))) (hl : 0 < len) (hi : (ins = .iastore ∧ ty = .int) ∨ (ins = .bastore ∧ ty = .byte) ∨ (ins = .bastore ∧ ty = .boolean) ∨ (ins = .castore ∧ ty = .char)) (hd : decode M.2.1 pc = .ok (ins, 1)) (hp : pc + 1 = pc')
    (nx : ∀ s, GQ (XA l Z n0 C F cv h0) M kc ks pc' L S s (g s)) : GQ (XA l Z n0 C F cv h0) M kc ks pc L (I x :: I i :: Rf (k + 1) :: S) σ (wB σ k len i (nrw ty x) g) := by
  subst hp
  unfold wB
  refine GQ.guard (fun hin => ?_)
  refine GQ.heap (nx _) (fun {p e R s m args below meth c T locs cells slots Ls} Y hx hZ hown hnm hby hr hS hF' => ?_)
  obtain ⟨⟨K1, K2, K3⟩, hI, hn⟩ := K
  obtain ⟨-, cl, A, q3, q4⟩ := (hr.1.2 k _ hF).2 hl
  obtain ⟨c1, c2, c3⟩ := K1 k _ hF
  have hxx : InR x := hS.hd
  obtain ⟨j1, j2⟩ := i_in (cs := cl.slots.size) hS.hd2 (by rw [q3]; exact hin)
  have fin : (∃ T' h', Stand p l e R s m args below meth c T' (locs ++ [⟨cv (k + 1), (o32 i).toNatClampNeg⟩]) cells slots ∧ T'.heap = h' ∧ Wr T.heap h' (cv (k + 1)) (o32 i).toNatClampNeg (.int (nar ty (o32 x))) ∧ ∀ target, Steps p.tables e below (T'.setTop { (mkF m pc Ls ((I x :: I i :: Rf (k + 1) :: S).map (cval cv))) with pc := pc + 1, stack := S.map (cval cv) }) target → Steps p.tables e below (T.setTop (mkF m pc Ls ((I x :: I i :: Rf (k + 1) :: S).map (cval cv)))) target) →
      ∃ (T1 : State) (locs1 : List Loc), Stand p l e R s m args below meth c T1 locs1 cells slots ∧ (XA l Z n0 C F cv h0).rep (setA σ k i.toNat (nrw ty x)) T1.heap ∧ SOk S ∧ Fr n0 locs1 ∧ ∀ target, Steps p.tables e below (T1.setTop (mkF m (pc + 1) Ls (S.map (cval cv)))) target → Steps p.tables e below (T.setTop (mkF m pc Ls ((I x :: I i :: Rf (k + 1) :: S).map (cval cv)))) target := by
    rintro ⟨T1, h1, Y1, e1, W1, st⟩
    rw [j2, nar_nrw c2 hxx] at W1
    exact ⟨T1, _, Y1, by rw [e1]; exact ⟨hr.1.putA hI hF hl (fit_nrw c2 hxx) W1, hr.2.1.wr W1 (Or.inl (okJ.mem (okJ.arr hF hl))), W1.size.trans hr.2.2⟩, hS.tl.tl.tl, Fr.snoc Y1 hF' (hn _), st⟩
  rcases hi with ⟨rfl, rfl⟩ | ⟨rfl, rfl⟩ | ⟨rfl, rfl⟩ | ⟨rfl, rfl⟩
  · exact fin (stI Y hx hZ rfl A j1 rfl rfl (hb hby hd))
  · exact fin (stB Y hx hZ rfl A j1 rfl rfl (hb hby hd))
  · exact fin (stZ Y hx hZ rfl A j1 rfl rfl (hb hby hd))
  · exact fin (stC Y hx hZ rfl A j1 rfl rfl (hb hby hd))
theorem GQ.lenA (hF : F[k]? = some (some (n, d, ty, len))) (hl : decide (0 < len ∧ len < 2147483648) = true) (hd : decode M.2.1 pc = .ok (.arraylength, 1)) (hp : pc + 1 = pc')
    (nx : GQ (XA l Z n0 C F cv h0) M kc ks pc' L (I (len : Int) :: S) σ o) : GQ (XA l Z n0 C F cv h0) M kc ks pc L (Rf (k + 1) :: S) σ o := by
  subst hp
  obtain ⟨hl1, hl2⟩ := of_decide_eq_true hl
  refine GQ.heap nx (fun {p e R s m args below meth c T locs cells slots Ls} Y hx hZ hown hnm hby hr hS hF' => ?_)
  obtain ⟨-, cl, A, q3, q4⟩ := (hr.1.2 k _ hF).2 hl1
  refine ⟨T, locs, Y, hr, hS.tl.cons (show InR (len : Int) from ⟨by omega, by omega⟩), hF', fun t st => ?_⟩
  refine Y.arraylength hx A.1 (State.isArrayOf_alike hZ.alike A.2.1) (g := mkF m pc Ls ((Rf (k + 1) :: S).map (cval cv))) rfl rfl (hb hby hd) t ?_
  have e1 : cl.slots.size.toInt32 = o32 (len : Int) := by rw [q3]; apply Int32.toInt_inj.mp; rw [len_toInt (by show len < 2 ^ 31; omega), t32i ⟨by omega, by omega⟩]
  rw [e1]; exact st
theorem XA.recv (h : Heap) (hr : (XA l Z n0 C F cv h0).rep σ h) : ∃ cell, h[(XA l Z n0 C F cv h0).cv 0]? = some cell ∧ ∀ q, cell.vm ≠ .statics q := hr.1.1.cell
theorem XA.exa (h : Heap) (hr : (XA l Z n0 C F cv h0).rep σ h) : Exa (XA l Z n0 C F cv h0).2.1 h ((XA l Z n0 C F cv h0).cv 0) C := hr.1.1
end MemRules
/-! the constructor: its field initialisers, then its body -/
def cvO (pos : Nat → Nat) (a : Nat) : Nat → Nat
  | 0 => a
  | k + 1 => a + 1 + pos k
abbrev PS : Type := (Nat → Int) × (Nat → Bool) × Nat
def IRep (Z : State) (C : String) (F : List (Option Fe)) (cv : Nat → Nat) (h0 : Heap) (q : PS) (h : Heap) : Prop :=
  Exa Z h (cv 0) C ∧ h.size = h0.size + q.2.2 ∧ Keep h0 h [cv 0] ∧ cv 0 < h0.size ∧ (∀ (k : Nat) (e : Fe), F[k]? = some (some e) → (e.2.2.2 = 0 → Fld Z h (cv 0) C e.1 e.2.1 (.int (o32 (q.1 k))) ∧ fitI e.2.2.1 (q.1 k)) ∧ (0 < e.2.2.2 → (q.2.1 k = true → Fld Z h (cv 0) C e.1 e.2.1 (.ref (cv (k + 1))) ∧ ARep Z h (cv (k + 1)) e.2.2.1 e.2.2.2 (fun _ => 0) ∧ h0.size ≤ cv (k + 1)) ∧ (q.2.1 k = false → Fld Z h (cv 0) C e.1 e.2.1 .null)))
def XP (l : Launch) (Z : State) (n0 : Nat) (C : String) (F : List (Option Fe)) (pos : Nat → Nat) (a : Nat) (h0 : Heap) (nA : Nat) : Cx (Sum PS Obj) :=
  (l, Z, n0, cvO pos a, fun q h => match q with
    | .inl q => IRep Z C F (cvO pos a) h0 q h
    | .inr σ => ORep Z C F (cvO pos a) σ h ∧ Keep h0 h [a] ∧ h.size = h0.size + nA)
theorem ARep.new {Z : State} {h : Heap} {a : Nat} {cA : ClassId} {ty : FieldType} {n : Int} (hi : intK ty = true) (A : Arr Z h a (newA cA ty (o32 n)) ty) (hn : 0 ≤ n) (hb : n < 2147483648) : ARep Z h a ty n.toNat (fun _ => 0) := by
  have e : (o32 n).toNatClampNeg = n.toNat := by simp only [Int32.toNatClampNeg, t32i (show InR n from ⟨by omega, hb⟩)]
  refine ⟨_, A, by rw [sz_new, e], fun i hi' => ⟨?_, ?_⟩⟩
  · have : (newA cA ty (o32 n)).slots[i]? = some (defaultValue ty) := by simp [newA, e, hi']
    rw [this]
    cases ty <;> first | rfl | (exact absurd hi (by decide)) | (simp [intK] at hi)
  · cases ty <;> first | (exact Or.inl rfl) | (simp only [fitI, InR]; omega) | (simp [intK] at hi)
theorem ARep.ext {Z : State} {h h' : Heap} {a : Nat} {ty : FieldType} {len : Nat} {f : Nat → Int} (E : Ext h h') (A : ARep Z h a ty len f) : ARep Z h' a ty len f := by
  obtain ⟨c, h1, h2⟩ := A; exact ⟨c, h1.ext E, h2⟩
section Init
variable {l : Launch} {Z : State} {n0 : Nat} {C : String} {F : List (Option Fe)} {pos : Nat → Nat} {a : Nat} {h0 : Heap} {nA : Nat} {M : Mi} {kc ks pc pc' idx k nI : Nat} {L L' : List (Option AV)} {S S' : List AV} {q : PS} {o : Option (Int × Sum PS Obj)} {x y i : Int} {a0 : Array Value} {n d : String} {ty : FieldType} {len : Nat}
theorem GQ.init0 (w1 : (Jvm.Cond.methodLink M.1.cls idx Lib.objectInit).before a0 Z = true) (w2 : (Jvm.Cond.instanceMethod Lib.objectInit).before a0 Z = true) (w3 : (Jvm.Cond.code Lib.objectInit ⟨#[0xb1]⟩ 1 none).before a0 Z = true) (hf : 1 ≤ M.2.2.2.2.1) (hl : 12 ≤ M.2.2.2.2.2) (hd : decode M.2.1 pc = .ok (.invokespecial idx, 3)) (hp : pc + 3 = pc') {σ : Sum PS Obj}
    (nx : GQ (XP l Z n0 C F pos a h0 nA) M kc ks pc' L [] σ o) : GQ (XP l Z n0 C F pos a h0 nA) M kc ks pc L [Rf 0] σ o := by
  intro z σ' ho p e R s m args below meth c T locs cells slots Ls Y hx hZ hown hnm hby hml hrt hf' hl' hc hs hrep hL hS hLl hF
  subst hp
  obtain ⟨T1, Y1, e1, st⟩ := initO Y hx hZ hown w1 w2 w3 rfl (g := mkF m pc Ls ([Rf 0].map (cval (cvO pos a)))) rfl (by show Ls.size = _; rw [hL.1, hLl, hml]) (a := a) (rest := []) rfl (hb hby hd) (by omega) (W := 0) (by show 2 * 0 + _ ≤ _; exact Nat.le_refl _) (by omega)
  obtain ⟨T', locs', Y', hrep', hF', hv1, hv2, st'⟩ := nx z σ' ho p e R s m args below meth c T1 locs cells slots Ls Y1 hx hZ hown hnm hby hml hrt hf' hl' hc hs (by rw [e1]; exact hrep) hL hS.tl hLl hF
  exact ⟨T', locs', Y', hrep', hF', hv1, hv2, fun fs hfs => st _ (st' fs hfs)⟩
theorem GQ.ini (K : CA a0 Z C nI F) (hn0 : n0 ≤ a) (hF : F[k]? = some (some (n, d, ty, 0))) (w : (Jvm.Cond.fieldLink M.1.cls idx C n d).before a0 Z = true) (wl : (Jvm.Cond.lays C C n d).before a0 Z = true ∨ ((Jvm.Cond.laysFinal C C n d).before a0 Z = true ∧ M.1.cls = C ∧ M.1.name = "<init>")) (hd : decode M.2.1 pc = .ok (.putfield idx, 3)) (hp : pc + 3 = pc')
    (nx : GQ (XP l Z n0 C F pos a h0 nA) M kc ks pc' L S (.inl (upd q.1 k (nrw ty x), q.2)) o) : GQ (XP l Z n0 C F pos a h0 nA) M kc ks pc L (I x :: Rf 0 :: S) (.inl q) o := by
  subst hp
  refine GQ.heap nx (fun {p e R s m args below meth c T locs cells slots Ls} Y hx hZ hown hnm hby hr hS hF' => ?_)
  obtain ⟨r1, r2, r3, r4, r5⟩ := hr
  have r4 : h0.size > cvO pos a 0 := r4
  obtain ⟨q1, q2⟩ := (r5 k _ hF).1 rfl
  obtain ⟨K1, K2, K3⟩ := K
  obtain ⟨c1, c2, c3⟩ := K1 k _ hF
  have hxx : InR x := hS.hd
  obtain ⟨T1, h1, Y1, e1, W1, st⟩ := putFN Y hx hZ hown w Via.refl rfl q1 r1 (wl.imp id fun g => ⟨g.1, g.2.1, hnm.trans g.2.2⟩) K3 (ty := ty) c3 (narrow_nrw c2 hxx) (fits_of (fit_nrw c2 hxx)) (g := mkF m pc Ls ((I x :: Rf 0 :: S).map (cval (cvO pos a)))) rfl rfl (hb hby hd)
  have ne : ∀ j, h0.size ≤ cvO pos a (j + 1) → cvO pos a (j + 1) ≠ cvO pos a 0 := fun j hj q => by rw [q] at hj; omega
  refine ⟨T1, _, Y1, ?_, hS.tl.tl, Fr.snoc Y1 hF' hn0, st⟩
  rw [e1]
  refine ⟨r1.wr W1, W1.size.trans r2, r3.wr W1 (Or.inl (List.mem_singleton.mpr rfl)), r4, fun j e' hj => ⟨fun hl' => ?_, fun hl' => ⟨fun ha => ?_, fun ha => ?_⟩⟩⟩
  · obtain ⟨p1, p2⟩ := (r5 j e' hj).1 hl'
    by_cases ej : j = k
    · subst ej
      cases hF.symm.trans hj
      show Fld Z h1 _ C n d (.int (o32 (upd q.1 j (nrw ty x) j))) ∧ fitI ty (upd q.1 j (nrw ty x) j)
      rw [upd_same]; exact ⟨p1.same W1, fit_nrw c2 hxx⟩
    · show Fld Z h1 _ C e'.1 e'.2.1 (.int (o32 (upd q.1 k (nrw ty x) j))) ∧ fitI e'.2.2.1 (upd q.1 k (nrw ty x) j)
      rw [upd_ne _ _ ej]
      exact ⟨p1.other W1 (Or.inr (slot_ne (K1 j e' hj).1 c1 (fun z => ej (K2 j k e' _ hj hF z)) (K1 j e' hj).2.2 c3)), p2⟩
  all_goals have ej : j ≠ k := fun z => by subst z; cases hF.symm.trans hj; exact absurd hl' (Nat.lt_irrefl 0)
  · obtain ⟨p1, p2, p3⟩ := ((r5 j e' hj).2 hl').1 ha
    exact ⟨p1.other W1 (Or.inr (slot_ne (K1 j e' hj).1 c1 (fun z => ej (K2 j k e' _ hj hF z)) (K1 j e' hj).2.2 c3)), p2.other W1 (ne j p3), p3⟩
  · exact (((r5 j e' hj).2 hl').2 ha).other W1 (Or.inr (slot_ne (K1 j e' hj).1 c1 (fun z => ej (K2 j k e' _ hj hF z)) (K1 j e' hj).2.2 c3))
theorem GQ.newA {aty : ArrayType} {pc1 : Nat} (K : CA a0 Z C nI F) (hn0 : n0 ≤ a) (hF : F[k]? = some (some (n, d, newarray.typeOf aty, x.toNat))) (hx0 : decide (0 < x ∧ x * 8 ≤ 536870912) = true) (hal : q.2.1 k = false) (hcv : h0.size = a + 1) (hpos : pos k = q.2.2) (wa : (Jvm.Cond.arrayClass (newarray.typeOf aty)).before a0 Z = true)
    (w : (Jvm.Cond.fieldLink M.1.cls idx C n d).before a0 Z = true) (wl : (Jvm.Cond.lays C C n d).before a0 Z = true ∨ ((Jvm.Cond.laysFinal C C n d).before a0 Z = true ∧ M.1.cls = C ∧ M.1.name = "<init>"))
    (hd : decode M.2.1 pc = .ok (.newarray aty, 2)) (hp1 : pc + 2 = pc1) (hd' : decode M.2.1 pc1 = .ok (.putfield idx, 3)) (hp : pc1 + 3 = pc')
    (nx : GQ (XP l Z n0 C F pos a h0 nA) M kc ks pc' L S (.inl (q.1, upd q.2.1 k true, q.2.2 + 1)) o) : GQ (XP l Z n0 C F pos a h0 nA) M (kc + 1) (ks + x.toNat) pc L (I x :: Rf 0 :: S) (.inl q) o := by
  subst hp hp1
  intro z σ' ho p e R s m args below meth c T locs cells slots Ls Y hx hZ hown hnm hby hml hrt hf' hl' hc hs hrep hL hS hLl hF'
  obtain ⟨r1, r2, r3, r4, r5⟩ := hrep
  have r2 : T.heap.size = h0.size + q.2.2 := r2
  have r4 : h0.size > cvO pos a 0 := r4
  obtain ⟨K1, K2, K3⟩ := K
  obtain ⟨c1, c2, c3⟩ := K1 k _ hF
  obtain ⟨x1, x2⟩ := of_decide_eq_true hx0
  have hxx : InR x := hS.hd
  have hxn : (o32 x).toNatClampNeg = x.toNat := by simp only [Int32.toNatClampNeg, t32i hxx]
  have hxneg : ¬ o32 x < 0 := fun q => by have := Int32.lt_iff_toInt_lt.mp q; rw [t32i hxx] at this; have e0 : (0 : Int32).toInt = 0 := rfl; omega
  have p0 := ((r5 k _ hF).2 (by show 0 < x.toNat; omega)).2 hal
  obtain ⟨cA, kA, comp, f1, f2, f3, Y1, st1⟩ := Y.newarrayPrim hx (mvA hZ wa) (g := mkF m pc Ls ((I x :: Rf 0 :: S).map (cval (cvO pos a)))) rfl (hb hby hd) (n := o32 x) (rest := (Rf 0 :: S).map (cval (cvO pos a))) rfl hxneg (Nat.le_trans (Nat.mul_le_mul (Nat.le_of_eq hxn) (show componentBytes (newarray.typeOf aty) ≤ 8 by cases aty <;> decide)) (by omega)) (by omega) (by omega)
  obtain ⟨h1, e1⟩ : ∃ h1, (T.pushCell { cls := cA, slots := Array.replicate (o32 x).toNatClampNeg (defaultValue (newarray.typeOf aty)), vm := .none }).heap = h1 := ⟨_, rfl⟩
  have e1' : h1 = T.heap.push (newA cA (newarray.typeOf aty) (o32 x)) := e1.symm
  have hk2 : h1.size = T.heap.size + 1 := by rw [e1']; simp
  have E1 : Ext T.heap h1 := ⟨by omega, fun b c hb => by rw [e1', Array.getElem?_push_lt (Array.getElem?_eq_some_iff.mp hb).1]; exact (Array.getElem?_eq_getElem _).symm.trans hb⟩
  have A1 : Arr Z h1 T.heap.size (newA cA (newarray.typeOf aty) (o32 x)) (newarray.typeOf aty) := by
    rw [hZ.alike.findClass] at f1
    obtain ⟨kZ, z1, -⟩ := Vm.findClass_spec f1
    obtain ⟨k', z2, z3⟩ := hZ.alike.2.2 _ _ z1
    cases f2.symm.trans z2
    exact ⟨by rw [e1']; simp, ⟨by simp [newA], kZ, z1, comp, by rw [← f3, z3]⟩, by simp [newA]⟩
  have hsz : T.heap.size = cvO pos a (k + 1) := by rw [r2, hcv, ← hpos]; rfl
  rw [hsz] at A1 st1
  have p0' : Fld Z h1 (cvO pos a 0) C n d .null := p0.ext E1
  have c3' : parseFieldDescriptor d = some (.array (newarray.typeOf aty)) := by
    have q0 : ¬ x.toNat = 0 := by omega
    simpa [q0] using c3
  obtain ⟨T2, h2, Y2, e2, W2, st2⟩ := putF Y1 hx hZ hown (host := "") (Or.inl w) Via.refl e1 p0' (r1.ext E1) (wl.imp id fun g => ⟨g.1, g.2.1, hnm.trans g.2.2⟩) K3 (ty := .array (newarray.typeOf aty)) c3' (v := .ref (cvO pos a (k + 1))) rfl rfl (g := mkF m (pc + 2) Ls (.ref (cvO pos a (k + 1)) :: (Rf 0 :: S).map (cval (cvO pos a)))) rfl rfl (hb hby hd')
  have nek : h0.size ≤ cvO pos a (k + 1) := by rw [← hsz]; omega
  have ne : ∀ j, h0.size ≤ cvO pos a (j + 1) → cvO pos a (j + 1) ≠ cvO pos a 0 := fun j hj q => by rw [q] at hj; omega
  have hrep2 : IRep Z C F (cvO pos a) h0 (q.1, upd q.2.1 k true, q.2.2 + 1) T2.heap := by
    rw [e2]
    refine ⟨(r1.ext E1).wr W2, by rw [W2.size, hk2, r2]; show _ = h0.size + (q.2.2 + 1); omega, (r3.ext E1).wr W2 (Or.inl (List.mem_singleton.mpr rfl)), r4, fun j e' hj => ⟨fun hl' => ?_, fun hl' => ⟨fun ha => ?_, fun ha => ?_⟩⟩⟩
    · obtain ⟨p1, p2⟩ := (r5 j e' hj).1 hl'
      have ej : j ≠ k := fun z => by subst z; cases hF.symm.trans hj; simp at hl'; omega
      exact ⟨(p1.ext E1).other W2 (Or.inr (slot_ne (K1 j e' hj).1 c1 (fun z => ej (K2 j k e' _ hj hF z)) (K1 j e' hj).2.2 c3)), p2⟩
    · by_cases ej : j = k
      · subst ej
        cases hF.symm.trans hj
        exact ⟨p0'.same W2, (ARep.new c2 A1 (by omega) (by omega)).other W2 (ne j nek), nek⟩
      · have ha' : q.2.1 j = true := by have : upd q.2.1 k true j = true := ha; rwa [upd_ne _ _ ej] at this
        obtain ⟨p1, p2, p3⟩ := ((r5 j e' hj).2 hl').1 ha'
        exact ⟨(p1.ext E1).other W2 (Or.inr (slot_ne (K1 j e' hj).1 c1 (fun z => ej (K2 j k e' _ hj hF z)) (K1 j e' hj).2.2 c3)), (p2.ext E1).other W2 (ne j p3), p3⟩
    · have ej : j ≠ k := fun z => by subst z; have : upd q.2.1 j true j = false := ha; rw [upd_same] at this; cases this
      have ha' : q.2.1 j = false := by have : upd q.2.1 k true j = false := ha; rwa [upd_ne _ _ ej] at this
      exact ((((r5 j e' hj).2 hl').2 ha').ext E1).other W2 (Or.inr (slot_ne (K1 j e' hj).1 c1 (fun z => ej (K2 j k e' _ hj hF z)) (K1 j e' hj).2.2 c3))
  obtain ⟨T', locs', Y', hrep', hF'', hv1, hv2, st'⟩ := nx z σ' ho p e R s m args below meth c T2 _ _ _ Ls Y2 hx hZ hown hnm hby hml hrt hf' hl' (by omega) (by omega) hrep2 hL hS.tl.tl hLl (Fr.snoc Y2 hF' hn0)
  refine ⟨T', locs', by rw [show cells + (kc + 1) = cells + 1 + kc by omega, show slots + (ks + x.toNat) = slots + (o32 x).toNatClampNeg + ks by omega]; exact Y', hrep', hF'', hv1, hv2, fun fs hfs => st1 _ (st2 _ (st' fs hfs))⟩
end Init
section Init2
variable {l : Launch} {Z : State} {n0 : Nat} {C : String} {F : List (Option Fe)} {pos : Nat → Nat} {a : Nat} {h0 : Heap} {nA : Nat} {M : Mi} {pc : Nat} {L : List (Option AV)} {S : List AV} {q : PS} {o : Option (Int × Obj)}
def emb (o : Option (Int × Obj)) : Option (Int × Sum PS Obj) := o.map fun r => (r.1, .inr r.2)
theorem GQ.body (hal : ∀ (k : Nat) (e : Fe), F[k]? = some (some e) → 0 < e.2.2.2 → q.2.1 k = true) (hcnt : q.2.2 = nA) (hcv : h0.size = a + 1)
    (H : ∀ h1, GQ (XA l Z n0 C F (cvO pos a) h1) M 0 0 pc L S (q.1, fun _ _ => 0) o) : GQ (XP l Z n0 C F pos a h0 nA) M 0 0 pc L S (.inl q) (emb o) := by
  intro z σ' ho p e R s m args below meth c T locs cells slots Ls Y hx hZ hown hnm hby hml hrt hf' hl' hc hs hrep hL hS hLl hF'
  cases hoo : o with
  | none => rw [hoo] at ho; exact nomatch ho
  | some r =>
    obtain ⟨z1, σ1⟩ := r
    rw [hoo] at ho
    cases ho
    obtain ⟨r1, r2, r3, r4, r5⟩ := hrep
    have hO : ORep Z C F (cvO pos a) (q.1, fun _ _ => 0) T.heap := ⟨r1, fun k e hk => ⟨(r5 k e hk).1, fun hl => by
      obtain ⟨p1, p2, -⟩ := ((r5 k e hk).2 hl).1 (hal k e hk hl)
      exact ⟨p1, p2⟩⟩⟩
    obtain ⟨T', locs', Y', ⟨g1, g2, g3⟩, hF'', hv1, hv2, st'⟩ := H T.heap z1 σ1 hoo p e R s m args below meth c T locs cells slots Ls Y hx hZ hown hnm hby hml hrt hf' hl' hc hs ⟨hO, Keep.refl _ _, rfl⟩ hL hS hLl hF'
    refine ⟨T', locs', Y', ⟨g1, r3.trans g2 (fun x hx => ?_), ?_⟩, hF'', hv1, hv2, st'⟩
    · obtain ⟨j, -, rfl⟩ := List.mem_map.mp hx
      cases j with
      | zero => exact Or.inl (List.mem_singleton.mpr rfl)
      | succ j => refine Or.inr ?_; rw [hcv]; show a + 1 ≤ a + 1 + pos j; omega
    · rw [g3, r2, hcnt]
end Init2
/-! the law: objects made, methods called, the script read -/
abbrev MB : Type := List Obj × Bool
def Fresh (Z : State) (C : String) (F : List (Option Fe)) (a : Nat) (h : Heap) : Prop := Exa Z h a C ∧ ∀ (k : Nat) (e : Fe), F[k]? = some (some e) → (e.2.2.2 = 0 → Fld Z h a C e.1 e.2.1 (.int (o32 0))) ∧ (0 < e.2.2.2 → Fld Z h a C e.1 e.2.1 .null)
def cvB (n0 nA : Nat) (sa : Nat) : Nat → Nat
  | 0 => sa
  | j + 1 => n0 + j * (nA + 1)
def RepB (Z : State) (n0 : Nat) (C : String) (F : List (Option Fe)) (pos : Nat → Nat) (nA : Nat) (sa : Nat) (scr : Option (Nat × (Nat → Int))) (w : MB) (h : Heap) : Prop :=
  h.size = n0 + w.1.length * (nA + 1) + (if w.2 then 1 else 0) ∧ (∀ (j : Nat) (σ : Obj), w.1[j]? = some σ → ORep Z C F (cvO pos (n0 + j * (nA + 1))) σ h) ∧ (w.2 = true → Fresh Z C F (n0 + w.1.length * (nA + 1)) h) ∧ ∀ n f, scr = some (n, f) → ARep Z h sa .int n f ∧ n0 > sa ∧ n < 2147483648
def XB (l : Launch) (Z : State) (n0 : Nat) (C : String) (F : List (Option Fe)) (pos : Nat → Nat) (nA : Nat) (sa : Nat) (scr : Option (Nat × (Nat → Int))) : Cx MB := (l, Z, n0, cvB n0 nA sa, RepB Z n0 C F pos nA sa scr)
/-- the words on the class, and where a new object's arrays lie -/
def KB (a0 : Array Value) (Z : State) (C : String) (nI : Nat) (F : List (Option Fe)) (pos : Nat → Nat) (nA : Nat) : Prop :=
  CA a0 Z C nI F ∧ (∀ k, pos k < nA) ∧ ∀ (k k' : Nat) (e e' : Fe), F[k]? = some (some e) → F[k']? = some (some e') → 0 < e.2.2.2 → 0 < e'.2.2.2 → pos k = pos k' → k = k'
def newB (n : Nat) (w : MB) (f : MB → Option (Int × MB)) : Option (Int × MB) := if w.1.length = n ∧ w.2 = false then f (w.1, true) else none
def iniB (n : Nat) (m : Option (Int × Obj)) (w : MB) (f : MB → Option (Int × MB)) : Option (Int × MB) := if w.1.length = n ∧ w.2 = true then (match m with
  | none => none
  | some r => f (w.1 ++ [r.2], false)) else none
def virB (j : Nat) (m : Obj → Option (Int × Obj)) (w : MB) (f : Int → MB → Option (Int × MB)) : Option (Int × MB) := match w.1[j]? with
  | none => none
  | some σ => match m σ with
    | none => none
    | some r => f r.1 (w.1.set j r.2, w.2)
theorem cval_nr {cv cv' : Nat → Nat} {v : AV} (h : ∀ n, v ≠ Rf n) : cval cv v = cval cv' v := by
  rcases v with x | x | n
  · rfl
  · rfl
  · exact absurd rfl (h n)
theorem map_nr {cv cv' : Nat → Nat} {A : List AV} (h : ∀ v ∈ A, ∀ n, v ≠ Rf n) : A.map (cval cv) = A.map (cval cv') := List.map_congr_left fun v hv => cval_nr (h v hv)
theorem KB.inj {a0 : Array Value} {Z : State} {C : String} {nI : Nat} {F : List (Option Fe)} {pos : Nat → Nat} {nA : Nat} (K : KB a0 Z C nI F pos nA) (a : Nat) : Inj F (cvO pos a) := by
  intro j j' hj hj' e
  rcases hj with rfl | ⟨k, f, rfl, h1, h2⟩ <;> rcases hj' with rfl | ⟨k', f', rfl, h1', h2'⟩
  · rfl
  · exfalso; have e : a = a + 1 + pos k' := e; omega
  · exfalso; have e : a + 1 + pos k = a := e; omega
  · have e : a + 1 + pos k = a + 1 + pos k' := e
    rw [K.2.2 k k' f f' h1 h1' h2 h2' (by omega)]
theorem cvO_ge (pos : Nat → Nat) (a : Nat) (j : Nat) : a ≤ cvO pos a j := by cases j with | zero => exact Nat.le_refl _ | succ j => show a ≤ a + 1 + pos j; omega
theorem cvO_lt {pos : Nat → Nat} {nA : Nat} (hp : ∀ k, pos k < nA) (a : Nat) (j : Nat) : cvO pos a j < a + (nA + 1) := by cases j with | zero => show a < a + (nA + 1); omega | succ j => have := hp j; show a + 1 + pos j < a + (nA + 1); omega
theorem box_ne {n0 nA j j' x : Nat} (h : j ≠ j') (h1 : n0 + j * (nA + 1) ≤ x) (h2 : x < n0 + j * (nA + 1) + (nA + 1)) (h3 : n0 + j' * (nA + 1) ≤ x) (h4 : x < n0 + j' * (nA + 1) + (nA + 1)) : False := by
  rcases Nat.lt_or_gt_of_ne h with q | q
  · have := Nat.mul_le_mul_right (nA + 1) (show j + 1 ≤ j' from q); rw [Nat.add_mul] at this; omega
  · have := Nat.mul_le_mul_right (nA + 1) (show j' + 1 ≤ j from q); rw [Nat.add_mul] at this; omega
section Law
variable {l : Launch} {Z : State} {n0 : Nat} {C : String} {F : List (Option Fe)} {pos : Nat → Nat} {nA : Nat} {sa : Nat} {scr : Option (Nat × (Nat → Int))} {M Mc : Mi} {kc ks pc pc' idx nI n : Nat} {L L' : List (Option AV)} {S S' : List AV} {w : MB} {o : Option (Int × MB)} {x y i : Int} {a0 : Array Value}
theorem RepB.size_le {h : Heap} (R : RepB Z n0 C F pos nA sa scr w h) {j : Nat} {σ : Obj} (hj : w.1[j]? = some σ) : n0 + j * (nA + 1) + (nA + 1) ≤ h.size := by
  have h1 := (List.getElem?_eq_some_iff.mp hj).1
  have := Nat.mul_le_mul_right (nA + 1) (show j + 1 ≤ w.1.length from h1)
  rw [Nat.add_mul] at this
  rw [R.1]; omega
/-- a method of object j by its walk -/
theorem GQ.vir {j : Nat} {args0 : List AV} {m : Obj → Option (Int × Obj)} {f : Int → MB → Option (Int × MB)} (KB0 : KB a0 Z C nI F pos nA) (K : Callee a0 Z M Mc args0.length) (hroom0 : Nat.ble (cat S + (Mc.2.2.1 + 11) + Mc.2.2.2.2.2) M.2.2.2.2.2 = true) (hC : Mc.1.cls = C) (hd : decode M.2.1 pc = .ok (.invokevirtual idx, 3)) (hp : pc + 3 = pc')
    (w1 : (Jvm.Cond.methodLink M.1.cls idx Mc.1).before a0 Z = true) (w2 : (Jvm.Cond.instanceMethod Mc.1).before a0 Z = true) (w3 : (Jvm.Cond.declares Mc.1).before a0 Z = true) (w4 : (Jvm.Cond.selects Mc.1.cls Mc.1 Mc.1).before a0 Z = true)
    (hnr : ∀ v ∈ args0, ∀ n, v ≠ Rf n) (hm0 : Nat.ble (spread (Rf 0 :: args0)).length Mc.2.2.1 = true)
    (H : ∀ (cv : Nat → Nat) (h0 : Heap) (σ : Obj), KA a0 Z n0 C nI F cv → GQ (XA l Z n0 C F cv h0) Mc 0 0 0 (entry (Rf 0 :: args0) Mc.2.2.1) [] σ (m σ)) (hst : S' = args0.reverse ++ Rf (j + 1) :: S)
    (nx : ∀ z w', GQ (XB l Z n0 C F pos nA sa scr) M kc ks pc' L ((rval Mc.2.2.2.1 z).toList ++ S) w' (f z w')) : GQ (XB l Z n0 C F pos nA sa scr) M kc ks pc L S' w (virB j m w f) := by
  intro z σ' ho p e R s mm args below meth c T locs cells slots Ls Y hx hZ hown hnm hby hml hrt hf hl hc hs hrep hL hS hLl hF
  subst hst hp
  obtain ⟨k1, k2, k3, k4, k5, k6⟩ := K
  have hroom := Nat.le_of_ble_eq_true hroom0
  have hm := Nat.le_of_ble_eq_true hm0
  unfold virB at ho
  cases hj : w.1[j]? with
  | none => rw [hj] at ho; exact nomatch ho
  | some σ =>
  rw [hj] at ho
  cases hoc : m σ with
  | none => simp only [hoc] at ho; exact nomatch ho
  | some q =>
    obtain ⟨z1, σ1⟩ := q
    simp only [hoc] at ho
    have hS0 := hS.app
    have hrep' : RepB Z n0 C F pos nA sa scr w T.heap := hrep
    obtain ⟨b1, b2, b3, b4⟩ := hrep'
    have hO := b2 j σ hj
    have hka : KA a0 Z n0 C nI F (cvO pos (n0 + j * (nA + 1))) := ⟨KB0.1, KB0.inj _, fun i => Nat.le_trans (Nat.le_add_right _ _) (cvO_ge pos _ i)⟩
    have Hc := H (cvO pos (n0 + j * (nA + 1))) T.heap σ hka
    rw [hoc] at Hc
    have hg : ∀ w ∈ Rf 0 :: args0, good w := fun w hw => (List.mem_cons.mp hw).elim (fun q => q ▸ trivial) (fun q => hS0.1 w (List.mem_reverse.mpr q))
    have hE : Exa Z T.heap (n0 + j * (nA + 1)) Mc.1.cls := by rw [hC]; exact hO.1
    obtain ⟨cq, kq, qa, qb, qc⟩ := isOf (T := T) hZ rfl hE
    obtain ⟨v, vm1, ⟨T1, L1, c1, n1⟩, -, Y1, ⟨Lc, ⟨hv, hr1, hF1, hg1⟩, l1, l2, l3⟩, st⟩ := Y.virtualBack hx (y := Mc.1) (z := Mc.1) hown (mvT hZ w1) (mvT hZ w3) (notFace_of_selects (args := #[]) (mvT hZ w4)) (mvT hZ w4) (mvT hZ w2) k5
      (back_of (X := XA l Z n0 C F (cvO pos (n0 + j * (nA + 1))) T.heap) (W := cat S) Hc rfl k1 hg hm (h := T.heap) ⟨hO, Keep.refl _ _, rfl⟩ hZ k2 k3 (by omega) (by omega)) qa qc (g := mkF mm pc Ls ((args0.reverse ++ Rf (j + 1) :: S).map (cval (cvB n0 nA sa)))) rfl (by show Ls.size = _; rw [hL.1, hLl, hml]) (Steps.refl _) (argsL := args0.map (cval (cvB n0 nA sa))) (rest := S.map (cval (cvB n0 nA sa))) (fun sig q => by rw [List.length_map]; exact k6 sig q) (by simp [cval, cvB]) (by show 2 * 0 + _ ≤ _; rw [cat_eq]; omega) (hb hby hd)
      (fun _ _ => ⟨by show _ = ((Rf 0 :: args0).map (cval (cvO pos (n0 + j * (nA + 1))))).toArray; rw [List.map_cons, map_nr (cv := cvO pos (n0 + j * (nA + 1))) (cv' := cvB n0 nA sa) hnr]; rfl, rfl, by show cells + 0 ≤ _; omega, by show slots + 0 ≤ _; omega⟩)
    dsimp only [Pt.U, Pt.locs, Pt.cells, Pt.slots] at Y1 l1 l2 l3 st hr1
    subst l1 l2 l3 hv
    obtain ⟨g1, g2, g3⟩ := hr1
    have hjl := (List.getElem?_eq_some_iff.mp hj).1
    have wsin : ∀ x : Nat, x ∈ wsOf F (cvO pos (n0 + j * (nA + 1))) → n0 + j * (nA + 1) ≤ x ∧ x < n0 + j * (nA + 1) + (nA + 1) := fun x hx => by
      obtain ⟨i, -, rfl⟩ := List.mem_map.mp hx
      exact ⟨cvO_ge pos _ i, cvO_lt KB0.2.1 _ i⟩
    have hrep1 : RepB Z n0 C F pos nA sa scr (w.1.set j σ1, w.2) T1.heap := by
      refine ⟨by rw [g3, b1]; simp, fun i τ hi => ?_, fun hb' => ?_, fun n f hs' => ?_⟩
      · by_cases e1 : i = j
        · subst e1
          simp [hjl] at hi; subst hi
          exact g1
        · have hi' : w.1[i]? = some τ := by rw [← hi]; exact (List.getElem?_set_ne (Ne.symm e1)).symm
          exact (b2 i τ hi').keep g2 (fun q _ hx => by
            obtain ⟨x1, x2⟩ := wsin _ hx
            exact box_ne e1 (cvO_ge pos _ q) (cvO_lt KB0.2.1 _ q) x1 x2)
      · obtain ⟨f1, f2⟩ := b3 hb'
        have hne : (n0 + w.1.length * (nA + 1)) ∉ wsOf F (cvO pos (n0 + j * (nA + 1))) := fun hx => by
          obtain ⟨x1, x2⟩ := wsin _ hx
          have := Nat.mul_le_mul_right (nA + 1) (show j + 1 ≤ w.1.length from hjl)
          rw [Nat.add_mul] at this; omega
        simp only [List.length_set]
        exact ⟨f1.keep g2, fun k e hk => ⟨fun hl => ((f2 k e hk).1 hl).keep g2 hne, fun hl => ((f2 k e hk).2 hl).keep g2 hne⟩⟩
      · obtain ⟨⟨cl, s1, s2⟩, s3, s4⟩ := b4 n f hs'
        exact ⟨⟨cl, ⟨g2.2.1 _ cl s1.1 (fun hx => by have := (wsin _ hx).1; omega), s1.2⟩, s2⟩, s3, s4⟩
    obtain ⟨T', locs', Y', hrep', hF', hv1, hv2, st'⟩ := nx z1 _ z σ' ho p e R s mm args below meth c T1 _ _ _ Ls Y1 hx hZ hown hnm hby hml hrt hf hl hc hs hrep1 hL (SOk.res hg1 hS0.2.tl) hLl (Fr.app hF hF1)
    refine ⟨T', locs', Y', hrep', hF', hv1, hv2, fun fs hfs => ?_⟩
    have q := st' fs hfs
    refine st.trans ?_
    have e1 : ((rval Mc.2.2.2.1 z1).toList ++ S).map (cval (cvB n0 nA sa)) = ((rval Mc.2.2.2.1 z1).map (cval (cvO pos (n0 + j * (nA + 1))))).toList ++ S.map (cval (cvB n0 nA sa)) := by
      unfold rval; split <;> simp [cval]
    have q' := q
    rw [show (XB l Z n0 C F pos nA sa scr).cv = cvB n0 nA sa from rfl, e1] at q'; exact q'
end Law
/-! small checks by evaluation -/
def distF : List (Option Fe) → Bool
  | [] => true
  | none :: r => distF r
  | some e :: r => r.all (fun o => match o with
    | none => true
    | some e' => e'.1 != e.1) && distF r
theorem distF_ok : ∀ {F : List (Option Fe)}, distF F = true → ∀ (k k' : Nat) (e e' : Fe), F[k]? = some (some e) → F[k']? = some (some e') → e.1 = e'.1 → k = k'
  | [], _, k, k', e, e', h1, _, _ => by simp at h1
  | none :: r, h, k, k', e, e', h1, h2, h3 => by
    cases k with
    | zero => simp at h1
    | succ k => cases k' with
      | zero => simp at h2
      | succ k' => rw [distF_ok (F := r) h k k' e e' (by simpa using h1) (by simpa using h2) h3]
  | some a :: r, h, k, k', e, e', h1, h2, h3 => by
    simp only [distF, Bool.and_eq_true] at h
    obtain ⟨ha, hr⟩ := h
    have key : ∀ (i : Nat) (f : Fe), r[i]? = some (some f) → f.1 ≠ a.1 := fun i f hi q => by
      have := List.all_eq_true.mp ha _ (List.mem_of_getElem? hi)
      simp [q] at this
    cases k with
    | zero =>
      simp at h1; subst h1
      cases k' with
      | zero => rfl
      | succ k' => exact absurd h3.symm (key k' e' (by simpa using h2))
    | succ k => cases k' with
      | zero => simp at h2; subst h2; exact absurd h3 (key k e (by simpa using h1))
      | succ k' => rw [distF_ok (F := r) hr k k' e e' (by simpa using h1) (by simpa using h2) h3]
def alF (al : Nat → Bool) : Nat → List (Option Fe) → Bool
  | _, [] => true
  | k, o :: r => (match o with
    | none => true
    | some e => e.2.2.2 == 0 || al k) && alF al (k + 1) r
theorem alF_ok {al : Nat → Bool} : ∀ {F : List (Option Fe)} {j : Nat}, alF al j F = true → ∀ (k : Nat) (e : Fe), F[k]? = some (some e) → 0 < e.2.2.2 → al (j + k) = true
  | [], _, _, k, e, h1, _ => by simp at h1
  | o :: r, j, h, k, e, h1, h2 => by
    simp only [alF, Bool.and_eq_true] at h
    cases k with
    | zero =>
      simp at h1; subst h1
      have := h.1
      simp only [Bool.or_eq_true, beq_iff_eq] at this
      rcases this with q | q
      · omega
      · exact q
    | succ k =>
      have := alF_ok (F := r) (j := j + 1) h.2 k e (by simpa using h1) h2
      rwa [show j + 1 + k = j + (k + 1) by omega] at this
def posF (P : List Nat) (k : Nat) : Nat := P.getD k 0
theorem posF_lt {P : List Nat} {nA : Nat} (h : P.all (fun x => Nat.blt x nA) = true) (h0 : 0 < nA) (k : Nat) : posF P k < nA := by
  unfold posF
  rw [List.getD_eq_getElem?_getD]
  cases hk : P[k]? with
  | none => exact h0
  | some x => exact Nat.blt_eq.mp (List.all_eq_true.mp h x (List.mem_of_getElem? hk))
/-- the arrays of the table lie one behind the other -/
def seqF : Nat → List (Option Fe) → List Nat → Bool
  | _, [], _ => true
  | c, o :: r, P => (match o with
    | none => seqF c r P.tail
    | some e => if e.2.2.2 = 0 then seqF c r P.tail else Nat.ble c (P.headD 0) && seqF (P.headD 0 + 1) r P.tail)
theorem seqF_ge : ∀ {F : List (Option Fe)} {P : List Nat} {c : Nat}, seqF c F P = true → ∀ (k : Nat) (e : Fe), F[k]? = some (some e) → 0 < e.2.2.2 → c ≤ posF P k
  | [], _, _, _, k, e, h1, _ => by simp at h1
  | o :: r, P, c, h, k, e, h1, h2 => by
    have hp : ∀ k, posF P (k + 1) = posF P.tail k := fun k => by cases P <;> simp [posF]
    cases k with
    | zero =>
      simp at h1; subst h1
      simp only [seqF] at h
      rw [if_neg (by omega)] at h
      simp only [Bool.and_eq_true] at h
      have := Nat.le_of_ble_eq_true h.1
      cases P <;> simpa [posF] using this
    | succ k =>
      rw [hp]
      cases o with
      | none => exact seqF_ge (F := r) h k e (by simpa using h1) h2
      | some a =>
        simp only [seqF] at h
        split at h
        · exact seqF_ge (F := r) h k e (by simpa using h1) h2
        · simp only [Bool.and_eq_true] at h
          have q1 := Nat.le_of_ble_eq_true h.1
          have := seqF_ge (F := r) h.2 k e (by simpa using h1) h2
          omega
theorem seqF_lt : ∀ {F : List (Option Fe)} {P : List Nat} {c : Nat}, seqF c F P = true → ∀ (k k' : Nat) (e e' : Fe), F[k]? = some (some e) → F[k']? = some (some e') → 0 < e.2.2.2 → 0 < e'.2.2.2 → k < k' → posF P k < posF P k'
  | [], _, _, _, k, k', e, e', h1, _, _, _, _ => by simp at h1
  | o :: r, P, c, h, k, k', e, e', h1, h1', h2, h2', hlt => by
    have hp : ∀ k, posF P (k + 1) = posF P.tail k := fun k => by cases P <;> simp [posF]
    cases k' with
    | zero => omega
    | succ k' =>
      cases k with
      | zero =>
        simp at h1; subst h1
        simp only [seqF] at h
        rw [if_neg (by omega)] at h
        simp only [Bool.and_eq_true] at h
        have := seqF_ge (F := r) h.2 k' e' (by simpa using h1') h2'
        rw [hp]
        have e0 : posF P 0 = P.headD 0 := by cases P <;> simp [posF]
        omega
      | succ k =>
        rw [hp, hp]
        cases o with
        | none => exact seqF_lt (F := r) h k k' e e' (by simpa using h1) (by simpa using h1') h2 h2' (by omega)
        | some a =>
          simp only [seqF] at h
          split at h
          · exact seqF_lt (F := r) h k k' e e' (by simpa using h1) (by simpa using h1') h2 h2' (by omega)
          · simp only [Bool.and_eq_true] at h
            exact seqF_lt (F := r) h.2 k k' e e' (by simpa using h1) (by simpa using h1') h2 h2' (by omega)
theorem seqF_inj {F : List (Option Fe)} {P : List Nat} (h : seqF 0 F P = true) (k k' : Nat) (e e' : Fe) (h1 : F[k]? = some (some e)) (h1' : F[k']? = some (some e')) (h2 : 0 < e.2.2.2) (h2' : 0 < e'.2.2.2) (q : posF P k = posF P k') : k = k' := by
  rcases Nat.lt_trichotomy k k' with z | z | z
  · have := seqF_lt h k k' e e' h1 h1' h2 h2' z; omega
  · exact z
  · have := seqF_lt h k' k e' e h1' h1 h2' h2 z; omega
section Law2
variable {l : Launch} {Z : State} {n0 : Nat} {C : String} {F : List (Option Fe)} {pos : Nat → Nat} {nA : Nat} {sa : Nat} {scr : Option (Nat × (Nat → Int))} {M Mc : Mi} {kc ks pc pc' idx nI n : Nat} {L L' : List (Option AV)} {S S' : List AV} {w : MB} {o : Option (Int × MB)} {x y i : Int} {a0 : Array Value}
theorem Fresh.made {h : Heap} {cC : ClassId} {kZ : Class} (K : CA a0 Z C nI F) (h1 : Z.vm.findClass C = some cC) (h2 : Z.vm.classes[cC]? = some kZ) (a : Nat) (hN : h[a]? = some { cls := cC, slots := kZ.instanceTypes.map defaultValue, vm := .none }) : Fresh Z C F a h := by
  have key : ∀ (k : Nat) (e : Fe) (ty : FieldType), F[k]? = some (some e) → parseFieldDescriptor e.2.1 = some ty → Fld Z h a C e.1 e.2.1 (defaultValue ty) := fun k e ty hk ht => by
    obtain ⟨c1, k1, cf, kf, i, f, b1, b2, b3, b4, b5, b6, -⟩ := (K.1 k e hk).1.spec
    cases h1.symm.trans b1
    cases h2.symm.trans b2
    refine ⟨_, cf, kf, i, f, hN, b3, b4, by simp, rfl, b5, ?_⟩
    simp [b6, (State.fieldFound?_type b3 ht).2]
  refine ⟨⟨_, kZ, hN, h1, h2, rfl, fun _ => by simp⟩, fun k e hk => ⟨fun hl => ?_, fun hl => ?_⟩⟩
  · have q := (K.1 k e hk).2.2
    rw [if_pos hl] at q
    have r := key k e _ hk q
    have q2 := (K.1 k e hk).2.1
    revert r q2
    cases e.2.2.1 <;> intro r q2 <;> first | exact r | (simp [intK] at q2)
  · have q := (K.1 k e hk).2.2
    rw [if_neg (by omega)] at q
    exact key k e _ hk q
theorem ORep.ext {σ : Obj} {cv : Nat → Nat} {h h' : Heap} (E : Ext h h') (R : ORep Z C F cv σ h) : ORep Z C F cv σ h' :=
  ⟨R.1.ext E, fun k e hk => ⟨fun hl => ⟨((R.2 k e hk).1 hl).1.ext E, ((R.2 k e hk).1 hl).2⟩, fun hl => ⟨((R.2 k e hk).2 hl).1.ext E, ((R.2 k e hk).2 hl).2.ext E⟩⟩⟩
theorem GQ.new {f : MB → Option (Int × MB)} (KB0 : KB a0 Z C nI F pos nA) (w1 : (Jvm.Cond.classLink M.1.cls idx C).before a0 Z = true) (w2 : (Jvm.Cond.initialized C).before a0 Z = true) (hd : decode M.2.1 pc = .ok (.new idx, 3)) (hp : pc + 3 = pc')
    (nx : ∀ w', GQ (XB l Z n0 C F pos nA sa scr) M kc ks pc' L (Rf (n + 1) :: S) w' (f w')) : GQ (XB l Z n0 C F pos nA sa scr) M (kc + 1) (ks + nI) pc L S w (newB n w f) := by
  subst hp
  unfold newB
  refine GQ.guard (fun hq => ?_)
  obtain ⟨hq1, hq2⟩ := hq
  intro z σ' ho p e R s mm args below meth c T locs cells slots Ls Y hx hZ hown hnm hby hml hrt hf hl hc hs hrep hL hS hLl hF
  have hrep' : RepB Z n0 C F pos nA sa scr w T.heap := hrep
  obtain ⟨b1, b2, b3, b4⟩ := hrep'
  obtain ⟨vm', cC, kC, h1, h2, h3, h4, Y', st⟩ := Y.newCold hx hown (mv hZ w1) (mv hZ KB0.1.2.2) (mv hZ w2) (g := mkF mm pc Ls (S.map (cval (cvB n0 nA sa)))) rfl (hb hby hd) (by omega) (by omega)
  rw [hZ.alike.findClass] at h1
  obtain ⟨kZ, z1, -⟩ := Vm.findClass_spec h1
  obtain ⟨k', z2, z3⟩ := hZ.alike.2.2 _ _ z1
  cases h2.symm.trans z2
  have ei : kC.instanceTypes = kZ.instanceTypes := by rw [z3]
  obtain ⟨h', e1⟩ : ∃ h', ((T.setVm vm').pushCell { cls := cC, slots := kC.instanceTypes.map defaultValue, vm := .none }).heap = h' := ⟨_, rfl⟩
  have e1' : h' = T.heap.push { cls := cC, slots := kC.instanceTypes.map defaultValue, vm := .none } := e1.symm
  have hsz : h'.size = T.heap.size + 1 := by rw [e1']; simp
  have E1 : Ext T.heap h' := ⟨by omega, fun b c hb => by rw [e1', Array.getElem?_push_lt (Array.getElem?_eq_some_iff.mp hb).1]; exact (Array.getElem?_eq_getElem _).symm.trans hb⟩
  have hat : T.heap.size = n0 + w.1.length * (nA + 1) := by rw [b1, hq2]; rfl
  have hfr : Fresh Z C F (n0 + w.1.length * (nA + 1)) h' := Fresh.made KB0.1 h1 z1 _ (by rw [← hat, e1', ← ei]; simp)
  have hrep1 : RepB Z n0 C F pos nA sa scr (w.1, true) ((T.setVm vm').pushCell { cls := cC, slots := kC.instanceTypes.map defaultValue, vm := .none }).heap := by
    rw [e1]
    refine ⟨by rw [hsz, hat]; rfl, fun j σ hj => (b2 j σ hj).ext E1, fun _ => hfr, fun n f hs' => ?_⟩
    obtain ⟨s1, s2⟩ := b4 n f hs'
    exact ⟨s1.ext E1, s2⟩
  obtain ⟨T', locs', Y2, hrep2, hF', hv1, hv2, st'⟩ := nx (w.1, true) z σ' ho p e R s mm args below meth c _ locs _ _ Ls Y' hx hZ hown hnm hby hml hrt hf hl (by omega) (by omega) hrep1 hL (hS.cons trivial) hLl hF
  refine ⟨T', locs', by rw [show cells + (kc + 1) = cells + 1 + kc by omega, show slots + (ks + nI) = slots + nI + ks by omega]; exact Y2, hrep2, hF', hv1, hv2, fun fs hfs => st _ ?_⟩
  have q := st' fs hfs
  have e2 : cval (cvB n0 nA sa) (Rf (n + 1)) = Value.ref T.heap.size := by rw [hat, hq1]; rfl
  rw [show (XB l Z n0 C F pos nA sa scr).cv = cvB n0 nA sa from rfl, List.map_cons, e2] at q
  exact q
theorem GQ.init {args0 : List AV} {oc : Option (Int × Obj)} {f : MB → Option (Int × MB)} {sl : Nat} (KB0 : KB a0 Z C nI F pos nA) (K : Callee a0 Z M Mc args0.length) (hroom0 : Nat.ble (cat S + (Mc.2.2.1 + 11) + Mc.2.2.2.2.2) M.2.2.2.2.2 = true) (hrt : Mc.2.2.2.1 = none) (hnm0 : Mc.1.name = "<init>") (hd : decode M.2.1 pc = .ok (.invokespecial idx, 3)) (hp : pc + 3 = pc')
    (w1 : (Jvm.Cond.methodLink M.1.cls idx Mc.1).before a0 Z = true) (w2 : (Jvm.Cond.instanceMethod Mc.1).before a0 Z = true) (hnr : ∀ v ∈ args0, ∀ n, v ≠ Rf n) (hm0 : Nat.ble (spread (Rf 0 :: args0)).length Mc.2.2.1 = true)
    (H : ∀ (a : Nat) (h0 : Heap), n0 ≤ a → h0.size = a + 1 → GQ (XP l Z n0 C F pos a h0 nA) Mc nA sl 0 (entry (Rf 0 :: args0) Mc.2.2.1) [] (.inl (fun _ => 0, fun _ => false, 0)) (emb oc)) (hst : S' = args0.reverse ++ Rf (n + 1) :: S)
    (nx : ∀ w', GQ (XB l Z n0 C F pos nA sa scr) M kc ks pc' L S w' (f w')) : GQ (XB l Z n0 C F pos nA sa scr) M (kc + nA) (ks + sl) pc L S' w (iniB n oc w f) := by
  subst hst hp
  unfold iniB
  refine GQ.guard (fun hq => ?_)
  obtain ⟨hq1, hq2⟩ := hq
  intro z σ' ho p e R s mm args below meth c T locs cells slots Ls Y hx hZ hown hnm hby hml hrt' hf hl hc hs hrep hL hS hLl hF
  obtain ⟨k1, k2, k3, k4, k5, k6⟩ := K
  have hroom := Nat.le_of_ble_eq_true hroom0
  have hm := Nat.le_of_ble_eq_true hm0
  cases hoc : oc with
  | none => rw [hoc] at ho; exact nomatch ho
  | some q =>
    obtain ⟨z1, σ1⟩ := q
    rw [hoc] at ho
    have ho : f (w.1 ++ [σ1], false) = some (z, σ') := ho
    have hS0 := hS.app
    have hrep' : RepB Z n0 C F pos nA sa scr w T.heap := hrep
    obtain ⟨b1, b2, b3, b4⟩ := hrep'
    obtain ⟨a, ha⟩ : ∃ a, a = n0 + w.1.length * (nA + 1) := ⟨_, rfl⟩
    have hsz : T.heap.size = a + 1 := by rw [b1, hq2, ha]; rfl
    obtain ⟨fr1, fr2⟩ := b3 hq2
    rw [← ha] at fr1 fr2
    have Hc := H a T.heap (by omega) hsz
    rw [hoc] at Hc
    have hg : ∀ w ∈ Rf 0 :: args0, good w := fun w hw => (List.mem_cons.mp hw).elim (fun q => q ▸ trivial) (fun q => hS0.1 w (List.mem_reverse.mpr q))
    have hfit0 : ∀ (k : Nat) (e : Fe), F[k]? = some (some e) → fitI e.2.2.1 0 := fun k e hk => by
      have q2 := (KB0.1.1 k e hk).2.1
      revert q2
      cases e.2.2.1 <;> intro q2 <;> first | exact Or.inl rfl | (simp only [fitI, InR]; omega) | (simp [intK] at q2)
    have hI : IRep Z C F (cvO pos a) T.heap (fun _ => 0, fun _ => false, 0) T.heap := ⟨fr1, rfl, Keep.refl _ _, by show a < T.heap.size; omega, fun k e hk => ⟨fun hl => ⟨(fr2 k e hk).1 hl, hfit0 k e hk⟩, fun hl => ⟨(fun q => by cases q), fun _ => (fr2 k e hk).2 hl⟩⟩⟩
    obtain ⟨v, vm1, ⟨T1, L1, c1, n1⟩, -, Y1, ⟨Lc, ⟨hv, hr1, hF1, hg1⟩, l1, l2, l3⟩, st⟩ := Y.specialBack hx (y := Mc.1) hnm0 hown (mvT hZ w1) (mvT hZ w2) (mvT hZ (hrt ▸ k2)) k5
      (back_of (X := XP l Z n0 C F pos a T.heap nA) (W := cat S) Hc rfl k1 hg hm (h := T.heap) hI hZ k2 k3 (by omega) (by omega)) (g := mkF mm pc Ls ((args0.reverse ++ Rf (n + 1) :: S).map (cval (cvB n0 nA sa)))) rfl (by show Ls.size = _; rw [hL.1, hLl, hml]) (Steps.refl _) (a := a) (argsL := args0.map (cval (cvB n0 nA sa))) (rest := S.map (cval (cvB n0 nA sa))) (fun sig q => by rw [List.length_map]; exact k6 sig q) (by rw [ha, hq1]; simp [cval, cvB]) (by show 2 * 0 + _ ≤ _; rw [cat_eq]; omega) (hb hby hd)
      (fun _ _ => ⟨by show _ = ((Rf 0 :: args0).map (cval (cvO pos a))).toArray; rw [List.map_cons, map_nr (cv := cvO pos a) (cv' := cvB n0 nA sa) hnr]; rfl, rfl, by show cells + nA ≤ _; omega, by show slots + sl ≤ _; omega⟩)
    dsimp only [Pt.U, Pt.locs, Pt.cells, Pt.slots] at Y1 l1 l2 l3 st hr1
    subst l1 l2 l3 hv
    rw [hrt] at st hg1
    obtain ⟨g1, g2, g3⟩ := hr1
    have hrep1 : RepB Z n0 C F pos nA sa scr (w.1 ++ [σ1], false) T1.heap := by
      refine ⟨?_, fun i τ hi => ?_, (fun hb' => by cases hb'), fun n f hs' => ?_⟩
      · rw [g3, hsz, ha]; show _ = n0 + (w.1 ++ [σ1]).length * (nA + 1) + 0; rw [List.length_append, List.length_singleton, Nat.add_mul]; omega
      · have hi : (w.1 ++ [σ1])[i]? = some τ := hi
        rcases Nat.lt_or_ge i w.1.length with hlt | hge
        · rw [List.getElem?_append_left hlt] at hi
          refine (b2 i τ hi).keep g2 (fun q _ hx => ?_)
          have hx := List.mem_singleton.mp hx
          have r1 := cvO_lt KB0.2.1 (n0 + i * (nA + 1)) q
          rw [hx, ha] at r1
          have := Nat.mul_le_mul_right (nA + 1) (show i + 1 ≤ w.1.length from hlt)
          rw [Nat.add_mul] at this; omega
        · rw [List.getElem?_append_right hge] at hi
          have e0 : i = w.1.length := by
            have := (List.getElem?_eq_some_iff.mp hi).1
            simp at this; omega
          subst e0
          simp at hi; subst hi
          rw [← ha]; exact g1
      · obtain ⟨⟨cl, s1, s2⟩, s3, s4⟩ := b4 n f hs'
        exact ⟨⟨cl, ⟨g2.2.1 _ cl s1.1 (fun hx => absurd (List.mem_singleton.mp hx) (Nat.ne_of_lt (by omega))), s1.2⟩, s2⟩, s3, s4⟩
    obtain ⟨T', locs', Y', hrep', hF', hv1, hv2, st'⟩ := nx _ z σ' ho p e R s mm args below meth c T1 _ _ _ Ls Y1 hx hZ hown hnm hby hml hrt' hf hl (by omega) (by omega) hrep1 hL hS0.2.tl hLl (Fr.app hF hF1)
    refine ⟨T', locs', by rw [show cells + (kc + nA) = cells + nA + kc by omega, show slots + (ks + sl) = slots + sl + ks by omega]; exact Y', hrep', hF', hv1, hv2, fun fs hfs => ?_⟩
    exact st.trans (st' fs hfs)
theorem GQ.scrLen {fs : Nat → Int} (hs : scr = some (n, fs)) (hd : decode M.2.1 pc = .ok (.arraylength, 1)) (hp : pc + 1 = pc')
    (nx : GQ (XB l Z n0 C F pos nA sa scr) M kc ks pc' L (I (n : Int) :: S) w o) : GQ (XB l Z n0 C F pos nA sa scr) M kc ks pc L (Rf 0 :: S) w o := by
  subst hp
  refine GQ.heap nx (fun {p e R s m args below meth c T locs cells slots Ls} Y hx hZ hown hnm hby hr hS hF' => ?_)
  obtain ⟨⟨cl, A, q3, q4⟩, s3, s4⟩ := hr.2.2.2 n fs hs
  refine ⟨T, locs, Y, hr, hS.tl.cons (show InR (n : Int) from ⟨by omega, by omega⟩), hF', fun t st => ?_⟩
  refine Y.arraylength hx A.1 (State.isArrayOf_alike hZ.alike A.2.1) (g := mkF m pc Ls ((Rf 0 :: S).map (cval (cvB n0 nA sa)))) rfl rfl (hb hby hd) t ?_
  have e1 : cl.slots.size.toInt32 = o32 (n : Int) := by rw [q3]; apply Int32.toInt_inj.mp; rw [len_toInt (by omega), t32i ⟨by omega, by omega⟩]
  rw [e1]; exact st
theorem GQ.scrAt {fs : Nat → Int} {g : Int → Option (Int × MB)} (hs : scr = some (n, fs)) (hd : decode M.2.1 pc = .ok (.iaload, 1)) (hp : pc + 1 = pc')
    (nx : ∀ z, GQ (XB l Z n0 C F pos nA sa scr) M kc ks pc' L (I z :: S) w (g z)) : GQ (XB l Z n0 C F pos nA sa scr) M kc ks pc L (I i :: Rf 0 :: S) w (rB fs n i g) := by
  subst hp
  unfold rB
  refine GQ.guard (fun hin => ?_)
  refine GQ.heap (nx _) (fun {p e R s m args below meth c T locs cells slots Ls} Y hx hZ hown hnm hby hr hS hF' => ?_)
  obtain ⟨⟨cl, A, q3, q4⟩, s3, s4⟩ := hr.2.2.2 n fs hs
  obtain ⟨j1, j2⟩ := i_in (cs := cl.slots.size) hS.hd (by rw [q3]; exact hin)
  obtain ⟨v1, v2⟩ := q4 i.toNat (by omega)
  have v1 : cl.slots[(o32 i).toNatClampNeg]? = some (.int (o32 (fs i.toNat))) := by rw [j2]; exact v1
  refine ⟨T, locs, Y, hr, hS.tl.tl.cons (fitI_in v2), hF', fun t st => ?_⟩
  exact Y.iaload hx A.1 (State.isArrayOf_alike hZ.alike A.2.1) A.2.2 j1 v1 (g := mkF m pc Ls ((I i :: Rf 0 :: S).map (cval (cvB n0 nA sa)))) rfl rfl (hb hby hd) t st
end Law2
/-! small helps of the closing rows -/
theorem nr0 : ∀ v ∈ ([] : List AV), ∀ n, v ≠ Rf n := fun _ h => nomatch h
theorem nrI {x : Int} : ∀ n, I x ≠ Rf n := fun n h => nomatch h
theorem nrJ {x : Int} : ∀ n, J x ≠ Rf n := fun n h => nomatch h
theorem nrS {v : AV} {A : List AV} (h1 : ∀ n, v ≠ Rf n) (h2 : ∀ v ∈ A, ∀ n, v ≠ Rf n) : ∀ u ∈ v :: A, ∀ n, u ≠ Rf n := fun u hu => (List.mem_cons.mp hu).elim (fun q => q ▸ h1) (h2 u)
def scrF (c : Cell) (i : Nat) : Int := match c.slots[i]? with
  | some (.int x) => x.toInt
  | _ => 0
theorem scrF_in (c : Cell) (i : Nat) : InR (scrF c i) := by
  unfold scrF
  split
  · exact r32 _
  · exact ⟨by omega, by omega⟩
theorem len_small {s : State} {args : Array Value} {t : Term} {a : Nat} {c : Cell} {ty : FieldType} {x : Int32} (e0 : t.eval args s none [] s = some (.ref a)) (A : Arr s s.heap a c ty) (e1 : (Term.length t).eval args s none [] s = some (.int x)) : c.slots.size < 2147483648 ∧ x = c.slots.size.toInt32 := by
  have q := A.fin (Vm.Alike.refl _)
  simp only [Term.eval, e0, q] at e1
  by_cases h : c.slots.size < 2 ^ 31
  · simp [h, q] at e1
    exact ⟨by omega, (by simpa [show c.slots.size < 2147483648 by omega] using e1 : _ = x).symm⟩
  · have h' : ¬ c.slots.size < 2147483648 := by omega
    simp [h', q] at e1
theorem le_small {s : State} {args : Array Value} {t : Term} {x : Int32} {k : Nat} (e1 : t.eval args s none [] s = some (.int x)) (e2 : x = k.toInt32) (hk : k < 2147483648) (h : (Jvm.Cond.le t (.int 260)).value args s none s [] = some true) : k ≤ 260 := by
  simp only [Cond.value, e1, Term.eval] at h
  have h := of_decide_eq_true (Option.some.inj h)
  rw [Int32.le_iff_toInt_le, e2, len_toInt (by omega)] at h
  have e3 : (260 : Int32).toInt = 260 := rfl
  omega
theorem scr_rep {s : State} {a : Nat} {c : Cell} (hf : Fit s) (A : Arr s s.heap a c .int) (hk : c.slots.size < 2147483648) : ARep s s.heap a .int c.slots.size (scrF c) := by
  refine ⟨c, A, rfl, fun i hi => ?_⟩
  have q := hf A.1 hi
  obtain ⟨hs, k, hkk, comp, hkind⟩ := A.2.1
  have e : s.slotType? c.cls c.vm i = some .int := by
    cases hq : c.vm <;> first | exact absurd hq (hs _) | simp [State.slotType?, hkk, hkind]
  have hfit : fits .int c.slots[i] = true := by simpa [State.fitsSlot, e] using q
  obtain ⟨x, hx⟩ := fit_I hfit (Or.inl rfl)
  have e2 : c.slots[i]? = some (.int x) := by rw [Array.getElem?_eq_getElem hi, hx]
  have e3 : scrF c i = x.toInt := by simp [scrF, e2]
  exact ⟨by rw [e2, e3, o32_t], scrF_in c i⟩
end Jvm.Wp
namespace Jvm.Pilot.@@N@@
open Jvm Jvm.ClassFile Sem Op Lib Jvm.Free Jvm.Stand Jvm.LawKit Jvm.RoadKit Bundle Jvm.Pilot.@@N@@.Jvm.D Jvm.Wp
def FU : Nat := 1000000000
def clamp_M (x1 : Int) (x2 : Int) (x3 : Int) (s : Obj) : Option (Int × Obj) :=
  if x1 < x2 then
    some (x2, s)
  else
    if x3 < x1 then
      some (x3, s)
    else
      some (x1, s)
def ctor_B (x1 : Int) (x2 : Int) (s : Obj) : Option (Int × Obj) :=
  cB (clamp_M x1 4 32 s) fun z289 s289 =>
  lB (setF s289 28 z289) fun s292 =>
  cB (clamp_M x2 2 16 s292) fun z301 s301 =>
  lB (setF s301 29 z301) fun s304 =>
  lB (setF s304 30 0) fun s309 =>
  lB (setF s309 31 1) fun s314 =>
  wB s314 32 16 0 1 fun s323 =>
  wB s323 33 16 0 0 fun s330 =>
  wB s330 34 16 0 0 fun s337 =>
  wB s337 36 16 0 0 fun s344 =>
  lB (setF s344 38 0) fun s347 =>
  lB (setF s347 40 0) fun s352 =>
  lB (setF s352 43 0) fun s357 =>
  lB (setF s357 47 0) fun s362 =>
  lB (setF s362 55 (-1)) fun s367 =>
  lB (setF s367 56 0) fun s372 =>
  some (0, s372)
def ctor_M (x1 : Int) (x2 : Int) : Option (Int × Obj) := ctor_B x1 x2 ((@upd Int (@upd Int (@upd Int (@upd Int (@upd Int (@upd Int (@upd Int (@upd Int (@upd Int (@upd Int (@upd Int (@upd Int (@upd Int (@upd Int (@upd Int (@upd Int (@upd Int (@upd Int (@upd Int (@upd Int (@upd Int (@upd Int (@upd Int (@upd Int (@upd Int (@upd Int (@upd Int (@upd Int (fun _ => 0) 0 16) 1 8) 2 10) 3 4) 4 32) 5 64) 6 83) 7 0) 8 1) 9 2) 10 3) 11 0) 12 2) 13 4) 14 6) 15 8) 16 9) 17 10) 18 11) 19 12) 20 0) 21 1) 22 2) 23 2) 24 4) 25 4) 26 5) 27 7), fun _ _ => 0)
def isNameChar_M (x1 : Int) (s : Obj) : Option (Int × Obj) :=
  if x1 < 33 then
    some (0, s)
  else
    if 126 < x1 then
      some (0, s)
    else
      if x1 = 47 then
        some (0, s)
      else
        some (1, s)
def putNameChar_M (x1 : Int) (s : Obj) : Option (Int × Obj) :=
  if (s.1 30) = 0 then
    cB (isNameChar_M x1 s) fun z11 s11 =>
    if z11 = 0 then
      some (0, s11)
    else
      if (s11.1 38) < 8 then
        wB s11 37 8 (s11.1 38) (i2c x1) fun s39 =>
        lB (setF s39 38 (aAdd (s39.1 38) 1)) fun s47 =>
        some (1, s47)
      else
        some (0, s11)
  else
    some (0, s)
def isValid_M (x1 : Int) (s : Obj) : Option (Int × Obj) :=
  if x1 < 0 then
    some (0, s)
  else
    if x1 < (s.1 31) then
      if x1 < 16 then
        some (1, s)
      else
        some (0, s)
    else
      some (0, s)
def isDir_M (x1 : Int) (s : Obj) : Option (Int × Obj) :=
  cB (isValid_M x1 s) fun z2 s2 =>
  if z2 = 0 then
    some (0, s2)
  else
    rB (s2.2 32) 16 x1 fun z13 =>
    if z13 = 1 then
      some (1, s2)
    else
      some (0, s2)
def findChildByNameBuf_j37 (rec : Int → Obj → Option (Int × Obj)) (x1 : Int) (x2 : Int) (x3 : Int) (s : Obj) : Option (Int × Obj) :=
  rec (aAdd x3 1) s
def findChildByNameBuf_l2b (x1 : Int) (x2 : Int) (rec : Int → Obj → Option (Int × Obj)) (x3 : Int) (s : Obj) : Option (Int × Obj) :=
  if x3 < (s.1 31) then
    if x3 < 16 then
      rB (s.2 33) 16 x3 fun z21 =>
      if z21 = x1 then
        none
      else
        findChildByNameBuf_j37 rec x1 x2 x3 s
    else
      some ((-1), s)
  else
    some ((-1), s)
def findChildByNameBuf_l2 (x1 : Int) (x2 : Int) : Nat → Int → Obj → Option (Int × Obj)
  | 0 => fun _ _ => none
  | fu + 1 => findChildByNameBuf_l2b x1 x2 (findChildByNameBuf_l2 x1 x2 fu)
def findChildByNameBuf_M (x1 : Int) (x2 : Int) (s : Obj) : Option (Int × Obj) :=
  findChildByNameBuf_l2 x1 x2 FU 1 s
def addNode_j87 (k94 : Obj → Option (Int × Obj)) (rec : Int → Obj → Option (Int × Obj)) (x3 : Int) (x4 : Int) (x5 : Int) (y0 : Int) (y1 : Int) (s : Obj) : Option (Int × Obj) :=
  wB s 35 128 y1 (i2c y0) fun s87 =>
  rec (aAdd x5 1) s87
def addNode_l51b (k94 : Obj → Option (Int × Obj)) (x3 : Int) (x4 : Int) (rec : Int → Obj → Option (Int × Obj)) (x5 : Int) (s : Obj) : Option (Int × Obj) :=
  if x5 < 8 then
    if x5 < x3 then
      rB (s.2 37) 8 x5 fun z82 =>
      addNode_j87 k94 rec x3 x4 x5 z82 (aAdd (aMul x4 8) x5) s
    else
      addNode_j87 k94 rec x3 x4 x5 0 (aAdd (aMul x4 8) x5) s
  else
    k94 s
def addNode_l51 (k94 : Obj → Option (Int × Obj)) (x3 : Int) (x4 : Int) : Nat → Int → Obj → Option (Int × Obj)
  | 0 => fun _ _ => none
  | fu + 1 => addNode_l51b k94 x3 x4 (addNode_l51 k94 x3 x4 fu)
def addNode_M (x1 : Int) (x2 : Int) (x3 : Int) (s : Obj) : Option (Int × Obj) :=
  lB (s.1 31) fun x4_4 =>
  if x4_4 < 0 then
    some ((-6), s)
  else
    if x4_4 < 16 then
      wB s 32 16 x4_4 (i2b (i2b x2)) fun s29 =>
      wB s29 33 16 x4_4 (i2b (i2b x1)) fun s38 =>
      wB s38 34 16 x4_4 (i2b (i2b x3)) fun s47 =>
      addNode_l51 (fun s94 =>
        wB s94 36 16 x4_4 0 fun s101 =>
        lB (setF s101 31 (aAdd x4_4 1)) fun s107 =>
        some (x4_4, s107)) x3 x4_4 FU 0 s47
    else
      some ((-6), s)
def create_j32 (x1 : Int) (x2 : Int) (x3 : Int) (s : Obj) : Option (Int × Obj) :=
  cB (isDir_M x1 s) fun z34 s34 =>
  if z34 = 0 then
    some ((-2), s34)
  else
    if x3 = 0 then
      some ((-4), s34)
    else
      cB (findChildByNameBuf_M x1 x3 s34) fun z53 s53 =>
      if z53 < 0 then
        if (s53.1 31) < (s53.1 29) then
          cB (addNode_M x1 x2 x3 s53) fun z80 s80 =>
          some (z80, s80)
        else
          some ((-6), s53)
      else
        some ((-5), s53)
def create_M (x1 : Int) (x2 : Int) (s : Obj) : Option (Int × Obj) :=
  if (s.1 30) = 0 then
    lB (s.1 38) fun x3_13 =>
    lB (setF s 38 0) fun s16 =>
    if x2 = 1 then
      create_j32 x1 x2 x3_13 s16
    else
      if x2 = 2 then
        create_j32 x1 x2 x3_13 s16
      else
        some ((-3), s16)
  else
    some ((-1), s)
def isFile_M (x1 : Int) (s : Obj) : Option (Int × Obj) :=
  cB (isValid_M x1 s) fun z2 s2 =>
  if z2 = 0 then
    some (0, s2)
  else
    rB (s2.2 32) 16 x1 fun z13 =>
    if z13 = 2 then
      some (1, s2)
    else
      some (0, s2)
def pushByte_M (x1 : Int) (x2 : Int) (s : Obj) : Option (Int × Obj) :=
  if (s.1 43) < 0 then
    some (0, s)
  else
    if (s.1 43) < 256 then
      wB s 41 256 (s.1 43) (i2b (i2b x2)) fun s28 =>
      wB s28 42 256 (s28.1 43) (i2b (i2b x1)) fun s39 =>
      lB (setF s39 43 (aAdd (s39.1 43) 1)) fun s47 =>
      rB (s47.2 36) 16 x1 fun z60 =>
      wB s47 36 16 x1 (aAdd z60 1) fun s63 =>
      some (0, s63)
    else
      some (0, s)
def appendRun_l59b (x1 : Int) (x3 : Int) (x4 : Int) (rec : Int → Obj → Option (Int × Obj)) (x5 : Int) (s : Obj) : Option (Int × Obj) :=
  if x5 < x3 then
    if x5 < 64 then
      cB (pushByte_M x1 x4 s) fun _ s76 =>
      rec (aAdd x5 1) s76
    else
      rB (s.2 36) 16 x1 fun z90_1 =>
      some (z90_1, s)
  else
    rB (s.2 36) 16 x1 fun z90 =>
    some (z90, s)
def appendRun_l59 (x1 : Int) (x3 : Int) (x4 : Int) : Nat → Int → Obj → Option (Int × Obj)
  | 0 => fun _ _ => none
  | fu + 1 => appendRun_l59b x1 x3 x4 (appendRun_l59 x1 x3 x4 fu)
def appendRun_M (x1 : Int) (x2 : Int) (x3 : Int) (s : Obj) : Option (Int × Obj) :=
  if (s.1 30) = 0 then
    cB (isFile_M x1 s) fun z11 s11 =>
    if z11 = 0 then
      some ((-2), s11)
    else
      if x3 < 1 then
        some ((-3), s11)
      else
        if 64 < x3 then
          some ((-3), s11)
        else
          if 256 < (aAdd (s11.1 43) x3) then
            some ((-6), s11)
          else
            lB (aAnd x2 255) fun x4_54 =>
            appendRun_l59 x1 x3 x4_54 FU 0 s11
  else
    some ((-1), s)
def appendByte_M (x1 : Int) (x2 : Int) (s : Obj) : Option (Int × Obj) :=
  if (s.1 30) = 0 then
    cB (isFile_M x1 s) fun z11 s11 =>
    if z11 = 0 then
      some ((-2), s11)
    else
      if (s11.1 43) < 256 then
        cB (pushByte_M x1 (aAnd x2 255) s11) fun _ s40 =>
        rB (s40.2 36) 16 x1 fun z48 =>
        some (z48, s40)
      else
        some ((-6), s11)
  else
    some ((-1), s)
def u8_M (x1 : Int) (s : Obj) : Option (Int × Obj) :=
  if x1 < 0 then
    some (0, s)
  else
    if x1 < 1024 then
      rB (s.2 44) 1024 x1 fun z20 =>
      some ((aAnd z20 255), s)
    else
      some (0, s)
def u16_M (x1 : Int) (s : Obj) : Option (Int × Obj) :=
  cB (u8_M x1 s) fun z2 s2 =>
  cB (u8_M (aAdd x1 1) s2) fun z10 s10 =>
  some ((aOr (aShl z2 8) z10), s10)
def inodePos_M (x1 : Int) (s : Obj) : Option (Int × Obj) :=
  cB (u16_M 0 s) fun z2 s2 =>
  some ((aAdd z2 (aMul 8 x1)), s2)
def fileSize_M (x1 : Int) (s : Obj) : Option (Int × Obj) :=
  cB (isFile_M x1 s) fun z2 s2 =>
  if z2 = 0 then
    some ((-2), s2)
  else
    if (s2.1 30) = 0 then
      rB (s2.2 36) 16 x1 fun z37 =>
      some (z37, s2)
    else
      cB (inodePos_M x1 s2) fun z20 s20 =>
      cB (u16_M (aAdd z20 2) s20) fun z28 s28 =>
      some (z28, s28)
def put8_M (x1 : Int) (x2 : Int) (s : Obj) : Option (Int × Obj) :=
  if x1 < 0 then
    some (0, s)
  else
    if x1 < 1024 then
      wB s 44 1024 x1 (i2b (i2b x2)) fun s20 =>
      some (0, s20)
    else
      some (0, s)
def put16_M (x1 : Int) (x2 : Int) (s : Obj) : Option (Int × Obj) :=
  cB (put8_M x1 (aAnd (aUshr x2 8) 255) s) fun _ s10 =>
  cB (put8_M (aAdd x1 1) (aAnd x2 255) s10) fun _ s22 =>
  some (0, s22)
def planLayout_j58 (k64 : Int → Int → Obj → Option (Int × Obj)) (rec : Int → Int → Int → Obj → Option (Int × Obj)) (x1 : Int) (x2 : Int) (x3 : Int) (s : Obj) : Option (Int × Obj) :=
  rec x1 x2 (aAdd x3 1) s
def planLayout_l6b (k64 : Int → Int → Obj → Option (Int × Obj)) (rec : Int → Int → Int → Obj → Option (Int × Obj)) (x1 : Int) (x2 : Int) (x3 : Int) (s : Obj) : Option (Int × Obj) :=
  if x3 < (s.1 31) then
    if x3 < 16 then
      rB (s.2 32) 16 x3 fun z25 =>
      if z25 = 2 then
        rB (s.2 36) 16 x3 fun z36 =>
        dB (s.1 28) <|
        lB (aAdd x1 (aDiv z36 (s.1 28))) fun x1_43 =>
        rB (s.2 36) 16 x3 fun z50 =>
        dB (s.1 28) <|
        lB (aAdd x2 (aRem z50 (s.1 28))) fun x2_57 =>
        planLayout_j58 k64 rec x1_43 x2_57 x3 s
      else
        planLayout_j58 k64 rec x1 x2 x3 s
    else
      k64 x1 x2 s
  else
    k64 x1 x2 s
def planLayout_l6 (k64 : Int → Int → Obj → Option (Int × Obj)) : Nat → Int → Int → Int → Obj → Option (Int × Obj)
  | 0 => fun _ _ _ _ => none
  | fu + 1 => planLayout_l6b k64 (planLayout_l6 k64 fu)
def planLayout_j64 (x1 : Int) (x2 : Int) (s : Obj) : Option (Int × Obj) :=
  dB (s.1 28) <|
  lB (aDiv (aSub (aAdd x2 (s.1 28)) 1) (s.1 28)) fun x3_77 =>
  lB (aAdd x1 x3_77) fun x4_81 =>
  lB (aAdd 16 (aMul 8 (s.1 31))) fun x6_97 =>
  lB (aAdd x6_97 (aMul 4 x4_81)) fun x7_106 =>
  lB (aAdd x7_106 (aMul 10 (aSub (s.1 31) 1))) fun x8_120 =>
  cB (put16_M 0 16 s) fun _ s126 =>
  cB (put16_M 2 x6_97 s126) fun _ s133 =>
  cB (put16_M 4 x7_106 s133) fun _ s140 =>
  cB (put16_M 6 x8_120 s140) fun _ s148 =>
  cB (put8_M 8 (s148.1 31) s148) fun _ s158 =>
  cB (put8_M 9 (s158.1 28) s158) fun _ s168 =>
  cB (put8_M 10 x1 s168) fun _ s175 =>
  cB (put8_M 11 x4_81 s175) fun _ s183 =>
  cB (put8_M 12 83 s183) fun _ s191 =>
  lB (setF s191 51 x8_120) fun s197 =>
  lB (setF s197 53 x7_106) fun s203 =>
  some (0, s203)
def planLayout_M (s : Obj) : Option (Int × Obj) :=
  planLayout_l6 (fun x1_64 x2_64 s64 =>
    planLayout_j64 x1_64 x2_64 s64) FU 0 0 1 s
def gatherFile_j51 (rec : Int → Int → Obj → Option (Int × Obj)) (x1 : Int) (x2 : Int) (x3 : Int) (s : Obj) : Option (Int × Obj) :=
  rec x2 (aAdd x3 1) s
def gatherFile_l4b (x1 : Int) (rec : Int → Int → Obj → Option (Int × Obj)) (x2 : Int) (x3 : Int) (s : Obj) : Option (Int × Obj) :=
  if x3 < (s.1 43) then
    if x3 < 256 then
      rB (s.2 42) 256 x3 fun z24 =>
      if z24 = x1 then
        if x2 < 256 then
          rB (s.2 41) 256 x3 fun z46 =>
          wB s 45 256 x2 (i2b z46) fun s47 =>
          gatherFile_j51 rec x1 (aAdd x2 1) x3 s47
        else
          gatherFile_j51 rec x1 x2 x3 s
      else
        gatherFile_j51 rec x1 x2 x3 s
    else
      some (x2, s)
  else
    some (x2, s)
def gatherFile_l4 (x1 : Int) : Nat → Int → Int → Obj → Option (Int × Obj)
  | 0 => fun _ _ _ => none
  | fu + 1 => gatherFile_l4b x1 (gatherFile_l4 x1 fu)
def gatherFile_M (x1 : Int) (s : Obj) : Option (Int × Obj) :=
  gatherFile_l4 x1 FU 0 0 s
def loadRawFromFile_j47 (rec : Int → Obj → Option (Int × Obj)) (x1 : Int) (x2 : Int) (x3 : Int) (y0 : Int) (y1 : Int) (s : Obj) : Option (Int × Obj) :=
  wB s 48 32 y1 (i2b y0) fun s47 =>
  rec (aAdd x3 1) s47
def loadRawFromFile_j46 (rec : Int → Obj → Option (Int × Obj)) (x1 : Int) (x2 : Int) (x3 : Int) (y0 : Int) (s : Obj) : Option (Int × Obj) :=
  loadRawFromFile_j47 rec x1 x2 x3 0 y0 s
def loadRawFromFile_l2b (x1 : Int) (x2 : Int) (rec : Int → Obj → Option (Int × Obj)) (x3 : Int) (s : Obj) : Option (Int × Obj) :=
  if x3 < x2 then
    if x3 < 32 then
      lB (aAdd x1 x3) fun x4_16 =>
      if x4_16 < 0 then
        loadRawFromFile_j46 rec x1 x2 x3 x3 s
      else
        if x4_16 < 256 then
          rB (s.2 45) 256 x4_16 fun z42 =>
          loadRawFromFile_j47 rec x1 x2 x3 z42 x3 s
        else
          loadRawFromFile_j46 rec x1 x2 x3 x3 s
    else
      some (0, s)
  else
    some (0, s)
def loadRawFromFile_l2 (x1 : Int) (x2 : Int) : Nat → Int → Obj → Option (Int × Obj)
  | 0 => fun _ _ => none
  | fu + 1 => loadRawFromFile_l2b x1 x2 (loadRawFromFile_l2 x1 x2 fu)
def loadRawFromFile_M (x1 : Int) (x2 : Int) (s : Obj) : Option (Int × Obj) :=
  loadRawFromFile_l2 x1 x2 FU 0 s
def runLength_l15b (x2 : Int) (x3 : Int) (rec : Int → Int → Obj → Option (Int × Obj)) (x4 : Int) (x5 : Int) (s : Obj) : Option (Int × Obj) :=
  if x5 < x2 then
    if x5 < 32 then
      rB (s.2 48) 32 x5 fun z34 =>
      if z34 = x3 then
        rec (aAdd x4 1) (aAdd x5 1) s
      else
        some (x4, s)
    else
      some (x4, s)
  else
    some (x4, s)
def runLength_l15 (x2 : Int) (x3 : Int) : Nat → Int → Int → Obj → Option (Int × Obj)
  | 0 => fun _ _ _ => none
  | fu + 1 => runLength_l15b x2 x3 (runLength_l15 x2 x3 fu)
def runLength_M (x1 : Int) (x2 : Int) (s : Obj) : Option (Int × Obj) :=
  rB (s.2 48) 32 x1 fun z5 =>
  lB (aAdd x1 1) fun x5_13 =>
  runLength_l15 x2 z5 FU 1 x5_13 s
def matchLength_l6b (x1 : Int) (x2 : Int) (x3 : Int) (rec : Int → Int → Obj → Option (Int × Obj)) (x4 : Int) (x5 : Int) (s : Obj) : Option (Int × Obj) :=
  if x5 < 32 then
    lB (aAdd x1 x5) fun x6_17 =>
    lB (aSub x6_17 x2) fun x7_23 =>
    if x6_17 < x3 then
      if x6_17 < 32 then
        if x7_23 < 0 then
          some (x4, s)
        else
          rB (s.2 48) 32 x6_17 fun z52 =>
          rB (s.2 48) 32 x7_23 fun z59 =>
          if z52 = z59 then
            rec (aAdd x4 1) (aAdd x5 1) s
          else
            some (x4, s)
      else
        some (x4, s)
    else
      some (x4, s)
  else
    some (x4, s)
def matchLength_l6 (x1 : Int) (x2 : Int) (x3 : Int) : Nat → Int → Int → Obj → Option (Int × Obj)
  | 0 => fun _ _ _ => none
  | fu + 1 => matchLength_l6b x1 x2 x3 (matchLength_l6 x1 x2 x3 fu)
def matchLength_M (x1 : Int) (x2 : Int) (x3 : Int) (s : Obj) : Option (Int × Obj) :=
  matchLength_l6 x1 x2 x3 FU 0 0 s
def bestDistance_j51 (rec : Int → Int → Obj → Option (Int × Obj)) (x1 : Int) (x2 : Int) (x3 : Int) (x4 : Int) (s : Obj) : Option (Int × Obj) :=
  rec x3 (aAdd x4 1) s
def bestDistance_l10b (x1 : Int) (x2 : Int) (rec : Int → Int → Obj → Option (Int × Obj)) (x3 : Int) (x4 : Int) (s : Obj) : Option (Int × Obj) :=
  if x1 < x4 then
    some (x3, s)
  else
    if x4 < 32 then
      cB (matchLength_M x1 x4 x2 s) fun z28 s28 =>
      if (s28.1 54) < z28 then
        lB (setF s28 54 z28) fun s45 =>
        bestDistance_j51 rec x1 x2 x4 x4 s45
      else
        bestDistance_j51 rec x1 x2 x3 x4 s28
    else
      some (x3, s)
def bestDistance_l10 (x1 : Int) (x2 : Int) : Nat → Int → Int → Obj → Option (Int × Obj)
  | 0 => fun _ _ _ => none
  | fu + 1 => bestDistance_l10b x1 x2 (bestDistance_l10 x1 x2 fu)
def bestDistance_M (x1 : Int) (x2 : Int) (s : Obj) : Option (Int × Obj) :=
  lB (setF s 54 0) fun s4 =>
  bestDistance_l10 x1 x2 FU 0 1 s4
def flushLiteral_j72 (rec : Int → Obj → Option (Int × Obj)) (x1 : Int) (x2 : Int) (x3 : Int) (y0 : Int) (s : Obj) : Option (Int × Obj) :=
  cB (put8_M (s.1 51) y0 s) fun _ s81 =>
  lB (setF s81 51 (aAdd (s81.1 51) 1)) fun s91 =>
  rec (aAdd x3 1) s91
def flushLiteral_j71 (rec : Int → Obj → Option (Int × Obj)) (x1 : Int) (x2 : Int) (x3 : Int) (s : Obj) : Option (Int × Obj) :=
  flushLiteral_j72 rec x1 x2 x3 0 s
def flushLiteral_l33b (x1 : Int) (x2 : Int) (rec : Int → Obj → Option (Int × Obj)) (x3 : Int) (s : Obj) : Option (Int × Obj) :=
  if x3 < x2 then
    if x3 < 32 then
      lB (aAdd x1 x3) fun x4_47 =>
      if x4_47 < 0 then
        flushLiteral_j71 rec x1 x2 x3 s
      else
        if x4_47 < 32 then
          rB (s.2 48) 32 x4_47 fun z67 =>
          flushLiteral_j72 rec x1 x2 x3 z67 s
        else
          flushLiteral_j71 rec x1 x2 x3 s
    else
      some (0, s)
  else
    some (0, s)
def flushLiteral_l33 (x1 : Int) (x2 : Int) : Nat → Int → Obj → Option (Int × Obj)
  | 0 => fun _ _ => none
  | fu + 1 => flushLiteral_l33b x1 x2 (flushLiteral_l33 x1 x2 fu)
def flushLiteral_M (x1 : Int) (x2 : Int) (s : Obj) : Option (Int × Obj) :=
  if 0 < x2 then
    cB (put8_M (s.1 51) (aOr 0 (aAnd (aSub x2 1) 63)) s) fun _ s18 =>
    lB (setF s18 51 (aAdd (s18.1 51) 1)) fun s28 =>
    flushLiteral_l33 x1 x2 FU 0 s28
  else
    some (0, s)
def emitToken_M (x1 : Int) (x2 : Int) (x3 : Int) (s : Obj) : Option (Int × Obj) :=
  cB (put8_M (s.1 51) (aOr (aShl x1 6) (aAnd (aSub x2 1) 63)) s) fun _ s16 =>
  cB (put8_M (aAdd (s16.1 51) 1) x3 s16) fun _ s27 =>
  lB (setF s27 51 (aAdd (s27.1 51) 2)) fun s37 =>
  some (0, s37)
def compressBlock_j158 (k164 : Int → Int → Obj → Option (Int × Obj)) (rec : Int → Int → Int → Int → Obj → Option (Int × Obj)) (x1 : Int) (x3 : Int) (x4 : Int) (x5 : Int) (x6 : Int) (s : Obj) : Option (Int × Obj) :=
  rec x3 x4 x5 (aAdd x6 1) s
def compressBlock_j152 (k164 : Int → Int → Obj → Option (Int × Obj)) (rec : Int → Int → Int → Int → Obj → Option (Int × Obj)) (x1 : Int) (x3 : Int) (x4 : Int) (x5 : Int) (x6 : Int) (s : Obj) : Option (Int × Obj) :=
  compressBlock_j158 k164 rec x1 (aAdd x3 1) x4 (aAdd x5 1) x6 s
def compressBlock_j102 (k164 : Int → Int → Obj → Option (Int × Obj)) (rec : Int → Int → Int → Int → Obj → Option (Int × Obj)) (x1 : Int) (x3 : Int) (x4 : Int) (x5 : Int) (x6 : Int) (x7 : Int) (s : Obj) : Option (Int × Obj) :=
  if x7 < 3 then
    if x5 = 0 then
      compressBlock_j152 k164 rec x1 x3 x3 x5 x6 s
    else
      compressBlock_j152 k164 rec x1 x3 x4 x5 x6 s
  else
    cB (flushLiteral_M x4 x5 s) fun _ s113 =>
    rB (s113.2 48) 32 x3 fun z128 =>
    cB (emitToken_M 1 x7 (aAnd z128 255) s113) fun _ s133 =>
    lB (aAdd x3 x7) fun x3_140 =>
    compressBlock_j158 k164 rec x1 x3_140 x4 0 x6 s133
def compressBlock_l16b (k164 : Int → Int → Obj → Option (Int × Obj)) (x1 : Int) (rec : Int → Int → Int → Int → Obj → Option (Int × Obj)) (x3 : Int) (x4 : Int) (x5 : Int) (x6 : Int) (s : Obj) : Option (Int × Obj) :=
  if 32 < x6 then
    k164 x4 x5 s
  else
    if x3 < x1 then
      if x3 < 32 then
        cB (runLength_M x3 x1 s) fun z37 s37 =>
        cB (bestDistance_M x3 x1 s37) fun z45 s45 =>
        lB (s45.1 54) fun x9_54 =>
        if 0 < z45 then
          if x9_54 < 3 then
            compressBlock_j102 k164 rec x1 x3 x4 x5 x6 z37 s45
          else
            if z37 < x9_54 then
              cB (flushLiteral_M x4 x5 s45) fun _ s79 =>
              cB (emitToken_M 2 x9_54 z45 s79) fun _ s91 =>
              lB (aAdd x3 x9_54) fun x3_98 =>
              compressBlock_j158 k164 rec x1 x3_98 x4 0 x6 s91
            else
              compressBlock_j102 k164 rec x1 x3 x4 x5 x6 z37 s45
        else
          compressBlock_j102 k164 rec x1 x3 x4 x5 x6 z37 s45
      else
        k164 x4 x5 s
    else
      k164 x4 x5 s
def compressBlock_l16 (k164 : Int → Int → Obj → Option (Int × Obj)) (x1 : Int) : Nat → Int → Int → Int → Int → Obj → Option (Int × Obj)
  | 0 => fun _ _ _ _ _ => none
  | fu + 1 => compressBlock_l16b k164 x1 (compressBlock_l16 k164 x1 fu)
def compressBlock_j164 (x2 : Int) (x4 : Int) (x5 : Int) (s : Obj) : Option (Int × Obj) :=
  cB (flushLiteral_M x4 x5 s) fun _ s169 =>
  some ((aSub (s169.1 51) x2), s169)
def compressBlock_M (x1 : Int) (s : Obj) : Option (Int × Obj) :=
  lB (s.1 51) fun x2_4 =>
  compressBlock_l16 (fun x4_164 x5_164 s164 =>
    compressBlock_j164 x2_4 x4_164 x5_164 s164) x1 FU 0 0 0 0 s
def emitBlock_M (x1 : Int) (s : Obj) : Option (Int × Obj) :=
  lB (s.1 51) fun x2_4 =>
  cB (compressBlock_M x1 s) fun z7 s7 =>
  cB (u16_M 2 s7) fun z13 s13 =>
  lB (aAdd z13 (aMul 4 (s13.1 52))) fun x4_23 =>
  cB (put16_M x4_23 x2_4 s13) fun _ s29 =>
  cB (put8_M (aAdd x4_23 2) z7 s29) fun _ s38 =>
  cB (put8_M (aAdd x4_23 3) x1 s38) fun _ s47 =>
  lB (setF s47 52 (aAdd (s47.1 52) 1)) fun s57 =>
  some (0, s57)
def appendTail_j53 (rec : Int → Obj → Option (Int × Obj)) (x2 : Int) (x3 : Int) (s : Obj) : Option (Int × Obj) :=
  rec (aAdd x3 1) s
def appendTail_l2b (x2 : Int) (rec : Int → Obj → Option (Int × Obj)) (x3 : Int) (s : Obj) : Option (Int × Obj) :=
  if x3 < x2 then
    if x3 < 256 then
      if x3 < 0 then
        appendTail_j53 rec x2 x3 s
      else
        if (s.1 47) < 256 then
          rB (s.2 45) 256 x3 fun z41 =>
          wB s 46 256 (s.1 47) (i2b z41) fun s42 =>
          lB (setF s42 47 (aAdd (s42.1 47) 1)) fun s50 =>
          appendTail_j53 rec x2 x3 s50
        else
          appendTail_j53 rec x2 x3 s
    else
      some (0, s)
  else
    some (0, s)
def appendTail_l2 (x2 : Int) : Nat → Int → Obj → Option (Int × Obj)
  | 0 => fun _ _ => none
  | fu + 1 => appendTail_l2b x2 (appendTail_l2 x2 fu)
def appendTail_M (x1 : Int) (x2 : Int) (s : Obj) : Option (Int × Obj) :=
  appendTail_l2 x2 FU x1 s
def writeFileNode_l22b (k64 : Obj → Option (Int × Obj)) (x3 : Int) (rec : Int → Obj → Option (Int × Obj)) (x5 : Int) (s : Obj) : Option (Int × Obj) :=
  if x5 < x3 then
    if x5 < 64 then
      cB (loadRawFromFile_M (aMul x5 (s.1 28)) (s.1 28) s) fun _ s47 =>
      cB (emitBlock_M (s47.1 28) s47) fun _ s55 =>
      rec (aAdd x5 1) s55
    else
      k64 s
  else
    k64 s
def writeFileNode_l22 (k64 : Obj → Option (Int × Obj)) (x3 : Int) : Nat → Int → Obj → Option (Int × Obj)
  | 0 => fun _ _ => none
  | fu + 1 => writeFileNode_l22b k64 x3 (writeFileNode_l22 k64 x3 fu)
def writeFileNode_j64 (x1 : Int) (x2 : Int) (x3 : Int) (x4 : Int) (s : Obj) : Option (Int × Obj) :=
  lB (s.1 47) fun x5_68 =>
  cB (appendTail_M (aMul x3 (s.1 28)) x2 s) fun _ s78 =>
  cB (inodePos_M x1 s78) fun z83 s83 =>
  cB (put8_M (aAdd z83 0) 2 s83) fun _ s94 =>
  rB (s94.2 33) 16 x1 fun z107 =>
  cB (put8_M (aAdd z83 1) z107 s94) fun _ s108 =>
  cB (put16_M (aAdd z83 2) x2 s108) fun _ s117 =>
  cB (put8_M (aAdd z83 4) x4 s117) fun _ s127 =>
  cB (put16_M (aAdd z83 5) x5_68 s127) fun _ s137 =>
  rB (s137.2 34) 16 x1 fun z151 =>
  cB (put8_M (aAdd z83 7) z151 s137) fun _ s152 =>
  some (0, s152)
def writeFileNode_M (x1 : Int) (s : Obj) : Option (Int × Obj) :=
  cB (gatherFile_M x1 s) fun z2 s2 =>
  dB (s2.1 28) <|
  lB (aDiv z2 (s2.1 28)) fun x3_12 =>
  lB (s2.1 52) fun x4_17 =>
  writeFileNode_l22 (fun s64 =>
    writeFileNode_j64 x1 z2 x3_12 x4_17 s64) x3_12 FU 0 s2
def collectChildren_j45 (rec : Int → Int → Obj → Option (Int × Obj)) (x1 : Int) (x2 : Int) (x3 : Int) (s : Obj) : Option (Int × Obj) :=
  rec x2 (aAdd x3 1) s
def collectChildren_l4b (x1 : Int) (rec : Int → Int → Obj → Option (Int × Obj)) (x2 : Int) (x3 : Int) (s : Obj) : Option (Int × Obj) :=
  if x3 < (s.1 31) then
    if x3 < 16 then
      rB (s.2 33) 16 x3 fun z23 =>
      if z23 = x1 then
        if x2 < 16 then
          wB s 50 16 x2 (i2b (i2b x3)) fun s41 =>
          collectChildren_j45 rec x1 (aAdd x2 1) x3 s41
        else
          collectChildren_j45 rec x1 x2 x3 s
      else
        collectChildren_j45 rec x1 x2 x3 s
    else
      some (x2, s)
  else
    some (x2, s)
def collectChildren_l4 (x1 : Int) : Nat → Int → Int → Obj → Option (Int × Obj)
  | 0 => fun _ _ _ => none
  | fu + 1 => collectChildren_l4b x1 (collectChildren_l4 x1 fu)
def collectChildren_M (x1 : Int) (s : Obj) : Option (Int × Obj) :=
  collectChildren_l4 x1 FU 0 1 s
def sortChildren_l15b (k48 : Obj → Option (Int × Obj)) (k77 : Obj → Option (Int × Obj)) (rec : Int → Obj → Option (Int × Obj)) (x3 : Int) (s : Obj) : Option (Int × Obj) :=
  if 0 < x3 then
    rB (s.2 50) 16 x3 fun z24 =>
    rB (s.2 50) 16 (aSub x3 1) fun z34 =>
    none
  else
    k77 s
def sortChildren_l15 (k48 : Obj → Option (Int × Obj)) (k77 : Obj → Option (Int × Obj)) : Nat → Int → Obj → Option (Int × Obj)
  | 0 => fun _ _ => none
  | fu + 1 => sortChildren_l15b k48 k77 (sortChildren_l15 k48 k77 fu)
def sortChildren_j77 (rec : Int → Obj → Option (Int × Obj)) (x1 : Int) (x2 : Int) (s : Obj) : Option (Int × Obj) :=
  rec (aAdd x2 1) s
def sortChildren_l2b (x1 : Int) (rec : Int → Obj → Option (Int × Obj)) (x2 : Int) (s : Obj) : Option (Int × Obj) :=
  if x2 < x1 then
    if x2 < 16 then
      sortChildren_l15 (fun s48 =>
        sortChildren_j77 rec x1 x2 s48) (fun s77 =>
        sortChildren_j77 rec x1 x2 s77) FU x2 s
    else
      some (0, s)
  else
    some (0, s)
def sortChildren_l2 (x1 : Int) : Nat → Int → Obj → Option (Int × Obj)
  | 0 => fun _ _ => none
  | fu + 1 => sortChildren_l2b x1 (sortChildren_l2 x1 fu)
def sortChildren_M (x1 : Int) (s : Obj) : Option (Int × Obj) :=
  sortChildren_l2 x1 FU 1 s
def writeEntry_j75 (rec : Int → Obj → Option (Int × Obj)) (x1 : Int) (x2 : Int) (x3 : Int) (y0 : Int) (y1 : Int) (s : Obj) : Option (Int × Obj) :=
  cB (put8_M y1 y0 s) fun _ s75 =>
  rec (aAdd x3 1) s75
def writeEntry_l40b (x1 : Int) (x2 : Int) (rec : Int → Obj → Option (Int × Obj)) (x3 : Int) (s : Obj) : Option (Int × Obj) :=
  if x3 < 8 then
    if x3 < x2 then
      rB (s.2 35) 128 (aAdd (aMul x1 8) x3) fun z70 =>
      writeEntry_j75 rec x1 x2 x3 z70 (aAdd (aAdd (s.1 53) 2) x3) s
    else
      writeEntry_j75 rec x1 x2 x3 0 (aAdd (aAdd (s.1 53) 2) x3) s
  else
    lB (setF s 53 (aAdd (s.1 53) 10)) fun s92 =>
    some (0, s92)
def writeEntry_l40 (x1 : Int) (x2 : Int) : Nat → Int → Obj → Option (Int × Obj)
  | 0 => fun _ _ => none
  | fu + 1 => writeEntry_l40b x1 x2 (writeEntry_l40 x1 x2 fu)
def writeEntry_M (x1 : Int) (s : Obj) : Option (Int × Obj) :=
  if x1 < 0 then
    some (0, s)
  else
    if x1 < 16 then
      rB (s.2 34) 16 x1 fun z16 =>
      cB (put8_M (s.1 53) x1 s) fun _ s24 =>
      cB (put8_M (aAdd (s24.1 53) 1) z16 s24) fun _ s35 =>
      writeEntry_l40 x1 z16 FU 0 s35
    else
      some (0, s)
def writeDirNode_l82b (x2 : Int) (rec : Int → Obj → Option (Int × Obj)) (x4 : Int) (s : Obj) : Option (Int × Obj) :=
  if x4 < x2 then
    if x4 < 16 then
      rB (s.2 50) 16 x4 fun z102 =>
      cB (writeEntry_M z102 s) fun _ s103 =>
      rec (aAdd x4 1) s103
    else
      some (0, s)
  else
    some (0, s)
def writeDirNode_l82 (x2 : Int) : Nat → Int → Obj → Option (Int × Obj)
  | 0 => fun _ _ => none
  | fu + 1 => writeDirNode_l82b x2 (writeDirNode_l82 x2 fu)
def writeDirNode_M (x1 : Int) (s : Obj) : Option (Int × Obj) :=
  cB (collectChildren_M x1 s) fun z2 s2 =>
  cB (sortChildren_M z2 s2) fun _ s8 =>
  cB (inodePos_M x1 s8) fun z13 s13 =>
  cB (put8_M (aAdd z13 0) 1 s13) fun _ s22 =>
  rB (s22.2 33) 16 x1 fun z34 =>
  cB (put8_M (aAdd z13 1) z34 s22) fun _ s35 =>
  cB (put16_M (aAdd z13 2) (s35.1 53) s35) fun _ s46 =>
  cB (put8_M (aAdd z13 4) z2 s46) fun _ s54 =>
  cB (put16_M (aAdd z13 5) 0 s54) fun _ s62 =>
  rB (s62.2 34) 16 x1 fun z75 =>
  cB (put8_M (aAdd z13 7) z75 s62) fun _ s76 =>
  writeDirNode_l82 z2 FU 0 s76
def loadRawFromFrag_j47 (rec : Int → Obj → Option (Int × Obj)) (x1 : Int) (x2 : Int) (x3 : Int) (y0 : Int) (y1 : Int) (s : Obj) : Option (Int × Obj) :=
  wB s 48 32 y1 (i2b y0) fun s47 =>
  rec (aAdd x3 1) s47
def loadRawFromFrag_j46 (rec : Int → Obj → Option (Int × Obj)) (x1 : Int) (x2 : Int) (x3 : Int) (y0 : Int) (s : Obj) : Option (Int × Obj) :=
  loadRawFromFrag_j47 rec x1 x2 x3 0 y0 s
def loadRawFromFrag_l2b (x1 : Int) (x2 : Int) (rec : Int → Obj → Option (Int × Obj)) (x3 : Int) (s : Obj) : Option (Int × Obj) :=
  if x3 < x2 then
    if x3 < 32 then
      lB (aAdd x1 x3) fun x4_16 =>
      if x4_16 < 0 then
        loadRawFromFrag_j46 rec x1 x2 x3 x3 s
      else
        if x4_16 < 256 then
          rB (s.2 46) 256 x4_16 fun z42 =>
          loadRawFromFrag_j47 rec x1 x2 x3 z42 x3 s
        else
          loadRawFromFrag_j46 rec x1 x2 x3 x3 s
    else
      some (0, s)
  else
    some (0, s)
def loadRawFromFrag_l2 (x1 : Int) (x2 : Int) : Nat → Int → Obj → Option (Int × Obj)
  | 0 => fun _ _ => none
  | fu + 1 => loadRawFromFrag_l2b x1 x2 (loadRawFromFrag_l2 x1 x2 fu)
def loadRawFromFrag_M (x1 : Int) (x2 : Int) (s : Obj) : Option (Int × Obj) :=
  loadRawFromFrag_l2 x1 x2 FU 0 s
def writeFragmentBlocks_j46 (rec : Int → Obj → Option (Int × Obj)) (x1 : Int) (x2 : Int) (x3 : Int) (s : Obj) : Option (Int × Obj) :=
  cB (loadRawFromFrag_M x2 x3 s) fun _ s49 =>
  cB (emitBlock_M x3 s49) fun _ s54 =>
  rec (aAdd x1 1) s54
def writeFragmentBlocks_l2b (rec : Int → Obj → Option (Int × Obj)) (x1 : Int) (s : Obj) : Option (Int × Obj) :=
  if x1 < 64 then
    lB (aMul x1 (s.1 28)) fun x2_14 =>
    if x2_14 < (s.1 47) then
      lB (aSub (s.1 47) x2_14) fun x3_32 =>
      if (s.1 28) < x3_32 then
        lB (s.1 28) fun x3_45 =>
        writeFragmentBlocks_j46 rec x1 x2_14 x3_45 s
      else
        writeFragmentBlocks_j46 rec x1 x2_14 x3_32 s
    else
      some (0, s)
  else
    some (0, s)
def writeFragmentBlocks_l2  : Nat → Int → Obj → Option (Int × Obj)
  | 0 => fun _ _ => none
  | fu + 1 => writeFragmentBlocks_l2b (writeFragmentBlocks_l2 fu)
def writeFragmentBlocks_M (s : Obj) : Option (Int × Obj) :=
  writeFragmentBlocks_l2 FU 0 s
def build_j62 (k68 : Obj → Option (Int × Obj)) (rec : Int → Obj → Option (Int × Obj)) (x1 : Int) (s : Obj) : Option (Int × Obj) :=
  rec (aAdd x1 1) s
def build_l25b (k68 : Obj → Option (Int × Obj)) (rec : Int → Obj → Option (Int × Obj)) (x1 : Int) (s : Obj) : Option (Int × Obj) :=
  if x1 < (s.1 31) then
    if x1 < 16 then
      rB (s.2 32) 16 x1 fun z44 =>
      if z44 = 2 then
        cB (writeFileNode_M x1 s) fun _ s51 =>
        build_j62 k68 rec x1 s51
      else
        cB (writeDirNode_M x1 s) fun _ s59 =>
        build_j62 k68 rec x1 s59
    else
      k68 s
  else
    k68 s
def build_l25 (k68 : Obj → Option (Int × Obj)) : Nat → Int → Obj → Option (Int × Obj)
  | 0 => fun _ _ => none
  | fu + 1 => build_l25b k68 (build_l25 k68 fu)
def build_j68 (s : Obj) : Option (Int × Obj) :=
  cB (writeFragmentBlocks_M s) fun _ s69 =>
  lB (setF s69 30 1) fun s74 =>
  lB (setF s74 55 (-1)) fun s79 =>
  lB (setF s79 56 0) fun s84 =>
  some (1, s84)
def build_M (s : Obj) : Option (Int × Obj) :=
  if (s.1 30) = 0 then
    cB (planLayout_M s) fun _ s10 =>
    lB (setF s10 47 0) fun s15 =>
    lB (setF s15 52 0) fun s20 =>
    build_l25 (fun s68 =>
      build_j68 s68) FU 0 s20
  else
    some (0, s)
def copyLiteral_l6b (x1 : Int) (x3 : Int) (x4 : Int) (rec : Int → Int → Obj → Option (Int × Obj)) (x5 : Int) (x6 : Int) (s : Obj) : Option (Int × Obj) :=
  if x6 < x3 then
    if x6 < 64 then
      if x5 < 0 then
        some (x5, s)
      else
        if x5 < x4 then
          if x5 < 32 then
            cB (u8_M (aAdd x1 x6) s) fun z46 s46 =>
            wB s46 49 32 x5 (i2b (i2b z46)) fun s60 =>
            rec (aAdd x5 1) (aAdd x6 1) s60
          else
            some (x5, s)
        else
          some (x5, s)
    else
      some (x5, s)
  else
    some (x5, s)
def copyLiteral_l6 (x1 : Int) (x3 : Int) (x4 : Int) : Nat → Int → Int → Obj → Option (Int × Obj)
  | 0 => fun _ _ _ => none
  | fu + 1 => copyLiteral_l6b x1 x3 x4 (copyLiteral_l6 x1 x3 x4 fu)
def copyLiteral_M (x1 : Int) (x2 : Int) (x3 : Int) (x4 : Int) (s : Obj) : Option (Int × Obj) :=
  copyLiteral_l6 x1 x3 x4 FU x2 0 s
def fillRun_l6b (x1 : Int) (x3 : Int) (x4 : Int) (rec : Int → Int → Obj → Option (Int × Obj)) (x5 : Int) (x6 : Int) (s : Obj) : Option (Int × Obj) :=
  if x6 < x3 then
    if x6 < 64 then
      if x5 < 0 then
        some (x5, s)
      else
        if x5 < x4 then
          if x5 < 32 then
            wB s 49 32 x5 (i2b (i2b x1)) fun s49 =>
            rec (aAdd x5 1) (aAdd x6 1) s49
          else
            some (x5, s)
        else
          some (x5, s)
    else
      some (x5, s)
  else
    some (x5, s)
def fillRun_l6 (x1 : Int) (x3 : Int) (x4 : Int) : Nat → Int → Int → Obj → Option (Int × Obj)
  | 0 => fun _ _ _ => none
  | fu + 1 => fillRun_l6b x1 x3 x4 (fillRun_l6 x1 x3 x4 fu)
def fillRun_M (x1 : Int) (x2 : Int) (x3 : Int) (x4 : Int) (s : Obj) : Option (Int × Obj) :=
  fillRun_l6 x1 x3 x4 FU x2 0 s
def decodeBlock_j164 (rec : Int → Int → Int → Obj → Option (Int × Obj)) (x4 : Int) (x5 : Int) (x6 : Int) (x7 : Int) (x8 : Int) (s : Obj) : Option (Int × Obj) :=
  rec x5 x7 (aAdd x8 1) s
def decodeBlock_l28b (x4 : Int) (x6 : Int) (rec : Int → Int → Int → Obj → Option (Int × Obj)) (x5 : Int) (x7 : Int) (x8 : Int) (s : Obj) : Option (Int × Obj) :=
  if x8 < 64 then
    if x5 < x6 then
      if x7 < x4 then
        cB (u8_M x5 s) fun z52 s52 =>
        lB (aUshr z52 6) fun x10_65 =>
        lB (aAdd (aAnd z52 63) 1) fun x11_74 =>
        if x10_65 = 0 then
          cB (copyLiteral_M (aAdd x5 1) x7 x11_74 x4 s52) fun z90 s90 =>
          lB (aAdd (aAdd x5 1) x11_74) fun x5_100 =>
          decodeBlock_j164 rec x4 x5_100 x6 z90 x8 s90
        else
          if x10_65 = 1 then
            cB (u8_M (aAdd x5 1) s52) fun z114 s114 =>
            cB (fillRun_M z114 x7 x11_74 x4 s114) fun z131 s131 =>
            decodeBlock_j164 rec x4 (aAdd (aAdd x5 1) 1) x6 z131 x8 s131
          else
            cB (u8_M (aAdd x5 1) s52) fun z142 s142 =>
            none
      else
        some (x7, s)
    else
      some (x7, s)
  else
    some (x7, s)
def decodeBlock_l28 (x4 : Int) (x6 : Int) : Nat → Int → Int → Int → Obj → Option (Int × Obj)
  | 0 => fun _ _ _ _ => none
  | fu + 1 => decodeBlock_l28b x4 x6 (decodeBlock_l28 x4 x6 fu)
def decodeBlock_j12 (x1 : Int) (x2 : Int) (y0 : Int) (s : Obj) : Option (Int × Obj) :=
  lB (aAdd x1 x2) fun x6_20 =>
  decodeBlock_l28 y0 x6_20 FU x1 0 0 s
def decodeBlock_M (x1 : Int) (x2 : Int) (x3 : Int) (s : Obj) : Option (Int × Obj) :=
  if 32 < x3 then
    decodeBlock_j12 x1 x2 32 s
  else
    decodeBlock_j12 x1 x2 x3 s
def loadBlock_M (x1 : Int) (s : Obj) : Option (Int × Obj) :=
  if x1 = (s.1 55) then
    some ((s.1 56), s)
  else
    cB (u8_M 11 s) fun z16 s16 =>
    if x1 < 0 then
      some (0, s16)
    else
      if x1 < z16 then
        cB (u16_M 2 s16) fun z33 s33 =>
        lB (aAdd z33 (aMul 4 x1)) fun x3_40 =>
        cB (u16_M x3_40 s33) fun z43 s43 =>
        cB (u8_M (aAdd x3_40 2) s43) fun z52 s52 =>
        cB (u8_M (aAdd x3_40 3) s52) fun z61 s61 =>
        cB (decodeBlock_M z43 z52 z61 s61) fun z73 s73 =>
        lB (setF s73 55 x1) fun s80 =>
        lB (setF s80 56 z73) fun s86 =>
        some (z73, s86)
      else
        some (0, s16)
def readByte_j134 (x6 : Int) (x7 : Int) (s : Obj) : Option (Int × Obj) :=
  cB (loadBlock_M x6 s) fun z137 s137 =>
  if x7 < 0 then
    some (0, s137)
  else
    if x7 < z137 then
      if x7 < 32 then
        rB (s137.2 49) 32 x7 fun z169 =>
        some ((aAnd z169 255), s137)
      else
        some (0, s137)
    else
      some (0, s137)
def readByte_M (x1 : Int) (x2 : Int) (s : Obj) : Option (Int × Obj) :=
  if (s.1 30) = 0 then
    some ((-1), s)
  else
    cB (isFile_M x1 s) fun z11 s11 =>
    if z11 = 0 then
      some ((-2), s11)
    else
      cB (inodePos_M x1 s11) fun z22 s22 =>
      cB (u16_M (aAdd z22 2) s22) fun z30 s30 =>
      if x2 < 0 then
        some ((-3), s30)
      else
        if x2 < z30 then
          dB (s30.1 28) <|
          lB (aMul (aDiv z30 (s30.1 28)) (s30.1 28)) fun x5_60 =>
          if x2 < x5_60 then
            cB (u8_M (aAdd z22 4) s30) fun z72 s72 =>
            dB (s72.1 28) <|
            lB (aAdd z72 (aDiv x2 (s72.1 28))) fun x6_82 =>
            dB (s72.1 28) <|
            lB (aRem x2 (s72.1 28)) fun x7_90 =>
            readByte_j134 x6_82 x7_90 s72
          else
            cB (u16_M (aAdd z22 5) s30) fun z99 s99 =>
            lB (aAdd z99 (aSub x2 x5_60)) fun x8_107 =>
            cB (u8_M 10 s99) fun z112 s112 =>
            dB (s112.1 28) <|
            lB (aAdd z112 (aDiv x8_107 (s112.1 28))) fun x6_123 =>
            dB (s112.1 28) <|
            lB (aRem x8_107 (s112.1 28)) fun x7_132 =>
            readByte_j134 x6_123 x7_132 s112
        else
          some ((-3), s30)
def tailLength_M (x1 : Int) (s : Obj) : Option (Int × Obj) :=
  if (s.1 30) = 0 then
    some ((-1), s)
  else
    cB (isFile_M x1 s) fun z11 s11 =>
    if z11 = 0 then
      some ((-2), s11)
    else
      cB (inodePos_M x1 s11) fun z22 s22 =>
      cB (u16_M (aAdd z22 2) s22) fun z30 s30 =>
      dB (s30.1 28) <|
      some ((aRem z30 (s30.1 28)), s30)
def law_j224 (x7 : Int) (y0 : Int) (w : MB) : Option (Int × MB) :=
  virB 0 (fun q => tailLength_M 1 q) w fun z229 w229 =>
  dB y0 <|
  if z229 = (aRem (aAdd x7 1) y0) then
    some (1, w229)
  else
    some (0, w229)
def law_j151 (x0 : Int) (x4 : Int) (x7 : Int) (y0 : Int) (w : MB) : Option (Int × MB) :=
  virB 0 (fun q => readByte_M 1 0 q) w fun z157 w157 =>
  if z157 = y0 then
    virB 0 (fun q => readByte_M 1 x7 q) w157 fun z172 w172 =>
    if z172 = (aAnd x4 255) then
      virB 0 (fun q => readByte_M 1 (aAdd x7 1) q) w172 fun z193 w193 =>
      if z193 = (-3) then
        if x0 < 4 then
          law_j224 x7 4 w193
        else
          if 32 < x0 then
            law_j224 x7 32 w193
          else
            law_j224 x7 x0 w193
      else
        some (0, w193)
    else
      some (0, w172)
  else
    some (0, w157)
def law_j85 (x0 : Int) (x2 : Int) (x4 : Int) (x6 : Int) (x7 : Int) (y0 : Int) (y1 : Int) (w : MB) : Option (Int × MB) :=
  if y1 = y0 then
    virB 0 (fun q => appendByte_M 1 x4 q) w fun z95 w95 =>
    if z95 = (aAdd x7 1) then
      virB 0 (fun q => fileSize_M 1 q) w95 fun z110 w110 =>
      if z110 = (aAdd x7 1) then
        virB 0 (fun q => build_M q) w110 fun z124 w124 =>
        if z124 = 0 then
          some (0, w124)
        else
          if x6 = 0 then
            law_j151 x0 x4 x7 (aAnd x4 255) w124
          else
            law_j151 x0 x4 x7 (aAnd x2 255) w124
      else
        some (0, w110)
    else
      some (0, w95)
  else
    some (0, w)
def law_j64 (x0 : Int) (x2 : Int) (x3 : Int) (x4 : Int) (x6 : Int) (y0 : Int) (w : MB) : Option (Int × MB) :=
  virB 0 (fun q => appendRun_M 1 x2 x3 q) w fun z71 w71 =>
  if x6 = 0 then
    law_j85 x0 x2 x4 x6 y0 (-3) z71 w71
  else
    law_j85 x0 x2 x4 x6 y0 x3 z71 w71
def law_j52 (x0 : Int) (x2 : Int) (x3 : Int) (x4 : Int) (y0 : Int) (w : MB) : Option (Int × MB) :=
  if y0 = 0 then
    law_j64 x0 x2 x3 x4 y0 0 w
  else
    law_j64 x0 x2 x3 x4 y0 x3 w
def law_j51 (x0 : Int) (x2 : Int) (x3 : Int) (x4 : Int) (w : MB) : Option (Int × MB) :=
  law_j52 x0 x2 x3 x4 0 w
def law_M (x0 : Int) (x1 : Int) (x2 : Int) (x3 : Int) (x4 : Int) (w : MB) : Option (Int × MB) :=
  newB 0 w fun w0 =>
  iniB 0 (ctor_M x0 x1) w0 fun w6 =>
  virB 0 (fun q => putNameChar_M 102 q) w6 fun z15 w15 =>
  if z15 = 0 then
    some (0, w15)
  else
    virB 0 (fun q => create_M 0 2 q) w15 fun z27 w27 =>
    if z27 = 1 then
      if x3 < 1 then
        law_j51 x0 x2 x3 x4 w27
      else
        if 64 < x3 then
          law_j51 x0 x2 x3 x4 w27
        else
          law_j52 x0 x2 x3 x4 1 w27
    else
      some (0, w27)
/-! plain Lean: reckoning and loops -/
theorem aAdd_id {x y : Int} (h1 : -2147483648 ≤ x + y) (h2 : x + y < 2147483648) : aAdd x y = x + y := w32_id h1 h2
theorem aSub_id {x y : Int} (h1 : -2147483648 ≤ x - y) (h2 : x - y < 2147483648) : aSub x y = x - y := w32_id h1 h2
theorem aMul_id {x y : Int} (h1 : -2147483648 ≤ x * y) (h2 : x * y < 2147483648) : aMul x y = x * y := w32_id h1 h2
theorem rB_in {α : Type} {f : Nat → Int} {len : Nat} {i : Int} {g : Int → Option α} (h1 : 0 ≤ i) (h2 : i < len) : rB f len i g = g (f i.toNat) := if_pos ⟨h1, h2⟩
theorem wB_in {α : Type} {σ : Obj} {k len : Nat} {i v : Int} {g : Obj → Option α} (h1 : 0 ≤ i) (h2 : i < len) : wB σ k len i v g = g (setA σ k i.toNat v) := if_pos ⟨h1, h2⟩
theorem setF_1 (σ : Obj) (k : Nat) (v : Int) : (setF σ k v).1 = Wp.upd σ.1 k v := rfl
theorem setF_2 (σ : Obj) (k : Nat) (v : Int) : (setF σ k v).2 = σ.2 := rfl
theorem setA_1 (σ : Obj) (k i : Nat) (v : Int) : (setA σ k i v).1 = σ.1 := rfl
theorem setA_2 (σ : Obj) (k i : Nat) (v : Int) : (setA σ k i v).2 = Wp.upd σ.2 k (Wp.upd (σ.2 k) i v) := rfl
theorem upd_apply {α : Type} (f : Nat → α) (k : Nat) (v : α) (j : Nat) : Wp.upd f k v j = if j = k then v else f j := rfl
theorem FU_pos : FU = 999999999 + 1 := rfl
/-- a loop: P holds at each turn, m falls, Q of the answer -/
theorem loop_ind {α R : Type} (lp : Nat → α → Option R) (m : α → Nat) (P : α → Prop) (Q : Option R → Prop)
    (h : ∀ fu a, P a → Q (lp (fu + 1) a) ∨ ∃ a', lp (fu + 1) a = lp fu a' ∧ P a' ∧ m a' < m a) : ∀ (fu : Nat) (a : α), P a → m a < fu → Q (lp fu a) := by
  intro fu
  induction fu with
  | zero => intro a _ hm; omega
  | succ fu ih =>
    intro a ha hm
    rcases h fu a ha with q | ⟨a', e, ha', hm'⟩
    · exact q
    · rw [e]; exact ih a' ha' (by omega)
theorem new0 (f : MB → Option (Int × MB)) : newB 0 ([], false) f = f ([], true) := rfl
theorem ini0 (r : Int) (s : Obj) (f : MB → Option (Int × MB)) : iniB 0 (some (r, s)) ([], true) f = f ([s], false) := rfl
theorem new1 (s : Obj) (f : MB → Option (Int × MB)) : newB 1 ([s], false) f = f ([s], true) := rfl
theorem ini1 (r : Int) (s t : Obj) (f : MB → Option (Int × MB)) : iniB 1 (some (r, t)) ([s], true) f = f ([s, t], false) := rfl
theorem vir0 {m : Obj → Option (Int × Obj)} {s s' : Obj} {z : Int} (h : m s = some (z, s')) (f : Int → MB → Option (Int × MB)) : virB 0 m ([s], false) f = f z ([s'], false) := by
  show (match m s with
    | none => none
    | some r => f r.1 ([s].set 0 r.2, false)) = _
  rw [h]; rfl
theorem virL {m : Obj → Option (Int × Obj)} {s s' t : Obj} {z : Int} (h : m s = some (z, s')) (f : Int → MB → Option (Int × MB)) : virB 0 m ([s, t], false) f = f z ([s', t], false) := by
  show (match m s with
    | none => none
    | some r => f r.1 ([s, t].set 0 r.2, false)) = _
  rw [h]; rfl
theorem virR {m : Obj → Option (Int × Obj)} {s t t' : Obj} {z : Int} (h : m t = some (z, t')) (f : Int → MB → Option (Int × MB)) : virB 1 m ([s, t], false) f = f z ([s, t'], false) := by
  show (match m t with
    | none => none
    | some r => f r.1 ([s, t].set 1 r.2, false)) = _
  rw [h]; rfl
theorem obj_ext {s t : Obj} (h1 : s.1 = t.1) (h2 : ∀ k i, s.2 k i = t.2 k i) : s = t := Prod.ext h1 (funext fun k => funext fun i => h2 k i)
/-- array k holds v from lo up to hi -/
def fillA (s : Obj) (k lo hi : Nat) (v : Int) : Obj := (s.1, Wp.upd s.2 k (fun i => if lo ≤ i ∧ i < hi then v else s.2 k i))
theorem fillA_1 (s : Obj) (k lo hi : Nat) (v : Int) : (fillA s k lo hi v).1 = s.1 := rfl
theorem fillA_ne (s : Obj) {k j : Nat} (lo hi : Nat) (v : Int) (h : j ≠ k) : (fillA s k lo hi v).2 j = s.2 j := upd_ne _ _ h
theorem fillA_at (s : Obj) (k lo hi : Nat) (v : Int) (i : Nat) : (fillA s k lo hi v).2 k i = if lo ≤ i ∧ i < hi then v else s.2 k i := by show Wp.upd s.2 k _ k i = _; rw [upd_same]
theorem fillA_in (s : Obj) {k lo hi : Nat} (v : Int) {i : Nat} (h1 : lo ≤ i) (h2 : i < hi) : (fillA s k lo hi v).2 k i = v := by rw [fillA_at, if_pos ⟨h1, h2⟩]
theorem fillA_nil (s : Obj) (k lo : Nat) (v : Int) : fillA s k lo lo v = s := by
  refine obj_ext rfl ?_
  intro a b
  by_cases h : a = k
  · subst h; rw [fillA_at, if_neg (by omega)]
  · rw [fillA_ne _ _ _ _ h]
theorem setA_at (s : Obj) (k i : Nat) (v : Int) (j : Nat) : (setA s k i v).2 k j = if j = i then v else s.2 k j := by show Wp.upd s.2 k _ k j = _; rw [upd_same]; rfl
theorem setA_ne (s : Obj) {k j : Nat} (i : Nat) (v : Int) (h : j ≠ k) : (setA s k i v).2 j = s.2 j := upd_ne _ _ h
theorem setA_same (s : Obj) (k i : Nat) (v : Int) : (setA s k i v).2 k = Wp.upd (s.2 k) i v := upd_same _ _ _
theorem fillA_snoc (s : Obj) (k lo i : Nat) (v : Int) (h : lo ≤ i) : setA (fillA s k lo i v) k i v = fillA s k lo (i + 1) v := by
  refine obj_ext rfl ?_
  intro a b
  by_cases e : a = k
  · subst e
    rw [setA_at, fillA_at, fillA_at]
    by_cases e2 : b = i
    · rw [if_pos e2, if_pos ⟨by omega, by omega⟩]
    · rw [if_neg e2]
      by_cases e3 : lo ≤ b ∧ b < i
      · rw [if_pos e3, if_pos ⟨e3.1, by omega⟩]
      · rw [if_neg e3, if_neg (by omega)]
  · rw [setA_ne _ _ _ e, fillA_ne _ _ _ _ e, fillA_ne _ _ _ _ e]
theorem setA_fillA (s : Obj) {k j : Nat} (lo hi i : Nat) (v w : Int) (h : j ≠ k) : setA (fillA s k lo hi v) j i w = fillA (setA s j i w) k lo hi v := by
  refine obj_ext rfl ?_
  intro a b
  by_cases e : a = k
  · subst e
    rw [setA_ne _ _ _ (Ne.symm h), fillA_at, fillA_at, setA_ne _ _ _ (Ne.symm h)]
  · rw [fillA_ne _ _ _ _ e]
    by_cases e2 : a = j
    · subst e2; rw [setA_at, setA_at, fillA_ne _ _ _ _ e]
    · rw [setA_ne _ _ _ e2, setA_ne _ _ _ e2, fillA_ne _ _ _ _ e]
/-- n turns of g from i on -/
def itr (g : Nat → Obj → Obj) : Nat → Nat → Obj → Obj
  | _, 0, s => s
  | i, n + 1, s => itr g (i + 1) n (g i s)
theorem for_eq {lp : Nat → Int → Obj → Option (Int × Obj)} (N : Nat) (g : Nat → Obj → Obj) (k : Obj → Option (Int × Obj))
    (hstep : ∀ (fu i : Nat) (s : Obj), i < N → lp (fu + 1) (i : Int) s = lp fu ((i + 1 : Nat) : Int) (g i s)) (hend : ∀ (fu : Nat) (s : Obj), lp (fu + 1) (N : Int) s = k s) :
    ∀ (n fu i : Nat) (s : Obj), i + n = N → n < fu → lp fu (i : Int) s = k (itr g i n s) := by
  intro n
  induction n with
  | zero =>
    intro fu i s h1 h2
    obtain ⟨f, rfl⟩ : ∃ f, fu = f + 1 := ⟨fu - 1, by omega⟩
    have : i = N := by omega
    subst this; exact hend f s
  | succ n ih =>
    intro fu i s h1 h2
    obtain ⟨f, rfl⟩ : ∃ f, fu = f + 1 := ⟨fu - 1, by omega⟩
    rw [hstep f i s (by omega), ih f (i + 1) (g i s) (by omega) (by omega)]; rfl
theorem itr_fill (k : Nat) (v : (Nat → Int) → Int) : ∀ (n i lo : Nat) (s : Obj), lo ≤ i → itr (fun i s => setA s k i (v s.1)) i n (fillA s k lo i (v s.1)) = fillA s k lo (i + n) (v s.1) := by
  intro n
  induction n with
  | zero => intro i lo s h; rfl
  | succ n ih =>
    intro i lo s h
    show itr _ (i + 1) n (setA (fillA s k lo i (v s.1)) k i (v s.1)) = _
    rw [fillA_snoc _ _ _ _ _ h, ih (i + 1) lo s (by omega), show i + 1 + n = i + (n + 1) by omega]
theorem itr_fill0 (k N : Nat) (v : (Nat → Int) → Int) (s : Obj) : itr (fun i s => setA s k i (v s.1)) 0 N s = fillA s k 0 N (v s.1) := by
  have h := itr_fill k v N 0 0 s (Nat.le_refl _)
  rw [fillA_nil] at h; rw [h]; simp
theorem itr_fill2 (k j : Nat) (hkj : j ≠ k) (v w : (Nat → Int) → Int) : ∀ (n i : Nat) (s : Obj), itr (fun i s => setA (setA s k i (v s.1)) j i (w s.1)) i n (fillA (fillA s k 0 i (v s.1)) j 0 i (w s.1)) = fillA (fillA s k 0 (i + n) (v s.1)) j 0 (i + n) (w s.1) := by
  intro n
  induction n with
  | zero => intro i s; rfl
  | succ n ih =>
    intro i s
    show itr _ (i + 1) n (setA (setA (fillA (fillA s k 0 i (v s.1)) j 0 i (w s.1)) k i (v s.1)) j i (w s.1)) = _
    rw [setA_fillA _ _ _ _ _ _ (Ne.symm hkj), fillA_snoc _ _ _ _ _ (Nat.zero_le _), fillA_snoc _ _ _ _ _ (Nat.zero_le _), ih (i + 1) s, show i + 1 + n = i + (n + 1) by omega]
theorem itr_fill20 (k j N : Nat) (hkj : j ≠ k) (v w : (Nat → Int) → Int) (s : Obj) : itr (fun i s => setA (setA s k i (v s.1)) j i (w s.1)) 0 N s = fillA (fillA s k 0 N (v s.1)) j 0 N (w s.1) := by
  have h := itr_fill2 k j hkj v w N 0 s
  rw [fillA_nil, fillA_nil] at h; rw [h]; simp
theorem wB_nat {α : Type} {σ : Obj} {k len i : Nat} {v : Int} {g : Obj → Option α} (h : i < len) : wB σ k len (i : Int) v g = g (setA σ k i v) := by
  rw [wB_in (by omega) (by omega), Int.toNat_natCast]
theorem rB_nat {α : Type} {f : Nat → Int} {len i : Nat} {g : Int → Option α} (h : i < len) : rB f len (i : Int) g = g (f i) := by
  rw [rB_in (by omega) (by omega), Int.toNat_natCast]
theorem aInc (i : Nat) (h : i < 2147483647) : aAdd (i : Int) 1 = ((i + 1 : Nat) : Int) := by rw [aAdd_id (by omega) (by omega)]; omega
theorem setA_get (s : Obj) (k i : Nat) (v : Int) (j a : Nat) : (setA s k i v).2 j a = if j = k then (if a = i then v else s.2 k a) else s.2 j a := by
  by_cases h : j = k
  · subst h; rw [setA_at, if_pos rfl]
  · rw [setA_ne _ _ _ h, if_neg h]
theorem setF_get (s : Obj) (k : Nat) (v : Int) (j : Nat) : (setF s k v).1 j = if j = k then v else s.1 j := rfl
/-- n turns that touch column b+i of every array alike -/
theorem itr_gen (g : Nat → Obj → Obj) (V : Nat → Int → Int) (b : Nat) (h1 : ∀ i s, (g i s).1 = s.1) (h2 : ∀ i s k a, (g i s).2 k a = if a = b + i then V k (s.2 k a) else s.2 k a) :
    ∀ (n i : Nat) (s : Obj), (itr g i n s).1 = s.1 ∧ ∀ k a, (itr g i n s).2 k a = if b + i ≤ a ∧ a < b + i + n then V k (s.2 k a) else s.2 k a := by
  intro n
  induction n with
  | zero => intro i s; exact ⟨rfl, fun k a => by rw [if_neg (by omega)]; rfl⟩
  | succ n ih =>
    intro i s
    obtain ⟨a1, a2⟩ := ih (i + 1) (g i s)
    refine ⟨a1.trans (h1 i s), fun k a => ?_⟩
    show (itr g (i + 1) n (g i s)).2 k a = _
    rw [a2, h2]
    by_cases e : a = b + i
    · rw [if_neg (by omega), if_pos e, if_pos (by omega)]
    · rw [if_neg e]
      by_cases e2 : b + i ≤ a ∧ a < b + i + (n + 1)
      · rw [if_pos (by omega), if_pos e2]
      · rw [if_neg (by omega), if_neg e2]
/-- a counting loop as what it leaves -/
theorem for_gen {lp : Nat → Int → Obj → Option (Int × Obj)} (N : Nat) (hN : N < 1000000) (g : Nat → Obj → Obj) (V : Nat → Int → Int) (b : Nat) (k : Obj → Option (Int × Obj))
    (hstep : ∀ (fu i : Nat) (s : Obj), i < N → lp (fu + 1) (i : Int) s = lp fu ((i + 1 : Nat) : Int) (g i s)) (hend : ∀ (fu : Nat) (s : Obj), lp (fu + 1) (N : Int) s = k s)
    (h1 : ∀ i s, (g i s).1 = s.1) (h2 : ∀ i s k a, (g i s).2 k a = if a = b + i then V k (s.2 k a) else s.2 k a) (s : Obj) :
    lp FU 0 s = k (s.1, fun k a => if b ≤ a ∧ a < b + N then V k (s.2 k a) else s.2 k a) := by
  have h := for_eq N g k hstep hend N FU 0 s (by omega) (by unfold FU; omega)
  obtain ⟨a1, a2⟩ := itr_gen g V b h1 h2 N 0 s
  have e : itr g 0 N s = (s.1, fun k a => if b ≤ a ∧ a < b + N then V k (s.2 k a) else s.2 k a) := obj_ext a1 (fun k a => by rw [a2]; rfl)
  rw [e] at h; exact h
def clampF (v lo hi : Int) : Int := if v < lo then lo else if hi < v then hi else v
theorem clampF_in (v : Int) {lo hi : Int} (h : lo ≤ hi) : lo ≤ clampF v lo hi ∧ clampF v lo hi ≤ hi := by unfold clampF; split <;> (try split) <;> omega
theorem clamp_eq (v lo hi : Int) (s : Obj) : clamp_M v lo hi s = some (clampF v lo hi, s) := by
  unfold clamp_M clampF; split
  · rfl
  · split <;> rfl
/-! the image's bytes -/
def BY (z : Int) : Prop := -128 ≤ z ∧ z < 128
theorem by_st {z : Int} (h : BY z) : i2b (i2b z) = z := by unfold BY at h; unfold i2b; omega
theorem by_in (v : Int) : BY (i2b (i2b v)) := by unfold BY i2b; omega
theorem by_b1 {z : Int} (h : BY z) : i2b z = z := by unfold BY at h; unfold i2b; omega
theorem by_and {z : Int} (h : BY z) : aAnd z 255 = if z < 0 then z + 256 else z := by
  have : ∀ k : Fin 256, aAnd ((k.val : Int) - 128) 255 = if ((k.val : Int) - 128) < 0 then ((k.val : Int) - 128) + 256 else ((k.val : Int) - 128) := by decide +kernel
  unfold BY at h
  have := this ⟨(z + 128).toNat, by omega⟩
  rw [show (((z + 128).toNat : Nat) : Int) - 128 = z by omega] at this
  exact this
theorem by_u8 {z : Int} (h : BY z) : i2b (i2b (aAnd z 255)) = z := by
  rw [by_and h]; unfold BY at h; unfold i2b; split <;> omega
theorem u8_v {v : Int} (h : 0 ≤ v ∧ v < 256) : aAnd (i2b (i2b v)) 255 = v := by
  rw [by_and (by_in v)]; unfold i2b; split <;> omega
theorem u8_eq {p : Nat} (hp : p < 1024) (s : Obj) : u8_M (p : Int) s = some (aAnd (s.2 44 p) 255, s) := by
  unfold u8_M
  rw [if_neg (by omega), if_pos (by omega), rB_nat hp]
theorem put8_eq {p : Nat} (hp : p < 1024) (v : Int) (s : Obj) : put8_M (p : Int) v s = some (0, setA s 44 p (i2b (i2b v))) := by
  unfold put8_M
  rw [if_neg (by omega), if_pos (by omega), wB_nat hp]
theorem or8 (a b : Nat) (ha : a < 256) (hb : b < 256) : aOr (aShl (a : Int) 8) (b : Int) = ((a * 256 + b : Nat) : Int) := by
  have h1 : ∀ a : Fin 256, aShl ((a.val : Nat) : Int) 8 = ((a.val * 256 : Nat) : Int) := by decide +kernel
  have h1 := h1 ⟨a, ha⟩
  rw [show aShl (a : Int) 8 = ((a * 256 : Nat) : Int) from h1]
  have e : ∀ x : Nat, x < 65536 → (o32 (x : Int)).toBitVec = BitVec.ofNat 32 x := fun x hx => by
    unfold o32
    show (Int32.ofInt (x : Int)).toBitVec = _
    rfl
  show (o32 ((a * 256 : Nat) : Int) ||| o32 (b : Int)).toInt = _
  have h2 : (o32 ((a * 256 : Nat) : Int) ||| o32 (b : Int)).toBitVec.toNat = a * 256 + b := by
    rw [Int32.toBitVec_or, e _ (by omega), e _ (by omega), BitVec.toNat_or, BitVec.toNat_ofNat, BitVec.toNat_ofNat, Nat.mod_eq_of_lt (by omega), Nat.mod_eq_of_lt (by omega)]
    have := Nat.shiftLeft_add_eq_or_of_lt (i := 8) (b := b) (by omega) a
    rw [Nat.shiftLeft_eq] at this
    rw [← this]
  rw [Int32.toInt, BitVec.toInt_eq_toNat_cond, h2, if_pos (by omega)]
theorem u16_eq {p : Nat} (hp : p + 1 < 1024) (s : Obj) {a b : Nat} (ha : a < 256) (hb : b < 256) (h0 : aAnd (s.2 44 p) 255 = (a : Int)) (h1 : aAnd (s.2 44 (p + 1)) 255 = (b : Int)) : u16_M (p : Int) s = some (((a * 256 + b : Nat) : Int), s) := by
  unfold u16_M
  rw [u8_eq (by omega), cB_some, aInc p (by omega), u8_eq (by omega), cB_some, h0, h1, or8 a b ha hb]
theorem put16_eq {p : Nat} (hp : p + 1 < 1024) {v : Nat} (hv : v < 65536) (s : Obj) : put16_M (p : Int) (v : Int) s = some (0, setA (setA s 44 p (i2b (i2b ((v / 256 : Nat) : Int)))) 44 (p + 1) (i2b (i2b ((v % 256 : Nat) : Int)))) := by
  have h1 : aAnd (aUshr (v : Int) 8) 255 = ((v / 256 : Nat) : Int) := by
    have e : (o32 (v : Int)).toBitVec = BitVec.ofNat 32 v := rfl
    have h : (((o32 (v : Int)).toUInt32 >>> (o32 8 &&& 31).toUInt32).toInt32.toBitVec).toNat = v / 256 := by
      show (((o32 (v : Int)).toUInt32 >>> (o32 8 &&& 31).toUInt32).toBitVec).toNat = _
      rw [UInt32.toBitVec_shiftRight]
      have h4 : ((o32 8 &&& 31).toUInt32.toBitVec % 32#32).toNat = 8 := by decide +kernel
      show ((o32 (v : Int)).toBitVec >>> ((o32 8 &&& 31).toUInt32.toBitVec % 32#32).toNat).toNat = _
      rw [h4, BitVec.toNat_ushiftRight, Nat.shiftRight_eq_div_pow, e, BitVec.toNat_ofNat, Nat.mod_eq_of_lt (by omega)]
    have hu : aUshr (v : Int) 8 = ((v / 256 : Nat) : Int) := by
      unfold aUshr
      rw [Int32.toInt, BitVec.toInt_eq_toNat_cond, h, if_pos (by omega)]
    rw [hu]
    have : ∀ k : Fin 256, aAnd ((k.val : Nat) : Int) 255 = ((k.val : Nat) : Int) := by decide +kernel
    exact this ⟨v / 256, by omega⟩
  have h2 : aAnd (v : Int) 255 = ((v % 256 : Nat) : Int) := by
    have e : (o32 (v : Int)).toBitVec = BitVec.ofNat 32 v := rfl
    have h : (o32 (v : Int) &&& o32 255).toBitVec.toNat = v % 256 := by
      rw [Int32.toBitVec_and, e, BitVec.toNat_and, BitVec.toNat_ofNat, Nat.mod_eq_of_lt (by omega)]
      exact Nat.and_two_pow_sub_one_eq_mod v 8
    show (o32 (v : Int) &&& o32 255).toInt = _
    rw [Int32.toInt, BitVec.toInt_eq_toNat_cond, h, if_pos (by omega)]
  unfold put16_M
  rw [h1, h2, put8_eq (by omega), cB_some, aInc p (by omega), put8_eq (by omega), cB_some]
/-! run length and matches -/
def rl (raw : Nat → Int) (i n r : Nat) : Prop := 1 ≤ r ∧ i + r ≤ n ∧ (∀ t, t < r → raw (i + t) = raw i) ∧ (i + r < n → raw (i + r) ≠ raw i)
theorem run_eq {s : Obj} {i n : Nat} (hi : i < n) (hn : n ≤ 32) : ∃ r : Nat, runLength_M (i : Int) (n : Int) s = some ((r : Int), s) ∧ rl (s.2 48) i n r := by
  have l : ∀ (k fu r : Nat), i + r + k = n → k < fu → 1 ≤ r → (∀ t, t < r → s.2 48 (i + t) = s.2 48 i) → ∃ r' : Nat, runLength_l15 (n : Int) (s.2 48 i) fu (r : Int) ((i + r : Nat) : Int) s = some ((r' : Int), s) ∧ rl (s.2 48) i n r' := by
    intro k
    induction k with
    | zero =>
      intro fu r e1 e2 h1 h
      obtain ⟨g, rfl⟩ : ∃ g, fu = g + 1 := ⟨fu - 1, by omega⟩
      refine ⟨r, ?_, h1, by omega, h, fun w => by omega⟩
      show runLength_l15b _ _ (runLength_l15 _ _ g) _ _ _ = _
      unfold runLength_l15b
      rw [if_neg (by omega)]
    | succ k ih =>
      intro fu r e1 e2 h1 h
      obtain ⟨g, rfl⟩ : ∃ g, fu = g + 1 := ⟨fu - 1, by omega⟩
      show ∃ r' : Nat, runLength_l15b _ _ (runLength_l15 _ _ g) _ _ _ = _ ∧ _
      unfold runLength_l15b
      rw [if_pos (by omega), if_pos (by omega), rB_nat (by omega)]
      by_cases q : s.2 48 (i + r) = s.2 48 i
      · rw [if_pos q, aInc r (by omega), aInc (i + r) (by omega), show i + r + 1 = i + (r + 1) by omega]
        refine ih g (r + 1) (by omega) (by omega) (by omega) (fun t ht => ?_)
        by_cases z : t = r
        · rw [z]; exact q
        · exact h t (by omega)
      · rw [if_neg q]; exact ⟨r, rfl, h1, by omega, h, fun _ => q⟩
  unfold runLength_M
  rw [rB_nat (by omega), aInc i (by omega), lB_eq]
  exact l (n - (i + 1)) FU 1 (by omega) (by unfold FU; omega) (by omega) (fun t ht => by rw [show t = 0 by omega, Nat.add_zero])
def ml (raw : Nat → Int) (i d n m : Nat) : Prop := i + m ≤ n ∧ ∀ t, t < m → raw (i + t) = raw (i + t - d)
theorem mat_eq {s : Obj} {i d n : Nat} (hi : i < n) (hd : 1 ≤ d ∧ d ≤ i) (hn : n ≤ 32) : ∃ m : Nat, matchLength_M (i : Int) (d : Int) (n : Int) s = some ((m : Int), s) ∧ ml (s.2 48) i d n m := by
  have l : ∀ (k fu m : Nat), i + m + k = n → k < fu → (∀ t, t < m → s.2 48 (i + t) = s.2 48 (i + t - d)) → ∃ m' : Nat, matchLength_l6 (i : Int) (d : Int) (n : Int) fu (m : Int) (m : Int) s = some ((m' : Int), s) ∧ ml (s.2 48) i d n m' := by
    intro k
    induction k with
    | zero =>
      intro fu m e1 e2 h
      obtain ⟨g, rfl⟩ : ∃ g, fu = g + 1 := ⟨fu - 1, by omega⟩
      refine ⟨m, ?_, by omega, h⟩
      show matchLength_l6b _ _ _ (matchLength_l6 _ _ _ g) _ _ _ = _
      unfold matchLength_l6b
      by_cases q : m < 32
      · rw [if_pos (by omega), lB_eq, lB_eq, aAdd_id (by omega) (by omega), if_neg (by omega)]
      · rw [if_neg (by omega)]
    | succ k ih =>
      intro fu m e1 e2 h
      obtain ⟨g, rfl⟩ : ∃ g, fu = g + 1 := ⟨fu - 1, by omega⟩
      show ∃ m' : Nat, matchLength_l6b _ _ _ (matchLength_l6 _ _ _ g) _ _ _ = _ ∧ _
      unfold matchLength_l6b
      rw [if_pos (by omega), lB_eq, lB_eq, aAdd_id (x := (i : Int)) (by omega) (by omega), aSub_id (by omega) (by omega), if_pos (by omega), if_pos (by omega), if_neg (by omega), show (i : Int) + (m : Int) = ((i + m : Nat) : Int) by omega, rB_nat (by omega), show ((i + m : Nat) : Int) - (d : Int) = ((i + m - d : Nat) : Int) by omega, rB_nat (by omega)]
      by_cases q : s.2 48 (i + m) = s.2 48 (i + m - d)
      · rw [if_pos q, aInc m (by omega)]
        refine ih g (m + 1) (by omega) (by omega) (fun t ht => ?_)
        by_cases z : t = m
        · rw [z]; exact q
        · exact h t (by omega)
      · rw [if_neg q]; exact ⟨m, rfl, by omega, h⟩
  unfold matchLength_M
  exact l (n - i) FU 0 (by omega) (by unfold FU; omega) (fun t ht => by omega)
/-- the best earlier match -/
theorem best_eq {s : Obj} {i n : Nat} (hi : i < n) (hn : n ≤ 32) : ∃ (t : Obj) (d : Nat) (m : Nat), bestDistance_M (i : Int) (n : Int) s = some ((d : Int), t) ∧ t.2 = s.2 ∧ (∀ k, k ≠ 54 → t.1 k = s.1 k) ∧ t.1 54 = (m : Int) ∧ (1 ≤ d → d ≤ i ∧ ml (s.2 48) i d n m) := by
  have l : ∀ (k fu x d m : Nat) (u : Obj), x + k = i + 1 → 1 ≤ x → k < fu → u.2 = s.2 → (∀ k, k ≠ 54 → u.1 k = s.1 k) → u.1 54 = (m : Int) → (1 ≤ d → d ≤ i ∧ ml (s.2 48) i d n m) → ∃ (t : Obj) (d' : Nat) (m' : Nat), bestDistance_l10 (i : Int) (n : Int) fu (d : Int) (x : Int) u = some ((d' : Int), t) ∧ t.2 = s.2 ∧ (∀ k, k ≠ 54 → t.1 k = s.1 k) ∧ t.1 54 = (m' : Int) ∧ (1 ≤ d' → d' ≤ i ∧ ml (s.2 48) i d' n m') := by
    intro k
    induction k with
    | zero =>
      intro fu x d m u e1 e0 e2 u2 u1 um hd
      obtain ⟨g, rfl⟩ : ∃ g, fu = g + 1 := ⟨fu - 1, by omega⟩
      refine ⟨u, d, m, ?_, u2, u1, um, hd⟩
      show bestDistance_l10b _ _ (bestDistance_l10 _ _ g) _ _ _ = _
      unfold bestDistance_l10b
      rw [if_pos (by omega)]
    | succ k ih =>
      intro fu x d m u e1 e0 e2 u2 u1 um hd
      obtain ⟨g, rfl⟩ : ∃ g, fu = g + 1 := ⟨fu - 1, by omega⟩
      obtain ⟨q, eq, hq⟩ := mat_eq (s := u) (d := x) hi (by omega) hn
      rw [u2] at hq
      show ∃ (t : Obj) (d' : Nat) (m' : Nat), bestDistance_l10b _ _ (bestDistance_l10 _ _ g) _ _ _ = _ ∧ _
      unfold bestDistance_l10b bestDistance_j51
      rw [if_neg (by omega), if_pos (by omega), eq, cB_some, aInc x (by omega)]
      split
      · rw [lB_eq]
        exact ih g (x + 1) x q _ (by omega) (by omega) (by omega) u2 (fun k hk => by rw [setF_get, if_neg hk]; exact u1 k hk) rfl (fun _ => ⟨by omega, hq⟩)
      · exact ih g (x + 1) d m u (by omega) (by omega) (by omega) u2 u1 um hd
  unfold bestDistance_M
  rw [lB_eq]
  exact l i FU 1 0 0 (setF s 54 0) (by omega) (by omega) (by unfold FU; omega) rfl (fun k hk => by rw [setF_get, if_neg hk]) rfl (fun w => by omega)
/-! the coder -/
def EN (g raw : Nat → Int) (b j : Nat) : Nat → Nat → Nat → Prop
  | 0, a, i => a = b ∧ i = j
  | k + 1, a, i => (∃ L : Nat, (1 ≤ L ∧ L ≤ 32) ∧ g a = (L : Int) - 1 ∧ (∀ t, t < L → g (a + 1 + t) = raw (i + t)) ∧ EN g raw b j k (a + 1 + L) (i + L)) ∨
      (∃ L : Nat, (1 ≤ L ∧ L ≤ 32) ∧ g a = 64 + ((L : Int) - 1) ∧ (∀ t, t < L → raw (i + t) = g (a + 1)) ∧ EN g raw b j k (a + 2) (i + L))
theorem EN.le {g raw : Nat → Int} {b j : Nat} : ∀ {k a i : Nat}, EN g raw b j k a i → a ≤ b ∧ i + k ≤ j := by
  intro k
  induction k with
  | zero => intro a i h; obtain ⟨rfl, rfl⟩ := h; omega
  | succ k ih =>
    intro a i h
    rcases h with ⟨L, h1, _, _, h4⟩ | ⟨L, h1, _, _, h4⟩
    · have := ih h4; omega
    · have := ih h4; omega
theorem EN.congr {g g' raw : Nat → Int} {b j : Nat} : ∀ {k a i : Nat}, EN g raw b j k a i → (∀ p, a ≤ p → p < b → g' p = g p) → EN g' raw b j k a i := by
  intro k
  induction k with
  | zero => intro a i h _; exact h
  | succ k ih =>
    intro a i h e
    rcases h with ⟨L, h1, h2, h3, h4⟩ | ⟨L, h1, h2, h3, h4⟩
    · have le := h4.le
      refine Or.inl ⟨L, h1, by rw [e a (by omega) (by omega)]; exact h2, fun t ht => by rw [e _ (by omega) (by omega)]; exact h3 t ht, ih h4 (fun p h5 h6 => e p (by omega) h6)⟩
    · have le := h4.le
      refine Or.inr ⟨L, h1, by rw [e a (by omega) (by omega)]; exact h2, fun t ht => by rw [e _ (by omega) (by omega)]; exact h3 t ht, ih h4 (fun p h5 h6 => e p (by omega) h6)⟩
theorem EN.lit {g raw : Nat → Int} {b j L : Nat} (hL : 1 ≤ L ∧ L ≤ 32) (h1 : g b = (L : Int) - 1) (h2 : ∀ t, t < L → g (b + 1 + t) = raw (j + t)) : ∀ {k a i : Nat}, EN g raw b j k a i → EN g raw (b + 1 + L) (j + L) (k + 1) a i := by
  intro k
  induction k with
  | zero =>
    intro a i h
    obtain ⟨rfl, rfl⟩ := h
    exact Or.inl ⟨L, hL, h1, h2, rfl, rfl⟩
  | succ k ih =>
    intro a i h
    rcases h with ⟨M, m1, m2, m3, m4⟩ | ⟨M, m1, m2, m3, m4⟩
    · exact Or.inl ⟨M, m1, m2, m3, ih m4⟩
    · exact Or.inr ⟨M, m1, m2, m3, ih m4⟩
theorem EN.run {g raw : Nat → Int} {b j L : Nat} (hL : 1 ≤ L ∧ L ≤ 32) (h1 : g b = 64 + ((L : Int) - 1)) (h2 : ∀ t, t < L → raw (j + t) = g (b + 1)) : ∀ {k a i : Nat}, EN g raw b j k a i → EN g raw (b + 2) (j + L) (k + 1) a i := by
  intro k
  induction k with
  | zero =>
    intro a i h
    obtain ⟨rfl, rfl⟩ := h
    exact Or.inr ⟨L, hL, h1, h2, rfl, rfl⟩
  | succ k ih =>
    intro a i h
    rcases h with ⟨M, m1, m2, m3, m4⟩ | ⟨M, m1, m2, m3, m4⟩
    · exact Or.inl ⟨M, m1, m2, m3, ih m4⟩
    · exact Or.inr ⟨M, m1, m2, m3, ih m4⟩
theorem lm63 (L : Nat) (hL : 1 ≤ L ∧ L ≤ 32) : aOr 0 (aAnd (aSub (L : Int) 1) 63) = (L : Int) - 1 ∧ aOr (aShl 1 6) (aAnd (aSub (L : Int) 1) 63) = 64 + ((L : Int) - 1) := by
  have : ∀ k : Fin 32, aOr 0 (aAnd (aSub (((k.val + 1 : Nat)) : Int) 1) 63) = ((k.val + 1 : Nat) : Int) - 1 ∧ aOr (aShl 1 6) (aAnd (aSub (((k.val + 1 : Nat)) : Int) 1) 63) = 64 + (((k.val + 1 : Nat) : Int) - 1) := by decide +kernel
  have := this ⟨L - 1, by omega⟩
  rw [show L - 1 + 1 = L by omega] at this
  exact this
theorem flush_eq {s : Obj} {W st L : Nat} (hW : s.1 51 = (W : Int)) (hL : 1 ≤ L ∧ L ≤ 32) (hs : st + L ≤ 32) (hb : W + 1 + L ≤ 1024) (raw : ∀ x, x < 32 → BY (s.2 48 x)) : ∃ t, flushLiteral_M (st : Int) (L : Int) s = some (0, t) ∧ (∀ k, k ≠ 51 → t.1 k = s.1 k) ∧ t.1 51 = ((W + 1 + L : Nat) : Int) ∧ (∀ k, k ≠ 44 → t.2 k = s.2 k) ∧ t.2 44 W = (L : Int) - 1 ∧ (∀ x, x < L → t.2 44 (W + 1 + x) = s.2 48 (st + x)) ∧ (∀ p, (p < W ∨ W + 1 + L ≤ p) → t.2 44 p = s.2 44 p) := by
  have l : ∀ (k fu x : Nat) (u : Obj), x + k = L → k < fu → (∀ k, k ≠ 51 → u.1 k = s.1 k) → u.1 51 = ((W + 1 + x : Nat) : Int) → (∀ k, k ≠ 44 → u.2 k = s.2 k) → u.2 44 W = (L : Int) - 1 → (∀ y, y < x → u.2 44 (W + 1 + y) = s.2 48 (st + y)) → (∀ p, (p < W ∨ W + 1 + x ≤ p) → u.2 44 p = s.2 44 p) → ∃ t, flushLiteral_l33 (st : Int) (L : Int) fu (x : Int) u = some (0, t) ∧ (∀ k, k ≠ 51 → t.1 k = s.1 k) ∧ t.1 51 = ((W + 1 + L : Nat) : Int) ∧ (∀ k, k ≠ 44 → t.2 k = s.2 k) ∧ t.2 44 W = (L : Int) - 1 ∧ (∀ x, x < L → t.2 44 (W + 1 + x) = s.2 48 (st + x)) ∧ (∀ p, (p < W ∨ W + 1 + L ≤ p) → t.2 44 p = s.2 44 p) := by
    intro k
    induction k with
    | zero =>
      intro fu x u e1 e2 u1 u51 u2 uh ud uo
      obtain ⟨g, rfl⟩ : ∃ g, fu = g + 1 := ⟨fu - 1, by omega⟩
      have : x = L := by omega
      subst this
      refine ⟨u, ?_, u1, u51, u2, uh, ud, uo⟩
      show flushLiteral_l33b _ _ (flushLiteral_l33 _ _ g) _ _ = _
      unfold flushLiteral_l33b
      rw [if_neg (by omega)]
    | succ k ih =>
      intro fu x u e1 e2 u1 u51 u2 uh ud uo
      obtain ⟨g, rfl⟩ : ∃ g, fu = g + 1 := ⟨fu - 1, by omega⟩
      have eb := by_st (raw (st + x) (by omega))
      show ∃ t, flushLiteral_l33b _ _ (flushLiteral_l33 _ _ g) _ _ = _ ∧ _
      unfold flushLiteral_l33b flushLiteral_j72
      rw [if_pos (by omega), if_pos (by omega), aAdd_id (by omega) (by omega), lB_eq, if_neg (by omega), if_pos (by omega), show (st : Int) + (x : Int) = ((st + x : Nat) : Int) by omega, rB_nat (by omega), u51, put8_eq (by omega), cB_some, lB_eq, u2 48 (by decide), eb]
      have f51 : (setA u 44 (W + 1 + x) (s.2 48 (st + x))).1 51 = ((W + 1 + x : Nat) : Int) := u51
      rw [f51, aInc (W + 1 + x) (by omega), aInc x (by omega)]
      refine ih g (x + 1) _ (by omega) (by omega) (fun k hk => by rw [setF_get, if_neg hk]; exact u1 k hk) rfl (fun k hk => by rw [setF_2, setA_ne _ _ _ hk]; exact u2 k hk) ?_ (fun y hy => ?_) (fun p hp => ?_)
      · rw [setF_2, setA_at, if_neg (by omega)]; exact uh
      · rw [setF_2, setA_at]
        by_cases z : y = x
        · rw [if_pos (by omega), z]
        · rw [if_neg (by omega)]; exact ud y (by omega)
      · rw [setF_2, setA_at, if_neg (by omega)]; exact uo p (by omega)
  unfold flushLiteral_M
  rw [if_pos (by omega), hW, (lm63 L hL).1, put8_eq (by omega), cB_some, lB_eq]
  have f51 : (setA s 44 W (i2b (i2b ((L : Int) - 1)))).1 51 = (W : Int) := hW
  rw [f51, aInc W (by omega)]
  have eh : i2b (i2b ((L : Int) - 1)) = (L : Int) - 1 := by_st (by unfold BY; omega)
  refine l L FU 0 _ (by omega) (by unfold FU; omega) (fun k hk => by rw [setF_get, if_neg hk]; rfl) rfl (fun k hk => by rw [setF_2, setA_ne _ _ _ hk]) ?_ (fun y hy => by omega) (fun p hp => ?_)
  · rw [setF_2, setA_at, if_pos rfl, eh]
  · rw [setF_2, setA_at, if_neg (by omega)]
theorem token_eq {s : Obj} {W L : Nat} {z : Int} (hW : s.1 51 = (W : Int)) (hL : 1 ≤ L ∧ L ≤ 32) (hb : W + 2 ≤ 1024) (hz : BY z) : ∃ t, emitToken_M 1 (L : Int) (aAnd z 255) s = some (0, t) ∧ (∀ k, k ≠ 51 → t.1 k = s.1 k) ∧ t.1 51 = ((W + 2 : Nat) : Int) ∧ (∀ k, k ≠ 44 → t.2 k = s.2 k) ∧ t.2 44 W = 64 + ((L : Int) - 1) ∧ t.2 44 (W + 1) = z ∧ (∀ p, (p < W ∨ W + 2 ≤ p) → t.2 44 p = s.2 44 p) := by
  have eh : i2b (i2b (64 + ((L : Int) - 1))) = 64 + ((L : Int) - 1) := by_st (by unfold BY; omega)
  unfold emitToken_M
  rw [hW, (lm63 L hL).2, put8_eq (by omega), cB_some, eh]
  have f51 : (setA s 44 W (64 + ((L : Int) - 1))).1 51 = (W : Int) := hW
  rw [f51, aInc W (by omega), put8_eq (by omega), cB_some, by_u8 hz, lB_eq]
  have g51 : (setA (setA s 44 W (64 + ((L : Int) - 1))) 44 (W + 1) z).1 51 = (W : Int) := hW
  rw [g51, aAdd_id (by omega) (by omega), show (W : Int) + 2 = ((W + 2 : Nat) : Int) by omega]
  refine ⟨_, rfl, fun k hk => by rw [setF_get, if_neg hk]; rfl, rfl, fun k hk => by rw [setF_2, setA_ne _ _ _ hk, setA_ne _ _ _ hk], ?_, ?_, fun p hp => ?_⟩
  · rw [setF_2, setA_at, if_neg (by omega), setA_at, if_pos rfl]
  · rw [setF_2, setA_at, if_pos rfl]
  · rw [setF_2, setA_at, if_neg (by omega), setA_at, if_neg (by omega)]
/-- no earlier match beats the run -/
def HR (raw : Nat → Int) (n : Nat) : Prop := ∀ i d m r, i < n → 1 ≤ d → d ≤ i → ml raw i d n m → rl raw i n r → m < 3 ∨ m ≤ r
theorem comp_eq {s : Obj} {W n : Nat} (hW : s.1 51 = (W : Int)) (hn : 1 ≤ n ∧ n ≤ 32) (hb : W + 2 * n ≤ 1024) (raw : ∀ x, x < 32 → BY (s.2 48 x)) (hr : HR (s.2 48) n) : ∃ (t : Obj) (W' k : Nat), compressBlock_M (n : Int) s = some (((W' - W : Nat) : Int), t) ∧ t.1 51 = (W' : Int) ∧ (W < W' ∧ W' ≤ W + 2 * n) ∧ EN (t.2 44) (s.2 48) W' n k W 0 ∧ (∀ k, k ≠ 51 → k ≠ 54 → t.1 k = s.1 k) ∧ (∀ k, k ≠ 44 → t.2 k = s.2 k) ∧ (∀ p, (p < W ∨ W' ≤ p) → t.2 44 p = s.2 44 p) := by
  have l : ∀ (f fu i ls ll st V k : Nat) (u : Obj), i + f = n → f < fu → ll ≤ i → (1 ≤ ll → ls + ll = i) → st ≤ i → u.1 51 = (V : Int) → (W ≤ V ∧ V + 2 * ll ≤ W + 2 * i) → EN (u.2 44) (s.2 48) V (i - ll) k W 0 → (∀ k, k ≠ 51 → k ≠ 54 → u.1 k = s.1 k) → (∀ k, k ≠ 44 → u.2 k = s.2 k) → (∀ p, (p < W ∨ V ≤ p) → u.2 44 p = s.2 44 p) →
      ∃ (t : Obj) (W' k : Nat), compressBlock_l16 (fun x4_164 x5_164 s164 => compressBlock_j164 (W : Int) x4_164 x5_164 s164) (n : Int) fu (i : Int) (ls : Int) (ll : Int) (st : Int) u = some (((W' - W : Nat) : Int), t) ∧ t.1 51 = (W' : Int) ∧ (W ≤ W' ∧ W' ≤ W + 2 * n) ∧ EN (t.2 44) (s.2 48) W' n k W 0 ∧ (∀ k, k ≠ 51 → k ≠ 54 → t.1 k = s.1 k) ∧ (∀ k, k ≠ 44 → t.2 k = s.2 k) ∧ (∀ p, (p < W ∨ W' ≤ p) → t.2 44 p = s.2 44 p) := by
    intro f
    induction f using Nat.strongRecOn with
    | ind f ih =>
      intro fu i ls ll st V k u e1 e2 h1 h2 h3 u51 hV en u1 u2 uo
      obtain ⟨g, rfl⟩ : ∃ g, fu = g + 1 := ⟨fu - 1, by omega⟩
      have uraw : ∀ x, x < 32 → BY (u.2 48 x) := fun x hx => by rw [u2 48 (by decide)]; exact raw x hx
      show ∃ (t : Obj) (W' k : Nat), compressBlock_l16b _ _ (compressBlock_l16 _ _ g) _ _ _ _ _ = _ ∧ _
      unfold compressBlock_l16b
      rw [if_neg (by omega)]
      by_cases hi : i < n
      · obtain ⟨r, er, hrl⟩ := run_eq (s := u) hi hn.2
        obtain ⟨v, d, mm, ev, v2, v1, vm, hd⟩ := best_eq (s := u) hi hn.2
        rw [if_pos (by omega), if_pos (by omega), er, cB_some, ev, cB_some, lB_eq, vm]
        rw [u2 48 (by decide)] at hrl hd
        have v51 : v.1 51 = (V : Int) := by rw [v1 51 (by decide)]; exact u51
        have vb1 : ∀ k, k ≠ 51 → k ≠ 54 → v.1 k = s.1 k := fun k a b => by rw [v1 k b]; exact u1 k a b
        have j102 : ∃ (t : Obj) (W' k : Nat), compressBlock_j102 (fun x4_164 x5_164 s164 => compressBlock_j164 (W : Int) x4_164 x5_164 s164) (compressBlock_l16 (fun x4_164 x5_164 s164 => compressBlock_j164 (W : Int) x4_164 x5_164 s164) (n : Int) g) (n : Int) (i : Int) (ls : Int) (ll : Int) (st : Int) (r : Int) v = some (((W' - W : Nat) : Int), t) ∧ t.1 51 = (W' : Int) ∧ (W ≤ W' ∧ W' ≤ W + 2 * n) ∧ EN (t.2 44) (s.2 48) W' n k W 0 ∧ (∀ k, k ≠ 51 → k ≠ 54 → t.1 k = s.1 k) ∧ (∀ k, k ≠ 44 → t.2 k = s.2 k) ∧ (∀ p, (p < W ∨ W' ≤ p) → t.2 44 p = s.2 44 p) := by
          unfold compressBlock_j102 compressBlock_j152 compressBlock_j158
          obtain ⟨r1, r2, r3, r4⟩ := hrl
          by_cases q : (r : Int) < 3
          · rw [if_pos q, aInc st (by omega), aInc i (by omega), aInc ll (by omega)]
            by_cases z : (ll : Int) = 0
            · rw [if_pos z]
              exact ih (n - (i + 1)) (by omega) g (i + 1) i (ll + 1) (st + 1) V k v (by omega) (by omega) (by omega) (fun _ => by omega) (by omega) v51 (by omega) (by rw [v2, show i + 1 - (ll + 1) = i - ll by omega]; exact en) vb1 (by rw [v2]; exact u2) (by rw [v2]; exact uo)
            · rw [if_neg z]
              exact ih (n - (i + 1)) (by omega) g (i + 1) ls (ll + 1) (st + 1) V k v (by omega) (by omega) (by omega) (fun _ => by have := h2 (by omega); omega) (by omega) v51 (by omega) (by rw [v2, show i + 1 - (ll + 1) = i - ll by omega]; exact en) vb1 (by rw [v2]; exact u2) (by rw [v2]; exact uo)
          · rw [if_neg q]
            -- flush, then the run
            have fl : ∃ (a : Obj) (V' k' : Nat), flushLiteral_M (ls : Int) (ll : Int) v = some (0, a) ∧ a.1 51 = (V' : Int) ∧ (W ≤ V' ∧ V' ≤ W + 2 * i) ∧ EN (a.2 44) (s.2 48) V' i k' W 0 ∧ (∀ k, k ≠ 51 → k ≠ 54 → a.1 k = s.1 k) ∧ (∀ k, k ≠ 44 → a.2 k = s.2 k) ∧ (∀ p, (p < W ∨ V' ≤ p) → a.2 44 p = s.2 44 p) := by
              by_cases z : ll = 0
              · refine ⟨v, V, k, ?_, v51, by omega, ?_, vb1, by rw [v2]; exact u2, by rw [v2]; exact uo⟩
                · unfold flushLiteral_M; rw [if_neg (by omega)]
                · rw [v2]; rw [z, Nat.sub_zero] at en; exact en
              · have hls := h2 (by omega)
                obtain ⟨a, ea, a1, a51, a2, ah, ad, ao⟩ := flush_eq (s := v) (st := ls) (L := ll) v51 (by omega) (by omega) (by omega) (by rw [v2]; exact uraw)
                rw [v2] at ad ao
                refine ⟨a, V + 1 + ll, k + 1, ea, a51, by omega, ?_, fun k p q => by rw [a1 k p]; exact vb1 k p q, fun k p => by rw [a2 k p, v2]; exact u2 k p, fun p hp => by rw [ao p (by omega)]; exact uo p (by omega)⟩
                have en' : EN (a.2 44) (s.2 48) V (i - ll) k W 0 := en.congr (fun p p1 p2 => ao p (by omega))
                have := EN.lit (L := ll) (by omega) ah (fun t ht => by rw [ad t ht, u2 48 (by decide), show i - ll + t = ls + t by omega]) en'
                rw [show i - ll + ll = i by omega] at this; exact this
            obtain ⟨a, V', k', ea, a51, hV', ena, a1, a2, ao⟩ := fl
            rw [ea, cB_some, rB_nat (by omega), a2 48 (by decide)]
            obtain ⟨b, eb, b1, b51, b2, bh, bd, bo⟩ := token_eq (s := a) (L := r) (z := s.2 48 i) a51 (by omega) (by omega) (raw i (by omega))
            rw [eb, cB_some, aAdd_id (by omega) (by omega), lB_eq, aInc st (by omega), show (i : Int) + (r : Int) = ((i + r : Nat) : Int) by omega]
            have enb : EN (b.2 44) (s.2 48) V' i k' W 0 := ena.congr (fun p p1 p2 => bo p (by omega))
            have enb := EN.run (L := r) (by omega) bh (fun t ht => by rw [bd, r3 t ht]) enb
            exact ih (n - (i + r)) (by omega) g (i + r) ls 0 (st + 1) (V' + 2) (k' + 1) b (by omega) (by omega) (by omega) (fun w => by omega) (by omega) b51 (by omega) (by rw [Nat.sub_zero]; exact enb) (fun k p q => by rw [b1 k p]; exact a1 k p q) (fun k p => by rw [b2 k p]; exact a2 k p) (fun p hp => by rw [bo p (by omega)]; exact ao p (by omega))
        by_cases d0 : (0 : Int) < (d : Int)
        · rw [if_pos d0]
          by_cases m3 : (mm : Int) < 3
          · rw [if_pos m3]; exact j102
          · rw [if_neg m3]
            have hd' := hd (by omega)
            have := hr i d mm r hi (by omega) hd'.1 hd'.2 hrl
            rw [if_neg (by omega)]; exact j102
        · rw [if_neg d0]; exact j102
      · rw [if_neg (by omega)]
        have hin : i = n := by omega
        show ∃ (t : Obj) (W' k : Nat), compressBlock_j164 (W : Int) (ls : Int) (ll : Int) u = _ ∧ _
        unfold compressBlock_j164
        by_cases z : ll = 0
        · have ef : flushLiteral_M (ls : Int) (ll : Int) u = some (0, u) := by unfold flushLiteral_M; rw [if_neg (by omega)]
          rw [ef, cB_some, u51, aSub_id (by omega) (by omega), show (V : Int) - (W : Int) = ((V - W : Nat) : Int) by omega]
          rw [z, Nat.sub_zero, hin] at en
          exact ⟨u, V, k, rfl, u51, by omega, en, u1, u2, uo⟩
        · have hls := h2 (by omega)
          obtain ⟨a, ea, a1, a51, a2, ah, ad, ao⟩ := flush_eq (s := u) (st := ls) (L := ll) u51 (by omega) (by omega) (by omega) uraw
          rw [ea, cB_some, a51, aSub_id (by omega) (by omega), show ((V + 1 + ll : Nat) : Int) - (W : Int) = ((V + 1 + ll - W : Nat) : Int) by omega]
          have en' : EN (a.2 44) (s.2 48) V (i - ll) k W 0 := en.congr (fun p p1 p2 => ao p (by omega))
          have enl := EN.lit (L := ll) (by omega) ah (fun t ht => by rw [ad t ht, u2 48 (by decide), show i - ll + t = ls + t by omega]) en'
          rw [show i - ll + ll = n by omega] at enl
          exact ⟨a, V + 1 + ll, k + 1, rfl, a51, by omega, enl, fun k p q => by rw [a1 k p]; exact u1 k p q, fun k p => by rw [a2 k p]; exact u2 k p, fun p hp => by rw [ao p (by omega)]; exact uo p (by omega)⟩
  unfold compressBlock_M
  rw [hW, lB_eq]
  obtain ⟨t, W', k, e, a1, a2, a3, a4⟩ := l n FU 0 0 0 0 W 0 s (by omega) (by unfold FU; omega) (by omega) (fun w => by omega) (by omega) hW (by omega) ⟨rfl, rfl⟩ (fun _ _ _ => rfl) (fun _ _ => rfl) (fun _ _ => rfl)
  refine ⟨t, W', k, e, a1, ⟨?_, a2.2⟩, a3, a4⟩
  have := a3.le
  by_cases z : W' = W
  · subst z
    cases k with
    | zero => obtain ⟨_, w⟩ := a3; omega
    | succ k =>
      rcases a3 with ⟨L, _, _, _, w⟩ | ⟨L, _, _, _, w⟩
      · have := w.le; omega
      · have := w.le; omega
  · omega
/-! decoding; the block table -/
theorem hd_lit (L : Nat) (hL : 1 ≤ L ∧ L ≤ 32) : aAnd ((L : Int) - 1) 255 = (L : Int) - 1 ∧ aUshr ((L : Int) - 1) 6 = 0 ∧ aAdd (aAnd ((L : Int) - 1) 63) 1 = (L : Int) := by
  have : ∀ k : Fin 32, aAnd (((k.val + 1 : Nat) : Int) - 1) 255 = ((k.val + 1 : Nat) : Int) - 1 ∧ aUshr (((k.val + 1 : Nat) : Int) - 1) 6 = 0 ∧ aAdd (aAnd (((k.val + 1 : Nat) : Int) - 1) 63) 1 = ((k.val + 1 : Nat) : Int) := by decide +kernel
  have := this ⟨L - 1, by omega⟩
  rw [show L - 1 + 1 = L by omega] at this
  exact this
theorem hd_run (L : Nat) (hL : 1 ≤ L ∧ L ≤ 32) : aAnd (64 + ((L : Int) - 1)) 255 = 64 + ((L : Int) - 1) ∧ aUshr (64 + ((L : Int) - 1)) 6 = 1 ∧ aAdd (aAnd (64 + ((L : Int) - 1)) 63) 1 = (L : Int) := by
  have : ∀ k : Fin 32, aAnd (64 + (((k.val + 1 : Nat) : Int) - 1)) 255 = 64 + (((k.val + 1 : Nat) : Int) - 1) ∧ aUshr (64 + (((k.val + 1 : Nat) : Int) - 1)) 6 = 1 ∧ aAdd (aAnd (64 + (((k.val + 1 : Nat) : Int) - 1)) 63) 1 = ((k.val + 1 : Nat) : Int) := by decide +kernel
  have := this ⟨L - 1, by omega⟩
  rw [show L - 1 + 1 = L by omega] at this
  exact this
def DX (s t : Obj) : Prop := t.1 = s.1 ∧ ∀ k, k ≠ 49 → t.2 k = s.2 k
theorem lit_eq {s : Obj} {a L i n : Nat} {raw : Nat → Int} (hL : 1 ≤ L ∧ L ≤ 32) (hi : i + L ≤ n) (hn : n ≤ 32) (ha : a + L ≤ 1024) (hb : ∀ x, x < n → BY (raw x)) (hg : ∀ t, t < L → s.2 44 (a + t) = raw (i + t)) (h0 : ∀ x, x < i → s.2 49 x = raw x) : ∃ t, copyLiteral_M (a : Int) (i : Int) (L : Int) (n : Int) s = some (((i + L : Nat) : Int), t) ∧ DX s t ∧ ∀ x, x < i + L → t.2 49 x = raw x := by
  have l : ∀ (k fu x : Nat) (u : Obj), x + k = L → k < fu → DX s u → (∀ y, y < i + x → u.2 49 y = raw y) → ∃ t, copyLiteral_l6 (a : Int) (L : Int) (n : Int) fu ((i + x : Nat) : Int) (x : Int) u = some (((i + L : Nat) : Int), t) ∧ DX s t ∧ ∀ x, x < i + L → t.2 49 x = raw x := by
    intro k
    induction k with
    | zero =>
      intro fu x u e1 e2 dx h
      obtain ⟨g, rfl⟩ : ∃ g, fu = g + 1 := ⟨fu - 1, by omega⟩
      have : x = L := by omega
      subst this
      refine ⟨u, ?_, dx, h⟩
      show copyLiteral_l6b _ _ _ (copyLiteral_l6 _ _ _ g) _ _ _ = _
      unfold copyLiteral_l6b
      rw [if_neg (by omega)]
    | succ k ih =>
      intro fu x u e1 e2 dx h
      obtain ⟨g, rfl⟩ : ∃ g, fu = g + 1 := ⟨fu - 1, by omega⟩
      show ∃ t, copyLiteral_l6b _ _ _ (copyLiteral_l6 _ _ _ g) _ _ _ = _ ∧ _
      unfold copyLiteral_l6b
      rw [if_pos (by omega), if_pos (by omega), if_neg (by omega), if_pos (by omega), if_pos (by omega), aAdd_id (by omega) (by omega), show (a : Int) + (x : Int) = ((a + x : Nat) : Int) by omega, u8_eq (by omega), cB_some, dx.2 44 (by decide), hg x (by omega), by_u8 (hb (i + x) (by omega)), wB_nat (by omega), aInc (i + x) (by omega), aInc x (by omega), show i + x + 1 = i + (x + 1) by omega]
      refine ih g (x + 1) _ (by omega) (by omega) ⟨by rw [setA_1]; exact dx.1, fun k hk => by rw [setA_ne _ _ _ hk]; exact dx.2 k hk⟩ (fun y hy => ?_)
      rw [setA_at]
      by_cases z : y = i + x
      · rw [if_pos z, z]
      · rw [if_neg z]; exact h y (by omega)
  unfold copyLiteral_M
  exact l L FU 0 s (by omega) (by unfold FU; omega) ⟨rfl, fun _ _ => rfl⟩ h0
theorem fill_eq {s : Obj} {L i n : Nat} {raw : Nat → Int} {z : Int} (hL : 1 ≤ L ∧ L ≤ 32) (hi : i + L ≤ n) (hn : n ≤ 32) (hz : BY z) (hg : ∀ t, t < L → raw (i + t) = z) (h0 : ∀ x, x < i → s.2 49 x = raw x) : ∃ t, fillRun_M (aAnd z 255) (i : Int) (L : Int) (n : Int) s = some (((i + L : Nat) : Int), t) ∧ DX s t ∧ ∀ x, x < i + L → t.2 49 x = raw x := by
  have l : ∀ (k fu x : Nat) (u : Obj), x + k = L → k < fu → DX s u → (∀ y, y < i + x → u.2 49 y = raw y) → ∃ t, fillRun_l6 (aAnd z 255) (L : Int) (n : Int) fu ((i + x : Nat) : Int) (x : Int) u = some (((i + L : Nat) : Int), t) ∧ DX s t ∧ ∀ x, x < i + L → t.2 49 x = raw x := by
    intro k
    induction k with
    | zero =>
      intro fu x u e1 e2 dx h
      obtain ⟨g, rfl⟩ : ∃ g, fu = g + 1 := ⟨fu - 1, by omega⟩
      have : x = L := by omega
      subst this
      refine ⟨u, ?_, dx, h⟩
      show fillRun_l6b _ _ _ (fillRun_l6 _ _ _ g) _ _ _ = _
      unfold fillRun_l6b
      rw [if_neg (by omega)]
    | succ k ih =>
      intro fu x u e1 e2 dx h
      obtain ⟨g, rfl⟩ : ∃ g, fu = g + 1 := ⟨fu - 1, by omega⟩
      show ∃ t, fillRun_l6b _ _ _ (fillRun_l6 _ _ _ g) _ _ _ = _ ∧ _
      unfold fillRun_l6b
      rw [if_pos (by omega), if_pos (by omega), if_neg (by omega), if_pos (by omega), if_pos (by omega), by_u8 hz, wB_nat (by omega), aInc (i + x) (by omega), aInc x (by omega), show i + x + 1 = i + (x + 1) by omega]
      refine ih g (x + 1) _ (by omega) (by omega) ⟨by rw [setA_1]; exact dx.1, fun k hk => by rw [setA_ne _ _ _ hk]; exact dx.2 k hk⟩ (fun y hy => ?_)
      rw [setA_at]
      by_cases w : y = i + x
      · rw [if_pos w, w, hg x (by omega)]
      · rw [if_neg w]; exact h y (by omega)
  unfold fillRun_M
  exact l L FU 0 s (by omega) (by unfold FU; omega) ⟨rfl, fun _ _ => rfl⟩ h0
theorem dec_l {raw : Nat → Int} {b n : Nat} (hn : n ≤ 32) (hb : b ≤ 1024) (hy : ∀ x, x < n → BY (raw x)) : ∀ (k fu a i st : Nat) (s : Obj), k < fu → st + k ≤ 63 → EN (s.2 44) raw b n k a i → (∀ x, x < i → s.2 49 x = raw x) → ∃ t, decodeBlock_l28 (n : Int) (b : Int) fu (a : Int) (i : Int) (st : Int) s = some ((n : Int), t) ∧ DX s t ∧ ∀ x, x < n → t.2 49 x = raw x := by
  intro k
  induction k with
  | zero =>
    intro fu a i st s e2 hs en h
    obtain ⟨g, rfl⟩ : ∃ g, fu = g + 1 := ⟨fu - 1, by omega⟩
    obtain ⟨rfl, rfl⟩ := en
    refine ⟨s, ?_, ⟨rfl, fun _ _ => rfl⟩, h⟩
    show decodeBlock_l28b _ _ (decodeBlock_l28 _ _ g) _ _ _ _ = _
    unfold decodeBlock_l28b
    rw [if_pos (by omega), if_neg (by omega)]
  | succ k ih =>
    intro fu a i st s e2 hs en h
    obtain ⟨g, rfl⟩ : ∃ g, fu = g + 1 := ⟨fu - 1, by omega⟩
    show ∃ t, decodeBlock_l28b _ _ (decodeBlock_l28 _ _ g) _ _ _ _ = _ ∧ _
    unfold decodeBlock_l28b decodeBlock_j164
    rcases en with ⟨L, hL, g0, gd, en⟩ | ⟨L, hL, g0, gd, en⟩
    · have le := en.le
      obtain ⟨q1, q2, q3⟩ := hd_lit L hL
      obtain ⟨u, eu, du, hu⟩ := lit_eq (s := s) (a := a + 1) (i := i) hL (by omega) hn (by omega) hy gd h
      rw [if_pos (by omega), if_pos (by omega), if_pos (by omega), u8_eq (by omega), cB_some, g0, q1, q2, q3, lB_eq, lB_eq, if_pos rfl, aInc a (by omega), eu, cB_some, aAdd_id (by omega) (by omega), show ((a + 1 : Nat) : Int) + (L : Int) = ((a + 1 + L : Nat) : Int) by omega, lB_eq, aInc st (by omega)]
      obtain ⟨t, et, dt, ht⟩ := ih g (a + 1 + L) (i + L) (st + 1) u (by omega) (by omega) (by rw [du.2 44 (by decide)]; exact en) hu
      exact ⟨t, et, ⟨by rw [dt.1, du.1], fun k hk => by rw [dt.2 k hk, du.2 k hk]⟩, ht⟩
    · have le := en.le
      obtain ⟨q1, q2, q3⟩ := hd_run L hL
      have hz : BY (s.2 44 (a + 1)) := by rw [← gd 0 (by omega)]; exact hy (i + 0) (by omega)
      obtain ⟨u, eu, du, hu⟩ := fill_eq (s := s) (i := i) hL (by omega) hn hz gd h
      rw [if_pos (by omega), if_pos (by omega), if_pos (by omega), u8_eq (by omega), cB_some, g0, q1, q2, q3, lB_eq, lB_eq, if_neg (by decide), if_pos rfl, aInc a (by omega), u8_eq (by omega), cB_some, eu, cB_some, aInc (a + 1) (by omega), aInc st (by omega)]
      obtain ⟨t, et, dt, ht⟩ := ih g (a + 2) (i + L) (st + 1) u (by omega) (by omega) (by rw [du.2 44 (by decide)]; exact en) hu
      exact ⟨t, et, ⟨by rw [dt.1, du.1], fun k hk => by rw [dt.2 k hk, du.2 k hk]⟩, ht⟩
theorem dec_eq {s : Obj} {raw : Nat → Int} {a cl n k : Nat} (hn : n ≤ 32) (hb : a + cl ≤ 1024) (hy : ∀ x, x < n → BY (raw x)) (en : EN (s.2 44) raw (a + cl) n k a 0) : ∃ t, decodeBlock_M (a : Int) (cl : Int) (n : Int) s = some ((n : Int), t) ∧ DX s t ∧ ∀ x, x < n → t.2 49 x = raw x := by
  unfold decodeBlock_M decodeBlock_j12
  have := en.le
  rw [if_neg (by omega), aAdd_id (by omega) (by omega), lB_eq, show (a : Int) + (cl : Int) = ((a + cl : Nat) : Int) by omega]
  exact dec_l hn hb hy k FU a 0 0 s (by unfold FU; omega) (by omega) en (fun x hx => by omega)
/-- an entry of the block table -/
def BT (g : Nat → Int) (T b D W : Nat) (raw : Nat → Int) (n : Nat) : Prop := ∃ off cl k : Nat, (D ≤ off ∧ off + cl ≤ W ∧ W ≤ 1024) ∧ cl < 256 ∧ n ≤ 32 ∧ aAnd (g (T + 4 * b)) 255 = ((off / 256 : Nat) : Int) ∧ aAnd (g (T + 4 * b + 1)) 255 = ((off % 256 : Nat) : Int) ∧ aAnd (g (T + 4 * b + 2)) 255 = (cl : Int) ∧ aAnd (g (T + 4 * b + 3)) 255 = (n : Int) ∧ EN g raw (off + cl) n k off 0
theorem load_eq {s : Obj} {T NB b n D W : Nat} {raw : Nat → Int} (hT : T + 4 * b + 4 ≤ 1024 ∧ T < 65536) (h11 : aAnd (s.2 44 11) 255 = (NB : Int)) (hb : b < NB) (t0 : aAnd (s.2 44 2) 255 = ((T / 256 : Nat) : Int)) (t1 : aAnd (s.2 44 3) 255 = ((T % 256 : Nat) : Int)) (hy : ∀ x, x < n → BY (raw x)) (bt : BT (s.2 44) T b D W raw n) (hc : s.1 55 = (b : Int) → s.1 56 = (n : Int) ∧ ∀ x, x < n → s.2 49 x = raw x) :
    ∃ t, loadBlock_M (b : Int) s = some ((n : Int), t) ∧ (∀ k, k ≠ 55 → k ≠ 56 → t.1 k = s.1 k) ∧ (∀ k, k ≠ 49 → t.2 k = s.2 k) ∧ t.1 55 = (b : Int) ∧ t.1 56 = (n : Int) ∧ ∀ x, x < n → t.2 49 x = raw x := by
  unfold loadBlock_M
  by_cases q : (b : Int) = s.1 55
  · obtain ⟨c1, c2⟩ := hc q.symm
    rw [if_pos q, c1]
    exact ⟨s, rfl, fun _ _ _ => rfl, fun _ _ => rfl, q.symm, c1, c2⟩
  · obtain ⟨off, cl, k, h1, h2, h3, e0, e1, e2, e3, en⟩ := bt
    have u2 : u16_M ((2 : Nat) : Int) s = some (((T / 256 * 256 + T % 256 : Nat) : Int), s) := u16_eq (p := 2) (by omega) s (by omega) (by omega) t0 t1
    rw [show T / 256 * 256 + T % 256 = T by omega] at u2
    have u2 : u16_M 2 s = some ((T : Int), s) := u2
    have ue := u16_eq (p := T + 4 * b) (by omega) s (by omega) (by omega) e0 e1
    rw [show off / 256 * 256 + off % 256 = off by omega] at ue
    obtain ⟨t, et, dt, ht⟩ := dec_eq h3 (by omega) hy en
    rw [if_neg q, show u8_M 11 s = _ from u8_eq (p := 11) (by omega) s, cB_some, h11, if_neg (by omega), if_pos (by omega), u2, cB_some, aMul_id (by omega) (by omega), aAdd_id (x := (T : Int)) (by omega) (by omega), show (T : Int) + 4 * (b : Int) = ((T + 4 * b : Nat) : Int) by omega, lB_eq, ue, cB_some, aAdd_id (x := ((T + 4 * b : Nat) : Int)) (y := 2) (by omega) (by omega), show ((T + 4 * b : Nat) : Int) + 2 = ((T + 4 * b + 2 : Nat) : Int) by omega, u8_eq (by omega), cB_some, e2, aAdd_id (x := ((T + 4 * b : Nat) : Int)) (y := 3) (by omega) (by omega), show ((T + 4 * b : Nat) : Int) + 3 = ((T + 4 * b + 3 : Nat) : Int) by omega, u8_eq (by omega), cB_some, e3, et, cB_some, lB_eq, lB_eq]
    refine ⟨_, rfl, fun k a c => ?_, fun k hk => ?_, rfl, rfl, fun x hx => ht x hx⟩
    · rw [setF_get, if_neg c, setF_get, if_neg a, dt.1]
    · rw [setF_2, setF_2]; exact dt.2 k hk
theorem emit_eq {s : Obj} {W nb T n D : Nat} (hD : D ≤ W) (hW : s.1 51 = (W : Int)) (hnb : s.1 52 = (nb : Int)) (hn : 1 ≤ n ∧ n ≤ 32) (hT : 4 ≤ T ∧ T + 4 * nb + 4 ≤ W) (hb : W + 2 * n ≤ 1024) (raw : ∀ x, x < 32 → BY (s.2 48 x)) (hr : HR (s.2 48) n) (t0 : aAnd (s.2 44 2) 255 = ((T / 256 : Nat) : Int)) (t1 : aAnd (s.2 44 3) 255 = ((T % 256 : Nat) : Int)) :
    ∃ (t : Obj) (W' : Nat), emitBlock_M (n : Int) s = some (0, t) ∧ t.1 51 = (W' : Int) ∧ (W < W' ∧ W' ≤ W + 2 * n) ∧ t.1 52 = ((nb + 1 : Nat) : Int) ∧ (∀ k, k ≠ 51 → k ≠ 52 → k ≠ 54 → t.1 k = s.1 k) ∧ (∀ k, k ≠ 44 → t.2 k = s.2 k) ∧ (∀ p, (p < W ∨ W' ≤ p) → (p < T + 4 * nb ∨ T + 4 * nb + 4 ≤ p) → t.2 44 p = s.2 44 p) ∧ BT (t.2 44) T nb D W' (s.2 48) n := by
  obtain ⟨u, W', k, eu, u51, hW', en, u1, u2, uo⟩ := comp_eq hW hn hb raw hr
  have c2 : u16_M ((2 : Nat) : Int) u = some (((T / 256 * 256 + T % 256 : Nat) : Int), u) := u16_eq (p := 2) (by omega) u (by omega) (by omega) (by rw [uo 2 (by omega)]; exact t0) (by rw [uo 3 (by omega)]; exact t1)
  rw [show T / 256 * 256 + T % 256 = T by omega] at c2
  have c2 : u16_M 2 u = some ((T : Int), u) := c2
  have u52 : u.1 52 = (nb : Int) := by rw [u1 52 (by decide) (by decide)]; exact hnb
  unfold emitBlock_M
  rw [hW, lB_eq, eu, cB_some, c2, cB_some, u52, aMul_id (by omega) (by omega), aAdd_id (x := (T : Int)) (by omega) (by omega), show (T : Int) + 4 * (nb : Int) = ((T + 4 * nb : Nat) : Int) by omega, lB_eq, put16_eq (by omega) (by omega), cB_some, aAdd_id (x := ((T + 4 * nb : Nat) : Int)) (y := 2) (by omega) (by omega), show ((T + 4 * nb : Nat) : Int) + 2 = ((T + 4 * nb + 2 : Nat) : Int) by omega, put8_eq (by omega), cB_some, aAdd_id (x := ((T + 4 * nb : Nat) : Int)) (y := 3) (by omega) (by omega), show ((T + 4 * nb : Nat) : Int) + 3 = ((T + 4 * nb + 3 : Nat) : Int) by omega, put8_eq (by omega), cB_some, lB_eq]
  generalize hE : T + 4 * nb = E at *
  generalize hv : setA (setA (setA (setA u 44 E (i2b (i2b ((W / 256 : Nat) : Int)))) 44 (E + 1) (i2b (i2b ((W % 256 : Nat) : Int)))) 44 (E + 2) (i2b (i2b ((W' - W : Nat) : Int)))) 44 (E + 3) (i2b (i2b (n : Int))) = v
  have v1 : v.1 = u.1 := by rw [← hv]; rfl
  have v2 : ∀ k, k ≠ 44 → v.2 k = u.2 k := fun k hk => by rw [← hv, setA_ne _ _ _ hk, setA_ne _ _ _ hk, setA_ne _ _ _ hk, setA_ne _ _ _ hk]
  have vg : ∀ p, v.2 44 p = if p = E + 3 then i2b (i2b (n : Int)) else if p = E + 2 then i2b (i2b ((W' - W : Nat) : Int)) else if p = E + 1 then i2b (i2b ((W % 256 : Nat) : Int)) else if p = E then i2b (i2b ((W / 256 : Nat) : Int)) else u.2 44 p := fun p => by
    rw [← hv, setA_at, setA_at, setA_at, setA_at]
  have v52 : v.1 52 = (nb : Int) := by rw [v1]; exact u52
  rw [v52, aInc nb (by omega)]
  refine ⟨_, W', rfl, by rw [setF_get, if_neg (by decide), v1]; exact u51, hW', rfl, fun k a b c => by rw [setF_get, if_neg b, v1]; exact u1 k a c, fun k hk => by rw [setF_2, v2 k hk]; exact u2 k hk, fun p h1 h2 => ?_, ?_⟩
  · rw [setF_2, vg, if_neg (by omega), if_neg (by omega), if_neg (by omega), if_neg (by omega)]; exact uo p h1
  · refine ⟨W, W' - W, k, by omega, by omega, hn.2, ?_, ?_, ?_, ?_, ?_⟩
    · rw [hE, setF_2, vg, if_neg (by omega), if_neg (by omega), if_neg (by omega), if_pos rfl, u8_v (by omega)]
    · rw [hE, setF_2, vg, if_neg (by omega), if_neg (by omega), if_pos rfl, u8_v (by omega)]
    · rw [hE, setF_2, vg, if_neg (by omega), if_pos rfl, u8_v (by omega)]
    · rw [hE, setF_2, vg, if_pos rfl, u8_v (by omega)]
    · rw [show W + (W' - W) = W' by omega, setF_2]
      refine en.congr (fun p h1 h2 => ?_)
      rw [vg, if_neg (by omega), if_neg (by omega), if_neg (by omega), if_neg (by omega)]
theorem EN.raw {g raw raw' : Nat → Int} {b j : Nat} : ∀ {k a i : Nat}, EN g raw b j k a i → (∀ x, i ≤ x → x < j → raw' x = raw x) → EN g raw' b j k a i := by
  intro k
  induction k with
  | zero => intro a i h _; exact h
  | succ k ih =>
    intro a i h e
    rcases h with ⟨L, h1, h2, h3, h4⟩ | ⟨L, h1, h2, h3, h4⟩
    · have le := h4.le
      exact Or.inl ⟨L, h1, h2, fun t ht => by rw [e _ (by omega) (by omega)]; exact h3 t ht, ih h4 (fun x h5 h6 => e x (by omega) h6)⟩
    · have le := h4.le
      exact Or.inr ⟨L, h1, h2, fun t ht => by rw [e _ (by omega) (by omega)]; exact h3 t ht, ih h4 (fun x h5 h6 => e x (by omega) h6)⟩
theorem BT.go {g g' raw raw' : Nat → Int} {T b D W W' n : Nat} (h : BT g T b D W raw n) (hW : W ≤ W' ∧ W' ≤ 1024) (e1 : ∀ p, T + 4 * b ≤ p → p < T + 4 * b + 4 → g' p = g p) (e2 : ∀ p, D ≤ p → p < W → g' p = g p) (er : ∀ x, x < n → raw' x = raw x) : BT g' T b D W' raw' n := by
  obtain ⟨off, cl, k, h1, h2, h3, q0, q1, q2, q3, en⟩ := h
  refine ⟨off, cl, k, by omega, h2, h3, by rw [e1 _ (by omega) (by omega)]; exact q0, by rw [e1 _ (by omega) (by omega)]; exact q1, by rw [e1 _ (by omega) (by omega)]; exact q2, by rw [e1 _ (by omega) (by omega)]; exact q3, (en.congr (fun p p1 p2 => e2 p (by omega) (by omega))).raw (fun x _ hx => er x hx)⟩
theorem HR_run {raw : Nat → Int} {n : Nat} {v : Int} (h : ∀ t, t + 1 < n → raw t = v) : HR raw n := by
  intro i d m r hi d1 d2 ⟨m1, m2⟩ ⟨r1, r2, r3, r4⟩
  by_cases z : i + 1 = n
  · left; omega
  · right
    have hv : raw i = v := h i (by omega)
    by_cases q : m = n - i
    · have e := m2 (n - 1 - i) (by omega)
      rw [show i + (n - 1 - i) = n - 1 by omega, h (n - 1 - d) (by omega)] at e
      by_cases w : i + r < n
      · exfalso
        refine r4 w ?_
        rw [hv]
        by_cases y : i + r + 1 < n
        · exact h _ y
        · rw [show i + r = n - 1 by omega]; exact e
      · omega
    · by_cases w : i + r + 1 < n
      · exact absurd (by rw [h _ w, hv]) (r4 (by omega))
      · omega
/-! one file: before the build -/
def AP (B N : Nat) (D : Nat → Int) (s : Obj) : Prop := s.1 28 = (B : Int) ∧ s.1 30 = 0 ∧ s.1 31 = 2 ∧ s.1 43 = (N : Int) ∧ (s.2 32 0 = 1 ∧ s.2 32 1 = 2) ∧ (s.2 33 0 = 0 ∧ s.2 33 1 = 0) ∧ (s.2 34 0 = 0 ∧ s.2 34 1 = 1) ∧ s.2 36 1 = (N : Int) ∧ (∀ p, p < N → s.2 41 p = D p) ∧ (∀ p, p < N → s.2 42 p = 1) ∧ (∀ x, s.2 48 x = 0)
theorem names_l (K : Obj → Option (Int × Obj)) (L c : Nat) (hc : c < 16) (hL : L ≤ 8) : ∀ (k fu x : Nat) (s : Obj), x + k = 8 → k < fu → ∃ t, addNode_l51 K (L : Int) (c : Int) fu (x : Int) s = K t ∧ t.1 = s.1 ∧ ∀ k, k ≠ 35 → t.2 k = s.2 k := by
  intro k
  induction k with
  | zero =>
    intro fu x s e1 e2
    obtain ⟨g, rfl⟩ : ∃ g, fu = g + 1 := ⟨fu - 1, by omega⟩
    refine ⟨s, ?_, rfl, fun _ _ => rfl⟩
    show addNode_l51b _ _ _ (addNode_l51 _ _ _ g) _ _ = _
    unfold addNode_l51b
    rw [if_neg (by omega)]
  | succ k ih =>
    intro fu x s e1 e2
    obtain ⟨g, rfl⟩ : ∃ g, fu = g + 1 := ⟨fu - 1, by omega⟩
    have ei : aAdd (aMul (c : Int) 8) (x : Int) = ((c * 8 + x : Nat) : Int) := by rw [aMul_id (by omega) (by omega), aAdd_id (by omega) (by omega)]; omega
    have go : ∀ v, ∃ t, addNode_j87 K (addNode_l51 K (L : Int) (c : Int) g) (L : Int) (c : Int) (x : Int) v ((c * 8 + x : Nat) : Int) s = K t ∧ t.1 = s.1 ∧ ∀ k, k ≠ 35 → t.2 k = s.2 k := by
      intro v
      unfold addNode_j87
      rw [wB_nat (by omega), aInc x (by omega)]
      obtain ⟨t, e, t1, t2⟩ := ih g (x + 1) (setA s 35 (c * 8 + x) (i2c v)) (by omega) (by omega)
      exact ⟨t, e, t1, fun k hk => by rw [t2 k hk, setA_ne _ _ _ hk]⟩
    show ∃ t, addNode_l51b _ _ _ (addNode_l51 _ _ _ g) _ _ = _ ∧ _
    unfold addNode_l51b
    rw [if_pos (by omega), ei]
    by_cases q : (x : Int) < (L : Int)
    · rw [if_pos q, rB_nat (by omega)]; exact go _
    · rw [if_neg q]; exact go _
theorem ini_eq (x0 x1 : Int) (D : Nat → Int) : ∃ (B : Nat) (s0 s1 s2 : Obj), (4 ≤ B ∧ B ≤ 32) ∧ (B : Int) = clampF x0 4 32 ∧ ctor_M x0 x1 = some (0, s0) ∧ putNameChar_M 102 s0 = some (1, s1) ∧ create_M 0 2 s1 = some (1, s2) ∧ AP B 0 D s2 := by
  have b0 : 4 ≤ clampF x0 4 32 ∧ clampF x0 4 32 ≤ 32 := by unfold clampF; split <;> (try split) <;> omega
  have b1 : 2 ≤ clampF x1 2 16 ∧ clampF x1 2 16 ≤ 16 := by unfold clampF; split <;> (try split) <;> omega
  obtain ⟨B, hB⟩ : ∃ B : Nat, (B : Int) = clampF x0 4 32 := ⟨(clampF x0 4 32).toNat, by omega⟩
  obtain ⟨s0, e0, f⟩ : ∃ s0, ctor_M x0 x1 = some (0, s0) ∧ s0.1 28 = clampF x0 4 32 ∧ s0.1 29 = clampF x1 2 16 ∧ s0.1 30 = 0 ∧ s0.1 31 = 1 ∧ s0.1 38 = 0 ∧ s0.1 43 = 0 ∧ s0.2 32 0 = 1 ∧ s0.2 33 0 = 0 ∧ s0.2 34 0 = 0 ∧ (∀ x, s0.2 48 x = 0) := by
    unfold ctor_M ctor_B
    simp only [clamp_eq, cB_some, lB_eq]
    rw [wB_in (by omega) (by omega), wB_in (by omega) (by omega), wB_in (by omega) (by omega), wB_in (by omega) (by omega)]
    exact ⟨_, rfl, rfl, rfl, rfl, rfl, rfl, rfl, rfl, rfl, rfl, fun _ => rfl⟩
  obtain ⟨f28, f29, f30, f31, f38, f43, f32, f33, f34, f48⟩ := f
  have e1 : putNameChar_M 102 s0 = some (1, setF (setA s0 37 0 (i2c 102)) 38 1) := by
    have en : isNameChar_M 102 s0 = some (1, s0) := by
      unfold isNameChar_M; rw [if_neg (by decide), if_neg (by decide), if_neg (by decide)]
    unfold putNameChar_M
    rw [if_pos f30, en, cB_some, if_neg (by decide), f38, if_pos (by decide), wB_in (by omega) (by omega), lB_eq]
    have : (setA s0 37 ((0 : Int)).toNat (i2c 102)).1 38 = 0 := f38
    rw [this]; rfl
  generalize hs1 : setF (setA s0 37 0 (i2c 102)) 38 1 = s1 at e1
  have g1 : ∀ k, k ≠ 38 → s1.1 k = s0.1 k := fun k hk => by rw [← hs1, setF_get, if_neg hk]; rfl
  have g38 : s1.1 38 = 1 := by rw [← hs1]; rfl
  have g2 : ∀ k, k ≠ 37 → s1.2 k = s0.2 k := fun k hk => by rw [← hs1, setF_2, setA_ne _ _ _ hk]
  generalize hs1' : setF s1 38 0 = u
  have u1 : ∀ k, k ≠ 38 → u.1 k = s0.1 k := fun k hk => by rw [← hs1', setF_get, if_neg hk]; exact g1 k hk
  have u2 : ∀ k, k ≠ 37 → u.2 k = s0.2 k := fun k hk => by rw [← hs1', setF_2]; exact g2 k hk
  have ed : isDir_M 0 u = some (1, u) := by
    unfold isDir_M isValid_M
    rw [if_neg (by decide), u1 31 (by decide), f31, if_pos (by decide), if_pos (by decide), cB_some, if_neg (by decide), rB_in (by omega) (by omega), u2 32 (by decide)]
    have : s0.2 32 ((0 : Int)).toNat = 1 := f32
    rw [this, if_pos rfl]
  have ef : findChildByNameBuf_M 0 1 u = some (-1, u) := by
    unfold findChildByNameBuf_M
    show findChildByNameBuf_l2 0 1 (999999999 + 1) 1 u = _
    show findChildByNameBuf_l2b 0 1 (findChildByNameBuf_l2 0 1 999999999) 1 u = _
    unfold findChildByNameBuf_l2b
    rw [u1 31 (by decide), f31, if_neg (by decide)]
  obtain ⟨t, et, t1, t2⟩ := names_l (fun s94 => wB s94 36 16 1 0 fun s101 => lB (setF s101 31 (aAdd 1 1)) fun s107 => some (1, s107)) 1 1 (by omega) (by omega) 8 FU 0 (setA (setA (setA u 32 1 (i2b (i2b 2))) 33 1 (i2b (i2b 0))) 34 1 (i2b (i2b 1))) (by omega) (by unfold FU; omega)
  have ea : addNode_M 0 2 1 u = some (1, setF (setA t 36 1 0) 31 2) := by
    unfold addNode_M
    rw [u1 31 (by decide), f31, lB_eq, if_neg (by decide), if_pos (by decide), wB_in (by omega) (by omega), wB_in (by omega) (by omega), wB_in (by omega) (by omega)]
    refine Eq.trans et ?_
    show (wB t 36 16 1 0 fun s101 => lB (setF s101 31 (aAdd 1 1)) fun s107 => some (1, s107)) = _
    rw [wB_in (by omega) (by omega), lB_eq]; rfl
  have e2 : create_M 0 2 s1 = some (1, setF (setA t 36 1 0) 31 2) := by
    unfold create_M create_j32
    rw [g1 30 (by decide), if_pos f30, g38, lB_eq, lB_eq, if_neg (by decide), if_pos rfl, hs1', ed, cB_some, if_neg (by decide), if_neg (by decide), ef, cB_some, if_pos (by decide), u1 31 (by decide), u1 29 (by decide), f31, f29, if_pos (by omega), ea, cB_some]
  refine ⟨B, s0, s1, _, by omega, hB, e0, e1, e2, ?_, ?_, rfl, ?_, ⟨?_, ?_⟩, ⟨?_, ?_⟩, ⟨?_, ?_⟩, ?_, fun p hp => by omega, fun p hp => by omega, fun x => ?_⟩
  · rw [setF_get, if_neg (by decide), setA_1, t1]
    show u.1 28 = _
    rw [u1 28 (by decide), f28, hB]
  · rw [setF_get, if_neg (by decide), setA_1, t1]
    show u.1 30 = _
    rw [u1 30 (by decide), f30]
  · rw [setF_get, if_neg (by decide), setA_1, t1]
    show u.1 43 = _
    rw [u1 43 (by decide), f43]; rfl
  · rw [setF_2, setA_ne _ _ _ (by decide), t2 32 (by decide), setA_ne _ _ _ (by decide), setA_ne _ _ _ (by decide), setA_at, if_neg (by decide), u2 32 (by decide)]; exact f32
  · rw [setF_2, setA_ne _ _ _ (by decide), t2 32 (by decide), setA_ne _ _ _ (by decide), setA_ne _ _ _ (by decide), setA_at, if_pos rfl]; decide
  · rw [setF_2, setA_ne _ _ _ (by decide), t2 33 (by decide), setA_ne _ _ _ (by decide), setA_at, if_neg (by decide), setA_ne _ _ _ (by decide), u2 33 (by decide)]; exact f33
  · rw [setF_2, setA_ne _ _ _ (by decide), t2 33 (by decide), setA_ne _ _ _ (by decide), setA_at, if_pos rfl]; decide
  · rw [setF_2, setA_ne _ _ _ (by decide), t2 34 (by decide), setA_at, if_neg (by decide), setA_ne _ _ _ (by decide), setA_ne _ _ _ (by decide), u2 34 (by decide)]; exact f34
  · rw [setF_2, setA_ne _ _ _ (by decide), t2 34 (by decide), setA_at, if_pos rfl]; decide
  · rw [setF_2, setA_at, if_pos rfl]; rfl
  · rw [setF_2, setA_ne _ _ _ (by decide), t2 48 (by decide), setA_ne _ _ _ (by decide), setA_ne _ _ _ (by decide), setA_ne _ _ _ (by decide), u2 48 (by decide)]; exact f48 x
theorem isF_eq {s : Obj} (h31 : s.1 31 = 2) (h32 : s.2 32 1 = 2) : isFile_M 1 s = some (1, s) := by
  unfold isFile_M isValid_M
  rw [if_neg (by decide), h31, if_pos (by decide), if_pos (by decide), cB_some, if_neg (by decide), rB_in (by omega) (by omega)]
  have : s.2 32 ((1 : Int)).toNat = 2 := h32
  rw [this, if_pos rfl]
theorem push_eq {B N : Nat} {D : Nat → Int} {s : Obj} (h : AP B N D s) (hN : N < 256) (v : Int) (hv : D N = i2b (i2b v)) : ∃ t, pushByte_M 1 v s = some (0, t) ∧ AP B (N + 1) D t := by
  obtain ⟨a28, a30, a31, a43, a32, a33, a34, a36, a41, a42, a48⟩ := h
  have i1 : i2b (i2b 1) = 1 := by decide
  unfold pushByte_M
  rw [a43, if_neg (by omega), if_pos (by omega), wB_nat (by omega)]
  have e43 : (setA s 41 N (i2b (i2b v))).1 43 = (N : Int) := a43
  rw [e43, wB_nat (by omega), i1, lB_eq]
  have e43' : (setA (setA s 41 N (i2b (i2b v))) 42 N 1).1 43 = (N : Int) := a43
  rw [e43', aInc N (by omega), rB_in (by omega) (by omega), show ((1 : Int)).toNat = 1 from rfl]
  have e36 : (setF (setA (setA s 41 N (i2b (i2b v))) 42 N 1) 43 ((N + 1 : Nat) : Int)).2 36 1 = (N : Int) := a36
  rw [e36, aInc N (by omega), wB_in (by omega) (by omega), show ((1 : Int)).toNat = 1 from rfl]
  refine ⟨_, rfl, a28, a30, a31, rfl, a32, a33, a34, ?_, fun p hp => ?_, fun p hp => ?_, a48⟩
  · rw [setA_at, if_pos rfl]
  · rw [setA_ne _ _ _ (by decide), setF_2, setA_ne _ _ _ (by decide), setA_at]
    by_cases z : p = N
    · rw [if_pos z, z, hv]
    · rw [if_neg z]; exact a41 p (by omega)
  · rw [setA_ne _ _ _ (by decide), setF_2, setA_at]
    by_cases z : p = N
    · rw [if_pos z]
    · rw [if_neg z, setA_ne _ _ _ (by decide)]; exact a42 p (by omega)
theorem run_ap {B : Nat} {D : Nat → Int} {s : Obj} (h : AP B 0 D s) (b : Int) (c : Nat) (hc : 1 ≤ c ∧ c ≤ 64) (hD : ∀ p, p < c → D p = i2b (i2b (aAnd b 255))) : ∃ t, appendRun_M 1 b (c : Int) s = some ((c : Int), t) ∧ AP B c D t := by
  have l : ∀ (k fu x : Nat) (u : Obj), x + k = c → k < fu → AP B x D u → ∃ t, appendRun_l59 1 (c : Int) (aAnd b 255) fu (x : Int) u = some ((c : Int), t) ∧ AP B c D t := by
    intro k
    induction k with
    | zero =>
      intro fu x u e1 e2 hu
      obtain ⟨g, rfl⟩ : ∃ g, fu = g + 1 := ⟨fu - 1, by omega⟩
      have : x = c := by omega
      subst this
      refine ⟨u, ?_, hu⟩
      show appendRun_l59b _ _ _ (appendRun_l59 _ _ _ g) _ _ = _
      unfold appendRun_l59b
      rw [if_neg (by omega), rB_in (by omega) (by omega), show ((1 : Int)).toNat = 1 from rfl, hu.2.2.2.2.2.2.2.1]
    | succ k ih =>
      intro fu x u e1 e2 hu
      obtain ⟨g, rfl⟩ : ∃ g, fu = g + 1 := ⟨fu - 1, by omega⟩
      obtain ⟨t, et, ht⟩ := push_eq hu (by omega) (aAnd b 255) (hD x (by omega))
      show ∃ t, appendRun_l59b _ _ _ (appendRun_l59 _ _ _ g) _ _ = _ ∧ _
      unfold appendRun_l59b
      rw [if_pos (by omega), if_pos (by omega), et, cB_some, aInc x (by omega)]
      exact ih g (x + 1) t (by omega) (by omega) ht
  unfold appendRun_M
  have a43 : s.1 43 = 0 := h.2.2.2.1
  rw [if_pos h.2.1, isF_eq h.2.2.1 h.2.2.2.2.1.2, cB_some, if_neg (by decide), if_neg (by omega), if_neg (by omega), a43, aAdd_id (by omega) (by omega), if_neg (by omega), lB_eq]
  exact l c FU 0 s (by omega) (by unfold FU; omega) h
theorem byte_ap {B N : Nat} {D : Nat → Int} {s : Obj} (h : AP B N D s) (hN : N < 256) (c : Int) (hD : D N = i2b (i2b (aAnd c 255))) : ∃ t, appendByte_M 1 c s = some (((N + 1 : Nat) : Int), t) ∧ AP B (N + 1) D t := by
  obtain ⟨t, et, ht⟩ := push_eq h hN (aAnd c 255) hD
  have a43 := h.2.2.2.1
  unfold appendByte_M
  rw [if_pos h.2.1, isF_eq h.2.2.1 h.2.2.2.2.1.2, cB_some, if_neg (by decide), a43, if_pos (by omega), et, cB_some, rB_in (by omega) (by omega), show ((1 : Int)).toNat = 1 from rfl, ht.2.2.2.2.2.2.2.1]
  exact ⟨t, rfl, ht⟩
theorem size_ap {B N : Nat} {D : Nat → Int} {s : Obj} (h : AP B N D s) : fileSize_M 1 s = some ((N : Int), s) := by
  unfold fileSize_M
  rw [isF_eq h.2.2.1 h.2.2.2.2.1.2, cB_some, if_neg (by decide), if_pos h.2.1, rB_in (by omega) (by omega), show ((1 : Int)).toNat = 1 from rfl, h.2.2.2.2.2.2.2.1]
/-! the layout and the directory -/
theorem div_n (a b : Nat) (ha : a < 1000000) (hb : 1 ≤ b) : aDiv (a : Int) (b : Int) = ((a / b : Nat) : Int) := by
  show w32 ((a : Int).tdiv b) = _
  have := Nat.div_le_self a b
  rw [Int.tdiv_eq_ediv_of_nonneg (by omega), ← Int.natCast_ediv]
  generalize a / b = q at *
  exact w32_id (by omega) (by omega)
theorem rem_n (a b : Nat) : aRem (a : Int) (b : Int) = ((a % b : Nat) : Int) := by
  show (a : Int).tmod b = _
  rw [Int.tmod_eq_emod_of_nonneg (by omega), Int.natCast_emod]
theorem pl1 (r B : Nat) (hB : 4 ≤ B ∧ B ≤ 32) (hr : r < B) : aDiv (aSub (aAdd (r : Int) (B : Int)) 1) (B : Int) = ((if r = 0 then 0 else 1 : Nat) : Int) := by
  have ef : (r + B - 1) / B = if r = 0 then 0 else 1 := by
    by_cases z : r = 0
    · rw [if_pos z]; exact Nat.div_eq_of_lt (by omega)
    · rw [if_neg z]; exact Nat.div_eq_of_lt_le (by omega) (by omega)
  rw [aAdd_id (by omega) (by omega), aSub_id (by omega) (by omega), show (r : Int) + (B : Int) - 1 = ((r + B - 1 : Nat) : Int) by omega, div_n _ _ (by omega) (by omega), ef]
theorem pl2 (F x : Nat) (hF : F ≤ 16) (hx : x ≤ 1) : aAdd (F : Int) (x : Int) = ((F + x : Nat) : Int) := by
  rw [aAdd_id (by omega) (by omega)]; omega
theorem pl3 : aAdd 16 (aMul 8 2) = 32 := by decide
theorem pl4 (NB : Nat) (h : NB ≤ 17) : aAdd 32 (aMul 4 (NB : Int)) = ((32 + 4 * NB : Nat) : Int) := by
  rw [aMul_id (by omega) (by omega), aAdd_id (by omega) (by omega)]; omega
theorem pl5 (NB : Nat) (h : NB ≤ 17) : aAdd ((32 + 4 * NB : Nat) : Int) (aMul 10 (aSub 2 1)) = ((32 + 4 * NB + 10 : Nat) : Int) := by
  have : aMul 10 (aSub 2 1) = 10 := by decide
  rw [this, aAdd_id (by omega) (by omega)]; omega
theorem dBp (B : Nat) (h : 4 ≤ B) (q : Option (Int × Obj)) : dB (B : Int) q = q := if_neg (by omega)
theorem pl6 (F N B : Nat) (hN : N ≤ 65) (hB : 4 ≤ B) (hF : N / B = F) (hF16 : F ≤ 16) : aAdd 0 (aDiv (N : Int) (B : Int)) = (F : Int) := by
  rw [div_n _ _ (by omega) (by omega), hF, aAdd_id (by omega) (by omega), Int.zero_add]
theorem pl7 (r N B : Nat) (hr : N % B = r) (hr' : r < 100) : aAdd 0 (aRem (N : Int) (B : Int)) = (r : Int) := by
  rw [rem_n, hr, aAdd_id (by omega) (by omega), Int.zero_add]
theorem ad2 (P x : Nat) (h : P + 2 + x < 1024) : aAdd (aAdd (P : Int) 2) (x : Int) = ((P + 2 + x : Nat) : Int) := by
  rw [aAdd_id (x := (P : Int)) (by omega) (by omega), aAdd_id (by omega) (by omega)]; omega
theorem ad8 (x : Nat) (h : x < 8) : aAdd (aMul 1 8) (x : Int) = ((8 + x : Nat) : Int) := by
  have : aMul 1 8 = 8 := by decide
  rw [this, aAdd_id (by omega) (by omega)]; omega
theorem adS (a d : Nat) (h : a + d < 100000) : aAdd (a : Int) (d : Int) = ((a + d : Nat) : Int) := by
  rw [aAdd_id (by omega) (by omega)]; omega
def W44 (s t : Obj) (a b : Nat) : Prop := t.1 = s.1 ∧ (∀ k, k ≠ 44 → t.2 k = s.2 k) ∧ ∀ q, (q < a ∨ b ≤ q) → t.2 44 q = s.2 44 q
theorem W44.trans {s t u : Obj} {a b : Nat} (h : W44 s t a b) (k : W44 t u a b) : W44 s u a b := ⟨k.1.trans h.1, fun i hi => (k.2.1 i hi).trans (h.2.1 i hi), fun q hq => (k.2.2 q hq).trans (h.2.2 q hq)⟩
theorem W44.mono {s t : Obj} {a b c d : Nat} (h : W44 s t a b) (h1 : c ≤ a) (h2 : b ≤ d) : W44 s t c d := ⟨h.1, h.2.1, fun q hq => h.2.2 q (by omega)⟩
theorem p8 {p : Nat} (hp : p < 1024) (v : Int) (s : Obj) : ∃ t, put8_M (p : Int) v s = some (0, t) ∧ W44 s t p (p + 1) ∧ t.2 44 p = i2b (i2b v) := by
  rw [put8_eq hp]
  exact ⟨_, rfl, ⟨rfl, fun k hk => setA_ne _ _ _ hk, fun q hq => by rw [setA_at, if_neg (by omega)]⟩, by rw [setA_at, if_pos rfl]⟩
theorem p16 {p : Nat} (hp : p + 1 < 1024) {v : Nat} (hv : v < 65536) (s : Obj) : ∃ t, put16_M (p : Int) (v : Int) s = some (0, t) ∧ W44 s t p (p + 2) ∧ aAnd (t.2 44 p) 255 = ((v / 256 : Nat) : Int) ∧ aAnd (t.2 44 (p + 1)) 255 = ((v % 256 : Nat) : Int) := by
  rw [put16_eq hp hv]
  refine ⟨_, rfl, ⟨rfl, fun k hk => by rw [setA_ne _ _ _ hk, setA_ne _ _ _ hk], fun q hq => by rw [setA_at, if_neg (by omega), setA_at, if_neg (by omega)]⟩, ?_, ?_⟩
  · rw [setA_at, if_neg (by omega), setA_at, if_pos rfl, u8_v (by omega)]
  · rw [setA_at, if_pos rfl, u8_v (by omega)]
/-- the header's part that is read -/
def HH (g : Nat → Int) (F NB : Nat) : Prop := aAnd (g 0) 255 = 0 ∧ aAnd (g 1) 255 = 16 ∧ aAnd (g 2) 255 = ((32 / 256 : Nat) : Int) ∧ aAnd (g 3) 255 = ((32 % 256 : Nat) : Int) ∧ aAnd (g 10) 255 = (F : Int) ∧ aAnd (g 11) 255 = (NB : Int)
theorem HH.go {g g' : Nat → Int} {F NB : Nat} (h : HH g F NB) (e : ∀ p, p < 16 → g' p = g p) : HH g' F NB := by
  unfold HH at *
  rw [e 0 (by omega), e 1 (by omega), e 2 (by omega), e 3 (by omega), e 10 (by omega), e 11 (by omega)]; exact h
theorem plan_eq {B N : Nat} {D : Nat → Int} {s : Obj} (h : AP B N D s) (hB : 4 ≤ B ∧ B ≤ 32) (hN : 1 ≤ N ∧ N ≤ 65) {F r NB : Nat} (hF : N / B = F) (hr : N % B = r) (hNB : NB = F + (if r = 0 then 0 else 1)) (hF16 : F ≤ 16) (hrB : r < B) :
    ∃ t, planLayout_M s = some (0, t) ∧ t.1 51 = ((32 + 4 * NB + 10 : Nat) : Int) ∧ t.1 53 = ((32 + 4 * NB : Nat) : Int) ∧ (∀ k, k ≠ 51 → k ≠ 53 → t.1 k = s.1 k) ∧ (∀ k, k ≠ 44 → t.2 k = s.2 k) ∧ HH (t.2 44) F NB := by
  obtain ⟨a28, a30, a31, a43, a32, a33, a34, a36, a41, a42, a48⟩ := h
  have hNB' : NB ≤ 17 := by rw [hNB]; split <;> omega
  have hi1 : (if r = 0 then 0 else 1 : Nat) ≤ 1 := by split <;> omega
  have j : ∃ t, planLayout_j64 (F : Int) (r : Int) s = some (0, t) ∧ t.1 51 = ((32 + 4 * NB + 10 : Nat) : Int) ∧ t.1 53 = ((32 + 4 * NB : Nat) : Int) ∧ (∀ k, k ≠ 51 → k ≠ 53 → t.1 k = s.1 k) ∧ (∀ k, k ≠ 44 → t.2 k = s.2 k) ∧ HH (t.2 44) F NB := by
    unfold planLayout_j64
    obtain ⟨s1, e1, w1, q0, q1⟩ := p16 (p := 0) (by omega) (v := 16) (by omega) s
    obtain ⟨s2, e2, w2, q2, q3⟩ := p16 (p := 2) (by omega) (v := 32) (by omega) s1
    obtain ⟨s3, e3, w3, _, _⟩ := p16 (p := 4) (by omega) (v := 32 + 4 * NB) (by omega) s2
    obtain ⟨s4, e4, w4, _, _⟩ := p16 (p := 6) (by omega) (v := 32 + 4 * NB + 10) (by omega) s3
    obtain ⟨s5, e5, w5, _⟩ := p8 (p := 8) (by omega) (s4.1 31) s4
    obtain ⟨s6, e6, w6, _⟩ := p8 (p := 9) (by omega) (s5.1 28) s5
    obtain ⟨s7, e7, w7, q10⟩ := p8 (p := 10) (by omega) (F : Int) s6
    obtain ⟨s8, e8, w8, q11⟩ := p8 (p := 11) (by omega) (NB : Int) s7
    obtain ⟨s9, e9, w9, _⟩ := p8 (p := 12) (by omega) 83 s8
    rw [a28, dBp B hB.1, pl1 r B hB hrB, lB_eq, pl2 F _ hF16 hi1, ← hNB, lB_eq, a31, pl3, lB_eq, pl4 NB hNB', lB_eq, pl5 NB hNB', lB_eq, show put16_M 0 16 s = some (0, s1) from e1, cB_some, show put16_M 2 32 s1 = some (0, s2) from e2, cB_some, show put16_M 4 ((32 + 4 * NB : Nat) : Int) s2 = some (0, s3) from e3, cB_some, show put16_M 6 ((32 + 4 * NB + 10 : Nat) : Int) s3 = some (0, s4) from e4, cB_some, show put8_M 8 (s4.1 31) s4 = some (0, s5) from e5, cB_some, show put8_M 9 (s5.1 28) s5 = some (0, s6) from e6, cB_some, show put8_M 10 (F : Int) s6 = some (0, s7) from e7, cB_some, show put8_M 11 (NB : Int) s7 = some (0, s8) from e8, cB_some, show put8_M 12 83 s8 = some (0, s9) from e9, cB_some, lB_eq, lB_eq]
    have f1 : s9.1 = s.1 := by rw [w9.1, w8.1, w7.1, w6.1, w5.1, w4.1, w3.1, w2.1, w1.1]
    refine ⟨_, rfl, rfl, rfl, fun k a b => by rw [setF_get, if_neg b, setF_get, if_neg a, f1], fun k hk => by rw [setF_2, setF_2, w9.2.1 k hk, w8.2.1 k hk, w7.2.1 k hk, w6.2.1 k hk, w5.2.1 k hk, w4.2.1 k hk, w3.2.1 k hk, w2.2.1 k hk, w1.2.1 k hk], ?_⟩
    rw [setF_2, setF_2]
    have up : ∀ p, p < 4 → s9.2 44 p = s2.2 44 p := fun p hp => by rw [w9.2.2 p (by omega), w8.2.2 p (by omega), w7.2.2 p (by omega), w6.2.2 p (by omega), w5.2.2 p (by omega), w4.2.2 p (by omega), w3.2.2 p (by omega)]
    refine ⟨?_, ?_, ?_, ?_, ?_, ?_⟩
    · rw [up 0 (by omega), w2.2.2 0 (by omega)]; exact q0
    · rw [up 1 (by omega), w2.2.2 1 (by omega)]; exact q1
    · rw [up 2 (by omega)]; exact q2
    · rw [up 3 (by omega)]; exact q3
    · rw [w9.2.2 10 (by omega), w8.2.2 10 (by omega), q10, u8_v (by omega)]
    · rw [w9.2.2 11 (by omega), q11, u8_v (by omega)]
  unfold planLayout_M
  have st1 : planLayout_l6 (fun x1_64 x2_64 s64 => planLayout_j64 x1_64 x2_64 s64) FU 0 0 1 s = planLayout_l6 (fun x1_64 x2_64 s64 => planLayout_j64 x1_64 x2_64 s64) 999999999 (F : Int) (r : Int) 2 s := by
    show planLayout_l6b _ (planLayout_l6 _ 999999999) _ _ _ _ = _
    unfold planLayout_l6b planLayout_j58
    rw [a31, if_pos (by decide), if_pos (by decide), rB_in (by omega) (by omega), show ((1 : Int)).toNat = 1 from rfl, a32.2, if_pos rfl, rB_in (by omega) (by omega), show ((1 : Int)).toNat = 1 from rfl, a36, a28, dBp B hB.1, pl6 F N B hN.2 hB.1 hF hF16, lB_eq, rB_in (by omega) (by omega), show ((1 : Int)).toNat = 1 from rfl, a36, dBp B hB.1, pl7 r N B hr (Nat.lt_of_lt_of_le hrB (Nat.le_trans hB.2 (by decide))), lB_eq]
    rfl
  rw [st1]
  show ∃ t, planLayout_l6b _ (planLayout_l6 _ 999999998) _ _ _ _ = _ ∧ _
  unfold planLayout_l6b
  rw [a31, if_neg (by decide)]
  exact j
/-- the directory -/
theorem ipos_eq {s : Obj} {F NB : Nat} (h : HH (s.2 44) F NB) (n : Nat) (hn : n < 16) : inodePos_M (n : Int) s = some (((16 + 8 * n : Nat) : Int), s) := by
  have u := u16_eq (p := 0) (by omega) s (a := 0) (b := 16) (by omega) (by omega) h.1 h.2.1
  unfold inodePos_M
  rw [show u16_M 0 s = _ from u, cB_some, aMul_id (by omega) (by omega), aAdd_id (by omega) (by omega)]
  congr 2
theorem dir_eq {s : Obj} {F NB P : Nat} (hh : HH (s.2 44) F NB) (h31 : s.1 31 = 2) (h33 : s.2 33 0 = 0 ∧ s.2 33 1 = 0) (h34 : s.2 34 0 = 0 ∧ s.2 34 1 = 1) (h53 : s.1 53 = (P : Int)) (hP : 32 ≤ P ∧ P + 10 ≤ 1024) : ∃ t, writeDirNode_M 0 s = some (0, t) ∧ (∀ k, k ≠ 53 → t.1 k = s.1 k) ∧ (∀ k, k ≠ 44 → k ≠ 50 → t.2 k = s.2 k) ∧ (∀ q, (q < 16 ∨ 24 ≤ q) → (q < P ∨ P + 10 ≤ q) → t.2 44 q = s.2 44 q) := by
  have i1 : i2b (i2b 1) = 1 := by decide
  have ec : collectChildren_M 0 s = some (1, setA s 50 0 1) := by
    unfold collectChildren_M
    show collectChildren_l4b 0 (collectChildren_l4 0 999999999) 0 1 s = _
    unfold collectChildren_l4b collectChildren_j45
    rw [h31, if_pos (by decide), if_pos (by decide), rB_in (by omega) (by omega), show ((1 : Int)).toNat = 1 from rfl, h33.2, if_pos rfl, if_pos (by decide), wB_in (by omega) (by omega), i1]
    show collectChildren_l4b 0 (collectChildren_l4 0 999999998) (aAdd 0 1) (aAdd 1 1) (setA s 50 0 1) = _
    unfold collectChildren_l4b
    rw [show (setA s 50 0 1).1 31 = 2 from h31, if_neg (by decide)]; rfl
  generalize hs1 : setA s 50 0 1 = s1 at ec
  have c1 : s1.1 = s.1 := by rw [← hs1]; rfl
  have c2 : ∀ k, k ≠ 50 → s1.2 k = s.2 k := fun k hk => by rw [← hs1, setA_ne _ _ _ hk]
  have c50 : s1.2 50 0 = 1 := by rw [← hs1, setA_at, if_pos rfl]
  have es : sortChildren_M 1 s1 = some (0, s1) := by
    unfold sortChildren_M
    show sortChildren_l2b 1 (sortChildren_l2 1 999999999) 1 s1 = _
    unfold sortChildren_l2b
    rw [if_neg (by decide)]
  have hh1 : HH (s1.2 44) F NB := by rw [c2 44 (by decide)]; exact hh
  have ei := ipos_eq hh1 0 (by omega)
  have ei : inodePos_M 0 s1 = some (16, s1) := ei
  obtain ⟨s2, e2, w2, _⟩ := p8 (p := 16) (by omega) 1 s1
  obtain ⟨s3, e3, w3, _⟩ := p8 (p := 17) (by omega) 0 s2
  obtain ⟨s4, e4, w4, _⟩ := p16 (p := 18) (by omega) (v := P) (by omega) s3
  obtain ⟨s5, e5, w5, _⟩ := p8 (p := 20) (by omega) 1 s4
  obtain ⟨s6, e6, w6, _⟩ := p16 (p := 21) (by omega) (v := 0) (by omega) s5
  obtain ⟨s7, e7, w7, _⟩ := p8 (p := 23) (by omega) 0 s6
  have w : W44 s1 s7 16 24 := (((((w2.mono (by omega) (by omega)).trans (w3.mono (by omega) (by omega))).trans (w4.mono (by omega) (by omega))).trans (w5.mono (by omega) (by omega))).trans (w6.mono (by omega) (by omega))).trans (w7.mono (by omega) (by omega))
  have s733 : s2.2 33 0 = 0 := by rw [w2.2.1 33 (by decide), c2 33 (by decide)]; exact h33.1
  have s734 : s6.2 34 0 = 0 := by rw [w6.2.1 34 (by decide), w5.2.1 34 (by decide), w4.2.1 34 (by decide), w3.2.1 34 (by decide), w2.2.1 34 (by decide), c2 34 (by decide)]; exact h34.1
  have s353 : s3.1 53 = (P : Int) := by rw [w3.1, w2.1, c1]; exact h53
  have a53 : s7.1 53 = (P : Int) := by rw [w.1, c1]; exact h53
  have a34 : s7.2 34 1 = 1 := by rw [w.2.1 34 (by decide), c2 34 (by decide)]; exact h34.2
  have a50 : s7.2 50 0 = 1 := by rw [w.2.1 50 (by decide)]; exact c50
  -- the entry
  obtain ⟨s8, e8, w8, _⟩ := p8 (p := P) (by omega) 1 s7
  obtain ⟨s9, e9, w9, _⟩ := p8 (p := P + 1) (by omega) 1 s8
  have l : ∀ (k fu x : Nat) (u : Obj), x + k = 8 → k < fu → W44 s7 u P (P + 10) → ∃ t, writeEntry_l40 1 1 fu (x : Int) u = some (0, t) ∧ (∀ k, k ≠ 53 → t.1 k = s7.1 k) ∧ (∀ k, k ≠ 44 → t.2 k = s7.2 k) ∧ (∀ q, (q < P ∨ P + 10 ≤ q) → t.2 44 q = s7.2 44 q) := by
    intro k
    induction k with
    | zero =>
      intro fu x u e1 e2 hu
      obtain ⟨g, rfl⟩ : ∃ g, fu = g + 1 := ⟨fu - 1, by omega⟩
      refine ⟨setF u 53 (aAdd (u.1 53) 10), ?_, fun k hk => by rw [setF_get, if_neg hk, hu.1], hu.2.1, hu.2.2⟩
      show writeEntry_l40b _ _ (writeEntry_l40 _ _ g) _ _ = _
      unfold writeEntry_l40b
      rw [if_neg (by omega), lB_eq]
    | succ k ih =>
      intro fu x u e1 e2 hu
      obtain ⟨g, rfl⟩ : ∃ g, fu = g + 1 := ⟨fu - 1, by omega⟩
      have u53 : u.1 53 = (P : Int) := by rw [hu.1]; exact a53
      have go : ∀ v, ∃ t, writeEntry_j75 (writeEntry_l40 1 1 g) 1 1 (x : Int) v ((P + 2 + x : Nat) : Int) u = some (0, t) ∧ (∀ k, k ≠ 53 → t.1 k = s7.1 k) ∧ (∀ k, k ≠ 44 → t.2 k = s7.2 k) ∧ (∀ q, (q < P ∨ P + 10 ≤ q) → t.2 44 q = s7.2 44 q) := by
        intro v
        obtain ⟨t, et, wt, _⟩ := p8 (p := P + 2 + x) (by omega) v u
        unfold writeEntry_j75
        rw [et, cB_some, aInc x (by omega)]
        exact ih g (x + 1) t (by omega) (by omega) (hu.trans (wt.mono (by omega) (by omega)))
      show ∃ t, writeEntry_l40b _ _ (writeEntry_l40 _ _ g) _ _ = _ ∧ _
      unfold writeEntry_l40b
      rw [if_pos (by omega), u53, ad2 P x (by omega)]
      by_cases q : (x : Int) < 1
      · rw [if_pos q, ad8 x (by omega), rB_nat (by omega)]; exact go _
      · rw [if_neg q]; exact go _
  obtain ⟨t, et, t1, t2, t4⟩ := l 8 FU 0 s9 (by omega) (by unfold FU; omega) ((w8.mono (by omega) (by omega)).trans (w9.mono (by omega) (by omega)))
  have ee : writeEntry_M 1 s7 = some (0, t) := by
    unfold writeEntry_M
    rw [if_neg (by decide), if_pos (by decide), rB_in (by omega) (by omega), show ((1 : Int)).toNat = 1 from rfl, a34, a53, e8, cB_some, w8.1, a53, aInc P (by omega), e9, cB_some]
    exact et
  have eL : writeDirNode_l82 1 FU 0 s7 = some (0, t) := by
    show writeDirNode_l82b 1 (writeDirNode_l82 1 999999999) 0 s7 = _
    unfold writeDirNode_l82b
    rw [if_pos (by decide), if_pos (by decide), rB_in (by omega) (by omega), show ((0 : Int)).toNat = 0 from rfl, a50, ee, cB_some]
    show writeDirNode_l82b 1 (writeDirNode_l82 1 999999998) (aAdd 0 1) t = _
    unfold writeDirNode_l82b
    rw [if_neg (by decide)]
  unfold writeDirNode_M
  rw [ec, cB_some, es, cB_some, ei, cB_some, show put8_M (aAdd 16 0) 1 s1 = some (0, s2) from e2, cB_some, rB_in (by omega) (by omega), show ((0 : Int)).toNat = 0 from rfl, s733, show put8_M (aAdd 16 1) 0 s2 = some (0, s3) from e3, cB_some, s353, show put16_M (aAdd 16 2) (P : Int) s3 = some (0, s4) from e4, cB_some, show put8_M (aAdd 16 4) 1 s4 = some (0, s5) from e5, cB_some, show put16_M (aAdd 16 5) 0 s5 = some (0, s6) from e6, cB_some, rB_in (by omega) (by omega), show ((0 : Int)).toNat = 0 from rfl, s734, show put8_M (aAdd 16 7) 0 s6 = some (0, s7) from e7, cB_some]
  refine ⟨t, eL, fun k hk => by rw [t1 k hk, w.1, c1], fun k a b => by rw [t2 k a, w.2.1 k a, c2 k b], fun q h1 h2 => by rw [t4 q h2, w.2.2 q h1, c2 44 (by decide)]⟩
/-! the file's blocks -/
theorem gather_eq {s : Obj} {N : Nat} {D : Nat → Int} (hN : N ≤ 256) (h43 : s.1 43 = (N : Int)) (h41 : ∀ p, p < N → s.2 41 p = D p) (h42 : ∀ p, p < N → s.2 42 p = 1) (hy : ∀ p, BY (D p)) : ∃ t, gatherFile_M 1 s = some ((N : Int), t) ∧ t.1 = s.1 ∧ (∀ k, k ≠ 45 → t.2 k = s.2 k) ∧ ∀ p, p < N → t.2 45 p = D p := by
  have l : ∀ (k fu x : Nat) (u : Obj), x + k = N → k < fu → u.1 = s.1 → (∀ k, k ≠ 45 → u.2 k = s.2 k) → (∀ p, p < x → u.2 45 p = D p) → ∃ t, gatherFile_l4 1 fu (x : Int) (x : Int) u = some ((N : Int), t) ∧ t.1 = s.1 ∧ (∀ k, k ≠ 45 → t.2 k = s.2 k) ∧ ∀ p, p < N → t.2 45 p = D p := by
    intro k
    induction k with
    | zero =>
      intro fu x u e1 e2 u1 u2 h
      obtain ⟨g, rfl⟩ : ∃ g, fu = g + 1 := ⟨fu - 1, by omega⟩
      have : x = N := by omega
      subst this
      refine ⟨u, ?_, u1, u2, h⟩
      show gatherFile_l4b _ (gatherFile_l4 _ g) _ _ _ = _
      unfold gatherFile_l4b
      rw [u1, h43, if_neg (by omega)]
    | succ k ih =>
      intro fu x u e1 e2 u1 u2 h
      obtain ⟨g, rfl⟩ : ∃ g, fu = g + 1 := ⟨fu - 1, by omega⟩
      show ∃ t, gatherFile_l4b _ (gatherFile_l4 _ g) _ _ _ = _ ∧ _
      unfold gatherFile_l4b gatherFile_j51
      rw [u1, h43, if_pos (by omega), if_pos (by omega), rB_nat (by omega), u2 42 (by decide), h42 x (by omega), if_pos rfl, if_pos (by omega), rB_nat (by omega), u2 41 (by decide), h41 x (by omega), by_b1 (hy x), wB_nat (by omega), aInc x (by omega)]
      refine ih g (x + 1) _ (by omega) (by omega) u1 (fun k hk => by rw [setA_ne _ _ _ hk]; exact u2 k hk) (fun p hp => ?_)
      rw [setA_at]
      by_cases z : p = x
      · rw [if_pos z, z]
      · rw [if_neg z]; exact h p (by omega)
  exact l N FU 0 s (by omega) (by unfold FU; omega) rfl (fun _ _ => rfl) (fun p hp => by omega)
theorem rawF_eq {s : Obj} {st n : Nat} {D : Nat → Int} (hn : n ≤ 32) (hs : st + n ≤ 256) (hd : ∀ x, x < n → s.2 45 (st + x) = D (st + x)) (hy : ∀ p, BY (D p)) : ∃ t, loadRawFromFile_M (st : Int) (n : Int) s = some (0, t) ∧ t.1 = s.1 ∧ (∀ k, k ≠ 48 → t.2 k = s.2 k) ∧ (∀ x, x < n → t.2 48 x = D (st + x)) ∧ (∀ x, n ≤ x → t.2 48 x = s.2 48 x) := by
  have l : ∀ (k fu x : Nat) (u : Obj), x + k = n → k < fu → u.1 = s.1 → (∀ k, k ≠ 48 → u.2 k = s.2 k) → (∀ y, y < x → u.2 48 y = D (st + y)) → (∀ y, x ≤ y → u.2 48 y = s.2 48 y) → ∃ t, loadRawFromFile_l2 (st : Int) (n : Int) fu (x : Int) u = some (0, t) ∧ t.1 = s.1 ∧ (∀ k, k ≠ 48 → t.2 k = s.2 k) ∧ (∀ x, x < n → t.2 48 x = D (st + x)) ∧ (∀ x, n ≤ x → t.2 48 x = s.2 48 x) := by
    intro k
    induction k with
    | zero =>
      intro fu x u e1 e2 u1 u2 h h'
      obtain ⟨g, rfl⟩ : ∃ g, fu = g + 1 := ⟨fu - 1, by omega⟩
      have : x = n := by omega
      subst this
      refine ⟨u, ?_, u1, u2, h, h'⟩
      show loadRawFromFile_l2b _ _ (loadRawFromFile_l2 _ _ g) _ _ = _
      unfold loadRawFromFile_l2b
      rw [if_neg (by omega)]
    | succ k ih =>
      intro fu x u e1 e2 u1 u2 h h'
      obtain ⟨g, rfl⟩ : ∃ g, fu = g + 1 := ⟨fu - 1, by omega⟩
      show ∃ t, loadRawFromFile_l2b _ _ (loadRawFromFile_l2 _ _ g) _ _ = _ ∧ _
      unfold loadRawFromFile_l2b loadRawFromFile_j47
      rw [if_pos (by omega), if_pos (by omega), adS st x (by omega), lB_eq, if_neg (by omega), if_pos (by omega), rB_nat (by omega), u2 45 (by decide), hd x (by omega), by_b1 (hy _), wB_nat (by omega), aInc x (by omega)]
      refine ih g (x + 1) _ (by omega) (by omega) u1 (fun k hk => by rw [setA_ne _ _ _ hk]; exact u2 k hk) (fun y hy' => ?_) (fun y hy' => ?_)
      · rw [setA_at]
        by_cases z : y = x
        · rw [if_pos z, z]
        · rw [if_neg z]; exact h y (by omega)
      · rw [setA_at, if_neg (by omega)]; exact h' y (by omega)
  exact l n FU 0 s (by omega) (by unfold FU; omega) rfl (fun _ _ => rfl) (fun p hp => by omega) (fun _ _ => rfl)
theorem rawG_eq {s : Obj} {n : Nat} {E : Nat → Int} (hn : n ≤ 32) (hd : ∀ x, x < n → s.2 46 x = E x) (hy : ∀ p, BY (E p)) : ∃ t, loadRawFromFrag_M 0 (n : Int) s = some (0, t) ∧ t.1 = s.1 ∧ (∀ k, k ≠ 48 → t.2 k = s.2 k) ∧ (∀ x, x < n → t.2 48 x = E x) ∧ (∀ x, n ≤ x → t.2 48 x = s.2 48 x) := by
  have l : ∀ (k fu x : Nat) (u : Obj), x + k = n → k < fu → u.1 = s.1 → (∀ k, k ≠ 48 → u.2 k = s.2 k) → (∀ y, y < x → u.2 48 y = E y) → (∀ y, x ≤ y → u.2 48 y = s.2 48 y) → ∃ t, loadRawFromFrag_l2 0 (n : Int) fu (x : Int) u = some (0, t) ∧ t.1 = s.1 ∧ (∀ k, k ≠ 48 → t.2 k = s.2 k) ∧ (∀ x, x < n → t.2 48 x = E x) ∧ (∀ x, n ≤ x → t.2 48 x = s.2 48 x) := by
    intro k
    induction k with
    | zero =>
      intro fu x u e1 e2 u1 u2 h h'
      obtain ⟨g, rfl⟩ : ∃ g, fu = g + 1 := ⟨fu - 1, by omega⟩
      have : x = n := by omega
      subst this
      refine ⟨u, ?_, u1, u2, h, h'⟩
      show loadRawFromFrag_l2b _ _ (loadRawFromFrag_l2 _ _ g) _ _ = _
      unfold loadRawFromFrag_l2b
      rw [if_neg (by omega)]
    | succ k ih =>
      intro fu x u e1 e2 u1 u2 h h'
      obtain ⟨g, rfl⟩ : ∃ g, fu = g + 1 := ⟨fu - 1, by omega⟩
      show ∃ t, loadRawFromFrag_l2b _ _ (loadRawFromFrag_l2 _ _ g) _ _ = _ ∧ _
      unfold loadRawFromFrag_l2b loadRawFromFrag_j47
      rw [if_pos (by omega), if_pos (by omega), show aAdd 0 (x : Int) = ((0 + x : Nat) : Int) from adS 0 x (by omega), Nat.zero_add, lB_eq, if_neg (by omega), if_pos (by omega), rB_nat (by omega), u2 46 (by decide), hd x (by omega), by_b1 (hy _), wB_nat (by omega), aInc x (by omega)]
      refine ih g (x + 1) _ (by omega) (by omega) u1 (fun k hk => by rw [setA_ne _ _ _ hk]; exact u2 k hk) (fun y hy' => ?_) (fun y hy' => ?_)
      · rw [setA_at]
        by_cases z : y = x
        · rw [if_pos z, z]
        · rw [if_neg z]; exact h y (by omega)
      · rw [setA_at, if_neg (by omega)]; exact h' y (by omega)
  exact l n FU 0 s (by omega) (by unfold FU; omega) rfl (fun _ _ => rfl) (fun p hp => by omega) (fun _ _ => rfl)
theorem tail_eq {s : Obj} {M N : Nat} {D : Nat → Int} (hM : M ≤ N ∧ N ≤ 256) (h47 : s.1 47 = 0) (hd : ∀ p, p < N → s.2 45 p = D p) (hy : ∀ p, BY (D p)) : ∃ t, appendTail_M (M : Int) (N : Int) s = some (0, t) ∧ (∀ k, k ≠ 47 → t.1 k = s.1 k) ∧ t.1 47 = ((N - M : Nat) : Int) ∧ (∀ k, k ≠ 46 → t.2 k = s.2 k) ∧ ∀ x, x < N - M → t.2 46 x = D (M + x) := by
  have l : ∀ (k fu x : Nat) (u : Obj), M + x + k = N → k < fu → (∀ k, k ≠ 47 → u.1 k = s.1 k) → u.1 47 = (x : Int) → (∀ k, k ≠ 46 → u.2 k = s.2 k) → (∀ y, y < x → u.2 46 y = D (M + y)) → ∃ t, appendTail_l2 (N : Int) fu ((M + x : Nat) : Int) u = some (0, t) ∧ (∀ k, k ≠ 47 → t.1 k = s.1 k) ∧ t.1 47 = ((N - M : Nat) : Int) ∧ (∀ k, k ≠ 46 → t.2 k = s.2 k) ∧ ∀ x, x < N - M → t.2 46 x = D (M + x) := by
    intro k
    induction k with
    | zero =>
      intro fu x u e1 e2 u1 u47 u2 h
      obtain ⟨g, rfl⟩ : ∃ g, fu = g + 1 := ⟨fu - 1, by omega⟩
      have e : N - M = x := by omega
      refine ⟨u, ?_, u1, by rw [e]; exact u47, u2, by rw [e]; exact h⟩
      show appendTail_l2b _ (appendTail_l2 _ g) _ _ = _
      unfold appendTail_l2b
      rw [if_neg (by omega)]
    | succ k ih =>
      intro fu x u e1 e2 u1 u47 u2 h
      obtain ⟨g, rfl⟩ : ∃ g, fu = g + 1 := ⟨fu - 1, by omega⟩
      show ∃ t, appendTail_l2b _ (appendTail_l2 _ g) _ _ = _ ∧ _
      unfold appendTail_l2b appendTail_j53
      rw [if_pos (by omega), if_pos (by omega), if_neg (by omega), u47, if_pos (by omega), rB_nat (by omega), u2 45 (by decide), hd (M + x) (by omega), by_b1 (hy _), wB_nat (by omega), lB_eq]
      have f47 : (setA u 46 x (D (M + x))).1 47 = (x : Int) := u47
      rw [f47, aInc x (by omega), aInc (M + x) (by omega), show M + x + 1 = M + (x + 1) by omega]
      refine ih g (x + 1) _ (by omega) (by omega) (fun k hk => by rw [setF_get, if_neg hk]; exact u1 k hk) rfl (fun k hk => by rw [setF_2, setA_ne _ _ _ hk]; exact u2 k hk) (fun y hy' => ?_)
      rw [setF_2, setA_at]
      by_cases z : y = x
      · rw [if_pos z, z]
      · rw [if_neg z]; exact h y (by omega)
  unfold appendTail_M
  exact l (N - M) FU 0 s (by omega) (by unfold FU; omega) (fun _ _ => rfl) h47 (fun _ _ => rfl) (fun p hp => by omega)
/-- what stays while blocks are written -/
def BF (s t : Obj) : Prop := (∀ k, k ≠ 51 → k ≠ 52 → k ≠ 54 → t.1 k = s.1 k) ∧ (∀ k, k ≠ 44 → k ≠ 48 → t.2 k = s.2 k)
theorem BF.trans {s t u : Obj} (h : BF s t) (k : BF t u) : BF s u := ⟨fun i a b c => (k.1 i a b c).trans (h.1 i a b c), fun i a b => (k.2 i a b).trans (h.2 i a b)⟩
theorem mulS (b B : Nat) : (b + 1) * B = b * B + B := by rw [Nat.add_mul, Nat.one_mul]
theorem mul_n (b B : Nat) (h : b * B < 1000) : aMul (b : Int) (B : Int) = ((b * B : Nat) : Int) := by
  have e : (b : Int) * (B : Int) = ((b * B : Nat) : Int) := by rw [Int.natCast_mul]
  show w32 ((b : Int) * (B : Int)) = _
  rw [e]
  generalize b * B = q at *
  exact w32_id (by omega) (by omega)
theorem blk_l {s0 : Obj} {B N F NB DS : Nat} {D : Nat → Int} {v : Int} (K : Obj → Option (Int × Obj)) (hB : 4 ≤ B ∧ B ≤ 32) (hN : N ≤ 65) (hF : F * B ≤ N) (hF16 : F ≤ 16 ∧ F ≤ NB ∧ NB ≤ 17) (hDS : DS = 32 + 4 * NB + 10) (h28 : s0.1 28 = (B : Int)) (h45 : ∀ p, p < N → s0.2 45 p = D p) (hy : ∀ p, BY (D p)) (hv : ∀ p, p + 1 < N → D p = v) (hh : HH (s0.2 44) F NB) :
    ∀ (k fu b W : Nat) (s : Obj), b + k = F → k < fu → BF s0 s → s.1 52 = (b : Int) → s.1 51 = (W : Int) → (DS ≤ W ∧ W ≤ DS + 2 * (b * B)) → (∀ x, x < 32 → BY (s.2 48 x)) → (∀ q, q < 32 + 4 * 0 → s.2 44 q = s0.2 44 q) → (∀ b', b' < b → BT (s.2 44) 32 b' DS W (fun x => D (b' * B + x)) B) →
    ∃ (t : Obj) (W' : Nat), writeFileNode_l22 K (F : Int) fu (b : Int) s = K t ∧ BF s0 t ∧ t.1 52 = (F : Int) ∧ t.1 51 = (W' : Int) ∧ (DS ≤ W' ∧ W' ≤ DS + 2 * (F * B)) ∧ (∀ x, x < 32 → BY (t.2 48 x)) ∧ (∀ q, q < 32 → t.2 44 q = s0.2 44 q) ∧ (∀ b', b' < F → BT (t.2 44) 32 b' DS W' (fun x => D (b' * B + x)) B) := by
  intro k
  induction k with
  | zero =>
    intro fu b W s e1 e2 bf s52 s51 hW by48 lo bt
    obtain ⟨g, rfl⟩ : ∃ g, fu = g + 1 := ⟨fu - 1, by omega⟩
    have : b = F := by omega
    subst this
    refine ⟨s, W, ?_, bf, s52, s51, hW, by48, fun q hq => lo q (by omega), bt⟩
    show writeFileNode_l22b _ _ (writeFileNode_l22 _ _ g) _ _ = _
    unfold writeFileNode_l22b
    rw [if_neg (by omega)]
  | succ k ih =>
    intro fu b W s e1 e2 bf s52 s51 hW by48 lo bt
    obtain ⟨g, rfl⟩ : ∃ g, fu = g + 1 := ⟨fu - 1, by omega⟩
    have mb : b * B + B ≤ F * B := by rw [← mulS b B]; exact Nat.mul_le_mul_right B (by omega)
    have s28 : s.1 28 = (B : Int) := by rw [bf.1 28 (by decide) (by decide) (by decide)]; exact h28
    obtain ⟨u, eu, u1, u2, ud, uo⟩ := rawF_eq (s := s) (st := b * B) (n := B) (D := D) hB.2 (by omega) (fun x hx => by rw [bf.2 45 (by decide) (by decide)]; exact h45 _ (by omega)) hy
    have u48 : ∀ x, x < 32 → BY (u.2 48 x) := fun x hx => by
      by_cases z : x < B
      · rw [ud x z]; exact hy _
      · rw [uo x (by omega)]; exact by48 x hx
    have hhs : HH (u.2 44) F NB := hh.go (fun p hp => by rw [u2 44 (by decide)]; exact lo p (by omega))
    obtain ⟨t, W', et, t51, hW', t52, t1, t2, to, btn⟩ := emit_eq (s := u) (W := W) (nb := b) (T := 32) (n := B) (D := DS) hW.1 (by rw [u1]; exact s51) (by rw [u1]; exact s52) (by omega) (by omega) (by omega) u48 (HR_run (v := v) (fun x hx => by rw [ud x (by omega)]; exact hv _ (by omega))) hhs.2.2.1 hhs.2.2.2.1
    show ∃ (t : Obj) (W' : Nat), writeFileNode_l22b _ _ (writeFileNode_l22 _ _ g) _ _ = _ ∧ _
    unfold writeFileNode_l22b
    rw [if_pos (by omega), if_pos (by omega), s28, mul_n b B (by omega), eu, cB_some, u1, s28, et, cB_some, aInc b (by omega)]
    have bft : BF s0 t := bf.trans ⟨fun k a b c => by rw [t1 k a b c, u1], fun k a b => by rw [t2 k a, u2 k b]⟩
    refine ih g (b + 1) W' t (by omega) (by omega) bft t52 t51 (by rw [mulS b B]; omega) (fun x hx => by rw [t2 48 (by decide)]; exact u48 x hx) (fun q hq => by rw [to q (by omega) (by omega), u2 44 (by decide)]; exact lo q hq) (fun b' hb' => ?_)
    by_cases z : b' = b
    · subst z
      exact btn.go ⟨Nat.le_refl _, by omega⟩ (fun _ _ _ => rfl) (fun _ _ _ => rfl) (fun x hx => (ud x hx).symm)
    · exact (bt b' (by omega)).go (by omega) (fun p p1 p2 => by rw [to p (by omega) (by omega), u2 44 (by decide)]) (fun p p1 p2 => by rw [to p (by omega) (by omega), u2 44 (by decide)]) (fun _ _ => rfl)
/-! the build -/
theorem file_eq {s : Obj} {B N F r NB DS : Nat} {D : Nat → Int} {v : Int} (hB : 4 ≤ B ∧ B ≤ 32) (hN : 1 ≤ N ∧ N ≤ 65) (hF : N / B = F) (hM : F * B + r = N) (hF16 : F ≤ 16 ∧ F ≤ NB ∧ NB ≤ 17) (hDS : DS = 32 + 4 * NB + 10) (h28 : s.1 28 = (B : Int)) (h43 : s.1 43 = (N : Int)) (h47 : s.1 47 = 0) (h52 : s.1 52 = 0) (h51 : s.1 51 = (DS : Int)) (h41 : ∀ p, p < N → s.2 41 p = D p) (h42 : ∀ p, p < N → s.2 42 p = 1) (h33 : s.2 33 1 = 0) (h34 : s.2 34 1 = 1) (h48 : ∀ x, s.2 48 x = 0) (hy : ∀ p, BY (D p)) (hv : ∀ p, p + 1 < N → D p = v) (hh : HH (s.2 44) F NB) :
    ∃ (t : Obj) (W : Nat), writeFileNode_M 1 s = some (0, t) ∧ (∀ k, k ≠ 47 → k ≠ 51 → k ≠ 52 → k ≠ 54 → t.1 k = s.1 k) ∧ (∀ k, k ≠ 44 → k ≠ 45 → k ≠ 46 → k ≠ 48 → t.2 k = s.2 k) ∧ t.1 47 = (r : Int) ∧ (∀ x, x < r → t.2 46 x = D (F * B + x)) ∧ t.1 51 = (W : Int) ∧ (DS ≤ W ∧ W ≤ DS + 2 * (F * B)) ∧ t.1 52 = (F : Int) ∧ (∀ x, x < 32 → BY (t.2 48 x)) ∧ HH (t.2 44) F NB ∧ (aAnd (t.2 44 26) 255 = ((N / 256 : Nat) : Int) ∧ aAnd (t.2 44 27) 255 = ((N % 256 : Nat) : Int) ∧ aAnd (t.2 44 28) 255 = 0 ∧ aAnd (t.2 44 29) 255 = 0 ∧ aAnd (t.2 44 30) 255 = 0) ∧ (∀ b', b' < F → BT (t.2 44) 32 b' DS W (fun x => D (b' * B + x)) B) := by
  obtain ⟨u, eu, u1, u2, ud⟩ := gather_eq (by omega) h43 h41 h42 hy
  have hhu : HH (u.2 44) F NB := by rw [u2 44 (by decide)]; exact hh
  obtain ⟨w, W, ew, bw, w52, w51, hW, w48, wlo, wbt⟩ := blk_l (s0 := u) (v := v) (fun s64 => writeFileNode_j64 1 (N : Int) (F : Int) 0 s64) hB hN.2 (by omega) hF16 hDS (by rw [u1]; exact h28) ud hy hv hhu F FU 0 DS u (by omega) (by unfold FU; omega) ⟨fun _ _ _ _ => rfl, fun _ _ _ => rfl⟩ (by rw [u1]; exact h52) (by rw [u1]; exact h51) (by omega) (fun x hx => by rw [u2 48 (by decide), h48]; exact ⟨by decide, by decide⟩) (fun _ _ => rfl) (fun b' hb' => by omega)
  -- the tail
  have w47 : w.1 47 = 0 := by rw [bw.1 47 (by decide) (by decide) (by decide), u1]; exact h47
  have w28 : w.1 28 = (B : Int) := by rw [bw.1 28 (by decide) (by decide) (by decide), u1]; exact h28
  obtain ⟨a, ea, a1, a47, a2, ad⟩ := tail_eq (s := w) (M := F * B) (N := N) (D := D) (by omega) w47 (fun p hp => by rw [bw.2 45 (by decide) (by decide)]; exact ud p hp) hy
  rw [show N - F * B = r by omega] at a47 ad
  have ga : a.2 44 = w.2 44 := a2 44 (by decide)
  have hha : HH (a.2 44) F NB := hhu.go (fun p hp => by rw [ga]; exact wlo p (by omega))
  have ei : inodePos_M 1 a = some (24, a) := ipos_eq hha 1 (by omega)
  obtain ⟨s2, e2, w2, _⟩ := p8 (p := 24) (by omega) 2 a
  obtain ⟨s3, e3, w3, _⟩ := p8 (p := 25) (by omega) 0 s2
  obtain ⟨s4, e4, w4, q26, q27⟩ := p16 (p := 26) (by omega) (v := N) (by omega) s3
  obtain ⟨s5, e5, w5, q28⟩ := p8 (p := 28) (by omega) 0 s4
  obtain ⟨s6, e6, w6, q29, q30⟩ := p16 (p := 29) (by omega) (v := 0) (by omega) s5
  obtain ⟨s7, e7, w7, _⟩ := p8 (p := 31) (by omega) 1 s6
  have ww : W44 a s7 24 32 := (((((w2.mono (by omega) (by omega)).trans (w3.mono (by omega) (by omega))).trans (w4.mono (by omega) (by omega))).trans (w5.mono (by omega) (by omega))).trans (w6.mono (by omega) (by omega))).trans (w7.mono (by omega) (by omega))
  have o33 : s2.2 33 1 = 0 := by rw [w2.2.1 33 (by decide), a2 33 (by decide), bw.2 33 (by decide) (by decide), u2 33 (by decide)]; exact h33
  have o34 : s6.2 34 1 = 1 := by rw [w6.2.1 34 (by decide), w5.2.1 34 (by decide), w4.2.1 34 (by decide), w3.2.1 34 (by decide), w2.2.1 34 (by decide), a2 34 (by decide), bw.2 34 (by decide) (by decide), u2 34 (by decide)]; exact h34
  have ej : writeFileNode_j64 1 (N : Int) (F : Int) 0 w = some (0, s7) := by
    unfold writeFileNode_j64
    rw [w47, lB_eq, w28, mul_n F B (by omega), ea, cB_some, ei, cB_some, show put8_M (aAdd 24 0) 2 a = some (0, s2) from e2, cB_some, rB_in (by omega) (by omega), show ((1 : Int)).toNat = 1 from rfl, o33, show put8_M (aAdd 24 1) 0 s2 = some (0, s3) from e3, cB_some, show put16_M (aAdd 24 2) (N : Int) s3 = some (0, s4) from e4, cB_some, show put8_M (aAdd 24 4) 0 s4 = some (0, s5) from e5, cB_some, show put16_M (aAdd 24 5) 0 s5 = some (0, s6) from e6, cB_some, rB_in (by omega) (by omega), show ((1 : Int)).toNat = 1 from rfl, o34, show put8_M (aAdd 24 7) 1 s6 = some (0, s7) from e7, cB_some]
  have z0 : ((0 / 256 : Nat) : Int) = 0 := rfl
  refine ⟨s7, W, ?_, fun k k1 k2 k3 k4 => by rw [ww.1, a1 k k1, bw.1 k k2 k3 k4, u1], fun k k1 k2 k3 k4 => by rw [ww.2.1 k k1, a2 k k3, bw.2 k k1 k4, u2 k k2], by rw [ww.1]; exact a47, fun x hx => by rw [ww.2.1 46 (by decide)]; exact ad x hx, by rw [ww.1, a1 51 (by decide)]; exact w51, hW, by rw [ww.1, a1 52 (by decide)]; exact w52, fun x hx => by rw [ww.2.1 48 (by decide), a2 48 (by decide)]; exact w48 x hx, hha.go (fun p hp => ww.2.2 p (by omega)), ⟨?_, ?_, ?_, ?_, ?_⟩, fun b' hb' => (wbt b' hb').go (by omega) (fun p p1 p2 => by rw [ww.2.2 p (by omega), ga]) (fun p p1 p2 => by rw [ww.2.2 p (by omega), ga]) (fun _ _ => rfl)⟩
  · unfold writeFileNode_M
    rw [eu, cB_some, u1, h28, dBp B hB.1, div_n N B (by omega) (by omega), hF, lB_eq, h52, lB_eq]
    exact ew.trans ej
  · rw [w7.2.2 26 (by omega), w6.2.2 26 (by omega), w5.2.2 26 (by omega)]; exact q26
  · rw [w7.2.2 27 (by omega), w6.2.2 27 (by omega), w5.2.2 27 (by omega)]; exact q27
  · rw [w7.2.2 28 (by omega), w6.2.2 28 (by omega), q28]; decide
  · rw [w7.2.2 29 (by omega)]; exact q29
  · rw [w7.2.2 30 (by omega)]; exact q30
theorem frag_eq {s : Obj} {B F r NB DS W : Nat} {E : Nat → Int} {v : Int} (hB : 4 ≤ B ∧ B ≤ 32) (hr : r < B) (hNB : NB ≤ 17 ∧ F ≤ 16 ∧ (1 ≤ r → NB = F + 1)) (hDS : DS = 32 + 4 * NB + 10) (h28 : s.1 28 = (B : Int)) (h47 : s.1 47 = (r : Int)) (h46 : ∀ x, x < r → s.2 46 x = E x) (hy : ∀ p, BY (E p)) (hv : ∀ p, p + 1 < r → E p = v) (h51 : s.1 51 = (W : Int)) (hW : DS ≤ W ∧ W ≤ 900) (h52 : s.1 52 = (F : Int)) (h48 : ∀ x, x < 32 → BY (s.2 48 x)) (hh : HH (s.2 44) F NB) :
    ∃ (t : Obj) (W' : Nat), writeFragmentBlocks_M s = some (0, t) ∧ BF s t ∧ (W ≤ W' ∧ W' ≤ 1024) ∧ (∀ q, q < 32 + 4 * F → t.2 44 q = s.2 44 q) ∧ (∀ q, DS ≤ q → q < W → t.2 44 q = s.2 44 q) ∧ (1 ≤ r → BT (t.2 44) 32 F DS W' E r) := by
  unfold writeFragmentBlocks_M
  show ∃ (t : Obj) (W' : Nat), writeFragmentBlocks_l2b (writeFragmentBlocks_l2 999999999) 0 s = _ ∧ _
  unfold writeFragmentBlocks_l2b writeFragmentBlocks_j46
  have m0 : aMul 0 (B : Int) = 0 := by
    have := mul_n 0 B (by omega)
    rw [Nat.zero_mul] at this; exact this
  rw [if_pos (by decide), h28, m0, lB_eq, h47]
  by_cases z : r = 0
  · rw [if_neg (by omega)]
    exact ⟨s, W, rfl, ⟨fun _ _ _ _ => rfl, fun _ _ _ => rfl⟩, by omega, fun _ _ => rfl, fun _ _ _ => rfl, fun w => by omega⟩
  · have s0 : aSub (r : Int) 0 = (r : Int) := by
      clear m0
      rw [aSub_id (by omega) (by omega)]; omega
    rw [if_pos (by clear m0 s0; omega), s0, lB_eq, if_neg (by clear m0 s0; omega)]
    clear s0
    obtain ⟨u, eu, u1, u2, ud, uo⟩ := rawG_eq (s := s) (n := r) (E := E) (by clear m0; omega) h46 hy
    have u48 : ∀ x, x < 32 → BY (u.2 48 x) := fun x hx => by
      by_cases q : x < r
      · rw [ud x q]; exact hy _
      · rw [uo x (by clear m0; omega)]; exact h48 x hx
    have hhs : HH (u.2 44) F NB := hh.go (fun p hp => by rw [u2 44 (by decide)])
    obtain ⟨t, W', et, t51, hW', t52, t1, t2, to, btn⟩ := emit_eq (s := u) (W := W) (nb := F) (T := 32) (n := r) (D := DS) hW.1 (by rw [u1]; exact h51) (by rw [u1]; exact h52) (by clear m0; omega) (by clear m0; omega) (by clear m0; omega) u48 (HR_run (v := v) (fun x hx => by rw [ud x (by clear m0; omega)]; exact hv _ hx)) hhs.2.2.1 hhs.2.2.2.1
    rw [eu, cB_some, et, cB_some]
    have e2 : writeFragmentBlocks_l2 999999999 (aAdd 0 1) t = some (0, t) := by
      show writeFragmentBlocks_l2b (writeFragmentBlocks_l2 999999998) (aAdd 0 1) t = _
      unfold writeFragmentBlocks_l2b
      have t28 : t.1 28 = (B : Int) := by rw [t1 28 (by decide) (by decide) (by decide), u1]; exact h28
      have t47 : t.1 47 = (r : Int) := by rw [t1 47 (by decide) (by decide) (by decide), u1]; exact h47
      have m1 : aMul (aAdd 0 1) (B : Int) = (B : Int) := by
        have := mul_n 1 B (by clear m0; omega)
        rw [Nat.one_mul] at this; exact this
      rw [if_pos (by decide), t28, m1, lB_eq, t47, if_neg (by clear m0 m1; omega)]
    clear m0
    refine ⟨t, W', e2, ⟨fun k a b c => by rw [t1 k a b c, u1], fun k a b => by rw [t2 k a, u2 k b]⟩, by omega, fun q hq => by rw [to q (by omega) (by omega), u2 44 (by decide)], fun q q1 q2 => by rw [to q (by omega) (by omega), u2 44 (by decide)], fun _ => btn.go ⟨Nat.le_refl _, by omega⟩ (fun _ _ _ => rfl) (fun _ _ _ => rfl) (fun x hx => (ud x hx).symm)⟩
/-- ready to be read -/
def RY (B N F r NB DS W : Nat) (D : Nat → Int) (s : Obj) : Prop := s.1 28 = (B : Int) ∧ s.1 30 = 1 ∧ s.1 31 = 2 ∧ s.2 32 1 = 2 ∧ HH (s.2 44) F NB ∧ (aAnd (s.2 44 26) 255 = ((N / 256 : Nat) : Int) ∧ aAnd (s.2 44 27) 255 = ((N % 256 : Nat) : Int) ∧ aAnd (s.2 44 28) 255 = 0 ∧ aAnd (s.2 44 29) 255 = 0 ∧ aAnd (s.2 44 30) 255 = 0) ∧ (∀ b', b' < F → BT (s.2 44) 32 b' DS W (fun x => D (b' * B + x)) B) ∧ (1 ≤ r → BT (s.2 44) 32 F DS W (fun x => D (F * B + x)) r)
def CAc (B F r : Nat) (D : Nat → Int) (s : Obj) : Prop := ∀ b : Nat, s.1 55 = (b : Int) → (b < F ∧ s.1 56 = (B : Int) ∧ ∀ x, x < B → s.2 49 x = D (b * B + x)) ∨ (b = F ∧ s.1 56 = (r : Int) ∧ ∀ x, x < r → s.2 49 x = D (F * B + x))
theorem build_eq {B N F r NB : Nat} {D : Nat → Int} {v : Int} {s : Obj} (h : AP B N D s) (hB : 4 ≤ B ∧ B ≤ 32) (hN : 1 ≤ N ∧ N ≤ 65) (hF : N / B = F) (hr : N % B = r) (hM : F * B + r = N) (hNB : NB = F + (if r = 0 then 0 else 1)) (hF16 : F ≤ 16) (hrB : r < B) (hy : ∀ p, BY (D p)) (hv : ∀ p, p + 1 < N → D p = v) :
    ∃ (t : Obj) (W : Nat), build_M s = some (1, t) ∧ RY B N F r NB (32 + 4 * NB + 10) W D t ∧ t.1 55 = -1 := by
  obtain ⟨p, ep, p51, p53, p1, p2, ph⟩ := plan_eq h hB hN hF hr hNB hF16 hrB
  obtain ⟨a28, a30, a31, a43, a32, a33, a34, a36, a41, a42, a48⟩ := h
  have n1 : NB ≤ 17 ∧ F ≤ NB ∧ (1 ≤ r → NB = F + 1) := by
    rw [hNB]
    split
    · omega
    · omega
  generalize hu : setF (setF p 47 0) 52 0 = u
  have u1 : ∀ k, k ≠ 47 → k ≠ 52 → u.1 k = p.1 k := fun k a b => by rw [← hu, setF_get, if_neg b, setF_get, if_neg a]
  have u47 : u.1 47 = 0 := by rw [← hu]; rfl
  have u52 : u.1 52 = 0 := by rw [← hu]; rfl
  have u2 : u.2 = p.2 := by rw [← hu]; rfl
  have us : ∀ k, k ≠ 47 → k ≠ 52 → k ≠ 51 → k ≠ 53 → u.1 k = s.1 k := fun k a b c d => by rw [u1 k a b, p1 k c d]
  have ua : ∀ k, k ≠ 44 → u.2 k = s.2 k := fun k hk => by rw [u2, p2 k hk]
  obtain ⟨d, ed, d1, d2, dg⟩ := dir_eq (s := u) (F := F) (NB := NB) (P := 32 + 4 * NB) (by rw [u2]; exact ph) (by rw [us 31 (by decide) (by decide) (by decide) (by decide)]; exact a31) (by rw [ua 33 (by decide)]; exact a33) (by rw [ua 34 (by decide)]; exact a34) (by rw [u1 53 (by decide) (by decide)]; exact p53) (by omega)
  have hhd : HH (d.2 44) F NB := ph.go (fun q hq => by rw [dg q (by omega) (by omega), u2])
  have dd : ∀ k, k ≠ 44 → k ≠ 50 → d.2 k = s.2 k := fun k a b => by rw [d2 k a b]; exact ua k a
  obtain ⟨f, W, ef, f1, f2, f47, f46, f51, hW, f52, f48, fh, fi, fb⟩ := file_eq (s := d) (B := B) (N := N) (F := F) (r := r) (NB := NB) (DS := 32 + 4 * NB + 10) (D := D) (v := v) hB hN hF hM (by omega) rfl
    (by rw [d1 28 (by decide), us 28 (by decide) (by decide) (by decide) (by decide)]; exact a28) (by rw [d1 43 (by decide), us 43 (by decide) (by decide) (by decide) (by decide)]; exact a43) (by rw [d1 47 (by decide)]; exact u47) (by rw [d1 52 (by decide)]; exact u52) (by rw [d1 51 (by decide), u1 51 (by decide) (by decide)]; exact p51)
    (by rw [dd 41 (by decide) (by decide)]; exact a41) (by rw [dd 42 (by decide) (by decide)]; exact a42) (by rw [dd 33 (by decide) (by decide)]; exact a33.2) (by rw [dd 34 (by decide) (by decide)]; exact a34.2) (by rw [dd 48 (by decide) (by decide)]; exact a48) hy hv hhd
  have fs : ∀ k, k ≠ 47 → k ≠ 51 → k ≠ 52 → k ≠ 53 → k ≠ 54 → f.1 k = s.1 k := fun k a b c e g => by rw [f1 k a b c g, d1 k e]; exact us k a c b e
  obtain ⟨g, W', eg, bg, hW', gl, gd, gb⟩ := frag_eq (s := f) (B := B) (F := F) (r := r) (NB := NB) (DS := 32 + 4 * NB + 10) (W := W) (E := fun x => D (F * B + x)) (v := v) hB hrB (by omega) rfl (by rw [fs 28 (by decide) (by decide) (by decide) (by decide) (by decide)]; exact a28) f47 f46 (fun p => hy _) (fun p hp => hv _ (by omega)) f51 (by omega) f52 f48 fh
  have st0 : build_l25 (fun s68 => build_j68 s68) FU 0 u = build_l25 (fun s68 => build_j68 s68) 999999999 1 d := by
    show build_l25b _ (build_l25 _ 999999999) 0 u = _
    unfold build_l25b build_j62
    rw [us 31 (by decide) (by decide) (by decide) (by decide), a31, if_pos (by decide), if_pos (by decide), rB_in (by omega) (by omega), show ((0 : Int)).toNat = 0 from rfl, ua 32 (by decide), a32.1, if_neg (by decide), ed, cB_some]
    rfl
  have d31 : d.1 31 = 2 := by rw [d1 31 (by decide), us 31 (by decide) (by decide) (by decide) (by decide)]; exact a31
  have st1 : build_l25 (fun s68 => build_j68 s68) 999999999 1 d = build_l25 (fun s68 => build_j68 s68) 999999998 2 f := by
    show build_l25b _ (build_l25 _ 999999998) 1 d = _
    unfold build_l25b build_j62
    rw [d31, if_pos (by decide), if_pos (by decide), rB_in (by omega) (by omega), show ((1 : Int)).toNat = 1 from rfl, dd 32 (by decide) (by decide), a32.2, if_pos rfl, ef, cB_some]
    rfl
  have f31 : f.1 31 = 2 := by rw [fs 31 (by decide) (by decide) (by decide) (by decide) (by decide)]; exact a31
  have st2 : build_l25 (fun s68 => build_j68 s68) 999999998 2 f = build_j68 f := by
    show build_l25b _ (build_l25 _ 999999997) 2 f = _
    unfold build_l25b
    rw [f31, if_neg (by decide)]
  unfold build_M
  rw [if_pos a30, ep, cB_some, lB_eq, lB_eq, hu, st0, st1, st2]
  unfold build_j68
  rw [eg, cB_some, lB_eq, lB_eq, lB_eq]
  refine ⟨_, W', rfl, ⟨?_, rfl, ?_, ?_, fh.go (fun q hq => gl q (by omega)), ⟨by rw [setF_2, setF_2, setF_2, gl 26 (by omega)]; exact fi.1, by rw [setF_2, setF_2, setF_2, gl 27 (by omega)]; exact fi.2.1, by rw [setF_2, setF_2, setF_2, gl 28 (by omega)]; exact fi.2.2.1, by rw [setF_2, setF_2, setF_2, gl 29 (by omega)]; exact fi.2.2.2.1, by rw [setF_2, setF_2, setF_2, gl 30 (by omega)]; exact fi.2.2.2.2⟩, fun b' hb' => (fb b' hb').go hW' (fun q q1 q2 => gl q (by omega)) (fun q q1 q2 => gd q q1 q2) (fun _ _ => rfl), gb⟩, rfl⟩
  · show g.1 28 = (B : Int)
    rw [bg.1 28 (by decide) (by decide) (by decide), fs 28 (by decide) (by decide) (by decide) (by decide) (by decide)]; exact a28
  · show g.1 31 = 2
    rw [bg.1 31 (by decide) (by decide) (by decide)]; exact f31
  · show g.2 32 1 = 2
    rw [bg.2 32 (by decide) (by decide), f2 32 (by decide) (by decide) (by decide) (by decide), dd 32 (by decide) (by decide)]; exact a32.2
/-! h-0093x4: one file is read back -/
theorem j134_eq {s : Obj} {T NB b n DS W x : Nat} {raw : Nat → Int} (hT : T + 4 * b + 4 ≤ 1024 ∧ T < 65536) (h11 : aAnd (s.2 44 11) 255 = (NB : Int)) (hb : b < NB) (t0 : aAnd (s.2 44 2) 255 = ((T / 256 : Nat) : Int)) (t1 : aAnd (s.2 44 3) 255 = ((T % 256 : Nat) : Int)) (hy : ∀ x, x < n → BY (raw x)) (bt : BT (s.2 44) T b DS W raw n) (hc : s.1 55 = (b : Int) → s.1 56 = (n : Int) ∧ ∀ x, x < n → s.2 49 x = raw x) (hx : x < n) :
    ∃ t, readByte_j134 (b : Int) (x : Int) s = some (aAnd (raw x) 255, t) ∧ (∀ k, k ≠ 55 → k ≠ 56 → t.1 k = s.1 k) ∧ (∀ k, k ≠ 49 → t.2 k = s.2 k) ∧ t.1 55 = (b : Int) ∧ t.1 56 = (n : Int) ∧ ∀ x, x < n → t.2 49 x = raw x := by
  have n32 : n ≤ 32 := by obtain ⟨_, _, _, _, _, h, _⟩ := bt; exact h
  obtain ⟨t, e, a1, a2, a3, a4, a5⟩ := load_eq hT h11 hb t0 t1 hy bt hc
  refine ⟨t, ?_, a1, a2, a3, a4, a5⟩
  unfold readByte_j134
  rw [e, cB_some, if_neg (by omega), if_pos (by omega), if_pos (by omega), rB_nat (by omega), a5 x hx]
theorem RY.of {B N F r NB DS W : Nat} {D : Nat → Int} {s t : Obj} (h : RY B N F r NB DS W D s) (h1 : ∀ k, k ≠ 55 → k ≠ 56 → t.1 k = s.1 k) (h2 : ∀ k, k ≠ 49 → t.2 k = s.2 k) : RY B N F r NB DS W D t := by
  unfold RY at *
  rw [h1 28 (by decide) (by decide), h1 30 (by decide) (by decide), h1 31 (by decide) (by decide), h2 32 (by decide), h2 44 (by decide)]
  exact h
theorem sz_eq {B N F r NB DS W : Nat} {D : Nat → Int} {s : Obj} (h : RY B N F r NB DS W D s) (hN : N < 65536) : inodePos_M 1 s = some (24, s) ∧ u16_M (aAdd 24 2) s = some ((N : Int), s) := by
  obtain ⟨_, _, _, _, hh, hi, _⟩ := h
  refine ⟨ipos_eq hh 1 (by omega), ?_⟩
  have := u16_eq (p := 26) (by omega) s (by omega) (by omega) hi.1 hi.2.1
  rw [show N / 256 * 256 + N % 256 = N by omega] at this
  exact this
theorem fm_eq (F B N : Nat) (hF : N / B = F) (hN : N ≤ 65) (hB : 4 ≤ B) (hM : F * B ≤ N) : aMul (aDiv (N : Int) (B : Int)) (B : Int) = ((F * B : Nat) : Int) := by
  rw [div_n N B (by omega) (by omega), hF, mul_n F B (by omega)]
theorem bl_eq (o B : Nat) (ho : o ≤ 65) (hB : 4 ≤ B) : aAdd 0 (aDiv (o : Int) (B : Int)) = ((o / B : Nat) : Int) := by
  have := Nat.div_le_self o B
  rw [div_n o B (by omega) (by omega)]
  generalize o / B = q at *
  rw [aAdd_id (by omega) (by omega), Int.zero_add]
theorem fo_eq (o M : Nat) (h : M ≤ o ∧ o ≤ 65) : aAdd 0 (aSub (o : Int) (M : Int)) = ((o - M : Nat) : Int) := by
  rw [aSub_id (by omega) (by omega), aAdd_id (by omega) (by omega)]; omega
theorem fb_eq (F x B : Nat) (hF : F ≤ 16) (hx : x < B) (hB : B ≤ 32) : aAdd (F : Int) (aDiv (x : Int) (B : Int)) = (F : Int) ∧ aRem (x : Int) (B : Int) = (x : Int) := by
  rw [div_n x B (by omega) (by omega), rem_n, Nat.div_eq_of_lt hx, Nat.mod_eq_of_lt hx]
  exact ⟨by rw [aAdd_id (by omega) (by omega)]; omega, rfl⟩
theorem read_eq {B N F r NB DS W : Nat} {D : Nat → Int} {s : Obj} (h : RY B N F r NB DS W D s) (c : CAc B F r D s) (hB : 4 ≤ B ∧ B ≤ 32) (hN : 1 ≤ N ∧ N ≤ 65) (hF : N / B = F) (hM : F * B + r = N) (hNB : NB = F + (if r = 0 then 0 else 1)) (hF16 : F ≤ 16) (hrB : r < B) (hy : ∀ p, BY (D p)) (o : Nat) (ho : o < N) : ∃ t, readByte_M 1 (o : Int) s = some (aAnd (D o) 255, t) ∧ RY B N F r NB DS W D t ∧ CAc B F r D t := by
  obtain ⟨ei, es⟩ := sz_eq h (by omega)
  obtain ⟨a28, a30, a31, a32, hh, hi, bt, bf⟩ := id h
  have nb : F ≤ NB ∧ NB ≤ 17 ∧ (1 ≤ r → F < NB) := by
    rw [hNB]; split <;> omega
  unfold readByte_M
  rw [if_neg (by omega), isF_eq a31 a32, cB_some, if_neg (by decide), ei, cB_some, es, cB_some, if_neg (by omega), if_pos (by omega), a28, dBp B hB.1, fm_eq F B N hF hN.2 hB.1 (by omega), lB_eq]
  by_cases q : o < F * B
  · have e28 : u8_M (aAdd 24 4) s = some (0, s) := by
      have := u8_eq (p := 28) (by omega) s
      rw [hi.2.2.1] at this; exact this
    have bF : o / B < F := Nat.div_lt_of_lt_mul (by rw [Nat.mul_comm]; exact q)
    have pB : o % B < B := Nat.mod_lt _ (by omega)
    have eo : o / B * B + o % B = o := by rw [Nat.mul_comm]; exact Nat.div_add_mod o B
    obtain ⟨t, et, t1, t2, t55, t56, t49⟩ := j134_eq (s := s) (T := 32) (NB := NB) (b := o / B) (n := B) (x := o % B) (by omega) hh.2.2.2.2.2 (by omega) hh.2.2.1 hh.2.2.2.1 (fun x _ => hy _) (bt (o / B) bF) (fun w => by
      rcases c (o / B) w with ⟨_, x1, x2⟩ | ⟨x0, _⟩
      · exact ⟨x1, x2⟩
      · omega) pB
    rw [if_pos (by omega), e28, cB_some, a28, dBp B hB.1, bl_eq o B (by omega) hB.1, lB_eq, dBp B hB.1, rem_n, lB_eq, et]
    refine ⟨t, ?_, h.of t1 t2, fun b hb => ?_⟩
    · show some (aAnd (D (o / B * B + o % B)) 255, t) = _
      rw [eo]
    · have : b = o / B := by rw [t55] at hb; exact (Int.ofNat.inj hb).symm
      subst this
      exact Or.inl ⟨bF, t56, t49⟩
  · have e29 : u16_M (aAdd 24 5) s = some (0, s) := u16_eq (p := 29) (by omega) s (a := 0) (b := 0) (by omega) (by omega) hi.2.2.2.1 hi.2.2.2.2
    have e10 : u8_M 10 s = some ((F : Int), s) := by
      have := u8_eq (p := 10) (by omega) s
      rw [hh.2.2.2.2.1] at this; exact this
    have xr : o - F * B < r := by omega
    obtain ⟨t, et, t1, t2, t55, t56, t49⟩ := j134_eq (s := s) (T := 32) (NB := NB) (b := F) (n := r) (x := o - F * B) (by omega) hh.2.2.2.2.2 (by omega) hh.2.2.1 hh.2.2.2.1 (fun x _ => hy _) (bf (by omega)) (fun w => by
      rcases c F w with ⟨x0, _⟩ | ⟨_, x1, x2⟩
      · omega
      · exact ⟨x1, x2⟩) xr
    rw [if_neg (by omega), e29, cB_some, fo_eq o (F * B) (by omega), lB_eq, e10, cB_some, a28, dBp B hB.1, (fb_eq F (o - F * B) B hF16 (by omega) hB.2).1, lB_eq, dBp B hB.1, (fb_eq F (o - F * B) B hF16 (by omega) hB.2).2, lB_eq, et]
    refine ⟨t, ?_, h.of t1 t2, fun b hb => ?_⟩
    · show some (aAnd (D (F * B + (o - F * B))) 255, t) = _
      rw [show F * B + (o - F * B) = o by omega]
    · have : b = F := by rw [t55] at hb; exact (Int.ofNat.inj hb).symm
      subst this
      exact Or.inr ⟨rfl, t56, t49⟩
theorem out_eq {B N F r NB DS W : Nat} {D : Nat → Int} {s : Obj} (h : RY B N F r NB DS W D s) (hN : N < 65536) (o : Int) (ho : 0 ≤ o ∧ (N : Int) ≤ o) : readByte_M 1 o s = some (-3, s) := by
  obtain ⟨ei, es⟩ := sz_eq h hN
  obtain ⟨a28, a30, a31, a32, _⟩ := h
  unfold readByte_M
  rw [if_neg (by omega), isF_eq a31 a32, cB_some, if_neg (by decide), ei, cB_some, es, cB_some, if_neg (by omega), if_neg (by omega)]
theorem tl_eq {B N F r NB DS W : Nat} {D : Nat → Int} {s : Obj} (h : RY B N F r NB DS W D s) (hN : N < 65536) (hB : 4 ≤ B) : tailLength_M 1 s = some (((N % B : Nat) : Int), s) := by
  obtain ⟨ei, es⟩ := sz_eq h hN
  obtain ⟨a28, a30, a31, a32, _⟩ := h
  unfold tailLength_M
  rw [if_neg (by omega), isF_eq a31 a32, cB_some, if_neg (by decide), ei, cB_some, es, cB_some, a28, dBp B hB, rem_n]
/-- from the appended state on -/
theorem rest_eq {B size : Nat} {x0 b c : Int} {D : Nat → Int} {s : Obj} (h : AP B size D s) (hB : 4 ≤ B ∧ B ≤ 32) (eB : (B : Int) = clampF x0 4 32) (hs : size ≤ 64) (zb : Int) (hDb : ∀ p, p < size → D p = i2b (i2b zb)) (hDc : ∀ p, size ≤ p → D p = i2b (i2b (aAnd c 255))) (ok : Int) (hok : (ok = 0 ∧ size = 0) ∨ (ok ≠ 0 ∧ 1 ≤ size ∧ aAnd (i2b (i2b zb)) 255 = aAnd b 255)) (hcc : aAnd (i2b (i2b (aAnd c 255))) 255 = aAnd c 255) (y : Int) : ∃ w', law_j85 x0 b c ok (size : Int) y y ([s], false) = some (1, w') := by
  have hy : ∀ p, BY (D p) := fun p => by
    by_cases q : p < size
    · rw [hDb p q]; exact by_in _
    · rw [hDc p (by omega)]; exact by_in _
  obtain ⟨t, et, ht⟩ := byte_ap h (by omega) c (hDc size (Nat.le_refl _))
  generalize hF : (size + 1) / B = F
  generalize hr : (size + 1) % B = r
  have hM : F * B + r = size + 1 := by rw [← hF, ← hr, Nat.mul_comm]; exact Nat.div_add_mod (size + 1) B
  have hrB : r < B := by rw [← hr]; exact Nat.mod_lt _ (by omega)
  have hF16 : F ≤ 16 := by
    have h4 : F * 4 ≤ F * B := Nat.mul_le_mul_left F hB.1
    omega
  obtain ⟨u, W, eu, ru, u55⟩ := build_eq (v := i2b (i2b zb)) ht hB (by omega) hF hr hM rfl hF16 hrB hy (fun p hp => hDb p (by omega))
  have cu : CAc B F r D u := fun b hb => by rw [u55] at hb; omega
  obtain ⟨u1, e1, r1, c1⟩ := read_eq ru cu hB (by omega) hF hM rfl hF16 hrB hy 0 (by omega)
  obtain ⟨u2, e2, r2, c2⟩ := read_eq r1 c1 hB (by omega) hF hM rfl hF16 hrB hy size (by omega)
  have e3 := out_eq r2 (by omega) ((size + 1 : Nat) : Int) (by omega)
  have e4 := tl_eq r2 (by omega) hB.1
  have sa : aAdd (size : Int) 1 = ((size + 1 : Nat) : Int) := aInc size (by omega)
  rw [hDc size (Nat.le_refl _), hcc] at e2
  have e1' : readByte_M 1 0 u = some (aAnd (D 0) 255, u1) := e1
  have j224 : ∃ w', law_j224 (size : Int) (B : Int) ([u2], false) = some (1, w') := by
    unfold law_j224
    rw [vir0 e4, show dB (B : Int) = fun q : Option (Int × MB) => q from by funext q; exact if_neg (by omega), sa, rem_n, if_pos rfl]
    exact ⟨_, rfl⟩
  have j151 : ∀ y0, y0 = aAnd (D 0) 255 → ∃ w', law_j151 x0 c (size : Int) y0 ([u], false) = some (1, w') := by
    intro y0 hy0
    unfold law_j151
    rw [vir0 e1', if_pos hy0.symm, vir0 e2, if_pos rfl, sa, vir0 e3, if_pos rfl]
    unfold clampF at eB
    by_cases z1 : x0 < 4
    · rw [if_pos z1] at eB ⊢
      rw [← eB]; exact j224
    · rw [if_neg z1] at eB ⊢
      by_cases z2 : x0 > 32
      · rw [if_pos z2] at eB
        rw [if_pos (show 32 < x0 from z2), ← eB]; exact j224
      · rw [if_neg z2] at eB
        rw [if_neg (show ¬ 32 < x0 from z2), ← eB]; exact j224
  unfold law_j85
  rw [if_pos rfl, vir0 et, sa, if_pos rfl, vir0 (size_ap ht), if_pos rfl, vir0 eu, if_neg (by decide)]
  rcases hok with ⟨k0, s0⟩ | ⟨k1, s1, hb⟩
  · rw [if_pos k0]
    exact j151 _ (by rw [hDc 0 (by rw [s0]; exact Nat.le_refl _), hcc])
  · rw [if_neg k1]
    exact j151 _ (by rw [hDb 0 s1, hb])
theorem and8 (b : Int) : 0 ≤ aAnd b 255 ∧ aAnd b 255 < 256 := by
  have h : ∀ x : BitVec 32, 0 ≤ (x &&& 255#32).toInt ∧ (x &&& 255#32).toInt < 256 := by
    intro x
    have h1 : (x &&& 255#32).toNat = x.toNat % 256 := by rw [BitVec.toNat_and]; exact Nat.and_two_pow_sub_one_eq_mod x.toNat 8
    rw [BitVec.toInt_eq_toNat_cond, h1]; split <;> omega
  exact h (o32 b).toBitVec
theorem law_true (x0 x1 x2 x3 x4 : Int) (h0 : InR x0) (h1 : InR x1) (h2 : InR x2) (h3 : InR x3) (h4 : InR x4) : ∃ w', law_M x0 x1 x2 x3 x4 ([], false) = some (1, w') := by
  have cc := u8_v (and8 x4)
  have cb := u8_v (and8 x2)
  have bad : ¬ (1 ≤ x3 ∧ x3 ≤ 64) → ∃ w', law_M x0 x1 x2 x3 x4 ([], false) = some (1, w') := by
    intro q
    obtain ⟨B, s0, s1, s2, hB, eB, e0, e1, e2, ap⟩ := ini_eq x0 x1 (fun _ => i2b (i2b (aAnd x4 255)))
    have er : appendRun_M 1 x2 x3 s2 = some (-3, s2) := by
      unfold appendRun_M
      rw [if_pos ap.2.1, isF_eq ap.2.2.1 ap.2.2.2.2.1.2, cB_some, if_neg (by decide)]
      by_cases w : x3 < 1
      · rw [if_pos w]
      · rw [if_neg w, if_pos (by clear cc cb; omega)]
    obtain ⟨w', ew⟩ := rest_eq (b := x2) (c := x4) (x0 := x0) ap hB eB (by decide) 0 (fun p hp => absurd hp (Nat.not_lt_zero _)) (fun _ _ => rfl) 0 (Or.inl ⟨rfl, rfl⟩) cc (-3)
    have ew : law_j85 x0 x2 x4 0 0 (-3) (-3) ([s2], false) = some (1, w') := ew
    have j51 : law_j51 x0 x2 x3 x4 ([s2], false) = some (1, w') := by
      unfold law_j51 law_j52 law_j64
      rw [if_pos rfl, vir0 er, if_pos rfl]; exact ew
    refine ⟨w', ?_⟩
    unfold law_M
    rw [new0, e0, ini0, vir0 e1, if_neg (by decide), vir0 e2, if_pos rfl]
    by_cases w : x3 < 1
    · rw [if_pos w]; exact j51
    · rw [if_neg w, if_pos (by clear cc cb; omega)]; exact j51
  by_cases q : 1 ≤ x3 ∧ x3 ≤ 64
  · obtain ⟨c, hc, ec⟩ : ∃ c : Nat, (1 ≤ c ∧ c ≤ 64) ∧ x3 = (c : Int) := ⟨x3.toNat, by clear cc cb; omega, by clear cc cb; omega⟩
    subst ec
    obtain ⟨B, s0, s1, s2, hB, eB, e0, e1, e2, ap⟩ := ini_eq x0 x1 (fun p => if p < c then i2b (i2b (aAnd x2 255)) else i2b (i2b (aAnd x4 255)))
    obtain ⟨t, et, ht⟩ := run_ap ap x2 c hc (fun p hp => if_pos hp)
    obtain ⟨w', ew⟩ := rest_eq (b := x2) (c := x4) (x0 := x0) ht hB eB hc.2 (aAnd x2 255) (fun p hp => if_pos hp) (fun p hp => if_neg (Nat.not_lt.mpr hp)) 1 (Or.inr ⟨by decide, hc.1, cb⟩) cc (c : Int)
    refine ⟨w', ?_⟩
    unfold law_M
    rw [new0, e0, ini0, vir0 e1, if_neg (by decide), vir0 e2, if_pos rfl, if_neg (by clear cc cb; omega), if_neg (by clear cc cb; omega)]
    unfold law_j52 law_j64
    rw [if_neg (by decide), vir0 et, if_neg (by decide)]
    exact ew
  · exact bad q
def CN : String := "SquashImage"
abbrev nI : Nat := 57
abbrev nA : Nat := 15
def FF : List (Option Fe) := [some ("superSize", "I", .int, 0), some ("inodeSize", "I", .int, 0), some ("entrySize", "I", .int, 0), some ("blockEntrySize", "I", .int, 0), some ("maxBlock", "I", .int, 0), some ("maxBlocks", "I", .int, 0), some ("magicValue", "I", .int, 0), some ("tokenLiteral", "I", .int, 0), some ("tokenRun", "I", .int, 0), some ("tokenRef", "I", .int, 0), some ("minMatch", "I", .int, 0), some ("sbInodeTable", "I", .int, 0), some ("sbBlockTable", "I", .int, 0), some ("sbDirTable", "I", .int, 0), some ("sbDataStart", "I", .int, 0), some ("sbNodeCount", "I", .int, 0), some ("sbBlockSize", "I", .int, 0), some ("sbFragFirst", "I", .int, 0), some ("sbBlockCount", "I", .int, 0), some ("sbMagic", "I", .int, 0), some ("inKind", "I", .int, 0), some ("inParent", "I", .int, 0), some ("inSize", "I", .int, 0), some ("inDirOff", "I", .int, 0), some ("inFirst", "I", .int, 0), some ("inEntries", "I", .int, 0), some ("inTail", "I", .int, 0), some ("inNameLen", "I", .int, 0), some ("blockSize", "I", .int, 0), some ("maxNodes", "I", .int, 0), some ("sealed", "Z", .boolean, 0), some ("nodes", "I", .int, 0), some ("nodeKind", "[B", .byte, 16), some ("nodeParent", "[B", .byte, 16), some ("nameLen", "[B", .byte, 16), some ("names", "[C", .char, 128), some ("sizes", "[I", .int, 16), some ("nameBuf", "[C", .char, 8), some ("nameBufLen", "I", .int, 0), some ("pathBuf", "[C", .char, 32), some ("pathLen", "I", .int, 0), some ("poolData", "[B", .byte, 256), some ("poolOwner", "[B", .byte, 256), some ("totalData", "I", .int, 0), some ("img", "[B", .byte, 1024), some ("fileBuf", "[B", .byte, 256), some ("fragRaw", "[B", .byte, 256), some ("fragLen", "I", .int, 0), some ("rawBlk", "[B", .byte, 32), some ("blkBuf", "[B", .byte, 32), some ("sortBuf", "[B", .byte, 16), some ("writePos", "I", .int, 0), some ("nextBlock", "I", .int, 0), some ("dirPos", "I", .int, 0), some ("bestMatchLen", "I", .int, 0), some ("cachedBlock", "I", .int, 0), some ("cachedLen", "I", .int, 0)]
def PP : List Nat := [0, 0, 0, 0, 0, 0, 0, 0, 0, 0, 0, 0, 0, 0, 0, 0, 0, 0, 0, 0, 0, 0, 0, 0, 0, 0, 0, 0, 0, 0, 0, 0, 0, 1, 2, 3, 4, 5, 0, 6, 0, 7, 8, 0, 9, 10, 11, 0, 12, 13, 14, 0, 0, 0, 0, 0, 0]
def Words (a0 : Array Value) (Z : State) : Prop := ∀ d ∈ tables_1, d.before a0 Z = true
theorem wd0 {a0 : Array Value} {Z : State} (hw : Words a0 Z) : (Jvm.Cond.classLink "SquashImageL2" 7 "SquashImage").before a0 Z = true := hw _ (List.mem_of_getElem? (i := 0) rfl)
theorem wd1 {a0 : Array Value} {Z : State} (hw : Words a0 Z) : (Jvm.Cond.instantiable "SquashImage" 57).before a0 Z = true := hw _ (List.mem_of_getElem? (i := 1) rfl)
theorem wd2 {a0 : Array Value} {Z : State} (hw : Words a0 Z) : (Jvm.Cond.initialized "SquashImage").before a0 Z = true := hw _ (List.mem_of_getElem? (i := 2) rfl)
theorem wd3 {a0 : Array Value} {Z : State} (hw : Words a0 Z) : (Jvm.Cond.methodLink "SquashImageL2" 9 ⟨"SquashImage", "<init>", "(II)V"⟩).before a0 Z = true := hw _ (List.mem_of_getElem? (i := 3) rfl)
theorem wd4 {a0 : Array Value} {Z : State} (hw : Words a0 Z) : (Jvm.Cond.instanceMethod ⟨"SquashImage", "<init>", "(II)V"⟩).before a0 Z = true := hw _ (List.mem_of_getElem? (i := 4) rfl)
theorem wd5 {a0 : Array Value} {Z : State} (hw : Words a0 Z) : (Jvm.Cond.code ⟨"SquashImage", "<init>", "(II)V"⟩ prog_1_method_1_code 3 none).before a0 Z = true := hw _ (List.mem_of_getElem? (i := 5) rfl)
theorem wd6 {a0 : Array Value} {Z : State} (hw : Words a0 Z) : (Jvm.Cond.methodLink "SquashImage" 1 Lib.objectInit).before a0 Z = true := hw _ (List.mem_of_getElem? (i := 6) rfl)
theorem wd7 {a0 : Array Value} {Z : State} (hw : Words a0 Z) : (Jvm.Cond.instanceMethod Lib.objectInit).before a0 Z = true := hw _ (List.mem_of_getElem? (i := 7) rfl)
theorem wd8 {a0 : Array Value} {Z : State} (hw : Words a0 Z) : (Jvm.Cond.code Lib.objectInit ⟨#[0xb1]⟩ 1 none).before a0 Z = true := hw _ (List.mem_of_getElem? (i := 8) rfl)
theorem wd9 {a0 : Array Value} {Z : State} (hw : Words a0 Z) : (Jvm.Cond.fieldLink "SquashImage" 7 "SquashImage" "superSize" "I").before a0 Z = true := hw _ (List.mem_of_getElem? (i := 9) rfl)
theorem wd10 {a0 : Array Value} {Z : State} (hw : Words a0 Z) : (Jvm.Cond.laysFinal "SquashImage" "SquashImage" "superSize" "I").before a0 Z = true := hw _ (List.mem_of_getElem? (i := 10) rfl)
theorem wd11 {a0 : Array Value} {Z : State} (hw : Words a0 Z) : (Jvm.Cond.fieldLink "SquashImage" 13 "SquashImage" "inodeSize" "I").before a0 Z = true := hw _ (List.mem_of_getElem? (i := 11) rfl)
theorem wd12 {a0 : Array Value} {Z : State} (hw : Words a0 Z) : (Jvm.Cond.laysFinal "SquashImage" "SquashImage" "inodeSize" "I").before a0 Z = true := hw _ (List.mem_of_getElem? (i := 12) rfl)
theorem wd13 {a0 : Array Value} {Z : State} (hw : Words a0 Z) : (Jvm.Cond.fieldLink "SquashImage" 16 "SquashImage" "entrySize" "I").before a0 Z = true := hw _ (List.mem_of_getElem? (i := 13) rfl)
theorem wd14 {a0 : Array Value} {Z : State} (hw : Words a0 Z) : (Jvm.Cond.laysFinal "SquashImage" "SquashImage" "entrySize" "I").before a0 Z = true := hw _ (List.mem_of_getElem? (i := 14) rfl)
theorem wd15 {a0 : Array Value} {Z : State} (hw : Words a0 Z) : (Jvm.Cond.fieldLink "SquashImage" 19 "SquashImage" "blockEntrySize" "I").before a0 Z = true := hw _ (List.mem_of_getElem? (i := 15) rfl)
theorem wd16 {a0 : Array Value} {Z : State} (hw : Words a0 Z) : (Jvm.Cond.laysFinal "SquashImage" "SquashImage" "blockEntrySize" "I").before a0 Z = true := hw _ (List.mem_of_getElem? (i := 16) rfl)
theorem wd17 {a0 : Array Value} {Z : State} (hw : Words a0 Z) : (Jvm.Cond.fieldLink "SquashImage" 22 "SquashImage" "maxBlock" "I").before a0 Z = true := hw _ (List.mem_of_getElem? (i := 17) rfl)
theorem wd18 {a0 : Array Value} {Z : State} (hw : Words a0 Z) : (Jvm.Cond.laysFinal "SquashImage" "SquashImage" "maxBlock" "I").before a0 Z = true := hw _ (List.mem_of_getElem? (i := 18) rfl)
theorem wd19 {a0 : Array Value} {Z : State} (hw : Words a0 Z) : (Jvm.Cond.fieldLink "SquashImage" 25 "SquashImage" "maxBlocks" "I").before a0 Z = true := hw _ (List.mem_of_getElem? (i := 19) rfl)
theorem wd20 {a0 : Array Value} {Z : State} (hw : Words a0 Z) : (Jvm.Cond.laysFinal "SquashImage" "SquashImage" "maxBlocks" "I").before a0 Z = true := hw _ (List.mem_of_getElem? (i := 20) rfl)
theorem wd21 {a0 : Array Value} {Z : State} (hw : Words a0 Z) : (Jvm.Cond.fieldLink "SquashImage" 28 "SquashImage" "magicValue" "I").before a0 Z = true := hw _ (List.mem_of_getElem? (i := 21) rfl)
theorem wd22 {a0 : Array Value} {Z : State} (hw : Words a0 Z) : (Jvm.Cond.laysFinal "SquashImage" "SquashImage" "magicValue" "I").before a0 Z = true := hw _ (List.mem_of_getElem? (i := 22) rfl)
theorem wd23 {a0 : Array Value} {Z : State} (hw : Words a0 Z) : (Jvm.Cond.fieldLink "SquashImage" 31 "SquashImage" "tokenLiteral" "I").before a0 Z = true := hw _ (List.mem_of_getElem? (i := 23) rfl)
theorem wd24 {a0 : Array Value} {Z : State} (hw : Words a0 Z) : (Jvm.Cond.laysFinal "SquashImage" "SquashImage" "tokenLiteral" "I").before a0 Z = true := hw _ (List.mem_of_getElem? (i := 24) rfl)
theorem wd25 {a0 : Array Value} {Z : State} (hw : Words a0 Z) : (Jvm.Cond.fieldLink "SquashImage" 34 "SquashImage" "tokenRun" "I").before a0 Z = true := hw _ (List.mem_of_getElem? (i := 25) rfl)
theorem wd26 {a0 : Array Value} {Z : State} (hw : Words a0 Z) : (Jvm.Cond.laysFinal "SquashImage" "SquashImage" "tokenRun" "I").before a0 Z = true := hw _ (List.mem_of_getElem? (i := 26) rfl)
theorem wd27 {a0 : Array Value} {Z : State} (hw : Words a0 Z) : (Jvm.Cond.fieldLink "SquashImage" 37 "SquashImage" "tokenRef" "I").before a0 Z = true := hw _ (List.mem_of_getElem? (i := 27) rfl)
theorem wd28 {a0 : Array Value} {Z : State} (hw : Words a0 Z) : (Jvm.Cond.laysFinal "SquashImage" "SquashImage" "tokenRef" "I").before a0 Z = true := hw _ (List.mem_of_getElem? (i := 28) rfl)
theorem wd29 {a0 : Array Value} {Z : State} (hw : Words a0 Z) : (Jvm.Cond.fieldLink "SquashImage" 40 "SquashImage" "minMatch" "I").before a0 Z = true := hw _ (List.mem_of_getElem? (i := 29) rfl)
theorem wd30 {a0 : Array Value} {Z : State} (hw : Words a0 Z) : (Jvm.Cond.laysFinal "SquashImage" "SquashImage" "minMatch" "I").before a0 Z = true := hw _ (List.mem_of_getElem? (i := 30) rfl)
theorem wd31 {a0 : Array Value} {Z : State} (hw : Words a0 Z) : (Jvm.Cond.fieldLink "SquashImage" 43 "SquashImage" "sbInodeTable" "I").before a0 Z = true := hw _ (List.mem_of_getElem? (i := 31) rfl)
theorem wd32 {a0 : Array Value} {Z : State} (hw : Words a0 Z) : (Jvm.Cond.laysFinal "SquashImage" "SquashImage" "sbInodeTable" "I").before a0 Z = true := hw _ (List.mem_of_getElem? (i := 32) rfl)
theorem wd33 {a0 : Array Value} {Z : State} (hw : Words a0 Z) : (Jvm.Cond.fieldLink "SquashImage" 46 "SquashImage" "sbBlockTable" "I").before a0 Z = true := hw _ (List.mem_of_getElem? (i := 33) rfl)
theorem wd34 {a0 : Array Value} {Z : State} (hw : Words a0 Z) : (Jvm.Cond.laysFinal "SquashImage" "SquashImage" "sbBlockTable" "I").before a0 Z = true := hw _ (List.mem_of_getElem? (i := 34) rfl)
theorem wd35 {a0 : Array Value} {Z : State} (hw : Words a0 Z) : (Jvm.Cond.fieldLink "SquashImage" 49 "SquashImage" "sbDirTable" "I").before a0 Z = true := hw _ (List.mem_of_getElem? (i := 35) rfl)
theorem wd36 {a0 : Array Value} {Z : State} (hw : Words a0 Z) : (Jvm.Cond.laysFinal "SquashImage" "SquashImage" "sbDirTable" "I").before a0 Z = true := hw _ (List.mem_of_getElem? (i := 36) rfl)
theorem wd37 {a0 : Array Value} {Z : State} (hw : Words a0 Z) : (Jvm.Cond.fieldLink "SquashImage" 52 "SquashImage" "sbDataStart" "I").before a0 Z = true := hw _ (List.mem_of_getElem? (i := 37) rfl)
theorem wd38 {a0 : Array Value} {Z : State} (hw : Words a0 Z) : (Jvm.Cond.laysFinal "SquashImage" "SquashImage" "sbDataStart" "I").before a0 Z = true := hw _ (List.mem_of_getElem? (i := 38) rfl)
theorem wd39 {a0 : Array Value} {Z : State} (hw : Words a0 Z) : (Jvm.Cond.fieldLink "SquashImage" 55 "SquashImage" "sbNodeCount" "I").before a0 Z = true := hw _ (List.mem_of_getElem? (i := 39) rfl)
theorem wd40 {a0 : Array Value} {Z : State} (hw : Words a0 Z) : (Jvm.Cond.laysFinal "SquashImage" "SquashImage" "sbNodeCount" "I").before a0 Z = true := hw _ (List.mem_of_getElem? (i := 40) rfl)
theorem wd41 {a0 : Array Value} {Z : State} (hw : Words a0 Z) : (Jvm.Cond.fieldLink "SquashImage" 58 "SquashImage" "sbBlockSize" "I").before a0 Z = true := hw _ (List.mem_of_getElem? (i := 41) rfl)
theorem wd42 {a0 : Array Value} {Z : State} (hw : Words a0 Z) : (Jvm.Cond.laysFinal "SquashImage" "SquashImage" "sbBlockSize" "I").before a0 Z = true := hw _ (List.mem_of_getElem? (i := 42) rfl)
theorem wd43 {a0 : Array Value} {Z : State} (hw : Words a0 Z) : (Jvm.Cond.fieldLink "SquashImage" 61 "SquashImage" "sbFragFirst" "I").before a0 Z = true := hw _ (List.mem_of_getElem? (i := 43) rfl)
theorem wd44 {a0 : Array Value} {Z : State} (hw : Words a0 Z) : (Jvm.Cond.laysFinal "SquashImage" "SquashImage" "sbFragFirst" "I").before a0 Z = true := hw _ (List.mem_of_getElem? (i := 44) rfl)
theorem wd45 {a0 : Array Value} {Z : State} (hw : Words a0 Z) : (Jvm.Cond.fieldLink "SquashImage" 64 "SquashImage" "sbBlockCount" "I").before a0 Z = true := hw _ (List.mem_of_getElem? (i := 45) rfl)
theorem wd46 {a0 : Array Value} {Z : State} (hw : Words a0 Z) : (Jvm.Cond.laysFinal "SquashImage" "SquashImage" "sbBlockCount" "I").before a0 Z = true := hw _ (List.mem_of_getElem? (i := 46) rfl)
theorem wd47 {a0 : Array Value} {Z : State} (hw : Words a0 Z) : (Jvm.Cond.fieldLink "SquashImage" 67 "SquashImage" "sbMagic" "I").before a0 Z = true := hw _ (List.mem_of_getElem? (i := 47) rfl)
theorem wd48 {a0 : Array Value} {Z : State} (hw : Words a0 Z) : (Jvm.Cond.laysFinal "SquashImage" "SquashImage" "sbMagic" "I").before a0 Z = true := hw _ (List.mem_of_getElem? (i := 48) rfl)
theorem wd49 {a0 : Array Value} {Z : State} (hw : Words a0 Z) : (Jvm.Cond.fieldLink "SquashImage" 70 "SquashImage" "inKind" "I").before a0 Z = true := hw _ (List.mem_of_getElem? (i := 49) rfl)
theorem wd50 {a0 : Array Value} {Z : State} (hw : Words a0 Z) : (Jvm.Cond.laysFinal "SquashImage" "SquashImage" "inKind" "I").before a0 Z = true := hw _ (List.mem_of_getElem? (i := 50) rfl)
theorem wd51 {a0 : Array Value} {Z : State} (hw : Words a0 Z) : (Jvm.Cond.fieldLink "SquashImage" 73 "SquashImage" "inParent" "I").before a0 Z = true := hw _ (List.mem_of_getElem? (i := 51) rfl)
theorem wd52 {a0 : Array Value} {Z : State} (hw : Words a0 Z) : (Jvm.Cond.laysFinal "SquashImage" "SquashImage" "inParent" "I").before a0 Z = true := hw _ (List.mem_of_getElem? (i := 52) rfl)
theorem wd53 {a0 : Array Value} {Z : State} (hw : Words a0 Z) : (Jvm.Cond.fieldLink "SquashImage" 76 "SquashImage" "inSize" "I").before a0 Z = true := hw _ (List.mem_of_getElem? (i := 53) rfl)
theorem wd54 {a0 : Array Value} {Z : State} (hw : Words a0 Z) : (Jvm.Cond.laysFinal "SquashImage" "SquashImage" "inSize" "I").before a0 Z = true := hw _ (List.mem_of_getElem? (i := 54) rfl)
theorem wd55 {a0 : Array Value} {Z : State} (hw : Words a0 Z) : (Jvm.Cond.fieldLink "SquashImage" 79 "SquashImage" "inDirOff" "I").before a0 Z = true := hw _ (List.mem_of_getElem? (i := 55) rfl)
theorem wd56 {a0 : Array Value} {Z : State} (hw : Words a0 Z) : (Jvm.Cond.laysFinal "SquashImage" "SquashImage" "inDirOff" "I").before a0 Z = true := hw _ (List.mem_of_getElem? (i := 56) rfl)
theorem wd57 {a0 : Array Value} {Z : State} (hw : Words a0 Z) : (Jvm.Cond.fieldLink "SquashImage" 82 "SquashImage" "inFirst" "I").before a0 Z = true := hw _ (List.mem_of_getElem? (i := 57) rfl)
theorem wd58 {a0 : Array Value} {Z : State} (hw : Words a0 Z) : (Jvm.Cond.laysFinal "SquashImage" "SquashImage" "inFirst" "I").before a0 Z = true := hw _ (List.mem_of_getElem? (i := 58) rfl)
theorem wd59 {a0 : Array Value} {Z : State} (hw : Words a0 Z) : (Jvm.Cond.fieldLink "SquashImage" 85 "SquashImage" "inEntries" "I").before a0 Z = true := hw _ (List.mem_of_getElem? (i := 59) rfl)
theorem wd60 {a0 : Array Value} {Z : State} (hw : Words a0 Z) : (Jvm.Cond.laysFinal "SquashImage" "SquashImage" "inEntries" "I").before a0 Z = true := hw _ (List.mem_of_getElem? (i := 60) rfl)
theorem wd61 {a0 : Array Value} {Z : State} (hw : Words a0 Z) : (Jvm.Cond.fieldLink "SquashImage" 88 "SquashImage" "inTail" "I").before a0 Z = true := hw _ (List.mem_of_getElem? (i := 61) rfl)
theorem wd62 {a0 : Array Value} {Z : State} (hw : Words a0 Z) : (Jvm.Cond.laysFinal "SquashImage" "SquashImage" "inTail" "I").before a0 Z = true := hw _ (List.mem_of_getElem? (i := 62) rfl)
theorem wd63 {a0 : Array Value} {Z : State} (hw : Words a0 Z) : (Jvm.Cond.fieldLink "SquashImage" 91 "SquashImage" "inNameLen" "I").before a0 Z = true := hw _ (List.mem_of_getElem? (i := 63) rfl)
theorem wd64 {a0 : Array Value} {Z : State} (hw : Words a0 Z) : (Jvm.Cond.laysFinal "SquashImage" "SquashImage" "inNameLen" "I").before a0 Z = true := hw _ (List.mem_of_getElem? (i := 64) rfl)
theorem wd65 {a0 : Array Value} {Z : State} (hw : Words a0 Z) : (Jvm.Cond.arrayClass .byte).before a0 Z = true := hw _ (List.mem_of_getElem? (i := 65) rfl)
theorem wd66 {a0 : Array Value} {Z : State} (hw : Words a0 Z) : (Jvm.Cond.fieldLink "SquashImage" 94 "SquashImage" "nodeKind" "[B").before a0 Z = true := hw _ (List.mem_of_getElem? (i := 66) rfl)
theorem wd67 {a0 : Array Value} {Z : State} (hw : Words a0 Z) : (Jvm.Cond.laysFinal "SquashImage" "SquashImage" "nodeKind" "[B").before a0 Z = true := hw _ (List.mem_of_getElem? (i := 67) rfl)
theorem wd68 {a0 : Array Value} {Z : State} (hw : Words a0 Z) : (Jvm.Cond.fieldLink "SquashImage" 98 "SquashImage" "nodeParent" "[B").before a0 Z = true := hw _ (List.mem_of_getElem? (i := 68) rfl)
theorem wd69 {a0 : Array Value} {Z : State} (hw : Words a0 Z) : (Jvm.Cond.laysFinal "SquashImage" "SquashImage" "nodeParent" "[B").before a0 Z = true := hw _ (List.mem_of_getElem? (i := 69) rfl)
theorem wd70 {a0 : Array Value} {Z : State} (hw : Words a0 Z) : (Jvm.Cond.fieldLink "SquashImage" 101 "SquashImage" "nameLen" "[B").before a0 Z = true := hw _ (List.mem_of_getElem? (i := 70) rfl)
theorem wd71 {a0 : Array Value} {Z : State} (hw : Words a0 Z) : (Jvm.Cond.laysFinal "SquashImage" "SquashImage" "nameLen" "[B").before a0 Z = true := hw _ (List.mem_of_getElem? (i := 71) rfl)
theorem wd72 {a0 : Array Value} {Z : State} (hw : Words a0 Z) : (Jvm.Cond.arrayClass .char).before a0 Z = true := hw _ (List.mem_of_getElem? (i := 72) rfl)
theorem wd73 {a0 : Array Value} {Z : State} (hw : Words a0 Z) : (Jvm.Cond.fieldLink "SquashImage" 104 "SquashImage" "names" "[C").before a0 Z = true := hw _ (List.mem_of_getElem? (i := 73) rfl)
theorem wd74 {a0 : Array Value} {Z : State} (hw : Words a0 Z) : (Jvm.Cond.laysFinal "SquashImage" "SquashImage" "names" "[C").before a0 Z = true := hw _ (List.mem_of_getElem? (i := 74) rfl)
theorem wd75 {a0 : Array Value} {Z : State} (hw : Words a0 Z) : (Jvm.Cond.arrayClass .int).before a0 Z = true := hw _ (List.mem_of_getElem? (i := 75) rfl)
theorem wd76 {a0 : Array Value} {Z : State} (hw : Words a0 Z) : (Jvm.Cond.fieldLink "SquashImage" 108 "SquashImage" "sizes" "[I").before a0 Z = true := hw _ (List.mem_of_getElem? (i := 76) rfl)
theorem wd77 {a0 : Array Value} {Z : State} (hw : Words a0 Z) : (Jvm.Cond.laysFinal "SquashImage" "SquashImage" "sizes" "[I").before a0 Z = true := hw _ (List.mem_of_getElem? (i := 77) rfl)
theorem wd78 {a0 : Array Value} {Z : State} (hw : Words a0 Z) : (Jvm.Cond.fieldLink "SquashImage" 112 "SquashImage" "nameBuf" "[C").before a0 Z = true := hw _ (List.mem_of_getElem? (i := 78) rfl)
theorem wd79 {a0 : Array Value} {Z : State} (hw : Words a0 Z) : (Jvm.Cond.laysFinal "SquashImage" "SquashImage" "nameBuf" "[C").before a0 Z = true := hw _ (List.mem_of_getElem? (i := 79) rfl)
theorem wd80 {a0 : Array Value} {Z : State} (hw : Words a0 Z) : (Jvm.Cond.fieldLink "SquashImage" 115 "SquashImage" "pathBuf" "[C").before a0 Z = true := hw _ (List.mem_of_getElem? (i := 80) rfl)
theorem wd81 {a0 : Array Value} {Z : State} (hw : Words a0 Z) : (Jvm.Cond.laysFinal "SquashImage" "SquashImage" "pathBuf" "[C").before a0 Z = true := hw _ (List.mem_of_getElem? (i := 81) rfl)
theorem wd82 {a0 : Array Value} {Z : State} (hw : Words a0 Z) : (Jvm.Cond.fieldLink "SquashImage" 118 "SquashImage" "poolData" "[B").before a0 Z = true := hw _ (List.mem_of_getElem? (i := 82) rfl)
theorem wd83 {a0 : Array Value} {Z : State} (hw : Words a0 Z) : (Jvm.Cond.laysFinal "SquashImage" "SquashImage" "poolData" "[B").before a0 Z = true := hw _ (List.mem_of_getElem? (i := 83) rfl)
theorem wd84 {a0 : Array Value} {Z : State} (hw : Words a0 Z) : (Jvm.Cond.fieldLink "SquashImage" 121 "SquashImage" "poolOwner" "[B").before a0 Z = true := hw _ (List.mem_of_getElem? (i := 84) rfl)
theorem wd85 {a0 : Array Value} {Z : State} (hw : Words a0 Z) : (Jvm.Cond.laysFinal "SquashImage" "SquashImage" "poolOwner" "[B").before a0 Z = true := hw _ (List.mem_of_getElem? (i := 85) rfl)
theorem wd86 {a0 : Array Value} {Z : State} (hw : Words a0 Z) : (Jvm.Cond.fieldLink "SquashImage" 124 "SquashImage" "img" "[B").before a0 Z = true := hw _ (List.mem_of_getElem? (i := 86) rfl)
theorem wd87 {a0 : Array Value} {Z : State} (hw : Words a0 Z) : (Jvm.Cond.laysFinal "SquashImage" "SquashImage" "img" "[B").before a0 Z = true := hw _ (List.mem_of_getElem? (i := 87) rfl)
theorem wd88 {a0 : Array Value} {Z : State} (hw : Words a0 Z) : (Jvm.Cond.fieldLink "SquashImage" 127 "SquashImage" "fileBuf" "[B").before a0 Z = true := hw _ (List.mem_of_getElem? (i := 88) rfl)
theorem wd89 {a0 : Array Value} {Z : State} (hw : Words a0 Z) : (Jvm.Cond.laysFinal "SquashImage" "SquashImage" "fileBuf" "[B").before a0 Z = true := hw _ (List.mem_of_getElem? (i := 89) rfl)
theorem wd90 {a0 : Array Value} {Z : State} (hw : Words a0 Z) : (Jvm.Cond.fieldLink "SquashImage" 130 "SquashImage" "fragRaw" "[B").before a0 Z = true := hw _ (List.mem_of_getElem? (i := 90) rfl)
theorem wd91 {a0 : Array Value} {Z : State} (hw : Words a0 Z) : (Jvm.Cond.laysFinal "SquashImage" "SquashImage" "fragRaw" "[B").before a0 Z = true := hw _ (List.mem_of_getElem? (i := 91) rfl)
theorem wd92 {a0 : Array Value} {Z : State} (hw : Words a0 Z) : (Jvm.Cond.fieldLink "SquashImage" 133 "SquashImage" "rawBlk" "[B").before a0 Z = true := hw _ (List.mem_of_getElem? (i := 92) rfl)
theorem wd93 {a0 : Array Value} {Z : State} (hw : Words a0 Z) : (Jvm.Cond.laysFinal "SquashImage" "SquashImage" "rawBlk" "[B").before a0 Z = true := hw _ (List.mem_of_getElem? (i := 93) rfl)
theorem wd94 {a0 : Array Value} {Z : State} (hw : Words a0 Z) : (Jvm.Cond.fieldLink "SquashImage" 136 "SquashImage" "blkBuf" "[B").before a0 Z = true := hw _ (List.mem_of_getElem? (i := 94) rfl)
theorem wd95 {a0 : Array Value} {Z : State} (hw : Words a0 Z) : (Jvm.Cond.laysFinal "SquashImage" "SquashImage" "blkBuf" "[B").before a0 Z = true := hw _ (List.mem_of_getElem? (i := 95) rfl)
theorem wd96 {a0 : Array Value} {Z : State} (hw : Words a0 Z) : (Jvm.Cond.fieldLink "SquashImage" 139 "SquashImage" "sortBuf" "[B").before a0 Z = true := hw _ (List.mem_of_getElem? (i := 96) rfl)
theorem wd97 {a0 : Array Value} {Z : State} (hw : Words a0 Z) : (Jvm.Cond.laysFinal "SquashImage" "SquashImage" "sortBuf" "[B").before a0 Z = true := hw _ (List.mem_of_getElem? (i := 97) rfl)
theorem wd98 {a0 : Array Value} {Z : State} (hw : Words a0 Z) : (Jvm.Cond.methodLink "SquashImage" 142 ⟨"SquashImage", "clamp", "(III)I"⟩).before a0 Z = true := hw _ (List.mem_of_getElem? (i := 98) rfl)
theorem wd99 {a0 : Array Value} {Z : State} (hw : Words a0 Z) : (Jvm.Cond.instanceMethod ⟨"SquashImage", "clamp", "(III)I"⟩).before a0 Z = true := hw _ (List.mem_of_getElem? (i := 99) rfl)
theorem wd100 {a0 : Array Value} {Z : State} (hw : Words a0 Z) : (Jvm.Cond.privateMethod ⟨"SquashImage", "clamp", "(III)I"⟩).before a0 Z = true := hw _ (List.mem_of_getElem? (i := 100) rfl)
theorem wd101 {a0 : Array Value} {Z : State} (hw : Words a0 Z) : (Jvm.Cond.code ⟨"SquashImage", "clamp", "(III)I"⟩ prog_1_method_2_code 4 (some .int)).before a0 Z = true := hw _ (List.mem_of_getElem? (i := 101) rfl)
theorem wd102 {a0 : Array Value} {Z : State} (hw : Words a0 Z) : (Jvm.Cond.fieldLink "SquashImage" 146 "SquashImage" "blockSize" "I").before a0 Z = true := hw _ (List.mem_of_getElem? (i := 102) rfl)
theorem wd103 {a0 : Array Value} {Z : State} (hw : Words a0 Z) : (Jvm.Cond.lays "SquashImage" "SquashImage" "blockSize" "I").before a0 Z = true := hw _ (List.mem_of_getElem? (i := 103) rfl)
theorem wd104 {a0 : Array Value} {Z : State} (hw : Words a0 Z) : (Jvm.Cond.fieldLink "SquashImage" 149 "SquashImage" "maxNodes" "I").before a0 Z = true := hw _ (List.mem_of_getElem? (i := 104) rfl)
theorem wd105 {a0 : Array Value} {Z : State} (hw : Words a0 Z) : (Jvm.Cond.lays "SquashImage" "SquashImage" "maxNodes" "I").before a0 Z = true := hw _ (List.mem_of_getElem? (i := 105) rfl)
theorem wd106 {a0 : Array Value} {Z : State} (hw : Words a0 Z) : (Jvm.Cond.fieldLink "SquashImage" 152 "SquashImage" "sealed" "Z").before a0 Z = true := hw _ (List.mem_of_getElem? (i := 106) rfl)
theorem wd107 {a0 : Array Value} {Z : State} (hw : Words a0 Z) : (Jvm.Cond.lays "SquashImage" "SquashImage" "sealed" "Z").before a0 Z = true := hw _ (List.mem_of_getElem? (i := 107) rfl)
theorem wd108 {a0 : Array Value} {Z : State} (hw : Words a0 Z) : (Jvm.Cond.fieldLink "SquashImage" 156 "SquashImage" "nodes" "I").before a0 Z = true := hw _ (List.mem_of_getElem? (i := 108) rfl)
theorem wd109 {a0 : Array Value} {Z : State} (hw : Words a0 Z) : (Jvm.Cond.lays "SquashImage" "SquashImage" "nodes" "I").before a0 Z = true := hw _ (List.mem_of_getElem? (i := 109) rfl)
theorem wd110 {a0 : Array Value} {Z : State} (hw : Words a0 Z) : (Jvm.Cond.fieldLink "SquashImage" 159 "SquashImage" "nameBufLen" "I").before a0 Z = true := hw _ (List.mem_of_getElem? (i := 110) rfl)
theorem wd111 {a0 : Array Value} {Z : State} (hw : Words a0 Z) : (Jvm.Cond.lays "SquashImage" "SquashImage" "nameBufLen" "I").before a0 Z = true := hw _ (List.mem_of_getElem? (i := 111) rfl)
theorem wd112 {a0 : Array Value} {Z : State} (hw : Words a0 Z) : (Jvm.Cond.fieldLink "SquashImage" 162 "SquashImage" "pathLen" "I").before a0 Z = true := hw _ (List.mem_of_getElem? (i := 112) rfl)
theorem wd113 {a0 : Array Value} {Z : State} (hw : Words a0 Z) : (Jvm.Cond.lays "SquashImage" "SquashImage" "pathLen" "I").before a0 Z = true := hw _ (List.mem_of_getElem? (i := 113) rfl)
theorem wd114 {a0 : Array Value} {Z : State} (hw : Words a0 Z) : (Jvm.Cond.fieldLink "SquashImage" 165 "SquashImage" "totalData" "I").before a0 Z = true := hw _ (List.mem_of_getElem? (i := 114) rfl)
theorem wd115 {a0 : Array Value} {Z : State} (hw : Words a0 Z) : (Jvm.Cond.lays "SquashImage" "SquashImage" "totalData" "I").before a0 Z = true := hw _ (List.mem_of_getElem? (i := 115) rfl)
theorem wd116 {a0 : Array Value} {Z : State} (hw : Words a0 Z) : (Jvm.Cond.fieldLink "SquashImage" 168 "SquashImage" "fragLen" "I").before a0 Z = true := hw _ (List.mem_of_getElem? (i := 116) rfl)
theorem wd117 {a0 : Array Value} {Z : State} (hw : Words a0 Z) : (Jvm.Cond.lays "SquashImage" "SquashImage" "fragLen" "I").before a0 Z = true := hw _ (List.mem_of_getElem? (i := 117) rfl)
theorem wd118 {a0 : Array Value} {Z : State} (hw : Words a0 Z) : (Jvm.Cond.fieldLink "SquashImage" 171 "SquashImage" "cachedBlock" "I").before a0 Z = true := hw _ (List.mem_of_getElem? (i := 118) rfl)
theorem wd119 {a0 : Array Value} {Z : State} (hw : Words a0 Z) : (Jvm.Cond.lays "SquashImage" "SquashImage" "cachedBlock" "I").before a0 Z = true := hw _ (List.mem_of_getElem? (i := 119) rfl)
theorem wd120 {a0 : Array Value} {Z : State} (hw : Words a0 Z) : (Jvm.Cond.fieldLink "SquashImage" 174 "SquashImage" "cachedLen" "I").before a0 Z = true := hw _ (List.mem_of_getElem? (i := 120) rfl)
theorem wd121 {a0 : Array Value} {Z : State} (hw : Words a0 Z) : (Jvm.Cond.lays "SquashImage" "SquashImage" "cachedLen" "I").before a0 Z = true := hw _ (List.mem_of_getElem? (i := 121) rfl)
theorem wd122 {a0 : Array Value} {Z : State} (hw : Words a0 Z) : (Jvm.Cond.methodLink "SquashImageL2" 12 ⟨"SquashImage", "putNameChar", "(C)Z"⟩).before a0 Z = true := hw _ (List.mem_of_getElem? (i := 122) rfl)
theorem wd123 {a0 : Array Value} {Z : State} (hw : Words a0 Z) : (Jvm.Cond.declares ⟨"SquashImage", "putNameChar", "(C)Z"⟩).before a0 Z = true := hw _ (List.mem_of_getElem? (i := 123) rfl)
theorem wd124 {a0 : Array Value} {Z : State} (hw : Words a0 Z) : (Jvm.Cond.instanceMethod ⟨"SquashImage", "putNameChar", "(C)Z"⟩).before a0 Z = true := hw _ (List.mem_of_getElem? (i := 124) rfl)
theorem wd125 {a0 : Array Value} {Z : State} (hw : Words a0 Z) : (Jvm.Cond.selects "SquashImage" ⟨"SquashImage", "putNameChar", "(C)Z"⟩ ⟨"SquashImage", "putNameChar", "(C)Z"⟩).before a0 Z = true := hw _ (List.mem_of_getElem? (i := 125) rfl)
theorem wd126 {a0 : Array Value} {Z : State} (hw : Words a0 Z) : (Jvm.Cond.code ⟨"SquashImage", "putNameChar", "(C)Z"⟩ prog_1_method_3_code 2 (some .boolean)).before a0 Z = true := hw _ (List.mem_of_getElem? (i := 126) rfl)
theorem wd127 {a0 : Array Value} {Z : State} (hw : Words a0 Z) : (Jvm.Cond.methodLink "SquashImage" 177 ⟨"SquashImage", "isNameChar", "(I)Z"⟩).before a0 Z = true := hw _ (List.mem_of_getElem? (i := 127) rfl)
theorem wd128 {a0 : Array Value} {Z : State} (hw : Words a0 Z) : (Jvm.Cond.instanceMethod ⟨"SquashImage", "isNameChar", "(I)Z"⟩).before a0 Z = true := hw _ (List.mem_of_getElem? (i := 128) rfl)
theorem wd129 {a0 : Array Value} {Z : State} (hw : Words a0 Z) : (Jvm.Cond.privateMethod ⟨"SquashImage", "isNameChar", "(I)Z"⟩).before a0 Z = true := hw _ (List.mem_of_getElem? (i := 129) rfl)
theorem wd130 {a0 : Array Value} {Z : State} (hw : Words a0 Z) : (Jvm.Cond.code ⟨"SquashImage", "isNameChar", "(I)Z"⟩ prog_1_method_4_code 2 (some .boolean)).before a0 Z = true := hw _ (List.mem_of_getElem? (i := 130) rfl)
theorem wd131 {a0 : Array Value} {Z : State} (hw : Words a0 Z) : (Jvm.Cond.methodLink "SquashImageL2" 16 ⟨"SquashImage", "create", "(II)I"⟩).before a0 Z = true := hw _ (List.mem_of_getElem? (i := 131) rfl)
theorem wd132 {a0 : Array Value} {Z : State} (hw : Words a0 Z) : (Jvm.Cond.declares ⟨"SquashImage", "create", "(II)I"⟩).before a0 Z = true := hw _ (List.mem_of_getElem? (i := 132) rfl)
theorem wd133 {a0 : Array Value} {Z : State} (hw : Words a0 Z) : (Jvm.Cond.instanceMethod ⟨"SquashImage", "create", "(II)I"⟩).before a0 Z = true := hw _ (List.mem_of_getElem? (i := 133) rfl)
theorem wd134 {a0 : Array Value} {Z : State} (hw : Words a0 Z) : (Jvm.Cond.selects "SquashImage" ⟨"SquashImage", "create", "(II)I"⟩ ⟨"SquashImage", "create", "(II)I"⟩).before a0 Z = true := hw _ (List.mem_of_getElem? (i := 134) rfl)
theorem wd135 {a0 : Array Value} {Z : State} (hw : Words a0 Z) : (Jvm.Cond.code ⟨"SquashImage", "create", "(II)I"⟩ prog_1_method_5_code 4 (some .int)).before a0 Z = true := hw _ (List.mem_of_getElem? (i := 135) rfl)
theorem wd136 {a0 : Array Value} {Z : State} (hw : Words a0 Z) : (Jvm.Cond.methodLink "SquashImage" 181 ⟨"SquashImage", "isDir", "(I)Z"⟩).before a0 Z = true := hw _ (List.mem_of_getElem? (i := 136) rfl)
theorem wd137 {a0 : Array Value} {Z : State} (hw : Words a0 Z) : (Jvm.Cond.instanceMethod ⟨"SquashImage", "isDir", "(I)Z"⟩).before a0 Z = true := hw _ (List.mem_of_getElem? (i := 137) rfl)
theorem wd138 {a0 : Array Value} {Z : State} (hw : Words a0 Z) : (Jvm.Cond.privateMethod ⟨"SquashImage", "isDir", "(I)Z"⟩).before a0 Z = true := hw _ (List.mem_of_getElem? (i := 138) rfl)
theorem wd139 {a0 : Array Value} {Z : State} (hw : Words a0 Z) : (Jvm.Cond.code ⟨"SquashImage", "isDir", "(I)Z"⟩ prog_1_method_55_code 2 (some .boolean)).before a0 Z = true := hw _ (List.mem_of_getElem? (i := 139) rfl)
theorem wd140 {a0 : Array Value} {Z : State} (hw : Words a0 Z) : (Jvm.Cond.methodLink "SquashImage" 325 ⟨"SquashImage", "isValid", "(I)Z"⟩).before a0 Z = true := hw _ (List.mem_of_getElem? (i := 140) rfl)
theorem wd141 {a0 : Array Value} {Z : State} (hw : Words a0 Z) : (Jvm.Cond.instanceMethod ⟨"SquashImage", "isValid", "(I)Z"⟩).before a0 Z = true := hw _ (List.mem_of_getElem? (i := 141) rfl)
theorem wd142 {a0 : Array Value} {Z : State} (hw : Words a0 Z) : (Jvm.Cond.privateMethod ⟨"SquashImage", "isValid", "(I)Z"⟩).before a0 Z = true := hw _ (List.mem_of_getElem? (i := 142) rfl)
theorem wd143 {a0 : Array Value} {Z : State} (hw : Words a0 Z) : (Jvm.Cond.code ⟨"SquashImage", "isValid", "(I)Z"⟩ prog_1_method_53_code 2 (some .boolean)).before a0 Z = true := hw _ (List.mem_of_getElem? (i := 143) rfl)
theorem wd144 {a0 : Array Value} {Z : State} (hw : Words a0 Z) : (Jvm.Cond.methodLink "SquashImage" 184 ⟨"SquashImage", "findChildByNameBuf", "(II)I"⟩).before a0 Z = true := hw _ (List.mem_of_getElem? (i := 144) rfl)
theorem wd145 {a0 : Array Value} {Z : State} (hw : Words a0 Z) : (Jvm.Cond.instanceMethod ⟨"SquashImage", "findChildByNameBuf", "(II)I"⟩).before a0 Z = true := hw _ (List.mem_of_getElem? (i := 145) rfl)
theorem wd146 {a0 : Array Value} {Z : State} (hw : Words a0 Z) : (Jvm.Cond.privateMethod ⟨"SquashImage", "findChildByNameBuf", "(II)I"⟩).before a0 Z = true := hw _ (List.mem_of_getElem? (i := 146) rfl)
theorem wd147 {a0 : Array Value} {Z : State} (hw : Words a0 Z) : (Jvm.Cond.code ⟨"SquashImage", "findChildByNameBuf", "(II)I"⟩ prog_1_method_6_code 4 (some .int)).before a0 Z = true := hw _ (List.mem_of_getElem? (i := 147) rfl)
theorem wd148 {a0 : Array Value} {Z : State} (hw : Words a0 Z) : (Jvm.Cond.methodLink "SquashImage" 188 ⟨"SquashImage", "addNode", "(III)I"⟩).before a0 Z = true := hw _ (List.mem_of_getElem? (i := 148) rfl)
theorem wd149 {a0 : Array Value} {Z : State} (hw : Words a0 Z) : (Jvm.Cond.instanceMethod ⟨"SquashImage", "addNode", "(III)I"⟩).before a0 Z = true := hw _ (List.mem_of_getElem? (i := 149) rfl)
theorem wd150 {a0 : Array Value} {Z : State} (hw : Words a0 Z) : (Jvm.Cond.privateMethod ⟨"SquashImage", "addNode", "(III)I"⟩).before a0 Z = true := hw _ (List.mem_of_getElem? (i := 150) rfl)
theorem wd151 {a0 : Array Value} {Z : State} (hw : Words a0 Z) : (Jvm.Cond.code ⟨"SquashImage", "addNode", "(III)I"⟩ prog_1_method_8_code 6 (some .int)).before a0 Z = true := hw _ (List.mem_of_getElem? (i := 151) rfl)
theorem wd152 {a0 : Array Value} {Z : State} (hw : Words a0 Z) : (Jvm.Cond.methodLink "SquashImageL2" 20 ⟨"SquashImage", "appendRun", "(III)I"⟩).before a0 Z = true := hw _ (List.mem_of_getElem? (i := 152) rfl)
theorem wd153 {a0 : Array Value} {Z : State} (hw : Words a0 Z) : (Jvm.Cond.declares ⟨"SquashImage", "appendRun", "(III)I"⟩).before a0 Z = true := hw _ (List.mem_of_getElem? (i := 153) rfl)
theorem wd154 {a0 : Array Value} {Z : State} (hw : Words a0 Z) : (Jvm.Cond.instanceMethod ⟨"SquashImage", "appendRun", "(III)I"⟩).before a0 Z = true := hw _ (List.mem_of_getElem? (i := 154) rfl)
theorem wd155 {a0 : Array Value} {Z : State} (hw : Words a0 Z) : (Jvm.Cond.selects "SquashImage" ⟨"SquashImage", "appendRun", "(III)I"⟩ ⟨"SquashImage", "appendRun", "(III)I"⟩).before a0 Z = true := hw _ (List.mem_of_getElem? (i := 155) rfl)
theorem wd156 {a0 : Array Value} {Z : State} (hw : Words a0 Z) : (Jvm.Cond.code ⟨"SquashImage", "appendRun", "(III)I"⟩ prog_1_method_10_code 6 (some .int)).before a0 Z = true := hw _ (List.mem_of_getElem? (i := 156) rfl)
theorem wd157 {a0 : Array Value} {Z : State} (hw : Words a0 Z) : (Jvm.Cond.methodLink "SquashImage" 195 ⟨"SquashImage", "isFile", "(I)Z"⟩).before a0 Z = true := hw _ (List.mem_of_getElem? (i := 157) rfl)
theorem wd158 {a0 : Array Value} {Z : State} (hw : Words a0 Z) : (Jvm.Cond.instanceMethod ⟨"SquashImage", "isFile", "(I)Z"⟩).before a0 Z = true := hw _ (List.mem_of_getElem? (i := 158) rfl)
theorem wd159 {a0 : Array Value} {Z : State} (hw : Words a0 Z) : (Jvm.Cond.privateMethod ⟨"SquashImage", "isFile", "(I)Z"⟩).before a0 Z = true := hw _ (List.mem_of_getElem? (i := 159) rfl)
theorem wd160 {a0 : Array Value} {Z : State} (hw : Words a0 Z) : (Jvm.Cond.code ⟨"SquashImage", "isFile", "(I)Z"⟩ prog_1_method_54_code 2 (some .boolean)).before a0 Z = true := hw _ (List.mem_of_getElem? (i := 160) rfl)
theorem wd161 {a0 : Array Value} {Z : State} (hw : Words a0 Z) : (Jvm.Cond.methodLink "SquashImage" 198 ⟨"SquashImage", "pushByte", "(II)V"⟩).before a0 Z = true := hw _ (List.mem_of_getElem? (i := 161) rfl)
theorem wd162 {a0 : Array Value} {Z : State} (hw : Words a0 Z) : (Jvm.Cond.instanceMethod ⟨"SquashImage", "pushByte", "(II)V"⟩).before a0 Z = true := hw _ (List.mem_of_getElem? (i := 162) rfl)
theorem wd163 {a0 : Array Value} {Z : State} (hw : Words a0 Z) : (Jvm.Cond.privateMethod ⟨"SquashImage", "pushByte", "(II)V"⟩).before a0 Z = true := hw _ (List.mem_of_getElem? (i := 163) rfl)
theorem wd164 {a0 : Array Value} {Z : State} (hw : Words a0 Z) : (Jvm.Cond.code ⟨"SquashImage", "pushByte", "(II)V"⟩ prog_1_method_11_code 3 none).before a0 Z = true := hw _ (List.mem_of_getElem? (i := 164) rfl)
theorem wd165 {a0 : Array Value} {Z : State} (hw : Words a0 Z) : (Jvm.Cond.methodLink "SquashImageL2" 24 ⟨"SquashImage", "appendByte", "(II)I"⟩).before a0 Z = true := hw _ (List.mem_of_getElem? (i := 165) rfl)
theorem wd166 {a0 : Array Value} {Z : State} (hw : Words a0 Z) : (Jvm.Cond.declares ⟨"SquashImage", "appendByte", "(II)I"⟩).before a0 Z = true := hw _ (List.mem_of_getElem? (i := 166) rfl)
theorem wd167 {a0 : Array Value} {Z : State} (hw : Words a0 Z) : (Jvm.Cond.instanceMethod ⟨"SquashImage", "appendByte", "(II)I"⟩).before a0 Z = true := hw _ (List.mem_of_getElem? (i := 167) rfl)
theorem wd168 {a0 : Array Value} {Z : State} (hw : Words a0 Z) : (Jvm.Cond.selects "SquashImage" ⟨"SquashImage", "appendByte", "(II)I"⟩ ⟨"SquashImage", "appendByte", "(II)I"⟩).before a0 Z = true := hw _ (List.mem_of_getElem? (i := 168) rfl)
theorem wd169 {a0 : Array Value} {Z : State} (hw : Words a0 Z) : (Jvm.Cond.code ⟨"SquashImage", "appendByte", "(II)I"⟩ prog_1_method_9_code 3 (some .int)).before a0 Z = true := hw _ (List.mem_of_getElem? (i := 169) rfl)
theorem wd170 {a0 : Array Value} {Z : State} (hw : Words a0 Z) : (Jvm.Cond.methodLink "SquashImageL2" 27 ⟨"SquashImage", "fileSize", "(I)I"⟩).before a0 Z = true := hw _ (List.mem_of_getElem? (i := 170) rfl)
theorem wd171 {a0 : Array Value} {Z : State} (hw : Words a0 Z) : (Jvm.Cond.declares ⟨"SquashImage", "fileSize", "(I)I"⟩).before a0 Z = true := hw _ (List.mem_of_getElem? (i := 171) rfl)
theorem wd172 {a0 : Array Value} {Z : State} (hw : Words a0 Z) : (Jvm.Cond.instanceMethod ⟨"SquashImage", "fileSize", "(I)I"⟩).before a0 Z = true := hw _ (List.mem_of_getElem? (i := 172) rfl)
theorem wd173 {a0 : Array Value} {Z : State} (hw : Words a0 Z) : (Jvm.Cond.selects "SquashImage" ⟨"SquashImage", "fileSize", "(I)I"⟩ ⟨"SquashImage", "fileSize", "(I)I"⟩).before a0 Z = true := hw _ (List.mem_of_getElem? (i := 173) rfl)
theorem wd174 {a0 : Array Value} {Z : State} (hw : Words a0 Z) : (Jvm.Cond.code ⟨"SquashImage", "fileSize", "(I)I"⟩ prog_1_method_45_code 3 (some .int)).before a0 Z = true := hw _ (List.mem_of_getElem? (i := 174) rfl)
theorem wd175 {a0 : Array Value} {Z : State} (hw : Words a0 Z) : (Jvm.Cond.methodLink "SquashImageL2" 31 ⟨"SquashImage", "build", "()Z"⟩).before a0 Z = true := hw _ (List.mem_of_getElem? (i := 175) rfl)
theorem wd176 {a0 : Array Value} {Z : State} (hw : Words a0 Z) : (Jvm.Cond.declares ⟨"SquashImage", "build", "()Z"⟩).before a0 Z = true := hw _ (List.mem_of_getElem? (i := 176) rfl)
theorem wd177 {a0 : Array Value} {Z : State} (hw : Words a0 Z) : (Jvm.Cond.instanceMethod ⟨"SquashImage", "build", "()Z"⟩).before a0 Z = true := hw _ (List.mem_of_getElem? (i := 177) rfl)
theorem wd178 {a0 : Array Value} {Z : State} (hw : Words a0 Z) : (Jvm.Cond.selects "SquashImage" ⟨"SquashImage", "build", "()Z"⟩ ⟨"SquashImage", "build", "()Z"⟩).before a0 Z = true := hw _ (List.mem_of_getElem? (i := 178) rfl)
theorem wd179 {a0 : Array Value} {Z : State} (hw : Words a0 Z) : (Jvm.Cond.code ⟨"SquashImage", "build", "()Z"⟩ prog_1_method_12_code 2 (some .boolean)).before a0 Z = true := hw _ (List.mem_of_getElem? (i := 179) rfl)
theorem wd180 {a0 : Array Value} {Z : State} (hw : Words a0 Z) : (Jvm.Cond.methodLink "SquashImage" 202 ⟨"SquashImage", "planLayout", "()V"⟩).before a0 Z = true := hw _ (List.mem_of_getElem? (i := 180) rfl)
theorem wd181 {a0 : Array Value} {Z : State} (hw : Words a0 Z) : (Jvm.Cond.instanceMethod ⟨"SquashImage", "planLayout", "()V"⟩).before a0 Z = true := hw _ (List.mem_of_getElem? (i := 181) rfl)
theorem wd182 {a0 : Array Value} {Z : State} (hw : Words a0 Z) : (Jvm.Cond.privateMethod ⟨"SquashImage", "planLayout", "()V"⟩).before a0 Z = true := hw _ (List.mem_of_getElem? (i := 182) rfl)
theorem wd183 {a0 : Array Value} {Z : State} (hw : Words a0 Z) : (Jvm.Cond.code ⟨"SquashImage", "planLayout", "()V"⟩ prog_1_method_13_code 9 none).before a0 Z = true := hw _ (List.mem_of_getElem? (i := 183) rfl)
theorem wd184 {a0 : Array Value} {Z : State} (hw : Words a0 Z) : (Jvm.Cond.methodLink "SquashImage" 218 ⟨"SquashImage", "put16", "(II)V"⟩).before a0 Z = true := hw _ (List.mem_of_getElem? (i := 184) rfl)
theorem wd185 {a0 : Array Value} {Z : State} (hw : Words a0 Z) : (Jvm.Cond.instanceMethod ⟨"SquashImage", "put16", "(II)V"⟩).before a0 Z = true := hw _ (List.mem_of_getElem? (i := 185) rfl)
theorem wd186 {a0 : Array Value} {Z : State} (hw : Words a0 Z) : (Jvm.Cond.privateMethod ⟨"SquashImage", "put16", "(II)V"⟩).before a0 Z = true := hw _ (List.mem_of_getElem? (i := 186) rfl)
theorem wd187 {a0 : Array Value} {Z : State} (hw : Words a0 Z) : (Jvm.Cond.code ⟨"SquashImage", "put16", "(II)V"⟩ prog_1_method_61_code 3 none).before a0 Z = true := hw _ (List.mem_of_getElem? (i := 187) rfl)
theorem wd188 {a0 : Array Value} {Z : State} (hw : Words a0 Z) : (Jvm.Cond.methodLink "SquashImage" 221 ⟨"SquashImage", "put8", "(II)V"⟩).before a0 Z = true := hw _ (List.mem_of_getElem? (i := 188) rfl)
theorem wd189 {a0 : Array Value} {Z : State} (hw : Words a0 Z) : (Jvm.Cond.instanceMethod ⟨"SquashImage", "put8", "(II)V"⟩).before a0 Z = true := hw _ (List.mem_of_getElem? (i := 189) rfl)
theorem wd190 {a0 : Array Value} {Z : State} (hw : Words a0 Z) : (Jvm.Cond.privateMethod ⟨"SquashImage", "put8", "(II)V"⟩).before a0 Z = true := hw _ (List.mem_of_getElem? (i := 190) rfl)
theorem wd191 {a0 : Array Value} {Z : State} (hw : Words a0 Z) : (Jvm.Cond.code ⟨"SquashImage", "put8", "(II)V"⟩ prog_1_method_60_code 3 none).before a0 Z = true := hw _ (List.mem_of_getElem? (i := 191) rfl)
theorem wd192 {a0 : Array Value} {Z : State} (hw : Words a0 Z) : (Jvm.Cond.fieldLink "SquashImage" 224 "SquashImage" "writePos" "I").before a0 Z = true := hw _ (List.mem_of_getElem? (i := 192) rfl)
theorem wd193 {a0 : Array Value} {Z : State} (hw : Words a0 Z) : (Jvm.Cond.lays "SquashImage" "SquashImage" "writePos" "I").before a0 Z = true := hw _ (List.mem_of_getElem? (i := 193) rfl)
theorem wd194 {a0 : Array Value} {Z : State} (hw : Words a0 Z) : (Jvm.Cond.fieldLink "SquashImage" 227 "SquashImage" "dirPos" "I").before a0 Z = true := hw _ (List.mem_of_getElem? (i := 194) rfl)
theorem wd195 {a0 : Array Value} {Z : State} (hw : Words a0 Z) : (Jvm.Cond.lays "SquashImage" "SquashImage" "dirPos" "I").before a0 Z = true := hw _ (List.mem_of_getElem? (i := 195) rfl)
theorem wd196 {a0 : Array Value} {Z : State} (hw : Words a0 Z) : (Jvm.Cond.fieldLink "SquashImage" 205 "SquashImage" "nextBlock" "I").before a0 Z = true := hw _ (List.mem_of_getElem? (i := 196) rfl)
theorem wd197 {a0 : Array Value} {Z : State} (hw : Words a0 Z) : (Jvm.Cond.lays "SquashImage" "SquashImage" "nextBlock" "I").before a0 Z = true := hw _ (List.mem_of_getElem? (i := 197) rfl)
theorem wd198 {a0 : Array Value} {Z : State} (hw : Words a0 Z) : (Jvm.Cond.methodLink "SquashImage" 212 ⟨"SquashImage", "writeDirNode", "(I)V"⟩).before a0 Z = true := hw _ (List.mem_of_getElem? (i := 198) rfl)
theorem wd199 {a0 : Array Value} {Z : State} (hw : Words a0 Z) : (Jvm.Cond.instanceMethod ⟨"SquashImage", "writeDirNode", "(I)V"⟩).before a0 Z = true := hw _ (List.mem_of_getElem? (i := 199) rfl)
theorem wd200 {a0 : Array Value} {Z : State} (hw : Words a0 Z) : (Jvm.Cond.privateMethod ⟨"SquashImage", "writeDirNode", "(I)V"⟩).before a0 Z = true := hw _ (List.mem_of_getElem? (i := 200) rfl)
theorem wd201 {a0 : Array Value} {Z : State} (hw : Words a0 Z) : (Jvm.Cond.code ⟨"SquashImage", "writeDirNode", "(I)V"⟩ prog_1_method_21_code 5 none).before a0 Z = true := hw _ (List.mem_of_getElem? (i := 201) rfl)
theorem wd202 {a0 : Array Value} {Z : State} (hw : Words a0 Z) : (Jvm.Cond.methodLink "SquashImage" 255 ⟨"SquashImage", "collectChildren", "(I)I"⟩).before a0 Z = true := hw _ (List.mem_of_getElem? (i := 202) rfl)
theorem wd203 {a0 : Array Value} {Z : State} (hw : Words a0 Z) : (Jvm.Cond.instanceMethod ⟨"SquashImage", "collectChildren", "(I)I"⟩).before a0 Z = true := hw _ (List.mem_of_getElem? (i := 203) rfl)
theorem wd204 {a0 : Array Value} {Z : State} (hw : Words a0 Z) : (Jvm.Cond.privateMethod ⟨"SquashImage", "collectChildren", "(I)I"⟩).before a0 Z = true := hw _ (List.mem_of_getElem? (i := 204) rfl)
theorem wd205 {a0 : Array Value} {Z : State} (hw : Words a0 Z) : (Jvm.Cond.code ⟨"SquashImage", "collectChildren", "(I)I"⟩ prog_1_method_23_code 4 (some .int)).before a0 Z = true := hw _ (List.mem_of_getElem? (i := 205) rfl)
theorem wd206 {a0 : Array Value} {Z : State} (hw : Words a0 Z) : (Jvm.Cond.methodLink "SquashImage" 258 ⟨"SquashImage", "sortChildren", "(I)V"⟩).before a0 Z = true := hw _ (List.mem_of_getElem? (i := 206) rfl)
theorem wd207 {a0 : Array Value} {Z : State} (hw : Words a0 Z) : (Jvm.Cond.instanceMethod ⟨"SquashImage", "sortChildren", "(I)V"⟩).before a0 Z = true := hw _ (List.mem_of_getElem? (i := 207) rfl)
theorem wd208 {a0 : Array Value} {Z : State} (hw : Words a0 Z) : (Jvm.Cond.privateMethod ⟨"SquashImage", "sortChildren", "(I)V"⟩).before a0 Z = true := hw _ (List.mem_of_getElem? (i := 208) rfl)
theorem wd209 {a0 : Array Value} {Z : State} (hw : Words a0 Z) : (Jvm.Cond.code ⟨"SquashImage", "sortChildren", "(I)V"⟩ prog_1_method_24_code 6 none).before a0 Z = true := hw _ (List.mem_of_getElem? (i := 209) rfl)
theorem wd210 {a0 : Array Value} {Z : State} (hw : Words a0 Z) : (Jvm.Cond.methodLink "SquashImage" 243 ⟨"SquashImage", "inodePos", "(I)I"⟩).before a0 Z = true := hw _ (List.mem_of_getElem? (i := 210) rfl)
theorem wd211 {a0 : Array Value} {Z : State} (hw : Words a0 Z) : (Jvm.Cond.instanceMethod ⟨"SquashImage", "inodePos", "(I)I"⟩).before a0 Z = true := hw _ (List.mem_of_getElem? (i := 211) rfl)
theorem wd212 {a0 : Array Value} {Z : State} (hw : Words a0 Z) : (Jvm.Cond.privateMethod ⟨"SquashImage", "inodePos", "(I)I"⟩).before a0 Z = true := hw _ (List.mem_of_getElem? (i := 212) rfl)
theorem wd213 {a0 : Array Value} {Z : State} (hw : Words a0 Z) : (Jvm.Cond.code ⟨"SquashImage", "inodePos", "(I)I"⟩ prog_1_method_56_code 3 (some .int)).before a0 Z = true := hw _ (List.mem_of_getElem? (i := 213) rfl)
theorem wd214 {a0 : Array Value} {Z : State} (hw : Words a0 Z) : (Jvm.Cond.methodLink "SquashImage" 252 ⟨"SquashImage", "u16", "(I)I"⟩).before a0 Z = true := hw _ (List.mem_of_getElem? (i := 214) rfl)
theorem wd215 {a0 : Array Value} {Z : State} (hw : Words a0 Z) : (Jvm.Cond.instanceMethod ⟨"SquashImage", "u16", "(I)I"⟩).before a0 Z = true := hw _ (List.mem_of_getElem? (i := 215) rfl)
theorem wd216 {a0 : Array Value} {Z : State} (hw : Words a0 Z) : (Jvm.Cond.privateMethod ⟨"SquashImage", "u16", "(I)I"⟩).before a0 Z = true := hw _ (List.mem_of_getElem? (i := 216) rfl)
theorem wd217 {a0 : Array Value} {Z : State} (hw : Words a0 Z) : (Jvm.Cond.code ⟨"SquashImage", "u16", "(I)I"⟩ prog_1_method_59_code 4 (some .int)).before a0 Z = true := hw _ (List.mem_of_getElem? (i := 217) rfl)
theorem wd218 {a0 : Array Value} {Z : State} (hw : Words a0 Z) : (Jvm.Cond.methodLink "SquashImage" 286 ⟨"SquashImage", "u8", "(I)I"⟩).before a0 Z = true := hw _ (List.mem_of_getElem? (i := 218) rfl)
theorem wd219 {a0 : Array Value} {Z : State} (hw : Words a0 Z) : (Jvm.Cond.instanceMethod ⟨"SquashImage", "u8", "(I)I"⟩).before a0 Z = true := hw _ (List.mem_of_getElem? (i := 219) rfl)
theorem wd220 {a0 : Array Value} {Z : State} (hw : Words a0 Z) : (Jvm.Cond.privateMethod ⟨"SquashImage", "u8", "(I)I"⟩).before a0 Z = true := hw _ (List.mem_of_getElem? (i := 220) rfl)
theorem wd221 {a0 : Array Value} {Z : State} (hw : Words a0 Z) : (Jvm.Cond.code ⟨"SquashImage", "u8", "(I)I"⟩ prog_1_method_58_code 2 (some .int)).before a0 Z = true := hw _ (List.mem_of_getElem? (i := 221) rfl)
theorem wd222 {a0 : Array Value} {Z : State} (hw : Words a0 Z) : (Jvm.Cond.methodLink "SquashImage" 261 ⟨"SquashImage", "writeEntry", "(I)V"⟩).before a0 Z = true := hw _ (List.mem_of_getElem? (i := 222) rfl)
theorem wd223 {a0 : Array Value} {Z : State} (hw : Words a0 Z) : (Jvm.Cond.instanceMethod ⟨"SquashImage", "writeEntry", "(I)V"⟩).before a0 Z = true := hw _ (List.mem_of_getElem? (i := 223) rfl)
theorem wd224 {a0 : Array Value} {Z : State} (hw : Words a0 Z) : (Jvm.Cond.privateMethod ⟨"SquashImage", "writeEntry", "(I)V"⟩).before a0 Z = true := hw _ (List.mem_of_getElem? (i := 224) rfl)
theorem wd225 {a0 : Array Value} {Z : State} (hw : Words a0 Z) : (Jvm.Cond.code ⟨"SquashImage", "writeEntry", "(I)V"⟩ prog_1_method_22_code 4 none).before a0 Z = true := hw _ (List.mem_of_getElem? (i := 225) rfl)
theorem wd226 {a0 : Array Value} {Z : State} (hw : Words a0 Z) : (Jvm.Cond.methodLink "SquashImage" 208 ⟨"SquashImage", "writeFileNode", "(I)V"⟩).before a0 Z = true := hw _ (List.mem_of_getElem? (i := 226) rfl)
theorem wd227 {a0 : Array Value} {Z : State} (hw : Words a0 Z) : (Jvm.Cond.instanceMethod ⟨"SquashImage", "writeFileNode", "(I)V"⟩).before a0 Z = true := hw _ (List.mem_of_getElem? (i := 227) rfl)
theorem wd228 {a0 : Array Value} {Z : State} (hw : Words a0 Z) : (Jvm.Cond.privateMethod ⟨"SquashImage", "writeFileNode", "(I)V"⟩).before a0 Z = true := hw _ (List.mem_of_getElem? (i := 228) rfl)
theorem wd229 {a0 : Array Value} {Z : State} (hw : Words a0 Z) : (Jvm.Cond.code ⟨"SquashImage", "writeFileNode", "(I)V"⟩ prog_1_method_14_code 7 none).before a0 Z = true := hw _ (List.mem_of_getElem? (i := 229) rfl)
theorem wd230 {a0 : Array Value} {Z : State} (hw : Words a0 Z) : (Jvm.Cond.methodLink "SquashImage" 230 ⟨"SquashImage", "gatherFile", "(I)I"⟩).before a0 Z = true := hw _ (List.mem_of_getElem? (i := 230) rfl)
theorem wd231 {a0 : Array Value} {Z : State} (hw : Words a0 Z) : (Jvm.Cond.instanceMethod ⟨"SquashImage", "gatherFile", "(I)I"⟩).before a0 Z = true := hw _ (List.mem_of_getElem? (i := 231) rfl)
theorem wd232 {a0 : Array Value} {Z : State} (hw : Words a0 Z) : (Jvm.Cond.privateMethod ⟨"SquashImage", "gatherFile", "(I)I"⟩).before a0 Z = true := hw _ (List.mem_of_getElem? (i := 232) rfl)
theorem wd233 {a0 : Array Value} {Z : State} (hw : Words a0 Z) : (Jvm.Cond.code ⟨"SquashImage", "gatherFile", "(I)I"⟩ prog_1_method_15_code 4 (some .int)).before a0 Z = true := hw _ (List.mem_of_getElem? (i := 233) rfl)
theorem wd234 {a0 : Array Value} {Z : State} (hw : Words a0 Z) : (Jvm.Cond.methodLink "SquashImage" 240 ⟨"SquashImage", "appendTail", "(II)V"⟩).before a0 Z = true := hw _ (List.mem_of_getElem? (i := 234) rfl)
theorem wd235 {a0 : Array Value} {Z : State} (hw : Words a0 Z) : (Jvm.Cond.instanceMethod ⟨"SquashImage", "appendTail", "(II)V"⟩).before a0 Z = true := hw _ (List.mem_of_getElem? (i := 235) rfl)
theorem wd236 {a0 : Array Value} {Z : State} (hw : Words a0 Z) : (Jvm.Cond.privateMethod ⟨"SquashImage", "appendTail", "(II)V"⟩).before a0 Z = true := hw _ (List.mem_of_getElem? (i := 236) rfl)
theorem wd237 {a0 : Array Value} {Z : State} (hw : Words a0 Z) : (Jvm.Cond.code ⟨"SquashImage", "appendTail", "(II)V"⟩ prog_1_method_16_code 4 none).before a0 Z = true := hw _ (List.mem_of_getElem? (i := 237) rfl)
theorem wd238 {a0 : Array Value} {Z : State} (hw : Words a0 Z) : (Jvm.Cond.methodLink "SquashImage" 215 ⟨"SquashImage", "writeFragmentBlocks", "()V"⟩).before a0 Z = true := hw _ (List.mem_of_getElem? (i := 238) rfl)
theorem wd239 {a0 : Array Value} {Z : State} (hw : Words a0 Z) : (Jvm.Cond.instanceMethod ⟨"SquashImage", "writeFragmentBlocks", "()V"⟩).before a0 Z = true := hw _ (List.mem_of_getElem? (i := 239) rfl)
theorem wd240 {a0 : Array Value} {Z : State} (hw : Words a0 Z) : (Jvm.Cond.privateMethod ⟨"SquashImage", "writeFragmentBlocks", "()V"⟩).before a0 Z = true := hw _ (List.mem_of_getElem? (i := 240) rfl)
theorem wd241 {a0 : Array Value} {Z : State} (hw : Words a0 Z) : (Jvm.Cond.code ⟨"SquashImage", "writeFragmentBlocks", "()V"⟩ prog_1_method_19_code 4 none).before a0 Z = true := hw _ (List.mem_of_getElem? (i := 241) rfl)
theorem wd242 {a0 : Array Value} {Z : State} (hw : Words a0 Z) : (Jvm.Cond.methodLink "SquashImage" 246 ⟨"SquashImage", "loadRawFromFrag", "(II)V"⟩).before a0 Z = true := hw _ (List.mem_of_getElem? (i := 242) rfl)
theorem wd243 {a0 : Array Value} {Z : State} (hw : Words a0 Z) : (Jvm.Cond.instanceMethod ⟨"SquashImage", "loadRawFromFrag", "(II)V"⟩).before a0 Z = true := hw _ (List.mem_of_getElem? (i := 243) rfl)
theorem wd244 {a0 : Array Value} {Z : State} (hw : Words a0 Z) : (Jvm.Cond.privateMethod ⟨"SquashImage", "loadRawFromFrag", "(II)V"⟩).before a0 Z = true := hw _ (List.mem_of_getElem? (i := 244) rfl)
theorem wd245 {a0 : Array Value} {Z : State} (hw : Words a0 Z) : (Jvm.Cond.code ⟨"SquashImage", "loadRawFromFrag", "(II)V"⟩ prog_1_method_18_code 5 none).before a0 Z = true := hw _ (List.mem_of_getElem? (i := 245) rfl)
theorem wd246 {a0 : Array Value} {Z : State} (hw : Words a0 Z) : (Jvm.Cond.methodLink "SquashImage" 237 ⟨"SquashImage", "emitBlock", "(I)V"⟩).before a0 Z = true := hw _ (List.mem_of_getElem? (i := 246) rfl)
theorem wd247 {a0 : Array Value} {Z : State} (hw : Words a0 Z) : (Jvm.Cond.instanceMethod ⟨"SquashImage", "emitBlock", "(I)V"⟩).before a0 Z = true := hw _ (List.mem_of_getElem? (i := 247) rfl)
theorem wd248 {a0 : Array Value} {Z : State} (hw : Words a0 Z) : (Jvm.Cond.privateMethod ⟨"SquashImage", "emitBlock", "(I)V"⟩).before a0 Z = true := hw _ (List.mem_of_getElem? (i := 248) rfl)
theorem wd249 {a0 : Array Value} {Z : State} (hw : Words a0 Z) : (Jvm.Cond.code ⟨"SquashImage", "emitBlock", "(I)V"⟩ prog_1_method_20_code 5 none).before a0 Z = true := hw _ (List.mem_of_getElem? (i := 249) rfl)
theorem wd250 {a0 : Array Value} {Z : State} (hw : Words a0 Z) : (Jvm.Cond.methodLink "SquashImage" 249 ⟨"SquashImage", "compressBlock", "(I)I"⟩).before a0 Z = true := hw _ (List.mem_of_getElem? (i := 250) rfl)
theorem wd251 {a0 : Array Value} {Z : State} (hw : Words a0 Z) : (Jvm.Cond.instanceMethod ⟨"SquashImage", "compressBlock", "(I)I"⟩).before a0 Z = true := hw _ (List.mem_of_getElem? (i := 251) rfl)
theorem wd252 {a0 : Array Value} {Z : State} (hw : Words a0 Z) : (Jvm.Cond.privateMethod ⟨"SquashImage", "compressBlock", "(I)I"⟩).before a0 Z = true := hw _ (List.mem_of_getElem? (i := 252) rfl)
theorem wd253 {a0 : Array Value} {Z : State} (hw : Words a0 Z) : (Jvm.Cond.code ⟨"SquashImage", "compressBlock", "(I)I"⟩ prog_1_method_26_code 10 (some .int)).before a0 Z = true := hw _ (List.mem_of_getElem? (i := 253) rfl)
theorem wd254 {a0 : Array Value} {Z : State} (hw : Words a0 Z) : (Jvm.Cond.methodLink "SquashImage" 267 ⟨"SquashImage", "runLength", "(II)I"⟩).before a0 Z = true := hw _ (List.mem_of_getElem? (i := 254) rfl)
theorem wd255 {a0 : Array Value} {Z : State} (hw : Words a0 Z) : (Jvm.Cond.instanceMethod ⟨"SquashImage", "runLength", "(II)I"⟩).before a0 Z = true := hw _ (List.mem_of_getElem? (i := 255) rfl)
theorem wd256 {a0 : Array Value} {Z : State} (hw : Words a0 Z) : (Jvm.Cond.privateMethod ⟨"SquashImage", "runLength", "(II)I"⟩).before a0 Z = true := hw _ (List.mem_of_getElem? (i := 256) rfl)
theorem wd257 {a0 : Array Value} {Z : State} (hw : Words a0 Z) : (Jvm.Cond.code ⟨"SquashImage", "runLength", "(II)I"⟩ prog_1_method_27_code 6 (some .int)).before a0 Z = true := hw _ (List.mem_of_getElem? (i := 257) rfl)
theorem wd258 {a0 : Array Value} {Z : State} (hw : Words a0 Z) : (Jvm.Cond.methodLink "SquashImage" 270 ⟨"SquashImage", "bestDistance", "(II)I"⟩).before a0 Z = true := hw _ (List.mem_of_getElem? (i := 258) rfl)
theorem wd259 {a0 : Array Value} {Z : State} (hw : Words a0 Z) : (Jvm.Cond.instanceMethod ⟨"SquashImage", "bestDistance", "(II)I"⟩).before a0 Z = true := hw _ (List.mem_of_getElem? (i := 259) rfl)
theorem wd260 {a0 : Array Value} {Z : State} (hw : Words a0 Z) : (Jvm.Cond.privateMethod ⟨"SquashImage", "bestDistance", "(II)I"⟩).before a0 Z = true := hw _ (List.mem_of_getElem? (i := 260) rfl)
theorem wd261 {a0 : Array Value} {Z : State} (hw : Words a0 Z) : (Jvm.Cond.code ⟨"SquashImage", "bestDistance", "(II)I"⟩ prog_1_method_28_code 6 (some .int)).before a0 Z = true := hw _ (List.mem_of_getElem? (i := 261) rfl)
theorem wd262 {a0 : Array Value} {Z : State} (hw : Words a0 Z) : (Jvm.Cond.fieldLink "SquashImage" 273 "SquashImage" "bestMatchLen" "I").before a0 Z = true := hw _ (List.mem_of_getElem? (i := 262) rfl)
theorem wd263 {a0 : Array Value} {Z : State} (hw : Words a0 Z) : (Jvm.Cond.lays "SquashImage" "SquashImage" "bestMatchLen" "I").before a0 Z = true := hw _ (List.mem_of_getElem? (i := 263) rfl)
theorem wd264 {a0 : Array Value} {Z : State} (hw : Words a0 Z) : (Jvm.Cond.methodLink "SquashImage" 283 ⟨"SquashImage", "matchLength", "(III)I"⟩).before a0 Z = true := hw _ (List.mem_of_getElem? (i := 264) rfl)
theorem wd265 {a0 : Array Value} {Z : State} (hw : Words a0 Z) : (Jvm.Cond.instanceMethod ⟨"SquashImage", "matchLength", "(III)I"⟩).before a0 Z = true := hw _ (List.mem_of_getElem? (i := 265) rfl)
theorem wd266 {a0 : Array Value} {Z : State} (hw : Words a0 Z) : (Jvm.Cond.privateMethod ⟨"SquashImage", "matchLength", "(III)I"⟩).before a0 Z = true := hw _ (List.mem_of_getElem? (i := 266) rfl)
theorem wd267 {a0 : Array Value} {Z : State} (hw : Words a0 Z) : (Jvm.Cond.code ⟨"SquashImage", "matchLength", "(III)I"⟩ prog_1_method_29_code 8 (some .int)).before a0 Z = true := hw _ (List.mem_of_getElem? (i := 267) rfl)
theorem wd268 {a0 : Array Value} {Z : State} (hw : Words a0 Z) : (Jvm.Cond.methodLink "SquashImage" 276 ⟨"SquashImage", "flushLiteral", "(II)V"⟩).before a0 Z = true := hw _ (List.mem_of_getElem? (i := 268) rfl)
theorem wd269 {a0 : Array Value} {Z : State} (hw : Words a0 Z) : (Jvm.Cond.instanceMethod ⟨"SquashImage", "flushLiteral", "(II)V"⟩).before a0 Z = true := hw _ (List.mem_of_getElem? (i := 269) rfl)
theorem wd270 {a0 : Array Value} {Z : State} (hw : Words a0 Z) : (Jvm.Cond.privateMethod ⟨"SquashImage", "flushLiteral", "(II)V"⟩).before a0 Z = true := hw _ (List.mem_of_getElem? (i := 270) rfl)
theorem wd271 {a0 : Array Value} {Z : State} (hw : Words a0 Z) : (Jvm.Cond.code ⟨"SquashImage", "flushLiteral", "(II)V"⟩ prog_1_method_31_code 6 none).before a0 Z = true := hw _ (List.mem_of_getElem? (i := 271) rfl)
theorem wd272 {a0 : Array Value} {Z : State} (hw : Words a0 Z) : (Jvm.Cond.methodLink "SquashImageL2" 35 ⟨"SquashImage", "readByte", "(II)I"⟩).before a0 Z = true := hw _ (List.mem_of_getElem? (i := 272) rfl)
theorem wd273 {a0 : Array Value} {Z : State} (hw : Words a0 Z) : (Jvm.Cond.declares ⟨"SquashImage", "readByte", "(II)I"⟩).before a0 Z = true := hw _ (List.mem_of_getElem? (i := 273) rfl)
theorem wd274 {a0 : Array Value} {Z : State} (hw : Words a0 Z) : (Jvm.Cond.instanceMethod ⟨"SquashImage", "readByte", "(II)I"⟩).before a0 Z = true := hw _ (List.mem_of_getElem? (i := 274) rfl)
theorem wd275 {a0 : Array Value} {Z : State} (hw : Words a0 Z) : (Jvm.Cond.selects "SquashImage" ⟨"SquashImage", "readByte", "(II)I"⟩ ⟨"SquashImage", "readByte", "(II)I"⟩).before a0 Z = true := hw _ (List.mem_of_getElem? (i := 275) rfl)
theorem wd276 {a0 : Array Value} {Z : State} (hw : Words a0 Z) : (Jvm.Cond.code ⟨"SquashImage", "readByte", "(II)I"⟩ prog_1_method_44_code 9 (some .int)).before a0 Z = true := hw _ (List.mem_of_getElem? (i := 276) rfl)
theorem wd277 {a0 : Array Value} {Z : State} (hw : Words a0 Z) : (Jvm.Cond.methodLink "SquashImage" 322 ⟨"SquashImage", "loadBlock", "(I)I"⟩).before a0 Z = true := hw _ (List.mem_of_getElem? (i := 277) rfl)
theorem wd278 {a0 : Array Value} {Z : State} (hw : Words a0 Z) : (Jvm.Cond.instanceMethod ⟨"SquashImage", "loadBlock", "(I)I"⟩).before a0 Z = true := hw _ (List.mem_of_getElem? (i := 278) rfl)
theorem wd279 {a0 : Array Value} {Z : State} (hw : Words a0 Z) : (Jvm.Cond.privateMethod ⟨"SquashImage", "loadBlock", "(I)I"⟩).before a0 Z = true := hw _ (List.mem_of_getElem? (i := 279) rfl)
theorem wd280 {a0 : Array Value} {Z : State} (hw : Words a0 Z) : (Jvm.Cond.code ⟨"SquashImage", "loadBlock", "(I)I"⟩ prog_1_method_32_code 8 (some .int)).before a0 Z = true := hw _ (List.mem_of_getElem? (i := 280) rfl)
theorem wd281 {a0 : Array Value} {Z : State} (hw : Words a0 Z) : (Jvm.Cond.methodLink "SquashImage" 289 ⟨"SquashImage", "decodeBlock", "(III)I"⟩).before a0 Z = true := hw _ (List.mem_of_getElem? (i := 281) rfl)
theorem wd282 {a0 : Array Value} {Z : State} (hw : Words a0 Z) : (Jvm.Cond.instanceMethod ⟨"SquashImage", "decodeBlock", "(III)I"⟩).before a0 Z = true := hw _ (List.mem_of_getElem? (i := 282) rfl)
theorem wd283 {a0 : Array Value} {Z : State} (hw : Words a0 Z) : (Jvm.Cond.privateMethod ⟨"SquashImage", "decodeBlock", "(III)I"⟩).before a0 Z = true := hw _ (List.mem_of_getElem? (i := 283) rfl)
theorem wd284 {a0 : Array Value} {Z : State} (hw : Words a0 Z) : (Jvm.Cond.code ⟨"SquashImage", "decodeBlock", "(III)I"⟩ prog_1_method_33_code 13 (some .int)).before a0 Z = true := hw _ (List.mem_of_getElem? (i := 284) rfl)
theorem wd285 {a0 : Array Value} {Z : State} (hw : Words a0 Z) : (Jvm.Cond.methodLink "SquashImage" 292 ⟨"SquashImage", "copyLiteral", "(IIII)I"⟩).before a0 Z = true := hw _ (List.mem_of_getElem? (i := 285) rfl)
theorem wd286 {a0 : Array Value} {Z : State} (hw : Words a0 Z) : (Jvm.Cond.instanceMethod ⟨"SquashImage", "copyLiteral", "(IIII)I"⟩).before a0 Z = true := hw _ (List.mem_of_getElem? (i := 286) rfl)
theorem wd287 {a0 : Array Value} {Z : State} (hw : Words a0 Z) : (Jvm.Cond.privateMethod ⟨"SquashImage", "copyLiteral", "(IIII)I"⟩).before a0 Z = true := hw _ (List.mem_of_getElem? (i := 287) rfl)
theorem wd288 {a0 : Array Value} {Z : State} (hw : Words a0 Z) : (Jvm.Cond.code ⟨"SquashImage", "copyLiteral", "(IIII)I"⟩ prog_1_method_34_code 8 (some .int)).before a0 Z = true := hw _ (List.mem_of_getElem? (i := 288) rfl)
theorem wd289 {a0 : Array Value} {Z : State} (hw : Words a0 Z) : (Jvm.Cond.methodLink "SquashImageL2" 38 ⟨"SquashImage", "tailLength", "(I)I"⟩).before a0 Z = true := hw _ (List.mem_of_getElem? (i := 289) rfl)
theorem wd290 {a0 : Array Value} {Z : State} (hw : Words a0 Z) : (Jvm.Cond.declares ⟨"SquashImage", "tailLength", "(I)I"⟩).before a0 Z = true := hw _ (List.mem_of_getElem? (i := 290) rfl)
theorem wd291 {a0 : Array Value} {Z : State} (hw : Words a0 Z) : (Jvm.Cond.instanceMethod ⟨"SquashImage", "tailLength", "(I)I"⟩).before a0 Z = true := hw _ (List.mem_of_getElem? (i := 291) rfl)
theorem wd292 {a0 : Array Value} {Z : State} (hw : Words a0 Z) : (Jvm.Cond.selects "SquashImage" ⟨"SquashImage", "tailLength", "(I)I"⟩ ⟨"SquashImage", "tailLength", "(I)I"⟩).before a0 Z = true := hw _ (List.mem_of_getElem? (i := 292) rfl)
theorem wd293 {a0 : Array Value} {Z : State} (hw : Words a0 Z) : (Jvm.Cond.code ⟨"SquashImage", "tailLength", "(I)I"⟩ prog_1_method_46_code 4 (some .int)).before a0 Z = true := hw _ (List.mem_of_getElem? (i := 293) rfl)
theorem wd294 {a0 : Array Value} {Z : State} (hw : Words a0 Z) : (Jvm.Cond.methodLink "SquashImage" 234 ⟨"SquashImage", "loadRawFromFile", "(II)V"⟩).before a0 Z = true := hw _ (List.mem_of_getElem? (i := 294) rfl)
theorem wd295 {a0 : Array Value} {Z : State} (hw : Words a0 Z) : (Jvm.Cond.instanceMethod ⟨"SquashImage", "loadRawFromFile", "(II)V"⟩).before a0 Z = true := hw _ (List.mem_of_getElem? (i := 295) rfl)
theorem wd296 {a0 : Array Value} {Z : State} (hw : Words a0 Z) : (Jvm.Cond.privateMethod ⟨"SquashImage", "loadRawFromFile", "(II)V"⟩).before a0 Z = true := hw _ (List.mem_of_getElem? (i := 296) rfl)
theorem wd297 {a0 : Array Value} {Z : State} (hw : Words a0 Z) : (Jvm.Cond.code ⟨"SquashImage", "loadRawFromFile", "(II)V"⟩ prog_1_method_17_code 5 none).before a0 Z = true := hw _ (List.mem_of_getElem? (i := 297) rfl)
theorem wd298 {a0 : Array Value} {Z : State} (hw : Words a0 Z) : (Jvm.Cond.methodLink "SquashImage" 279 ⟨"SquashImage", "emitToken", "(III)V"⟩).before a0 Z = true := hw _ (List.mem_of_getElem? (i := 298) rfl)
theorem wd299 {a0 : Array Value} {Z : State} (hw : Words a0 Z) : (Jvm.Cond.instanceMethod ⟨"SquashImage", "emitToken", "(III)V"⟩).before a0 Z = true := hw _ (List.mem_of_getElem? (i := 299) rfl)
theorem wd300 {a0 : Array Value} {Z : State} (hw : Words a0 Z) : (Jvm.Cond.privateMethod ⟨"SquashImage", "emitToken", "(III)V"⟩).before a0 Z = true := hw _ (List.mem_of_getElem? (i := 300) rfl)
theorem wd301 {a0 : Array Value} {Z : State} (hw : Words a0 Z) : (Jvm.Cond.code ⟨"SquashImage", "emitToken", "(III)V"⟩ prog_1_method_30_code 4 none).before a0 Z = true := hw _ (List.mem_of_getElem? (i := 301) rfl)
theorem wd302 {a0 : Array Value} {Z : State} (hw : Words a0 Z) : (Jvm.Cond.methodLink "SquashImage" 296 ⟨"SquashImage", "fillRun", "(IIII)I"⟩).before a0 Z = true := hw _ (List.mem_of_getElem? (i := 302) rfl)
theorem wd303 {a0 : Array Value} {Z : State} (hw : Words a0 Z) : (Jvm.Cond.instanceMethod ⟨"SquashImage", "fillRun", "(IIII)I"⟩).before a0 Z = true := hw _ (List.mem_of_getElem? (i := 303) rfl)
theorem wd304 {a0 : Array Value} {Z : State} (hw : Words a0 Z) : (Jvm.Cond.privateMethod ⟨"SquashImage", "fillRun", "(IIII)I"⟩).before a0 Z = true := hw _ (List.mem_of_getElem? (i := 304) rfl)
theorem wd305 {a0 : Array Value} {Z : State} (hw : Words a0 Z) : (Jvm.Cond.code ⟨"SquashImage", "fillRun", "(IIII)I"⟩ prog_1_method_35_code 7 (some .int)).before a0 Z = true := hw _ (List.mem_of_getElem? (i := 305) rfl)
theorem pnC : plainName CN = true := by first | (simp [CN, plainName, overriddenIn]; done) | decide +kernel
theorem pnL : plainName x.cls = true := by first | (simp [x, plainName, overriddenIn]; done) | decide +kernel
set_option maxRecDepth 65536 in
theorem ca_1 {a0 : Array Value} {Z : State} (hw : Words a0 Z) : CA a0 Z CN nI FF := by
  refine ⟨fun k e hk => ?_, distF_ok (by decide +kernel), (wd1 hw)⟩
  match k, hk with
  | 0, hk => have q : e = ("superSize", "I", .int, 0) := (Option.some.inj (Option.some.inj hk)).symm; subst q; exact ⟨Or.inr (wd10 hw), rfl, by decide +kernel⟩
  | 1, hk => have q : e = ("inodeSize", "I", .int, 0) := (Option.some.inj (Option.some.inj hk)).symm; subst q; exact ⟨Or.inr (wd12 hw), rfl, by decide +kernel⟩
  | 2, hk => have q : e = ("entrySize", "I", .int, 0) := (Option.some.inj (Option.some.inj hk)).symm; subst q; exact ⟨Or.inr (wd14 hw), rfl, by decide +kernel⟩
  | 3, hk => have q : e = ("blockEntrySize", "I", .int, 0) := (Option.some.inj (Option.some.inj hk)).symm; subst q; exact ⟨Or.inr (wd16 hw), rfl, by decide +kernel⟩
  | 4, hk => have q : e = ("maxBlock", "I", .int, 0) := (Option.some.inj (Option.some.inj hk)).symm; subst q; exact ⟨Or.inr (wd18 hw), rfl, by decide +kernel⟩
  | 5, hk => have q : e = ("maxBlocks", "I", .int, 0) := (Option.some.inj (Option.some.inj hk)).symm; subst q; exact ⟨Or.inr (wd20 hw), rfl, by decide +kernel⟩
  | 6, hk => have q : e = ("magicValue", "I", .int, 0) := (Option.some.inj (Option.some.inj hk)).symm; subst q; exact ⟨Or.inr (wd22 hw), rfl, by decide +kernel⟩
  | 7, hk => have q : e = ("tokenLiteral", "I", .int, 0) := (Option.some.inj (Option.some.inj hk)).symm; subst q; exact ⟨Or.inr (wd24 hw), rfl, by decide +kernel⟩
  | 8, hk => have q : e = ("tokenRun", "I", .int, 0) := (Option.some.inj (Option.some.inj hk)).symm; subst q; exact ⟨Or.inr (wd26 hw), rfl, by decide +kernel⟩
  | 9, hk => have q : e = ("tokenRef", "I", .int, 0) := (Option.some.inj (Option.some.inj hk)).symm; subst q; exact ⟨Or.inr (wd28 hw), rfl, by decide +kernel⟩
  | 10, hk => have q : e = ("minMatch", "I", .int, 0) := (Option.some.inj (Option.some.inj hk)).symm; subst q; exact ⟨Or.inr (wd30 hw), rfl, by decide +kernel⟩
  | 11, hk => have q : e = ("sbInodeTable", "I", .int, 0) := (Option.some.inj (Option.some.inj hk)).symm; subst q; exact ⟨Or.inr (wd32 hw), rfl, by decide +kernel⟩
  | 12, hk => have q : e = ("sbBlockTable", "I", .int, 0) := (Option.some.inj (Option.some.inj hk)).symm; subst q; exact ⟨Or.inr (wd34 hw), rfl, by decide +kernel⟩
  | 13, hk => have q : e = ("sbDirTable", "I", .int, 0) := (Option.some.inj (Option.some.inj hk)).symm; subst q; exact ⟨Or.inr (wd36 hw), rfl, by decide +kernel⟩
  | 14, hk => have q : e = ("sbDataStart", "I", .int, 0) := (Option.some.inj (Option.some.inj hk)).symm; subst q; exact ⟨Or.inr (wd38 hw), rfl, by decide +kernel⟩
  | 15, hk => have q : e = ("sbNodeCount", "I", .int, 0) := (Option.some.inj (Option.some.inj hk)).symm; subst q; exact ⟨Or.inr (wd40 hw), rfl, by decide +kernel⟩
  | 16, hk => have q : e = ("sbBlockSize", "I", .int, 0) := (Option.some.inj (Option.some.inj hk)).symm; subst q; exact ⟨Or.inr (wd42 hw), rfl, by decide +kernel⟩
  | 17, hk => have q : e = ("sbFragFirst", "I", .int, 0) := (Option.some.inj (Option.some.inj hk)).symm; subst q; exact ⟨Or.inr (wd44 hw), rfl, by decide +kernel⟩
  | 18, hk => have q : e = ("sbBlockCount", "I", .int, 0) := (Option.some.inj (Option.some.inj hk)).symm; subst q; exact ⟨Or.inr (wd46 hw), rfl, by decide +kernel⟩
  | 19, hk => have q : e = ("sbMagic", "I", .int, 0) := (Option.some.inj (Option.some.inj hk)).symm; subst q; exact ⟨Or.inr (wd48 hw), rfl, by decide +kernel⟩
  | 20, hk => have q : e = ("inKind", "I", .int, 0) := (Option.some.inj (Option.some.inj hk)).symm; subst q; exact ⟨Or.inr (wd50 hw), rfl, by decide +kernel⟩
  | 21, hk => have q : e = ("inParent", "I", .int, 0) := (Option.some.inj (Option.some.inj hk)).symm; subst q; exact ⟨Or.inr (wd52 hw), rfl, by decide +kernel⟩
  | 22, hk => have q : e = ("inSize", "I", .int, 0) := (Option.some.inj (Option.some.inj hk)).symm; subst q; exact ⟨Or.inr (wd54 hw), rfl, by decide +kernel⟩
  | 23, hk => have q : e = ("inDirOff", "I", .int, 0) := (Option.some.inj (Option.some.inj hk)).symm; subst q; exact ⟨Or.inr (wd56 hw), rfl, by decide +kernel⟩
  | 24, hk => have q : e = ("inFirst", "I", .int, 0) := (Option.some.inj (Option.some.inj hk)).symm; subst q; exact ⟨Or.inr (wd58 hw), rfl, by decide +kernel⟩
  | 25, hk => have q : e = ("inEntries", "I", .int, 0) := (Option.some.inj (Option.some.inj hk)).symm; subst q; exact ⟨Or.inr (wd60 hw), rfl, by decide +kernel⟩
  | 26, hk => have q : e = ("inTail", "I", .int, 0) := (Option.some.inj (Option.some.inj hk)).symm; subst q; exact ⟨Or.inr (wd62 hw), rfl, by decide +kernel⟩
  | 27, hk => have q : e = ("inNameLen", "I", .int, 0) := (Option.some.inj (Option.some.inj hk)).symm; subst q; exact ⟨Or.inr (wd64 hw), rfl, by decide +kernel⟩
  | 28, hk => have q : e = ("blockSize", "I", .int, 0) := (Option.some.inj (Option.some.inj hk)).symm; subst q; exact ⟨Or.inl (wd103 hw), rfl, by decide +kernel⟩
  | 29, hk => have q : e = ("maxNodes", "I", .int, 0) := (Option.some.inj (Option.some.inj hk)).symm; subst q; exact ⟨Or.inl (wd105 hw), rfl, by decide +kernel⟩
  | 30, hk => have q : e = ("sealed", "Z", .boolean, 0) := (Option.some.inj (Option.some.inj hk)).symm; subst q; exact ⟨Or.inl (wd107 hw), rfl, by decide +kernel⟩
  | 31, hk => have q : e = ("nodes", "I", .int, 0) := (Option.some.inj (Option.some.inj hk)).symm; subst q; exact ⟨Or.inl (wd109 hw), rfl, by decide +kernel⟩
  | 32, hk => have q : e = ("nodeKind", "[B", .byte, 16) := (Option.some.inj (Option.some.inj hk)).symm; subst q; exact ⟨Or.inr (wd67 hw), rfl, by decide +kernel⟩
  | 33, hk => have q : e = ("nodeParent", "[B", .byte, 16) := (Option.some.inj (Option.some.inj hk)).symm; subst q; exact ⟨Or.inr (wd69 hw), rfl, by decide +kernel⟩
  | 34, hk => have q : e = ("nameLen", "[B", .byte, 16) := (Option.some.inj (Option.some.inj hk)).symm; subst q; exact ⟨Or.inr (wd71 hw), rfl, by decide +kernel⟩
  | 35, hk => have q : e = ("names", "[C", .char, 128) := (Option.some.inj (Option.some.inj hk)).symm; subst q; exact ⟨Or.inr (wd74 hw), rfl, by decide +kernel⟩
  | 36, hk => have q : e = ("sizes", "[I", .int, 16) := (Option.some.inj (Option.some.inj hk)).symm; subst q; exact ⟨Or.inr (wd77 hw), rfl, by decide +kernel⟩
  | 37, hk => have q : e = ("nameBuf", "[C", .char, 8) := (Option.some.inj (Option.some.inj hk)).symm; subst q; exact ⟨Or.inr (wd79 hw), rfl, by decide +kernel⟩
  | 38, hk => have q : e = ("nameBufLen", "I", .int, 0) := (Option.some.inj (Option.some.inj hk)).symm; subst q; exact ⟨Or.inl (wd111 hw), rfl, by decide +kernel⟩
  | 39, hk => have q : e = ("pathBuf", "[C", .char, 32) := (Option.some.inj (Option.some.inj hk)).symm; subst q; exact ⟨Or.inr (wd81 hw), rfl, by decide +kernel⟩
  | 40, hk => have q : e = ("pathLen", "I", .int, 0) := (Option.some.inj (Option.some.inj hk)).symm; subst q; exact ⟨Or.inl (wd113 hw), rfl, by decide +kernel⟩
  | 41, hk => have q : e = ("poolData", "[B", .byte, 256) := (Option.some.inj (Option.some.inj hk)).symm; subst q; exact ⟨Or.inr (wd83 hw), rfl, by decide +kernel⟩
  | 42, hk => have q : e = ("poolOwner", "[B", .byte, 256) := (Option.some.inj (Option.some.inj hk)).symm; subst q; exact ⟨Or.inr (wd85 hw), rfl, by decide +kernel⟩
  | 43, hk => have q : e = ("totalData", "I", .int, 0) := (Option.some.inj (Option.some.inj hk)).symm; subst q; exact ⟨Or.inl (wd115 hw), rfl, by decide +kernel⟩
  | 44, hk => have q : e = ("img", "[B", .byte, 1024) := (Option.some.inj (Option.some.inj hk)).symm; subst q; exact ⟨Or.inr (wd87 hw), rfl, by decide +kernel⟩
  | 45, hk => have q : e = ("fileBuf", "[B", .byte, 256) := (Option.some.inj (Option.some.inj hk)).symm; subst q; exact ⟨Or.inr (wd89 hw), rfl, by decide +kernel⟩
  | 46, hk => have q : e = ("fragRaw", "[B", .byte, 256) := (Option.some.inj (Option.some.inj hk)).symm; subst q; exact ⟨Or.inr (wd91 hw), rfl, by decide +kernel⟩
  | 47, hk => have q : e = ("fragLen", "I", .int, 0) := (Option.some.inj (Option.some.inj hk)).symm; subst q; exact ⟨Or.inl (wd117 hw), rfl, by decide +kernel⟩
  | 48, hk => have q : e = ("rawBlk", "[B", .byte, 32) := (Option.some.inj (Option.some.inj hk)).symm; subst q; exact ⟨Or.inr (wd93 hw), rfl, by decide +kernel⟩
  | 49, hk => have q : e = ("blkBuf", "[B", .byte, 32) := (Option.some.inj (Option.some.inj hk)).symm; subst q; exact ⟨Or.inr (wd95 hw), rfl, by decide +kernel⟩
  | 50, hk => have q : e = ("sortBuf", "[B", .byte, 16) := (Option.some.inj (Option.some.inj hk)).symm; subst q; exact ⟨Or.inr (wd97 hw), rfl, by decide +kernel⟩
  | 51, hk => have q : e = ("writePos", "I", .int, 0) := (Option.some.inj (Option.some.inj hk)).symm; subst q; exact ⟨Or.inl (wd193 hw), rfl, by decide +kernel⟩
  | 52, hk => have q : e = ("nextBlock", "I", .int, 0) := (Option.some.inj (Option.some.inj hk)).symm; subst q; exact ⟨Or.inl (wd197 hw), rfl, by decide +kernel⟩
  | 53, hk => have q : e = ("dirPos", "I", .int, 0) := (Option.some.inj (Option.some.inj hk)).symm; subst q; exact ⟨Or.inl (wd195 hw), rfl, by decide +kernel⟩
  | 54, hk => have q : e = ("bestMatchLen", "I", .int, 0) := (Option.some.inj (Option.some.inj hk)).symm; subst q; exact ⟨Or.inl (wd263 hw), rfl, by decide +kernel⟩
  | 55, hk => have q : e = ("cachedBlock", "I", .int, 0) := (Option.some.inj (Option.some.inj hk)).symm; subst q; exact ⟨Or.inl (wd119 hw), rfl, by decide +kernel⟩
  | 56, hk => have q : e = ("cachedLen", "I", .int, 0) := (Option.some.inj (Option.some.inj hk)).symm; subst q; exact ⟨Or.inl (wd121 hw), rfl, by decide +kernel⟩
  | j + 57, hk => exact nomatch hk
theorem kb_1 {a0 : Array Value} {Z : State} (hw : Words a0 Z) : KB a0 Z CN nI FF (posF PP) nA := ⟨ca_1 hw, posF_lt (by decide +kernel) (by decide), seqF_inj (by decide +kernel)⟩
def clamp_I : Mi := (⟨"SquashImage", "clamp", "(III)I"⟩, prog_1_method_2_code, 4, (some .int), 0, 0)
theorem clamp_d0 : decode clamp_I.2.1 0 = .ok (.iload_n 1, 1) := by decide +kernel
theorem clamp_d1 : decode clamp_I.2.1 1 = .ok (.iload_n 2, 1) := by decide +kernel
theorem clamp_d2 : decode clamp_I.2.1 2 = .ok (.if_icmp .ge 5, 3) := by decide +kernel
theorem clamp_d5 : decode clamp_I.2.1 5 = .ok (.iload_n 2, 1) := by decide +kernel
theorem clamp_d6 : decode clamp_I.2.1 6 = .ok (.ireturn, 1) := by decide +kernel
theorem clamp_d7 : decode clamp_I.2.1 7 = .ok (.iload_n 1, 1) := by decide +kernel
theorem clamp_d8 : decode clamp_I.2.1 8 = .ok (.iload_n 3, 1) := by decide +kernel
theorem clamp_d9 : decode clamp_I.2.1 9 = .ok (.if_icmp .le 5, 3) := by decide +kernel
theorem clamp_d12 : decode clamp_I.2.1 12 = .ok (.iload_n 3, 1) := by decide +kernel
theorem clamp_d13 : decode clamp_I.2.1 13 = .ok (.ireturn, 1) := by decide +kernel
theorem clamp_d14 : decode clamp_I.2.1 14 = .ok (.iload_n 1, 1) := by decide +kernel
theorem clamp_d15 : decode clamp_I.2.1 15 = .ok (.ireturn, 1) := by decide +kernel
theorem clamp_p : parseMethodDescriptor clamp_I.1.desc = some ⟨[.int, .int, .int], (some .int)⟩ := by decide +kernel
theorem clamp_K {a0 : Array Value} {Z : State} {M : Mi} (hw : Words a0 Z) (h : clamp_I.2.2.2.2.1 + 1 ≤ M.2.2.2.2.1) : Callee a0 Z M clamp_I 3 := ⟨pnC, (wd101 hw), (wd2 hw), h, by decide, fun sig q => by cases clamp_p.symm.trans q; rfl⟩
set_option maxRecDepth 65536 in
set_option maxHeartbeats 4000000 in
theorem clamp_M_ok {l : Launch} {Z : State} {a0 : Array Value} {n0 : Nat} {cv : Nat → Nat} {h0 : Heap} (hw : Words a0 Z) (K : KA a0 Z n0 CN nI FF cv) (x1 : Int) (x2 : Int) (x3 : Int) (s : Obj) : GQ (XA l Z n0 CN FF cv h0) clamp_I 0 0 0 (entry [Rf 0, I x1, I x2, I x3] clamp_I.2.2.1) [] s (clamp_M x1 x2 x3 s) := by
  show GQ _ _ _ _ 0 [some (Rf 0), some (I x1), some (I x2), some (I x3)] [] _ _
  unfold clamp_M
  refine GQ.iloadN (pc' := 1) clamp_d0 rfl rfl ?_
  refine GQ.iloadN (pc' := 2) clamp_d1 rfl rfl ?_
  refine GQ.icmpF (pcT := 7) (pcF := 5) h_ge clamp_d2 rfl rfl rfl ?_ ?_
  · refine GQ.iloadN (pc' := 8) clamp_d7 rfl rfl ?_
    refine GQ.iloadN (pc' := 9) clamp_d8 rfl rfl ?_
    refine GQ.icmpF (pcT := 14) (pcF := 12) h_le clamp_d9 rfl rfl rfl ?_ ?_
    · refine GQ.iloadN (pc' := 15) clamp_d14 rfl rfl ?_
      exact GQ.iret rfl clamp_d15
    refine GQ.iloadN (pc' := 13) clamp_d12 rfl rfl ?_
    exact GQ.iret rfl clamp_d13
  refine GQ.iloadN (pc' := 6) clamp_d5 rfl rfl ?_
  exact GQ.iret rfl clamp_d6
def ctor_I : Mi := (⟨"SquashImage", "<init>", "(II)V"⟩, prog_1_method_1_code, 3, none, 1, 16)
theorem ctor_d0 : decode ctor_I.2.1 0 = .ok (.aload_n 0, 1) := by decide +kernel
theorem ctor_d1 : decode ctor_I.2.1 1 = .ok (.invokespecial 1, 3) := by decide +kernel
theorem ctor_d4 : decode ctor_I.2.1 4 = .ok (.aload_n 0, 1) := by decide +kernel
theorem ctor_d5 : decode ctor_I.2.1 5 = .ok (.bipush 16, 2) := by decide +kernel
theorem ctor_d7 : decode ctor_I.2.1 7 = .ok (.putfield 7, 3) := by decide +kernel
theorem ctor_d10 : decode ctor_I.2.1 10 = .ok (.aload_n 0, 1) := by decide +kernel
theorem ctor_d11 : decode ctor_I.2.1 11 = .ok (.bipush 8, 2) := by decide +kernel
theorem ctor_d13 : decode ctor_I.2.1 13 = .ok (.putfield 13, 3) := by decide +kernel
theorem ctor_d16 : decode ctor_I.2.1 16 = .ok (.aload_n 0, 1) := by decide +kernel
theorem ctor_d17 : decode ctor_I.2.1 17 = .ok (.bipush 10, 2) := by decide +kernel
theorem ctor_d19 : decode ctor_I.2.1 19 = .ok (.putfield 16, 3) := by decide +kernel
theorem ctor_d22 : decode ctor_I.2.1 22 = .ok (.aload_n 0, 1) := by decide +kernel
theorem ctor_d23 : decode ctor_I.2.1 23 = .ok (.iconst 4, 1) := by decide +kernel
theorem ctor_d24 : decode ctor_I.2.1 24 = .ok (.putfield 19, 3) := by decide +kernel
theorem ctor_d27 : decode ctor_I.2.1 27 = .ok (.aload_n 0, 1) := by decide +kernel
theorem ctor_d28 : decode ctor_I.2.1 28 = .ok (.bipush 32, 2) := by decide +kernel
theorem ctor_d30 : decode ctor_I.2.1 30 = .ok (.putfield 22, 3) := by decide +kernel
theorem ctor_d33 : decode ctor_I.2.1 33 = .ok (.aload_n 0, 1) := by decide +kernel
theorem ctor_d34 : decode ctor_I.2.1 34 = .ok (.bipush 64, 2) := by decide +kernel
theorem ctor_d36 : decode ctor_I.2.1 36 = .ok (.putfield 25, 3) := by decide +kernel
theorem ctor_d39 : decode ctor_I.2.1 39 = .ok (.aload_n 0, 1) := by decide +kernel
theorem ctor_d40 : decode ctor_I.2.1 40 = .ok (.bipush 83, 2) := by decide +kernel
theorem ctor_d42 : decode ctor_I.2.1 42 = .ok (.putfield 28, 3) := by decide +kernel
theorem ctor_d45 : decode ctor_I.2.1 45 = .ok (.aload_n 0, 1) := by decide +kernel
theorem ctor_d46 : decode ctor_I.2.1 46 = .ok (.iconst 0, 1) := by decide +kernel
theorem ctor_d47 : decode ctor_I.2.1 47 = .ok (.putfield 31, 3) := by decide +kernel
theorem ctor_d50 : decode ctor_I.2.1 50 = .ok (.aload_n 0, 1) := by decide +kernel
theorem ctor_d51 : decode ctor_I.2.1 51 = .ok (.iconst 1, 1) := by decide +kernel
theorem ctor_d52 : decode ctor_I.2.1 52 = .ok (.putfield 34, 3) := by decide +kernel
theorem ctor_d55 : decode ctor_I.2.1 55 = .ok (.aload_n 0, 1) := by decide +kernel
theorem ctor_d56 : decode ctor_I.2.1 56 = .ok (.iconst 2, 1) := by decide +kernel
theorem ctor_d57 : decode ctor_I.2.1 57 = .ok (.putfield 37, 3) := by decide +kernel
theorem ctor_d60 : decode ctor_I.2.1 60 = .ok (.aload_n 0, 1) := by decide +kernel
theorem ctor_d61 : decode ctor_I.2.1 61 = .ok (.iconst 3, 1) := by decide +kernel
theorem ctor_d62 : decode ctor_I.2.1 62 = .ok (.putfield 40, 3) := by decide +kernel
theorem ctor_d65 : decode ctor_I.2.1 65 = .ok (.aload_n 0, 1) := by decide +kernel
theorem ctor_d66 : decode ctor_I.2.1 66 = .ok (.iconst 0, 1) := by decide +kernel
theorem ctor_d67 : decode ctor_I.2.1 67 = .ok (.putfield 43, 3) := by decide +kernel
theorem ctor_d70 : decode ctor_I.2.1 70 = .ok (.aload_n 0, 1) := by decide +kernel
theorem ctor_d71 : decode ctor_I.2.1 71 = .ok (.iconst 2, 1) := by decide +kernel
theorem ctor_d72 : decode ctor_I.2.1 72 = .ok (.putfield 46, 3) := by decide +kernel
theorem ctor_d75 : decode ctor_I.2.1 75 = .ok (.aload_n 0, 1) := by decide +kernel
theorem ctor_d76 : decode ctor_I.2.1 76 = .ok (.iconst 4, 1) := by decide +kernel
theorem ctor_d77 : decode ctor_I.2.1 77 = .ok (.putfield 49, 3) := by decide +kernel
theorem ctor_d80 : decode ctor_I.2.1 80 = .ok (.aload_n 0, 1) := by decide +kernel
theorem ctor_d81 : decode ctor_I.2.1 81 = .ok (.bipush 6, 2) := by decide +kernel
theorem ctor_d83 : decode ctor_I.2.1 83 = .ok (.putfield 52, 3) := by decide +kernel
theorem ctor_d86 : decode ctor_I.2.1 86 = .ok (.aload_n 0, 1) := by decide +kernel
theorem ctor_d87 : decode ctor_I.2.1 87 = .ok (.bipush 8, 2) := by decide +kernel
theorem ctor_d89 : decode ctor_I.2.1 89 = .ok (.putfield 55, 3) := by decide +kernel
theorem ctor_d92 : decode ctor_I.2.1 92 = .ok (.aload_n 0, 1) := by decide +kernel
theorem ctor_d93 : decode ctor_I.2.1 93 = .ok (.bipush 9, 2) := by decide +kernel
theorem ctor_d95 : decode ctor_I.2.1 95 = .ok (.putfield 58, 3) := by decide +kernel
theorem ctor_d98 : decode ctor_I.2.1 98 = .ok (.aload_n 0, 1) := by decide +kernel
theorem ctor_d99 : decode ctor_I.2.1 99 = .ok (.bipush 10, 2) := by decide +kernel
theorem ctor_d101 : decode ctor_I.2.1 101 = .ok (.putfield 61, 3) := by decide +kernel
theorem ctor_d104 : decode ctor_I.2.1 104 = .ok (.aload_n 0, 1) := by decide +kernel
theorem ctor_d105 : decode ctor_I.2.1 105 = .ok (.bipush 11, 2) := by decide +kernel
theorem ctor_d107 : decode ctor_I.2.1 107 = .ok (.putfield 64, 3) := by decide +kernel
theorem ctor_d110 : decode ctor_I.2.1 110 = .ok (.aload_n 0, 1) := by decide +kernel
theorem ctor_d111 : decode ctor_I.2.1 111 = .ok (.bipush 12, 2) := by decide +kernel
theorem ctor_d113 : decode ctor_I.2.1 113 = .ok (.putfield 67, 3) := by decide +kernel
theorem ctor_d116 : decode ctor_I.2.1 116 = .ok (.aload_n 0, 1) := by decide +kernel
theorem ctor_d117 : decode ctor_I.2.1 117 = .ok (.iconst 0, 1) := by decide +kernel
theorem ctor_d118 : decode ctor_I.2.1 118 = .ok (.putfield 70, 3) := by decide +kernel
theorem ctor_d121 : decode ctor_I.2.1 121 = .ok (.aload_n 0, 1) := by decide +kernel
theorem ctor_d122 : decode ctor_I.2.1 122 = .ok (.iconst 1, 1) := by decide +kernel
theorem ctor_d123 : decode ctor_I.2.1 123 = .ok (.putfield 73, 3) := by decide +kernel
theorem ctor_d126 : decode ctor_I.2.1 126 = .ok (.aload_n 0, 1) := by decide +kernel
theorem ctor_d127 : decode ctor_I.2.1 127 = .ok (.iconst 2, 1) := by decide +kernel
theorem ctor_d128 : decode ctor_I.2.1 128 = .ok (.putfield 76, 3) := by decide +kernel
theorem ctor_d131 : decode ctor_I.2.1 131 = .ok (.aload_n 0, 1) := by decide +kernel
theorem ctor_d132 : decode ctor_I.2.1 132 = .ok (.iconst 2, 1) := by decide +kernel
theorem ctor_d133 : decode ctor_I.2.1 133 = .ok (.putfield 79, 3) := by decide +kernel
theorem ctor_d136 : decode ctor_I.2.1 136 = .ok (.aload_n 0, 1) := by decide +kernel
theorem ctor_d137 : decode ctor_I.2.1 137 = .ok (.iconst 4, 1) := by decide +kernel
theorem ctor_d138 : decode ctor_I.2.1 138 = .ok (.putfield 82, 3) := by decide +kernel
theorem ctor_d141 : decode ctor_I.2.1 141 = .ok (.aload_n 0, 1) := by decide +kernel
theorem ctor_d142 : decode ctor_I.2.1 142 = .ok (.iconst 4, 1) := by decide +kernel
theorem ctor_d143 : decode ctor_I.2.1 143 = .ok (.putfield 85, 3) := by decide +kernel
theorem ctor_d146 : decode ctor_I.2.1 146 = .ok (.aload_n 0, 1) := by decide +kernel
theorem ctor_d147 : decode ctor_I.2.1 147 = .ok (.iconst 5, 1) := by decide +kernel
theorem ctor_d148 : decode ctor_I.2.1 148 = .ok (.putfield 88, 3) := by decide +kernel
theorem ctor_d151 : decode ctor_I.2.1 151 = .ok (.aload_n 0, 1) := by decide +kernel
theorem ctor_d152 : decode ctor_I.2.1 152 = .ok (.bipush 7, 2) := by decide +kernel
theorem ctor_d154 : decode ctor_I.2.1 154 = .ok (.putfield 91, 3) := by decide +kernel
theorem ctor_d157 : decode ctor_I.2.1 157 = .ok (.aload_n 0, 1) := by decide +kernel
theorem ctor_d158 : decode ctor_I.2.1 158 = .ok (.bipush 16, 2) := by decide +kernel
theorem ctor_d160 : decode ctor_I.2.1 160 = .ok (.newarray .byte, 2) := by decide +kernel
theorem ctor_d162 : decode ctor_I.2.1 162 = .ok (.putfield 94, 3) := by decide +kernel
theorem ctor_d165 : decode ctor_I.2.1 165 = .ok (.aload_n 0, 1) := by decide +kernel
theorem ctor_d166 : decode ctor_I.2.1 166 = .ok (.bipush 16, 2) := by decide +kernel
theorem ctor_d168 : decode ctor_I.2.1 168 = .ok (.newarray .byte, 2) := by decide +kernel
theorem ctor_d170 : decode ctor_I.2.1 170 = .ok (.putfield 98, 3) := by decide +kernel
theorem ctor_d173 : decode ctor_I.2.1 173 = .ok (.aload_n 0, 1) := by decide +kernel
theorem ctor_d174 : decode ctor_I.2.1 174 = .ok (.bipush 16, 2) := by decide +kernel
theorem ctor_d176 : decode ctor_I.2.1 176 = .ok (.newarray .byte, 2) := by decide +kernel
theorem ctor_d178 : decode ctor_I.2.1 178 = .ok (.putfield 101, 3) := by decide +kernel
theorem ctor_d181 : decode ctor_I.2.1 181 = .ok (.aload_n 0, 1) := by decide +kernel
theorem ctor_d182 : decode ctor_I.2.1 182 = .ok (.sipush 128, 3) := by decide +kernel
theorem ctor_d185 : decode ctor_I.2.1 185 = .ok (.newarray .char, 2) := by decide +kernel
theorem ctor_d187 : decode ctor_I.2.1 187 = .ok (.putfield 104, 3) := by decide +kernel
theorem ctor_d190 : decode ctor_I.2.1 190 = .ok (.aload_n 0, 1) := by decide +kernel
theorem ctor_d191 : decode ctor_I.2.1 191 = .ok (.bipush 16, 2) := by decide +kernel
theorem ctor_d193 : decode ctor_I.2.1 193 = .ok (.newarray .int, 2) := by decide +kernel
theorem ctor_d195 : decode ctor_I.2.1 195 = .ok (.putfield 108, 3) := by decide +kernel
theorem ctor_d198 : decode ctor_I.2.1 198 = .ok (.aload_n 0, 1) := by decide +kernel
theorem ctor_d199 : decode ctor_I.2.1 199 = .ok (.bipush 8, 2) := by decide +kernel
theorem ctor_d201 : decode ctor_I.2.1 201 = .ok (.newarray .char, 2) := by decide +kernel
theorem ctor_d203 : decode ctor_I.2.1 203 = .ok (.putfield 112, 3) := by decide +kernel
theorem ctor_d206 : decode ctor_I.2.1 206 = .ok (.aload_n 0, 1) := by decide +kernel
theorem ctor_d207 : decode ctor_I.2.1 207 = .ok (.bipush 32, 2) := by decide +kernel
theorem ctor_d209 : decode ctor_I.2.1 209 = .ok (.newarray .char, 2) := by decide +kernel
theorem ctor_d211 : decode ctor_I.2.1 211 = .ok (.putfield 115, 3) := by decide +kernel
theorem ctor_d214 : decode ctor_I.2.1 214 = .ok (.aload_n 0, 1) := by decide +kernel
theorem ctor_d215 : decode ctor_I.2.1 215 = .ok (.sipush 256, 3) := by decide +kernel
theorem ctor_d218 : decode ctor_I.2.1 218 = .ok (.newarray .byte, 2) := by decide +kernel
theorem ctor_d220 : decode ctor_I.2.1 220 = .ok (.putfield 118, 3) := by decide +kernel
theorem ctor_d223 : decode ctor_I.2.1 223 = .ok (.aload_n 0, 1) := by decide +kernel
theorem ctor_d224 : decode ctor_I.2.1 224 = .ok (.sipush 256, 3) := by decide +kernel
theorem ctor_d227 : decode ctor_I.2.1 227 = .ok (.newarray .byte, 2) := by decide +kernel
theorem ctor_d229 : decode ctor_I.2.1 229 = .ok (.putfield 121, 3) := by decide +kernel
theorem ctor_d232 : decode ctor_I.2.1 232 = .ok (.aload_n 0, 1) := by decide +kernel
theorem ctor_d233 : decode ctor_I.2.1 233 = .ok (.sipush 1024, 3) := by decide +kernel
theorem ctor_d236 : decode ctor_I.2.1 236 = .ok (.newarray .byte, 2) := by decide +kernel
theorem ctor_d238 : decode ctor_I.2.1 238 = .ok (.putfield 124, 3) := by decide +kernel
theorem ctor_d241 : decode ctor_I.2.1 241 = .ok (.aload_n 0, 1) := by decide +kernel
theorem ctor_d242 : decode ctor_I.2.1 242 = .ok (.sipush 256, 3) := by decide +kernel
theorem ctor_d245 : decode ctor_I.2.1 245 = .ok (.newarray .byte, 2) := by decide +kernel
theorem ctor_d247 : decode ctor_I.2.1 247 = .ok (.putfield 127, 3) := by decide +kernel
theorem ctor_d250 : decode ctor_I.2.1 250 = .ok (.aload_n 0, 1) := by decide +kernel
theorem ctor_d251 : decode ctor_I.2.1 251 = .ok (.sipush 256, 3) := by decide +kernel
theorem ctor_d254 : decode ctor_I.2.1 254 = .ok (.newarray .byte, 2) := by decide +kernel
theorem ctor_d256 : decode ctor_I.2.1 256 = .ok (.putfield 130, 3) := by decide +kernel
theorem ctor_d259 : decode ctor_I.2.1 259 = .ok (.aload_n 0, 1) := by decide +kernel
theorem ctor_d260 : decode ctor_I.2.1 260 = .ok (.bipush 32, 2) := by decide +kernel
theorem ctor_d262 : decode ctor_I.2.1 262 = .ok (.newarray .byte, 2) := by decide +kernel
theorem ctor_d264 : decode ctor_I.2.1 264 = .ok (.putfield 133, 3) := by decide +kernel
theorem ctor_d267 : decode ctor_I.2.1 267 = .ok (.aload_n 0, 1) := by decide +kernel
theorem ctor_d268 : decode ctor_I.2.1 268 = .ok (.bipush 32, 2) := by decide +kernel
theorem ctor_d270 : decode ctor_I.2.1 270 = .ok (.newarray .byte, 2) := by decide +kernel
theorem ctor_d272 : decode ctor_I.2.1 272 = .ok (.putfield 136, 3) := by decide +kernel
theorem ctor_d275 : decode ctor_I.2.1 275 = .ok (.aload_n 0, 1) := by decide +kernel
theorem ctor_d276 : decode ctor_I.2.1 276 = .ok (.bipush 16, 2) := by decide +kernel
theorem ctor_d278 : decode ctor_I.2.1 278 = .ok (.newarray .byte, 2) := by decide +kernel
theorem ctor_d280 : decode ctor_I.2.1 280 = .ok (.putfield 139, 3) := by decide +kernel
theorem ctor_d283 : decode ctor_I.2.1 283 = .ok (.aload_n 0, 1) := by decide +kernel
theorem ctor_d284 : decode ctor_I.2.1 284 = .ok (.aload_n 0, 1) := by decide +kernel
theorem ctor_d285 : decode ctor_I.2.1 285 = .ok (.iload_n 1, 1) := by decide +kernel
theorem ctor_d286 : decode ctor_I.2.1 286 = .ok (.iconst 4, 1) := by decide +kernel
theorem ctor_d287 : decode ctor_I.2.1 287 = .ok (.bipush 32, 2) := by decide +kernel
theorem ctor_d289 : decode ctor_I.2.1 289 = .ok (.invokevirtual 142, 3) := by decide +kernel
theorem ctor_d292 : decode ctor_I.2.1 292 = .ok (.putfield 146, 3) := by decide +kernel
theorem ctor_d295 : decode ctor_I.2.1 295 = .ok (.aload_n 0, 1) := by decide +kernel
theorem ctor_d296 : decode ctor_I.2.1 296 = .ok (.aload_n 0, 1) := by decide +kernel
theorem ctor_d297 : decode ctor_I.2.1 297 = .ok (.iload_n 2, 1) := by decide +kernel
theorem ctor_d298 : decode ctor_I.2.1 298 = .ok (.iconst 2, 1) := by decide +kernel
theorem ctor_d299 : decode ctor_I.2.1 299 = .ok (.bipush 16, 2) := by decide +kernel
theorem ctor_d301 : decode ctor_I.2.1 301 = .ok (.invokevirtual 142, 3) := by decide +kernel
theorem ctor_d304 : decode ctor_I.2.1 304 = .ok (.putfield 149, 3) := by decide +kernel
theorem ctor_d307 : decode ctor_I.2.1 307 = .ok (.aload_n 0, 1) := by decide +kernel
theorem ctor_d308 : decode ctor_I.2.1 308 = .ok (.iconst 0, 1) := by decide +kernel
theorem ctor_d309 : decode ctor_I.2.1 309 = .ok (.putfield 152, 3) := by decide +kernel
theorem ctor_d312 : decode ctor_I.2.1 312 = .ok (.aload_n 0, 1) := by decide +kernel
theorem ctor_d313 : decode ctor_I.2.1 313 = .ok (.iconst 1, 1) := by decide +kernel
theorem ctor_d314 : decode ctor_I.2.1 314 = .ok (.putfield 156, 3) := by decide +kernel
theorem ctor_d317 : decode ctor_I.2.1 317 = .ok (.aload_n 0, 1) := by decide +kernel
theorem ctor_d318 : decode ctor_I.2.1 318 = .ok (.getfield 94, 3) := by decide +kernel
theorem ctor_d321 : decode ctor_I.2.1 321 = .ok (.iconst 0, 1) := by decide +kernel
theorem ctor_d322 : decode ctor_I.2.1 322 = .ok (.iconst 1, 1) := by decide +kernel
theorem ctor_d323 : decode ctor_I.2.1 323 = .ok (.bastore, 1) := by decide +kernel
theorem ctor_d324 : decode ctor_I.2.1 324 = .ok (.aload_n 0, 1) := by decide +kernel
theorem ctor_d325 : decode ctor_I.2.1 325 = .ok (.getfield 98, 3) := by decide +kernel
theorem ctor_d328 : decode ctor_I.2.1 328 = .ok (.iconst 0, 1) := by decide +kernel
theorem ctor_d329 : decode ctor_I.2.1 329 = .ok (.iconst 0, 1) := by decide +kernel
theorem ctor_d330 : decode ctor_I.2.1 330 = .ok (.bastore, 1) := by decide +kernel
theorem ctor_d331 : decode ctor_I.2.1 331 = .ok (.aload_n 0, 1) := by decide +kernel
theorem ctor_d332 : decode ctor_I.2.1 332 = .ok (.getfield 101, 3) := by decide +kernel
theorem ctor_d335 : decode ctor_I.2.1 335 = .ok (.iconst 0, 1) := by decide +kernel
theorem ctor_d336 : decode ctor_I.2.1 336 = .ok (.iconst 0, 1) := by decide +kernel
theorem ctor_d337 : decode ctor_I.2.1 337 = .ok (.bastore, 1) := by decide +kernel
theorem ctor_d338 : decode ctor_I.2.1 338 = .ok (.aload_n 0, 1) := by decide +kernel
theorem ctor_d339 : decode ctor_I.2.1 339 = .ok (.getfield 108, 3) := by decide +kernel
theorem ctor_d342 : decode ctor_I.2.1 342 = .ok (.iconst 0, 1) := by decide +kernel
theorem ctor_d343 : decode ctor_I.2.1 343 = .ok (.iconst 0, 1) := by decide +kernel
theorem ctor_d344 : decode ctor_I.2.1 344 = .ok (.iastore, 1) := by decide +kernel
theorem ctor_d345 : decode ctor_I.2.1 345 = .ok (.aload_n 0, 1) := by decide +kernel
theorem ctor_d346 : decode ctor_I.2.1 346 = .ok (.iconst 0, 1) := by decide +kernel
theorem ctor_d347 : decode ctor_I.2.1 347 = .ok (.putfield 159, 3) := by decide +kernel
theorem ctor_d350 : decode ctor_I.2.1 350 = .ok (.aload_n 0, 1) := by decide +kernel
theorem ctor_d351 : decode ctor_I.2.1 351 = .ok (.iconst 0, 1) := by decide +kernel
theorem ctor_d352 : decode ctor_I.2.1 352 = .ok (.putfield 162, 3) := by decide +kernel
theorem ctor_d355 : decode ctor_I.2.1 355 = .ok (.aload_n 0, 1) := by decide +kernel
theorem ctor_d356 : decode ctor_I.2.1 356 = .ok (.iconst 0, 1) := by decide +kernel
theorem ctor_d357 : decode ctor_I.2.1 357 = .ok (.putfield 165, 3) := by decide +kernel
theorem ctor_d360 : decode ctor_I.2.1 360 = .ok (.aload_n 0, 1) := by decide +kernel
theorem ctor_d361 : decode ctor_I.2.1 361 = .ok (.iconst 0, 1) := by decide +kernel
theorem ctor_d362 : decode ctor_I.2.1 362 = .ok (.putfield 168, 3) := by decide +kernel
theorem ctor_d365 : decode ctor_I.2.1 365 = .ok (.aload_n 0, 1) := by decide +kernel
theorem ctor_d366 : decode ctor_I.2.1 366 = .ok (.iconst (-1), 1) := by decide +kernel
theorem ctor_d367 : decode ctor_I.2.1 367 = .ok (.putfield 171, 3) := by decide +kernel
theorem ctor_d370 : decode ctor_I.2.1 370 = .ok (.aload_n 0, 1) := by decide +kernel
theorem ctor_d371 : decode ctor_I.2.1 371 = .ok (.iconst 0, 1) := by decide +kernel
theorem ctor_d372 : decode ctor_I.2.1 372 = .ok (.putfield 174, 3) := by decide +kernel
theorem ctor_d375 : decode ctor_I.2.1 375 = .ok (.return_, 1) := by decide +kernel
theorem ctor_p : parseMethodDescriptor ctor_I.1.desc = some ⟨[.int, .int], none⟩ := by decide +kernel
theorem ctor_K {a0 : Array Value} {Z : State} {M : Mi} (hw : Words a0 Z) (h : ctor_I.2.2.2.2.1 + 1 ≤ M.2.2.2.2.1) : Callee a0 Z M ctor_I 2 := ⟨pnC, (wd5 hw), (wd2 hw), h, by decide, fun sig q => by cases ctor_p.symm.trans q; rfl⟩
set_option maxRecDepth 65536 in
set_option maxHeartbeats 4000000 in
theorem ctor_B_ok {l : Launch} {Z : State} {a0 : Array Value} {n0 : Nat} {cv : Nat → Nat} {h0 : Heap} (hw : Words a0 Z) (K : KA a0 Z n0 CN nI FF cv) (x1 : Int) (x2 : Int) (s : Obj) : GQ (XA l Z n0 CN FF cv h0) ctor_I 0 0 283 [some (Rf 0), some (I x1), some (I x2)] [] s (ctor_B x1 x2 s) := by
  unfold ctor_B
  refine GQ.aloadN (pc' := 284) ctor_d283 rfl rfl ?_
  refine GQ.aloadN (pc' := 285) ctor_d284 rfl rfl ?_
  refine GQ.iloadN (pc' := 286) ctor_d285 rfl rfl ?_
  refine GQ.iconst (pc' := 287) ctor_d286 rfl rfl ?_
  refine GQ.bipush (pc' := 289) ctor_d287 rfl rfl ?_
  refine GQ.callP (Mc := clamp_I) (args0 := [I x1, I 4, I 32]) (S := [Rf 0]) (r := 0) (pc' := 292) (clamp_K hw (by decide)) rfl ctor_d289 rfl (wd98 hw) (wd99 hw) (wd100 hw) (wd1 hw) XA.recv rfl (clamp_M_ok hw K x1 4 32 s) rfl (fun z289 s289 => ?_)
  show GQ (XA l Z n0 CN FF cv h0) ctor_I _ _ 292 [some (Rf 0), some (I x1), some (I x2)] [I z289, Rf 0] s289 _
  refine GQ.putI (M := ctor_I) (k := 28) (pc' := 295) K rfl (wd102 hw) (wd103 hw) ctor_d292 rfl ?_
  refine GQ.letM (fun s292 => ?_)
  refine GQ.aloadN (pc' := 296) ctor_d295 rfl rfl ?_
  refine GQ.aloadN (pc' := 297) ctor_d296 rfl rfl ?_
  refine GQ.iloadN (pc' := 298) ctor_d297 rfl rfl ?_
  refine GQ.iconst (pc' := 299) ctor_d298 rfl rfl ?_
  refine GQ.bipush (pc' := 301) ctor_d299 rfl rfl ?_
  refine GQ.callP (Mc := clamp_I) (args0 := [I x2, I 2, I 16]) (S := [Rf 0]) (r := 0) (pc' := 304) (clamp_K hw (by decide)) rfl ctor_d301 rfl (wd98 hw) (wd99 hw) (wd100 hw) (wd1 hw) XA.recv rfl (clamp_M_ok hw K x2 2 16 s292) rfl (fun z301 s301 => ?_)
  show GQ (XA l Z n0 CN FF cv h0) ctor_I _ _ 304 [some (Rf 0), some (I x1), some (I x2)] [I z301, Rf 0] s301 _
  refine GQ.putI (M := ctor_I) (k := 29) (pc' := 307) K rfl (wd104 hw) (wd105 hw) ctor_d304 rfl ?_
  refine GQ.letM (fun s304 => ?_)
  refine GQ.aloadN (pc' := 308) ctor_d307 rfl rfl ?_
  refine GQ.iconst (pc' := 309) ctor_d308 rfl rfl ?_
  refine GQ.putI (M := ctor_I) (k := 30) (pc' := 312) K rfl (wd106 hw) (wd107 hw) ctor_d309 rfl ?_
  refine GQ.letM (fun s309 => ?_)
  refine GQ.aloadN (pc' := 313) ctor_d312 rfl rfl ?_
  refine GQ.iconst (pc' := 314) ctor_d313 rfl rfl ?_
  refine GQ.putI (M := ctor_I) (k := 31) (pc' := 317) K rfl (wd108 hw) (wd109 hw) ctor_d314 rfl ?_
  refine GQ.letM (fun s314 => ?_)
  refine GQ.aloadN (pc' := 318) ctor_d317 rfl rfl ?_
  refine GQ.getA (M := ctor_I) (k := 32) (pc' := 321) rfl (by decide) (wd66 hw) ctor_d318 rfl ?_
  refine GQ.iconst (pc' := 322) ctor_d321 rfl rfl ?_
  refine GQ.iconst (pc' := 323) ctor_d322 rfl rfl ?_
  refine GQ.wr (k := 32) (ins := .bastore) (pc' := 324) K rfl (by decide) (Or.inr (Or.inl ⟨rfl, rfl⟩)) ctor_d323 rfl (fun s323 => ?_)
  refine GQ.aloadN (pc' := 325) ctor_d324 rfl rfl ?_
  refine GQ.getA (M := ctor_I) (k := 33) (pc' := 328) rfl (by decide) (wd68 hw) ctor_d325 rfl ?_
  refine GQ.iconst (pc' := 329) ctor_d328 rfl rfl ?_
  refine GQ.iconst (pc' := 330) ctor_d329 rfl rfl ?_
  refine GQ.wr (k := 33) (ins := .bastore) (pc' := 331) K rfl (by decide) (Or.inr (Or.inl ⟨rfl, rfl⟩)) ctor_d330 rfl (fun s330 => ?_)
  refine GQ.aloadN (pc' := 332) ctor_d331 rfl rfl ?_
  refine GQ.getA (M := ctor_I) (k := 34) (pc' := 335) rfl (by decide) (wd70 hw) ctor_d332 rfl ?_
  refine GQ.iconst (pc' := 336) ctor_d335 rfl rfl ?_
  refine GQ.iconst (pc' := 337) ctor_d336 rfl rfl ?_
  refine GQ.wr (k := 34) (ins := .bastore) (pc' := 338) K rfl (by decide) (Or.inr (Or.inl ⟨rfl, rfl⟩)) ctor_d337 rfl (fun s337 => ?_)
  refine GQ.aloadN (pc' := 339) ctor_d338 rfl rfl ?_
  refine GQ.getA (M := ctor_I) (k := 36) (pc' := 342) rfl (by decide) (wd76 hw) ctor_d339 rfl ?_
  refine GQ.iconst (pc' := 343) ctor_d342 rfl rfl ?_
  refine GQ.iconst (pc' := 344) ctor_d343 rfl rfl ?_
  refine GQ.wr (k := 36) (ins := .iastore) (pc' := 345) K rfl (by decide) (Or.inl ⟨rfl, rfl⟩) ctor_d344 rfl (fun s344 => ?_)
  refine GQ.aloadN (pc' := 346) ctor_d345 rfl rfl ?_
  refine GQ.iconst (pc' := 347) ctor_d346 rfl rfl ?_
  refine GQ.putI (M := ctor_I) (k := 38) (pc' := 350) K rfl (wd110 hw) (wd111 hw) ctor_d347 rfl ?_
  refine GQ.letM (fun s347 => ?_)
  refine GQ.aloadN (pc' := 351) ctor_d350 rfl rfl ?_
  refine GQ.iconst (pc' := 352) ctor_d351 rfl rfl ?_
  refine GQ.putI (M := ctor_I) (k := 40) (pc' := 355) K rfl (wd112 hw) (wd113 hw) ctor_d352 rfl ?_
  refine GQ.letM (fun s352 => ?_)
  refine GQ.aloadN (pc' := 356) ctor_d355 rfl rfl ?_
  refine GQ.iconst (pc' := 357) ctor_d356 rfl rfl ?_
  refine GQ.putI (M := ctor_I) (k := 43) (pc' := 360) K rfl (wd114 hw) (wd115 hw) ctor_d357 rfl ?_
  refine GQ.letM (fun s357 => ?_)
  refine GQ.aloadN (pc' := 361) ctor_d360 rfl rfl ?_
  refine GQ.iconst (pc' := 362) ctor_d361 rfl rfl ?_
  refine GQ.putI (M := ctor_I) (k := 47) (pc' := 365) K rfl (wd116 hw) (wd117 hw) ctor_d362 rfl ?_
  refine GQ.letM (fun s362 => ?_)
  refine GQ.aloadN (pc' := 366) ctor_d365 rfl rfl ?_
  refine GQ.iconst (pc' := 367) ctor_d366 rfl rfl ?_
  refine GQ.putI (M := ctor_I) (k := 55) (pc' := 370) K rfl (wd118 hw) (wd119 hw) ctor_d367 rfl ?_
  refine GQ.letM (fun s367 => ?_)
  refine GQ.aloadN (pc' := 371) ctor_d370 rfl rfl ?_
  refine GQ.iconst (pc' := 372) ctor_d371 rfl rfl ?_
  refine GQ.putI (M := ctor_I) (k := 56) (pc' := 375) K rfl (wd120 hw) (wd121 hw) ctor_d372 rfl ?_
  refine GQ.letM (fun s372 => ?_)
  exact GQ.ret rfl ctor_d375
set_option maxRecDepth 65536 in
set_option maxHeartbeats 4000000 in
theorem ctor_M_ok {l : Launch} {Z : State} {a0 : Array Value} {n0 : Nat} (hw : Words a0 Z) (K : KB a0 Z CN nI FF (posF PP) nA) {a : Nat} {h0 : Heap} (ha : n0 ≤ a) (hh : h0.size = a + 1) (x1 : Int) (x2 : Int) : GQ (XP l Z n0 CN FF (posF PP) a h0 nA) ctor_I nA 2360 0 (entry [Rf 0, I x1, I x2] ctor_I.2.2.1) [] (.inl (fun _ => 0, fun _ => false, 0)) (emb (ctor_M x1 x2)) := by
  show GQ _ _ _ _ 0 [some (Rf 0), some (I x1), some (I x2)] [] (Sum.inl (fun _ => 0, fun _ => false, 0)) _
  refine GQ.aloadN (pc' := 1) ctor_d0 rfl rfl ?_
  refine GQ.init0 (M := ctor_I) (pc' := 4) (wd6 hw) (wd7 hw) (wd8 hw) (by decide) (by decide) ctor_d1 rfl ?_
  refine GQ.aloadN (pc' := 5) ctor_d4 rfl rfl ?_
  refine GQ.bipush (pc' := 7) ctor_d5 rfl rfl ?_
  refine GQ.ini (M := ctor_I) (q := ((fun _ => 0), (fun _ => false), 0)) (k := 0) (pc' := 10) K.1 ha rfl (wd9 hw) (Or.inr ⟨(wd10 hw), rfl, rfl⟩) ctor_d7 rfl ?_
  refine GQ.aloadN (pc' := 11) ctor_d10 rfl rfl ?_
  refine GQ.bipush (pc' := 13) ctor_d11 rfl rfl ?_
  refine GQ.ini (M := ctor_I) (q := ((@upd Int (fun _ => 0) 0 16), (fun _ => false), 0)) (k := 1) (pc' := 16) K.1 ha rfl (wd11 hw) (Or.inr ⟨(wd12 hw), rfl, rfl⟩) ctor_d13 rfl ?_
  refine GQ.aloadN (pc' := 17) ctor_d16 rfl rfl ?_
  refine GQ.bipush (pc' := 19) ctor_d17 rfl rfl ?_
  refine GQ.ini (M := ctor_I) (q := ((@upd Int (@upd Int (fun _ => 0) 0 16) 1 8), (fun _ => false), 0)) (k := 2) (pc' := 22) K.1 ha rfl (wd13 hw) (Or.inr ⟨(wd14 hw), rfl, rfl⟩) ctor_d19 rfl ?_
  refine GQ.aloadN (pc' := 23) ctor_d22 rfl rfl ?_
  refine GQ.iconst (pc' := 24) ctor_d23 rfl rfl ?_
  refine GQ.ini (M := ctor_I) (q := ((@upd Int (@upd Int (@upd Int (fun _ => 0) 0 16) 1 8) 2 10), (fun _ => false), 0)) (k := 3) (pc' := 27) K.1 ha rfl (wd15 hw) (Or.inr ⟨(wd16 hw), rfl, rfl⟩) ctor_d24 rfl ?_
  refine GQ.aloadN (pc' := 28) ctor_d27 rfl rfl ?_
  refine GQ.bipush (pc' := 30) ctor_d28 rfl rfl ?_
  refine GQ.ini (M := ctor_I) (q := ((@upd Int (@upd Int (@upd Int (@upd Int (fun _ => 0) 0 16) 1 8) 2 10) 3 4), (fun _ => false), 0)) (k := 4) (pc' := 33) K.1 ha rfl (wd17 hw) (Or.inr ⟨(wd18 hw), rfl, rfl⟩) ctor_d30 rfl ?_
  refine GQ.aloadN (pc' := 34) ctor_d33 rfl rfl ?_
  refine GQ.bipush (pc' := 36) ctor_d34 rfl rfl ?_
  refine GQ.ini (M := ctor_I) (q := ((@upd Int (@upd Int (@upd Int (@upd Int (@upd Int (fun _ => 0) 0 16) 1 8) 2 10) 3 4) 4 32), (fun _ => false), 0)) (k := 5) (pc' := 39) K.1 ha rfl (wd19 hw) (Or.inr ⟨(wd20 hw), rfl, rfl⟩) ctor_d36 rfl ?_
  refine GQ.aloadN (pc' := 40) ctor_d39 rfl rfl ?_
  refine GQ.bipush (pc' := 42) ctor_d40 rfl rfl ?_
  refine GQ.ini (M := ctor_I) (q := ((@upd Int (@upd Int (@upd Int (@upd Int (@upd Int (@upd Int (fun _ => 0) 0 16) 1 8) 2 10) 3 4) 4 32) 5 64), (fun _ => false), 0)) (k := 6) (pc' := 45) K.1 ha rfl (wd21 hw) (Or.inr ⟨(wd22 hw), rfl, rfl⟩) ctor_d42 rfl ?_
  refine GQ.aloadN (pc' := 46) ctor_d45 rfl rfl ?_
  refine GQ.iconst (pc' := 47) ctor_d46 rfl rfl ?_
  refine GQ.ini (M := ctor_I) (q := ((@upd Int (@upd Int (@upd Int (@upd Int (@upd Int (@upd Int (@upd Int (fun _ => 0) 0 16) 1 8) 2 10) 3 4) 4 32) 5 64) 6 83), (fun _ => false), 0)) (k := 7) (pc' := 50) K.1 ha rfl (wd23 hw) (Or.inr ⟨(wd24 hw), rfl, rfl⟩) ctor_d47 rfl ?_
  refine GQ.aloadN (pc' := 51) ctor_d50 rfl rfl ?_
  refine GQ.iconst (pc' := 52) ctor_d51 rfl rfl ?_
  refine GQ.ini (M := ctor_I) (q := ((@upd Int (@upd Int (@upd Int (@upd Int (@upd Int (@upd Int (@upd Int (@upd Int (fun _ => 0) 0 16) 1 8) 2 10) 3 4) 4 32) 5 64) 6 83) 7 0), (fun _ => false), 0)) (k := 8) (pc' := 55) K.1 ha rfl (wd25 hw) (Or.inr ⟨(wd26 hw), rfl, rfl⟩) ctor_d52 rfl ?_
  refine GQ.aloadN (pc' := 56) ctor_d55 rfl rfl ?_
  refine GQ.iconst (pc' := 57) ctor_d56 rfl rfl ?_
  refine GQ.ini (M := ctor_I) (q := ((@upd Int (@upd Int (@upd Int (@upd Int (@upd Int (@upd Int (@upd Int (@upd Int (@upd Int (fun _ => 0) 0 16) 1 8) 2 10) 3 4) 4 32) 5 64) 6 83) 7 0) 8 1), (fun _ => false), 0)) (k := 9) (pc' := 60) K.1 ha rfl (wd27 hw) (Or.inr ⟨(wd28 hw), rfl, rfl⟩) ctor_d57 rfl ?_
  refine GQ.aloadN (pc' := 61) ctor_d60 rfl rfl ?_
  refine GQ.iconst (pc' := 62) ctor_d61 rfl rfl ?_
  refine GQ.ini (M := ctor_I) (q := ((@upd Int (@upd Int (@upd Int (@upd Int (@upd Int (@upd Int (@upd Int (@upd Int (@upd Int (@upd Int (fun _ => 0) 0 16) 1 8) 2 10) 3 4) 4 32) 5 64) 6 83) 7 0) 8 1) 9 2), (fun _ => false), 0)) (k := 10) (pc' := 65) K.1 ha rfl (wd29 hw) (Or.inr ⟨(wd30 hw), rfl, rfl⟩) ctor_d62 rfl ?_
  refine GQ.aloadN (pc' := 66) ctor_d65 rfl rfl ?_
  refine GQ.iconst (pc' := 67) ctor_d66 rfl rfl ?_
  refine GQ.ini (M := ctor_I) (q := ((@upd Int (@upd Int (@upd Int (@upd Int (@upd Int (@upd Int (@upd Int (@upd Int (@upd Int (@upd Int (@upd Int (fun _ => 0) 0 16) 1 8) 2 10) 3 4) 4 32) 5 64) 6 83) 7 0) 8 1) 9 2) 10 3), (fun _ => false), 0)) (k := 11) (pc' := 70) K.1 ha rfl (wd31 hw) (Or.inr ⟨(wd32 hw), rfl, rfl⟩) ctor_d67 rfl ?_
  refine GQ.aloadN (pc' := 71) ctor_d70 rfl rfl ?_
  refine GQ.iconst (pc' := 72) ctor_d71 rfl rfl ?_
  refine GQ.ini (M := ctor_I) (q := ((@upd Int (@upd Int (@upd Int (@upd Int (@upd Int (@upd Int (@upd Int (@upd Int (@upd Int (@upd Int (@upd Int (@upd Int (fun _ => 0) 0 16) 1 8) 2 10) 3 4) 4 32) 5 64) 6 83) 7 0) 8 1) 9 2) 10 3) 11 0), (fun _ => false), 0)) (k := 12) (pc' := 75) K.1 ha rfl (wd33 hw) (Or.inr ⟨(wd34 hw), rfl, rfl⟩) ctor_d72 rfl ?_
  refine GQ.aloadN (pc' := 76) ctor_d75 rfl rfl ?_
  refine GQ.iconst (pc' := 77) ctor_d76 rfl rfl ?_
  refine GQ.ini (M := ctor_I) (q := ((@upd Int (@upd Int (@upd Int (@upd Int (@upd Int (@upd Int (@upd Int (@upd Int (@upd Int (@upd Int (@upd Int (@upd Int (@upd Int (fun _ => 0) 0 16) 1 8) 2 10) 3 4) 4 32) 5 64) 6 83) 7 0) 8 1) 9 2) 10 3) 11 0) 12 2), (fun _ => false), 0)) (k := 13) (pc' := 80) K.1 ha rfl (wd35 hw) (Or.inr ⟨(wd36 hw), rfl, rfl⟩) ctor_d77 rfl ?_
  refine GQ.aloadN (pc' := 81) ctor_d80 rfl rfl ?_
  refine GQ.bipush (pc' := 83) ctor_d81 rfl rfl ?_
  refine GQ.ini (M := ctor_I) (q := ((@upd Int (@upd Int (@upd Int (@upd Int (@upd Int (@upd Int (@upd Int (@upd Int (@upd Int (@upd Int (@upd Int (@upd Int (@upd Int (@upd Int (fun _ => 0) 0 16) 1 8) 2 10) 3 4) 4 32) 5 64) 6 83) 7 0) 8 1) 9 2) 10 3) 11 0) 12 2) 13 4), (fun _ => false), 0)) (k := 14) (pc' := 86) K.1 ha rfl (wd37 hw) (Or.inr ⟨(wd38 hw), rfl, rfl⟩) ctor_d83 rfl ?_
  refine GQ.aloadN (pc' := 87) ctor_d86 rfl rfl ?_
  refine GQ.bipush (pc' := 89) ctor_d87 rfl rfl ?_
  refine GQ.ini (M := ctor_I) (q := ((@upd Int (@upd Int (@upd Int (@upd Int (@upd Int (@upd Int (@upd Int (@upd Int (@upd Int (@upd Int (@upd Int (@upd Int (@upd Int (@upd Int (@upd Int (fun _ => 0) 0 16) 1 8) 2 10) 3 4) 4 32) 5 64) 6 83) 7 0) 8 1) 9 2) 10 3) 11 0) 12 2) 13 4) 14 6), (fun _ => false), 0)) (k := 15) (pc' := 92) K.1 ha rfl (wd39 hw) (Or.inr ⟨(wd40 hw), rfl, rfl⟩) ctor_d89 rfl ?_
  refine GQ.aloadN (pc' := 93) ctor_d92 rfl rfl ?_
  refine GQ.bipush (pc' := 95) ctor_d93 rfl rfl ?_
  refine GQ.ini (M := ctor_I) (q := ((@upd Int (@upd Int (@upd Int (@upd Int (@upd Int (@upd Int (@upd Int (@upd Int (@upd Int (@upd Int (@upd Int (@upd Int (@upd Int (@upd Int (@upd Int (@upd Int (fun _ => 0) 0 16) 1 8) 2 10) 3 4) 4 32) 5 64) 6 83) 7 0) 8 1) 9 2) 10 3) 11 0) 12 2) 13 4) 14 6) 15 8), (fun _ => false), 0)) (k := 16) (pc' := 98) K.1 ha rfl (wd41 hw) (Or.inr ⟨(wd42 hw), rfl, rfl⟩) ctor_d95 rfl ?_
  refine GQ.aloadN (pc' := 99) ctor_d98 rfl rfl ?_
  refine GQ.bipush (pc' := 101) ctor_d99 rfl rfl ?_
  refine GQ.ini (M := ctor_I) (q := ((@upd Int (@upd Int (@upd Int (@upd Int (@upd Int (@upd Int (@upd Int (@upd Int (@upd Int (@upd Int (@upd Int (@upd Int (@upd Int (@upd Int (@upd Int (@upd Int (@upd Int (fun _ => 0) 0 16) 1 8) 2 10) 3 4) 4 32) 5 64) 6 83) 7 0) 8 1) 9 2) 10 3) 11 0) 12 2) 13 4) 14 6) 15 8) 16 9), (fun _ => false), 0)) (k := 17) (pc' := 104) K.1 ha rfl (wd43 hw) (Or.inr ⟨(wd44 hw), rfl, rfl⟩) ctor_d101 rfl ?_
  refine GQ.aloadN (pc' := 105) ctor_d104 rfl rfl ?_
  refine GQ.bipush (pc' := 107) ctor_d105 rfl rfl ?_
  refine GQ.ini (M := ctor_I) (q := ((@upd Int (@upd Int (@upd Int (@upd Int (@upd Int (@upd Int (@upd Int (@upd Int (@upd Int (@upd Int (@upd Int (@upd Int (@upd Int (@upd Int (@upd Int (@upd Int (@upd Int (@upd Int (fun _ => 0) 0 16) 1 8) 2 10) 3 4) 4 32) 5 64) 6 83) 7 0) 8 1) 9 2) 10 3) 11 0) 12 2) 13 4) 14 6) 15 8) 16 9) 17 10), (fun _ => false), 0)) (k := 18) (pc' := 110) K.1 ha rfl (wd45 hw) (Or.inr ⟨(wd46 hw), rfl, rfl⟩) ctor_d107 rfl ?_
  refine GQ.aloadN (pc' := 111) ctor_d110 rfl rfl ?_
  refine GQ.bipush (pc' := 113) ctor_d111 rfl rfl ?_
  refine GQ.ini (M := ctor_I) (q := ((@upd Int (@upd Int (@upd Int (@upd Int (@upd Int (@upd Int (@upd Int (@upd Int (@upd Int (@upd Int (@upd Int (@upd Int (@upd Int (@upd Int (@upd Int (@upd Int (@upd Int (@upd Int (@upd Int (fun _ => 0) 0 16) 1 8) 2 10) 3 4) 4 32) 5 64) 6 83) 7 0) 8 1) 9 2) 10 3) 11 0) 12 2) 13 4) 14 6) 15 8) 16 9) 17 10) 18 11), (fun _ => false), 0)) (k := 19) (pc' := 116) K.1 ha rfl (wd47 hw) (Or.inr ⟨(wd48 hw), rfl, rfl⟩) ctor_d113 rfl ?_
  refine GQ.aloadN (pc' := 117) ctor_d116 rfl rfl ?_
  refine GQ.iconst (pc' := 118) ctor_d117 rfl rfl ?_
  refine GQ.ini (M := ctor_I) (q := ((@upd Int (@upd Int (@upd Int (@upd Int (@upd Int (@upd Int (@upd Int (@upd Int (@upd Int (@upd Int (@upd Int (@upd Int (@upd Int (@upd Int (@upd Int (@upd Int (@upd Int (@upd Int (@upd Int (@upd Int (fun _ => 0) 0 16) 1 8) 2 10) 3 4) 4 32) 5 64) 6 83) 7 0) 8 1) 9 2) 10 3) 11 0) 12 2) 13 4) 14 6) 15 8) 16 9) 17 10) 18 11) 19 12), (fun _ => false), 0)) (k := 20) (pc' := 121) K.1 ha rfl (wd49 hw) (Or.inr ⟨(wd50 hw), rfl, rfl⟩) ctor_d118 rfl ?_
  refine GQ.aloadN (pc' := 122) ctor_d121 rfl rfl ?_
  refine GQ.iconst (pc' := 123) ctor_d122 rfl rfl ?_
  refine GQ.ini (M := ctor_I) (q := ((@upd Int (@upd Int (@upd Int (@upd Int (@upd Int (@upd Int (@upd Int (@upd Int (@upd Int (@upd Int (@upd Int (@upd Int (@upd Int (@upd Int (@upd Int (@upd Int (@upd Int (@upd Int (@upd Int (@upd Int (@upd Int (fun _ => 0) 0 16) 1 8) 2 10) 3 4) 4 32) 5 64) 6 83) 7 0) 8 1) 9 2) 10 3) 11 0) 12 2) 13 4) 14 6) 15 8) 16 9) 17 10) 18 11) 19 12) 20 0), (fun _ => false), 0)) (k := 21) (pc' := 126) K.1 ha rfl (wd51 hw) (Or.inr ⟨(wd52 hw), rfl, rfl⟩) ctor_d123 rfl ?_
  refine GQ.aloadN (pc' := 127) ctor_d126 rfl rfl ?_
  refine GQ.iconst (pc' := 128) ctor_d127 rfl rfl ?_
  refine GQ.ini (M := ctor_I) (q := ((@upd Int (@upd Int (@upd Int (@upd Int (@upd Int (@upd Int (@upd Int (@upd Int (@upd Int (@upd Int (@upd Int (@upd Int (@upd Int (@upd Int (@upd Int (@upd Int (@upd Int (@upd Int (@upd Int (@upd Int (@upd Int (@upd Int (fun _ => 0) 0 16) 1 8) 2 10) 3 4) 4 32) 5 64) 6 83) 7 0) 8 1) 9 2) 10 3) 11 0) 12 2) 13 4) 14 6) 15 8) 16 9) 17 10) 18 11) 19 12) 20 0) 21 1), (fun _ => false), 0)) (k := 22) (pc' := 131) K.1 ha rfl (wd53 hw) (Or.inr ⟨(wd54 hw), rfl, rfl⟩) ctor_d128 rfl ?_
  refine GQ.aloadN (pc' := 132) ctor_d131 rfl rfl ?_
  refine GQ.iconst (pc' := 133) ctor_d132 rfl rfl ?_
  refine GQ.ini (M := ctor_I) (q := ((@upd Int (@upd Int (@upd Int (@upd Int (@upd Int (@upd Int (@upd Int (@upd Int (@upd Int (@upd Int (@upd Int (@upd Int (@upd Int (@upd Int (@upd Int (@upd Int (@upd Int (@upd Int (@upd Int (@upd Int (@upd Int (@upd Int (@upd Int (fun _ => 0) 0 16) 1 8) 2 10) 3 4) 4 32) 5 64) 6 83) 7 0) 8 1) 9 2) 10 3) 11 0) 12 2) 13 4) 14 6) 15 8) 16 9) 17 10) 18 11) 19 12) 20 0) 21 1) 22 2), (fun _ => false), 0)) (k := 23) (pc' := 136) K.1 ha rfl (wd55 hw) (Or.inr ⟨(wd56 hw), rfl, rfl⟩) ctor_d133 rfl ?_
  refine GQ.aloadN (pc' := 137) ctor_d136 rfl rfl ?_
  refine GQ.iconst (pc' := 138) ctor_d137 rfl rfl ?_
  refine GQ.ini (M := ctor_I) (q := ((@upd Int (@upd Int (@upd Int (@upd Int (@upd Int (@upd Int (@upd Int (@upd Int (@upd Int (@upd Int (@upd Int (@upd Int (@upd Int (@upd Int (@upd Int (@upd Int (@upd Int (@upd Int (@upd Int (@upd Int (@upd Int (@upd Int (@upd Int (@upd Int (fun _ => 0) 0 16) 1 8) 2 10) 3 4) 4 32) 5 64) 6 83) 7 0) 8 1) 9 2) 10 3) 11 0) 12 2) 13 4) 14 6) 15 8) 16 9) 17 10) 18 11) 19 12) 20 0) 21 1) 22 2) 23 2), (fun _ => false), 0)) (k := 24) (pc' := 141) K.1 ha rfl (wd57 hw) (Or.inr ⟨(wd58 hw), rfl, rfl⟩) ctor_d138 rfl ?_
  refine GQ.aloadN (pc' := 142) ctor_d141 rfl rfl ?_
  refine GQ.iconst (pc' := 143) ctor_d142 rfl rfl ?_
  refine GQ.ini (M := ctor_I) (q := ((@upd Int (@upd Int (@upd Int (@upd Int (@upd Int (@upd Int (@upd Int (@upd Int (@upd Int (@upd Int (@upd Int (@upd Int (@upd Int (@upd Int (@upd Int (@upd Int (@upd Int (@upd Int (@upd Int (@upd Int (@upd Int (@upd Int (@upd Int (@upd Int (@upd Int (fun _ => 0) 0 16) 1 8) 2 10) 3 4) 4 32) 5 64) 6 83) 7 0) 8 1) 9 2) 10 3) 11 0) 12 2) 13 4) 14 6) 15 8) 16 9) 17 10) 18 11) 19 12) 20 0) 21 1) 22 2) 23 2) 24 4), (fun _ => false), 0)) (k := 25) (pc' := 146) K.1 ha rfl (wd59 hw) (Or.inr ⟨(wd60 hw), rfl, rfl⟩) ctor_d143 rfl ?_
  refine GQ.aloadN (pc' := 147) ctor_d146 rfl rfl ?_
  refine GQ.iconst (pc' := 148) ctor_d147 rfl rfl ?_
  refine GQ.ini (M := ctor_I) (q := ((@upd Int (@upd Int (@upd Int (@upd Int (@upd Int (@upd Int (@upd Int (@upd Int (@upd Int (@upd Int (@upd Int (@upd Int (@upd Int (@upd Int (@upd Int (@upd Int (@upd Int (@upd Int (@upd Int (@upd Int (@upd Int (@upd Int (@upd Int (@upd Int (@upd Int (@upd Int (fun _ => 0) 0 16) 1 8) 2 10) 3 4) 4 32) 5 64) 6 83) 7 0) 8 1) 9 2) 10 3) 11 0) 12 2) 13 4) 14 6) 15 8) 16 9) 17 10) 18 11) 19 12) 20 0) 21 1) 22 2) 23 2) 24 4) 25 4), (fun _ => false), 0)) (k := 26) (pc' := 151) K.1 ha rfl (wd61 hw) (Or.inr ⟨(wd62 hw), rfl, rfl⟩) ctor_d148 rfl ?_
  refine GQ.aloadN (pc' := 152) ctor_d151 rfl rfl ?_
  refine GQ.bipush (pc' := 154) ctor_d152 rfl rfl ?_
  refine GQ.ini (M := ctor_I) (q := ((@upd Int (@upd Int (@upd Int (@upd Int (@upd Int (@upd Int (@upd Int (@upd Int (@upd Int (@upd Int (@upd Int (@upd Int (@upd Int (@upd Int (@upd Int (@upd Int (@upd Int (@upd Int (@upd Int (@upd Int (@upd Int (@upd Int (@upd Int (@upd Int (@upd Int (@upd Int (@upd Int (fun _ => 0) 0 16) 1 8) 2 10) 3 4) 4 32) 5 64) 6 83) 7 0) 8 1) 9 2) 10 3) 11 0) 12 2) 13 4) 14 6) 15 8) 16 9) 17 10) 18 11) 19 12) 20 0) 21 1) 22 2) 23 2) 24 4) 25 4) 26 5), (fun _ => false), 0)) (k := 27) (pc' := 157) K.1 ha rfl (wd63 hw) (Or.inr ⟨(wd64 hw), rfl, rfl⟩) ctor_d154 rfl ?_
  refine GQ.aloadN (pc' := 158) ctor_d157 rfl rfl ?_
  refine GQ.bipush (pc' := 160) ctor_d158 rfl rfl ?_
  refine GQ.newA (M := ctor_I) (q := ((@upd Int (@upd Int (@upd Int (@upd Int (@upd Int (@upd Int (@upd Int (@upd Int (@upd Int (@upd Int (@upd Int (@upd Int (@upd Int (@upd Int (@upd Int (@upd Int (@upd Int (@upd Int (@upd Int (@upd Int (@upd Int (@upd Int (@upd Int (@upd Int (@upd Int (@upd Int (@upd Int (@upd Int (fun _ => 0) 0 16) 1 8) 2 10) 3 4) 4 32) 5 64) 6 83) 7 0) 8 1) 9 2) 10 3) 11 0) 12 2) 13 4) 14 6) 15 8) 16 9) 17 10) 18 11) 19 12) 20 0) 21 1) 22 2) 23 2) 24 4) 25 4) 26 5) 27 7), (fun _ => false), 0)) (aty := .byte) (k := 32) (x := 16) (kc := 14) (ks := 2344) (pc' := 165) K.1 ha rfl rfl rfl hh rfl (wd65 hw) (wd66 hw) (Or.inr ⟨(wd67 hw), rfl, rfl⟩) ctor_d160 rfl ctor_d162 rfl ?_
  refine GQ.aloadN (pc' := 166) ctor_d165 rfl rfl ?_
  refine GQ.bipush (pc' := 168) ctor_d166 rfl rfl ?_
  refine GQ.newA (M := ctor_I) (q := ((@upd Int (@upd Int (@upd Int (@upd Int (@upd Int (@upd Int (@upd Int (@upd Int (@upd Int (@upd Int (@upd Int (@upd Int (@upd Int (@upd Int (@upd Int (@upd Int (@upd Int (@upd Int (@upd Int (@upd Int (@upd Int (@upd Int (@upd Int (@upd Int (@upd Int (@upd Int (@upd Int (@upd Int (fun _ => 0) 0 16) 1 8) 2 10) 3 4) 4 32) 5 64) 6 83) 7 0) 8 1) 9 2) 10 3) 11 0) 12 2) 13 4) 14 6) 15 8) 16 9) 17 10) 18 11) 19 12) 20 0) 21 1) 22 2) 23 2) 24 4) 25 4) 26 5) 27 7), (@upd Bool (fun _ => false) 32 true), 1)) (aty := .byte) (k := 33) (x := 16) (kc := 13) (ks := 2328) (pc' := 173) K.1 ha rfl rfl rfl hh rfl (wd65 hw) (wd68 hw) (Or.inr ⟨(wd69 hw), rfl, rfl⟩) ctor_d168 rfl ctor_d170 rfl ?_
  refine GQ.aloadN (pc' := 174) ctor_d173 rfl rfl ?_
  refine GQ.bipush (pc' := 176) ctor_d174 rfl rfl ?_
  refine GQ.newA (M := ctor_I) (q := ((@upd Int (@upd Int (@upd Int (@upd Int (@upd Int (@upd Int (@upd Int (@upd Int (@upd Int (@upd Int (@upd Int (@upd Int (@upd Int (@upd Int (@upd Int (@upd Int (@upd Int (@upd Int (@upd Int (@upd Int (@upd Int (@upd Int (@upd Int (@upd Int (@upd Int (@upd Int (@upd Int (@upd Int (fun _ => 0) 0 16) 1 8) 2 10) 3 4) 4 32) 5 64) 6 83) 7 0) 8 1) 9 2) 10 3) 11 0) 12 2) 13 4) 14 6) 15 8) 16 9) 17 10) 18 11) 19 12) 20 0) 21 1) 22 2) 23 2) 24 4) 25 4) 26 5) 27 7), (@upd Bool (@upd Bool (fun _ => false) 32 true) 33 true), 2)) (aty := .byte) (k := 34) (x := 16) (kc := 12) (ks := 2312) (pc' := 181) K.1 ha rfl rfl rfl hh rfl (wd65 hw) (wd70 hw) (Or.inr ⟨(wd71 hw), rfl, rfl⟩) ctor_d176 rfl ctor_d178 rfl ?_
  refine GQ.aloadN (pc' := 182) ctor_d181 rfl rfl ?_
  refine GQ.sipush (pc' := 185) ctor_d182 rfl rfl ?_
  refine GQ.newA (M := ctor_I) (q := ((@upd Int (@upd Int (@upd Int (@upd Int (@upd Int (@upd Int (@upd Int (@upd Int (@upd Int (@upd Int (@upd Int (@upd Int (@upd Int (@upd Int (@upd Int (@upd Int (@upd Int (@upd Int (@upd Int (@upd Int (@upd Int (@upd Int (@upd Int (@upd Int (@upd Int (@upd Int (@upd Int (@upd Int (fun _ => 0) 0 16) 1 8) 2 10) 3 4) 4 32) 5 64) 6 83) 7 0) 8 1) 9 2) 10 3) 11 0) 12 2) 13 4) 14 6) 15 8) 16 9) 17 10) 18 11) 19 12) 20 0) 21 1) 22 2) 23 2) 24 4) 25 4) 26 5) 27 7), (@upd Bool (@upd Bool (@upd Bool (fun _ => false) 32 true) 33 true) 34 true), 3)) (aty := .char) (k := 35) (x := 128) (kc := 11) (ks := 2184) (pc' := 190) K.1 ha rfl rfl rfl hh rfl (wd72 hw) (wd73 hw) (Or.inr ⟨(wd74 hw), rfl, rfl⟩) ctor_d185 rfl ctor_d187 rfl ?_
  refine GQ.aloadN (pc' := 191) ctor_d190 rfl rfl ?_
  refine GQ.bipush (pc' := 193) ctor_d191 rfl rfl ?_
  refine GQ.newA (M := ctor_I) (q := ((@upd Int (@upd Int (@upd Int (@upd Int (@upd Int (@upd Int (@upd Int (@upd Int (@upd Int (@upd Int (@upd Int (@upd Int (@upd Int (@upd Int (@upd Int (@upd Int (@upd Int (@upd Int (@upd Int (@upd Int (@upd Int (@upd Int (@upd Int (@upd Int (@upd Int (@upd Int (@upd Int (@upd Int (fun _ => 0) 0 16) 1 8) 2 10) 3 4) 4 32) 5 64) 6 83) 7 0) 8 1) 9 2) 10 3) 11 0) 12 2) 13 4) 14 6) 15 8) 16 9) 17 10) 18 11) 19 12) 20 0) 21 1) 22 2) 23 2) 24 4) 25 4) 26 5) 27 7), (@upd Bool (@upd Bool (@upd Bool (@upd Bool (fun _ => false) 32 true) 33 true) 34 true) 35 true), 4)) (aty := .int) (k := 36) (x := 16) (kc := 10) (ks := 2168) (pc' := 198) K.1 ha rfl rfl rfl hh rfl (wd75 hw) (wd76 hw) (Or.inr ⟨(wd77 hw), rfl, rfl⟩) ctor_d193 rfl ctor_d195 rfl ?_
  refine GQ.aloadN (pc' := 199) ctor_d198 rfl rfl ?_
  refine GQ.bipush (pc' := 201) ctor_d199 rfl rfl ?_
  refine GQ.newA (M := ctor_I) (q := ((@upd Int (@upd Int (@upd Int (@upd Int (@upd Int (@upd Int (@upd Int (@upd Int (@upd Int (@upd Int (@upd Int (@upd Int (@upd Int (@upd Int (@upd Int (@upd Int (@upd Int (@upd Int (@upd Int (@upd Int (@upd Int (@upd Int (@upd Int (@upd Int (@upd Int (@upd Int (@upd Int (@upd Int (fun _ => 0) 0 16) 1 8) 2 10) 3 4) 4 32) 5 64) 6 83) 7 0) 8 1) 9 2) 10 3) 11 0) 12 2) 13 4) 14 6) 15 8) 16 9) 17 10) 18 11) 19 12) 20 0) 21 1) 22 2) 23 2) 24 4) 25 4) 26 5) 27 7), (@upd Bool (@upd Bool (@upd Bool (@upd Bool (@upd Bool (fun _ => false) 32 true) 33 true) 34 true) 35 true) 36 true), 5)) (aty := .char) (k := 37) (x := 8) (kc := 9) (ks := 2160) (pc' := 206) K.1 ha rfl rfl rfl hh rfl (wd72 hw) (wd78 hw) (Or.inr ⟨(wd79 hw), rfl, rfl⟩) ctor_d201 rfl ctor_d203 rfl ?_
  refine GQ.aloadN (pc' := 207) ctor_d206 rfl rfl ?_
  refine GQ.bipush (pc' := 209) ctor_d207 rfl rfl ?_
  refine GQ.newA (M := ctor_I) (q := ((@upd Int (@upd Int (@upd Int (@upd Int (@upd Int (@upd Int (@upd Int (@upd Int (@upd Int (@upd Int (@upd Int (@upd Int (@upd Int (@upd Int (@upd Int (@upd Int (@upd Int (@upd Int (@upd Int (@upd Int (@upd Int (@upd Int (@upd Int (@upd Int (@upd Int (@upd Int (@upd Int (@upd Int (fun _ => 0) 0 16) 1 8) 2 10) 3 4) 4 32) 5 64) 6 83) 7 0) 8 1) 9 2) 10 3) 11 0) 12 2) 13 4) 14 6) 15 8) 16 9) 17 10) 18 11) 19 12) 20 0) 21 1) 22 2) 23 2) 24 4) 25 4) 26 5) 27 7), (@upd Bool (@upd Bool (@upd Bool (@upd Bool (@upd Bool (@upd Bool (fun _ => false) 32 true) 33 true) 34 true) 35 true) 36 true) 37 true), 6)) (aty := .char) (k := 39) (x := 32) (kc := 8) (ks := 2128) (pc' := 214) K.1 ha rfl rfl rfl hh rfl (wd72 hw) (wd80 hw) (Or.inr ⟨(wd81 hw), rfl, rfl⟩) ctor_d209 rfl ctor_d211 rfl ?_
  refine GQ.aloadN (pc' := 215) ctor_d214 rfl rfl ?_
  refine GQ.sipush (pc' := 218) ctor_d215 rfl rfl ?_
  refine GQ.newA (M := ctor_I) (q := ((@upd Int (@upd Int (@upd Int (@upd Int (@upd Int (@upd Int (@upd Int (@upd Int (@upd Int (@upd Int (@upd Int (@upd Int (@upd Int (@upd Int (@upd Int (@upd Int (@upd Int (@upd Int (@upd Int (@upd Int (@upd Int (@upd Int (@upd Int (@upd Int (@upd Int (@upd Int (@upd Int (@upd Int (fun _ => 0) 0 16) 1 8) 2 10) 3 4) 4 32) 5 64) 6 83) 7 0) 8 1) 9 2) 10 3) 11 0) 12 2) 13 4) 14 6) 15 8) 16 9) 17 10) 18 11) 19 12) 20 0) 21 1) 22 2) 23 2) 24 4) 25 4) 26 5) 27 7), (@upd Bool (@upd Bool (@upd Bool (@upd Bool (@upd Bool (@upd Bool (@upd Bool (fun _ => false) 32 true) 33 true) 34 true) 35 true) 36 true) 37 true) 39 true), 7)) (aty := .byte) (k := 41) (x := 256) (kc := 7) (ks := 1872) (pc' := 223) K.1 ha rfl rfl rfl hh rfl (wd65 hw) (wd82 hw) (Or.inr ⟨(wd83 hw), rfl, rfl⟩) ctor_d218 rfl ctor_d220 rfl ?_
  refine GQ.aloadN (pc' := 224) ctor_d223 rfl rfl ?_
  refine GQ.sipush (pc' := 227) ctor_d224 rfl rfl ?_
  refine GQ.newA (M := ctor_I) (q := ((@upd Int (@upd Int (@upd Int (@upd Int (@upd Int (@upd Int (@upd Int (@upd Int (@upd Int (@upd Int (@upd Int (@upd Int (@upd Int (@upd Int (@upd Int (@upd Int (@upd Int (@upd Int (@upd Int (@upd Int (@upd Int (@upd Int (@upd Int (@upd Int (@upd Int (@upd Int (@upd Int (@upd Int (fun _ => 0) 0 16) 1 8) 2 10) 3 4) 4 32) 5 64) 6 83) 7 0) 8 1) 9 2) 10 3) 11 0) 12 2) 13 4) 14 6) 15 8) 16 9) 17 10) 18 11) 19 12) 20 0) 21 1) 22 2) 23 2) 24 4) 25 4) 26 5) 27 7), (@upd Bool (@upd Bool (@upd Bool (@upd Bool (@upd Bool (@upd Bool (@upd Bool (@upd Bool (fun _ => false) 32 true) 33 true) 34 true) 35 true) 36 true) 37 true) 39 true) 41 true), 8)) (aty := .byte) (k := 42) (x := 256) (kc := 6) (ks := 1616) (pc' := 232) K.1 ha rfl rfl rfl hh rfl (wd65 hw) (wd84 hw) (Or.inr ⟨(wd85 hw), rfl, rfl⟩) ctor_d227 rfl ctor_d229 rfl ?_
  refine GQ.aloadN (pc' := 233) ctor_d232 rfl rfl ?_
  refine GQ.sipush (pc' := 236) ctor_d233 rfl rfl ?_
  refine GQ.newA (M := ctor_I) (q := ((@upd Int (@upd Int (@upd Int (@upd Int (@upd Int (@upd Int (@upd Int (@upd Int (@upd Int (@upd Int (@upd Int (@upd Int (@upd Int (@upd Int (@upd Int (@upd Int (@upd Int (@upd Int (@upd Int (@upd Int (@upd Int (@upd Int (@upd Int (@upd Int (@upd Int (@upd Int (@upd Int (@upd Int (fun _ => 0) 0 16) 1 8) 2 10) 3 4) 4 32) 5 64) 6 83) 7 0) 8 1) 9 2) 10 3) 11 0) 12 2) 13 4) 14 6) 15 8) 16 9) 17 10) 18 11) 19 12) 20 0) 21 1) 22 2) 23 2) 24 4) 25 4) 26 5) 27 7), (@upd Bool (@upd Bool (@upd Bool (@upd Bool (@upd Bool (@upd Bool (@upd Bool (@upd Bool (@upd Bool (fun _ => false) 32 true) 33 true) 34 true) 35 true) 36 true) 37 true) 39 true) 41 true) 42 true), 9)) (aty := .byte) (k := 44) (x := 1024) (kc := 5) (ks := 592) (pc' := 241) K.1 ha rfl rfl rfl hh rfl (wd65 hw) (wd86 hw) (Or.inr ⟨(wd87 hw), rfl, rfl⟩) ctor_d236 rfl ctor_d238 rfl ?_
  refine GQ.aloadN (pc' := 242) ctor_d241 rfl rfl ?_
  refine GQ.sipush (pc' := 245) ctor_d242 rfl rfl ?_
  refine GQ.newA (M := ctor_I) (q := ((@upd Int (@upd Int (@upd Int (@upd Int (@upd Int (@upd Int (@upd Int (@upd Int (@upd Int (@upd Int (@upd Int (@upd Int (@upd Int (@upd Int (@upd Int (@upd Int (@upd Int (@upd Int (@upd Int (@upd Int (@upd Int (@upd Int (@upd Int (@upd Int (@upd Int (@upd Int (@upd Int (@upd Int (fun _ => 0) 0 16) 1 8) 2 10) 3 4) 4 32) 5 64) 6 83) 7 0) 8 1) 9 2) 10 3) 11 0) 12 2) 13 4) 14 6) 15 8) 16 9) 17 10) 18 11) 19 12) 20 0) 21 1) 22 2) 23 2) 24 4) 25 4) 26 5) 27 7), (@upd Bool (@upd Bool (@upd Bool (@upd Bool (@upd Bool (@upd Bool (@upd Bool (@upd Bool (@upd Bool (@upd Bool (fun _ => false) 32 true) 33 true) 34 true) 35 true) 36 true) 37 true) 39 true) 41 true) 42 true) 44 true), 10)) (aty := .byte) (k := 45) (x := 256) (kc := 4) (ks := 336) (pc' := 250) K.1 ha rfl rfl rfl hh rfl (wd65 hw) (wd88 hw) (Or.inr ⟨(wd89 hw), rfl, rfl⟩) ctor_d245 rfl ctor_d247 rfl ?_
  refine GQ.aloadN (pc' := 251) ctor_d250 rfl rfl ?_
  refine GQ.sipush (pc' := 254) ctor_d251 rfl rfl ?_
  refine GQ.newA (M := ctor_I) (q := ((@upd Int (@upd Int (@upd Int (@upd Int (@upd Int (@upd Int (@upd Int (@upd Int (@upd Int (@upd Int (@upd Int (@upd Int (@upd Int (@upd Int (@upd Int (@upd Int (@upd Int (@upd Int (@upd Int (@upd Int (@upd Int (@upd Int (@upd Int (@upd Int (@upd Int (@upd Int (@upd Int (@upd Int (fun _ => 0) 0 16) 1 8) 2 10) 3 4) 4 32) 5 64) 6 83) 7 0) 8 1) 9 2) 10 3) 11 0) 12 2) 13 4) 14 6) 15 8) 16 9) 17 10) 18 11) 19 12) 20 0) 21 1) 22 2) 23 2) 24 4) 25 4) 26 5) 27 7), (@upd Bool (@upd Bool (@upd Bool (@upd Bool (@upd Bool (@upd Bool (@upd Bool (@upd Bool (@upd Bool (@upd Bool (@upd Bool (fun _ => false) 32 true) 33 true) 34 true) 35 true) 36 true) 37 true) 39 true) 41 true) 42 true) 44 true) 45 true), 11)) (aty := .byte) (k := 46) (x := 256) (kc := 3) (ks := 80) (pc' := 259) K.1 ha rfl rfl rfl hh rfl (wd65 hw) (wd90 hw) (Or.inr ⟨(wd91 hw), rfl, rfl⟩) ctor_d254 rfl ctor_d256 rfl ?_
  refine GQ.aloadN (pc' := 260) ctor_d259 rfl rfl ?_
  refine GQ.bipush (pc' := 262) ctor_d260 rfl rfl ?_
  refine GQ.newA (M := ctor_I) (q := ((@upd Int (@upd Int (@upd Int (@upd Int (@upd Int (@upd Int (@upd Int (@upd Int (@upd Int (@upd Int (@upd Int (@upd Int (@upd Int (@upd Int (@upd Int (@upd Int (@upd Int (@upd Int (@upd Int (@upd Int (@upd Int (@upd Int (@upd Int (@upd Int (@upd Int (@upd Int (@upd Int (@upd Int (fun _ => 0) 0 16) 1 8) 2 10) 3 4) 4 32) 5 64) 6 83) 7 0) 8 1) 9 2) 10 3) 11 0) 12 2) 13 4) 14 6) 15 8) 16 9) 17 10) 18 11) 19 12) 20 0) 21 1) 22 2) 23 2) 24 4) 25 4) 26 5) 27 7), (@upd Bool (@upd Bool (@upd Bool (@upd Bool (@upd Bool (@upd Bool (@upd Bool (@upd Bool (@upd Bool (@upd Bool (@upd Bool (@upd Bool (fun _ => false) 32 true) 33 true) 34 true) 35 true) 36 true) 37 true) 39 true) 41 true) 42 true) 44 true) 45 true) 46 true), 12)) (aty := .byte) (k := 48) (x := 32) (kc := 2) (ks := 48) (pc' := 267) K.1 ha rfl rfl rfl hh rfl (wd65 hw) (wd92 hw) (Or.inr ⟨(wd93 hw), rfl, rfl⟩) ctor_d262 rfl ctor_d264 rfl ?_
  refine GQ.aloadN (pc' := 268) ctor_d267 rfl rfl ?_
  refine GQ.bipush (pc' := 270) ctor_d268 rfl rfl ?_
  refine GQ.newA (M := ctor_I) (q := ((@upd Int (@upd Int (@upd Int (@upd Int (@upd Int (@upd Int (@upd Int (@upd Int (@upd Int (@upd Int (@upd Int (@upd Int (@upd Int (@upd Int (@upd Int (@upd Int (@upd Int (@upd Int (@upd Int (@upd Int (@upd Int (@upd Int (@upd Int (@upd Int (@upd Int (@upd Int (@upd Int (@upd Int (fun _ => 0) 0 16) 1 8) 2 10) 3 4) 4 32) 5 64) 6 83) 7 0) 8 1) 9 2) 10 3) 11 0) 12 2) 13 4) 14 6) 15 8) 16 9) 17 10) 18 11) 19 12) 20 0) 21 1) 22 2) 23 2) 24 4) 25 4) 26 5) 27 7), (@upd Bool (@upd Bool (@upd Bool (@upd Bool (@upd Bool (@upd Bool (@upd Bool (@upd Bool (@upd Bool (@upd Bool (@upd Bool (@upd Bool (@upd Bool (fun _ => false) 32 true) 33 true) 34 true) 35 true) 36 true) 37 true) 39 true) 41 true) 42 true) 44 true) 45 true) 46 true) 48 true), 13)) (aty := .byte) (k := 49) (x := 32) (kc := 1) (ks := 16) (pc' := 275) K.1 ha rfl rfl rfl hh rfl (wd65 hw) (wd94 hw) (Or.inr ⟨(wd95 hw), rfl, rfl⟩) ctor_d270 rfl ctor_d272 rfl ?_
  refine GQ.aloadN (pc' := 276) ctor_d275 rfl rfl ?_
  refine GQ.bipush (pc' := 278) ctor_d276 rfl rfl ?_
  refine GQ.newA (M := ctor_I) (q := ((@upd Int (@upd Int (@upd Int (@upd Int (@upd Int (@upd Int (@upd Int (@upd Int (@upd Int (@upd Int (@upd Int (@upd Int (@upd Int (@upd Int (@upd Int (@upd Int (@upd Int (@upd Int (@upd Int (@upd Int (@upd Int (@upd Int (@upd Int (@upd Int (@upd Int (@upd Int (@upd Int (@upd Int (fun _ => 0) 0 16) 1 8) 2 10) 3 4) 4 32) 5 64) 6 83) 7 0) 8 1) 9 2) 10 3) 11 0) 12 2) 13 4) 14 6) 15 8) 16 9) 17 10) 18 11) 19 12) 20 0) 21 1) 22 2) 23 2) 24 4) 25 4) 26 5) 27 7), (@upd Bool (@upd Bool (@upd Bool (@upd Bool (@upd Bool (@upd Bool (@upd Bool (@upd Bool (@upd Bool (@upd Bool (@upd Bool (@upd Bool (@upd Bool (@upd Bool (fun _ => false) 32 true) 33 true) 34 true) 35 true) 36 true) 37 true) 39 true) 41 true) 42 true) 44 true) 45 true) 46 true) 48 true) 49 true), 14)) (aty := .byte) (k := 50) (x := 16) (kc := 0) (ks := 0) (pc' := 283) K.1 ha rfl rfl rfl hh rfl (wd65 hw) (wd96 hw) (Or.inr ⟨(wd97 hw), rfl, rfl⟩) ctor_d278 rfl ctor_d280 rfl ?_
  exact GQ.body (q := ((@upd Int (@upd Int (@upd Int (@upd Int (@upd Int (@upd Int (@upd Int (@upd Int (@upd Int (@upd Int (@upd Int (@upd Int (@upd Int (@upd Int (@upd Int (@upd Int (@upd Int (@upd Int (@upd Int (@upd Int (@upd Int (@upd Int (@upd Int (@upd Int (@upd Int (@upd Int (@upd Int (@upd Int (fun _ => 0) 0 16) 1 8) 2 10) 3 4) 4 32) 5 64) 6 83) 7 0) 8 1) 9 2) 10 3) 11 0) 12 2) 13 4) 14 6) 15 8) 16 9) 17 10) 18 11) 19 12) 20 0) 21 1) 22 2) 23 2) 24 4) 25 4) 26 5) 27 7), (@upd Bool (@upd Bool (@upd Bool (@upd Bool (@upd Bool (@upd Bool (@upd Bool (@upd Bool (@upd Bool (@upd Bool (@upd Bool (@upd Bool (@upd Bool (@upd Bool (@upd Bool (fun _ => false) 32 true) 33 true) 34 true) 35 true) 36 true) 37 true) 39 true) 41 true) 42 true) 44 true) 45 true) 46 true) 48 true) 49 true) 50 true), 15)) (fun k e h1 h2 => by have q := alF_ok (al := (@upd Bool (@upd Bool (@upd Bool (@upd Bool (@upd Bool (@upd Bool (@upd Bool (@upd Bool (@upd Bool (@upd Bool (@upd Bool (@upd Bool (@upd Bool (@upd Bool (@upd Bool (fun _ => false) 32 true) 33 true) 34 true) 35 true) 36 true) 37 true) 39 true) 41 true) 42 true) 44 true) 45 true) 46 true) 48 true) 49 true) 50 true)) (F := FF) (j := 0) rfl k e h1 h2; rwa [Nat.zero_add] at q) rfl hh (fun h1 => ctor_B_ok hw ⟨K.1, K.inj a, fun j => Nat.le_trans ha (cvO_ge _ _ j)⟩ x1 x2 _)
def isNameChar_I : Mi := (⟨"SquashImage", "isNameChar", "(I)Z"⟩, prog_1_method_4_code, 2, (some .boolean), 0, 0)
theorem isNameChar_d0 : decode isNameChar_I.2.1 0 = .ok (.iload_n 1, 1) := by decide +kernel
theorem isNameChar_d1 : decode isNameChar_I.2.1 1 = .ok (.bipush 33, 2) := by decide +kernel
theorem isNameChar_d3 : decode isNameChar_I.2.1 3 = .ok (.if_icmp .lt 19, 3) := by decide +kernel
theorem isNameChar_d6 : decode isNameChar_I.2.1 6 = .ok (.iload_n 1, 1) := by decide +kernel
theorem isNameChar_d7 : decode isNameChar_I.2.1 7 = .ok (.bipush 126, 2) := by decide +kernel
theorem isNameChar_d9 : decode isNameChar_I.2.1 9 = .ok (.if_icmp .gt 13, 3) := by decide +kernel
theorem isNameChar_d12 : decode isNameChar_I.2.1 12 = .ok (.iload_n 1, 1) := by decide +kernel
theorem isNameChar_d13 : decode isNameChar_I.2.1 13 = .ok (.bipush 47, 2) := by decide +kernel
theorem isNameChar_d15 : decode isNameChar_I.2.1 15 = .ok (.if_icmp .eq 7, 3) := by decide +kernel
theorem isNameChar_d18 : decode isNameChar_I.2.1 18 = .ok (.iconst 1, 1) := by decide +kernel
theorem isNameChar_d19 : decode isNameChar_I.2.1 19 = .ok (.goto 4, 3) := by decide +kernel
theorem isNameChar_d22 : decode isNameChar_I.2.1 22 = .ok (.iconst 0, 1) := by decide +kernel
theorem isNameChar_d23 : decode isNameChar_I.2.1 23 = .ok (.ireturn, 1) := by decide +kernel
theorem isNameChar_p : parseMethodDescriptor isNameChar_I.1.desc = some ⟨[.int], (some .boolean)⟩ := by decide +kernel
theorem isNameChar_K {a0 : Array Value} {Z : State} {M : Mi} (hw : Words a0 Z) (h : isNameChar_I.2.2.2.2.1 + 1 ≤ M.2.2.2.2.1) : Callee a0 Z M isNameChar_I 1 := ⟨pnC, (wd130 hw), (wd2 hw), h, by decide, fun sig q => by cases isNameChar_p.symm.trans q; rfl⟩
set_option maxRecDepth 65536 in
set_option maxHeartbeats 4000000 in
theorem isNameChar_M_ok {l : Launch} {Z : State} {a0 : Array Value} {n0 : Nat} {cv : Nat → Nat} {h0 : Heap} (hw : Words a0 Z) (K : KA a0 Z n0 CN nI FF cv) (x1 : Int) (s : Obj) : GQ (XA l Z n0 CN FF cv h0) isNameChar_I 0 0 0 (entry [Rf 0, I x1] isNameChar_I.2.2.1) [] s (isNameChar_M x1 s) := by
  show GQ _ _ _ _ 0 [some (Rf 0), some (I x1)] [] _ _
  unfold isNameChar_M
  refine GQ.iloadN (pc' := 1) isNameChar_d0 rfl rfl ?_
  refine GQ.bipush (pc' := 3) isNameChar_d1 rfl rfl ?_
  refine GQ.icmpT (pcT := 22) (pcF := 6) h_lt isNameChar_d3 rfl rfl rfl ?_ ?_
  · refine GQ.iconst (pc' := 23) isNameChar_d22 rfl rfl ?_
    exact GQ.zret rfl isNameChar_d23
  refine GQ.iloadN (pc' := 7) isNameChar_d6 rfl rfl ?_
  refine GQ.bipush (pc' := 9) isNameChar_d7 rfl rfl ?_
  refine GQ.icmpT (pcT := 22) (pcF := 12) h_gt isNameChar_d9 rfl rfl rfl ?_ ?_
  · refine GQ.iconst (pc' := 23) isNameChar_d22 rfl rfl ?_
    exact GQ.zret rfl isNameChar_d23
  refine GQ.iloadN (pc' := 13) isNameChar_d12 rfl rfl ?_
  refine GQ.bipush (pc' := 15) isNameChar_d13 rfl rfl ?_
  refine GQ.icmpT (pcT := 22) (pcF := 18) h_eq isNameChar_d15 rfl rfl rfl ?_ ?_
  · refine GQ.iconst (pc' := 23) isNameChar_d22 rfl rfl ?_
    exact GQ.zret rfl isNameChar_d23
  refine GQ.iconst (pc' := 19) isNameChar_d18 rfl rfl ?_
  refine GQ.goto (pc' := 23) isNameChar_d19 rfl rfl ?_
  exact GQ.zret rfl isNameChar_d23
def putNameChar_I : Mi := (⟨"SquashImage", "putNameChar", "(C)Z"⟩, prog_1_method_3_code, 2, (some .boolean), 1, 13)
theorem putNameChar_d0 : decode putNameChar_I.2.1 0 = .ok (.aload_n 0, 1) := by decide +kernel
theorem putNameChar_d1 : decode putNameChar_I.2.1 1 = .ok (.getfield 152, 3) := by decide +kernel
theorem putNameChar_d4 : decode putNameChar_I.2.1 4 = .ok (.ifCond .eq 5, 3) := by decide +kernel
theorem putNameChar_d7 : decode putNameChar_I.2.1 7 = .ok (.iconst 0, 1) := by decide +kernel
theorem putNameChar_d8 : decode putNameChar_I.2.1 8 = .ok (.ireturn, 1) := by decide +kernel
theorem putNameChar_d9 : decode putNameChar_I.2.1 9 = .ok (.aload_n 0, 1) := by decide +kernel
theorem putNameChar_d10 : decode putNameChar_I.2.1 10 = .ok (.iload_n 1, 1) := by decide +kernel
theorem putNameChar_d11 : decode putNameChar_I.2.1 11 = .ok (.invokevirtual 177, 3) := by decide +kernel
theorem putNameChar_d14 : decode putNameChar_I.2.1 14 = .ok (.ifCond .ne 5, 3) := by decide +kernel
theorem putNameChar_d17 : decode putNameChar_I.2.1 17 = .ok (.iconst 0, 1) := by decide +kernel
theorem putNameChar_d18 : decode putNameChar_I.2.1 18 = .ok (.ireturn, 1) := by decide +kernel
theorem putNameChar_d19 : decode putNameChar_I.2.1 19 = .ok (.aload_n 0, 1) := by decide +kernel
theorem putNameChar_d20 : decode putNameChar_I.2.1 20 = .ok (.getfield 159, 3) := by decide +kernel
theorem putNameChar_d23 : decode putNameChar_I.2.1 23 = .ok (.bipush 8, 2) := by decide +kernel
theorem putNameChar_d25 : decode putNameChar_I.2.1 25 = .ok (.if_icmp .lt 5, 3) := by decide +kernel
theorem putNameChar_d28 : decode putNameChar_I.2.1 28 = .ok (.iconst 0, 1) := by decide +kernel
theorem putNameChar_d29 : decode putNameChar_I.2.1 29 = .ok (.ireturn, 1) := by decide +kernel
theorem putNameChar_d30 : decode putNameChar_I.2.1 30 = .ok (.aload_n 0, 1) := by decide +kernel
theorem putNameChar_d31 : decode putNameChar_I.2.1 31 = .ok (.getfield 112, 3) := by decide +kernel
theorem putNameChar_d34 : decode putNameChar_I.2.1 34 = .ok (.aload_n 0, 1) := by decide +kernel
theorem putNameChar_d35 : decode putNameChar_I.2.1 35 = .ok (.getfield 159, 3) := by decide +kernel
theorem putNameChar_d38 : decode putNameChar_I.2.1 38 = .ok (.iload_n 1, 1) := by decide +kernel
theorem putNameChar_d39 : decode putNameChar_I.2.1 39 = .ok (.castore, 1) := by decide +kernel
theorem putNameChar_d40 : decode putNameChar_I.2.1 40 = .ok (.aload_n 0, 1) := by decide +kernel
theorem putNameChar_d41 : decode putNameChar_I.2.1 41 = .ok (.dup, 1) := by decide +kernel
theorem putNameChar_d42 : decode putNameChar_I.2.1 42 = .ok (.getfield 159, 3) := by decide +kernel
theorem putNameChar_d45 : decode putNameChar_I.2.1 45 = .ok (.iconst 1, 1) := by decide +kernel
theorem putNameChar_d46 : decode putNameChar_I.2.1 46 = .ok (.iadd, 1) := by decide +kernel
theorem putNameChar_d47 : decode putNameChar_I.2.1 47 = .ok (.putfield 159, 3) := by decide +kernel
theorem putNameChar_d50 : decode putNameChar_I.2.1 50 = .ok (.iconst 1, 1) := by decide +kernel
theorem putNameChar_d51 : decode putNameChar_I.2.1 51 = .ok (.ireturn, 1) := by decide +kernel
theorem putNameChar_p : parseMethodDescriptor putNameChar_I.1.desc = some ⟨[.char], (some .boolean)⟩ := by decide +kernel
theorem putNameChar_K {a0 : Array Value} {Z : State} {M : Mi} (hw : Words a0 Z) (h : putNameChar_I.2.2.2.2.1 + 1 ≤ M.2.2.2.2.1) : Callee a0 Z M putNameChar_I 1 := ⟨pnC, (wd126 hw), (wd2 hw), h, by decide, fun sig q => by cases putNameChar_p.symm.trans q; rfl⟩
set_option maxRecDepth 65536 in
set_option maxHeartbeats 4000000 in
theorem putNameChar_M_ok {l : Launch} {Z : State} {a0 : Array Value} {n0 : Nat} {cv : Nat → Nat} {h0 : Heap} (hw : Words a0 Z) (K : KA a0 Z n0 CN nI FF cv) (x1 : Int) (s : Obj) : GQ (XA l Z n0 CN FF cv h0) putNameChar_I 0 0 0 (entry [Rf 0, I x1] putNameChar_I.2.2.1) [] s (putNameChar_M x1 s) := by
  show GQ _ _ _ _ 0 [some (Rf 0), some (I x1)] [] _ _
  unfold putNameChar_M
  refine GQ.aloadN (pc' := 1) putNameChar_d0 rfl rfl ?_
  refine GQ.getI (M := putNameChar_I) (k := 30) (pc' := 4) rfl (wd106 hw) putNameChar_d1 rfl ?_
  refine GQ.ifT (pcT := 9) (pcF := 7) h_eq putNameChar_d4 rfl rfl rfl ?_ ?_
  · refine GQ.aloadN (pc' := 10) putNameChar_d9 rfl rfl ?_
    refine GQ.iloadN (pc' := 11) putNameChar_d10 rfl rfl ?_
    refine GQ.callP (Mc := isNameChar_I) (args0 := [I x1]) (S := []) (r := 0) (pc' := 14) (isNameChar_K hw (by decide)) rfl putNameChar_d11 rfl (wd127 hw) (wd128 hw) (wd129 hw) (wd1 hw) XA.recv rfl (isNameChar_M_ok hw K x1 s) rfl (fun z11 s11 => ?_)
    show GQ (XA l Z n0 CN FF cv h0) putNameChar_I _ _ 14 [some (Rf 0), some (I x1)] [I z11] s11 _
    refine GQ.ifF (pcT := 19) (pcF := 17) h_ne putNameChar_d14 rfl rfl rfl ?_ ?_
    · refine GQ.aloadN (pc' := 20) putNameChar_d19 rfl rfl ?_
      refine GQ.getI (M := putNameChar_I) (k := 38) (pc' := 23) rfl (wd110 hw) putNameChar_d20 rfl ?_
      refine GQ.bipush (pc' := 25) putNameChar_d23 rfl rfl ?_
      refine GQ.icmpT (pcT := 30) (pcF := 28) h_lt putNameChar_d25 rfl rfl rfl ?_ ?_
      · refine GQ.aloadN (pc' := 31) putNameChar_d30 rfl rfl ?_
        refine GQ.getA (M := putNameChar_I) (k := 37) (pc' := 34) rfl (by decide) (wd78 hw) putNameChar_d31 rfl ?_
        refine GQ.aloadN (pc' := 35) putNameChar_d34 rfl rfl ?_
        refine GQ.getI (M := putNameChar_I) (k := 38) (pc' := 38) rfl (wd110 hw) putNameChar_d35 rfl ?_
        refine GQ.iloadN (pc' := 39) putNameChar_d38 rfl rfl ?_
        refine GQ.wr (k := 37) (ins := .castore) (pc' := 40) K rfl (by decide) (Or.inr (Or.inr (Or.inr ⟨rfl, rfl⟩))) putNameChar_d39 rfl (fun s39 => ?_)
        refine GQ.aloadN (pc' := 41) putNameChar_d40 rfl rfl ?_
        refine GQ.dupR (pc' := 42) putNameChar_d41 rfl ?_
        refine GQ.getI (M := putNameChar_I) (k := 38) (pc' := 45) rfl (wd110 hw) putNameChar_d42 rfl ?_
        refine GQ.iconst (pc' := 46) putNameChar_d45 rfl rfl ?_
        refine GQ.iadd (pc' := 47) putNameChar_d46 rfl ?_
        refine GQ.putI (M := putNameChar_I) (k := 38) (pc' := 50) K rfl (wd110 hw) (wd111 hw) putNameChar_d47 rfl ?_
        refine GQ.letM (fun s47 => ?_)
        refine GQ.iconst (pc' := 51) putNameChar_d50 rfl rfl ?_
        exact GQ.zret rfl putNameChar_d51
      refine GQ.iconst (pc' := 29) putNameChar_d28 rfl rfl ?_
      exact GQ.zret rfl putNameChar_d29
    refine GQ.iconst (pc' := 18) putNameChar_d17 rfl rfl ?_
    exact GQ.zret rfl putNameChar_d18
  refine GQ.iconst (pc' := 8) putNameChar_d7 rfl rfl ?_
  exact GQ.zret rfl putNameChar_d8
def isValid_I : Mi := (⟨"SquashImage", "isValid", "(I)Z"⟩, prog_1_method_53_code, 2, (some .boolean), 0, 0)
theorem isValid_d0 : decode isValid_I.2.1 0 = .ok (.iload_n 1, 1) := by decide +kernel
theorem isValid_d1 : decode isValid_I.2.1 1 = .ok (.ifCond .lt 21, 3) := by decide +kernel
theorem isValid_d4 : decode isValid_I.2.1 4 = .ok (.iload_n 1, 1) := by decide +kernel
theorem isValid_d5 : decode isValid_I.2.1 5 = .ok (.aload_n 0, 1) := by decide +kernel
theorem isValid_d6 : decode isValid_I.2.1 6 = .ok (.getfield 156, 3) := by decide +kernel
theorem isValid_d9 : decode isValid_I.2.1 9 = .ok (.if_icmp .ge 13, 3) := by decide +kernel
theorem isValid_d12 : decode isValid_I.2.1 12 = .ok (.iload_n 1, 1) := by decide +kernel
theorem isValid_d13 : decode isValid_I.2.1 13 = .ok (.bipush 16, 2) := by decide +kernel
theorem isValid_d15 : decode isValid_I.2.1 15 = .ok (.if_icmp .ge 7, 3) := by decide +kernel
theorem isValid_d18 : decode isValid_I.2.1 18 = .ok (.iconst 1, 1) := by decide +kernel
theorem isValid_d19 : decode isValid_I.2.1 19 = .ok (.goto 4, 3) := by decide +kernel
theorem isValid_d22 : decode isValid_I.2.1 22 = .ok (.iconst 0, 1) := by decide +kernel
theorem isValid_d23 : decode isValid_I.2.1 23 = .ok (.ireturn, 1) := by decide +kernel
theorem isValid_p : parseMethodDescriptor isValid_I.1.desc = some ⟨[.int], (some .boolean)⟩ := by decide +kernel
theorem isValid_K {a0 : Array Value} {Z : State} {M : Mi} (hw : Words a0 Z) (h : isValid_I.2.2.2.2.1 + 1 ≤ M.2.2.2.2.1) : Callee a0 Z M isValid_I 1 := ⟨pnC, (wd143 hw), (wd2 hw), h, by decide, fun sig q => by cases isValid_p.symm.trans q; rfl⟩
set_option maxRecDepth 65536 in
set_option maxHeartbeats 4000000 in
theorem isValid_M_ok {l : Launch} {Z : State} {a0 : Array Value} {n0 : Nat} {cv : Nat → Nat} {h0 : Heap} (hw : Words a0 Z) (K : KA a0 Z n0 CN nI FF cv) (x1 : Int) (s : Obj) : GQ (XA l Z n0 CN FF cv h0) isValid_I 0 0 0 (entry [Rf 0, I x1] isValid_I.2.2.1) [] s (isValid_M x1 s) := by
  show GQ _ _ _ _ 0 [some (Rf 0), some (I x1)] [] _ _
  unfold isValid_M
  refine GQ.iloadN (pc' := 1) isValid_d0 rfl rfl ?_
  refine GQ.ifT (pcT := 22) (pcF := 4) h_lt isValid_d1 rfl rfl rfl ?_ ?_
  · refine GQ.iconst (pc' := 23) isValid_d22 rfl rfl ?_
    exact GQ.zret rfl isValid_d23
  refine GQ.iloadN (pc' := 5) isValid_d4 rfl rfl ?_
  refine GQ.aloadN (pc' := 6) isValid_d5 rfl rfl ?_
  refine GQ.getI (M := isValid_I) (k := 31) (pc' := 9) rfl (wd108 hw) isValid_d6 rfl ?_
  refine GQ.icmpF (pcT := 22) (pcF := 12) h_ge isValid_d9 rfl rfl rfl ?_ ?_
  · refine GQ.iconst (pc' := 23) isValid_d22 rfl rfl ?_
    exact GQ.zret rfl isValid_d23
  refine GQ.iloadN (pc' := 13) isValid_d12 rfl rfl ?_
  refine GQ.bipush (pc' := 15) isValid_d13 rfl rfl ?_
  refine GQ.icmpF (pcT := 22) (pcF := 18) h_ge isValid_d15 rfl rfl rfl ?_ ?_
  · refine GQ.iconst (pc' := 23) isValid_d22 rfl rfl ?_
    exact GQ.zret rfl isValid_d23
  refine GQ.iconst (pc' := 19) isValid_d18 rfl rfl ?_
  refine GQ.goto (pc' := 23) isValid_d19 rfl rfl ?_
  exact GQ.zret rfl isValid_d23
def isDir_I : Mi := (⟨"SquashImage", "isDir", "(I)Z"⟩, prog_1_method_55_code, 2, (some .boolean), 1, 13)
theorem isDir_d0 : decode isDir_I.2.1 0 = .ok (.aload_n 0, 1) := by decide +kernel
theorem isDir_d1 : decode isDir_I.2.1 1 = .ok (.iload_n 1, 1) := by decide +kernel
theorem isDir_d2 : decode isDir_I.2.1 2 = .ok (.invokevirtual 325, 3) := by decide +kernel
theorem isDir_d5 : decode isDir_I.2.1 5 = .ok (.ifCond .eq 17, 3) := by decide +kernel
theorem isDir_d8 : decode isDir_I.2.1 8 = .ok (.aload_n 0, 1) := by decide +kernel
theorem isDir_d9 : decode isDir_I.2.1 9 = .ok (.getfield 94, 3) := by decide +kernel
theorem isDir_d12 : decode isDir_I.2.1 12 = .ok (.iload_n 1, 1) := by decide +kernel
theorem isDir_d13 : decode isDir_I.2.1 13 = .ok (.baload, 1) := by decide +kernel
theorem isDir_d14 : decode isDir_I.2.1 14 = .ok (.iconst 1, 1) := by decide +kernel
theorem isDir_d15 : decode isDir_I.2.1 15 = .ok (.if_icmp .ne 7, 3) := by decide +kernel
theorem isDir_d18 : decode isDir_I.2.1 18 = .ok (.iconst 1, 1) := by decide +kernel
theorem isDir_d19 : decode isDir_I.2.1 19 = .ok (.goto 4, 3) := by decide +kernel
theorem isDir_d22 : decode isDir_I.2.1 22 = .ok (.iconst 0, 1) := by decide +kernel
theorem isDir_d23 : decode isDir_I.2.1 23 = .ok (.ireturn, 1) := by decide +kernel
theorem isDir_p : parseMethodDescriptor isDir_I.1.desc = some ⟨[.int], (some .boolean)⟩ := by decide +kernel
theorem isDir_K {a0 : Array Value} {Z : State} {M : Mi} (hw : Words a0 Z) (h : isDir_I.2.2.2.2.1 + 1 ≤ M.2.2.2.2.1) : Callee a0 Z M isDir_I 1 := ⟨pnC, (wd139 hw), (wd2 hw), h, by decide, fun sig q => by cases isDir_p.symm.trans q; rfl⟩
set_option maxRecDepth 65536 in
set_option maxHeartbeats 4000000 in
theorem isDir_M_ok {l : Launch} {Z : State} {a0 : Array Value} {n0 : Nat} {cv : Nat → Nat} {h0 : Heap} (hw : Words a0 Z) (K : KA a0 Z n0 CN nI FF cv) (x1 : Int) (s : Obj) : GQ (XA l Z n0 CN FF cv h0) isDir_I 0 0 0 (entry [Rf 0, I x1] isDir_I.2.2.1) [] s (isDir_M x1 s) := by
  show GQ _ _ _ _ 0 [some (Rf 0), some (I x1)] [] _ _
  unfold isDir_M
  refine GQ.aloadN (pc' := 1) isDir_d0 rfl rfl ?_
  refine GQ.iloadN (pc' := 2) isDir_d1 rfl rfl ?_
  refine GQ.callP (Mc := isValid_I) (args0 := [I x1]) (S := []) (r := 0) (pc' := 5) (isValid_K hw (by decide)) rfl isDir_d2 rfl (wd140 hw) (wd141 hw) (wd142 hw) (wd1 hw) XA.recv rfl (isValid_M_ok hw K x1 s) rfl (fun z2 s2 => ?_)
  show GQ (XA l Z n0 CN FF cv h0) isDir_I _ _ 5 [some (Rf 0), some (I x1)] [I z2] s2 _
  refine GQ.ifT (pcT := 22) (pcF := 8) h_eq isDir_d5 rfl rfl rfl ?_ ?_
  · refine GQ.iconst (pc' := 23) isDir_d22 rfl rfl ?_
    exact GQ.zret rfl isDir_d23
  refine GQ.aloadN (pc' := 9) isDir_d8 rfl rfl ?_
  refine GQ.getA (M := isDir_I) (k := 32) (pc' := 12) rfl (by decide) (wd66 hw) isDir_d9 rfl ?_
  refine GQ.iloadN (pc' := 13) isDir_d12 rfl rfl ?_
  refine GQ.rd (k := 32) (ins := .baload) (pc' := 14) rfl (by decide) (Or.inr (Or.inl ⟨rfl, rfl⟩)) isDir_d13 rfl (fun z13 => ?_)
  refine GQ.iconst (pc' := 15) isDir_d14 rfl rfl ?_
  refine GQ.icmpF (pcT := 22) (pcF := 18) h_ne isDir_d15 rfl rfl rfl ?_ ?_
  · refine GQ.iconst (pc' := 23) isDir_d22 rfl rfl ?_
    exact GQ.zret rfl isDir_d23
  refine GQ.iconst (pc' := 19) isDir_d18 rfl rfl ?_
  refine GQ.goto (pc' := 23) isDir_d19 rfl rfl ?_
  exact GQ.zret rfl isDir_d23
def findChildByNameBuf_I : Mi := (⟨"SquashImage", "findChildByNameBuf", "(II)I"⟩, prog_1_method_6_code, 4, (some .int), 0, 0)
theorem findChildByNameBuf_d0 : decode findChildByNameBuf_I.2.1 0 = .ok (.iconst 1, 1) := by decide +kernel
theorem findChildByNameBuf_d1 : decode findChildByNameBuf_I.2.1 1 = .ok (.istore_n 3, 1) := by decide +kernel
theorem findChildByNameBuf_d2 : decode findChildByNameBuf_I.2.1 2 = .ok (.iload_n 3, 1) := by decide +kernel
theorem findChildByNameBuf_d3 : decode findChildByNameBuf_I.2.1 3 = .ok (.aload_n 0, 1) := by decide +kernel
theorem findChildByNameBuf_d4 : decode findChildByNameBuf_I.2.1 4 = .ok (.getfield 156, 3) := by decide +kernel
theorem findChildByNameBuf_d7 : decode findChildByNameBuf_I.2.1 7 = .ok (.if_icmp .ge 36, 3) := by decide +kernel
theorem findChildByNameBuf_d10 : decode findChildByNameBuf_I.2.1 10 = .ok (.iload_n 3, 1) := by decide +kernel
theorem findChildByNameBuf_d11 : decode findChildByNameBuf_I.2.1 11 = .ok (.bipush 16, 2) := by decide +kernel
theorem findChildByNameBuf_d13 : decode findChildByNameBuf_I.2.1 13 = .ok (.if_icmp .ge 30, 3) := by decide +kernel
theorem findChildByNameBuf_d16 : decode findChildByNameBuf_I.2.1 16 = .ok (.aload_n 0, 1) := by decide +kernel
theorem findChildByNameBuf_d17 : decode findChildByNameBuf_I.2.1 17 = .ok (.getfield 98, 3) := by decide +kernel
theorem findChildByNameBuf_d20 : decode findChildByNameBuf_I.2.1 20 = .ok (.iload_n 3, 1) := by decide +kernel
theorem findChildByNameBuf_d21 : decode findChildByNameBuf_I.2.1 21 = .ok (.baload, 1) := by decide +kernel
theorem findChildByNameBuf_d22 : decode findChildByNameBuf_I.2.1 22 = .ok (.iload_n 1, 1) := by decide +kernel
theorem findChildByNameBuf_d23 : decode findChildByNameBuf_I.2.1 23 = .ok (.if_icmp .ne 14, 3) := by decide +kernel
theorem findChildByNameBuf_d26 : decode findChildByNameBuf_I.2.1 26 = .ok (.aload_n 0, 1) := by decide +kernel
theorem findChildByNameBuf_d27 : decode findChildByNameBuf_I.2.1 27 = .ok (.iload_n 3, 1) := by decide +kernel
theorem findChildByNameBuf_d28 : decode findChildByNameBuf_I.2.1 28 = .ok (.iload_n 2, 1) := by decide +kernel
theorem findChildByNameBuf_d29 : decode findChildByNameBuf_I.2.1 29 = .ok (.invokevirtual 191, 3) := by decide +kernel
theorem findChildByNameBuf_d32 : decode findChildByNameBuf_I.2.1 32 = .ok (.ifCond .eq 5, 3) := by decide +kernel
theorem findChildByNameBuf_d35 : decode findChildByNameBuf_I.2.1 35 = .ok (.iload_n 3, 1) := by decide +kernel
theorem findChildByNameBuf_d36 : decode findChildByNameBuf_I.2.1 36 = .ok (.ireturn, 1) := by decide +kernel
theorem findChildByNameBuf_d37 : decode findChildByNameBuf_I.2.1 37 = .ok (.iinc 3 1, 3) := by decide +kernel
theorem findChildByNameBuf_d40 : decode findChildByNameBuf_I.2.1 40 = .ok (.goto (-38), 3) := by decide +kernel
theorem findChildByNameBuf_d43 : decode findChildByNameBuf_I.2.1 43 = .ok (.iconst (-1), 1) := by decide +kernel
theorem findChildByNameBuf_d44 : decode findChildByNameBuf_I.2.1 44 = .ok (.ireturn, 1) := by decide +kernel
theorem findChildByNameBuf_p : parseMethodDescriptor findChildByNameBuf_I.1.desc = some ⟨[.int, .int], (some .int)⟩ := by decide +kernel
theorem findChildByNameBuf_K {a0 : Array Value} {Z : State} {M : Mi} (hw : Words a0 Z) (h : findChildByNameBuf_I.2.2.2.2.1 + 1 ≤ M.2.2.2.2.1) : Callee a0 Z M findChildByNameBuf_I 2 := ⟨pnC, (wd147 hw), (wd2 hw), h, by decide, fun sig q => by cases findChildByNameBuf_p.symm.trans q; rfl⟩
set_option maxRecDepth 65536 in
set_option maxHeartbeats 4000000 in
theorem findChildByNameBuf_j37_ok {l : Launch} {Z : State} {a0 : Array Value} {n0 : Nat} {cv : Nat → Nat} {h0 : Heap} (hw : Words a0 Z) (K : KA a0 Z n0 CN nI FF cv) {x1 x2 : Int} {rec : Int → Obj → Option (Int × Obj)} (hrec : ∀ (x3 : Int) (s : Obj), GQ (XA l Z n0 CN FF cv h0) findChildByNameBuf_I 0 0 2 [some (Rf 0), some (I x1), some (I x2), some (I x3)] [] s (rec x3 s)) (x3 : Int) (s : Obj) : GQ (XA l Z n0 CN FF cv h0) findChildByNameBuf_I 0 0 37 [some (Rf 0), some (I x1), some (I x2), some (I x3)] [] s (findChildByNameBuf_j37 rec x1 x2 x3 s) := by
  unfold findChildByNameBuf_j37
  refine GQ.iinc (L' := [some (Rf 0), some (I x1), some (I x2), some (I (aAdd x3 1))]) (pc' := 40) findChildByNameBuf_d37 rfl rfl rfl rfl ?_
  refine GQ.goto (pc' := 2) findChildByNameBuf_d40 rfl rfl ?_
  exact hrec (aAdd x3 1) s
set_option maxRecDepth 65536 in
set_option maxHeartbeats 4000000 in
theorem findChildByNameBuf_l2b_ok {l : Launch} {Z : State} {a0 : Array Value} {n0 : Nat} {cv : Nat → Nat} {h0 : Heap} (hw : Words a0 Z) (K : KA a0 Z n0 CN nI FF cv) (x1 : Int) (x2 : Int) {rec : Int → Obj → Option (Int × Obj)} (hrec : ∀ (x3 : Int) (s : Obj), GQ (XA l Z n0 CN FF cv h0) findChildByNameBuf_I 0 0 2 [some (Rf 0), some (I x1), some (I x2), some (I x3)] [] s (rec x3 s)) (x3 : Int) (s : Obj) : GQ (XA l Z n0 CN FF cv h0) findChildByNameBuf_I 0 0 2 [some (Rf 0), some (I x1), some (I x2), some (I x3)] [] s (findChildByNameBuf_l2b x1 x2 rec x3 s) := by
  unfold findChildByNameBuf_l2b
  refine GQ.iloadN (pc' := 3) findChildByNameBuf_d2 rfl rfl ?_
  refine GQ.aloadN (pc' := 4) findChildByNameBuf_d3 rfl rfl ?_
  refine GQ.getI (M := findChildByNameBuf_I) (k := 31) (pc' := 7) rfl (wd108 hw) findChildByNameBuf_d4 rfl ?_
  refine GQ.icmpF (pcT := 43) (pcF := 10) h_ge findChildByNameBuf_d7 rfl rfl rfl ?_ ?_
  · refine GQ.iconst (pc' := 44) findChildByNameBuf_d43 rfl rfl ?_
    exact GQ.iret rfl findChildByNameBuf_d44
  refine GQ.iloadN (pc' := 11) findChildByNameBuf_d10 rfl rfl ?_
  refine GQ.bipush (pc' := 13) findChildByNameBuf_d11 rfl rfl ?_
  refine GQ.icmpF (pcT := 43) (pcF := 16) h_ge findChildByNameBuf_d13 rfl rfl rfl ?_ ?_
  · refine GQ.iconst (pc' := 44) findChildByNameBuf_d43 rfl rfl ?_
    exact GQ.iret rfl findChildByNameBuf_d44
  refine GQ.aloadN (pc' := 17) findChildByNameBuf_d16 rfl rfl ?_
  refine GQ.getA (M := findChildByNameBuf_I) (k := 33) (pc' := 20) rfl (by decide) (wd68 hw) findChildByNameBuf_d17 rfl ?_
  refine GQ.iloadN (pc' := 21) findChildByNameBuf_d20 rfl rfl ?_
  refine GQ.rd (k := 33) (ins := .baload) (pc' := 22) rfl (by decide) (Or.inr (Or.inl ⟨rfl, rfl⟩)) findChildByNameBuf_d21 rfl (fun z21 => ?_)
  refine GQ.iloadN (pc' := 23) findChildByNameBuf_d22 rfl rfl ?_
  refine GQ.icmpF (pcT := 37) (pcF := 26) h_ne findChildByNameBuf_d23 rfl rfl rfl ?_ ?_
  · exact findChildByNameBuf_j37_ok hw K hrec x3 s
  refine GQ.aloadN (pc' := 27) findChildByNameBuf_d26 rfl rfl ?_
  refine GQ.iloadN (pc' := 28) findChildByNameBuf_d27 rfl rfl ?_
  refine GQ.iloadN (pc' := 29) findChildByNameBuf_d28 rfl rfl ?_
  exact GQ.no
set_option maxRecDepth 65536 in
set_option maxHeartbeats 4000000 in
theorem findChildByNameBuf_l2_ok {l : Launch} {Z : State} {a0 : Array Value} {n0 : Nat} {cv : Nat → Nat} {h0 : Heap} (hw : Words a0 Z) (K : KA a0 Z n0 CN nI FF cv) (x1 : Int) (x2 : Int) : ∀ (fu : Nat) (x3 : Int) (s : Obj), GQ (XA l Z n0 CN FF cv h0) findChildByNameBuf_I 0 0 2 [some (Rf 0), some (I x1), some (I x2), some (I x3)] [] s (findChildByNameBuf_l2 x1 x2 fu x3 s)
  | 0 => fun _ _ => GQ.no
  | fu + 1 => findChildByNameBuf_l2b_ok hw K x1 x2 (findChildByNameBuf_l2_ok hw K x1 x2 fu)
set_option maxRecDepth 65536 in
set_option maxHeartbeats 4000000 in
theorem findChildByNameBuf_M_ok {l : Launch} {Z : State} {a0 : Array Value} {n0 : Nat} {cv : Nat → Nat} {h0 : Heap} (hw : Words a0 Z) (K : KA a0 Z n0 CN nI FF cv) (x1 : Int) (x2 : Int) (s : Obj) : GQ (XA l Z n0 CN FF cv h0) findChildByNameBuf_I 0 0 0 (entry [Rf 0, I x1, I x2] findChildByNameBuf_I.2.2.1) [] s (findChildByNameBuf_M x1 x2 s) := by
  show GQ _ _ _ _ 0 [some (Rf 0), some (I x1), some (I x2), none] [] _ _
  unfold findChildByNameBuf_M
  refine GQ.iconst (pc' := 1) findChildByNameBuf_d0 rfl rfl ?_
  refine GQ.istoreN (L' := [some (Rf 0), some (I x1), some (I x2), some (I 1)]) (pc' := 2) findChildByNameBuf_d1 rfl rfl rfl ?_
  exact findChildByNameBuf_l2_ok hw K x1 x2 FU 1 s
def addNode_I : Mi := (⟨"SquashImage", "addNode", "(III)I"⟩, prog_1_method_8_code, 6, (some .int), 0, 0)
theorem addNode_d0 : decode addNode_I.2.1 0 = .ok (.aload_n 0, 1) := by decide +kernel
theorem addNode_d1 : decode addNode_I.2.1 1 = .ok (.getfield 156, 3) := by decide +kernel
theorem addNode_d4 : decode addNode_I.2.1 4 = .ok (.istore 4, 2) := by decide +kernel
theorem addNode_d6 : decode addNode_I.2.1 6 = .ok (.iload 4, 2) := by decide +kernel
theorem addNode_d8 : decode addNode_I.2.1 8 = .ok (.ifCond .lt 10, 3) := by decide +kernel
theorem addNode_d11 : decode addNode_I.2.1 11 = .ok (.iload 4, 2) := by decide +kernel
theorem addNode_d13 : decode addNode_I.2.1 13 = .ok (.bipush 16, 2) := by decide +kernel
theorem addNode_d15 : decode addNode_I.2.1 15 = .ok (.if_icmp .lt 6, 3) := by decide +kernel
theorem addNode_d18 : decode addNode_I.2.1 18 = .ok (.bipush (-6), 2) := by decide +kernel
theorem addNode_d20 : decode addNode_I.2.1 20 = .ok (.ireturn, 1) := by decide +kernel
theorem addNode_d21 : decode addNode_I.2.1 21 = .ok (.aload_n 0, 1) := by decide +kernel
theorem addNode_d22 : decode addNode_I.2.1 22 = .ok (.getfield 94, 3) := by decide +kernel
theorem addNode_d25 : decode addNode_I.2.1 25 = .ok (.iload 4, 2) := by decide +kernel
theorem addNode_d27 : decode addNode_I.2.1 27 = .ok (.iload_n 2, 1) := by decide +kernel
theorem addNode_d28 : decode addNode_I.2.1 28 = .ok (.i2b, 1) := by decide +kernel
theorem addNode_d29 : decode addNode_I.2.1 29 = .ok (.bastore, 1) := by decide +kernel
theorem addNode_d30 : decode addNode_I.2.1 30 = .ok (.aload_n 0, 1) := by decide +kernel
theorem addNode_d31 : decode addNode_I.2.1 31 = .ok (.getfield 98, 3) := by decide +kernel
theorem addNode_d34 : decode addNode_I.2.1 34 = .ok (.iload 4, 2) := by decide +kernel
theorem addNode_d36 : decode addNode_I.2.1 36 = .ok (.iload_n 1, 1) := by decide +kernel
theorem addNode_d37 : decode addNode_I.2.1 37 = .ok (.i2b, 1) := by decide +kernel
theorem addNode_d38 : decode addNode_I.2.1 38 = .ok (.bastore, 1) := by decide +kernel
theorem addNode_d39 : decode addNode_I.2.1 39 = .ok (.aload_n 0, 1) := by decide +kernel
theorem addNode_d40 : decode addNode_I.2.1 40 = .ok (.getfield 101, 3) := by decide +kernel
theorem addNode_d43 : decode addNode_I.2.1 43 = .ok (.iload 4, 2) := by decide +kernel
theorem addNode_d45 : decode addNode_I.2.1 45 = .ok (.iload_n 3, 1) := by decide +kernel
theorem addNode_d46 : decode addNode_I.2.1 46 = .ok (.i2b, 1) := by decide +kernel
theorem addNode_d47 : decode addNode_I.2.1 47 = .ok (.bastore, 1) := by decide +kernel
theorem addNode_d48 : decode addNode_I.2.1 48 = .ok (.iconst 0, 1) := by decide +kernel
theorem addNode_d49 : decode addNode_I.2.1 49 = .ok (.istore 5, 2) := by decide +kernel
theorem addNode_d51 : decode addNode_I.2.1 51 = .ok (.iload 5, 2) := by decide +kernel
theorem addNode_d53 : decode addNode_I.2.1 53 = .ok (.bipush 8, 2) := by decide +kernel
theorem addNode_d55 : decode addNode_I.2.1 55 = .ok (.if_icmp .ge 39, 3) := by decide +kernel
theorem addNode_d58 : decode addNode_I.2.1 58 = .ok (.aload_n 0, 1) := by decide +kernel
theorem addNode_d59 : decode addNode_I.2.1 59 = .ok (.getfield 104, 3) := by decide +kernel
theorem addNode_d62 : decode addNode_I.2.1 62 = .ok (.iload 4, 2) := by decide +kernel
theorem addNode_d64 : decode addNode_I.2.1 64 = .ok (.bipush 8, 2) := by decide +kernel
theorem addNode_d66 : decode addNode_I.2.1 66 = .ok (.imul, 1) := by decide +kernel
theorem addNode_d67 : decode addNode_I.2.1 67 = .ok (.iload 5, 2) := by decide +kernel
theorem addNode_d69 : decode addNode_I.2.1 69 = .ok (.iadd, 1) := by decide +kernel
theorem addNode_d70 : decode addNode_I.2.1 70 = .ok (.iload 5, 2) := by decide +kernel
theorem addNode_d72 : decode addNode_I.2.1 72 = .ok (.iload_n 3, 1) := by decide +kernel
theorem addNode_d73 : decode addNode_I.2.1 73 = .ok (.if_icmp .ge 13, 3) := by decide +kernel
theorem addNode_d76 : decode addNode_I.2.1 76 = .ok (.aload_n 0, 1) := by decide +kernel
theorem addNode_d77 : decode addNode_I.2.1 77 = .ok (.getfield 112, 3) := by decide +kernel
theorem addNode_d80 : decode addNode_I.2.1 80 = .ok (.iload 5, 2) := by decide +kernel
theorem addNode_d82 : decode addNode_I.2.1 82 = .ok (.caload, 1) := by decide +kernel
theorem addNode_d83 : decode addNode_I.2.1 83 = .ok (.goto 4, 3) := by decide +kernel
theorem addNode_d86 : decode addNode_I.2.1 86 = .ok (.iconst 0, 1) := by decide +kernel
theorem addNode_d87 : decode addNode_I.2.1 87 = .ok (.castore, 1) := by decide +kernel
theorem addNode_d88 : decode addNode_I.2.1 88 = .ok (.iinc 5 1, 3) := by decide +kernel
theorem addNode_d91 : decode addNode_I.2.1 91 = .ok (.goto (-40), 3) := by decide +kernel
theorem addNode_d94 : decode addNode_I.2.1 94 = .ok (.aload_n 0, 1) := by decide +kernel
theorem addNode_d95 : decode addNode_I.2.1 95 = .ok (.getfield 108, 3) := by decide +kernel
theorem addNode_d98 : decode addNode_I.2.1 98 = .ok (.iload 4, 2) := by decide +kernel
theorem addNode_d100 : decode addNode_I.2.1 100 = .ok (.iconst 0, 1) := by decide +kernel
theorem addNode_d101 : decode addNode_I.2.1 101 = .ok (.iastore, 1) := by decide +kernel
theorem addNode_d102 : decode addNode_I.2.1 102 = .ok (.aload_n 0, 1) := by decide +kernel
theorem addNode_d103 : decode addNode_I.2.1 103 = .ok (.iload 4, 2) := by decide +kernel
theorem addNode_d105 : decode addNode_I.2.1 105 = .ok (.iconst 1, 1) := by decide +kernel
theorem addNode_d106 : decode addNode_I.2.1 106 = .ok (.iadd, 1) := by decide +kernel
theorem addNode_d107 : decode addNode_I.2.1 107 = .ok (.putfield 156, 3) := by decide +kernel
theorem addNode_d110 : decode addNode_I.2.1 110 = .ok (.iload 4, 2) := by decide +kernel
theorem addNode_d112 : decode addNode_I.2.1 112 = .ok (.ireturn, 1) := by decide +kernel
theorem addNode_p : parseMethodDescriptor addNode_I.1.desc = some ⟨[.int, .int, .int], (some .int)⟩ := by decide +kernel
theorem addNode_K {a0 : Array Value} {Z : State} {M : Mi} (hw : Words a0 Z) (h : addNode_I.2.2.2.2.1 + 1 ≤ M.2.2.2.2.1) : Callee a0 Z M addNode_I 3 := ⟨pnC, (wd151 hw), (wd2 hw), h, by decide, fun sig q => by cases addNode_p.symm.trans q; rfl⟩
set_option maxRecDepth 65536 in
set_option maxHeartbeats 4000000 in
theorem addNode_j87_ok {l : Launch} {Z : State} {a0 : Array Value} {n0 : Nat} {cv : Nat → Nat} {h0 : Heap} (hw : Words a0 Z) (K : KA a0 Z n0 CN nI FF cv) {x3 x4 : Int} {k94 : Obj → Option (Int × Obj)} {rec : Int → Obj → Option (Int × Obj)} (hk94 : ∀  (s : Obj), GQ (XA l Z n0 CN FF cv h0) addNode_I 0 0 94 [some (Rf 0), none, none, none, some (I x4), none] [] s (k94 s)) (hrec : ∀ (x5 : Int) (s : Obj), GQ (XA l Z n0 CN FF cv h0) addNode_I 0 0 51 [some (Rf 0), none, none, some (I x3), some (I x4), some (I x5)] [] s (rec x5 s)) (x5 : Int) (y0 : Int) (y1 : Int) (s : Obj) : GQ (XA l Z n0 CN FF cv h0) addNode_I 0 0 87 [some (Rf 0), none, none, some (I x3), some (I x4), some (I x5)] [I y0, I y1, Rf 36] s (addNode_j87 k94 rec x3 x4 x5 y0 y1 s) := by
  unfold addNode_j87
  refine GQ.wr (k := 35) (ins := .castore) (pc' := 88) K rfl (by decide) (Or.inr (Or.inr (Or.inr ⟨rfl, rfl⟩))) addNode_d87 rfl (fun s87 => ?_)
  refine GQ.iinc (L' := [some (Rf 0), none, none, some (I x3), some (I x4), some (I (aAdd x5 1))]) (pc' := 91) addNode_d88 rfl rfl rfl rfl ?_
  refine GQ.goto (pc' := 51) addNode_d91 rfl rfl ?_
  exact hrec (aAdd x5 1) s87
set_option maxRecDepth 65536 in
set_option maxHeartbeats 4000000 in
theorem addNode_l51b_ok {l : Launch} {Z : State} {a0 : Array Value} {n0 : Nat} {cv : Nat → Nat} {h0 : Heap} (hw : Words a0 Z) (K : KA a0 Z n0 CN nI FF cv) (x3 : Int) (x4 : Int) {k94 : Obj → Option (Int × Obj)} (hk94 : ∀  (s : Obj), GQ (XA l Z n0 CN FF cv h0) addNode_I 0 0 94 [some (Rf 0), none, none, none, some (I x4), none] [] s (k94 s)) {rec : Int → Obj → Option (Int × Obj)} (hrec : ∀ (x5 : Int) (s : Obj), GQ (XA l Z n0 CN FF cv h0) addNode_I 0 0 51 [some (Rf 0), none, none, some (I x3), some (I x4), some (I x5)] [] s (rec x5 s)) (x5 : Int) (s : Obj) : GQ (XA l Z n0 CN FF cv h0) addNode_I 0 0 51 [some (Rf 0), none, none, some (I x3), some (I x4), some (I x5)] [] s (addNode_l51b k94 x3 x4 rec x5 s) := by
  unfold addNode_l51b
  refine GQ.iload (pc' := 53) addNode_d51 rfl rfl ?_
  refine GQ.bipush (pc' := 55) addNode_d53 rfl rfl ?_
  refine GQ.icmpF (pcT := 94) (pcF := 58) h_ge addNode_d55 rfl rfl rfl ?_ ?_
  · refine GQ.weak (L' := [some (Rf 0), none, none, none, some (I x4), none]) (Sub.keep (Sub.keep (Sub.keep (Sub.drop (Sub.keep (Sub.drop Sub.nil)))))) ?_
    exact hk94 s
  refine GQ.aloadN (pc' := 59) addNode_d58 rfl rfl ?_
  refine GQ.getA (M := addNode_I) (k := 35) (pc' := 62) rfl (by decide) (wd73 hw) addNode_d59 rfl ?_
  refine GQ.iload (pc' := 64) addNode_d62 rfl rfl ?_
  refine GQ.bipush (pc' := 66) addNode_d64 rfl rfl ?_
  refine GQ.imul (pc' := 67) addNode_d66 rfl ?_
  refine GQ.iload (pc' := 69) addNode_d67 rfl rfl ?_
  refine GQ.iadd (pc' := 70) addNode_d69 rfl ?_
  refine GQ.iload (pc' := 72) addNode_d70 rfl rfl ?_
  refine GQ.iloadN (pc' := 73) addNode_d72 rfl rfl ?_
  refine GQ.icmpF (pcT := 86) (pcF := 76) h_ge addNode_d73 rfl rfl rfl ?_ ?_
  · refine GQ.iconst (pc' := 87) addNode_d86 rfl rfl ?_
    exact addNode_j87_ok hw K hk94 hrec x5 0 (aAdd (aMul x4 8) x5) s
  refine GQ.aloadN (pc' := 77) addNode_d76 rfl rfl ?_
  refine GQ.getA (M := addNode_I) (k := 37) (pc' := 80) rfl (by decide) (wd78 hw) addNode_d77 rfl ?_
  refine GQ.iload (pc' := 82) addNode_d80 rfl rfl ?_
  refine GQ.rd (k := 37) (ins := .caload) (pc' := 83) rfl (by decide) (Or.inr (Or.inr (Or.inr ⟨rfl, rfl⟩))) addNode_d82 rfl (fun z82 => ?_)
  refine GQ.goto (pc' := 87) addNode_d83 rfl rfl ?_
  exact addNode_j87_ok hw K hk94 hrec x5 z82 (aAdd (aMul x4 8) x5) s
set_option maxRecDepth 65536 in
set_option maxHeartbeats 4000000 in
theorem addNode_l51_ok {l : Launch} {Z : State} {a0 : Array Value} {n0 : Nat} {cv : Nat → Nat} {h0 : Heap} (hw : Words a0 Z) (K : KA a0 Z n0 CN nI FF cv) (x3 : Int) (x4 : Int) {k94 : Obj → Option (Int × Obj)} (hk94 : ∀  (s : Obj), GQ (XA l Z n0 CN FF cv h0) addNode_I 0 0 94 [some (Rf 0), none, none, none, some (I x4), none] [] s (k94 s)) : ∀ (fu : Nat) (x5 : Int) (s : Obj), GQ (XA l Z n0 CN FF cv h0) addNode_I 0 0 51 [some (Rf 0), none, none, some (I x3), some (I x4), some (I x5)] [] s (addNode_l51 k94 x3 x4 fu x5 s)
  | 0 => fun _ _ => GQ.no
  | fu + 1 => addNode_l51b_ok hw K x3 x4 hk94 (addNode_l51_ok hw K x3 x4 hk94 fu)
set_option maxRecDepth 65536 in
set_option maxHeartbeats 4000000 in
theorem addNode_M_ok {l : Launch} {Z : State} {a0 : Array Value} {n0 : Nat} {cv : Nat → Nat} {h0 : Heap} (hw : Words a0 Z) (K : KA a0 Z n0 CN nI FF cv) (x1 : Int) (x2 : Int) (x3 : Int) (s : Obj) : GQ (XA l Z n0 CN FF cv h0) addNode_I 0 0 0 (entry [Rf 0, I x1, I x2, I x3] addNode_I.2.2.1) [] s (addNode_M x1 x2 x3 s) := by
  show GQ _ _ _ _ 0 [some (Rf 0), some (I x1), some (I x2), some (I x3), none, none] [] _ _
  unfold addNode_M
  refine GQ.aloadN (pc' := 1) addNode_d0 rfl rfl ?_
  refine GQ.getI (M := addNode_I) (k := 31) (pc' := 4) rfl (wd108 hw) addNode_d1 rfl ?_
  refine GQ.letI (fun x4_4 => ?_)
  refine GQ.istore (L' := [some (Rf 0), some (I x1), some (I x2), some (I x3), some (I x4_4), none]) (pc' := 6) addNode_d4 rfl rfl rfl ?_
  refine GQ.iload (pc' := 8) addNode_d6 rfl rfl ?_
  refine GQ.ifT (pcT := 18) (pcF := 11) h_lt addNode_d8 rfl rfl rfl ?_ ?_
  · refine GQ.bipush (pc' := 20) addNode_d18 rfl rfl ?_
    exact GQ.iret rfl addNode_d20
  refine GQ.iload (pc' := 13) addNode_d11 rfl rfl ?_
  refine GQ.bipush (pc' := 15) addNode_d13 rfl rfl ?_
  refine GQ.icmpT (pcT := 21) (pcF := 18) h_lt addNode_d15 rfl rfl rfl ?_ ?_
  · refine GQ.aloadN (pc' := 22) addNode_d21 rfl rfl ?_
    refine GQ.getA (M := addNode_I) (k := 32) (pc' := 25) rfl (by decide) (wd66 hw) addNode_d22 rfl ?_
    refine GQ.iload (pc' := 27) addNode_d25 rfl rfl ?_
    refine GQ.iloadN (pc' := 28) addNode_d27 rfl rfl ?_
    refine GQ.i2b (pc' := 29) addNode_d28 rfl ?_
    refine GQ.wr (k := 32) (ins := .bastore) (pc' := 30) K rfl (by decide) (Or.inr (Or.inl ⟨rfl, rfl⟩)) addNode_d29 rfl (fun s29 => ?_)
    refine GQ.aloadN (pc' := 31) addNode_d30 rfl rfl ?_
    refine GQ.getA (M := addNode_I) (k := 33) (pc' := 34) rfl (by decide) (wd68 hw) addNode_d31 rfl ?_
    refine GQ.iload (pc' := 36) addNode_d34 rfl rfl ?_
    refine GQ.iloadN (pc' := 37) addNode_d36 rfl rfl ?_
    refine GQ.i2b (pc' := 38) addNode_d37 rfl ?_
    refine GQ.wr (k := 33) (ins := .bastore) (pc' := 39) K rfl (by decide) (Or.inr (Or.inl ⟨rfl, rfl⟩)) addNode_d38 rfl (fun s38 => ?_)
    refine GQ.aloadN (pc' := 40) addNode_d39 rfl rfl ?_
    refine GQ.getA (M := addNode_I) (k := 34) (pc' := 43) rfl (by decide) (wd70 hw) addNode_d40 rfl ?_
    refine GQ.iload (pc' := 45) addNode_d43 rfl rfl ?_
    refine GQ.iloadN (pc' := 46) addNode_d45 rfl rfl ?_
    refine GQ.i2b (pc' := 47) addNode_d46 rfl ?_
    refine GQ.wr (k := 34) (ins := .bastore) (pc' := 48) K rfl (by decide) (Or.inr (Or.inl ⟨rfl, rfl⟩)) addNode_d47 rfl (fun s47 => ?_)
    refine GQ.iconst (pc' := 49) addNode_d48 rfl rfl ?_
    refine GQ.istore (L' := [some (Rf 0), some (I x1), some (I x2), some (I x3), some (I x4_4), some (I 0)]) (pc' := 51) addNode_d49 rfl rfl rfl ?_
    refine GQ.weak (L' := [some (Rf 0), none, none, some (I x3), some (I x4_4), some (I 0)]) (Sub.keep (Sub.drop (Sub.drop (Sub.keep (Sub.keep (Sub.keep Sub.nil)))))) ?_
    refine addNode_l51_ok hw K x3 x4_4 (fun s94 => ?_) FU 0 s47
    refine GQ.aloadN (pc' := 95) addNode_d94 rfl rfl ?_
    refine GQ.getA (M := addNode_I) (k := 36) (pc' := 98) rfl (by decide) (wd76 hw) addNode_d95 rfl ?_
    refine GQ.iload (pc' := 100) addNode_d98 rfl rfl ?_
    refine GQ.iconst (pc' := 101) addNode_d100 rfl rfl ?_
    refine GQ.wr (k := 36) (ins := .iastore) (pc' := 102) K rfl (by decide) (Or.inl ⟨rfl, rfl⟩) addNode_d101 rfl (fun s101 => ?_)
    refine GQ.aloadN (pc' := 103) addNode_d102 rfl rfl ?_
    refine GQ.iload (pc' := 105) addNode_d103 rfl rfl ?_
    refine GQ.iconst (pc' := 106) addNode_d105 rfl rfl ?_
    refine GQ.iadd (pc' := 107) addNode_d106 rfl ?_
    refine GQ.putI (M := addNode_I) (k := 31) (pc' := 110) K rfl (wd108 hw) (wd109 hw) addNode_d107 rfl ?_
    refine GQ.letM (fun s107 => ?_)
    refine GQ.iload (pc' := 112) addNode_d110 rfl rfl ?_
    exact GQ.iret rfl addNode_d112
  refine GQ.bipush (pc' := 20) addNode_d18 rfl rfl ?_
  exact GQ.iret rfl addNode_d20
def create_I : Mi := (⟨"SquashImage", "create", "(II)I"⟩, prog_1_method_5_code, 4, (some .int), 2, 26)
theorem create_d0 : decode create_I.2.1 0 = .ok (.aload_n 0, 1) := by decide +kernel
theorem create_d1 : decode create_I.2.1 1 = .ok (.getfield 152, 3) := by decide +kernel
theorem create_d4 : decode create_I.2.1 4 = .ok (.ifCond .eq 5, 3) := by decide +kernel
theorem create_d7 : decode create_I.2.1 7 = .ok (.iconst (-1), 1) := by decide +kernel
theorem create_d8 : decode create_I.2.1 8 = .ok (.ireturn, 1) := by decide +kernel
theorem create_d9 : decode create_I.2.1 9 = .ok (.aload_n 0, 1) := by decide +kernel
theorem create_d10 : decode create_I.2.1 10 = .ok (.getfield 159, 3) := by decide +kernel
theorem create_d13 : decode create_I.2.1 13 = .ok (.istore_n 3, 1) := by decide +kernel
theorem create_d14 : decode create_I.2.1 14 = .ok (.aload_n 0, 1) := by decide +kernel
theorem create_d15 : decode create_I.2.1 15 = .ok (.iconst 0, 1) := by decide +kernel
theorem create_d16 : decode create_I.2.1 16 = .ok (.putfield 159, 3) := by decide +kernel
theorem create_d19 : decode create_I.2.1 19 = .ok (.iload_n 2, 1) := by decide +kernel
theorem create_d20 : decode create_I.2.1 20 = .ok (.iconst 1, 1) := by decide +kernel
theorem create_d21 : decode create_I.2.1 21 = .ok (.if_icmp .eq 11, 3) := by decide +kernel
theorem create_d24 : decode create_I.2.1 24 = .ok (.iload_n 2, 1) := by decide +kernel
theorem create_d25 : decode create_I.2.1 25 = .ok (.iconst 2, 1) := by decide +kernel
theorem create_d26 : decode create_I.2.1 26 = .ok (.if_icmp .eq 6, 3) := by decide +kernel
theorem create_d29 : decode create_I.2.1 29 = .ok (.bipush (-3), 2) := by decide +kernel
theorem create_d31 : decode create_I.2.1 31 = .ok (.ireturn, 1) := by decide +kernel
theorem create_d32 : decode create_I.2.1 32 = .ok (.aload_n 0, 1) := by decide +kernel
theorem create_d33 : decode create_I.2.1 33 = .ok (.iload_n 1, 1) := by decide +kernel
theorem create_d34 : decode create_I.2.1 34 = .ok (.invokevirtual 181, 3) := by decide +kernel
theorem create_d37 : decode create_I.2.1 37 = .ok (.ifCond .ne 6, 3) := by decide +kernel
theorem create_d40 : decode create_I.2.1 40 = .ok (.bipush (-2), 2) := by decide +kernel
theorem create_d42 : decode create_I.2.1 42 = .ok (.ireturn, 1) := by decide +kernel
theorem create_d43 : decode create_I.2.1 43 = .ok (.iload_n 3, 1) := by decide +kernel
theorem create_d44 : decode create_I.2.1 44 = .ok (.ifCond .ne 6, 3) := by decide +kernel
theorem create_d47 : decode create_I.2.1 47 = .ok (.bipush (-4), 2) := by decide +kernel
theorem create_d49 : decode create_I.2.1 49 = .ok (.ireturn, 1) := by decide +kernel
theorem create_d50 : decode create_I.2.1 50 = .ok (.aload_n 0, 1) := by decide +kernel
theorem create_d51 : decode create_I.2.1 51 = .ok (.iload_n 1, 1) := by decide +kernel
theorem create_d52 : decode create_I.2.1 52 = .ok (.iload_n 3, 1) := by decide +kernel
theorem create_d53 : decode create_I.2.1 53 = .ok (.invokevirtual 184, 3) := by decide +kernel
theorem create_d56 : decode create_I.2.1 56 = .ok (.ifCond .lt 6, 3) := by decide +kernel
theorem create_d59 : decode create_I.2.1 59 = .ok (.bipush (-5), 2) := by decide +kernel
theorem create_d61 : decode create_I.2.1 61 = .ok (.ireturn, 1) := by decide +kernel
theorem create_d62 : decode create_I.2.1 62 = .ok (.aload_n 0, 1) := by decide +kernel
theorem create_d63 : decode create_I.2.1 63 = .ok (.getfield 156, 3) := by decide +kernel
theorem create_d66 : decode create_I.2.1 66 = .ok (.aload_n 0, 1) := by decide +kernel
theorem create_d67 : decode create_I.2.1 67 = .ok (.getfield 149, 3) := by decide +kernel
theorem create_d70 : decode create_I.2.1 70 = .ok (.if_icmp .lt 6, 3) := by decide +kernel
theorem create_d73 : decode create_I.2.1 73 = .ok (.bipush (-6), 2) := by decide +kernel
theorem create_d75 : decode create_I.2.1 75 = .ok (.ireturn, 1) := by decide +kernel
theorem create_d76 : decode create_I.2.1 76 = .ok (.aload_n 0, 1) := by decide +kernel
theorem create_d77 : decode create_I.2.1 77 = .ok (.iload_n 1, 1) := by decide +kernel
theorem create_d78 : decode create_I.2.1 78 = .ok (.iload_n 2, 1) := by decide +kernel
theorem create_d79 : decode create_I.2.1 79 = .ok (.iload_n 3, 1) := by decide +kernel
theorem create_d80 : decode create_I.2.1 80 = .ok (.invokevirtual 188, 3) := by decide +kernel
theorem create_d83 : decode create_I.2.1 83 = .ok (.ireturn, 1) := by decide +kernel
theorem create_p : parseMethodDescriptor create_I.1.desc = some ⟨[.int, .int], (some .int)⟩ := by decide +kernel
theorem create_K {a0 : Array Value} {Z : State} {M : Mi} (hw : Words a0 Z) (h : create_I.2.2.2.2.1 + 1 ≤ M.2.2.2.2.1) : Callee a0 Z M create_I 2 := ⟨pnC, (wd135 hw), (wd2 hw), h, by decide, fun sig q => by cases create_p.symm.trans q; rfl⟩
set_option maxRecDepth 65536 in
set_option maxHeartbeats 4000000 in
theorem create_j32_ok {l : Launch} {Z : State} {a0 : Array Value} {n0 : Nat} {cv : Nat → Nat} {h0 : Heap} (hw : Words a0 Z) (K : KA a0 Z n0 CN nI FF cv) (x1 : Int) (x2 : Int) (x3 : Int) (s : Obj) : GQ (XA l Z n0 CN FF cv h0) create_I 0 0 32 [some (Rf 0), some (I x1), some (I x2), some (I x3)] [] s (create_j32 x1 x2 x3 s) := by
  unfold create_j32
  refine GQ.aloadN (pc' := 33) create_d32 rfl rfl ?_
  refine GQ.iloadN (pc' := 34) create_d33 rfl rfl ?_
  refine GQ.callP (Mc := isDir_I) (args0 := [I x1]) (S := []) (r := 0) (pc' := 37) (isDir_K hw (by decide)) rfl create_d34 rfl (wd136 hw) (wd137 hw) (wd138 hw) (wd1 hw) XA.recv rfl (isDir_M_ok hw K x1 s) rfl (fun z34 s34 => ?_)
  show GQ (XA l Z n0 CN FF cv h0) create_I _ _ 37 [some (Rf 0), some (I x1), some (I x2), some (I x3)] [I z34] s34 _
  refine GQ.ifF (pcT := 43) (pcF := 40) h_ne create_d37 rfl rfl rfl ?_ ?_
  · refine GQ.iloadN (pc' := 44) create_d43 rfl rfl ?_
    refine GQ.ifF (pcT := 50) (pcF := 47) h_ne create_d44 rfl rfl rfl ?_ ?_
    · refine GQ.aloadN (pc' := 51) create_d50 rfl rfl ?_
      refine GQ.iloadN (pc' := 52) create_d51 rfl rfl ?_
      refine GQ.iloadN (pc' := 53) create_d52 rfl rfl ?_
      refine GQ.callP (Mc := findChildByNameBuf_I) (args0 := [I x1, I x3]) (S := []) (r := 0) (pc' := 56) (findChildByNameBuf_K hw (by decide)) rfl create_d53 rfl (wd144 hw) (wd145 hw) (wd146 hw) (wd1 hw) XA.recv rfl (findChildByNameBuf_M_ok hw K x1 x3 s34) rfl (fun z53 s53 => ?_)
      show GQ (XA l Z n0 CN FF cv h0) create_I _ _ 56 [some (Rf 0), some (I x1), some (I x2), some (I x3)] [I z53] s53 _
      refine GQ.ifT (pcT := 62) (pcF := 59) h_lt create_d56 rfl rfl rfl ?_ ?_
      · refine GQ.aloadN (pc' := 63) create_d62 rfl rfl ?_
        refine GQ.getI (M := create_I) (k := 31) (pc' := 66) rfl (wd108 hw) create_d63 rfl ?_
        refine GQ.aloadN (pc' := 67) create_d66 rfl rfl ?_
        refine GQ.getI (M := create_I) (k := 29) (pc' := 70) rfl (wd104 hw) create_d67 rfl ?_
        refine GQ.icmpT (pcT := 76) (pcF := 73) h_lt create_d70 rfl rfl rfl ?_ ?_
        · refine GQ.aloadN (pc' := 77) create_d76 rfl rfl ?_
          refine GQ.iloadN (pc' := 78) create_d77 rfl rfl ?_
          refine GQ.iloadN (pc' := 79) create_d78 rfl rfl ?_
          refine GQ.iloadN (pc' := 80) create_d79 rfl rfl ?_
          refine GQ.callP (Mc := addNode_I) (args0 := [I x1, I x2, I x3]) (S := []) (r := 0) (pc' := 83) (addNode_K hw (by decide)) rfl create_d80 rfl (wd148 hw) (wd149 hw) (wd150 hw) (wd1 hw) XA.recv rfl (addNode_M_ok hw K x1 x2 x3 s53) rfl (fun z80 s80 => ?_)
          show GQ (XA l Z n0 CN FF cv h0) create_I _ _ 83 [some (Rf 0), some (I x1), some (I x2), some (I x3)] [I z80] s80 _
          exact GQ.iret rfl create_d83
        refine GQ.bipush (pc' := 75) create_d73 rfl rfl ?_
        exact GQ.iret rfl create_d75
      refine GQ.bipush (pc' := 61) create_d59 rfl rfl ?_
      exact GQ.iret rfl create_d61
    refine GQ.bipush (pc' := 49) create_d47 rfl rfl ?_
    exact GQ.iret rfl create_d49
  refine GQ.bipush (pc' := 42) create_d40 rfl rfl ?_
  exact GQ.iret rfl create_d42
set_option maxRecDepth 65536 in
set_option maxHeartbeats 4000000 in
theorem create_M_ok {l : Launch} {Z : State} {a0 : Array Value} {n0 : Nat} {cv : Nat → Nat} {h0 : Heap} (hw : Words a0 Z) (K : KA a0 Z n0 CN nI FF cv) (x1 : Int) (x2 : Int) (s : Obj) : GQ (XA l Z n0 CN FF cv h0) create_I 0 0 0 (entry [Rf 0, I x1, I x2] create_I.2.2.1) [] s (create_M x1 x2 s) := by
  show GQ _ _ _ _ 0 [some (Rf 0), some (I x1), some (I x2), none] [] _ _
  unfold create_M
  refine GQ.aloadN (pc' := 1) create_d0 rfl rfl ?_
  refine GQ.getI (M := create_I) (k := 30) (pc' := 4) rfl (wd106 hw) create_d1 rfl ?_
  refine GQ.ifT (pcT := 9) (pcF := 7) h_eq create_d4 rfl rfl rfl ?_ ?_
  · refine GQ.aloadN (pc' := 10) create_d9 rfl rfl ?_
    refine GQ.getI (M := create_I) (k := 38) (pc' := 13) rfl (wd110 hw) create_d10 rfl ?_
    refine GQ.letI (fun x3_13 => ?_)
    refine GQ.istoreN (L' := [some (Rf 0), some (I x1), some (I x2), some (I x3_13)]) (pc' := 14) create_d13 rfl rfl rfl ?_
    refine GQ.aloadN (pc' := 15) create_d14 rfl rfl ?_
    refine GQ.iconst (pc' := 16) create_d15 rfl rfl ?_
    refine GQ.putI (M := create_I) (k := 38) (pc' := 19) K rfl (wd110 hw) (wd111 hw) create_d16 rfl ?_
    refine GQ.letM (fun s16 => ?_)
    refine GQ.iloadN (pc' := 20) create_d19 rfl rfl ?_
    refine GQ.iconst (pc' := 21) create_d20 rfl rfl ?_
    refine GQ.icmpT (pcT := 32) (pcF := 24) h_eq create_d21 rfl rfl rfl ?_ ?_
    · exact create_j32_ok hw K x1 x2 x3_13 s16
    refine GQ.iloadN (pc' := 25) create_d24 rfl rfl ?_
    refine GQ.iconst (pc' := 26) create_d25 rfl rfl ?_
    refine GQ.icmpT (pcT := 32) (pcF := 29) h_eq create_d26 rfl rfl rfl ?_ ?_
    · exact create_j32_ok hw K x1 x2 x3_13 s16
    refine GQ.bipush (pc' := 31) create_d29 rfl rfl ?_
    exact GQ.iret rfl create_d31
  refine GQ.iconst (pc' := 8) create_d7 rfl rfl ?_
  exact GQ.iret rfl create_d8
def isFile_I : Mi := (⟨"SquashImage", "isFile", "(I)Z"⟩, prog_1_method_54_code, 2, (some .boolean), 1, 13)
theorem isFile_d0 : decode isFile_I.2.1 0 = .ok (.aload_n 0, 1) := by decide +kernel
theorem isFile_d1 : decode isFile_I.2.1 1 = .ok (.iload_n 1, 1) := by decide +kernel
theorem isFile_d2 : decode isFile_I.2.1 2 = .ok (.invokevirtual 325, 3) := by decide +kernel
theorem isFile_d5 : decode isFile_I.2.1 5 = .ok (.ifCond .eq 17, 3) := by decide +kernel
theorem isFile_d8 : decode isFile_I.2.1 8 = .ok (.aload_n 0, 1) := by decide +kernel
theorem isFile_d9 : decode isFile_I.2.1 9 = .ok (.getfield 94, 3) := by decide +kernel
theorem isFile_d12 : decode isFile_I.2.1 12 = .ok (.iload_n 1, 1) := by decide +kernel
theorem isFile_d13 : decode isFile_I.2.1 13 = .ok (.baload, 1) := by decide +kernel
theorem isFile_d14 : decode isFile_I.2.1 14 = .ok (.iconst 2, 1) := by decide +kernel
theorem isFile_d15 : decode isFile_I.2.1 15 = .ok (.if_icmp .ne 7, 3) := by decide +kernel
theorem isFile_d18 : decode isFile_I.2.1 18 = .ok (.iconst 1, 1) := by decide +kernel
theorem isFile_d19 : decode isFile_I.2.1 19 = .ok (.goto 4, 3) := by decide +kernel
theorem isFile_d22 : decode isFile_I.2.1 22 = .ok (.iconst 0, 1) := by decide +kernel
theorem isFile_d23 : decode isFile_I.2.1 23 = .ok (.ireturn, 1) := by decide +kernel
theorem isFile_p : parseMethodDescriptor isFile_I.1.desc = some ⟨[.int], (some .boolean)⟩ := by decide +kernel
theorem isFile_K {a0 : Array Value} {Z : State} {M : Mi} (hw : Words a0 Z) (h : isFile_I.2.2.2.2.1 + 1 ≤ M.2.2.2.2.1) : Callee a0 Z M isFile_I 1 := ⟨pnC, (wd160 hw), (wd2 hw), h, by decide, fun sig q => by cases isFile_p.symm.trans q; rfl⟩
set_option maxRecDepth 65536 in
set_option maxHeartbeats 4000000 in
theorem isFile_M_ok {l : Launch} {Z : State} {a0 : Array Value} {n0 : Nat} {cv : Nat → Nat} {h0 : Heap} (hw : Words a0 Z) (K : KA a0 Z n0 CN nI FF cv) (x1 : Int) (s : Obj) : GQ (XA l Z n0 CN FF cv h0) isFile_I 0 0 0 (entry [Rf 0, I x1] isFile_I.2.2.1) [] s (isFile_M x1 s) := by
  show GQ _ _ _ _ 0 [some (Rf 0), some (I x1)] [] _ _
  unfold isFile_M
  refine GQ.aloadN (pc' := 1) isFile_d0 rfl rfl ?_
  refine GQ.iloadN (pc' := 2) isFile_d1 rfl rfl ?_
  refine GQ.callP (Mc := isValid_I) (args0 := [I x1]) (S := []) (r := 0) (pc' := 5) (isValid_K hw (by decide)) rfl isFile_d2 rfl (wd140 hw) (wd141 hw) (wd142 hw) (wd1 hw) XA.recv rfl (isValid_M_ok hw K x1 s) rfl (fun z2 s2 => ?_)
  show GQ (XA l Z n0 CN FF cv h0) isFile_I _ _ 5 [some (Rf 0), some (I x1)] [I z2] s2 _
  refine GQ.ifT (pcT := 22) (pcF := 8) h_eq isFile_d5 rfl rfl rfl ?_ ?_
  · refine GQ.iconst (pc' := 23) isFile_d22 rfl rfl ?_
    exact GQ.zret rfl isFile_d23
  refine GQ.aloadN (pc' := 9) isFile_d8 rfl rfl ?_
  refine GQ.getA (M := isFile_I) (k := 32) (pc' := 12) rfl (by decide) (wd66 hw) isFile_d9 rfl ?_
  refine GQ.iloadN (pc' := 13) isFile_d12 rfl rfl ?_
  refine GQ.rd (k := 32) (ins := .baload) (pc' := 14) rfl (by decide) (Or.inr (Or.inl ⟨rfl, rfl⟩)) isFile_d13 rfl (fun z13 => ?_)
  refine GQ.iconst (pc' := 15) isFile_d14 rfl rfl ?_
  refine GQ.icmpF (pcT := 22) (pcF := 18) h_ne isFile_d15 rfl rfl rfl ?_ ?_
  · refine GQ.iconst (pc' := 23) isFile_d22 rfl rfl ?_
    exact GQ.zret rfl isFile_d23
  refine GQ.iconst (pc' := 19) isFile_d18 rfl rfl ?_
  refine GQ.goto (pc' := 23) isFile_d19 rfl rfl ?_
  exact GQ.zret rfl isFile_d23
def pushByte_I : Mi := (⟨"SquashImage", "pushByte", "(II)V"⟩, prog_1_method_11_code, 3, none, 0, 0)
theorem pushByte_d0 : decode pushByte_I.2.1 0 = .ok (.aload_n 0, 1) := by decide +kernel
theorem pushByte_d1 : decode pushByte_I.2.1 1 = .ok (.getfield 165, 3) := by decide +kernel
theorem pushByte_d4 : decode pushByte_I.2.1 4 = .ok (.ifCond .lt 13, 3) := by decide +kernel
theorem pushByte_d7 : decode pushByte_I.2.1 7 = .ok (.aload_n 0, 1) := by decide +kernel
theorem pushByte_d8 : decode pushByte_I.2.1 8 = .ok (.getfield 165, 3) := by decide +kernel
theorem pushByte_d11 : decode pushByte_I.2.1 11 = .ok (.sipush 256, 3) := by decide +kernel
theorem pushByte_d14 : decode pushByte_I.2.1 14 = .ok (.if_icmp .lt 4, 3) := by decide +kernel
theorem pushByte_d17 : decode pushByte_I.2.1 17 = .ok (.return_, 1) := by decide +kernel
theorem pushByte_d18 : decode pushByte_I.2.1 18 = .ok (.aload_n 0, 1) := by decide +kernel
theorem pushByte_d19 : decode pushByte_I.2.1 19 = .ok (.getfield 118, 3) := by decide +kernel
theorem pushByte_d22 : decode pushByte_I.2.1 22 = .ok (.aload_n 0, 1) := by decide +kernel
theorem pushByte_d23 : decode pushByte_I.2.1 23 = .ok (.getfield 165, 3) := by decide +kernel
theorem pushByte_d26 : decode pushByte_I.2.1 26 = .ok (.iload_n 2, 1) := by decide +kernel
theorem pushByte_d27 : decode pushByte_I.2.1 27 = .ok (.i2b, 1) := by decide +kernel
theorem pushByte_d28 : decode pushByte_I.2.1 28 = .ok (.bastore, 1) := by decide +kernel
theorem pushByte_d29 : decode pushByte_I.2.1 29 = .ok (.aload_n 0, 1) := by decide +kernel
theorem pushByte_d30 : decode pushByte_I.2.1 30 = .ok (.getfield 121, 3) := by decide +kernel
theorem pushByte_d33 : decode pushByte_I.2.1 33 = .ok (.aload_n 0, 1) := by decide +kernel
theorem pushByte_d34 : decode pushByte_I.2.1 34 = .ok (.getfield 165, 3) := by decide +kernel
theorem pushByte_d37 : decode pushByte_I.2.1 37 = .ok (.iload_n 1, 1) := by decide +kernel
theorem pushByte_d38 : decode pushByte_I.2.1 38 = .ok (.i2b, 1) := by decide +kernel
theorem pushByte_d39 : decode pushByte_I.2.1 39 = .ok (.bastore, 1) := by decide +kernel
theorem pushByte_d40 : decode pushByte_I.2.1 40 = .ok (.aload_n 0, 1) := by decide +kernel
theorem pushByte_d41 : decode pushByte_I.2.1 41 = .ok (.dup, 1) := by decide +kernel
theorem pushByte_d42 : decode pushByte_I.2.1 42 = .ok (.getfield 165, 3) := by decide +kernel
theorem pushByte_d45 : decode pushByte_I.2.1 45 = .ok (.iconst 1, 1) := by decide +kernel
theorem pushByte_d46 : decode pushByte_I.2.1 46 = .ok (.iadd, 1) := by decide +kernel
theorem pushByte_d47 : decode pushByte_I.2.1 47 = .ok (.putfield 165, 3) := by decide +kernel
theorem pushByte_d50 : decode pushByte_I.2.1 50 = .ok (.aload_n 0, 1) := by decide +kernel
theorem pushByte_d51 : decode pushByte_I.2.1 51 = .ok (.getfield 108, 3) := by decide +kernel
theorem pushByte_d54 : decode pushByte_I.2.1 54 = .ok (.iload_n 1, 1) := by decide +kernel
theorem pushByte_d55 : decode pushByte_I.2.1 55 = .ok (.aload_n 0, 1) := by decide +kernel
theorem pushByte_d56 : decode pushByte_I.2.1 56 = .ok (.getfield 108, 3) := by decide +kernel
theorem pushByte_d59 : decode pushByte_I.2.1 59 = .ok (.iload_n 1, 1) := by decide +kernel
theorem pushByte_d60 : decode pushByte_I.2.1 60 = .ok (.iaload, 1) := by decide +kernel
theorem pushByte_d61 : decode pushByte_I.2.1 61 = .ok (.iconst 1, 1) := by decide +kernel
theorem pushByte_d62 : decode pushByte_I.2.1 62 = .ok (.iadd, 1) := by decide +kernel
theorem pushByte_d63 : decode pushByte_I.2.1 63 = .ok (.iastore, 1) := by decide +kernel
theorem pushByte_d64 : decode pushByte_I.2.1 64 = .ok (.return_, 1) := by decide +kernel
theorem pushByte_p : parseMethodDescriptor pushByte_I.1.desc = some ⟨[.int, .int], none⟩ := by decide +kernel
theorem pushByte_K {a0 : Array Value} {Z : State} {M : Mi} (hw : Words a0 Z) (h : pushByte_I.2.2.2.2.1 + 1 ≤ M.2.2.2.2.1) : Callee a0 Z M pushByte_I 2 := ⟨pnC, (wd164 hw), (wd2 hw), h, by decide, fun sig q => by cases pushByte_p.symm.trans q; rfl⟩
set_option maxRecDepth 65536 in
set_option maxHeartbeats 4000000 in
theorem pushByte_M_ok {l : Launch} {Z : State} {a0 : Array Value} {n0 : Nat} {cv : Nat → Nat} {h0 : Heap} (hw : Words a0 Z) (K : KA a0 Z n0 CN nI FF cv) (x1 : Int) (x2 : Int) (s : Obj) : GQ (XA l Z n0 CN FF cv h0) pushByte_I 0 0 0 (entry [Rf 0, I x1, I x2] pushByte_I.2.2.1) [] s (pushByte_M x1 x2 s) := by
  show GQ _ _ _ _ 0 [some (Rf 0), some (I x1), some (I x2)] [] _ _
  unfold pushByte_M
  refine GQ.aloadN (pc' := 1) pushByte_d0 rfl rfl ?_
  refine GQ.getI (M := pushByte_I) (k := 43) (pc' := 4) rfl (wd114 hw) pushByte_d1 rfl ?_
  refine GQ.ifT (pcT := 17) (pcF := 7) h_lt pushByte_d4 rfl rfl rfl ?_ ?_
  · exact GQ.ret rfl pushByte_d17
  refine GQ.aloadN (pc' := 8) pushByte_d7 rfl rfl ?_
  refine GQ.getI (M := pushByte_I) (k := 43) (pc' := 11) rfl (wd114 hw) pushByte_d8 rfl ?_
  refine GQ.sipush (pc' := 14) pushByte_d11 rfl rfl ?_
  refine GQ.icmpT (pcT := 18) (pcF := 17) h_lt pushByte_d14 rfl rfl rfl ?_ ?_
  · refine GQ.aloadN (pc' := 19) pushByte_d18 rfl rfl ?_
    refine GQ.getA (M := pushByte_I) (k := 41) (pc' := 22) rfl (by decide) (wd82 hw) pushByte_d19 rfl ?_
    refine GQ.aloadN (pc' := 23) pushByte_d22 rfl rfl ?_
    refine GQ.getI (M := pushByte_I) (k := 43) (pc' := 26) rfl (wd114 hw) pushByte_d23 rfl ?_
    refine GQ.iloadN (pc' := 27) pushByte_d26 rfl rfl ?_
    refine GQ.i2b (pc' := 28) pushByte_d27 rfl ?_
    refine GQ.wr (k := 41) (ins := .bastore) (pc' := 29) K rfl (by decide) (Or.inr (Or.inl ⟨rfl, rfl⟩)) pushByte_d28 rfl (fun s28 => ?_)
    refine GQ.aloadN (pc' := 30) pushByte_d29 rfl rfl ?_
    refine GQ.getA (M := pushByte_I) (k := 42) (pc' := 33) rfl (by decide) (wd84 hw) pushByte_d30 rfl ?_
    refine GQ.aloadN (pc' := 34) pushByte_d33 rfl rfl ?_
    refine GQ.getI (M := pushByte_I) (k := 43) (pc' := 37) rfl (wd114 hw) pushByte_d34 rfl ?_
    refine GQ.iloadN (pc' := 38) pushByte_d37 rfl rfl ?_
    refine GQ.i2b (pc' := 39) pushByte_d38 rfl ?_
    refine GQ.wr (k := 42) (ins := .bastore) (pc' := 40) K rfl (by decide) (Or.inr (Or.inl ⟨rfl, rfl⟩)) pushByte_d39 rfl (fun s39 => ?_)
    refine GQ.aloadN (pc' := 41) pushByte_d40 rfl rfl ?_
    refine GQ.dupR (pc' := 42) pushByte_d41 rfl ?_
    refine GQ.getI (M := pushByte_I) (k := 43) (pc' := 45) rfl (wd114 hw) pushByte_d42 rfl ?_
    refine GQ.iconst (pc' := 46) pushByte_d45 rfl rfl ?_
    refine GQ.iadd (pc' := 47) pushByte_d46 rfl ?_
    refine GQ.putI (M := pushByte_I) (k := 43) (pc' := 50) K rfl (wd114 hw) (wd115 hw) pushByte_d47 rfl ?_
    refine GQ.letM (fun s47 => ?_)
    refine GQ.aloadN (pc' := 51) pushByte_d50 rfl rfl ?_
    refine GQ.getA (M := pushByte_I) (k := 36) (pc' := 54) rfl (by decide) (wd76 hw) pushByte_d51 rfl ?_
    refine GQ.iloadN (pc' := 55) pushByte_d54 rfl rfl ?_
    refine GQ.aloadN (pc' := 56) pushByte_d55 rfl rfl ?_
    refine GQ.getA (M := pushByte_I) (k := 36) (pc' := 59) rfl (by decide) (wd76 hw) pushByte_d56 rfl ?_
    refine GQ.iloadN (pc' := 60) pushByte_d59 rfl rfl ?_
    refine GQ.rd (k := 36) (ins := .iaload) (pc' := 61) rfl (by decide) (Or.inl ⟨rfl, rfl⟩) pushByte_d60 rfl (fun z60 => ?_)
    refine GQ.iconst (pc' := 62) pushByte_d61 rfl rfl ?_
    refine GQ.iadd (pc' := 63) pushByte_d62 rfl ?_
    refine GQ.wr (k := 36) (ins := .iastore) (pc' := 64) K rfl (by decide) (Or.inl ⟨rfl, rfl⟩) pushByte_d63 rfl (fun s63 => ?_)
    exact GQ.ret rfl pushByte_d64
  exact GQ.ret rfl pushByte_d17
def appendRun_I : Mi := (⟨"SquashImage", "appendRun", "(III)I"⟩, prog_1_method_10_code, 6, (some .int), 2, 26)
theorem appendRun_d0 : decode appendRun_I.2.1 0 = .ok (.aload_n 0, 1) := by decide +kernel
theorem appendRun_d1 : decode appendRun_I.2.1 1 = .ok (.getfield 152, 3) := by decide +kernel
theorem appendRun_d4 : decode appendRun_I.2.1 4 = .ok (.ifCond .eq 5, 3) := by decide +kernel
theorem appendRun_d7 : decode appendRun_I.2.1 7 = .ok (.iconst (-1), 1) := by decide +kernel
theorem appendRun_d8 : decode appendRun_I.2.1 8 = .ok (.ireturn, 1) := by decide +kernel
theorem appendRun_d9 : decode appendRun_I.2.1 9 = .ok (.aload_n 0, 1) := by decide +kernel
theorem appendRun_d10 : decode appendRun_I.2.1 10 = .ok (.iload_n 1, 1) := by decide +kernel
theorem appendRun_d11 : decode appendRun_I.2.1 11 = .ok (.invokevirtual 195, 3) := by decide +kernel
theorem appendRun_d14 : decode appendRun_I.2.1 14 = .ok (.ifCond .ne 6, 3) := by decide +kernel
theorem appendRun_d17 : decode appendRun_I.2.1 17 = .ok (.bipush (-2), 2) := by decide +kernel
theorem appendRun_d19 : decode appendRun_I.2.1 19 = .ok (.ireturn, 1) := by decide +kernel
theorem appendRun_d20 : decode appendRun_I.2.1 20 = .ok (.iload_n 3, 1) := by decide +kernel
theorem appendRun_d21 : decode appendRun_I.2.1 21 = .ok (.iconst 1, 1) := by decide +kernel
theorem appendRun_d22 : decode appendRun_I.2.1 22 = .ok (.if_icmp .lt 9, 3) := by decide +kernel
theorem appendRun_d25 : decode appendRun_I.2.1 25 = .ok (.iload_n 3, 1) := by decide +kernel
theorem appendRun_d26 : decode appendRun_I.2.1 26 = .ok (.bipush 64, 2) := by decide +kernel
theorem appendRun_d28 : decode appendRun_I.2.1 28 = .ok (.if_icmp .le 6, 3) := by decide +kernel
theorem appendRun_d31 : decode appendRun_I.2.1 31 = .ok (.bipush (-3), 2) := by decide +kernel
theorem appendRun_d33 : decode appendRun_I.2.1 33 = .ok (.ireturn, 1) := by decide +kernel
theorem appendRun_d34 : decode appendRun_I.2.1 34 = .ok (.aload_n 0, 1) := by decide +kernel
theorem appendRun_d35 : decode appendRun_I.2.1 35 = .ok (.getfield 165, 3) := by decide +kernel
theorem appendRun_d38 : decode appendRun_I.2.1 38 = .ok (.iload_n 3, 1) := by decide +kernel
theorem appendRun_d39 : decode appendRun_I.2.1 39 = .ok (.iadd, 1) := by decide +kernel
theorem appendRun_d40 : decode appendRun_I.2.1 40 = .ok (.sipush 256, 3) := by decide +kernel
theorem appendRun_d43 : decode appendRun_I.2.1 43 = .ok (.if_icmp .le 6, 3) := by decide +kernel
theorem appendRun_d46 : decode appendRun_I.2.1 46 = .ok (.bipush (-6), 2) := by decide +kernel
theorem appendRun_d48 : decode appendRun_I.2.1 48 = .ok (.ireturn, 1) := by decide +kernel
theorem appendRun_d49 : decode appendRun_I.2.1 49 = .ok (.iload_n 2, 1) := by decide +kernel
theorem appendRun_d50 : decode appendRun_I.2.1 50 = .ok (.sipush 255, 3) := by decide +kernel
theorem appendRun_d53 : decode appendRun_I.2.1 53 = .ok (.iand, 1) := by decide +kernel
theorem appendRun_d54 : decode appendRun_I.2.1 54 = .ok (.istore 4, 2) := by decide +kernel
theorem appendRun_d56 : decode appendRun_I.2.1 56 = .ok (.iconst 0, 1) := by decide +kernel
theorem appendRun_d57 : decode appendRun_I.2.1 57 = .ok (.istore 5, 2) := by decide +kernel
theorem appendRun_d59 : decode appendRun_I.2.1 59 = .ok (.iload 5, 2) := by decide +kernel
theorem appendRun_d61 : decode appendRun_I.2.1 61 = .ok (.iload_n 3, 1) := by decide +kernel
theorem appendRun_d62 : decode appendRun_I.2.1 62 = .ok (.if_icmp .ge 23, 3) := by decide +kernel
theorem appendRun_d65 : decode appendRun_I.2.1 65 = .ok (.iload 5, 2) := by decide +kernel
theorem appendRun_d67 : decode appendRun_I.2.1 67 = .ok (.bipush 64, 2) := by decide +kernel
theorem appendRun_d69 : decode appendRun_I.2.1 69 = .ok (.if_icmp .ge 16, 3) := by decide +kernel
theorem appendRun_d72 : decode appendRun_I.2.1 72 = .ok (.aload_n 0, 1) := by decide +kernel
theorem appendRun_d73 : decode appendRun_I.2.1 73 = .ok (.iload_n 1, 1) := by decide +kernel
theorem appendRun_d74 : decode appendRun_I.2.1 74 = .ok (.iload 4, 2) := by decide +kernel
theorem appendRun_d76 : decode appendRun_I.2.1 76 = .ok (.invokevirtual 198, 3) := by decide +kernel
theorem appendRun_d79 : decode appendRun_I.2.1 79 = .ok (.iinc 5 1, 3) := by decide +kernel
theorem appendRun_d82 : decode appendRun_I.2.1 82 = .ok (.goto (-23), 3) := by decide +kernel
theorem appendRun_d85 : decode appendRun_I.2.1 85 = .ok (.aload_n 0, 1) := by decide +kernel
theorem appendRun_d86 : decode appendRun_I.2.1 86 = .ok (.getfield 108, 3) := by decide +kernel
theorem appendRun_d89 : decode appendRun_I.2.1 89 = .ok (.iload_n 1, 1) := by decide +kernel
theorem appendRun_d90 : decode appendRun_I.2.1 90 = .ok (.iaload, 1) := by decide +kernel
theorem appendRun_d91 : decode appendRun_I.2.1 91 = .ok (.ireturn, 1) := by decide +kernel
theorem appendRun_p : parseMethodDescriptor appendRun_I.1.desc = some ⟨[.int, .int, .int], (some .int)⟩ := by decide +kernel
theorem appendRun_K {a0 : Array Value} {Z : State} {M : Mi} (hw : Words a0 Z) (h : appendRun_I.2.2.2.2.1 + 1 ≤ M.2.2.2.2.1) : Callee a0 Z M appendRun_I 3 := ⟨pnC, (wd156 hw), (wd2 hw), h, by decide, fun sig q => by cases appendRun_p.symm.trans q; rfl⟩
set_option maxRecDepth 65536 in
set_option maxHeartbeats 4000000 in
theorem appendRun_l59b_ok {l : Launch} {Z : State} {a0 : Array Value} {n0 : Nat} {cv : Nat → Nat} {h0 : Heap} (hw : Words a0 Z) (K : KA a0 Z n0 CN nI FF cv) (x1 : Int) (x3 : Int) (x4 : Int) {rec : Int → Obj → Option (Int × Obj)} (hrec : ∀ (x5 : Int) (s : Obj), GQ (XA l Z n0 CN FF cv h0) appendRun_I 0 0 59 [some (Rf 0), some (I x1), none, some (I x3), some (I x4), some (I x5)] [] s (rec x5 s)) (x5 : Int) (s : Obj) : GQ (XA l Z n0 CN FF cv h0) appendRun_I 0 0 59 [some (Rf 0), some (I x1), none, some (I x3), some (I x4), some (I x5)] [] s (appendRun_l59b x1 x3 x4 rec x5 s) := by
  unfold appendRun_l59b
  refine GQ.iload (pc' := 61) appendRun_d59 rfl rfl ?_
  refine GQ.iloadN (pc' := 62) appendRun_d61 rfl rfl ?_
  refine GQ.icmpF (pcT := 85) (pcF := 65) h_ge appendRun_d62 rfl rfl rfl ?_ ?_
  · refine GQ.aloadN (pc' := 86) appendRun_d85 rfl rfl ?_
    refine GQ.getA (M := appendRun_I) (k := 36) (pc' := 89) rfl (by decide) (wd76 hw) appendRun_d86 rfl ?_
    refine GQ.iloadN (pc' := 90) appendRun_d89 rfl rfl ?_
    refine GQ.rd (k := 36) (ins := .iaload) (pc' := 91) rfl (by decide) (Or.inl ⟨rfl, rfl⟩) appendRun_d90 rfl (fun z90 => ?_)
    exact GQ.iret rfl appendRun_d91
  refine GQ.iload (pc' := 67) appendRun_d65 rfl rfl ?_
  refine GQ.bipush (pc' := 69) appendRun_d67 rfl rfl ?_
  refine GQ.icmpF (pcT := 85) (pcF := 72) h_ge appendRun_d69 rfl rfl rfl ?_ ?_
  · refine GQ.aloadN (pc' := 86) appendRun_d85 rfl rfl ?_
    refine GQ.getA (M := appendRun_I) (k := 36) (pc' := 89) rfl (by decide) (wd76 hw) appendRun_d86 rfl ?_
    refine GQ.iloadN (pc' := 90) appendRun_d89 rfl rfl ?_
    refine GQ.rd (k := 36) (ins := .iaload) (pc' := 91) rfl (by decide) (Or.inl ⟨rfl, rfl⟩) appendRun_d90 rfl (fun z90_1 => ?_)
    exact GQ.iret rfl appendRun_d91
  refine GQ.aloadN (pc' := 73) appendRun_d72 rfl rfl ?_
  refine GQ.iloadN (pc' := 74) appendRun_d73 rfl rfl ?_
  refine GQ.iload (pc' := 76) appendRun_d74 rfl rfl ?_
  refine GQ.callP (Mc := pushByte_I) (args0 := [I x1, I x4]) (S := []) (r := 0) (pc' := 79) (pushByte_K hw (by decide)) rfl appendRun_d76 rfl (wd161 hw) (wd162 hw) (wd163 hw) (wd1 hw) XA.recv rfl (pushByte_M_ok hw K x1 x4 s) rfl (fun _ s76 => ?_)
  show GQ (XA l Z n0 CN FF cv h0) appendRun_I _ _ 79 [some (Rf 0), some (I x1), none, some (I x3), some (I x4), some (I x5)] [] s76 _
  refine GQ.iinc (L' := [some (Rf 0), some (I x1), none, some (I x3), some (I x4), some (I (aAdd x5 1))]) (pc' := 82) appendRun_d79 rfl rfl rfl rfl ?_
  refine GQ.goto (pc' := 59) appendRun_d82 rfl rfl ?_
  exact hrec (aAdd x5 1) s76
set_option maxRecDepth 65536 in
set_option maxHeartbeats 4000000 in
theorem appendRun_l59_ok {l : Launch} {Z : State} {a0 : Array Value} {n0 : Nat} {cv : Nat → Nat} {h0 : Heap} (hw : Words a0 Z) (K : KA a0 Z n0 CN nI FF cv) (x1 : Int) (x3 : Int) (x4 : Int) : ∀ (fu : Nat) (x5 : Int) (s : Obj), GQ (XA l Z n0 CN FF cv h0) appendRun_I 0 0 59 [some (Rf 0), some (I x1), none, some (I x3), some (I x4), some (I x5)] [] s (appendRun_l59 x1 x3 x4 fu x5 s)
  | 0 => fun _ _ => GQ.no
  | fu + 1 => appendRun_l59b_ok hw K x1 x3 x4 (appendRun_l59_ok hw K x1 x3 x4 fu)
set_option maxRecDepth 65536 in
set_option maxHeartbeats 4000000 in
theorem appendRun_M_ok {l : Launch} {Z : State} {a0 : Array Value} {n0 : Nat} {cv : Nat → Nat} {h0 : Heap} (hw : Words a0 Z) (K : KA a0 Z n0 CN nI FF cv) (x1 : Int) (x2 : Int) (x3 : Int) (s : Obj) : GQ (XA l Z n0 CN FF cv h0) appendRun_I 0 0 0 (entry [Rf 0, I x1, I x2, I x3] appendRun_I.2.2.1) [] s (appendRun_M x1 x2 x3 s) := by
  show GQ _ _ _ _ 0 [some (Rf 0), some (I x1), some (I x2), some (I x3), none, none] [] _ _
  unfold appendRun_M
  refine GQ.aloadN (pc' := 1) appendRun_d0 rfl rfl ?_
  refine GQ.getI (M := appendRun_I) (k := 30) (pc' := 4) rfl (wd106 hw) appendRun_d1 rfl ?_
  refine GQ.ifT (pcT := 9) (pcF := 7) h_eq appendRun_d4 rfl rfl rfl ?_ ?_
  · refine GQ.aloadN (pc' := 10) appendRun_d9 rfl rfl ?_
    refine GQ.iloadN (pc' := 11) appendRun_d10 rfl rfl ?_
    refine GQ.callP (Mc := isFile_I) (args0 := [I x1]) (S := []) (r := 0) (pc' := 14) (isFile_K hw (by decide)) rfl appendRun_d11 rfl (wd157 hw) (wd158 hw) (wd159 hw) (wd1 hw) XA.recv rfl (isFile_M_ok hw K x1 s) rfl (fun z11 s11 => ?_)
    show GQ (XA l Z n0 CN FF cv h0) appendRun_I _ _ 14 [some (Rf 0), some (I x1), some (I x2), some (I x3), none, none] [I z11] s11 _
    refine GQ.ifF (pcT := 20) (pcF := 17) h_ne appendRun_d14 rfl rfl rfl ?_ ?_
    · refine GQ.iloadN (pc' := 21) appendRun_d20 rfl rfl ?_
      refine GQ.iconst (pc' := 22) appendRun_d21 rfl rfl ?_
      refine GQ.icmpT (pcT := 31) (pcF := 25) h_lt appendRun_d22 rfl rfl rfl ?_ ?_
      · refine GQ.bipush (pc' := 33) appendRun_d31 rfl rfl ?_
        exact GQ.iret rfl appendRun_d33
      refine GQ.iloadN (pc' := 26) appendRun_d25 rfl rfl ?_
      refine GQ.bipush (pc' := 28) appendRun_d26 rfl rfl ?_
      refine GQ.icmpF (pcT := 34) (pcF := 31) h_le appendRun_d28 rfl rfl rfl ?_ ?_
      · refine GQ.aloadN (pc' := 35) appendRun_d34 rfl rfl ?_
        refine GQ.getI (M := appendRun_I) (k := 43) (pc' := 38) rfl (wd114 hw) appendRun_d35 rfl ?_
        refine GQ.iloadN (pc' := 39) appendRun_d38 rfl rfl ?_
        refine GQ.iadd (pc' := 40) appendRun_d39 rfl ?_
        refine GQ.sipush (pc' := 43) appendRun_d40 rfl rfl ?_
        refine GQ.icmpF (pcT := 49) (pcF := 46) h_le appendRun_d43 rfl rfl rfl ?_ ?_
        · refine GQ.iloadN (pc' := 50) appendRun_d49 rfl rfl ?_
          refine GQ.sipush (pc' := 53) appendRun_d50 rfl rfl ?_
          refine GQ.iand (pc' := 54) appendRun_d53 rfl ?_
          refine GQ.letI (fun x4_54 => ?_)
          refine GQ.istore (L' := [some (Rf 0), some (I x1), some (I x2), some (I x3), some (I x4_54), none]) (pc' := 56) appendRun_d54 rfl rfl rfl ?_
          refine GQ.iconst (pc' := 57) appendRun_d56 rfl rfl ?_
          refine GQ.istore (L' := [some (Rf 0), some (I x1), some (I x2), some (I x3), some (I x4_54), some (I 0)]) (pc' := 59) appendRun_d57 rfl rfl rfl ?_
          refine GQ.weak (L' := [some (Rf 0), some (I x1), none, some (I x3), some (I x4_54), some (I 0)]) (Sub.keep (Sub.keep (Sub.drop (Sub.keep (Sub.keep (Sub.keep Sub.nil)))))) ?_
          exact appendRun_l59_ok hw K x1 x3 x4_54 FU 0 s11
        refine GQ.bipush (pc' := 48) appendRun_d46 rfl rfl ?_
        exact GQ.iret rfl appendRun_d48
      refine GQ.bipush (pc' := 33) appendRun_d31 rfl rfl ?_
      exact GQ.iret rfl appendRun_d33
    refine GQ.bipush (pc' := 19) appendRun_d17 rfl rfl ?_
    exact GQ.iret rfl appendRun_d19
  refine GQ.iconst (pc' := 8) appendRun_d7 rfl rfl ?_
  exact GQ.iret rfl appendRun_d8
def appendByte_I : Mi := (⟨"SquashImage", "appendByte", "(II)I"⟩, prog_1_method_9_code, 3, (some .int), 2, 26)
theorem appendByte_d0 : decode appendByte_I.2.1 0 = .ok (.aload_n 0, 1) := by decide +kernel
theorem appendByte_d1 : decode appendByte_I.2.1 1 = .ok (.getfield 152, 3) := by decide +kernel
theorem appendByte_d4 : decode appendByte_I.2.1 4 = .ok (.ifCond .eq 5, 3) := by decide +kernel
theorem appendByte_d7 : decode appendByte_I.2.1 7 = .ok (.iconst (-1), 1) := by decide +kernel
theorem appendByte_d8 : decode appendByte_I.2.1 8 = .ok (.ireturn, 1) := by decide +kernel
theorem appendByte_d9 : decode appendByte_I.2.1 9 = .ok (.aload_n 0, 1) := by decide +kernel
theorem appendByte_d10 : decode appendByte_I.2.1 10 = .ok (.iload_n 1, 1) := by decide +kernel
theorem appendByte_d11 : decode appendByte_I.2.1 11 = .ok (.invokevirtual 195, 3) := by decide +kernel
theorem appendByte_d14 : decode appendByte_I.2.1 14 = .ok (.ifCond .ne 6, 3) := by decide +kernel
theorem appendByte_d17 : decode appendByte_I.2.1 17 = .ok (.bipush (-2), 2) := by decide +kernel
theorem appendByte_d19 : decode appendByte_I.2.1 19 = .ok (.ireturn, 1) := by decide +kernel
theorem appendByte_d20 : decode appendByte_I.2.1 20 = .ok (.aload_n 0, 1) := by decide +kernel
theorem appendByte_d21 : decode appendByte_I.2.1 21 = .ok (.getfield 165, 3) := by decide +kernel
theorem appendByte_d24 : decode appendByte_I.2.1 24 = .ok (.sipush 256, 3) := by decide +kernel
theorem appendByte_d27 : decode appendByte_I.2.1 27 = .ok (.if_icmp .lt 6, 3) := by decide +kernel
theorem appendByte_d30 : decode appendByte_I.2.1 30 = .ok (.bipush (-6), 2) := by decide +kernel
theorem appendByte_d32 : decode appendByte_I.2.1 32 = .ok (.ireturn, 1) := by decide +kernel
theorem appendByte_d33 : decode appendByte_I.2.1 33 = .ok (.aload_n 0, 1) := by decide +kernel
theorem appendByte_d34 : decode appendByte_I.2.1 34 = .ok (.iload_n 1, 1) := by decide +kernel
theorem appendByte_d35 : decode appendByte_I.2.1 35 = .ok (.iload_n 2, 1) := by decide +kernel
theorem appendByte_d36 : decode appendByte_I.2.1 36 = .ok (.sipush 255, 3) := by decide +kernel
theorem appendByte_d39 : decode appendByte_I.2.1 39 = .ok (.iand, 1) := by decide +kernel
theorem appendByte_d40 : decode appendByte_I.2.1 40 = .ok (.invokevirtual 198, 3) := by decide +kernel
theorem appendByte_d43 : decode appendByte_I.2.1 43 = .ok (.aload_n 0, 1) := by decide +kernel
theorem appendByte_d44 : decode appendByte_I.2.1 44 = .ok (.getfield 108, 3) := by decide +kernel
theorem appendByte_d47 : decode appendByte_I.2.1 47 = .ok (.iload_n 1, 1) := by decide +kernel
theorem appendByte_d48 : decode appendByte_I.2.1 48 = .ok (.iaload, 1) := by decide +kernel
theorem appendByte_d49 : decode appendByte_I.2.1 49 = .ok (.ireturn, 1) := by decide +kernel
theorem appendByte_p : parseMethodDescriptor appendByte_I.1.desc = some ⟨[.int, .int], (some .int)⟩ := by decide +kernel
theorem appendByte_K {a0 : Array Value} {Z : State} {M : Mi} (hw : Words a0 Z) (h : appendByte_I.2.2.2.2.1 + 1 ≤ M.2.2.2.2.1) : Callee a0 Z M appendByte_I 2 := ⟨pnC, (wd169 hw), (wd2 hw), h, by decide, fun sig q => by cases appendByte_p.symm.trans q; rfl⟩
set_option maxRecDepth 65536 in
set_option maxHeartbeats 4000000 in
theorem appendByte_M_ok {l : Launch} {Z : State} {a0 : Array Value} {n0 : Nat} {cv : Nat → Nat} {h0 : Heap} (hw : Words a0 Z) (K : KA a0 Z n0 CN nI FF cv) (x1 : Int) (x2 : Int) (s : Obj) : GQ (XA l Z n0 CN FF cv h0) appendByte_I 0 0 0 (entry [Rf 0, I x1, I x2] appendByte_I.2.2.1) [] s (appendByte_M x1 x2 s) := by
  show GQ _ _ _ _ 0 [some (Rf 0), some (I x1), some (I x2)] [] _ _
  unfold appendByte_M
  refine GQ.aloadN (pc' := 1) appendByte_d0 rfl rfl ?_
  refine GQ.getI (M := appendByte_I) (k := 30) (pc' := 4) rfl (wd106 hw) appendByte_d1 rfl ?_
  refine GQ.ifT (pcT := 9) (pcF := 7) h_eq appendByte_d4 rfl rfl rfl ?_ ?_
  · refine GQ.aloadN (pc' := 10) appendByte_d9 rfl rfl ?_
    refine GQ.iloadN (pc' := 11) appendByte_d10 rfl rfl ?_
    refine GQ.callP (Mc := isFile_I) (args0 := [I x1]) (S := []) (r := 0) (pc' := 14) (isFile_K hw (by decide)) rfl appendByte_d11 rfl (wd157 hw) (wd158 hw) (wd159 hw) (wd1 hw) XA.recv rfl (isFile_M_ok hw K x1 s) rfl (fun z11 s11 => ?_)
    show GQ (XA l Z n0 CN FF cv h0) appendByte_I _ _ 14 [some (Rf 0), some (I x1), some (I x2)] [I z11] s11 _
    refine GQ.ifF (pcT := 20) (pcF := 17) h_ne appendByte_d14 rfl rfl rfl ?_ ?_
    · refine GQ.aloadN (pc' := 21) appendByte_d20 rfl rfl ?_
      refine GQ.getI (M := appendByte_I) (k := 43) (pc' := 24) rfl (wd114 hw) appendByte_d21 rfl ?_
      refine GQ.sipush (pc' := 27) appendByte_d24 rfl rfl ?_
      refine GQ.icmpT (pcT := 33) (pcF := 30) h_lt appendByte_d27 rfl rfl rfl ?_ ?_
      · refine GQ.aloadN (pc' := 34) appendByte_d33 rfl rfl ?_
        refine GQ.iloadN (pc' := 35) appendByte_d34 rfl rfl ?_
        refine GQ.iloadN (pc' := 36) appendByte_d35 rfl rfl ?_
        refine GQ.sipush (pc' := 39) appendByte_d36 rfl rfl ?_
        refine GQ.iand (pc' := 40) appendByte_d39 rfl ?_
        refine GQ.callP (Mc := pushByte_I) (args0 := [I x1, I (aAnd x2 255)]) (S := []) (r := 0) (pc' := 43) (pushByte_K hw (by decide)) rfl appendByte_d40 rfl (wd161 hw) (wd162 hw) (wd163 hw) (wd1 hw) XA.recv rfl (pushByte_M_ok hw K x1 (aAnd x2 255) s11) rfl (fun _ s40 => ?_)
        show GQ (XA l Z n0 CN FF cv h0) appendByte_I _ _ 43 [some (Rf 0), some (I x1), some (I x2)] [] s40 _
        refine GQ.aloadN (pc' := 44) appendByte_d43 rfl rfl ?_
        refine GQ.getA (M := appendByte_I) (k := 36) (pc' := 47) rfl (by decide) (wd76 hw) appendByte_d44 rfl ?_
        refine GQ.iloadN (pc' := 48) appendByte_d47 rfl rfl ?_
        refine GQ.rd (k := 36) (ins := .iaload) (pc' := 49) rfl (by decide) (Or.inl ⟨rfl, rfl⟩) appendByte_d48 rfl (fun z48 => ?_)
        exact GQ.iret rfl appendByte_d49
      refine GQ.bipush (pc' := 32) appendByte_d30 rfl rfl ?_
      exact GQ.iret rfl appendByte_d32
    refine GQ.bipush (pc' := 19) appendByte_d17 rfl rfl ?_
    exact GQ.iret rfl appendByte_d19
  refine GQ.iconst (pc' := 8) appendByte_d7 rfl rfl ?_
  exact GQ.iret rfl appendByte_d8
def u8_I : Mi := (⟨"SquashImage", "u8", "(I)I"⟩, prog_1_method_58_code, 2, (some .int), 0, 0)
theorem u8_d0 : decode u8_I.2.1 0 = .ok (.iload_n 1, 1) := by decide +kernel
theorem u8_d1 : decode u8_I.2.1 1 = .ok (.ifCond .lt 12, 3) := by decide +kernel
theorem u8_d4 : decode u8_I.2.1 4 = .ok (.iload_n 1, 1) := by decide +kernel
theorem u8_d5 : decode u8_I.2.1 5 = .ok (.aload_n 0, 1) := by decide +kernel
theorem u8_d6 : decode u8_I.2.1 6 = .ok (.getfield 124, 3) := by decide +kernel
theorem u8_d9 : decode u8_I.2.1 9 = .ok (.arraylength, 1) := by decide +kernel
theorem u8_d10 : decode u8_I.2.1 10 = .ok (.if_icmp .lt 5, 3) := by decide +kernel
theorem u8_d13 : decode u8_I.2.1 13 = .ok (.iconst 0, 1) := by decide +kernel
theorem u8_d14 : decode u8_I.2.1 14 = .ok (.ireturn, 1) := by decide +kernel
theorem u8_d15 : decode u8_I.2.1 15 = .ok (.aload_n 0, 1) := by decide +kernel
theorem u8_d16 : decode u8_I.2.1 16 = .ok (.getfield 124, 3) := by decide +kernel
theorem u8_d19 : decode u8_I.2.1 19 = .ok (.iload_n 1, 1) := by decide +kernel
theorem u8_d20 : decode u8_I.2.1 20 = .ok (.baload, 1) := by decide +kernel
theorem u8_d21 : decode u8_I.2.1 21 = .ok (.sipush 255, 3) := by decide +kernel
theorem u8_d24 : decode u8_I.2.1 24 = .ok (.iand, 1) := by decide +kernel
theorem u8_d25 : decode u8_I.2.1 25 = .ok (.ireturn, 1) := by decide +kernel
theorem u8_p : parseMethodDescriptor u8_I.1.desc = some ⟨[.int], (some .int)⟩ := by decide +kernel
theorem u8_K {a0 : Array Value} {Z : State} {M : Mi} (hw : Words a0 Z) (h : u8_I.2.2.2.2.1 + 1 ≤ M.2.2.2.2.1) : Callee a0 Z M u8_I 1 := ⟨pnC, (wd221 hw), (wd2 hw), h, by decide, fun sig q => by cases u8_p.symm.trans q; rfl⟩
set_option maxRecDepth 65536 in
set_option maxHeartbeats 4000000 in
theorem u8_M_ok {l : Launch} {Z : State} {a0 : Array Value} {n0 : Nat} {cv : Nat → Nat} {h0 : Heap} (hw : Words a0 Z) (K : KA a0 Z n0 CN nI FF cv) (x1 : Int) (s : Obj) : GQ (XA l Z n0 CN FF cv h0) u8_I 0 0 0 (entry [Rf 0, I x1] u8_I.2.2.1) [] s (u8_M x1 s) := by
  show GQ _ _ _ _ 0 [some (Rf 0), some (I x1)] [] _ _
  unfold u8_M
  refine GQ.iloadN (pc' := 1) u8_d0 rfl rfl ?_
  refine GQ.ifT (pcT := 13) (pcF := 4) h_lt u8_d1 rfl rfl rfl ?_ ?_
  · refine GQ.iconst (pc' := 14) u8_d13 rfl rfl ?_
    exact GQ.iret rfl u8_d14
  refine GQ.iloadN (pc' := 5) u8_d4 rfl rfl ?_
  refine GQ.aloadN (pc' := 6) u8_d5 rfl rfl ?_
  refine GQ.getA (M := u8_I) (k := 44) (pc' := 9) rfl (by decide) (wd86 hw) u8_d6 rfl ?_
  refine GQ.lenA (k := 44) (pc' := 10) rfl rfl u8_d9 rfl ?_
  refine GQ.icmpT (pcT := 15) (pcF := 13) h_lt u8_d10 rfl rfl rfl ?_ ?_
  · refine GQ.aloadN (pc' := 16) u8_d15 rfl rfl ?_
    refine GQ.getA (M := u8_I) (k := 44) (pc' := 19) rfl (by decide) (wd86 hw) u8_d16 rfl ?_
    refine GQ.iloadN (pc' := 20) u8_d19 rfl rfl ?_
    refine GQ.rd (k := 44) (ins := .baload) (pc' := 21) rfl (by decide) (Or.inr (Or.inl ⟨rfl, rfl⟩)) u8_d20 rfl (fun z20 => ?_)
    refine GQ.sipush (pc' := 24) u8_d21 rfl rfl ?_
    refine GQ.iand (pc' := 25) u8_d24 rfl ?_
    exact GQ.iret rfl u8_d25
  refine GQ.iconst (pc' := 14) u8_d13 rfl rfl ?_
  exact GQ.iret rfl u8_d14
def u16_I : Mi := (⟨"SquashImage", "u16", "(I)I"⟩, prog_1_method_59_code, 4, (some .int), 1, 13)
theorem u16_d0 : decode u16_I.2.1 0 = .ok (.aload_n 0, 1) := by decide +kernel
theorem u16_d1 : decode u16_I.2.1 1 = .ok (.iload_n 1, 1) := by decide +kernel
theorem u16_d2 : decode u16_I.2.1 2 = .ok (.invokevirtual 286, 3) := by decide +kernel
theorem u16_d5 : decode u16_I.2.1 5 = .ok (.istore_n 2, 1) := by decide +kernel
theorem u16_d6 : decode u16_I.2.1 6 = .ok (.aload_n 0, 1) := by decide +kernel
theorem u16_d7 : decode u16_I.2.1 7 = .ok (.iload_n 1, 1) := by decide +kernel
theorem u16_d8 : decode u16_I.2.1 8 = .ok (.iconst 1, 1) := by decide +kernel
theorem u16_d9 : decode u16_I.2.1 9 = .ok (.iadd, 1) := by decide +kernel
theorem u16_d10 : decode u16_I.2.1 10 = .ok (.invokevirtual 286, 3) := by decide +kernel
theorem u16_d13 : decode u16_I.2.1 13 = .ok (.istore_n 3, 1) := by decide +kernel
theorem u16_d14 : decode u16_I.2.1 14 = .ok (.iload_n 2, 1) := by decide +kernel
theorem u16_d15 : decode u16_I.2.1 15 = .ok (.bipush 8, 2) := by decide +kernel
theorem u16_d17 : decode u16_I.2.1 17 = .ok (.ishl, 1) := by decide +kernel
theorem u16_d18 : decode u16_I.2.1 18 = .ok (.iload_n 3, 1) := by decide +kernel
theorem u16_d19 : decode u16_I.2.1 19 = .ok (.ior, 1) := by decide +kernel
theorem u16_d20 : decode u16_I.2.1 20 = .ok (.ireturn, 1) := by decide +kernel
theorem u16_p : parseMethodDescriptor u16_I.1.desc = some ⟨[.int], (some .int)⟩ := by decide +kernel
theorem u16_K {a0 : Array Value} {Z : State} {M : Mi} (hw : Words a0 Z) (h : u16_I.2.2.2.2.1 + 1 ≤ M.2.2.2.2.1) : Callee a0 Z M u16_I 1 := ⟨pnC, (wd217 hw), (wd2 hw), h, by decide, fun sig q => by cases u16_p.symm.trans q; rfl⟩
set_option maxRecDepth 65536 in
set_option maxHeartbeats 4000000 in
theorem u16_M_ok {l : Launch} {Z : State} {a0 : Array Value} {n0 : Nat} {cv : Nat → Nat} {h0 : Heap} (hw : Words a0 Z) (K : KA a0 Z n0 CN nI FF cv) (x1 : Int) (s : Obj) : GQ (XA l Z n0 CN FF cv h0) u16_I 0 0 0 (entry [Rf 0, I x1] u16_I.2.2.1) [] s (u16_M x1 s) := by
  show GQ _ _ _ _ 0 [some (Rf 0), some (I x1), none, none] [] _ _
  unfold u16_M
  refine GQ.aloadN (pc' := 1) u16_d0 rfl rfl ?_
  refine GQ.iloadN (pc' := 2) u16_d1 rfl rfl ?_
  refine GQ.callP (Mc := u8_I) (args0 := [I x1]) (S := []) (r := 0) (pc' := 5) (u8_K hw (by decide)) rfl u16_d2 rfl (wd218 hw) (wd219 hw) (wd220 hw) (wd1 hw) XA.recv rfl (u8_M_ok hw K x1 s) rfl (fun z2 s2 => ?_)
  show GQ (XA l Z n0 CN FF cv h0) u16_I _ _ 5 [some (Rf 0), some (I x1), none, none] [I z2] s2 _
  refine GQ.istoreN (L' := [some (Rf 0), some (I x1), some (I z2), none]) (pc' := 6) u16_d5 rfl rfl rfl ?_
  refine GQ.aloadN (pc' := 7) u16_d6 rfl rfl ?_
  refine GQ.iloadN (pc' := 8) u16_d7 rfl rfl ?_
  refine GQ.iconst (pc' := 9) u16_d8 rfl rfl ?_
  refine GQ.iadd (pc' := 10) u16_d9 rfl ?_
  refine GQ.callP (Mc := u8_I) (args0 := [I (aAdd x1 1)]) (S := []) (r := 0) (pc' := 13) (u8_K hw (by decide)) rfl u16_d10 rfl (wd218 hw) (wd219 hw) (wd220 hw) (wd1 hw) XA.recv rfl (u8_M_ok hw K (aAdd x1 1) s2) rfl (fun z10 s10 => ?_)
  show GQ (XA l Z n0 CN FF cv h0) u16_I _ _ 13 [some (Rf 0), some (I x1), some (I z2), none] [I z10] s10 _
  refine GQ.istoreN (L' := [some (Rf 0), some (I x1), some (I z2), some (I z10)]) (pc' := 14) u16_d13 rfl rfl rfl ?_
  refine GQ.iloadN (pc' := 15) u16_d14 rfl rfl ?_
  refine GQ.bipush (pc' := 17) u16_d15 rfl rfl ?_
  refine GQ.ishl (pc' := 18) u16_d17 rfl ?_
  refine GQ.iloadN (pc' := 19) u16_d18 rfl rfl ?_
  refine GQ.ior (pc' := 20) u16_d19 rfl ?_
  exact GQ.iret rfl u16_d20
def inodePos_I : Mi := (⟨"SquashImage", "inodePos", "(I)I"⟩, prog_1_method_56_code, 3, (some .int), 2, 28)
theorem inodePos_d0 : decode inodePos_I.2.1 0 = .ok (.aload_n 0, 1) := by decide +kernel
theorem inodePos_d1 : decode inodePos_I.2.1 1 = .ok (.iconst 0, 1) := by decide +kernel
theorem inodePos_d2 : decode inodePos_I.2.1 2 = .ok (.invokevirtual 252, 3) := by decide +kernel
theorem inodePos_d5 : decode inodePos_I.2.1 5 = .ok (.istore_n 2, 1) := by decide +kernel
theorem inodePos_d6 : decode inodePos_I.2.1 6 = .ok (.iload_n 2, 1) := by decide +kernel
theorem inodePos_d7 : decode inodePos_I.2.1 7 = .ok (.bipush 8, 2) := by decide +kernel
theorem inodePos_d9 : decode inodePos_I.2.1 9 = .ok (.iload_n 1, 1) := by decide +kernel
theorem inodePos_d10 : decode inodePos_I.2.1 10 = .ok (.imul, 1) := by decide +kernel
theorem inodePos_d11 : decode inodePos_I.2.1 11 = .ok (.iadd, 1) := by decide +kernel
theorem inodePos_d12 : decode inodePos_I.2.1 12 = .ok (.ireturn, 1) := by decide +kernel
theorem inodePos_p : parseMethodDescriptor inodePos_I.1.desc = some ⟨[.int], (some .int)⟩ := by decide +kernel
theorem inodePos_K {a0 : Array Value} {Z : State} {M : Mi} (hw : Words a0 Z) (h : inodePos_I.2.2.2.2.1 + 1 ≤ M.2.2.2.2.1) : Callee a0 Z M inodePos_I 1 := ⟨pnC, (wd213 hw), (wd2 hw), h, by decide, fun sig q => by cases inodePos_p.symm.trans q; rfl⟩
set_option maxRecDepth 65536 in
set_option maxHeartbeats 4000000 in
theorem inodePos_M_ok {l : Launch} {Z : State} {a0 : Array Value} {n0 : Nat} {cv : Nat → Nat} {h0 : Heap} (hw : Words a0 Z) (K : KA a0 Z n0 CN nI FF cv) (x1 : Int) (s : Obj) : GQ (XA l Z n0 CN FF cv h0) inodePos_I 0 0 0 (entry [Rf 0, I x1] inodePos_I.2.2.1) [] s (inodePos_M x1 s) := by
  show GQ _ _ _ _ 0 [some (Rf 0), some (I x1), none] [] _ _
  unfold inodePos_M
  refine GQ.aloadN (pc' := 1) inodePos_d0 rfl rfl ?_
  refine GQ.iconst (pc' := 2) inodePos_d1 rfl rfl ?_
  refine GQ.callP (Mc := u16_I) (args0 := [I 0]) (S := []) (r := 0) (pc' := 5) (u16_K hw (by decide)) rfl inodePos_d2 rfl (wd214 hw) (wd215 hw) (wd216 hw) (wd1 hw) XA.recv rfl (u16_M_ok hw K 0 s) rfl (fun z2 s2 => ?_)
  show GQ (XA l Z n0 CN FF cv h0) inodePos_I _ _ 5 [some (Rf 0), some (I x1), none] [I z2] s2 _
  refine GQ.istoreN (L' := [some (Rf 0), some (I x1), some (I z2)]) (pc' := 6) inodePos_d5 rfl rfl rfl ?_
  refine GQ.iloadN (pc' := 7) inodePos_d6 rfl rfl ?_
  refine GQ.bipush (pc' := 9) inodePos_d7 rfl rfl ?_
  refine GQ.iloadN (pc' := 10) inodePos_d9 rfl rfl ?_
  refine GQ.imul (pc' := 11) inodePos_d10 rfl ?_
  refine GQ.iadd (pc' := 12) inodePos_d11 rfl ?_
  exact GQ.iret rfl inodePos_d12
def fileSize_I : Mi := (⟨"SquashImage", "fileSize", "(I)I"⟩, prog_1_method_45_code, 3, (some .int), 3, 42)
theorem fileSize_d0 : decode fileSize_I.2.1 0 = .ok (.aload_n 0, 1) := by decide +kernel
theorem fileSize_d1 : decode fileSize_I.2.1 1 = .ok (.iload_n 1, 1) := by decide +kernel
theorem fileSize_d2 : decode fileSize_I.2.1 2 = .ok (.invokevirtual 195, 3) := by decide +kernel
theorem fileSize_d5 : decode fileSize_I.2.1 5 = .ok (.ifCond .ne 6, 3) := by decide +kernel
theorem fileSize_d8 : decode fileSize_I.2.1 8 = .ok (.bipush (-2), 2) := by decide +kernel
theorem fileSize_d10 : decode fileSize_I.2.1 10 = .ok (.ireturn, 1) := by decide +kernel
theorem fileSize_d11 : decode fileSize_I.2.1 11 = .ok (.aload_n 0, 1) := by decide +kernel
theorem fileSize_d12 : decode fileSize_I.2.1 12 = .ok (.getfield 152, 3) := by decide +kernel
theorem fileSize_d15 : decode fileSize_I.2.1 15 = .ok (.ifCond .eq 17, 3) := by decide +kernel
theorem fileSize_d18 : decode fileSize_I.2.1 18 = .ok (.aload_n 0, 1) := by decide +kernel
theorem fileSize_d19 : decode fileSize_I.2.1 19 = .ok (.iload_n 1, 1) := by decide +kernel
theorem fileSize_d20 : decode fileSize_I.2.1 20 = .ok (.invokevirtual 243, 3) := by decide +kernel
theorem fileSize_d23 : decode fileSize_I.2.1 23 = .ok (.istore_n 2, 1) := by decide +kernel
theorem fileSize_d24 : decode fileSize_I.2.1 24 = .ok (.aload_n 0, 1) := by decide +kernel
theorem fileSize_d25 : decode fileSize_I.2.1 25 = .ok (.iload_n 2, 1) := by decide +kernel
theorem fileSize_d26 : decode fileSize_I.2.1 26 = .ok (.iconst 2, 1) := by decide +kernel
theorem fileSize_d27 : decode fileSize_I.2.1 27 = .ok (.iadd, 1) := by decide +kernel
theorem fileSize_d28 : decode fileSize_I.2.1 28 = .ok (.invokevirtual 252, 3) := by decide +kernel
theorem fileSize_d31 : decode fileSize_I.2.1 31 = .ok (.ireturn, 1) := by decide +kernel
theorem fileSize_d32 : decode fileSize_I.2.1 32 = .ok (.aload_n 0, 1) := by decide +kernel
theorem fileSize_d33 : decode fileSize_I.2.1 33 = .ok (.getfield 108, 3) := by decide +kernel
theorem fileSize_d36 : decode fileSize_I.2.1 36 = .ok (.iload_n 1, 1) := by decide +kernel
theorem fileSize_d37 : decode fileSize_I.2.1 37 = .ok (.iaload, 1) := by decide +kernel
theorem fileSize_d38 : decode fileSize_I.2.1 38 = .ok (.ireturn, 1) := by decide +kernel
theorem fileSize_p : parseMethodDescriptor fileSize_I.1.desc = some ⟨[.int], (some .int)⟩ := by decide +kernel
theorem fileSize_K {a0 : Array Value} {Z : State} {M : Mi} (hw : Words a0 Z) (h : fileSize_I.2.2.2.2.1 + 1 ≤ M.2.2.2.2.1) : Callee a0 Z M fileSize_I 1 := ⟨pnC, (wd174 hw), (wd2 hw), h, by decide, fun sig q => by cases fileSize_p.symm.trans q; rfl⟩
set_option maxRecDepth 65536 in
set_option maxHeartbeats 4000000 in
theorem fileSize_M_ok {l : Launch} {Z : State} {a0 : Array Value} {n0 : Nat} {cv : Nat → Nat} {h0 : Heap} (hw : Words a0 Z) (K : KA a0 Z n0 CN nI FF cv) (x1 : Int) (s : Obj) : GQ (XA l Z n0 CN FF cv h0) fileSize_I 0 0 0 (entry [Rf 0, I x1] fileSize_I.2.2.1) [] s (fileSize_M x1 s) := by
  show GQ _ _ _ _ 0 [some (Rf 0), some (I x1), none] [] _ _
  unfold fileSize_M
  refine GQ.aloadN (pc' := 1) fileSize_d0 rfl rfl ?_
  refine GQ.iloadN (pc' := 2) fileSize_d1 rfl rfl ?_
  refine GQ.callP (Mc := isFile_I) (args0 := [I x1]) (S := []) (r := 0) (pc' := 5) (isFile_K hw (by decide)) rfl fileSize_d2 rfl (wd157 hw) (wd158 hw) (wd159 hw) (wd1 hw) XA.recv rfl (isFile_M_ok hw K x1 s) rfl (fun z2 s2 => ?_)
  show GQ (XA l Z n0 CN FF cv h0) fileSize_I _ _ 5 [some (Rf 0), some (I x1), none] [I z2] s2 _
  refine GQ.ifF (pcT := 11) (pcF := 8) h_ne fileSize_d5 rfl rfl rfl ?_ ?_
  · refine GQ.aloadN (pc' := 12) fileSize_d11 rfl rfl ?_
    refine GQ.getI (M := fileSize_I) (k := 30) (pc' := 15) rfl (wd106 hw) fileSize_d12 rfl ?_
    refine GQ.ifT (pcT := 32) (pcF := 18) h_eq fileSize_d15 rfl rfl rfl ?_ ?_
    · refine GQ.aloadN (pc' := 33) fileSize_d32 rfl rfl ?_
      refine GQ.getA (M := fileSize_I) (k := 36) (pc' := 36) rfl (by decide) (wd76 hw) fileSize_d33 rfl ?_
      refine GQ.iloadN (pc' := 37) fileSize_d36 rfl rfl ?_
      refine GQ.rd (k := 36) (ins := .iaload) (pc' := 38) rfl (by decide) (Or.inl ⟨rfl, rfl⟩) fileSize_d37 rfl (fun z37 => ?_)
      exact GQ.iret rfl fileSize_d38
    refine GQ.aloadN (pc' := 19) fileSize_d18 rfl rfl ?_
    refine GQ.iloadN (pc' := 20) fileSize_d19 rfl rfl ?_
    refine GQ.callP (Mc := inodePos_I) (args0 := [I x1]) (S := []) (r := 0) (pc' := 23) (inodePos_K hw (by decide)) rfl fileSize_d20 rfl (wd210 hw) (wd211 hw) (wd212 hw) (wd1 hw) XA.recv rfl (inodePos_M_ok hw K x1 s2) rfl (fun z20 s20 => ?_)
    show GQ (XA l Z n0 CN FF cv h0) fileSize_I _ _ 23 [some (Rf 0), some (I x1), none] [I z20] s20 _
    refine GQ.istoreN (L' := [some (Rf 0), some (I x1), some (I z20)]) (pc' := 24) fileSize_d23 rfl rfl rfl ?_
    refine GQ.aloadN (pc' := 25) fileSize_d24 rfl rfl ?_
    refine GQ.iloadN (pc' := 26) fileSize_d25 rfl rfl ?_
    refine GQ.iconst (pc' := 27) fileSize_d26 rfl rfl ?_
    refine GQ.iadd (pc' := 28) fileSize_d27 rfl ?_
    refine GQ.callP (Mc := u16_I) (args0 := [I (aAdd z20 2)]) (S := []) (r := 0) (pc' := 31) (u16_K hw (by decide)) rfl fileSize_d28 rfl (wd214 hw) (wd215 hw) (wd216 hw) (wd1 hw) XA.recv rfl (u16_M_ok hw K (aAdd z20 2) s20) rfl (fun z28 s28 => ?_)
    show GQ (XA l Z n0 CN FF cv h0) fileSize_I _ _ 31 [some (Rf 0), some (I x1), some (I z20)] [I z28] s28 _
    exact GQ.iret rfl fileSize_d31
  refine GQ.bipush (pc' := 10) fileSize_d8 rfl rfl ?_
  exact GQ.iret rfl fileSize_d10
def put8_I : Mi := (⟨"SquashImage", "put8", "(II)V"⟩, prog_1_method_60_code, 3, none, 0, 0)
theorem put8_d0 : decode put8_I.2.1 0 = .ok (.iload_n 1, 1) := by decide +kernel
theorem put8_d1 : decode put8_I.2.1 1 = .ok (.ifCond .lt 20, 3) := by decide +kernel
theorem put8_d4 : decode put8_I.2.1 4 = .ok (.iload_n 1, 1) := by decide +kernel
theorem put8_d5 : decode put8_I.2.1 5 = .ok (.aload_n 0, 1) := by decide +kernel
theorem put8_d6 : decode put8_I.2.1 6 = .ok (.getfield 124, 3) := by decide +kernel
theorem put8_d9 : decode put8_I.2.1 9 = .ok (.arraylength, 1) := by decide +kernel
theorem put8_d10 : decode put8_I.2.1 10 = .ok (.if_icmp .ge 11, 3) := by decide +kernel
theorem put8_d13 : decode put8_I.2.1 13 = .ok (.aload_n 0, 1) := by decide +kernel
theorem put8_d14 : decode put8_I.2.1 14 = .ok (.getfield 124, 3) := by decide +kernel
theorem put8_d17 : decode put8_I.2.1 17 = .ok (.iload_n 1, 1) := by decide +kernel
theorem put8_d18 : decode put8_I.2.1 18 = .ok (.iload_n 2, 1) := by decide +kernel
theorem put8_d19 : decode put8_I.2.1 19 = .ok (.i2b, 1) := by decide +kernel
theorem put8_d20 : decode put8_I.2.1 20 = .ok (.bastore, 1) := by decide +kernel
theorem put8_d21 : decode put8_I.2.1 21 = .ok (.return_, 1) := by decide +kernel
theorem put8_p : parseMethodDescriptor put8_I.1.desc = some ⟨[.int, .int], none⟩ := by decide +kernel
theorem put8_K {a0 : Array Value} {Z : State} {M : Mi} (hw : Words a0 Z) (h : put8_I.2.2.2.2.1 + 1 ≤ M.2.2.2.2.1) : Callee a0 Z M put8_I 2 := ⟨pnC, (wd191 hw), (wd2 hw), h, by decide, fun sig q => by cases put8_p.symm.trans q; rfl⟩
set_option maxRecDepth 65536 in
set_option maxHeartbeats 4000000 in
theorem put8_M_ok {l : Launch} {Z : State} {a0 : Array Value} {n0 : Nat} {cv : Nat → Nat} {h0 : Heap} (hw : Words a0 Z) (K : KA a0 Z n0 CN nI FF cv) (x1 : Int) (x2 : Int) (s : Obj) : GQ (XA l Z n0 CN FF cv h0) put8_I 0 0 0 (entry [Rf 0, I x1, I x2] put8_I.2.2.1) [] s (put8_M x1 x2 s) := by
  show GQ _ _ _ _ 0 [some (Rf 0), some (I x1), some (I x2)] [] _ _
  unfold put8_M
  refine GQ.iloadN (pc' := 1) put8_d0 rfl rfl ?_
  refine GQ.ifT (pcT := 21) (pcF := 4) h_lt put8_d1 rfl rfl rfl ?_ ?_
  · exact GQ.ret rfl put8_d21
  refine GQ.iloadN (pc' := 5) put8_d4 rfl rfl ?_
  refine GQ.aloadN (pc' := 6) put8_d5 rfl rfl ?_
  refine GQ.getA (M := put8_I) (k := 44) (pc' := 9) rfl (by decide) (wd86 hw) put8_d6 rfl ?_
  refine GQ.lenA (k := 44) (pc' := 10) rfl rfl put8_d9 rfl ?_
  refine GQ.icmpF (pcT := 21) (pcF := 13) h_ge put8_d10 rfl rfl rfl ?_ ?_
  · exact GQ.ret rfl put8_d21
  refine GQ.aloadN (pc' := 14) put8_d13 rfl rfl ?_
  refine GQ.getA (M := put8_I) (k := 44) (pc' := 17) rfl (by decide) (wd86 hw) put8_d14 rfl ?_
  refine GQ.iloadN (pc' := 18) put8_d17 rfl rfl ?_
  refine GQ.iloadN (pc' := 19) put8_d18 rfl rfl ?_
  refine GQ.i2b (pc' := 20) put8_d19 rfl ?_
  refine GQ.wr (k := 44) (ins := .bastore) (pc' := 21) K rfl (by decide) (Or.inr (Or.inl ⟨rfl, rfl⟩)) put8_d20 rfl (fun s20 => ?_)
  exact GQ.ret rfl put8_d21
def put16_I : Mi := (⟨"SquashImage", "put16", "(II)V"⟩, prog_1_method_61_code, 3, none, 1, 14)
theorem put16_d0 : decode put16_I.2.1 0 = .ok (.aload_n 0, 1) := by decide +kernel
theorem put16_d1 : decode put16_I.2.1 1 = .ok (.iload_n 1, 1) := by decide +kernel
theorem put16_d2 : decode put16_I.2.1 2 = .ok (.iload_n 2, 1) := by decide +kernel
theorem put16_d3 : decode put16_I.2.1 3 = .ok (.bipush 8, 2) := by decide +kernel
theorem put16_d5 : decode put16_I.2.1 5 = .ok (.iushr, 1) := by decide +kernel
theorem put16_d6 : decode put16_I.2.1 6 = .ok (.sipush 255, 3) := by decide +kernel
theorem put16_d9 : decode put16_I.2.1 9 = .ok (.iand, 1) := by decide +kernel
theorem put16_d10 : decode put16_I.2.1 10 = .ok (.invokevirtual 221, 3) := by decide +kernel
theorem put16_d13 : decode put16_I.2.1 13 = .ok (.aload_n 0, 1) := by decide +kernel
theorem put16_d14 : decode put16_I.2.1 14 = .ok (.iload_n 1, 1) := by decide +kernel
theorem put16_d15 : decode put16_I.2.1 15 = .ok (.iconst 1, 1) := by decide +kernel
theorem put16_d16 : decode put16_I.2.1 16 = .ok (.iadd, 1) := by decide +kernel
theorem put16_d17 : decode put16_I.2.1 17 = .ok (.iload_n 2, 1) := by decide +kernel
theorem put16_d18 : decode put16_I.2.1 18 = .ok (.sipush 255, 3) := by decide +kernel
theorem put16_d21 : decode put16_I.2.1 21 = .ok (.iand, 1) := by decide +kernel
theorem put16_d22 : decode put16_I.2.1 22 = .ok (.invokevirtual 221, 3) := by decide +kernel
theorem put16_d25 : decode put16_I.2.1 25 = .ok (.return_, 1) := by decide +kernel
theorem put16_p : parseMethodDescriptor put16_I.1.desc = some ⟨[.int, .int], none⟩ := by decide +kernel
theorem put16_K {a0 : Array Value} {Z : State} {M : Mi} (hw : Words a0 Z) (h : put16_I.2.2.2.2.1 + 1 ≤ M.2.2.2.2.1) : Callee a0 Z M put16_I 2 := ⟨pnC, (wd187 hw), (wd2 hw), h, by decide, fun sig q => by cases put16_p.symm.trans q; rfl⟩
set_option maxRecDepth 65536 in
set_option maxHeartbeats 4000000 in
theorem put16_M_ok {l : Launch} {Z : State} {a0 : Array Value} {n0 : Nat} {cv : Nat → Nat} {h0 : Heap} (hw : Words a0 Z) (K : KA a0 Z n0 CN nI FF cv) (x1 : Int) (x2 : Int) (s : Obj) : GQ (XA l Z n0 CN FF cv h0) put16_I 0 0 0 (entry [Rf 0, I x1, I x2] put16_I.2.2.1) [] s (put16_M x1 x2 s) := by
  show GQ _ _ _ _ 0 [some (Rf 0), some (I x1), some (I x2)] [] _ _
  unfold put16_M
  refine GQ.aloadN (pc' := 1) put16_d0 rfl rfl ?_
  refine GQ.iloadN (pc' := 2) put16_d1 rfl rfl ?_
  refine GQ.iloadN (pc' := 3) put16_d2 rfl rfl ?_
  refine GQ.bipush (pc' := 5) put16_d3 rfl rfl ?_
  refine GQ.iushr (pc' := 6) put16_d5 rfl ?_
  refine GQ.sipush (pc' := 9) put16_d6 rfl rfl ?_
  refine GQ.iand (pc' := 10) put16_d9 rfl ?_
  refine GQ.callP (Mc := put8_I) (args0 := [I x1, I (aAnd (aUshr x2 8) 255)]) (S := []) (r := 0) (pc' := 13) (put8_K hw (by decide)) rfl put16_d10 rfl (wd188 hw) (wd189 hw) (wd190 hw) (wd1 hw) XA.recv rfl (put8_M_ok hw K x1 (aAnd (aUshr x2 8) 255) s) rfl (fun _ s10 => ?_)
  show GQ (XA l Z n0 CN FF cv h0) put16_I _ _ 13 [some (Rf 0), some (I x1), some (I x2)] [] s10 _
  refine GQ.aloadN (pc' := 14) put16_d13 rfl rfl ?_
  refine GQ.iloadN (pc' := 15) put16_d14 rfl rfl ?_
  refine GQ.iconst (pc' := 16) put16_d15 rfl rfl ?_
  refine GQ.iadd (pc' := 17) put16_d16 rfl ?_
  refine GQ.iloadN (pc' := 18) put16_d17 rfl rfl ?_
  refine GQ.sipush (pc' := 21) put16_d18 rfl rfl ?_
  refine GQ.iand (pc' := 22) put16_d21 rfl ?_
  refine GQ.callP (Mc := put8_I) (args0 := [I (aAdd x1 1), I (aAnd x2 255)]) (S := []) (r := 0) (pc' := 25) (put8_K hw (by decide)) rfl put16_d22 rfl (wd188 hw) (wd189 hw) (wd190 hw) (wd1 hw) XA.recv rfl (put8_M_ok hw K (aAdd x1 1) (aAnd x2 255) s10) rfl (fun _ s22 => ?_)
  show GQ (XA l Z n0 CN FF cv h0) put16_I _ _ 25 [some (Rf 0), some (I x1), some (I x2)] [] s22 _
  exact GQ.ret rfl put16_d25
def planLayout_I : Mi := (⟨"SquashImage", "planLayout", "()V"⟩, prog_1_method_13_code, 9, none, 2, 28)
theorem planLayout_d0 : decode planLayout_I.2.1 0 = .ok (.iconst 0, 1) := by decide +kernel
theorem planLayout_d1 : decode planLayout_I.2.1 1 = .ok (.istore_n 1, 1) := by decide +kernel
theorem planLayout_d2 : decode planLayout_I.2.1 2 = .ok (.iconst 0, 1) := by decide +kernel
theorem planLayout_d3 : decode planLayout_I.2.1 3 = .ok (.istore_n 2, 1) := by decide +kernel
theorem planLayout_d4 : decode planLayout_I.2.1 4 = .ok (.iconst 1, 1) := by decide +kernel
theorem planLayout_d5 : decode planLayout_I.2.1 5 = .ok (.istore_n 3, 1) := by decide +kernel
theorem planLayout_d6 : decode planLayout_I.2.1 6 = .ok (.iload_n 3, 1) := by decide +kernel
theorem planLayout_d7 : decode planLayout_I.2.1 7 = .ok (.aload_n 0, 1) := by decide +kernel
theorem planLayout_d8 : decode planLayout_I.2.1 8 = .ok (.getfield 156, 3) := by decide +kernel
theorem planLayout_d11 : decode planLayout_I.2.1 11 = .ok (.if_icmp .ge 53, 3) := by decide +kernel
theorem planLayout_d14 : decode planLayout_I.2.1 14 = .ok (.iload_n 3, 1) := by decide +kernel
theorem planLayout_d15 : decode planLayout_I.2.1 15 = .ok (.bipush 16, 2) := by decide +kernel
theorem planLayout_d17 : decode planLayout_I.2.1 17 = .ok (.if_icmp .ge 47, 3) := by decide +kernel
theorem planLayout_d20 : decode planLayout_I.2.1 20 = .ok (.aload_n 0, 1) := by decide +kernel
theorem planLayout_d21 : decode planLayout_I.2.1 21 = .ok (.getfield 94, 3) := by decide +kernel
theorem planLayout_d24 : decode planLayout_I.2.1 24 = .ok (.iload_n 3, 1) := by decide +kernel
theorem planLayout_d25 : decode planLayout_I.2.1 25 = .ok (.baload, 1) := by decide +kernel
theorem planLayout_d26 : decode planLayout_I.2.1 26 = .ok (.iconst 2, 1) := by decide +kernel
theorem planLayout_d27 : decode planLayout_I.2.1 27 = .ok (.if_icmp .ne 31, 3) := by decide +kernel
theorem planLayout_d30 : decode planLayout_I.2.1 30 = .ok (.iload_n 1, 1) := by decide +kernel
theorem planLayout_d31 : decode planLayout_I.2.1 31 = .ok (.aload_n 0, 1) := by decide +kernel
theorem planLayout_d32 : decode planLayout_I.2.1 32 = .ok (.getfield 108, 3) := by decide +kernel
theorem planLayout_d35 : decode planLayout_I.2.1 35 = .ok (.iload_n 3, 1) := by decide +kernel
theorem planLayout_d36 : decode planLayout_I.2.1 36 = .ok (.iaload, 1) := by decide +kernel
theorem planLayout_d37 : decode planLayout_I.2.1 37 = .ok (.aload_n 0, 1) := by decide +kernel
theorem planLayout_d38 : decode planLayout_I.2.1 38 = .ok (.getfield 146, 3) := by decide +kernel
theorem planLayout_d41 : decode planLayout_I.2.1 41 = .ok (.idiv, 1) := by decide +kernel
theorem planLayout_d42 : decode planLayout_I.2.1 42 = .ok (.iadd, 1) := by decide +kernel
theorem planLayout_d43 : decode planLayout_I.2.1 43 = .ok (.istore_n 1, 1) := by decide +kernel
theorem planLayout_d44 : decode planLayout_I.2.1 44 = .ok (.iload_n 2, 1) := by decide +kernel
theorem planLayout_d45 : decode planLayout_I.2.1 45 = .ok (.aload_n 0, 1) := by decide +kernel
theorem planLayout_d46 : decode planLayout_I.2.1 46 = .ok (.getfield 108, 3) := by decide +kernel
theorem planLayout_d49 : decode planLayout_I.2.1 49 = .ok (.iload_n 3, 1) := by decide +kernel
theorem planLayout_d50 : decode planLayout_I.2.1 50 = .ok (.iaload, 1) := by decide +kernel
theorem planLayout_d51 : decode planLayout_I.2.1 51 = .ok (.aload_n 0, 1) := by decide +kernel
theorem planLayout_d52 : decode planLayout_I.2.1 52 = .ok (.getfield 146, 3) := by decide +kernel
theorem planLayout_d55 : decode planLayout_I.2.1 55 = .ok (.irem, 1) := by decide +kernel
theorem planLayout_d56 : decode planLayout_I.2.1 56 = .ok (.iadd, 1) := by decide +kernel
theorem planLayout_d57 : decode planLayout_I.2.1 57 = .ok (.istore_n 2, 1) := by decide +kernel
theorem planLayout_d58 : decode planLayout_I.2.1 58 = .ok (.iinc 3 1, 3) := by decide +kernel
theorem planLayout_d61 : decode planLayout_I.2.1 61 = .ok (.goto (-55), 3) := by decide +kernel
theorem planLayout_d64 : decode planLayout_I.2.1 64 = .ok (.iload_n 2, 1) := by decide +kernel
theorem planLayout_d65 : decode planLayout_I.2.1 65 = .ok (.aload_n 0, 1) := by decide +kernel
theorem planLayout_d66 : decode planLayout_I.2.1 66 = .ok (.getfield 146, 3) := by decide +kernel
theorem planLayout_d69 : decode planLayout_I.2.1 69 = .ok (.iadd, 1) := by decide +kernel
theorem planLayout_d70 : decode planLayout_I.2.1 70 = .ok (.iconst 1, 1) := by decide +kernel
theorem planLayout_d71 : decode planLayout_I.2.1 71 = .ok (.isub, 1) := by decide +kernel
theorem planLayout_d72 : decode planLayout_I.2.1 72 = .ok (.aload_n 0, 1) := by decide +kernel
theorem planLayout_d73 : decode planLayout_I.2.1 73 = .ok (.getfield 146, 3) := by decide +kernel
theorem planLayout_d76 : decode planLayout_I.2.1 76 = .ok (.idiv, 1) := by decide +kernel
theorem planLayout_d77 : decode planLayout_I.2.1 77 = .ok (.istore_n 3, 1) := by decide +kernel
theorem planLayout_d78 : decode planLayout_I.2.1 78 = .ok (.iload_n 1, 1) := by decide +kernel
theorem planLayout_d79 : decode planLayout_I.2.1 79 = .ok (.iload_n 3, 1) := by decide +kernel
theorem planLayout_d80 : decode planLayout_I.2.1 80 = .ok (.iadd, 1) := by decide +kernel
theorem planLayout_d81 : decode planLayout_I.2.1 81 = .ok (.istore 4, 2) := by decide +kernel
theorem planLayout_d83 : decode planLayout_I.2.1 83 = .ok (.bipush 16, 2) := by decide +kernel
theorem planLayout_d85 : decode planLayout_I.2.1 85 = .ok (.istore 5, 2) := by decide +kernel
theorem planLayout_d87 : decode planLayout_I.2.1 87 = .ok (.iload 5, 2) := by decide +kernel
theorem planLayout_d89 : decode planLayout_I.2.1 89 = .ok (.bipush 8, 2) := by decide +kernel
theorem planLayout_d91 : decode planLayout_I.2.1 91 = .ok (.aload_n 0, 1) := by decide +kernel
theorem planLayout_d92 : decode planLayout_I.2.1 92 = .ok (.getfield 156, 3) := by decide +kernel
theorem planLayout_d95 : decode planLayout_I.2.1 95 = .ok (.imul, 1) := by decide +kernel
theorem planLayout_d96 : decode planLayout_I.2.1 96 = .ok (.iadd, 1) := by decide +kernel
theorem planLayout_d97 : decode planLayout_I.2.1 97 = .ok (.istore 6, 2) := by decide +kernel
theorem planLayout_d99 : decode planLayout_I.2.1 99 = .ok (.iload 6, 2) := by decide +kernel
theorem planLayout_d101 : decode planLayout_I.2.1 101 = .ok (.iconst 4, 1) := by decide +kernel
theorem planLayout_d102 : decode planLayout_I.2.1 102 = .ok (.iload 4, 2) := by decide +kernel
theorem planLayout_d104 : decode planLayout_I.2.1 104 = .ok (.imul, 1) := by decide +kernel
theorem planLayout_d105 : decode planLayout_I.2.1 105 = .ok (.iadd, 1) := by decide +kernel
theorem planLayout_d106 : decode planLayout_I.2.1 106 = .ok (.istore 7, 2) := by decide +kernel
theorem planLayout_d108 : decode planLayout_I.2.1 108 = .ok (.iload 7, 2) := by decide +kernel
theorem planLayout_d110 : decode planLayout_I.2.1 110 = .ok (.bipush 10, 2) := by decide +kernel
theorem planLayout_d112 : decode planLayout_I.2.1 112 = .ok (.aload_n 0, 1) := by decide +kernel
theorem planLayout_d113 : decode planLayout_I.2.1 113 = .ok (.getfield 156, 3) := by decide +kernel
theorem planLayout_d116 : decode planLayout_I.2.1 116 = .ok (.iconst 1, 1) := by decide +kernel
theorem planLayout_d117 : decode planLayout_I.2.1 117 = .ok (.isub, 1) := by decide +kernel
theorem planLayout_d118 : decode planLayout_I.2.1 118 = .ok (.imul, 1) := by decide +kernel
theorem planLayout_d119 : decode planLayout_I.2.1 119 = .ok (.iadd, 1) := by decide +kernel
theorem planLayout_d120 : decode planLayout_I.2.1 120 = .ok (.istore 8, 2) := by decide +kernel
theorem planLayout_d122 : decode planLayout_I.2.1 122 = .ok (.aload_n 0, 1) := by decide +kernel
theorem planLayout_d123 : decode planLayout_I.2.1 123 = .ok (.iconst 0, 1) := by decide +kernel
theorem planLayout_d124 : decode planLayout_I.2.1 124 = .ok (.iload 5, 2) := by decide +kernel
theorem planLayout_d126 : decode planLayout_I.2.1 126 = .ok (.invokevirtual 218, 3) := by decide +kernel
theorem planLayout_d129 : decode planLayout_I.2.1 129 = .ok (.aload_n 0, 1) := by decide +kernel
theorem planLayout_d130 : decode planLayout_I.2.1 130 = .ok (.iconst 2, 1) := by decide +kernel
theorem planLayout_d131 : decode planLayout_I.2.1 131 = .ok (.iload 6, 2) := by decide +kernel
theorem planLayout_d133 : decode planLayout_I.2.1 133 = .ok (.invokevirtual 218, 3) := by decide +kernel
theorem planLayout_d136 : decode planLayout_I.2.1 136 = .ok (.aload_n 0, 1) := by decide +kernel
theorem planLayout_d137 : decode planLayout_I.2.1 137 = .ok (.iconst 4, 1) := by decide +kernel
theorem planLayout_d138 : decode planLayout_I.2.1 138 = .ok (.iload 7, 2) := by decide +kernel
theorem planLayout_d140 : decode planLayout_I.2.1 140 = .ok (.invokevirtual 218, 3) := by decide +kernel
theorem planLayout_d143 : decode planLayout_I.2.1 143 = .ok (.aload_n 0, 1) := by decide +kernel
theorem planLayout_d144 : decode planLayout_I.2.1 144 = .ok (.bipush 6, 2) := by decide +kernel
theorem planLayout_d146 : decode planLayout_I.2.1 146 = .ok (.iload 8, 2) := by decide +kernel
theorem planLayout_d148 : decode planLayout_I.2.1 148 = .ok (.invokevirtual 218, 3) := by decide +kernel
theorem planLayout_d151 : decode planLayout_I.2.1 151 = .ok (.aload_n 0, 1) := by decide +kernel
theorem planLayout_d152 : decode planLayout_I.2.1 152 = .ok (.bipush 8, 2) := by decide +kernel
theorem planLayout_d154 : decode planLayout_I.2.1 154 = .ok (.aload_n 0, 1) := by decide +kernel
theorem planLayout_d155 : decode planLayout_I.2.1 155 = .ok (.getfield 156, 3) := by decide +kernel
theorem planLayout_d158 : decode planLayout_I.2.1 158 = .ok (.invokevirtual 221, 3) := by decide +kernel
theorem planLayout_d161 : decode planLayout_I.2.1 161 = .ok (.aload_n 0, 1) := by decide +kernel
theorem planLayout_d162 : decode planLayout_I.2.1 162 = .ok (.bipush 9, 2) := by decide +kernel
theorem planLayout_d164 : decode planLayout_I.2.1 164 = .ok (.aload_n 0, 1) := by decide +kernel
theorem planLayout_d165 : decode planLayout_I.2.1 165 = .ok (.getfield 146, 3) := by decide +kernel
theorem planLayout_d168 : decode planLayout_I.2.1 168 = .ok (.invokevirtual 221, 3) := by decide +kernel
theorem planLayout_d171 : decode planLayout_I.2.1 171 = .ok (.aload_n 0, 1) := by decide +kernel
theorem planLayout_d172 : decode planLayout_I.2.1 172 = .ok (.bipush 10, 2) := by decide +kernel
theorem planLayout_d174 : decode planLayout_I.2.1 174 = .ok (.iload_n 1, 1) := by decide +kernel
theorem planLayout_d175 : decode planLayout_I.2.1 175 = .ok (.invokevirtual 221, 3) := by decide +kernel
theorem planLayout_d178 : decode planLayout_I.2.1 178 = .ok (.aload_n 0, 1) := by decide +kernel
theorem planLayout_d179 : decode planLayout_I.2.1 179 = .ok (.bipush 11, 2) := by decide +kernel
theorem planLayout_d181 : decode planLayout_I.2.1 181 = .ok (.iload 4, 2) := by decide +kernel
theorem planLayout_d183 : decode planLayout_I.2.1 183 = .ok (.invokevirtual 221, 3) := by decide +kernel
theorem planLayout_d186 : decode planLayout_I.2.1 186 = .ok (.aload_n 0, 1) := by decide +kernel
theorem planLayout_d187 : decode planLayout_I.2.1 187 = .ok (.bipush 12, 2) := by decide +kernel
theorem planLayout_d189 : decode planLayout_I.2.1 189 = .ok (.bipush 83, 2) := by decide +kernel
theorem planLayout_d191 : decode planLayout_I.2.1 191 = .ok (.invokevirtual 221, 3) := by decide +kernel
theorem planLayout_d194 : decode planLayout_I.2.1 194 = .ok (.aload_n 0, 1) := by decide +kernel
theorem planLayout_d195 : decode planLayout_I.2.1 195 = .ok (.iload 8, 2) := by decide +kernel
theorem planLayout_d197 : decode planLayout_I.2.1 197 = .ok (.putfield 224, 3) := by decide +kernel
theorem planLayout_d200 : decode planLayout_I.2.1 200 = .ok (.aload_n 0, 1) := by decide +kernel
theorem planLayout_d201 : decode planLayout_I.2.1 201 = .ok (.iload 7, 2) := by decide +kernel
theorem planLayout_d203 : decode planLayout_I.2.1 203 = .ok (.putfield 227, 3) := by decide +kernel
theorem planLayout_d206 : decode planLayout_I.2.1 206 = .ok (.return_, 1) := by decide +kernel
theorem planLayout_p : parseMethodDescriptor planLayout_I.1.desc = some ⟨[], none⟩ := by decide +kernel
theorem planLayout_K {a0 : Array Value} {Z : State} {M : Mi} (hw : Words a0 Z) (h : planLayout_I.2.2.2.2.1 + 1 ≤ M.2.2.2.2.1) : Callee a0 Z M planLayout_I 0 := ⟨pnC, (wd183 hw), (wd2 hw), h, by decide, fun sig q => by cases planLayout_p.symm.trans q; rfl⟩
set_option maxRecDepth 65536 in
set_option maxHeartbeats 4000000 in
theorem planLayout_j58_ok {l : Launch} {Z : State} {a0 : Array Value} {n0 : Nat} {cv : Nat → Nat} {h0 : Heap} (hw : Words a0 Z) (K : KA a0 Z n0 CN nI FF cv) {k64 : Int → Int → Obj → Option (Int × Obj)} {rec : Int → Int → Int → Obj → Option (Int × Obj)} (hk64 : ∀ (x1 : Int) (x2 : Int) (s : Obj), GQ (XA l Z n0 CN FF cv h0) planLayout_I 0 0 64 [some (Rf 0), some (I x1), some (I x2), none, none, none, none, none, none] [] s (k64 x1 x2 s)) (hrec : ∀ (x1 : Int) (x2 : Int) (x3 : Int) (s : Obj), GQ (XA l Z n0 CN FF cv h0) planLayout_I 0 0 6 [some (Rf 0), some (I x1), some (I x2), some (I x3), none, none, none, none, none] [] s (rec x1 x2 x3 s)) (x1 : Int) (x2 : Int) (x3 : Int) (s : Obj) : GQ (XA l Z n0 CN FF cv h0) planLayout_I 0 0 58 [some (Rf 0), some (I x1), some (I x2), some (I x3), none, none, none, none, none] [] s (planLayout_j58 k64 rec x1 x2 x3 s) := by
  unfold planLayout_j58
  refine GQ.iinc (L' := [some (Rf 0), some (I x1), some (I x2), some (I (aAdd x3 1)), none, none, none, none, none]) (pc' := 61) planLayout_d58 rfl rfl rfl rfl ?_
  refine GQ.goto (pc' := 6) planLayout_d61 rfl rfl ?_
  exact hrec x1 x2 (aAdd x3 1) s
set_option maxRecDepth 65536 in
set_option maxHeartbeats 4000000 in
theorem planLayout_l6b_ok {l : Launch} {Z : State} {a0 : Array Value} {n0 : Nat} {cv : Nat → Nat} {h0 : Heap} (hw : Words a0 Z) (K : KA a0 Z n0 CN nI FF cv) {k64 : Int → Int → Obj → Option (Int × Obj)} (hk64 : ∀ (x1 : Int) (x2 : Int) (s : Obj), GQ (XA l Z n0 CN FF cv h0) planLayout_I 0 0 64 [some (Rf 0), some (I x1), some (I x2), none, none, none, none, none, none] [] s (k64 x1 x2 s)) {rec : Int → Int → Int → Obj → Option (Int × Obj)} (hrec : ∀ (x1 : Int) (x2 : Int) (x3 : Int) (s : Obj), GQ (XA l Z n0 CN FF cv h0) planLayout_I 0 0 6 [some (Rf 0), some (I x1), some (I x2), some (I x3), none, none, none, none, none] [] s (rec x1 x2 x3 s)) (x1 : Int) (x2 : Int) (x3 : Int) (s : Obj) : GQ (XA l Z n0 CN FF cv h0) planLayout_I 0 0 6 [some (Rf 0), some (I x1), some (I x2), some (I x3), none, none, none, none, none] [] s (planLayout_l6b k64 rec x1 x2 x3 s) := by
  unfold planLayout_l6b
  refine GQ.iloadN (pc' := 7) planLayout_d6 rfl rfl ?_
  refine GQ.aloadN (pc' := 8) planLayout_d7 rfl rfl ?_
  refine GQ.getI (M := planLayout_I) (k := 31) (pc' := 11) rfl (wd108 hw) planLayout_d8 rfl ?_
  refine GQ.icmpF (pcT := 64) (pcF := 14) h_ge planLayout_d11 rfl rfl rfl ?_ ?_
  · refine GQ.weak (L' := [some (Rf 0), some (I x1), some (I x2), none, none, none, none, none, none]) (Sub.keep (Sub.keep (Sub.keep (Sub.drop (Sub.keep (Sub.keep (Sub.keep (Sub.keep (Sub.keep Sub.nil))))))))) ?_
    exact hk64 x1 x2 s
  refine GQ.iloadN (pc' := 15) planLayout_d14 rfl rfl ?_
  refine GQ.bipush (pc' := 17) planLayout_d15 rfl rfl ?_
  refine GQ.icmpF (pcT := 64) (pcF := 20) h_ge planLayout_d17 rfl rfl rfl ?_ ?_
  · refine GQ.weak (L' := [some (Rf 0), some (I x1), some (I x2), none, none, none, none, none, none]) (Sub.keep (Sub.keep (Sub.keep (Sub.drop (Sub.keep (Sub.keep (Sub.keep (Sub.keep (Sub.keep Sub.nil))))))))) ?_
    exact hk64 x1 x2 s
  refine GQ.aloadN (pc' := 21) planLayout_d20 rfl rfl ?_
  refine GQ.getA (M := planLayout_I) (k := 32) (pc' := 24) rfl (by decide) (wd66 hw) planLayout_d21 rfl ?_
  refine GQ.iloadN (pc' := 25) planLayout_d24 rfl rfl ?_
  refine GQ.rd (k := 32) (ins := .baload) (pc' := 26) rfl (by decide) (Or.inr (Or.inl ⟨rfl, rfl⟩)) planLayout_d25 rfl (fun z25 => ?_)
  refine GQ.iconst (pc' := 27) planLayout_d26 rfl rfl ?_
  refine GQ.icmpF (pcT := 58) (pcF := 30) h_ne planLayout_d27 rfl rfl rfl ?_ ?_
  · exact planLayout_j58_ok hw K hk64 hrec x1 x2 x3 s
  refine GQ.iloadN (pc' := 31) planLayout_d30 rfl rfl ?_
  refine GQ.aloadN (pc' := 32) planLayout_d31 rfl rfl ?_
  refine GQ.getA (M := planLayout_I) (k := 36) (pc' := 35) rfl (by decide) (wd76 hw) planLayout_d32 rfl ?_
  refine GQ.iloadN (pc' := 36) planLayout_d35 rfl rfl ?_
  refine GQ.rd (k := 36) (ins := .iaload) (pc' := 37) rfl (by decide) (Or.inl ⟨rfl, rfl⟩) planLayout_d36 rfl (fun z36 => ?_)
  refine GQ.aloadN (pc' := 38) planLayout_d37 rfl rfl ?_
  refine GQ.getI (M := planLayout_I) (k := 28) (pc' := 41) rfl (wd102 hw) planLayout_d38 rfl ?_
  refine GQ.idiv (pc' := 42) planLayout_d41 rfl ?_
  refine GQ.iadd (pc' := 43) planLayout_d42 rfl ?_
  refine GQ.letI (fun x1_43 => ?_)
  refine GQ.istoreN (L' := [some (Rf 0), some (I x1_43), some (I x2), some (I x3), none, none, none, none, none]) (pc' := 44) planLayout_d43 rfl rfl rfl ?_
  refine GQ.iloadN (pc' := 45) planLayout_d44 rfl rfl ?_
  refine GQ.aloadN (pc' := 46) planLayout_d45 rfl rfl ?_
  refine GQ.getA (M := planLayout_I) (k := 36) (pc' := 49) rfl (by decide) (wd76 hw) planLayout_d46 rfl ?_
  refine GQ.iloadN (pc' := 50) planLayout_d49 rfl rfl ?_
  refine GQ.rd (k := 36) (ins := .iaload) (pc' := 51) rfl (by decide) (Or.inl ⟨rfl, rfl⟩) planLayout_d50 rfl (fun z50 => ?_)
  refine GQ.aloadN (pc' := 52) planLayout_d51 rfl rfl ?_
  refine GQ.getI (M := planLayout_I) (k := 28) (pc' := 55) rfl (wd102 hw) planLayout_d52 rfl ?_
  refine GQ.irem (pc' := 56) planLayout_d55 rfl ?_
  refine GQ.iadd (pc' := 57) planLayout_d56 rfl ?_
  refine GQ.letI (fun x2_57 => ?_)
  refine GQ.istoreN (L' := [some (Rf 0), some (I x1_43), some (I x2_57), some (I x3), none, none, none, none, none]) (pc' := 58) planLayout_d57 rfl rfl rfl ?_
  exact planLayout_j58_ok hw K hk64 hrec x1_43 x2_57 x3 s
set_option maxRecDepth 65536 in
set_option maxHeartbeats 4000000 in
theorem planLayout_l6_ok {l : Launch} {Z : State} {a0 : Array Value} {n0 : Nat} {cv : Nat → Nat} {h0 : Heap} (hw : Words a0 Z) (K : KA a0 Z n0 CN nI FF cv) {k64 : Int → Int → Obj → Option (Int × Obj)} (hk64 : ∀ (x1 : Int) (x2 : Int) (s : Obj), GQ (XA l Z n0 CN FF cv h0) planLayout_I 0 0 64 [some (Rf 0), some (I x1), some (I x2), none, none, none, none, none, none] [] s (k64 x1 x2 s)) : ∀ (fu : Nat) (x1 : Int) (x2 : Int) (x3 : Int) (s : Obj), GQ (XA l Z n0 CN FF cv h0) planLayout_I 0 0 6 [some (Rf 0), some (I x1), some (I x2), some (I x3), none, none, none, none, none] [] s (planLayout_l6 k64 fu x1 x2 x3 s)
  | 0 => fun _ _ _ _ => GQ.no
  | fu + 1 => planLayout_l6b_ok hw K hk64 (planLayout_l6_ok hw K hk64 fu)
set_option maxRecDepth 65536 in
set_option maxHeartbeats 4000000 in
theorem planLayout_j64_ok {l : Launch} {Z : State} {a0 : Array Value} {n0 : Nat} {cv : Nat → Nat} {h0 : Heap} (hw : Words a0 Z) (K : KA a0 Z n0 CN nI FF cv) (x1 : Int) (x2 : Int) (s : Obj) : GQ (XA l Z n0 CN FF cv h0) planLayout_I 0 0 64 [some (Rf 0), some (I x1), some (I x2), none, none, none, none, none, none] [] s (planLayout_j64 x1 x2 s) := by
  unfold planLayout_j64
  refine GQ.iloadN (pc' := 65) planLayout_d64 rfl rfl ?_
  refine GQ.aloadN (pc' := 66) planLayout_d65 rfl rfl ?_
  refine GQ.getI (M := planLayout_I) (k := 28) (pc' := 69) rfl (wd102 hw) planLayout_d66 rfl ?_
  refine GQ.iadd (pc' := 70) planLayout_d69 rfl ?_
  refine GQ.iconst (pc' := 71) planLayout_d70 rfl rfl ?_
  refine GQ.isub (pc' := 72) planLayout_d71 rfl ?_
  refine GQ.aloadN (pc' := 73) planLayout_d72 rfl rfl ?_
  refine GQ.getI (M := planLayout_I) (k := 28) (pc' := 76) rfl (wd102 hw) planLayout_d73 rfl ?_
  refine GQ.idiv (pc' := 77) planLayout_d76 rfl ?_
  refine GQ.letI (fun x3_77 => ?_)
  refine GQ.istoreN (L' := [some (Rf 0), some (I x1), some (I x2), some (I x3_77), none, none, none, none, none]) (pc' := 78) planLayout_d77 rfl rfl rfl ?_
  refine GQ.iloadN (pc' := 79) planLayout_d78 rfl rfl ?_
  refine GQ.iloadN (pc' := 80) planLayout_d79 rfl rfl ?_
  refine GQ.iadd (pc' := 81) planLayout_d80 rfl ?_
  refine GQ.letI (fun x4_81 => ?_)
  refine GQ.istore (L' := [some (Rf 0), some (I x1), some (I x2), some (I x3_77), some (I x4_81), none, none, none, none]) (pc' := 83) planLayout_d81 rfl rfl rfl ?_
  refine GQ.bipush (pc' := 85) planLayout_d83 rfl rfl ?_
  refine GQ.istore (L' := [some (Rf 0), some (I x1), some (I x2), some (I x3_77), some (I x4_81), some (I 16), none, none, none]) (pc' := 87) planLayout_d85 rfl rfl rfl ?_
  refine GQ.iload (pc' := 89) planLayout_d87 rfl rfl ?_
  refine GQ.bipush (pc' := 91) planLayout_d89 rfl rfl ?_
  refine GQ.aloadN (pc' := 92) planLayout_d91 rfl rfl ?_
  refine GQ.getI (M := planLayout_I) (k := 31) (pc' := 95) rfl (wd108 hw) planLayout_d92 rfl ?_
  refine GQ.imul (pc' := 96) planLayout_d95 rfl ?_
  refine GQ.iadd (pc' := 97) planLayout_d96 rfl ?_
  refine GQ.letI (fun x6_97 => ?_)
  refine GQ.istore (L' := [some (Rf 0), some (I x1), some (I x2), some (I x3_77), some (I x4_81), some (I 16), some (I x6_97), none, none]) (pc' := 99) planLayout_d97 rfl rfl rfl ?_
  refine GQ.iload (pc' := 101) planLayout_d99 rfl rfl ?_
  refine GQ.iconst (pc' := 102) planLayout_d101 rfl rfl ?_
  refine GQ.iload (pc' := 104) planLayout_d102 rfl rfl ?_
  refine GQ.imul (pc' := 105) planLayout_d104 rfl ?_
  refine GQ.iadd (pc' := 106) planLayout_d105 rfl ?_
  refine GQ.letI (fun x7_106 => ?_)
  refine GQ.istore (L' := [some (Rf 0), some (I x1), some (I x2), some (I x3_77), some (I x4_81), some (I 16), some (I x6_97), some (I x7_106), none]) (pc' := 108) planLayout_d106 rfl rfl rfl ?_
  refine GQ.iload (pc' := 110) planLayout_d108 rfl rfl ?_
  refine GQ.bipush (pc' := 112) planLayout_d110 rfl rfl ?_
  refine GQ.aloadN (pc' := 113) planLayout_d112 rfl rfl ?_
  refine GQ.getI (M := planLayout_I) (k := 31) (pc' := 116) rfl (wd108 hw) planLayout_d113 rfl ?_
  refine GQ.iconst (pc' := 117) planLayout_d116 rfl rfl ?_
  refine GQ.isub (pc' := 118) planLayout_d117 rfl ?_
  refine GQ.imul (pc' := 119) planLayout_d118 rfl ?_
  refine GQ.iadd (pc' := 120) planLayout_d119 rfl ?_
  refine GQ.letI (fun x8_120 => ?_)
  refine GQ.istore (L' := [some (Rf 0), some (I x1), some (I x2), some (I x3_77), some (I x4_81), some (I 16), some (I x6_97), some (I x7_106), some (I x8_120)]) (pc' := 122) planLayout_d120 rfl rfl rfl ?_
  refine GQ.aloadN (pc' := 123) planLayout_d122 rfl rfl ?_
  refine GQ.iconst (pc' := 124) planLayout_d123 rfl rfl ?_
  refine GQ.iload (pc' := 126) planLayout_d124 rfl rfl ?_
  refine GQ.callP (Mc := put16_I) (args0 := [I 0, I 16]) (S := []) (r := 0) (pc' := 129) (put16_K hw (by decide)) rfl planLayout_d126 rfl (wd184 hw) (wd185 hw) (wd186 hw) (wd1 hw) XA.recv rfl (put16_M_ok hw K 0 16 s) rfl (fun _ s126 => ?_)
  show GQ (XA l Z n0 CN FF cv h0) planLayout_I _ _ 129 [some (Rf 0), some (I x1), some (I x2), some (I x3_77), some (I x4_81), some (I 16), some (I x6_97), some (I x7_106), some (I x8_120)] [] s126 _
  refine GQ.aloadN (pc' := 130) planLayout_d129 rfl rfl ?_
  refine GQ.iconst (pc' := 131) planLayout_d130 rfl rfl ?_
  refine GQ.iload (pc' := 133) planLayout_d131 rfl rfl ?_
  refine GQ.callP (Mc := put16_I) (args0 := [I 2, I x6_97]) (S := []) (r := 0) (pc' := 136) (put16_K hw (by decide)) rfl planLayout_d133 rfl (wd184 hw) (wd185 hw) (wd186 hw) (wd1 hw) XA.recv rfl (put16_M_ok hw K 2 x6_97 s126) rfl (fun _ s133 => ?_)
  show GQ (XA l Z n0 CN FF cv h0) planLayout_I _ _ 136 [some (Rf 0), some (I x1), some (I x2), some (I x3_77), some (I x4_81), some (I 16), some (I x6_97), some (I x7_106), some (I x8_120)] [] s133 _
  refine GQ.aloadN (pc' := 137) planLayout_d136 rfl rfl ?_
  refine GQ.iconst (pc' := 138) planLayout_d137 rfl rfl ?_
  refine GQ.iload (pc' := 140) planLayout_d138 rfl rfl ?_
  refine GQ.callP (Mc := put16_I) (args0 := [I 4, I x7_106]) (S := []) (r := 0) (pc' := 143) (put16_K hw (by decide)) rfl planLayout_d140 rfl (wd184 hw) (wd185 hw) (wd186 hw) (wd1 hw) XA.recv rfl (put16_M_ok hw K 4 x7_106 s133) rfl (fun _ s140 => ?_)
  show GQ (XA l Z n0 CN FF cv h0) planLayout_I _ _ 143 [some (Rf 0), some (I x1), some (I x2), some (I x3_77), some (I x4_81), some (I 16), some (I x6_97), some (I x7_106), some (I x8_120)] [] s140 _
  refine GQ.aloadN (pc' := 144) planLayout_d143 rfl rfl ?_
  refine GQ.bipush (pc' := 146) planLayout_d144 rfl rfl ?_
  refine GQ.iload (pc' := 148) planLayout_d146 rfl rfl ?_
  refine GQ.callP (Mc := put16_I) (args0 := [I 6, I x8_120]) (S := []) (r := 0) (pc' := 151) (put16_K hw (by decide)) rfl planLayout_d148 rfl (wd184 hw) (wd185 hw) (wd186 hw) (wd1 hw) XA.recv rfl (put16_M_ok hw K 6 x8_120 s140) rfl (fun _ s148 => ?_)
  show GQ (XA l Z n0 CN FF cv h0) planLayout_I _ _ 151 [some (Rf 0), some (I x1), some (I x2), some (I x3_77), some (I x4_81), some (I 16), some (I x6_97), some (I x7_106), some (I x8_120)] [] s148 _
  refine GQ.aloadN (pc' := 152) planLayout_d151 rfl rfl ?_
  refine GQ.bipush (pc' := 154) planLayout_d152 rfl rfl ?_
  refine GQ.aloadN (pc' := 155) planLayout_d154 rfl rfl ?_
  refine GQ.getI (M := planLayout_I) (k := 31) (pc' := 158) rfl (wd108 hw) planLayout_d155 rfl ?_
  refine GQ.callP (Mc := put8_I) (args0 := [I 8, I (s148.1 31)]) (S := []) (r := 0) (pc' := 161) (put8_K hw (by decide)) rfl planLayout_d158 rfl (wd188 hw) (wd189 hw) (wd190 hw) (wd1 hw) XA.recv rfl (put8_M_ok hw K 8 (s148.1 31) s148) rfl (fun _ s158 => ?_)
  show GQ (XA l Z n0 CN FF cv h0) planLayout_I _ _ 161 [some (Rf 0), some (I x1), some (I x2), some (I x3_77), some (I x4_81), some (I 16), some (I x6_97), some (I x7_106), some (I x8_120)] [] s158 _
  refine GQ.aloadN (pc' := 162) planLayout_d161 rfl rfl ?_
  refine GQ.bipush (pc' := 164) planLayout_d162 rfl rfl ?_
  refine GQ.aloadN (pc' := 165) planLayout_d164 rfl rfl ?_
  refine GQ.getI (M := planLayout_I) (k := 28) (pc' := 168) rfl (wd102 hw) planLayout_d165 rfl ?_
  refine GQ.callP (Mc := put8_I) (args0 := [I 9, I (s158.1 28)]) (S := []) (r := 0) (pc' := 171) (put8_K hw (by decide)) rfl planLayout_d168 rfl (wd188 hw) (wd189 hw) (wd190 hw) (wd1 hw) XA.recv rfl (put8_M_ok hw K 9 (s158.1 28) s158) rfl (fun _ s168 => ?_)
  show GQ (XA l Z n0 CN FF cv h0) planLayout_I _ _ 171 [some (Rf 0), some (I x1), some (I x2), some (I x3_77), some (I x4_81), some (I 16), some (I x6_97), some (I x7_106), some (I x8_120)] [] s168 _
  refine GQ.aloadN (pc' := 172) planLayout_d171 rfl rfl ?_
  refine GQ.bipush (pc' := 174) planLayout_d172 rfl rfl ?_
  refine GQ.iloadN (pc' := 175) planLayout_d174 rfl rfl ?_
  refine GQ.callP (Mc := put8_I) (args0 := [I 10, I x1]) (S := []) (r := 0) (pc' := 178) (put8_K hw (by decide)) rfl planLayout_d175 rfl (wd188 hw) (wd189 hw) (wd190 hw) (wd1 hw) XA.recv rfl (put8_M_ok hw K 10 x1 s168) rfl (fun _ s175 => ?_)
  show GQ (XA l Z n0 CN FF cv h0) planLayout_I _ _ 178 [some (Rf 0), some (I x1), some (I x2), some (I x3_77), some (I x4_81), some (I 16), some (I x6_97), some (I x7_106), some (I x8_120)] [] s175 _
  refine GQ.aloadN (pc' := 179) planLayout_d178 rfl rfl ?_
  refine GQ.bipush (pc' := 181) planLayout_d179 rfl rfl ?_
  refine GQ.iload (pc' := 183) planLayout_d181 rfl rfl ?_
  refine GQ.callP (Mc := put8_I) (args0 := [I 11, I x4_81]) (S := []) (r := 0) (pc' := 186) (put8_K hw (by decide)) rfl planLayout_d183 rfl (wd188 hw) (wd189 hw) (wd190 hw) (wd1 hw) XA.recv rfl (put8_M_ok hw K 11 x4_81 s175) rfl (fun _ s183 => ?_)
  show GQ (XA l Z n0 CN FF cv h0) planLayout_I _ _ 186 [some (Rf 0), some (I x1), some (I x2), some (I x3_77), some (I x4_81), some (I 16), some (I x6_97), some (I x7_106), some (I x8_120)] [] s183 _
  refine GQ.aloadN (pc' := 187) planLayout_d186 rfl rfl ?_
  refine GQ.bipush (pc' := 189) planLayout_d187 rfl rfl ?_
  refine GQ.bipush (pc' := 191) planLayout_d189 rfl rfl ?_
  refine GQ.callP (Mc := put8_I) (args0 := [I 12, I 83]) (S := []) (r := 0) (pc' := 194) (put8_K hw (by decide)) rfl planLayout_d191 rfl (wd188 hw) (wd189 hw) (wd190 hw) (wd1 hw) XA.recv rfl (put8_M_ok hw K 12 83 s183) rfl (fun _ s191 => ?_)
  show GQ (XA l Z n0 CN FF cv h0) planLayout_I _ _ 194 [some (Rf 0), some (I x1), some (I x2), some (I x3_77), some (I x4_81), some (I 16), some (I x6_97), some (I x7_106), some (I x8_120)] [] s191 _
  refine GQ.aloadN (pc' := 195) planLayout_d194 rfl rfl ?_
  refine GQ.iload (pc' := 197) planLayout_d195 rfl rfl ?_
  refine GQ.putI (M := planLayout_I) (k := 51) (pc' := 200) K rfl (wd192 hw) (wd193 hw) planLayout_d197 rfl ?_
  refine GQ.letM (fun s197 => ?_)
  refine GQ.aloadN (pc' := 201) planLayout_d200 rfl rfl ?_
  refine GQ.iload (pc' := 203) planLayout_d201 rfl rfl ?_
  refine GQ.putI (M := planLayout_I) (k := 53) (pc' := 206) K rfl (wd194 hw) (wd195 hw) planLayout_d203 rfl ?_
  refine GQ.letM (fun s203 => ?_)
  exact GQ.ret rfl planLayout_d206
set_option maxRecDepth 65536 in
set_option maxHeartbeats 4000000 in
theorem planLayout_M_ok {l : Launch} {Z : State} {a0 : Array Value} {n0 : Nat} {cv : Nat → Nat} {h0 : Heap} (hw : Words a0 Z) (K : KA a0 Z n0 CN nI FF cv) (s : Obj) : GQ (XA l Z n0 CN FF cv h0) planLayout_I 0 0 0 (entry [Rf 0] planLayout_I.2.2.1) [] s (planLayout_M s) := by
  show GQ _ _ _ _ 0 [some (Rf 0), none, none, none, none, none, none, none, none] [] _ _
  unfold planLayout_M
  refine GQ.iconst (pc' := 1) planLayout_d0 rfl rfl ?_
  refine GQ.istoreN (L' := [some (Rf 0), some (I 0), none, none, none, none, none, none, none]) (pc' := 2) planLayout_d1 rfl rfl rfl ?_
  refine GQ.iconst (pc' := 3) planLayout_d2 rfl rfl ?_
  refine GQ.istoreN (L' := [some (Rf 0), some (I 0), some (I 0), none, none, none, none, none, none]) (pc' := 4) planLayout_d3 rfl rfl rfl ?_
  refine GQ.iconst (pc' := 5) planLayout_d4 rfl rfl ?_
  refine GQ.istoreN (L' := [some (Rf 0), some (I 0), some (I 0), some (I 1), none, none, none, none, none]) (pc' := 6) planLayout_d5 rfl rfl rfl ?_
  refine planLayout_l6_ok hw K  (fun x1_64 x2_64 s64 => ?_) FU 0 0 1 s
  exact planLayout_j64_ok hw K x1_64 x2_64 s64
def gatherFile_I : Mi := (⟨"SquashImage", "gatherFile", "(I)I"⟩, prog_1_method_15_code, 4, (some .int), 0, 0)
theorem gatherFile_d0 : decode gatherFile_I.2.1 0 = .ok (.iconst 0, 1) := by decide +kernel
theorem gatherFile_d1 : decode gatherFile_I.2.1 1 = .ok (.istore_n 2, 1) := by decide +kernel
theorem gatherFile_d2 : decode gatherFile_I.2.1 2 = .ok (.iconst 0, 1) := by decide +kernel
theorem gatherFile_d3 : decode gatherFile_I.2.1 3 = .ok (.istore_n 3, 1) := by decide +kernel
theorem gatherFile_d4 : decode gatherFile_I.2.1 4 = .ok (.iload_n 3, 1) := by decide +kernel
theorem gatherFile_d5 : decode gatherFile_I.2.1 5 = .ok (.aload_n 0, 1) := by decide +kernel
theorem gatherFile_d6 : decode gatherFile_I.2.1 6 = .ok (.getfield 165, 3) := by decide +kernel
theorem gatherFile_d9 : decode gatherFile_I.2.1 9 = .ok (.if_icmp .ge 48, 3) := by decide +kernel
theorem gatherFile_d12 : decode gatherFile_I.2.1 12 = .ok (.iload_n 3, 1) := by decide +kernel
theorem gatherFile_d13 : decode gatherFile_I.2.1 13 = .ok (.sipush 256, 3) := by decide +kernel
theorem gatherFile_d16 : decode gatherFile_I.2.1 16 = .ok (.if_icmp .ge 41, 3) := by decide +kernel
theorem gatherFile_d19 : decode gatherFile_I.2.1 19 = .ok (.aload_n 0, 1) := by decide +kernel
theorem gatherFile_d20 : decode gatherFile_I.2.1 20 = .ok (.getfield 121, 3) := by decide +kernel
theorem gatherFile_d23 : decode gatherFile_I.2.1 23 = .ok (.iload_n 3, 1) := by decide +kernel
theorem gatherFile_d24 : decode gatherFile_I.2.1 24 = .ok (.baload, 1) := by decide +kernel
theorem gatherFile_d25 : decode gatherFile_I.2.1 25 = .ok (.iload_n 1, 1) := by decide +kernel
theorem gatherFile_d26 : decode gatherFile_I.2.1 26 = .ok (.if_icmp .ne 25, 3) := by decide +kernel
theorem gatherFile_d29 : decode gatherFile_I.2.1 29 = .ok (.iload_n 2, 1) := by decide +kernel
theorem gatherFile_d30 : decode gatherFile_I.2.1 30 = .ok (.sipush 256, 3) := by decide +kernel
theorem gatherFile_d33 : decode gatherFile_I.2.1 33 = .ok (.if_icmp .ge 18, 3) := by decide +kernel
theorem gatherFile_d36 : decode gatherFile_I.2.1 36 = .ok (.aload_n 0, 1) := by decide +kernel
theorem gatherFile_d37 : decode gatherFile_I.2.1 37 = .ok (.getfield 127, 3) := by decide +kernel
theorem gatherFile_d40 : decode gatherFile_I.2.1 40 = .ok (.iload_n 2, 1) := by decide +kernel
theorem gatherFile_d41 : decode gatherFile_I.2.1 41 = .ok (.aload_n 0, 1) := by decide +kernel
theorem gatherFile_d42 : decode gatherFile_I.2.1 42 = .ok (.getfield 118, 3) := by decide +kernel
theorem gatherFile_d45 : decode gatherFile_I.2.1 45 = .ok (.iload_n 3, 1) := by decide +kernel
theorem gatherFile_d46 : decode gatherFile_I.2.1 46 = .ok (.baload, 1) := by decide +kernel
theorem gatherFile_d47 : decode gatherFile_I.2.1 47 = .ok (.bastore, 1) := by decide +kernel
theorem gatherFile_d48 : decode gatherFile_I.2.1 48 = .ok (.iinc 2 1, 3) := by decide +kernel
theorem gatherFile_d51 : decode gatherFile_I.2.1 51 = .ok (.iinc 3 1, 3) := by decide +kernel
theorem gatherFile_d54 : decode gatherFile_I.2.1 54 = .ok (.goto (-50), 3) := by decide +kernel
theorem gatherFile_d57 : decode gatherFile_I.2.1 57 = .ok (.iload_n 2, 1) := by decide +kernel
theorem gatherFile_d58 : decode gatherFile_I.2.1 58 = .ok (.ireturn, 1) := by decide +kernel
theorem gatherFile_p : parseMethodDescriptor gatherFile_I.1.desc = some ⟨[.int], (some .int)⟩ := by decide +kernel
theorem gatherFile_K {a0 : Array Value} {Z : State} {M : Mi} (hw : Words a0 Z) (h : gatherFile_I.2.2.2.2.1 + 1 ≤ M.2.2.2.2.1) : Callee a0 Z M gatherFile_I 1 := ⟨pnC, (wd233 hw), (wd2 hw), h, by decide, fun sig q => by cases gatherFile_p.symm.trans q; rfl⟩
set_option maxRecDepth 65536 in
set_option maxHeartbeats 4000000 in
theorem gatherFile_j51_ok {l : Launch} {Z : State} {a0 : Array Value} {n0 : Nat} {cv : Nat → Nat} {h0 : Heap} (hw : Words a0 Z) (K : KA a0 Z n0 CN nI FF cv) {x1 : Int} {rec : Int → Int → Obj → Option (Int × Obj)} (hrec : ∀ (x2 : Int) (x3 : Int) (s : Obj), GQ (XA l Z n0 CN FF cv h0) gatherFile_I 0 0 4 [some (Rf 0), some (I x1), some (I x2), some (I x3)] [] s (rec x2 x3 s)) (x2 : Int) (x3 : Int) (s : Obj) : GQ (XA l Z n0 CN FF cv h0) gatherFile_I 0 0 51 [some (Rf 0), some (I x1), some (I x2), some (I x3)] [] s (gatherFile_j51 rec x1 x2 x3 s) := by
  unfold gatherFile_j51
  refine GQ.iinc (L' := [some (Rf 0), some (I x1), some (I x2), some (I (aAdd x3 1))]) (pc' := 54) gatherFile_d51 rfl rfl rfl rfl ?_
  refine GQ.goto (pc' := 4) gatherFile_d54 rfl rfl ?_
  exact hrec x2 (aAdd x3 1) s
set_option maxRecDepth 65536 in
set_option maxHeartbeats 4000000 in
theorem gatherFile_l4b_ok {l : Launch} {Z : State} {a0 : Array Value} {n0 : Nat} {cv : Nat → Nat} {h0 : Heap} (hw : Words a0 Z) (K : KA a0 Z n0 CN nI FF cv) (x1 : Int) {rec : Int → Int → Obj → Option (Int × Obj)} (hrec : ∀ (x2 : Int) (x3 : Int) (s : Obj), GQ (XA l Z n0 CN FF cv h0) gatherFile_I 0 0 4 [some (Rf 0), some (I x1), some (I x2), some (I x3)] [] s (rec x2 x3 s)) (x2 : Int) (x3 : Int) (s : Obj) : GQ (XA l Z n0 CN FF cv h0) gatherFile_I 0 0 4 [some (Rf 0), some (I x1), some (I x2), some (I x3)] [] s (gatherFile_l4b x1 rec x2 x3 s) := by
  unfold gatherFile_l4b
  refine GQ.iloadN (pc' := 5) gatherFile_d4 rfl rfl ?_
  refine GQ.aloadN (pc' := 6) gatherFile_d5 rfl rfl ?_
  refine GQ.getI (M := gatherFile_I) (k := 43) (pc' := 9) rfl (wd114 hw) gatherFile_d6 rfl ?_
  refine GQ.icmpF (pcT := 57) (pcF := 12) h_ge gatherFile_d9 rfl rfl rfl ?_ ?_
  · refine GQ.iloadN (pc' := 58) gatherFile_d57 rfl rfl ?_
    exact GQ.iret rfl gatherFile_d58
  refine GQ.iloadN (pc' := 13) gatherFile_d12 rfl rfl ?_
  refine GQ.sipush (pc' := 16) gatherFile_d13 rfl rfl ?_
  refine GQ.icmpF (pcT := 57) (pcF := 19) h_ge gatherFile_d16 rfl rfl rfl ?_ ?_
  · refine GQ.iloadN (pc' := 58) gatherFile_d57 rfl rfl ?_
    exact GQ.iret rfl gatherFile_d58
  refine GQ.aloadN (pc' := 20) gatherFile_d19 rfl rfl ?_
  refine GQ.getA (M := gatherFile_I) (k := 42) (pc' := 23) rfl (by decide) (wd84 hw) gatherFile_d20 rfl ?_
  refine GQ.iloadN (pc' := 24) gatherFile_d23 rfl rfl ?_
  refine GQ.rd (k := 42) (ins := .baload) (pc' := 25) rfl (by decide) (Or.inr (Or.inl ⟨rfl, rfl⟩)) gatherFile_d24 rfl (fun z24 => ?_)
  refine GQ.iloadN (pc' := 26) gatherFile_d25 rfl rfl ?_
  refine GQ.icmpF (pcT := 51) (pcF := 29) h_ne gatherFile_d26 rfl rfl rfl ?_ ?_
  · exact gatherFile_j51_ok hw K hrec x2 x3 s
  refine GQ.iloadN (pc' := 30) gatherFile_d29 rfl rfl ?_
  refine GQ.sipush (pc' := 33) gatherFile_d30 rfl rfl ?_
  refine GQ.icmpF (pcT := 51) (pcF := 36) h_ge gatherFile_d33 rfl rfl rfl ?_ ?_
  · exact gatherFile_j51_ok hw K hrec x2 x3 s
  refine GQ.aloadN (pc' := 37) gatherFile_d36 rfl rfl ?_
  refine GQ.getA (M := gatherFile_I) (k := 45) (pc' := 40) rfl (by decide) (wd88 hw) gatherFile_d37 rfl ?_
  refine GQ.iloadN (pc' := 41) gatherFile_d40 rfl rfl ?_
  refine GQ.aloadN (pc' := 42) gatherFile_d41 rfl rfl ?_
  refine GQ.getA (M := gatherFile_I) (k := 41) (pc' := 45) rfl (by decide) (wd82 hw) gatherFile_d42 rfl ?_
  refine GQ.iloadN (pc' := 46) gatherFile_d45 rfl rfl ?_
  refine GQ.rd (k := 41) (ins := .baload) (pc' := 47) rfl (by decide) (Or.inr (Or.inl ⟨rfl, rfl⟩)) gatherFile_d46 rfl (fun z46 => ?_)
  refine GQ.wr (k := 45) (ins := .bastore) (pc' := 48) K rfl (by decide) (Or.inr (Or.inl ⟨rfl, rfl⟩)) gatherFile_d47 rfl (fun s47 => ?_)
  refine GQ.iinc (L' := [some (Rf 0), some (I x1), some (I (aAdd x2 1)), some (I x3)]) (pc' := 51) gatherFile_d48 rfl rfl rfl rfl ?_
  exact gatherFile_j51_ok hw K hrec (aAdd x2 1) x3 s47
set_option maxRecDepth 65536 in
set_option maxHeartbeats 4000000 in
theorem gatherFile_l4_ok {l : Launch} {Z : State} {a0 : Array Value} {n0 : Nat} {cv : Nat → Nat} {h0 : Heap} (hw : Words a0 Z) (K : KA a0 Z n0 CN nI FF cv) (x1 : Int) : ∀ (fu : Nat) (x2 : Int) (x3 : Int) (s : Obj), GQ (XA l Z n0 CN FF cv h0) gatherFile_I 0 0 4 [some (Rf 0), some (I x1), some (I x2), some (I x3)] [] s (gatherFile_l4 x1 fu x2 x3 s)
  | 0 => fun _ _ _ => GQ.no
  | fu + 1 => gatherFile_l4b_ok hw K x1 (gatherFile_l4_ok hw K x1 fu)
set_option maxRecDepth 65536 in
set_option maxHeartbeats 4000000 in
theorem gatherFile_M_ok {l : Launch} {Z : State} {a0 : Array Value} {n0 : Nat} {cv : Nat → Nat} {h0 : Heap} (hw : Words a0 Z) (K : KA a0 Z n0 CN nI FF cv) (x1 : Int) (s : Obj) : GQ (XA l Z n0 CN FF cv h0) gatherFile_I 0 0 0 (entry [Rf 0, I x1] gatherFile_I.2.2.1) [] s (gatherFile_M x1 s) := by
  show GQ _ _ _ _ 0 [some (Rf 0), some (I x1), none, none] [] _ _
  unfold gatherFile_M
  refine GQ.iconst (pc' := 1) gatherFile_d0 rfl rfl ?_
  refine GQ.istoreN (L' := [some (Rf 0), some (I x1), some (I 0), none]) (pc' := 2) gatherFile_d1 rfl rfl rfl ?_
  refine GQ.iconst (pc' := 3) gatherFile_d2 rfl rfl ?_
  refine GQ.istoreN (L' := [some (Rf 0), some (I x1), some (I 0), some (I 0)]) (pc' := 4) gatherFile_d3 rfl rfl rfl ?_
  exact gatherFile_l4_ok hw K x1 FU 0 0 s
def loadRawFromFile_I : Mi := (⟨"SquashImage", "loadRawFromFile", "(II)V"⟩, prog_1_method_17_code, 5, none, 0, 0)
theorem loadRawFromFile_d0 : decode loadRawFromFile_I.2.1 0 = .ok (.iconst 0, 1) := by decide +kernel
theorem loadRawFromFile_d1 : decode loadRawFromFile_I.2.1 1 = .ok (.istore_n 3, 1) := by decide +kernel
theorem loadRawFromFile_d2 : decode loadRawFromFile_I.2.1 2 = .ok (.iload_n 3, 1) := by decide +kernel
theorem loadRawFromFile_d3 : decode loadRawFromFile_I.2.1 3 = .ok (.iload_n 2, 1) := by decide +kernel
theorem loadRawFromFile_d4 : decode loadRawFromFile_I.2.1 4 = .ok (.if_icmp .ge 50, 3) := by decide +kernel
theorem loadRawFromFile_d7 : decode loadRawFromFile_I.2.1 7 = .ok (.iload_n 3, 1) := by decide +kernel
theorem loadRawFromFile_d8 : decode loadRawFromFile_I.2.1 8 = .ok (.bipush 32, 2) := by decide +kernel
theorem loadRawFromFile_d10 : decode loadRawFromFile_I.2.1 10 = .ok (.if_icmp .ge 44, 3) := by decide +kernel
theorem loadRawFromFile_d13 : decode loadRawFromFile_I.2.1 13 = .ok (.iload_n 1, 1) := by decide +kernel
theorem loadRawFromFile_d14 : decode loadRawFromFile_I.2.1 14 = .ok (.iload_n 3, 1) := by decide +kernel
theorem loadRawFromFile_d15 : decode loadRawFromFile_I.2.1 15 = .ok (.iadd, 1) := by decide +kernel
theorem loadRawFromFile_d16 : decode loadRawFromFile_I.2.1 16 = .ok (.istore 4, 2) := by decide +kernel
theorem loadRawFromFile_d18 : decode loadRawFromFile_I.2.1 18 = .ok (.aload_n 0, 1) := by decide +kernel
theorem loadRawFromFile_d19 : decode loadRawFromFile_I.2.1 19 = .ok (.getfield 133, 3) := by decide +kernel
theorem loadRawFromFile_d22 : decode loadRawFromFile_I.2.1 22 = .ok (.iload_n 3, 1) := by decide +kernel
theorem loadRawFromFile_d23 : decode loadRawFromFile_I.2.1 23 = .ok (.iload 4, 2) := by decide +kernel
theorem loadRawFromFile_d25 : decode loadRawFromFile_I.2.1 25 = .ok (.ifCond .lt 21, 3) := by decide +kernel
theorem loadRawFromFile_d28 : decode loadRawFromFile_I.2.1 28 = .ok (.iload 4, 2) := by decide +kernel
theorem loadRawFromFile_d30 : decode loadRawFromFile_I.2.1 30 = .ok (.sipush 256, 3) := by decide +kernel
theorem loadRawFromFile_d33 : decode loadRawFromFile_I.2.1 33 = .ok (.if_icmp .ge 13, 3) := by decide +kernel
theorem loadRawFromFile_d36 : decode loadRawFromFile_I.2.1 36 = .ok (.aload_n 0, 1) := by decide +kernel
theorem loadRawFromFile_d37 : decode loadRawFromFile_I.2.1 37 = .ok (.getfield 127, 3) := by decide +kernel
theorem loadRawFromFile_d40 : decode loadRawFromFile_I.2.1 40 = .ok (.iload 4, 2) := by decide +kernel
theorem loadRawFromFile_d42 : decode loadRawFromFile_I.2.1 42 = .ok (.baload, 1) := by decide +kernel
theorem loadRawFromFile_d43 : decode loadRawFromFile_I.2.1 43 = .ok (.goto 4, 3) := by decide +kernel
theorem loadRawFromFile_d46 : decode loadRawFromFile_I.2.1 46 = .ok (.iconst 0, 1) := by decide +kernel
theorem loadRawFromFile_d47 : decode loadRawFromFile_I.2.1 47 = .ok (.bastore, 1) := by decide +kernel
theorem loadRawFromFile_d48 : decode loadRawFromFile_I.2.1 48 = .ok (.iinc 3 1, 3) := by decide +kernel
theorem loadRawFromFile_d51 : decode loadRawFromFile_I.2.1 51 = .ok (.goto (-49), 3) := by decide +kernel
theorem loadRawFromFile_d54 : decode loadRawFromFile_I.2.1 54 = .ok (.return_, 1) := by decide +kernel
theorem loadRawFromFile_p : parseMethodDescriptor loadRawFromFile_I.1.desc = some ⟨[.int, .int], none⟩ := by decide +kernel
theorem loadRawFromFile_K {a0 : Array Value} {Z : State} {M : Mi} (hw : Words a0 Z) (h : loadRawFromFile_I.2.2.2.2.1 + 1 ≤ M.2.2.2.2.1) : Callee a0 Z M loadRawFromFile_I 2 := ⟨pnC, (wd297 hw), (wd2 hw), h, by decide, fun sig q => by cases loadRawFromFile_p.symm.trans q; rfl⟩
set_option maxRecDepth 65536 in
set_option maxHeartbeats 4000000 in
theorem loadRawFromFile_j47_ok {l : Launch} {Z : State} {a0 : Array Value} {n0 : Nat} {cv : Nat → Nat} {h0 : Heap} (hw : Words a0 Z) (K : KA a0 Z n0 CN nI FF cv) {x1 x2 : Int} {rec : Int → Obj → Option (Int × Obj)} (hrec : ∀ (x3 : Int) (s : Obj), GQ (XA l Z n0 CN FF cv h0) loadRawFromFile_I 0 0 2 [some (Rf 0), some (I x1), some (I x2), some (I x3), none] [] s (rec x3 s)) (x3 : Int) (y0 : Int) (y1 : Int) (s : Obj) : GQ (XA l Z n0 CN FF cv h0) loadRawFromFile_I 0 0 47 [some (Rf 0), some (I x1), some (I x2), some (I x3), none] [I y0, I y1, Rf 49] s (loadRawFromFile_j47 rec x1 x2 x3 y0 y1 s) := by
  unfold loadRawFromFile_j47
  refine GQ.wr (k := 48) (ins := .bastore) (pc' := 48) K rfl (by decide) (Or.inr (Or.inl ⟨rfl, rfl⟩)) loadRawFromFile_d47 rfl (fun s47 => ?_)
  refine GQ.iinc (L' := [some (Rf 0), some (I x1), some (I x2), some (I (aAdd x3 1)), none]) (pc' := 51) loadRawFromFile_d48 rfl rfl rfl rfl ?_
  refine GQ.goto (pc' := 2) loadRawFromFile_d51 rfl rfl ?_
  exact hrec (aAdd x3 1) s47
set_option maxRecDepth 65536 in
set_option maxHeartbeats 4000000 in
theorem loadRawFromFile_j46_ok {l : Launch} {Z : State} {a0 : Array Value} {n0 : Nat} {cv : Nat → Nat} {h0 : Heap} (hw : Words a0 Z) (K : KA a0 Z n0 CN nI FF cv) {x1 x2 : Int} {rec : Int → Obj → Option (Int × Obj)} (hrec : ∀ (x3 : Int) (s : Obj), GQ (XA l Z n0 CN FF cv h0) loadRawFromFile_I 0 0 2 [some (Rf 0), some (I x1), some (I x2), some (I x3), none] [] s (rec x3 s)) (x3 : Int) (y0 : Int) (s : Obj) : GQ (XA l Z n0 CN FF cv h0) loadRawFromFile_I 0 0 46 [some (Rf 0), some (I x1), some (I x2), some (I x3), none] [I y0, Rf 49] s (loadRawFromFile_j46 rec x1 x2 x3 y0 s) := by
  unfold loadRawFromFile_j46
  refine GQ.iconst (pc' := 47) loadRawFromFile_d46 rfl rfl ?_
  exact loadRawFromFile_j47_ok hw K hrec x3 0 y0 s
set_option maxRecDepth 65536 in
set_option maxHeartbeats 4000000 in
theorem loadRawFromFile_l2b_ok {l : Launch} {Z : State} {a0 : Array Value} {n0 : Nat} {cv : Nat → Nat} {h0 : Heap} (hw : Words a0 Z) (K : KA a0 Z n0 CN nI FF cv) (x1 : Int) (x2 : Int) {rec : Int → Obj → Option (Int × Obj)} (hrec : ∀ (x3 : Int) (s : Obj), GQ (XA l Z n0 CN FF cv h0) loadRawFromFile_I 0 0 2 [some (Rf 0), some (I x1), some (I x2), some (I x3), none] [] s (rec x3 s)) (x3 : Int) (s : Obj) : GQ (XA l Z n0 CN FF cv h0) loadRawFromFile_I 0 0 2 [some (Rf 0), some (I x1), some (I x2), some (I x3), none] [] s (loadRawFromFile_l2b x1 x2 rec x3 s) := by
  unfold loadRawFromFile_l2b
  refine GQ.iloadN (pc' := 3) loadRawFromFile_d2 rfl rfl ?_
  refine GQ.iloadN (pc' := 4) loadRawFromFile_d3 rfl rfl ?_
  refine GQ.icmpF (pcT := 54) (pcF := 7) h_ge loadRawFromFile_d4 rfl rfl rfl ?_ ?_
  · exact GQ.ret rfl loadRawFromFile_d54
  refine GQ.iloadN (pc' := 8) loadRawFromFile_d7 rfl rfl ?_
  refine GQ.bipush (pc' := 10) loadRawFromFile_d8 rfl rfl ?_
  refine GQ.icmpF (pcT := 54) (pcF := 13) h_ge loadRawFromFile_d10 rfl rfl rfl ?_ ?_
  · exact GQ.ret rfl loadRawFromFile_d54
  refine GQ.iloadN (pc' := 14) loadRawFromFile_d13 rfl rfl ?_
  refine GQ.iloadN (pc' := 15) loadRawFromFile_d14 rfl rfl ?_
  refine GQ.iadd (pc' := 16) loadRawFromFile_d15 rfl ?_
  refine GQ.letI (fun x4_16 => ?_)
  refine GQ.istore (L' := [some (Rf 0), some (I x1), some (I x2), some (I x3), some (I x4_16)]) (pc' := 18) loadRawFromFile_d16 rfl rfl rfl ?_
  refine GQ.aloadN (pc' := 19) loadRawFromFile_d18 rfl rfl ?_
  refine GQ.getA (M := loadRawFromFile_I) (k := 48) (pc' := 22) rfl (by decide) (wd92 hw) loadRawFromFile_d19 rfl ?_
  refine GQ.iloadN (pc' := 23) loadRawFromFile_d22 rfl rfl ?_
  refine GQ.iload (pc' := 25) loadRawFromFile_d23 rfl rfl ?_
  refine GQ.ifT (pcT := 46) (pcF := 28) h_lt loadRawFromFile_d25 rfl rfl rfl ?_ ?_
  · refine GQ.weak (L' := [some (Rf 0), some (I x1), some (I x2), some (I x3), none]) (Sub.keep (Sub.keep (Sub.keep (Sub.keep (Sub.drop Sub.nil))))) ?_
    exact loadRawFromFile_j46_ok hw K hrec x3 x3 s
  refine GQ.iload (pc' := 30) loadRawFromFile_d28 rfl rfl ?_
  refine GQ.sipush (pc' := 33) loadRawFromFile_d30 rfl rfl ?_
  refine GQ.icmpF (pcT := 46) (pcF := 36) h_ge loadRawFromFile_d33 rfl rfl rfl ?_ ?_
  · refine GQ.weak (L' := [some (Rf 0), some (I x1), some (I x2), some (I x3), none]) (Sub.keep (Sub.keep (Sub.keep (Sub.keep (Sub.drop Sub.nil))))) ?_
    exact loadRawFromFile_j46_ok hw K hrec x3 x3 s
  refine GQ.aloadN (pc' := 37) loadRawFromFile_d36 rfl rfl ?_
  refine GQ.getA (M := loadRawFromFile_I) (k := 45) (pc' := 40) rfl (by decide) (wd88 hw) loadRawFromFile_d37 rfl ?_
  refine GQ.iload (pc' := 42) loadRawFromFile_d40 rfl rfl ?_
  refine GQ.rd (k := 45) (ins := .baload) (pc' := 43) rfl (by decide) (Or.inr (Or.inl ⟨rfl, rfl⟩)) loadRawFromFile_d42 rfl (fun z42 => ?_)
  refine GQ.goto (pc' := 47) loadRawFromFile_d43 rfl rfl ?_
  refine GQ.weak (L' := [some (Rf 0), some (I x1), some (I x2), some (I x3), none]) (Sub.keep (Sub.keep (Sub.keep (Sub.keep (Sub.drop Sub.nil))))) ?_
  exact loadRawFromFile_j47_ok hw K hrec x3 z42 x3 s
set_option maxRecDepth 65536 in
set_option maxHeartbeats 4000000 in
theorem loadRawFromFile_l2_ok {l : Launch} {Z : State} {a0 : Array Value} {n0 : Nat} {cv : Nat → Nat} {h0 : Heap} (hw : Words a0 Z) (K : KA a0 Z n0 CN nI FF cv) (x1 : Int) (x2 : Int) : ∀ (fu : Nat) (x3 : Int) (s : Obj), GQ (XA l Z n0 CN FF cv h0) loadRawFromFile_I 0 0 2 [some (Rf 0), some (I x1), some (I x2), some (I x3), none] [] s (loadRawFromFile_l2 x1 x2 fu x3 s)
  | 0 => fun _ _ => GQ.no
  | fu + 1 => loadRawFromFile_l2b_ok hw K x1 x2 (loadRawFromFile_l2_ok hw K x1 x2 fu)
set_option maxRecDepth 65536 in
set_option maxHeartbeats 4000000 in
theorem loadRawFromFile_M_ok {l : Launch} {Z : State} {a0 : Array Value} {n0 : Nat} {cv : Nat → Nat} {h0 : Heap} (hw : Words a0 Z) (K : KA a0 Z n0 CN nI FF cv) (x1 : Int) (x2 : Int) (s : Obj) : GQ (XA l Z n0 CN FF cv h0) loadRawFromFile_I 0 0 0 (entry [Rf 0, I x1, I x2] loadRawFromFile_I.2.2.1) [] s (loadRawFromFile_M x1 x2 s) := by
  show GQ _ _ _ _ 0 [some (Rf 0), some (I x1), some (I x2), none, none] [] _ _
  unfold loadRawFromFile_M
  refine GQ.iconst (pc' := 1) loadRawFromFile_d0 rfl rfl ?_
  refine GQ.istoreN (L' := [some (Rf 0), some (I x1), some (I x2), some (I 0), none]) (pc' := 2) loadRawFromFile_d1 rfl rfl rfl ?_
  exact loadRawFromFile_l2_ok hw K x1 x2 FU 0 s
def runLength_I : Mi := (⟨"SquashImage", "runLength", "(II)I"⟩, prog_1_method_27_code, 6, (some .int), 0, 0)
theorem runLength_d0 : decode runLength_I.2.1 0 = .ok (.aload_n 0, 1) := by decide +kernel
theorem runLength_d1 : decode runLength_I.2.1 1 = .ok (.getfield 133, 3) := by decide +kernel
theorem runLength_d4 : decode runLength_I.2.1 4 = .ok (.iload_n 1, 1) := by decide +kernel
theorem runLength_d5 : decode runLength_I.2.1 5 = .ok (.baload, 1) := by decide +kernel
theorem runLength_d6 : decode runLength_I.2.1 6 = .ok (.istore_n 3, 1) := by decide +kernel
theorem runLength_d7 : decode runLength_I.2.1 7 = .ok (.iconst 1, 1) := by decide +kernel
theorem runLength_d8 : decode runLength_I.2.1 8 = .ok (.istore 4, 2) := by decide +kernel
theorem runLength_d10 : decode runLength_I.2.1 10 = .ok (.iload_n 1, 1) := by decide +kernel
theorem runLength_d11 : decode runLength_I.2.1 11 = .ok (.iconst 1, 1) := by decide +kernel
theorem runLength_d12 : decode runLength_I.2.1 12 = .ok (.iadd, 1) := by decide +kernel
theorem runLength_d13 : decode runLength_I.2.1 13 = .ok (.istore 5, 2) := by decide +kernel
theorem runLength_d15 : decode runLength_I.2.1 15 = .ok (.iload 5, 2) := by decide +kernel
theorem runLength_d17 : decode runLength_I.2.1 17 = .ok (.iload_n 2, 1) := by decide +kernel
theorem runLength_d18 : decode runLength_I.2.1 18 = .ok (.if_icmp .ge 33, 3) := by decide +kernel
theorem runLength_d21 : decode runLength_I.2.1 21 = .ok (.iload 5, 2) := by decide +kernel
theorem runLength_d23 : decode runLength_I.2.1 23 = .ok (.bipush 32, 2) := by decide +kernel
theorem runLength_d25 : decode runLength_I.2.1 25 = .ok (.if_icmp .ge 26, 3) := by decide +kernel
theorem runLength_d28 : decode runLength_I.2.1 28 = .ok (.aload_n 0, 1) := by decide +kernel
theorem runLength_d29 : decode runLength_I.2.1 29 = .ok (.getfield 133, 3) := by decide +kernel
theorem runLength_d32 : decode runLength_I.2.1 32 = .ok (.iload 5, 2) := by decide +kernel
theorem runLength_d34 : decode runLength_I.2.1 34 = .ok (.baload, 1) := by decide +kernel
theorem runLength_d35 : decode runLength_I.2.1 35 = .ok (.iload_n 3, 1) := by decide +kernel
theorem runLength_d36 : decode runLength_I.2.1 36 = .ok (.if_icmp .eq 6, 3) := by decide +kernel
theorem runLength_d39 : decode runLength_I.2.1 39 = .ok (.goto 12, 3) := by decide +kernel
theorem runLength_d42 : decode runLength_I.2.1 42 = .ok (.iinc 4 1, 3) := by decide +kernel
theorem runLength_d45 : decode runLength_I.2.1 45 = .ok (.iinc 5 1, 3) := by decide +kernel
theorem runLength_d48 : decode runLength_I.2.1 48 = .ok (.goto (-33), 3) := by decide +kernel
theorem runLength_d51 : decode runLength_I.2.1 51 = .ok (.iload 4, 2) := by decide +kernel
theorem runLength_d53 : decode runLength_I.2.1 53 = .ok (.ireturn, 1) := by decide +kernel
theorem runLength_p : parseMethodDescriptor runLength_I.1.desc = some ⟨[.int, .int], (some .int)⟩ := by decide +kernel
theorem runLength_K {a0 : Array Value} {Z : State} {M : Mi} (hw : Words a0 Z) (h : runLength_I.2.2.2.2.1 + 1 ≤ M.2.2.2.2.1) : Callee a0 Z M runLength_I 2 := ⟨pnC, (wd257 hw), (wd2 hw), h, by decide, fun sig q => by cases runLength_p.symm.trans q; rfl⟩
set_option maxRecDepth 65536 in
set_option maxHeartbeats 4000000 in
theorem runLength_l15b_ok {l : Launch} {Z : State} {a0 : Array Value} {n0 : Nat} {cv : Nat → Nat} {h0 : Heap} (hw : Words a0 Z) (K : KA a0 Z n0 CN nI FF cv) (x2 : Int) (x3 : Int) {rec : Int → Int → Obj → Option (Int × Obj)} (hrec : ∀ (x4 : Int) (x5 : Int) (s : Obj), GQ (XA l Z n0 CN FF cv h0) runLength_I 0 0 15 [some (Rf 0), none, some (I x2), some (I x3), some (I x4), some (I x5)] [] s (rec x4 x5 s)) (x4 : Int) (x5 : Int) (s : Obj) : GQ (XA l Z n0 CN FF cv h0) runLength_I 0 0 15 [some (Rf 0), none, some (I x2), some (I x3), some (I x4), some (I x5)] [] s (runLength_l15b x2 x3 rec x4 x5 s) := by
  unfold runLength_l15b
  refine GQ.iload (pc' := 17) runLength_d15 rfl rfl ?_
  refine GQ.iloadN (pc' := 18) runLength_d17 rfl rfl ?_
  refine GQ.icmpF (pcT := 51) (pcF := 21) h_ge runLength_d18 rfl rfl rfl ?_ ?_
  · refine GQ.iload (pc' := 53) runLength_d51 rfl rfl ?_
    exact GQ.iret rfl runLength_d53
  refine GQ.iload (pc' := 23) runLength_d21 rfl rfl ?_
  refine GQ.bipush (pc' := 25) runLength_d23 rfl rfl ?_
  refine GQ.icmpF (pcT := 51) (pcF := 28) h_ge runLength_d25 rfl rfl rfl ?_ ?_
  · refine GQ.iload (pc' := 53) runLength_d51 rfl rfl ?_
    exact GQ.iret rfl runLength_d53
  refine GQ.aloadN (pc' := 29) runLength_d28 rfl rfl ?_
  refine GQ.getA (M := runLength_I) (k := 48) (pc' := 32) rfl (by decide) (wd92 hw) runLength_d29 rfl ?_
  refine GQ.iload (pc' := 34) runLength_d32 rfl rfl ?_
  refine GQ.rd (k := 48) (ins := .baload) (pc' := 35) rfl (by decide) (Or.inr (Or.inl ⟨rfl, rfl⟩)) runLength_d34 rfl (fun z34 => ?_)
  refine GQ.iloadN (pc' := 36) runLength_d35 rfl rfl ?_
  refine GQ.icmpT (pcT := 42) (pcF := 39) h_eq runLength_d36 rfl rfl rfl ?_ ?_
  · refine GQ.iinc (L' := [some (Rf 0), none, some (I x2), some (I x3), some (I (aAdd x4 1)), some (I x5)]) (pc' := 45) runLength_d42 rfl rfl rfl rfl ?_
    refine GQ.iinc (L' := [some (Rf 0), none, some (I x2), some (I x3), some (I (aAdd x4 1)), some (I (aAdd x5 1))]) (pc' := 48) runLength_d45 rfl rfl rfl rfl ?_
    refine GQ.goto (pc' := 15) runLength_d48 rfl rfl ?_
    exact hrec (aAdd x4 1) (aAdd x5 1) s
  refine GQ.goto (pc' := 51) runLength_d39 rfl rfl ?_
  refine GQ.iload (pc' := 53) runLength_d51 rfl rfl ?_
  exact GQ.iret rfl runLength_d53
set_option maxRecDepth 65536 in
set_option maxHeartbeats 4000000 in
theorem runLength_l15_ok {l : Launch} {Z : State} {a0 : Array Value} {n0 : Nat} {cv : Nat → Nat} {h0 : Heap} (hw : Words a0 Z) (K : KA a0 Z n0 CN nI FF cv) (x2 : Int) (x3 : Int) : ∀ (fu : Nat) (x4 : Int) (x5 : Int) (s : Obj), GQ (XA l Z n0 CN FF cv h0) runLength_I 0 0 15 [some (Rf 0), none, some (I x2), some (I x3), some (I x4), some (I x5)] [] s (runLength_l15 x2 x3 fu x4 x5 s)
  | 0 => fun _ _ _ => GQ.no
  | fu + 1 => runLength_l15b_ok hw K x2 x3 (runLength_l15_ok hw K x2 x3 fu)
set_option maxRecDepth 65536 in
set_option maxHeartbeats 4000000 in
theorem runLength_M_ok {l : Launch} {Z : State} {a0 : Array Value} {n0 : Nat} {cv : Nat → Nat} {h0 : Heap} (hw : Words a0 Z) (K : KA a0 Z n0 CN nI FF cv) (x1 : Int) (x2 : Int) (s : Obj) : GQ (XA l Z n0 CN FF cv h0) runLength_I 0 0 0 (entry [Rf 0, I x1, I x2] runLength_I.2.2.1) [] s (runLength_M x1 x2 s) := by
  show GQ _ _ _ _ 0 [some (Rf 0), some (I x1), some (I x2), none, none, none] [] _ _
  unfold runLength_M
  refine GQ.aloadN (pc' := 1) runLength_d0 rfl rfl ?_
  refine GQ.getA (M := runLength_I) (k := 48) (pc' := 4) rfl (by decide) (wd92 hw) runLength_d1 rfl ?_
  refine GQ.iloadN (pc' := 5) runLength_d4 rfl rfl ?_
  refine GQ.rd (k := 48) (ins := .baload) (pc' := 6) rfl (by decide) (Or.inr (Or.inl ⟨rfl, rfl⟩)) runLength_d5 rfl (fun z5 => ?_)
  refine GQ.istoreN (L' := [some (Rf 0), some (I x1), some (I x2), some (I z5), none, none]) (pc' := 7) runLength_d6 rfl rfl rfl ?_
  refine GQ.iconst (pc' := 8) runLength_d7 rfl rfl ?_
  refine GQ.istore (L' := [some (Rf 0), some (I x1), some (I x2), some (I z5), some (I 1), none]) (pc' := 10) runLength_d8 rfl rfl rfl ?_
  refine GQ.iloadN (pc' := 11) runLength_d10 rfl rfl ?_
  refine GQ.iconst (pc' := 12) runLength_d11 rfl rfl ?_
  refine GQ.iadd (pc' := 13) runLength_d12 rfl ?_
  refine GQ.letI (fun x5_13 => ?_)
  refine GQ.istore (L' := [some (Rf 0), some (I x1), some (I x2), some (I z5), some (I 1), some (I x5_13)]) (pc' := 15) runLength_d13 rfl rfl rfl ?_
  refine GQ.weak (L' := [some (Rf 0), none, some (I x2), some (I z5), some (I 1), some (I x5_13)]) (Sub.keep (Sub.drop (Sub.keep (Sub.keep (Sub.keep (Sub.keep Sub.nil)))))) ?_
  exact runLength_l15_ok hw K x2 z5 FU 1 x5_13 s
def matchLength_I : Mi := (⟨"SquashImage", "matchLength", "(III)I"⟩, prog_1_method_29_code, 8, (some .int), 0, 0)
theorem matchLength_d0 : decode matchLength_I.2.1 0 = .ok (.iconst 0, 1) := by decide +kernel
theorem matchLength_d1 : decode matchLength_I.2.1 1 = .ok (.istore 4, 2) := by decide +kernel
theorem matchLength_d3 : decode matchLength_I.2.1 3 = .ok (.iconst 0, 1) := by decide +kernel
theorem matchLength_d4 : decode matchLength_I.2.1 4 = .ok (.istore 5, 2) := by decide +kernel
theorem matchLength_d6 : decode matchLength_I.2.1 6 = .ok (.iload 5, 2) := by decide +kernel
theorem matchLength_d8 : decode matchLength_I.2.1 8 = .ok (.bipush 32, 2) := by decide +kernel
theorem matchLength_d10 : decode matchLength_I.2.1 10 = .ok (.if_icmp .ge 65, 3) := by decide +kernel
theorem matchLength_d13 : decode matchLength_I.2.1 13 = .ok (.iload_n 1, 1) := by decide +kernel
theorem matchLength_d14 : decode matchLength_I.2.1 14 = .ok (.iload 5, 2) := by decide +kernel
theorem matchLength_d16 : decode matchLength_I.2.1 16 = .ok (.iadd, 1) := by decide +kernel
theorem matchLength_d17 : decode matchLength_I.2.1 17 = .ok (.istore 6, 2) := by decide +kernel
theorem matchLength_d19 : decode matchLength_I.2.1 19 = .ok (.iload 6, 2) := by decide +kernel
theorem matchLength_d21 : decode matchLength_I.2.1 21 = .ok (.iload_n 2, 1) := by decide +kernel
theorem matchLength_d22 : decode matchLength_I.2.1 22 = .ok (.isub, 1) := by decide +kernel
theorem matchLength_d23 : decode matchLength_I.2.1 23 = .ok (.istore 7, 2) := by decide +kernel
theorem matchLength_d25 : decode matchLength_I.2.1 25 = .ok (.iload 6, 2) := by decide +kernel
theorem matchLength_d27 : decode matchLength_I.2.1 27 = .ok (.iload_n 3, 1) := by decide +kernel
theorem matchLength_d28 : decode matchLength_I.2.1 28 = .ok (.if_icmp .ge 47, 3) := by decide +kernel
theorem matchLength_d31 : decode matchLength_I.2.1 31 = .ok (.iload 6, 2) := by decide +kernel
theorem matchLength_d33 : decode matchLength_I.2.1 33 = .ok (.bipush 32, 2) := by decide +kernel
theorem matchLength_d35 : decode matchLength_I.2.1 35 = .ok (.if_icmp .ge 40, 3) := by decide +kernel
theorem matchLength_d38 : decode matchLength_I.2.1 38 = .ok (.iload 7, 2) := by decide +kernel
theorem matchLength_d40 : decode matchLength_I.2.1 40 = .ok (.ifCond .ge 6, 3) := by decide +kernel
theorem matchLength_d43 : decode matchLength_I.2.1 43 = .ok (.goto 32, 3) := by decide +kernel
theorem matchLength_d46 : decode matchLength_I.2.1 46 = .ok (.aload_n 0, 1) := by decide +kernel
theorem matchLength_d47 : decode matchLength_I.2.1 47 = .ok (.getfield 133, 3) := by decide +kernel
theorem matchLength_d50 : decode matchLength_I.2.1 50 = .ok (.iload 6, 2) := by decide +kernel
theorem matchLength_d52 : decode matchLength_I.2.1 52 = .ok (.baload, 1) := by decide +kernel
theorem matchLength_d53 : decode matchLength_I.2.1 53 = .ok (.aload_n 0, 1) := by decide +kernel
theorem matchLength_d54 : decode matchLength_I.2.1 54 = .ok (.getfield 133, 3) := by decide +kernel
theorem matchLength_d57 : decode matchLength_I.2.1 57 = .ok (.iload 7, 2) := by decide +kernel
theorem matchLength_d59 : decode matchLength_I.2.1 59 = .ok (.baload, 1) := by decide +kernel
theorem matchLength_d60 : decode matchLength_I.2.1 60 = .ok (.if_icmp .eq 6, 3) := by decide +kernel
theorem matchLength_d63 : decode matchLength_I.2.1 63 = .ok (.goto 12, 3) := by decide +kernel
theorem matchLength_d66 : decode matchLength_I.2.1 66 = .ok (.iinc 4 1, 3) := by decide +kernel
theorem matchLength_d69 : decode matchLength_I.2.1 69 = .ok (.iinc 5 1, 3) := by decide +kernel
theorem matchLength_d72 : decode matchLength_I.2.1 72 = .ok (.goto (-66), 3) := by decide +kernel
theorem matchLength_d75 : decode matchLength_I.2.1 75 = .ok (.iload 4, 2) := by decide +kernel
theorem matchLength_d77 : decode matchLength_I.2.1 77 = .ok (.ireturn, 1) := by decide +kernel
theorem matchLength_p : parseMethodDescriptor matchLength_I.1.desc = some ⟨[.int, .int, .int], (some .int)⟩ := by decide +kernel
theorem matchLength_K {a0 : Array Value} {Z : State} {M : Mi} (hw : Words a0 Z) (h : matchLength_I.2.2.2.2.1 + 1 ≤ M.2.2.2.2.1) : Callee a0 Z M matchLength_I 3 := ⟨pnC, (wd267 hw), (wd2 hw), h, by decide, fun sig q => by cases matchLength_p.symm.trans q; rfl⟩
set_option maxRecDepth 65536 in
set_option maxHeartbeats 4000000 in
theorem matchLength_l6b_ok {l : Launch} {Z : State} {a0 : Array Value} {n0 : Nat} {cv : Nat → Nat} {h0 : Heap} (hw : Words a0 Z) (K : KA a0 Z n0 CN nI FF cv) (x1 : Int) (x2 : Int) (x3 : Int) {rec : Int → Int → Obj → Option (Int × Obj)} (hrec : ∀ (x4 : Int) (x5 : Int) (s : Obj), GQ (XA l Z n0 CN FF cv h0) matchLength_I 0 0 6 [some (Rf 0), some (I x1), some (I x2), some (I x3), some (I x4), some (I x5), none, none] [] s (rec x4 x5 s)) (x4 : Int) (x5 : Int) (s : Obj) : GQ (XA l Z n0 CN FF cv h0) matchLength_I 0 0 6 [some (Rf 0), some (I x1), some (I x2), some (I x3), some (I x4), some (I x5), none, none] [] s (matchLength_l6b x1 x2 x3 rec x4 x5 s) := by
  unfold matchLength_l6b
  refine GQ.iload (pc' := 8) matchLength_d6 rfl rfl ?_
  refine GQ.bipush (pc' := 10) matchLength_d8 rfl rfl ?_
  refine GQ.icmpF (pcT := 75) (pcF := 13) h_ge matchLength_d10 rfl rfl rfl ?_ ?_
  · refine GQ.iload (pc' := 77) matchLength_d75 rfl rfl ?_
    exact GQ.iret rfl matchLength_d77
  refine GQ.iloadN (pc' := 14) matchLength_d13 rfl rfl ?_
  refine GQ.iload (pc' := 16) matchLength_d14 rfl rfl ?_
  refine GQ.iadd (pc' := 17) matchLength_d16 rfl ?_
  refine GQ.letI (fun x6_17 => ?_)
  refine GQ.istore (L' := [some (Rf 0), some (I x1), some (I x2), some (I x3), some (I x4), some (I x5), some (I x6_17), none]) (pc' := 19) matchLength_d17 rfl rfl rfl ?_
  refine GQ.iload (pc' := 21) matchLength_d19 rfl rfl ?_
  refine GQ.iloadN (pc' := 22) matchLength_d21 rfl rfl ?_
  refine GQ.isub (pc' := 23) matchLength_d22 rfl ?_
  refine GQ.letI (fun x7_23 => ?_)
  refine GQ.istore (L' := [some (Rf 0), some (I x1), some (I x2), some (I x3), some (I x4), some (I x5), some (I x6_17), some (I x7_23)]) (pc' := 25) matchLength_d23 rfl rfl rfl ?_
  refine GQ.iload (pc' := 27) matchLength_d25 rfl rfl ?_
  refine GQ.iloadN (pc' := 28) matchLength_d27 rfl rfl ?_
  refine GQ.icmpF (pcT := 75) (pcF := 31) h_ge matchLength_d28 rfl rfl rfl ?_ ?_
  · refine GQ.iload (pc' := 77) matchLength_d75 rfl rfl ?_
    exact GQ.iret rfl matchLength_d77
  refine GQ.iload (pc' := 33) matchLength_d31 rfl rfl ?_
  refine GQ.bipush (pc' := 35) matchLength_d33 rfl rfl ?_
  refine GQ.icmpF (pcT := 75) (pcF := 38) h_ge matchLength_d35 rfl rfl rfl ?_ ?_
  · refine GQ.iload (pc' := 77) matchLength_d75 rfl rfl ?_
    exact GQ.iret rfl matchLength_d77
  refine GQ.iload (pc' := 40) matchLength_d38 rfl rfl ?_
  refine GQ.ifF (pcT := 46) (pcF := 43) h_ge matchLength_d40 rfl rfl rfl ?_ ?_
  · refine GQ.aloadN (pc' := 47) matchLength_d46 rfl rfl ?_
    refine GQ.getA (M := matchLength_I) (k := 48) (pc' := 50) rfl (by decide) (wd92 hw) matchLength_d47 rfl ?_
    refine GQ.iload (pc' := 52) matchLength_d50 rfl rfl ?_
    refine GQ.rd (k := 48) (ins := .baload) (pc' := 53) rfl (by decide) (Or.inr (Or.inl ⟨rfl, rfl⟩)) matchLength_d52 rfl (fun z52 => ?_)
    refine GQ.aloadN (pc' := 54) matchLength_d53 rfl rfl ?_
    refine GQ.getA (M := matchLength_I) (k := 48) (pc' := 57) rfl (by decide) (wd92 hw) matchLength_d54 rfl ?_
    refine GQ.iload (pc' := 59) matchLength_d57 rfl rfl ?_
    refine GQ.rd (k := 48) (ins := .baload) (pc' := 60) rfl (by decide) (Or.inr (Or.inl ⟨rfl, rfl⟩)) matchLength_d59 rfl (fun z59 => ?_)
    refine GQ.icmpT (pcT := 66) (pcF := 63) h_eq matchLength_d60 rfl rfl rfl ?_ ?_
    · refine GQ.iinc (L' := [some (Rf 0), some (I x1), some (I x2), some (I x3), some (I (aAdd x4 1)), some (I x5), some (I x6_17), some (I x7_23)]) (pc' := 69) matchLength_d66 rfl rfl rfl rfl ?_
      refine GQ.iinc (L' := [some (Rf 0), some (I x1), some (I x2), some (I x3), some (I (aAdd x4 1)), some (I (aAdd x5 1)), some (I x6_17), some (I x7_23)]) (pc' := 72) matchLength_d69 rfl rfl rfl rfl ?_
      refine GQ.goto (pc' := 6) matchLength_d72 rfl rfl ?_
      refine GQ.weak (L' := [some (Rf 0), some (I x1), some (I x2), some (I x3), some (I (aAdd x4 1)), some (I (aAdd x5 1)), none, none]) (Sub.keep (Sub.keep (Sub.keep (Sub.keep (Sub.keep (Sub.keep (Sub.drop (Sub.drop Sub.nil)))))))) ?_
      exact hrec (aAdd x4 1) (aAdd x5 1) s
    refine GQ.goto (pc' := 75) matchLength_d63 rfl rfl ?_
    refine GQ.iload (pc' := 77) matchLength_d75 rfl rfl ?_
    exact GQ.iret rfl matchLength_d77
  refine GQ.goto (pc' := 75) matchLength_d43 rfl rfl ?_
  refine GQ.iload (pc' := 77) matchLength_d75 rfl rfl ?_
  exact GQ.iret rfl matchLength_d77
set_option maxRecDepth 65536 in
set_option maxHeartbeats 4000000 in
theorem matchLength_l6_ok {l : Launch} {Z : State} {a0 : Array Value} {n0 : Nat} {cv : Nat → Nat} {h0 : Heap} (hw : Words a0 Z) (K : KA a0 Z n0 CN nI FF cv) (x1 : Int) (x2 : Int) (x3 : Int) : ∀ (fu : Nat) (x4 : Int) (x5 : Int) (s : Obj), GQ (XA l Z n0 CN FF cv h0) matchLength_I 0 0 6 [some (Rf 0), some (I x1), some (I x2), some (I x3), some (I x4), some (I x5), none, none] [] s (matchLength_l6 x1 x2 x3 fu x4 x5 s)
  | 0 => fun _ _ _ => GQ.no
  | fu + 1 => matchLength_l6b_ok hw K x1 x2 x3 (matchLength_l6_ok hw K x1 x2 x3 fu)
set_option maxRecDepth 65536 in
set_option maxHeartbeats 4000000 in
theorem matchLength_M_ok {l : Launch} {Z : State} {a0 : Array Value} {n0 : Nat} {cv : Nat → Nat} {h0 : Heap} (hw : Words a0 Z) (K : KA a0 Z n0 CN nI FF cv) (x1 : Int) (x2 : Int) (x3 : Int) (s : Obj) : GQ (XA l Z n0 CN FF cv h0) matchLength_I 0 0 0 (entry [Rf 0, I x1, I x2, I x3] matchLength_I.2.2.1) [] s (matchLength_M x1 x2 x3 s) := by
  show GQ _ _ _ _ 0 [some (Rf 0), some (I x1), some (I x2), some (I x3), none, none, none, none] [] _ _
  unfold matchLength_M
  refine GQ.iconst (pc' := 1) matchLength_d0 rfl rfl ?_
  refine GQ.istore (L' := [some (Rf 0), some (I x1), some (I x2), some (I x3), some (I 0), none, none, none]) (pc' := 3) matchLength_d1 rfl rfl rfl ?_
  refine GQ.iconst (pc' := 4) matchLength_d3 rfl rfl ?_
  refine GQ.istore (L' := [some (Rf 0), some (I x1), some (I x2), some (I x3), some (I 0), some (I 0), none, none]) (pc' := 6) matchLength_d4 rfl rfl rfl ?_
  exact matchLength_l6_ok hw K x1 x2 x3 FU 0 0 s
def bestDistance_I : Mi := (⟨"SquashImage", "bestDistance", "(II)I"⟩, prog_1_method_28_code, 6, (some .int), 1, 19)
theorem bestDistance_d0 : decode bestDistance_I.2.1 0 = .ok (.iconst 0, 1) := by decide +kernel
theorem bestDistance_d1 : decode bestDistance_I.2.1 1 = .ok (.istore_n 3, 1) := by decide +kernel
theorem bestDistance_d2 : decode bestDistance_I.2.1 2 = .ok (.aload_n 0, 1) := by decide +kernel
theorem bestDistance_d3 : decode bestDistance_I.2.1 3 = .ok (.iconst 0, 1) := by decide +kernel
theorem bestDistance_d4 : decode bestDistance_I.2.1 4 = .ok (.putfield 273, 3) := by decide +kernel
theorem bestDistance_d7 : decode bestDistance_I.2.1 7 = .ok (.iconst 1, 1) := by decide +kernel
theorem bestDistance_d8 : decode bestDistance_I.2.1 8 = .ok (.istore 4, 2) := by decide +kernel
theorem bestDistance_d10 : decode bestDistance_I.2.1 10 = .ok (.iload 4, 2) := by decide +kernel
theorem bestDistance_d12 : decode bestDistance_I.2.1 12 = .ok (.iload_n 1, 1) := by decide +kernel
theorem bestDistance_d13 : decode bestDistance_I.2.1 13 = .ok (.if_icmp .gt 44, 3) := by decide +kernel
theorem bestDistance_d16 : decode bestDistance_I.2.1 16 = .ok (.iload 4, 2) := by decide +kernel
theorem bestDistance_d18 : decode bestDistance_I.2.1 18 = .ok (.bipush 32, 2) := by decide +kernel
theorem bestDistance_d20 : decode bestDistance_I.2.1 20 = .ok (.if_icmp .ge 37, 3) := by decide +kernel
theorem bestDistance_d23 : decode bestDistance_I.2.1 23 = .ok (.aload_n 0, 1) := by decide +kernel
theorem bestDistance_d24 : decode bestDistance_I.2.1 24 = .ok (.iload_n 1, 1) := by decide +kernel
theorem bestDistance_d25 : decode bestDistance_I.2.1 25 = .ok (.iload 4, 2) := by decide +kernel
theorem bestDistance_d27 : decode bestDistance_I.2.1 27 = .ok (.iload_n 2, 1) := by decide +kernel
theorem bestDistance_d28 : decode bestDistance_I.2.1 28 = .ok (.invokevirtual 283, 3) := by decide +kernel
theorem bestDistance_d31 : decode bestDistance_I.2.1 31 = .ok (.istore 5, 2) := by decide +kernel
theorem bestDistance_d33 : decode bestDistance_I.2.1 33 = .ok (.iload 5, 2) := by decide +kernel
theorem bestDistance_d35 : decode bestDistance_I.2.1 35 = .ok (.aload_n 0, 1) := by decide +kernel
theorem bestDistance_d36 : decode bestDistance_I.2.1 36 = .ok (.getfield 273, 3) := by decide +kernel
theorem bestDistance_d39 : decode bestDistance_I.2.1 39 = .ok (.if_icmp .le 12, 3) := by decide +kernel
theorem bestDistance_d42 : decode bestDistance_I.2.1 42 = .ok (.aload_n 0, 1) := by decide +kernel
theorem bestDistance_d43 : decode bestDistance_I.2.1 43 = .ok (.iload 5, 2) := by decide +kernel
theorem bestDistance_d45 : decode bestDistance_I.2.1 45 = .ok (.putfield 273, 3) := by decide +kernel
theorem bestDistance_d48 : decode bestDistance_I.2.1 48 = .ok (.iload 4, 2) := by decide +kernel
theorem bestDistance_d50 : decode bestDistance_I.2.1 50 = .ok (.istore_n 3, 1) := by decide +kernel
theorem bestDistance_d51 : decode bestDistance_I.2.1 51 = .ok (.iinc 4 1, 3) := by decide +kernel
theorem bestDistance_d54 : decode bestDistance_I.2.1 54 = .ok (.goto (-44), 3) := by decide +kernel
theorem bestDistance_d57 : decode bestDistance_I.2.1 57 = .ok (.iload_n 3, 1) := by decide +kernel
theorem bestDistance_d58 : decode bestDistance_I.2.1 58 = .ok (.ireturn, 1) := by decide +kernel
theorem bestDistance_p : parseMethodDescriptor bestDistance_I.1.desc = some ⟨[.int, .int], (some .int)⟩ := by decide +kernel
theorem bestDistance_K {a0 : Array Value} {Z : State} {M : Mi} (hw : Words a0 Z) (h : bestDistance_I.2.2.2.2.1 + 1 ≤ M.2.2.2.2.1) : Callee a0 Z M bestDistance_I 2 := ⟨pnC, (wd261 hw), (wd2 hw), h, by decide, fun sig q => by cases bestDistance_p.symm.trans q; rfl⟩
set_option maxRecDepth 65536 in
set_option maxHeartbeats 4000000 in
theorem bestDistance_j51_ok {l : Launch} {Z : State} {a0 : Array Value} {n0 : Nat} {cv : Nat → Nat} {h0 : Heap} (hw : Words a0 Z) (K : KA a0 Z n0 CN nI FF cv) {x1 x2 : Int} {rec : Int → Int → Obj → Option (Int × Obj)} (hrec : ∀ (x3 : Int) (x4 : Int) (s : Obj), GQ (XA l Z n0 CN FF cv h0) bestDistance_I 0 0 10 [some (Rf 0), some (I x1), some (I x2), some (I x3), some (I x4), none] [] s (rec x3 x4 s)) (x3 : Int) (x4 : Int) (s : Obj) : GQ (XA l Z n0 CN FF cv h0) bestDistance_I 0 0 51 [some (Rf 0), some (I x1), some (I x2), some (I x3), some (I x4), none] [] s (bestDistance_j51 rec x1 x2 x3 x4 s) := by
  unfold bestDistance_j51
  refine GQ.iinc (L' := [some (Rf 0), some (I x1), some (I x2), some (I x3), some (I (aAdd x4 1)), none]) (pc' := 54) bestDistance_d51 rfl rfl rfl rfl ?_
  refine GQ.goto (pc' := 10) bestDistance_d54 rfl rfl ?_
  exact hrec x3 (aAdd x4 1) s
set_option maxRecDepth 65536 in
set_option maxHeartbeats 4000000 in
theorem bestDistance_l10b_ok {l : Launch} {Z : State} {a0 : Array Value} {n0 : Nat} {cv : Nat → Nat} {h0 : Heap} (hw : Words a0 Z) (K : KA a0 Z n0 CN nI FF cv) (x1 : Int) (x2 : Int) {rec : Int → Int → Obj → Option (Int × Obj)} (hrec : ∀ (x3 : Int) (x4 : Int) (s : Obj), GQ (XA l Z n0 CN FF cv h0) bestDistance_I 0 0 10 [some (Rf 0), some (I x1), some (I x2), some (I x3), some (I x4), none] [] s (rec x3 x4 s)) (x3 : Int) (x4 : Int) (s : Obj) : GQ (XA l Z n0 CN FF cv h0) bestDistance_I 0 0 10 [some (Rf 0), some (I x1), some (I x2), some (I x3), some (I x4), none] [] s (bestDistance_l10b x1 x2 rec x3 x4 s) := by
  unfold bestDistance_l10b
  refine GQ.iload (pc' := 12) bestDistance_d10 rfl rfl ?_
  refine GQ.iloadN (pc' := 13) bestDistance_d12 rfl rfl ?_
  refine GQ.icmpT (pcT := 57) (pcF := 16) h_gt bestDistance_d13 rfl rfl rfl ?_ ?_
  · refine GQ.iloadN (pc' := 58) bestDistance_d57 rfl rfl ?_
    exact GQ.iret rfl bestDistance_d58
  refine GQ.iload (pc' := 18) bestDistance_d16 rfl rfl ?_
  refine GQ.bipush (pc' := 20) bestDistance_d18 rfl rfl ?_
  refine GQ.icmpF (pcT := 57) (pcF := 23) h_ge bestDistance_d20 rfl rfl rfl ?_ ?_
  · refine GQ.iloadN (pc' := 58) bestDistance_d57 rfl rfl ?_
    exact GQ.iret rfl bestDistance_d58
  refine GQ.aloadN (pc' := 24) bestDistance_d23 rfl rfl ?_
  refine GQ.iloadN (pc' := 25) bestDistance_d24 rfl rfl ?_
  refine GQ.iload (pc' := 27) bestDistance_d25 rfl rfl ?_
  refine GQ.iloadN (pc' := 28) bestDistance_d27 rfl rfl ?_
  refine GQ.callP (Mc := matchLength_I) (args0 := [I x1, I x4, I x2]) (S := []) (r := 0) (pc' := 31) (matchLength_K hw (by decide)) rfl bestDistance_d28 rfl (wd264 hw) (wd265 hw) (wd266 hw) (wd1 hw) XA.recv rfl (matchLength_M_ok hw K x1 x4 x2 s) rfl (fun z28 s28 => ?_)
  show GQ (XA l Z n0 CN FF cv h0) bestDistance_I _ _ 31 [some (Rf 0), some (I x1), some (I x2), some (I x3), some (I x4), none] [I z28] s28 _
  refine GQ.istore (L' := [some (Rf 0), some (I x1), some (I x2), some (I x3), some (I x4), some (I z28)]) (pc' := 33) bestDistance_d31 rfl rfl rfl ?_
  refine GQ.iload (pc' := 35) bestDistance_d33 rfl rfl ?_
  refine GQ.aloadN (pc' := 36) bestDistance_d35 rfl rfl ?_
  refine GQ.getI (M := bestDistance_I) (k := 54) (pc' := 39) rfl (wd262 hw) bestDistance_d36 rfl ?_
  refine GQ.icmpF (pcT := 51) (pcF := 42) h_le bestDistance_d39 rfl rfl rfl ?_ ?_
  · refine GQ.weak (L' := [some (Rf 0), some (I x1), some (I x2), some (I x3), some (I x4), none]) (Sub.keep (Sub.keep (Sub.keep (Sub.keep (Sub.keep (Sub.drop Sub.nil)))))) ?_
    exact bestDistance_j51_ok hw K hrec x3 x4 s28
  refine GQ.aloadN (pc' := 43) bestDistance_d42 rfl rfl ?_
  refine GQ.iload (pc' := 45) bestDistance_d43 rfl rfl ?_
  refine GQ.putI (M := bestDistance_I) (k := 54) (pc' := 48) K rfl (wd262 hw) (wd263 hw) bestDistance_d45 rfl ?_
  refine GQ.letM (fun s45 => ?_)
  refine GQ.iload (pc' := 50) bestDistance_d48 rfl rfl ?_
  refine GQ.istoreN (L' := [some (Rf 0), some (I x1), some (I x2), some (I x4), some (I x4), some (I z28)]) (pc' := 51) bestDistance_d50 rfl rfl rfl ?_
  refine GQ.weak (L' := [some (Rf 0), some (I x1), some (I x2), some (I x4), some (I x4), none]) (Sub.keep (Sub.keep (Sub.keep (Sub.keep (Sub.keep (Sub.drop Sub.nil)))))) ?_
  exact bestDistance_j51_ok hw K hrec x4 x4 s45
set_option maxRecDepth 65536 in
set_option maxHeartbeats 4000000 in
theorem bestDistance_l10_ok {l : Launch} {Z : State} {a0 : Array Value} {n0 : Nat} {cv : Nat → Nat} {h0 : Heap} (hw : Words a0 Z) (K : KA a0 Z n0 CN nI FF cv) (x1 : Int) (x2 : Int) : ∀ (fu : Nat) (x3 : Int) (x4 : Int) (s : Obj), GQ (XA l Z n0 CN FF cv h0) bestDistance_I 0 0 10 [some (Rf 0), some (I x1), some (I x2), some (I x3), some (I x4), none] [] s (bestDistance_l10 x1 x2 fu x3 x4 s)
  | 0 => fun _ _ _ => GQ.no
  | fu + 1 => bestDistance_l10b_ok hw K x1 x2 (bestDistance_l10_ok hw K x1 x2 fu)
set_option maxRecDepth 65536 in
set_option maxHeartbeats 4000000 in
theorem bestDistance_M_ok {l : Launch} {Z : State} {a0 : Array Value} {n0 : Nat} {cv : Nat → Nat} {h0 : Heap} (hw : Words a0 Z) (K : KA a0 Z n0 CN nI FF cv) (x1 : Int) (x2 : Int) (s : Obj) : GQ (XA l Z n0 CN FF cv h0) bestDistance_I 0 0 0 (entry [Rf 0, I x1, I x2] bestDistance_I.2.2.1) [] s (bestDistance_M x1 x2 s) := by
  show GQ _ _ _ _ 0 [some (Rf 0), some (I x1), some (I x2), none, none, none] [] _ _
  unfold bestDistance_M
  refine GQ.iconst (pc' := 1) bestDistance_d0 rfl rfl ?_
  refine GQ.istoreN (L' := [some (Rf 0), some (I x1), some (I x2), some (I 0), none, none]) (pc' := 2) bestDistance_d1 rfl rfl rfl ?_
  refine GQ.aloadN (pc' := 3) bestDistance_d2 rfl rfl ?_
  refine GQ.iconst (pc' := 4) bestDistance_d3 rfl rfl ?_
  refine GQ.putI (M := bestDistance_I) (k := 54) (pc' := 7) K rfl (wd262 hw) (wd263 hw) bestDistance_d4 rfl ?_
  refine GQ.letM (fun s4 => ?_)
  refine GQ.iconst (pc' := 8) bestDistance_d7 rfl rfl ?_
  refine GQ.istore (L' := [some (Rf 0), some (I x1), some (I x2), some (I 0), some (I 1), none]) (pc' := 10) bestDistance_d8 rfl rfl rfl ?_
  exact bestDistance_l10_ok hw K x1 x2 FU 0 1 s4
def flushLiteral_I : Mi := (⟨"SquashImage", "flushLiteral", "(II)V"⟩, prog_1_method_31_code, 6, none, 1, 14)
theorem flushLiteral_d0 : decode flushLiteral_I.2.1 0 = .ok (.iload_n 2, 1) := by decide +kernel
theorem flushLiteral_d1 : decode flushLiteral_I.2.1 1 = .ok (.ifCond .gt 4, 3) := by decide +kernel
theorem flushLiteral_d4 : decode flushLiteral_I.2.1 4 = .ok (.return_, 1) := by decide +kernel
theorem flushLiteral_d5 : decode flushLiteral_I.2.1 5 = .ok (.aload_n 0, 1) := by decide +kernel
theorem flushLiteral_d6 : decode flushLiteral_I.2.1 6 = .ok (.aload_n 0, 1) := by decide +kernel
theorem flushLiteral_d7 : decode flushLiteral_I.2.1 7 = .ok (.getfield 224, 3) := by decide +kernel
theorem flushLiteral_d10 : decode flushLiteral_I.2.1 10 = .ok (.iconst 0, 1) := by decide +kernel
theorem flushLiteral_d11 : decode flushLiteral_I.2.1 11 = .ok (.iload_n 2, 1) := by decide +kernel
theorem flushLiteral_d12 : decode flushLiteral_I.2.1 12 = .ok (.iconst 1, 1) := by decide +kernel
theorem flushLiteral_d13 : decode flushLiteral_I.2.1 13 = .ok (.isub, 1) := by decide +kernel
theorem flushLiteral_d14 : decode flushLiteral_I.2.1 14 = .ok (.bipush 63, 2) := by decide +kernel
theorem flushLiteral_d16 : decode flushLiteral_I.2.1 16 = .ok (.iand, 1) := by decide +kernel
theorem flushLiteral_d17 : decode flushLiteral_I.2.1 17 = .ok (.ior, 1) := by decide +kernel
theorem flushLiteral_d18 : decode flushLiteral_I.2.1 18 = .ok (.invokevirtual 221, 3) := by decide +kernel
theorem flushLiteral_d21 : decode flushLiteral_I.2.1 21 = .ok (.aload_n 0, 1) := by decide +kernel
theorem flushLiteral_d22 : decode flushLiteral_I.2.1 22 = .ok (.dup, 1) := by decide +kernel
theorem flushLiteral_d23 : decode flushLiteral_I.2.1 23 = .ok (.getfield 224, 3) := by decide +kernel
theorem flushLiteral_d26 : decode flushLiteral_I.2.1 26 = .ok (.iconst 1, 1) := by decide +kernel
theorem flushLiteral_d27 : decode flushLiteral_I.2.1 27 = .ok (.iadd, 1) := by decide +kernel
theorem flushLiteral_d28 : decode flushLiteral_I.2.1 28 = .ok (.putfield 224, 3) := by decide +kernel
theorem flushLiteral_d31 : decode flushLiteral_I.2.1 31 = .ok (.iconst 0, 1) := by decide +kernel
theorem flushLiteral_d32 : decode flushLiteral_I.2.1 32 = .ok (.istore_n 3, 1) := by decide +kernel
theorem flushLiteral_d33 : decode flushLiteral_I.2.1 33 = .ok (.iload_n 3, 1) := by decide +kernel
theorem flushLiteral_d34 : decode flushLiteral_I.2.1 34 = .ok (.iload_n 2, 1) := by decide +kernel
theorem flushLiteral_d35 : decode flushLiteral_I.2.1 35 = .ok (.if_icmp .ge 65, 3) := by decide +kernel
theorem flushLiteral_d38 : decode flushLiteral_I.2.1 38 = .ok (.iload_n 3, 1) := by decide +kernel
theorem flushLiteral_d39 : decode flushLiteral_I.2.1 39 = .ok (.bipush 32, 2) := by decide +kernel
theorem flushLiteral_d41 : decode flushLiteral_I.2.1 41 = .ok (.if_icmp .ge 59, 3) := by decide +kernel
theorem flushLiteral_d44 : decode flushLiteral_I.2.1 44 = .ok (.iload_n 1, 1) := by decide +kernel
theorem flushLiteral_d45 : decode flushLiteral_I.2.1 45 = .ok (.iload_n 3, 1) := by decide +kernel
theorem flushLiteral_d46 : decode flushLiteral_I.2.1 46 = .ok (.iadd, 1) := by decide +kernel
theorem flushLiteral_d47 : decode flushLiteral_I.2.1 47 = .ok (.istore 4, 2) := by decide +kernel
theorem flushLiteral_d49 : decode flushLiteral_I.2.1 49 = .ok (.iload 4, 2) := by decide +kernel
theorem flushLiteral_d51 : decode flushLiteral_I.2.1 51 = .ok (.ifCond .lt 20, 3) := by decide +kernel
theorem flushLiteral_d54 : decode flushLiteral_I.2.1 54 = .ok (.iload 4, 2) := by decide +kernel
theorem flushLiteral_d56 : decode flushLiteral_I.2.1 56 = .ok (.bipush 32, 2) := by decide +kernel
theorem flushLiteral_d58 : decode flushLiteral_I.2.1 58 = .ok (.if_icmp .ge 13, 3) := by decide +kernel
theorem flushLiteral_d61 : decode flushLiteral_I.2.1 61 = .ok (.aload_n 0, 1) := by decide +kernel
theorem flushLiteral_d62 : decode flushLiteral_I.2.1 62 = .ok (.getfield 133, 3) := by decide +kernel
theorem flushLiteral_d65 : decode flushLiteral_I.2.1 65 = .ok (.iload 4, 2) := by decide +kernel
theorem flushLiteral_d67 : decode flushLiteral_I.2.1 67 = .ok (.baload, 1) := by decide +kernel
theorem flushLiteral_d68 : decode flushLiteral_I.2.1 68 = .ok (.goto 4, 3) := by decide +kernel
theorem flushLiteral_d71 : decode flushLiteral_I.2.1 71 = .ok (.iconst 0, 1) := by decide +kernel
theorem flushLiteral_d72 : decode flushLiteral_I.2.1 72 = .ok (.istore 5, 2) := by decide +kernel
theorem flushLiteral_d74 : decode flushLiteral_I.2.1 74 = .ok (.aload_n 0, 1) := by decide +kernel
theorem flushLiteral_d75 : decode flushLiteral_I.2.1 75 = .ok (.aload_n 0, 1) := by decide +kernel
theorem flushLiteral_d76 : decode flushLiteral_I.2.1 76 = .ok (.getfield 224, 3) := by decide +kernel
theorem flushLiteral_d79 : decode flushLiteral_I.2.1 79 = .ok (.iload 5, 2) := by decide +kernel
theorem flushLiteral_d81 : decode flushLiteral_I.2.1 81 = .ok (.invokevirtual 221, 3) := by decide +kernel
theorem flushLiteral_d84 : decode flushLiteral_I.2.1 84 = .ok (.aload_n 0, 1) := by decide +kernel
theorem flushLiteral_d85 : decode flushLiteral_I.2.1 85 = .ok (.dup, 1) := by decide +kernel
theorem flushLiteral_d86 : decode flushLiteral_I.2.1 86 = .ok (.getfield 224, 3) := by decide +kernel
theorem flushLiteral_d89 : decode flushLiteral_I.2.1 89 = .ok (.iconst 1, 1) := by decide +kernel
theorem flushLiteral_d90 : decode flushLiteral_I.2.1 90 = .ok (.iadd, 1) := by decide +kernel
theorem flushLiteral_d91 : decode flushLiteral_I.2.1 91 = .ok (.putfield 224, 3) := by decide +kernel
theorem flushLiteral_d94 : decode flushLiteral_I.2.1 94 = .ok (.iinc 3 1, 3) := by decide +kernel
theorem flushLiteral_d97 : decode flushLiteral_I.2.1 97 = .ok (.goto (-64), 3) := by decide +kernel
theorem flushLiteral_d100 : decode flushLiteral_I.2.1 100 = .ok (.return_, 1) := by decide +kernel
theorem flushLiteral_p : parseMethodDescriptor flushLiteral_I.1.desc = some ⟨[.int, .int], none⟩ := by decide +kernel
theorem flushLiteral_K {a0 : Array Value} {Z : State} {M : Mi} (hw : Words a0 Z) (h : flushLiteral_I.2.2.2.2.1 + 1 ≤ M.2.2.2.2.1) : Callee a0 Z M flushLiteral_I 2 := ⟨pnC, (wd271 hw), (wd2 hw), h, by decide, fun sig q => by cases flushLiteral_p.symm.trans q; rfl⟩
set_option maxRecDepth 65536 in
set_option maxHeartbeats 4000000 in
theorem flushLiteral_j72_ok {l : Launch} {Z : State} {a0 : Array Value} {n0 : Nat} {cv : Nat → Nat} {h0 : Heap} (hw : Words a0 Z) (K : KA a0 Z n0 CN nI FF cv) {x1 x2 : Int} {rec : Int → Obj → Option (Int × Obj)} (hrec : ∀ (x3 : Int) (s : Obj), GQ (XA l Z n0 CN FF cv h0) flushLiteral_I 0 0 33 [some (Rf 0), some (I x1), some (I x2), some (I x3), none, none] [] s (rec x3 s)) (x3 : Int) (y0 : Int) (s : Obj) : GQ (XA l Z n0 CN FF cv h0) flushLiteral_I 0 0 72 [some (Rf 0), some (I x1), some (I x2), some (I x3), none, none] [I y0] s (flushLiteral_j72 rec x1 x2 x3 y0 s) := by
  unfold flushLiteral_j72
  refine GQ.istore (L' := [some (Rf 0), some (I x1), some (I x2), some (I x3), none, some (I y0)]) (pc' := 74) flushLiteral_d72 rfl rfl rfl ?_
  refine GQ.aloadN (pc' := 75) flushLiteral_d74 rfl rfl ?_
  refine GQ.aloadN (pc' := 76) flushLiteral_d75 rfl rfl ?_
  refine GQ.getI (M := flushLiteral_I) (k := 51) (pc' := 79) rfl (wd192 hw) flushLiteral_d76 rfl ?_
  refine GQ.iload (pc' := 81) flushLiteral_d79 rfl rfl ?_
  refine GQ.callP (Mc := put8_I) (args0 := [I (s.1 51), I y0]) (S := []) (r := 0) (pc' := 84) (put8_K hw (by decide)) rfl flushLiteral_d81 rfl (wd188 hw) (wd189 hw) (wd190 hw) (wd1 hw) XA.recv rfl (put8_M_ok hw K (s.1 51) y0 s) rfl (fun _ s81 => ?_)
  show GQ (XA l Z n0 CN FF cv h0) flushLiteral_I _ _ 84 [some (Rf 0), some (I x1), some (I x2), some (I x3), none, some (I y0)] [] s81 _
  refine GQ.aloadN (pc' := 85) flushLiteral_d84 rfl rfl ?_
  refine GQ.dupR (pc' := 86) flushLiteral_d85 rfl ?_
  refine GQ.getI (M := flushLiteral_I) (k := 51) (pc' := 89) rfl (wd192 hw) flushLiteral_d86 rfl ?_
  refine GQ.iconst (pc' := 90) flushLiteral_d89 rfl rfl ?_
  refine GQ.iadd (pc' := 91) flushLiteral_d90 rfl ?_
  refine GQ.putI (M := flushLiteral_I) (k := 51) (pc' := 94) K rfl (wd192 hw) (wd193 hw) flushLiteral_d91 rfl ?_
  refine GQ.letM (fun s91 => ?_)
  refine GQ.iinc (L' := [some (Rf 0), some (I x1), some (I x2), some (I (aAdd x3 1)), none, some (I y0)]) (pc' := 97) flushLiteral_d94 rfl rfl rfl rfl ?_
  refine GQ.goto (pc' := 33) flushLiteral_d97 rfl rfl ?_
  refine GQ.weak (L' := [some (Rf 0), some (I x1), some (I x2), some (I (aAdd x3 1)), none, none]) (Sub.keep (Sub.keep (Sub.keep (Sub.keep (Sub.keep (Sub.drop Sub.nil)))))) ?_
  exact hrec (aAdd x3 1) s91
set_option maxRecDepth 65536 in
set_option maxHeartbeats 4000000 in
theorem flushLiteral_j71_ok {l : Launch} {Z : State} {a0 : Array Value} {n0 : Nat} {cv : Nat → Nat} {h0 : Heap} (hw : Words a0 Z) (K : KA a0 Z n0 CN nI FF cv) {x1 x2 : Int} {rec : Int → Obj → Option (Int × Obj)} (hrec : ∀ (x3 : Int) (s : Obj), GQ (XA l Z n0 CN FF cv h0) flushLiteral_I 0 0 33 [some (Rf 0), some (I x1), some (I x2), some (I x3), none, none] [] s (rec x3 s)) (x3 : Int) (s : Obj) : GQ (XA l Z n0 CN FF cv h0) flushLiteral_I 0 0 71 [some (Rf 0), some (I x1), some (I x2), some (I x3), none, none] [] s (flushLiteral_j71 rec x1 x2 x3 s) := by
  unfold flushLiteral_j71
  refine GQ.iconst (pc' := 72) flushLiteral_d71 rfl rfl ?_
  exact flushLiteral_j72_ok hw K hrec x3 0 s
set_option maxRecDepth 65536 in
set_option maxHeartbeats 4000000 in
theorem flushLiteral_l33b_ok {l : Launch} {Z : State} {a0 : Array Value} {n0 : Nat} {cv : Nat → Nat} {h0 : Heap} (hw : Words a0 Z) (K : KA a0 Z n0 CN nI FF cv) (x1 : Int) (x2 : Int) {rec : Int → Obj → Option (Int × Obj)} (hrec : ∀ (x3 : Int) (s : Obj), GQ (XA l Z n0 CN FF cv h0) flushLiteral_I 0 0 33 [some (Rf 0), some (I x1), some (I x2), some (I x3), none, none] [] s (rec x3 s)) (x3 : Int) (s : Obj) : GQ (XA l Z n0 CN FF cv h0) flushLiteral_I 0 0 33 [some (Rf 0), some (I x1), some (I x2), some (I x3), none, none] [] s (flushLiteral_l33b x1 x2 rec x3 s) := by
  unfold flushLiteral_l33b
  refine GQ.iloadN (pc' := 34) flushLiteral_d33 rfl rfl ?_
  refine GQ.iloadN (pc' := 35) flushLiteral_d34 rfl rfl ?_
  refine GQ.icmpF (pcT := 100) (pcF := 38) h_ge flushLiteral_d35 rfl rfl rfl ?_ ?_
  · exact GQ.ret rfl flushLiteral_d100
  refine GQ.iloadN (pc' := 39) flushLiteral_d38 rfl rfl ?_
  refine GQ.bipush (pc' := 41) flushLiteral_d39 rfl rfl ?_
  refine GQ.icmpF (pcT := 100) (pcF := 44) h_ge flushLiteral_d41 rfl rfl rfl ?_ ?_
  · exact GQ.ret rfl flushLiteral_d100
  refine GQ.iloadN (pc' := 45) flushLiteral_d44 rfl rfl ?_
  refine GQ.iloadN (pc' := 46) flushLiteral_d45 rfl rfl ?_
  refine GQ.iadd (pc' := 47) flushLiteral_d46 rfl ?_
  refine GQ.letI (fun x4_47 => ?_)
  refine GQ.istore (L' := [some (Rf 0), some (I x1), some (I x2), some (I x3), some (I x4_47), none]) (pc' := 49) flushLiteral_d47 rfl rfl rfl ?_
  refine GQ.iload (pc' := 51) flushLiteral_d49 rfl rfl ?_
  refine GQ.ifT (pcT := 71) (pcF := 54) h_lt flushLiteral_d51 rfl rfl rfl ?_ ?_
  · refine GQ.weak (L' := [some (Rf 0), some (I x1), some (I x2), some (I x3), none, none]) (Sub.keep (Sub.keep (Sub.keep (Sub.keep (Sub.drop (Sub.keep Sub.nil)))))) ?_
    exact flushLiteral_j71_ok hw K hrec x3 s
  refine GQ.iload (pc' := 56) flushLiteral_d54 rfl rfl ?_
  refine GQ.bipush (pc' := 58) flushLiteral_d56 rfl rfl ?_
  refine GQ.icmpF (pcT := 71) (pcF := 61) h_ge flushLiteral_d58 rfl rfl rfl ?_ ?_
  · refine GQ.weak (L' := [some (Rf 0), some (I x1), some (I x2), some (I x3), none, none]) (Sub.keep (Sub.keep (Sub.keep (Sub.keep (Sub.drop (Sub.keep Sub.nil)))))) ?_
    exact flushLiteral_j71_ok hw K hrec x3 s
  refine GQ.aloadN (pc' := 62) flushLiteral_d61 rfl rfl ?_
  refine GQ.getA (M := flushLiteral_I) (k := 48) (pc' := 65) rfl (by decide) (wd92 hw) flushLiteral_d62 rfl ?_
  refine GQ.iload (pc' := 67) flushLiteral_d65 rfl rfl ?_
  refine GQ.rd (k := 48) (ins := .baload) (pc' := 68) rfl (by decide) (Or.inr (Or.inl ⟨rfl, rfl⟩)) flushLiteral_d67 rfl (fun z67 => ?_)
  refine GQ.goto (pc' := 72) flushLiteral_d68 rfl rfl ?_
  refine GQ.weak (L' := [some (Rf 0), some (I x1), some (I x2), some (I x3), none, none]) (Sub.keep (Sub.keep (Sub.keep (Sub.keep (Sub.drop (Sub.keep Sub.nil)))))) ?_
  exact flushLiteral_j72_ok hw K hrec x3 z67 s
set_option maxRecDepth 65536 in
set_option maxHeartbeats 4000000 in
theorem flushLiteral_l33_ok {l : Launch} {Z : State} {a0 : Array Value} {n0 : Nat} {cv : Nat → Nat} {h0 : Heap} (hw : Words a0 Z) (K : KA a0 Z n0 CN nI FF cv) (x1 : Int) (x2 : Int) : ∀ (fu : Nat) (x3 : Int) (s : Obj), GQ (XA l Z n0 CN FF cv h0) flushLiteral_I 0 0 33 [some (Rf 0), some (I x1), some (I x2), some (I x3), none, none] [] s (flushLiteral_l33 x1 x2 fu x3 s)
  | 0 => fun _ _ => GQ.no
  | fu + 1 => flushLiteral_l33b_ok hw K x1 x2 (flushLiteral_l33_ok hw K x1 x2 fu)
set_option maxRecDepth 65536 in
set_option maxHeartbeats 4000000 in
theorem flushLiteral_M_ok {l : Launch} {Z : State} {a0 : Array Value} {n0 : Nat} {cv : Nat → Nat} {h0 : Heap} (hw : Words a0 Z) (K : KA a0 Z n0 CN nI FF cv) (x1 : Int) (x2 : Int) (s : Obj) : GQ (XA l Z n0 CN FF cv h0) flushLiteral_I 0 0 0 (entry [Rf 0, I x1, I x2] flushLiteral_I.2.2.1) [] s (flushLiteral_M x1 x2 s) := by
  show GQ _ _ _ _ 0 [some (Rf 0), some (I x1), some (I x2), none, none, none] [] _ _
  unfold flushLiteral_M
  refine GQ.iloadN (pc' := 1) flushLiteral_d0 rfl rfl ?_
  refine GQ.ifT (pcT := 5) (pcF := 4) h_gt flushLiteral_d1 rfl rfl rfl ?_ ?_
  · refine GQ.aloadN (pc' := 6) flushLiteral_d5 rfl rfl ?_
    refine GQ.aloadN (pc' := 7) flushLiteral_d6 rfl rfl ?_
    refine GQ.getI (M := flushLiteral_I) (k := 51) (pc' := 10) rfl (wd192 hw) flushLiteral_d7 rfl ?_
    refine GQ.iconst (pc' := 11) flushLiteral_d10 rfl rfl ?_
    refine GQ.iloadN (pc' := 12) flushLiteral_d11 rfl rfl ?_
    refine GQ.iconst (pc' := 13) flushLiteral_d12 rfl rfl ?_
    refine GQ.isub (pc' := 14) flushLiteral_d13 rfl ?_
    refine GQ.bipush (pc' := 16) flushLiteral_d14 rfl rfl ?_
    refine GQ.iand (pc' := 17) flushLiteral_d16 rfl ?_
    refine GQ.ior (pc' := 18) flushLiteral_d17 rfl ?_
    refine GQ.callP (Mc := put8_I) (args0 := [I (s.1 51), I (aOr 0 (aAnd (aSub x2 1) 63))]) (S := []) (r := 0) (pc' := 21) (put8_K hw (by decide)) rfl flushLiteral_d18 rfl (wd188 hw) (wd189 hw) (wd190 hw) (wd1 hw) XA.recv rfl (put8_M_ok hw K (s.1 51) (aOr 0 (aAnd (aSub x2 1) 63)) s) rfl (fun _ s18 => ?_)
    show GQ (XA l Z n0 CN FF cv h0) flushLiteral_I _ _ 21 [some (Rf 0), some (I x1), some (I x2), none, none, none] [] s18 _
    refine GQ.aloadN (pc' := 22) flushLiteral_d21 rfl rfl ?_
    refine GQ.dupR (pc' := 23) flushLiteral_d22 rfl ?_
    refine GQ.getI (M := flushLiteral_I) (k := 51) (pc' := 26) rfl (wd192 hw) flushLiteral_d23 rfl ?_
    refine GQ.iconst (pc' := 27) flushLiteral_d26 rfl rfl ?_
    refine GQ.iadd (pc' := 28) flushLiteral_d27 rfl ?_
    refine GQ.putI (M := flushLiteral_I) (k := 51) (pc' := 31) K rfl (wd192 hw) (wd193 hw) flushLiteral_d28 rfl ?_
    refine GQ.letM (fun s28 => ?_)
    refine GQ.iconst (pc' := 32) flushLiteral_d31 rfl rfl ?_
    refine GQ.istoreN (L' := [some (Rf 0), some (I x1), some (I x2), some (I 0), none, none]) (pc' := 33) flushLiteral_d32 rfl rfl rfl ?_
    exact flushLiteral_l33_ok hw K x1 x2 FU 0 s28
  exact GQ.ret rfl flushLiteral_d4
def emitToken_I : Mi := (⟨"SquashImage", "emitToken", "(III)V"⟩, prog_1_method_30_code, 4, none, 1, 14)
theorem emitToken_d0 : decode emitToken_I.2.1 0 = .ok (.aload_n 0, 1) := by decide +kernel
theorem emitToken_d1 : decode emitToken_I.2.1 1 = .ok (.aload_n 0, 1) := by decide +kernel
theorem emitToken_d2 : decode emitToken_I.2.1 2 = .ok (.getfield 224, 3) := by decide +kernel
theorem emitToken_d5 : decode emitToken_I.2.1 5 = .ok (.iload_n 1, 1) := by decide +kernel
theorem emitToken_d6 : decode emitToken_I.2.1 6 = .ok (.bipush 6, 2) := by decide +kernel
theorem emitToken_d8 : decode emitToken_I.2.1 8 = .ok (.ishl, 1) := by decide +kernel
theorem emitToken_d9 : decode emitToken_I.2.1 9 = .ok (.iload_n 2, 1) := by decide +kernel
theorem emitToken_d10 : decode emitToken_I.2.1 10 = .ok (.iconst 1, 1) := by decide +kernel
theorem emitToken_d11 : decode emitToken_I.2.1 11 = .ok (.isub, 1) := by decide +kernel
theorem emitToken_d12 : decode emitToken_I.2.1 12 = .ok (.bipush 63, 2) := by decide +kernel
theorem emitToken_d14 : decode emitToken_I.2.1 14 = .ok (.iand, 1) := by decide +kernel
theorem emitToken_d15 : decode emitToken_I.2.1 15 = .ok (.ior, 1) := by decide +kernel
theorem emitToken_d16 : decode emitToken_I.2.1 16 = .ok (.invokevirtual 221, 3) := by decide +kernel
theorem emitToken_d19 : decode emitToken_I.2.1 19 = .ok (.aload_n 0, 1) := by decide +kernel
theorem emitToken_d20 : decode emitToken_I.2.1 20 = .ok (.aload_n 0, 1) := by decide +kernel
theorem emitToken_d21 : decode emitToken_I.2.1 21 = .ok (.getfield 224, 3) := by decide +kernel
theorem emitToken_d24 : decode emitToken_I.2.1 24 = .ok (.iconst 1, 1) := by decide +kernel
theorem emitToken_d25 : decode emitToken_I.2.1 25 = .ok (.iadd, 1) := by decide +kernel
theorem emitToken_d26 : decode emitToken_I.2.1 26 = .ok (.iload_n 3, 1) := by decide +kernel
theorem emitToken_d27 : decode emitToken_I.2.1 27 = .ok (.invokevirtual 221, 3) := by decide +kernel
theorem emitToken_d30 : decode emitToken_I.2.1 30 = .ok (.aload_n 0, 1) := by decide +kernel
theorem emitToken_d31 : decode emitToken_I.2.1 31 = .ok (.dup, 1) := by decide +kernel
theorem emitToken_d32 : decode emitToken_I.2.1 32 = .ok (.getfield 224, 3) := by decide +kernel
theorem emitToken_d35 : decode emitToken_I.2.1 35 = .ok (.iconst 2, 1) := by decide +kernel
theorem emitToken_d36 : decode emitToken_I.2.1 36 = .ok (.iadd, 1) := by decide +kernel
theorem emitToken_d37 : decode emitToken_I.2.1 37 = .ok (.putfield 224, 3) := by decide +kernel
theorem emitToken_d40 : decode emitToken_I.2.1 40 = .ok (.return_, 1) := by decide +kernel
theorem emitToken_p : parseMethodDescriptor emitToken_I.1.desc = some ⟨[.int, .int, .int], none⟩ := by decide +kernel
theorem emitToken_K {a0 : Array Value} {Z : State} {M : Mi} (hw : Words a0 Z) (h : emitToken_I.2.2.2.2.1 + 1 ≤ M.2.2.2.2.1) : Callee a0 Z M emitToken_I 3 := ⟨pnC, (wd301 hw), (wd2 hw), h, by decide, fun sig q => by cases emitToken_p.symm.trans q; rfl⟩
set_option maxRecDepth 65536 in
set_option maxHeartbeats 4000000 in
theorem emitToken_M_ok {l : Launch} {Z : State} {a0 : Array Value} {n0 : Nat} {cv : Nat → Nat} {h0 : Heap} (hw : Words a0 Z) (K : KA a0 Z n0 CN nI FF cv) (x1 : Int) (x2 : Int) (x3 : Int) (s : Obj) : GQ (XA l Z n0 CN FF cv h0) emitToken_I 0 0 0 (entry [Rf 0, I x1, I x2, I x3] emitToken_I.2.2.1) [] s (emitToken_M x1 x2 x3 s) := by
  show GQ _ _ _ _ 0 [some (Rf 0), some (I x1), some (I x2), some (I x3)] [] _ _
  unfold emitToken_M
  refine GQ.aloadN (pc' := 1) emitToken_d0 rfl rfl ?_
  refine GQ.aloadN (pc' := 2) emitToken_d1 rfl rfl ?_
  refine GQ.getI (M := emitToken_I) (k := 51) (pc' := 5) rfl (wd192 hw) emitToken_d2 rfl ?_
  refine GQ.iloadN (pc' := 6) emitToken_d5 rfl rfl ?_
  refine GQ.bipush (pc' := 8) emitToken_d6 rfl rfl ?_
  refine GQ.ishl (pc' := 9) emitToken_d8 rfl ?_
  refine GQ.iloadN (pc' := 10) emitToken_d9 rfl rfl ?_
  refine GQ.iconst (pc' := 11) emitToken_d10 rfl rfl ?_
  refine GQ.isub (pc' := 12) emitToken_d11 rfl ?_
  refine GQ.bipush (pc' := 14) emitToken_d12 rfl rfl ?_
  refine GQ.iand (pc' := 15) emitToken_d14 rfl ?_
  refine GQ.ior (pc' := 16) emitToken_d15 rfl ?_
  refine GQ.callP (Mc := put8_I) (args0 := [I (s.1 51), I (aOr (aShl x1 6) (aAnd (aSub x2 1) 63))]) (S := []) (r := 0) (pc' := 19) (put8_K hw (by decide)) rfl emitToken_d16 rfl (wd188 hw) (wd189 hw) (wd190 hw) (wd1 hw) XA.recv rfl (put8_M_ok hw K (s.1 51) (aOr (aShl x1 6) (aAnd (aSub x2 1) 63)) s) rfl (fun _ s16 => ?_)
  show GQ (XA l Z n0 CN FF cv h0) emitToken_I _ _ 19 [some (Rf 0), some (I x1), some (I x2), some (I x3)] [] s16 _
  refine GQ.aloadN (pc' := 20) emitToken_d19 rfl rfl ?_
  refine GQ.aloadN (pc' := 21) emitToken_d20 rfl rfl ?_
  refine GQ.getI (M := emitToken_I) (k := 51) (pc' := 24) rfl (wd192 hw) emitToken_d21 rfl ?_
  refine GQ.iconst (pc' := 25) emitToken_d24 rfl rfl ?_
  refine GQ.iadd (pc' := 26) emitToken_d25 rfl ?_
  refine GQ.iloadN (pc' := 27) emitToken_d26 rfl rfl ?_
  refine GQ.callP (Mc := put8_I) (args0 := [I (aAdd (s16.1 51) 1), I x3]) (S := []) (r := 0) (pc' := 30) (put8_K hw (by decide)) rfl emitToken_d27 rfl (wd188 hw) (wd189 hw) (wd190 hw) (wd1 hw) XA.recv rfl (put8_M_ok hw K (aAdd (s16.1 51) 1) x3 s16) rfl (fun _ s27 => ?_)
  show GQ (XA l Z n0 CN FF cv h0) emitToken_I _ _ 30 [some (Rf 0), some (I x1), some (I x2), some (I x3)] [] s27 _
  refine GQ.aloadN (pc' := 31) emitToken_d30 rfl rfl ?_
  refine GQ.dupR (pc' := 32) emitToken_d31 rfl ?_
  refine GQ.getI (M := emitToken_I) (k := 51) (pc' := 35) rfl (wd192 hw) emitToken_d32 rfl ?_
  refine GQ.iconst (pc' := 36) emitToken_d35 rfl rfl ?_
  refine GQ.iadd (pc' := 37) emitToken_d36 rfl ?_
  refine GQ.putI (M := emitToken_I) (k := 51) (pc' := 40) K rfl (wd192 hw) (wd193 hw) emitToken_d37 rfl ?_
  refine GQ.letM (fun s37 => ?_)
  exact GQ.ret rfl emitToken_d40
def compressBlock_I : Mi := (⟨"SquashImage", "compressBlock", "(I)I"⟩, prog_1_method_26_code, 10, (some .int), 2, 36)
theorem compressBlock_d0 : decode compressBlock_I.2.1 0 = .ok (.aload_n 0, 1) := by decide +kernel
theorem compressBlock_d1 : decode compressBlock_I.2.1 1 = .ok (.getfield 224, 3) := by decide +kernel
theorem compressBlock_d4 : decode compressBlock_I.2.1 4 = .ok (.istore_n 2, 1) := by decide +kernel
theorem compressBlock_d5 : decode compressBlock_I.2.1 5 = .ok (.iconst 0, 1) := by decide +kernel
theorem compressBlock_d6 : decode compressBlock_I.2.1 6 = .ok (.istore_n 3, 1) := by decide +kernel
theorem compressBlock_d7 : decode compressBlock_I.2.1 7 = .ok (.iconst 0, 1) := by decide +kernel
theorem compressBlock_d8 : decode compressBlock_I.2.1 8 = .ok (.istore 4, 2) := by decide +kernel
theorem compressBlock_d10 : decode compressBlock_I.2.1 10 = .ok (.iconst 0, 1) := by decide +kernel
theorem compressBlock_d11 : decode compressBlock_I.2.1 11 = .ok (.istore 5, 2) := by decide +kernel
theorem compressBlock_d13 : decode compressBlock_I.2.1 13 = .ok (.iconst 0, 1) := by decide +kernel
theorem compressBlock_d14 : decode compressBlock_I.2.1 14 = .ok (.istore 6, 2) := by decide +kernel
theorem compressBlock_d16 : decode compressBlock_I.2.1 16 = .ok (.iload 6, 2) := by decide +kernel
theorem compressBlock_d18 : decode compressBlock_I.2.1 18 = .ok (.bipush 32, 2) := by decide +kernel
theorem compressBlock_d20 : decode compressBlock_I.2.1 20 = .ok (.if_icmp .gt 144, 3) := by decide +kernel
theorem compressBlock_d23 : decode compressBlock_I.2.1 23 = .ok (.iload_n 3, 1) := by decide +kernel
theorem compressBlock_d24 : decode compressBlock_I.2.1 24 = .ok (.iload_n 1, 1) := by decide +kernel
theorem compressBlock_d25 : decode compressBlock_I.2.1 25 = .ok (.if_icmp .ge 139, 3) := by decide +kernel
theorem compressBlock_d28 : decode compressBlock_I.2.1 28 = .ok (.iload_n 3, 1) := by decide +kernel
theorem compressBlock_d29 : decode compressBlock_I.2.1 29 = .ok (.bipush 32, 2) := by decide +kernel
theorem compressBlock_d31 : decode compressBlock_I.2.1 31 = .ok (.if_icmp .ge 133, 3) := by decide +kernel
theorem compressBlock_d34 : decode compressBlock_I.2.1 34 = .ok (.aload_n 0, 1) := by decide +kernel
theorem compressBlock_d35 : decode compressBlock_I.2.1 35 = .ok (.iload_n 3, 1) := by decide +kernel
theorem compressBlock_d36 : decode compressBlock_I.2.1 36 = .ok (.iload_n 1, 1) := by decide +kernel
theorem compressBlock_d37 : decode compressBlock_I.2.1 37 = .ok (.invokevirtual 267, 3) := by decide +kernel
theorem compressBlock_d40 : decode compressBlock_I.2.1 40 = .ok (.istore 7, 2) := by decide +kernel
theorem compressBlock_d42 : decode compressBlock_I.2.1 42 = .ok (.aload_n 0, 1) := by decide +kernel
theorem compressBlock_d43 : decode compressBlock_I.2.1 43 = .ok (.iload_n 3, 1) := by decide +kernel
theorem compressBlock_d44 : decode compressBlock_I.2.1 44 = .ok (.iload_n 1, 1) := by decide +kernel
theorem compressBlock_d45 : decode compressBlock_I.2.1 45 = .ok (.invokevirtual 270, 3) := by decide +kernel
theorem compressBlock_d48 : decode compressBlock_I.2.1 48 = .ok (.istore 8, 2) := by decide +kernel
theorem compressBlock_d50 : decode compressBlock_I.2.1 50 = .ok (.aload_n 0, 1) := by decide +kernel
theorem compressBlock_d51 : decode compressBlock_I.2.1 51 = .ok (.getfield 273, 3) := by decide +kernel
theorem compressBlock_d54 : decode compressBlock_I.2.1 54 = .ok (.istore 9, 2) := by decide +kernel
theorem compressBlock_d56 : decode compressBlock_I.2.1 56 = .ok (.iload 8, 2) := by decide +kernel
theorem compressBlock_d58 : decode compressBlock_I.2.1 58 = .ok (.ifCond .le 44, 3) := by decide +kernel
theorem compressBlock_d61 : decode compressBlock_I.2.1 61 = .ok (.iload 9, 2) := by decide +kernel
theorem compressBlock_d63 : decode compressBlock_I.2.1 63 = .ok (.iconst 3, 1) := by decide +kernel
theorem compressBlock_d64 : decode compressBlock_I.2.1 64 = .ok (.if_icmp .lt 38, 3) := by decide +kernel
theorem compressBlock_d67 : decode compressBlock_I.2.1 67 = .ok (.iload 9, 2) := by decide +kernel
theorem compressBlock_d69 : decode compressBlock_I.2.1 69 = .ok (.iload 7, 2) := by decide +kernel
theorem compressBlock_d71 : decode compressBlock_I.2.1 71 = .ok (.if_icmp .le 31, 3) := by decide +kernel
theorem compressBlock_d74 : decode compressBlock_I.2.1 74 = .ok (.aload_n 0, 1) := by decide +kernel
theorem compressBlock_d75 : decode compressBlock_I.2.1 75 = .ok (.iload 4, 2) := by decide +kernel
theorem compressBlock_d77 : decode compressBlock_I.2.1 77 = .ok (.iload 5, 2) := by decide +kernel
theorem compressBlock_d79 : decode compressBlock_I.2.1 79 = .ok (.invokevirtual 276, 3) := by decide +kernel
theorem compressBlock_d82 : decode compressBlock_I.2.1 82 = .ok (.iconst 0, 1) := by decide +kernel
theorem compressBlock_d83 : decode compressBlock_I.2.1 83 = .ok (.istore 5, 2) := by decide +kernel
theorem compressBlock_d85 : decode compressBlock_I.2.1 85 = .ok (.aload_n 0, 1) := by decide +kernel
theorem compressBlock_d86 : decode compressBlock_I.2.1 86 = .ok (.iconst 2, 1) := by decide +kernel
theorem compressBlock_d87 : decode compressBlock_I.2.1 87 = .ok (.iload 9, 2) := by decide +kernel
theorem compressBlock_d89 : decode compressBlock_I.2.1 89 = .ok (.iload 8, 2) := by decide +kernel
theorem compressBlock_d91 : decode compressBlock_I.2.1 91 = .ok (.invokevirtual 279, 3) := by decide +kernel
theorem compressBlock_d94 : decode compressBlock_I.2.1 94 = .ok (.iload_n 3, 1) := by decide +kernel
theorem compressBlock_d95 : decode compressBlock_I.2.1 95 = .ok (.iload 9, 2) := by decide +kernel
theorem compressBlock_d97 : decode compressBlock_I.2.1 97 = .ok (.iadd, 1) := by decide +kernel
theorem compressBlock_d98 : decode compressBlock_I.2.1 98 = .ok (.istore_n 3, 1) := by decide +kernel
theorem compressBlock_d99 : decode compressBlock_I.2.1 99 = .ok (.goto 59, 3) := by decide +kernel
theorem compressBlock_d102 : decode compressBlock_I.2.1 102 = .ok (.iload 7, 2) := by decide +kernel
theorem compressBlock_d104 : decode compressBlock_I.2.1 104 = .ok (.iconst 3, 1) := by decide +kernel
theorem compressBlock_d105 : decode compressBlock_I.2.1 105 = .ok (.if_icmp .lt 39, 3) := by decide +kernel
theorem compressBlock_d108 : decode compressBlock_I.2.1 108 = .ok (.aload_n 0, 1) := by decide +kernel
theorem compressBlock_d109 : decode compressBlock_I.2.1 109 = .ok (.iload 4, 2) := by decide +kernel
theorem compressBlock_d111 : decode compressBlock_I.2.1 111 = .ok (.iload 5, 2) := by decide +kernel
theorem compressBlock_d113 : decode compressBlock_I.2.1 113 = .ok (.invokevirtual 276, 3) := by decide +kernel
theorem compressBlock_d116 : decode compressBlock_I.2.1 116 = .ok (.iconst 0, 1) := by decide +kernel
theorem compressBlock_d117 : decode compressBlock_I.2.1 117 = .ok (.istore 5, 2) := by decide +kernel
theorem compressBlock_d119 : decode compressBlock_I.2.1 119 = .ok (.aload_n 0, 1) := by decide +kernel
theorem compressBlock_d120 : decode compressBlock_I.2.1 120 = .ok (.iconst 1, 1) := by decide +kernel
theorem compressBlock_d121 : decode compressBlock_I.2.1 121 = .ok (.iload 7, 2) := by decide +kernel
theorem compressBlock_d123 : decode compressBlock_I.2.1 123 = .ok (.aload_n 0, 1) := by decide +kernel
theorem compressBlock_d124 : decode compressBlock_I.2.1 124 = .ok (.getfield 133, 3) := by decide +kernel
theorem compressBlock_d127 : decode compressBlock_I.2.1 127 = .ok (.iload_n 3, 1) := by decide +kernel
theorem compressBlock_d128 : decode compressBlock_I.2.1 128 = .ok (.baload, 1) := by decide +kernel
theorem compressBlock_d129 : decode compressBlock_I.2.1 129 = .ok (.sipush 255, 3) := by decide +kernel
theorem compressBlock_d132 : decode compressBlock_I.2.1 132 = .ok (.iand, 1) := by decide +kernel
theorem compressBlock_d133 : decode compressBlock_I.2.1 133 = .ok (.invokevirtual 279, 3) := by decide +kernel
theorem compressBlock_d136 : decode compressBlock_I.2.1 136 = .ok (.iload_n 3, 1) := by decide +kernel
theorem compressBlock_d137 : decode compressBlock_I.2.1 137 = .ok (.iload 7, 2) := by decide +kernel
theorem compressBlock_d139 : decode compressBlock_I.2.1 139 = .ok (.iadd, 1) := by decide +kernel
theorem compressBlock_d140 : decode compressBlock_I.2.1 140 = .ok (.istore_n 3, 1) := by decide +kernel
theorem compressBlock_d141 : decode compressBlock_I.2.1 141 = .ok (.goto 17, 3) := by decide +kernel
theorem compressBlock_d144 : decode compressBlock_I.2.1 144 = .ok (.iload 5, 2) := by decide +kernel
theorem compressBlock_d146 : decode compressBlock_I.2.1 146 = .ok (.ifCond .ne 6, 3) := by decide +kernel
theorem compressBlock_d149 : decode compressBlock_I.2.1 149 = .ok (.iload_n 3, 1) := by decide +kernel
theorem compressBlock_d150 : decode compressBlock_I.2.1 150 = .ok (.istore 4, 2) := by decide +kernel
theorem compressBlock_d152 : decode compressBlock_I.2.1 152 = .ok (.iinc 5 1, 3) := by decide +kernel
theorem compressBlock_d155 : decode compressBlock_I.2.1 155 = .ok (.iinc 3 1, 3) := by decide +kernel
theorem compressBlock_d158 : decode compressBlock_I.2.1 158 = .ok (.iinc 6 1, 3) := by decide +kernel
theorem compressBlock_d161 : decode compressBlock_I.2.1 161 = .ok (.goto (-145), 3) := by decide +kernel
theorem compressBlock_d164 : decode compressBlock_I.2.1 164 = .ok (.aload_n 0, 1) := by decide +kernel
theorem compressBlock_d165 : decode compressBlock_I.2.1 165 = .ok (.iload 4, 2) := by decide +kernel
theorem compressBlock_d167 : decode compressBlock_I.2.1 167 = .ok (.iload 5, 2) := by decide +kernel
theorem compressBlock_d169 : decode compressBlock_I.2.1 169 = .ok (.invokevirtual 276, 3) := by decide +kernel
theorem compressBlock_d172 : decode compressBlock_I.2.1 172 = .ok (.aload_n 0, 1) := by decide +kernel
theorem compressBlock_d173 : decode compressBlock_I.2.1 173 = .ok (.getfield 224, 3) := by decide +kernel
theorem compressBlock_d176 : decode compressBlock_I.2.1 176 = .ok (.iload_n 2, 1) := by decide +kernel
theorem compressBlock_d177 : decode compressBlock_I.2.1 177 = .ok (.isub, 1) := by decide +kernel
theorem compressBlock_d178 : decode compressBlock_I.2.1 178 = .ok (.ireturn, 1) := by decide +kernel
theorem compressBlock_p : parseMethodDescriptor compressBlock_I.1.desc = some ⟨[.int], (some .int)⟩ := by decide +kernel
theorem compressBlock_K {a0 : Array Value} {Z : State} {M : Mi} (hw : Words a0 Z) (h : compressBlock_I.2.2.2.2.1 + 1 ≤ M.2.2.2.2.1) : Callee a0 Z M compressBlock_I 1 := ⟨pnC, (wd253 hw), (wd2 hw), h, by decide, fun sig q => by cases compressBlock_p.symm.trans q; rfl⟩
set_option maxRecDepth 65536 in
set_option maxHeartbeats 4000000 in
theorem compressBlock_j158_ok {l : Launch} {Z : State} {a0 : Array Value} {n0 : Nat} {cv : Nat → Nat} {h0 : Heap} (hw : Words a0 Z) (K : KA a0 Z n0 CN nI FF cv) {x1 x2 : Int} {k164 : Int → Int → Obj → Option (Int × Obj)} {rec : Int → Int → Int → Int → Obj → Option (Int × Obj)} (hk164 : ∀ (x4 : Int) (x5 : Int) (s : Obj), GQ (XA l Z n0 CN FF cv h0) compressBlock_I 0 0 164 [some (Rf 0), none, some (I x2), none, some (I x4), some (I x5), none, none, none, none] [] s (k164 x4 x5 s)) (hrec : ∀ (x3 : Int) (x4 : Int) (x5 : Int) (x6 : Int) (s : Obj), GQ (XA l Z n0 CN FF cv h0) compressBlock_I 0 0 16 [some (Rf 0), some (I x1), some (I x2), some (I x3), some (I x4), some (I x5), some (I x6), none, none, none] [] s (rec x3 x4 x5 x6 s)) (x3 : Int) (x4 : Int) (x5 : Int) (x6 : Int) (s : Obj) : GQ (XA l Z n0 CN FF cv h0) compressBlock_I 0 0 158 [some (Rf 0), some (I x1), some (I x2), some (I x3), some (I x4), some (I x5), some (I x6), none, none, none] [] s (compressBlock_j158 k164 rec x1 x3 x4 x5 x6 s) := by
  unfold compressBlock_j158
  refine GQ.iinc (L' := [some (Rf 0), some (I x1), some (I x2), some (I x3), some (I x4), some (I x5), some (I (aAdd x6 1)), none, none, none]) (pc' := 161) compressBlock_d158 rfl rfl rfl rfl ?_
  refine GQ.goto (pc' := 16) compressBlock_d161 rfl rfl ?_
  exact hrec x3 x4 x5 (aAdd x6 1) s
set_option maxRecDepth 65536 in
set_option maxHeartbeats 4000000 in
theorem compressBlock_j152_ok {l : Launch} {Z : State} {a0 : Array Value} {n0 : Nat} {cv : Nat → Nat} {h0 : Heap} (hw : Words a0 Z) (K : KA a0 Z n0 CN nI FF cv) {x1 x2 : Int} {k164 : Int → Int → Obj → Option (Int × Obj)} {rec : Int → Int → Int → Int → Obj → Option (Int × Obj)} (hk164 : ∀ (x4 : Int) (x5 : Int) (s : Obj), GQ (XA l Z n0 CN FF cv h0) compressBlock_I 0 0 164 [some (Rf 0), none, some (I x2), none, some (I x4), some (I x5), none, none, none, none] [] s (k164 x4 x5 s)) (hrec : ∀ (x3 : Int) (x4 : Int) (x5 : Int) (x6 : Int) (s : Obj), GQ (XA l Z n0 CN FF cv h0) compressBlock_I 0 0 16 [some (Rf 0), some (I x1), some (I x2), some (I x3), some (I x4), some (I x5), some (I x6), none, none, none] [] s (rec x3 x4 x5 x6 s)) (x3 : Int) (x4 : Int) (x5 : Int) (x6 : Int) (s : Obj) : GQ (XA l Z n0 CN FF cv h0) compressBlock_I 0 0 152 [some (Rf 0), some (I x1), some (I x2), some (I x3), some (I x4), some (I x5), some (I x6), none, none, none] [] s (compressBlock_j152 k164 rec x1 x3 x4 x5 x6 s) := by
  unfold compressBlock_j152
  refine GQ.iinc (L' := [some (Rf 0), some (I x1), some (I x2), some (I x3), some (I x4), some (I (aAdd x5 1)), some (I x6), none, none, none]) (pc' := 155) compressBlock_d152 rfl rfl rfl rfl ?_
  refine GQ.iinc (L' := [some (Rf 0), some (I x1), some (I x2), some (I (aAdd x3 1)), some (I x4), some (I (aAdd x5 1)), some (I x6), none, none, none]) (pc' := 158) compressBlock_d155 rfl rfl rfl rfl ?_
  exact compressBlock_j158_ok hw K hk164 hrec (aAdd x3 1) x4 (aAdd x5 1) x6 s
set_option maxRecDepth 65536 in
set_option maxHeartbeats 4000000 in
theorem compressBlock_j102_ok {l : Launch} {Z : State} {a0 : Array Value} {n0 : Nat} {cv : Nat → Nat} {h0 : Heap} (hw : Words a0 Z) (K : KA a0 Z n0 CN nI FF cv) {x1 x2 : Int} {k164 : Int → Int → Obj → Option (Int × Obj)} {rec : Int → Int → Int → Int → Obj → Option (Int × Obj)} (hk164 : ∀ (x4 : Int) (x5 : Int) (s : Obj), GQ (XA l Z n0 CN FF cv h0) compressBlock_I 0 0 164 [some (Rf 0), none, some (I x2), none, some (I x4), some (I x5), none, none, none, none] [] s (k164 x4 x5 s)) (hrec : ∀ (x3 : Int) (x4 : Int) (x5 : Int) (x6 : Int) (s : Obj), GQ (XA l Z n0 CN FF cv h0) compressBlock_I 0 0 16 [some (Rf 0), some (I x1), some (I x2), some (I x3), some (I x4), some (I x5), some (I x6), none, none, none] [] s (rec x3 x4 x5 x6 s)) (x3 : Int) (x4 : Int) (x5 : Int) (x6 : Int) (x7 : Int) (s : Obj) : GQ (XA l Z n0 CN FF cv h0) compressBlock_I 0 0 102 [some (Rf 0), some (I x1), some (I x2), some (I x3), some (I x4), some (I x5), some (I x6), some (I x7), none, none] [] s (compressBlock_j102 k164 rec x1 x3 x4 x5 x6 x7 s) := by
  unfold compressBlock_j102
  refine GQ.iload (pc' := 104) compressBlock_d102 rfl rfl ?_
  refine GQ.iconst (pc' := 105) compressBlock_d104 rfl rfl ?_
  refine GQ.icmpT (pcT := 144) (pcF := 108) h_lt compressBlock_d105 rfl rfl rfl ?_ ?_
  · refine GQ.iload (pc' := 146) compressBlock_d144 rfl rfl ?_
    refine GQ.ifF (pcT := 152) (pcF := 149) h_ne compressBlock_d146 rfl rfl rfl ?_ ?_
    · refine GQ.weak (L' := [some (Rf 0), some (I x1), some (I x2), some (I x3), some (I x4), some (I x5), some (I x6), none, none, none]) (Sub.keep (Sub.keep (Sub.keep (Sub.keep (Sub.keep (Sub.keep (Sub.keep (Sub.drop (Sub.keep (Sub.keep Sub.nil)))))))))) ?_
      exact compressBlock_j152_ok hw K hk164 hrec x3 x4 x5 x6 s
    refine GQ.iloadN (pc' := 150) compressBlock_d149 rfl rfl ?_
    refine GQ.istore (L' := [some (Rf 0), some (I x1), some (I x2), some (I x3), some (I x3), some (I x5), some (I x6), some (I x7), none, none]) (pc' := 152) compressBlock_d150 rfl rfl rfl ?_
    refine GQ.weak (L' := [some (Rf 0), some (I x1), some (I x2), some (I x3), some (I x3), some (I x5), some (I x6), none, none, none]) (Sub.keep (Sub.keep (Sub.keep (Sub.keep (Sub.keep (Sub.keep (Sub.keep (Sub.drop (Sub.keep (Sub.keep Sub.nil)))))))))) ?_
    exact compressBlock_j152_ok hw K hk164 hrec x3 x3 x5 x6 s
  refine GQ.aloadN (pc' := 109) compressBlock_d108 rfl rfl ?_
  refine GQ.iload (pc' := 111) compressBlock_d109 rfl rfl ?_
  refine GQ.iload (pc' := 113) compressBlock_d111 rfl rfl ?_
  refine GQ.callP (Mc := flushLiteral_I) (args0 := [I x4, I x5]) (S := []) (r := 0) (pc' := 116) (flushLiteral_K hw (by decide)) rfl compressBlock_d113 rfl (wd268 hw) (wd269 hw) (wd270 hw) (wd1 hw) XA.recv rfl (flushLiteral_M_ok hw K x4 x5 s) rfl (fun _ s113 => ?_)
  show GQ (XA l Z n0 CN FF cv h0) compressBlock_I _ _ 116 [some (Rf 0), some (I x1), some (I x2), some (I x3), some (I x4), some (I x5), some (I x6), some (I x7), none, none] [] s113 _
  refine GQ.iconst (pc' := 117) compressBlock_d116 rfl rfl ?_
  refine GQ.istore (L' := [some (Rf 0), some (I x1), some (I x2), some (I x3), some (I x4), some (I 0), some (I x6), some (I x7), none, none]) (pc' := 119) compressBlock_d117 rfl rfl rfl ?_
  refine GQ.aloadN (pc' := 120) compressBlock_d119 rfl rfl ?_
  refine GQ.iconst (pc' := 121) compressBlock_d120 rfl rfl ?_
  refine GQ.iload (pc' := 123) compressBlock_d121 rfl rfl ?_
  refine GQ.aloadN (pc' := 124) compressBlock_d123 rfl rfl ?_
  refine GQ.getA (M := compressBlock_I) (k := 48) (pc' := 127) rfl (by decide) (wd92 hw) compressBlock_d124 rfl ?_
  refine GQ.iloadN (pc' := 128) compressBlock_d127 rfl rfl ?_
  refine GQ.rd (k := 48) (ins := .baload) (pc' := 129) rfl (by decide) (Or.inr (Or.inl ⟨rfl, rfl⟩)) compressBlock_d128 rfl (fun z128 => ?_)
  refine GQ.sipush (pc' := 132) compressBlock_d129 rfl rfl ?_
  refine GQ.iand (pc' := 133) compressBlock_d132 rfl ?_
  refine GQ.callP (Mc := emitToken_I) (args0 := [I 1, I x7, I (aAnd z128 255)]) (S := []) (r := 0) (pc' := 136) (emitToken_K hw (by decide)) rfl compressBlock_d133 rfl (wd298 hw) (wd299 hw) (wd300 hw) (wd1 hw) XA.recv rfl (emitToken_M_ok hw K 1 x7 (aAnd z128 255) s113) rfl (fun _ s133 => ?_)
  show GQ (XA l Z n0 CN FF cv h0) compressBlock_I _ _ 136 [some (Rf 0), some (I x1), some (I x2), some (I x3), some (I x4), some (I 0), some (I x6), some (I x7), none, none] [] s133 _
  refine GQ.iloadN (pc' := 137) compressBlock_d136 rfl rfl ?_
  refine GQ.iload (pc' := 139) compressBlock_d137 rfl rfl ?_
  refine GQ.iadd (pc' := 140) compressBlock_d139 rfl ?_
  refine GQ.letI (fun x3_140 => ?_)
  refine GQ.istoreN (L' := [some (Rf 0), some (I x1), some (I x2), some (I x3_140), some (I x4), some (I 0), some (I x6), some (I x7), none, none]) (pc' := 141) compressBlock_d140 rfl rfl rfl ?_
  refine GQ.goto (pc' := 158) compressBlock_d141 rfl rfl ?_
  refine GQ.weak (L' := [some (Rf 0), some (I x1), some (I x2), some (I x3_140), some (I x4), some (I 0), some (I x6), none, none, none]) (Sub.keep (Sub.keep (Sub.keep (Sub.keep (Sub.keep (Sub.keep (Sub.keep (Sub.drop (Sub.keep (Sub.keep Sub.nil)))))))))) ?_
  exact compressBlock_j158_ok hw K hk164 hrec x3_140 x4 0 x6 s133
set_option maxRecDepth 65536 in
set_option maxHeartbeats 4000000 in
theorem compressBlock_l16b_ok {l : Launch} {Z : State} {a0 : Array Value} {n0 : Nat} {cv : Nat → Nat} {h0 : Heap} (hw : Words a0 Z) (K : KA a0 Z n0 CN nI FF cv) (x1 : Int) (x2 : Int) {k164 : Int → Int → Obj → Option (Int × Obj)} (hk164 : ∀ (x4 : Int) (x5 : Int) (s : Obj), GQ (XA l Z n0 CN FF cv h0) compressBlock_I 0 0 164 [some (Rf 0), none, some (I x2), none, some (I x4), some (I x5), none, none, none, none] [] s (k164 x4 x5 s)) {rec : Int → Int → Int → Int → Obj → Option (Int × Obj)} (hrec : ∀ (x3 : Int) (x4 : Int) (x5 : Int) (x6 : Int) (s : Obj), GQ (XA l Z n0 CN FF cv h0) compressBlock_I 0 0 16 [some (Rf 0), some (I x1), some (I x2), some (I x3), some (I x4), some (I x5), some (I x6), none, none, none] [] s (rec x3 x4 x5 x6 s)) (x3 : Int) (x4 : Int) (x5 : Int) (x6 : Int) (s : Obj) : GQ (XA l Z n0 CN FF cv h0) compressBlock_I 0 0 16 [some (Rf 0), some (I x1), some (I x2), some (I x3), some (I x4), some (I x5), some (I x6), none, none, none] [] s (compressBlock_l16b k164 x1 rec x3 x4 x5 x6 s) := by
  unfold compressBlock_l16b
  refine GQ.iload (pc' := 18) compressBlock_d16 rfl rfl ?_
  refine GQ.bipush (pc' := 20) compressBlock_d18 rfl rfl ?_
  refine GQ.icmpT (pcT := 164) (pcF := 23) h_gt compressBlock_d20 rfl rfl rfl ?_ ?_
  · refine GQ.weak (L' := [some (Rf 0), none, some (I x2), none, some (I x4), some (I x5), none, none, none, none]) (Sub.keep (Sub.drop (Sub.keep (Sub.drop (Sub.keep (Sub.keep (Sub.drop (Sub.keep (Sub.keep (Sub.keep Sub.nil)))))))))) ?_
    exact hk164 x4 x5 s
  refine GQ.iloadN (pc' := 24) compressBlock_d23 rfl rfl ?_
  refine GQ.iloadN (pc' := 25) compressBlock_d24 rfl rfl ?_
  refine GQ.icmpF (pcT := 164) (pcF := 28) h_ge compressBlock_d25 rfl rfl rfl ?_ ?_
  · refine GQ.weak (L' := [some (Rf 0), none, some (I x2), none, some (I x4), some (I x5), none, none, none, none]) (Sub.keep (Sub.drop (Sub.keep (Sub.drop (Sub.keep (Sub.keep (Sub.drop (Sub.keep (Sub.keep (Sub.keep Sub.nil)))))))))) ?_
    exact hk164 x4 x5 s
  refine GQ.iloadN (pc' := 29) compressBlock_d28 rfl rfl ?_
  refine GQ.bipush (pc' := 31) compressBlock_d29 rfl rfl ?_
  refine GQ.icmpF (pcT := 164) (pcF := 34) h_ge compressBlock_d31 rfl rfl rfl ?_ ?_
  · refine GQ.weak (L' := [some (Rf 0), none, some (I x2), none, some (I x4), some (I x5), none, none, none, none]) (Sub.keep (Sub.drop (Sub.keep (Sub.drop (Sub.keep (Sub.keep (Sub.drop (Sub.keep (Sub.keep (Sub.keep Sub.nil)))))))))) ?_
    exact hk164 x4 x5 s
  refine GQ.aloadN (pc' := 35) compressBlock_d34 rfl rfl ?_
  refine GQ.iloadN (pc' := 36) compressBlock_d35 rfl rfl ?_
  refine GQ.iloadN (pc' := 37) compressBlock_d36 rfl rfl ?_
  refine GQ.callP (Mc := runLength_I) (args0 := [I x3, I x1]) (S := []) (r := 0) (pc' := 40) (runLength_K hw (by decide)) rfl compressBlock_d37 rfl (wd254 hw) (wd255 hw) (wd256 hw) (wd1 hw) XA.recv rfl (runLength_M_ok hw K x3 x1 s) rfl (fun z37 s37 => ?_)
  show GQ (XA l Z n0 CN FF cv h0) compressBlock_I _ _ 40 [some (Rf 0), some (I x1), some (I x2), some (I x3), some (I x4), some (I x5), some (I x6), none, none, none] [I z37] s37 _
  refine GQ.istore (L' := [some (Rf 0), some (I x1), some (I x2), some (I x3), some (I x4), some (I x5), some (I x6), some (I z37), none, none]) (pc' := 42) compressBlock_d40 rfl rfl rfl ?_
  refine GQ.aloadN (pc' := 43) compressBlock_d42 rfl rfl ?_
  refine GQ.iloadN (pc' := 44) compressBlock_d43 rfl rfl ?_
  refine GQ.iloadN (pc' := 45) compressBlock_d44 rfl rfl ?_
  refine GQ.callP (Mc := bestDistance_I) (args0 := [I x3, I x1]) (S := []) (r := 0) (pc' := 48) (bestDistance_K hw (by decide)) rfl compressBlock_d45 rfl (wd258 hw) (wd259 hw) (wd260 hw) (wd1 hw) XA.recv rfl (bestDistance_M_ok hw K x3 x1 s37) rfl (fun z45 s45 => ?_)
  show GQ (XA l Z n0 CN FF cv h0) compressBlock_I _ _ 48 [some (Rf 0), some (I x1), some (I x2), some (I x3), some (I x4), some (I x5), some (I x6), some (I z37), none, none] [I z45] s45 _
  refine GQ.istore (L' := [some (Rf 0), some (I x1), some (I x2), some (I x3), some (I x4), some (I x5), some (I x6), some (I z37), some (I z45), none]) (pc' := 50) compressBlock_d48 rfl rfl rfl ?_
  refine GQ.aloadN (pc' := 51) compressBlock_d50 rfl rfl ?_
  refine GQ.getI (M := compressBlock_I) (k := 54) (pc' := 54) rfl (wd262 hw) compressBlock_d51 rfl ?_
  refine GQ.letI (fun x9_54 => ?_)
  refine GQ.istore (L' := [some (Rf 0), some (I x1), some (I x2), some (I x3), some (I x4), some (I x5), some (I x6), some (I z37), some (I z45), some (I x9_54)]) (pc' := 56) compressBlock_d54 rfl rfl rfl ?_
  refine GQ.iload (pc' := 58) compressBlock_d56 rfl rfl ?_
  refine GQ.ifF (pcT := 102) (pcF := 61) h_le compressBlock_d58 rfl rfl rfl ?_ ?_
  · refine GQ.weak (L' := [some (Rf 0), some (I x1), some (I x2), some (I x3), some (I x4), some (I x5), some (I x6), some (I z37), none, none]) (Sub.keep (Sub.keep (Sub.keep (Sub.keep (Sub.keep (Sub.keep (Sub.keep (Sub.keep (Sub.drop (Sub.drop Sub.nil)))))))))) ?_
    exact compressBlock_j102_ok hw K hk164 hrec x3 x4 x5 x6 z37 s45
  refine GQ.iload (pc' := 63) compressBlock_d61 rfl rfl ?_
  refine GQ.iconst (pc' := 64) compressBlock_d63 rfl rfl ?_
  refine GQ.icmpT (pcT := 102) (pcF := 67) h_lt compressBlock_d64 rfl rfl rfl ?_ ?_
  · refine GQ.weak (L' := [some (Rf 0), some (I x1), some (I x2), some (I x3), some (I x4), some (I x5), some (I x6), some (I z37), none, none]) (Sub.keep (Sub.keep (Sub.keep (Sub.keep (Sub.keep (Sub.keep (Sub.keep (Sub.keep (Sub.drop (Sub.drop Sub.nil)))))))))) ?_
    exact compressBlock_j102_ok hw K hk164 hrec x3 x4 x5 x6 z37 s45
  refine GQ.iload (pc' := 69) compressBlock_d67 rfl rfl ?_
  refine GQ.iload (pc' := 71) compressBlock_d69 rfl rfl ?_
  refine GQ.icmpF (pcT := 102) (pcF := 74) h_le compressBlock_d71 rfl rfl rfl ?_ ?_
  · refine GQ.weak (L' := [some (Rf 0), some (I x1), some (I x2), some (I x3), some (I x4), some (I x5), some (I x6), some (I z37), none, none]) (Sub.keep (Sub.keep (Sub.keep (Sub.keep (Sub.keep (Sub.keep (Sub.keep (Sub.keep (Sub.drop (Sub.drop Sub.nil)))))))))) ?_
    exact compressBlock_j102_ok hw K hk164 hrec x3 x4 x5 x6 z37 s45
  refine GQ.aloadN (pc' := 75) compressBlock_d74 rfl rfl ?_
  refine GQ.iload (pc' := 77) compressBlock_d75 rfl rfl ?_
  refine GQ.iload (pc' := 79) compressBlock_d77 rfl rfl ?_
  refine GQ.callP (Mc := flushLiteral_I) (args0 := [I x4, I x5]) (S := []) (r := 0) (pc' := 82) (flushLiteral_K hw (by decide)) rfl compressBlock_d79 rfl (wd268 hw) (wd269 hw) (wd270 hw) (wd1 hw) XA.recv rfl (flushLiteral_M_ok hw K x4 x5 s45) rfl (fun _ s79 => ?_)
  show GQ (XA l Z n0 CN FF cv h0) compressBlock_I _ _ 82 [some (Rf 0), some (I x1), some (I x2), some (I x3), some (I x4), some (I x5), some (I x6), some (I z37), some (I z45), some (I x9_54)] [] s79 _
  refine GQ.iconst (pc' := 83) compressBlock_d82 rfl rfl ?_
  refine GQ.istore (L' := [some (Rf 0), some (I x1), some (I x2), some (I x3), some (I x4), some (I 0), some (I x6), some (I z37), some (I z45), some (I x9_54)]) (pc' := 85) compressBlock_d83 rfl rfl rfl ?_
  refine GQ.aloadN (pc' := 86) compressBlock_d85 rfl rfl ?_
  refine GQ.iconst (pc' := 87) compressBlock_d86 rfl rfl ?_
  refine GQ.iload (pc' := 89) compressBlock_d87 rfl rfl ?_
  refine GQ.iload (pc' := 91) compressBlock_d89 rfl rfl ?_
  refine GQ.callP (Mc := emitToken_I) (args0 := [I 2, I x9_54, I z45]) (S := []) (r := 0) (pc' := 94) (emitToken_K hw (by decide)) rfl compressBlock_d91 rfl (wd298 hw) (wd299 hw) (wd300 hw) (wd1 hw) XA.recv rfl (emitToken_M_ok hw K 2 x9_54 z45 s79) rfl (fun _ s91 => ?_)
  show GQ (XA l Z n0 CN FF cv h0) compressBlock_I _ _ 94 [some (Rf 0), some (I x1), some (I x2), some (I x3), some (I x4), some (I 0), some (I x6), some (I z37), some (I z45), some (I x9_54)] [] s91 _
  refine GQ.iloadN (pc' := 95) compressBlock_d94 rfl rfl ?_
  refine GQ.iload (pc' := 97) compressBlock_d95 rfl rfl ?_
  refine GQ.iadd (pc' := 98) compressBlock_d97 rfl ?_
  refine GQ.letI (fun x3_98 => ?_)
  refine GQ.istoreN (L' := [some (Rf 0), some (I x1), some (I x2), some (I x3_98), some (I x4), some (I 0), some (I x6), some (I z37), some (I z45), some (I x9_54)]) (pc' := 99) compressBlock_d98 rfl rfl rfl ?_
  refine GQ.goto (pc' := 158) compressBlock_d99 rfl rfl ?_
  refine GQ.weak (L' := [some (Rf 0), some (I x1), some (I x2), some (I x3_98), some (I x4), some (I 0), some (I x6), none, none, none]) (Sub.keep (Sub.keep (Sub.keep (Sub.keep (Sub.keep (Sub.keep (Sub.keep (Sub.drop (Sub.drop (Sub.drop Sub.nil)))))))))) ?_
  exact compressBlock_j158_ok hw K hk164 hrec x3_98 x4 0 x6 s91
set_option maxRecDepth 65536 in
set_option maxHeartbeats 4000000 in
theorem compressBlock_l16_ok {l : Launch} {Z : State} {a0 : Array Value} {n0 : Nat} {cv : Nat → Nat} {h0 : Heap} (hw : Words a0 Z) (K : KA a0 Z n0 CN nI FF cv) (x1 : Int) (x2 : Int) {k164 : Int → Int → Obj → Option (Int × Obj)} (hk164 : ∀ (x4 : Int) (x5 : Int) (s : Obj), GQ (XA l Z n0 CN FF cv h0) compressBlock_I 0 0 164 [some (Rf 0), none, some (I x2), none, some (I x4), some (I x5), none, none, none, none] [] s (k164 x4 x5 s)) : ∀ (fu : Nat) (x3 : Int) (x4 : Int) (x5 : Int) (x6 : Int) (s : Obj), GQ (XA l Z n0 CN FF cv h0) compressBlock_I 0 0 16 [some (Rf 0), some (I x1), some (I x2), some (I x3), some (I x4), some (I x5), some (I x6), none, none, none] [] s (compressBlock_l16 k164 x1 fu x3 x4 x5 x6 s)
  | 0 => fun _ _ _ _ _ => GQ.no
  | fu + 1 => compressBlock_l16b_ok hw K x1 x2 hk164 (compressBlock_l16_ok hw K x1 x2 hk164 fu)
set_option maxRecDepth 65536 in
set_option maxHeartbeats 4000000 in
theorem compressBlock_j164_ok {l : Launch} {Z : State} {a0 : Array Value} {n0 : Nat} {cv : Nat → Nat} {h0 : Heap} (hw : Words a0 Z) (K : KA a0 Z n0 CN nI FF cv) (x2 : Int) (x4 : Int) (x5 : Int) (s : Obj) : GQ (XA l Z n0 CN FF cv h0) compressBlock_I 0 0 164 [some (Rf 0), none, some (I x2), none, some (I x4), some (I x5), none, none, none, none] [] s (compressBlock_j164 x2 x4 x5 s) := by
  unfold compressBlock_j164
  refine GQ.aloadN (pc' := 165) compressBlock_d164 rfl rfl ?_
  refine GQ.iload (pc' := 167) compressBlock_d165 rfl rfl ?_
  refine GQ.iload (pc' := 169) compressBlock_d167 rfl rfl ?_
  refine GQ.callP (Mc := flushLiteral_I) (args0 := [I x4, I x5]) (S := []) (r := 0) (pc' := 172) (flushLiteral_K hw (by decide)) rfl compressBlock_d169 rfl (wd268 hw) (wd269 hw) (wd270 hw) (wd1 hw) XA.recv rfl (flushLiteral_M_ok hw K x4 x5 s) rfl (fun _ s169 => ?_)
  show GQ (XA l Z n0 CN FF cv h0) compressBlock_I _ _ 172 [some (Rf 0), none, some (I x2), none, some (I x4), some (I x5), none, none, none, none] [] s169 _
  refine GQ.aloadN (pc' := 173) compressBlock_d172 rfl rfl ?_
  refine GQ.getI (M := compressBlock_I) (k := 51) (pc' := 176) rfl (wd192 hw) compressBlock_d173 rfl ?_
  refine GQ.iloadN (pc' := 177) compressBlock_d176 rfl rfl ?_
  refine GQ.isub (pc' := 178) compressBlock_d177 rfl ?_
  exact GQ.iret rfl compressBlock_d178
set_option maxRecDepth 65536 in
set_option maxHeartbeats 4000000 in
theorem compressBlock_M_ok {l : Launch} {Z : State} {a0 : Array Value} {n0 : Nat} {cv : Nat → Nat} {h0 : Heap} (hw : Words a0 Z) (K : KA a0 Z n0 CN nI FF cv) (x1 : Int) (s : Obj) : GQ (XA l Z n0 CN FF cv h0) compressBlock_I 0 0 0 (entry [Rf 0, I x1] compressBlock_I.2.2.1) [] s (compressBlock_M x1 s) := by
  show GQ _ _ _ _ 0 [some (Rf 0), some (I x1), none, none, none, none, none, none, none, none] [] _ _
  unfold compressBlock_M
  refine GQ.aloadN (pc' := 1) compressBlock_d0 rfl rfl ?_
  refine GQ.getI (M := compressBlock_I) (k := 51) (pc' := 4) rfl (wd192 hw) compressBlock_d1 rfl ?_
  refine GQ.letI (fun x2_4 => ?_)
  refine GQ.istoreN (L' := [some (Rf 0), some (I x1), some (I x2_4), none, none, none, none, none, none, none]) (pc' := 5) compressBlock_d4 rfl rfl rfl ?_
  refine GQ.iconst (pc' := 6) compressBlock_d5 rfl rfl ?_
  refine GQ.istoreN (L' := [some (Rf 0), some (I x1), some (I x2_4), some (I 0), none, none, none, none, none, none]) (pc' := 7) compressBlock_d6 rfl rfl rfl ?_
  refine GQ.iconst (pc' := 8) compressBlock_d7 rfl rfl ?_
  refine GQ.istore (L' := [some (Rf 0), some (I x1), some (I x2_4), some (I 0), some (I 0), none, none, none, none, none]) (pc' := 10) compressBlock_d8 rfl rfl rfl ?_
  refine GQ.iconst (pc' := 11) compressBlock_d10 rfl rfl ?_
  refine GQ.istore (L' := [some (Rf 0), some (I x1), some (I x2_4), some (I 0), some (I 0), some (I 0), none, none, none, none]) (pc' := 13) compressBlock_d11 rfl rfl rfl ?_
  refine GQ.iconst (pc' := 14) compressBlock_d13 rfl rfl ?_
  refine GQ.istore (L' := [some (Rf 0), some (I x1), some (I x2_4), some (I 0), some (I 0), some (I 0), some (I 0), none, none, none]) (pc' := 16) compressBlock_d14 rfl rfl rfl ?_
  refine compressBlock_l16_ok hw K x1 x2_4 (fun x4_164 x5_164 s164 => ?_) FU 0 0 0 0 s
  exact compressBlock_j164_ok hw K x2_4 x4_164 x5_164 s164
def emitBlock_I : Mi := (⟨"SquashImage", "emitBlock", "(I)V"⟩, prog_1_method_20_code, 5, none, 3, 57)
theorem emitBlock_d0 : decode emitBlock_I.2.1 0 = .ok (.aload_n 0, 1) := by decide +kernel
theorem emitBlock_d1 : decode emitBlock_I.2.1 1 = .ok (.getfield 224, 3) := by decide +kernel
theorem emitBlock_d4 : decode emitBlock_I.2.1 4 = .ok (.istore_n 2, 1) := by decide +kernel
theorem emitBlock_d5 : decode emitBlock_I.2.1 5 = .ok (.aload_n 0, 1) := by decide +kernel
theorem emitBlock_d6 : decode emitBlock_I.2.1 6 = .ok (.iload_n 1, 1) := by decide +kernel
theorem emitBlock_d7 : decode emitBlock_I.2.1 7 = .ok (.invokevirtual 249, 3) := by decide +kernel
theorem emitBlock_d10 : decode emitBlock_I.2.1 10 = .ok (.istore_n 3, 1) := by decide +kernel
theorem emitBlock_d11 : decode emitBlock_I.2.1 11 = .ok (.aload_n 0, 1) := by decide +kernel
theorem emitBlock_d12 : decode emitBlock_I.2.1 12 = .ok (.iconst 2, 1) := by decide +kernel
theorem emitBlock_d13 : decode emitBlock_I.2.1 13 = .ok (.invokevirtual 252, 3) := by decide +kernel
theorem emitBlock_d16 : decode emitBlock_I.2.1 16 = .ok (.iconst 4, 1) := by decide +kernel
theorem emitBlock_d17 : decode emitBlock_I.2.1 17 = .ok (.aload_n 0, 1) := by decide +kernel
theorem emitBlock_d18 : decode emitBlock_I.2.1 18 = .ok (.getfield 205, 3) := by decide +kernel
theorem emitBlock_d21 : decode emitBlock_I.2.1 21 = .ok (.imul, 1) := by decide +kernel
theorem emitBlock_d22 : decode emitBlock_I.2.1 22 = .ok (.iadd, 1) := by decide +kernel
theorem emitBlock_d23 : decode emitBlock_I.2.1 23 = .ok (.istore 4, 2) := by decide +kernel
theorem emitBlock_d25 : decode emitBlock_I.2.1 25 = .ok (.aload_n 0, 1) := by decide +kernel
theorem emitBlock_d26 : decode emitBlock_I.2.1 26 = .ok (.iload 4, 2) := by decide +kernel
theorem emitBlock_d28 : decode emitBlock_I.2.1 28 = .ok (.iload_n 2, 1) := by decide +kernel
theorem emitBlock_d29 : decode emitBlock_I.2.1 29 = .ok (.invokevirtual 218, 3) := by decide +kernel
theorem emitBlock_d32 : decode emitBlock_I.2.1 32 = .ok (.aload_n 0, 1) := by decide +kernel
theorem emitBlock_d33 : decode emitBlock_I.2.1 33 = .ok (.iload 4, 2) := by decide +kernel
theorem emitBlock_d35 : decode emitBlock_I.2.1 35 = .ok (.iconst 2, 1) := by decide +kernel
theorem emitBlock_d36 : decode emitBlock_I.2.1 36 = .ok (.iadd, 1) := by decide +kernel
theorem emitBlock_d37 : decode emitBlock_I.2.1 37 = .ok (.iload_n 3, 1) := by decide +kernel
theorem emitBlock_d38 : decode emitBlock_I.2.1 38 = .ok (.invokevirtual 221, 3) := by decide +kernel
theorem emitBlock_d41 : decode emitBlock_I.2.1 41 = .ok (.aload_n 0, 1) := by decide +kernel
theorem emitBlock_d42 : decode emitBlock_I.2.1 42 = .ok (.iload 4, 2) := by decide +kernel
theorem emitBlock_d44 : decode emitBlock_I.2.1 44 = .ok (.iconst 3, 1) := by decide +kernel
theorem emitBlock_d45 : decode emitBlock_I.2.1 45 = .ok (.iadd, 1) := by decide +kernel
theorem emitBlock_d46 : decode emitBlock_I.2.1 46 = .ok (.iload_n 1, 1) := by decide +kernel
theorem emitBlock_d47 : decode emitBlock_I.2.1 47 = .ok (.invokevirtual 221, 3) := by decide +kernel
theorem emitBlock_d50 : decode emitBlock_I.2.1 50 = .ok (.aload_n 0, 1) := by decide +kernel
theorem emitBlock_d51 : decode emitBlock_I.2.1 51 = .ok (.dup, 1) := by decide +kernel
theorem emitBlock_d52 : decode emitBlock_I.2.1 52 = .ok (.getfield 205, 3) := by decide +kernel
theorem emitBlock_d55 : decode emitBlock_I.2.1 55 = .ok (.iconst 1, 1) := by decide +kernel
theorem emitBlock_d56 : decode emitBlock_I.2.1 56 = .ok (.iadd, 1) := by decide +kernel
theorem emitBlock_d57 : decode emitBlock_I.2.1 57 = .ok (.putfield 205, 3) := by decide +kernel
theorem emitBlock_d60 : decode emitBlock_I.2.1 60 = .ok (.return_, 1) := by decide +kernel
theorem emitBlock_p : parseMethodDescriptor emitBlock_I.1.desc = some ⟨[.int], none⟩ := by decide +kernel
theorem emitBlock_K {a0 : Array Value} {Z : State} {M : Mi} (hw : Words a0 Z) (h : emitBlock_I.2.2.2.2.1 + 1 ≤ M.2.2.2.2.1) : Callee a0 Z M emitBlock_I 1 := ⟨pnC, (wd249 hw), (wd2 hw), h, by decide, fun sig q => by cases emitBlock_p.symm.trans q; rfl⟩
set_option maxRecDepth 65536 in
set_option maxHeartbeats 4000000 in
theorem emitBlock_M_ok {l : Launch} {Z : State} {a0 : Array Value} {n0 : Nat} {cv : Nat → Nat} {h0 : Heap} (hw : Words a0 Z) (K : KA a0 Z n0 CN nI FF cv) (x1 : Int) (s : Obj) : GQ (XA l Z n0 CN FF cv h0) emitBlock_I 0 0 0 (entry [Rf 0, I x1] emitBlock_I.2.2.1) [] s (emitBlock_M x1 s) := by
  show GQ _ _ _ _ 0 [some (Rf 0), some (I x1), none, none, none] [] _ _
  unfold emitBlock_M
  refine GQ.aloadN (pc' := 1) emitBlock_d0 rfl rfl ?_
  refine GQ.getI (M := emitBlock_I) (k := 51) (pc' := 4) rfl (wd192 hw) emitBlock_d1 rfl ?_
  refine GQ.letI (fun x2_4 => ?_)
  refine GQ.istoreN (L' := [some (Rf 0), some (I x1), some (I x2_4), none, none]) (pc' := 5) emitBlock_d4 rfl rfl rfl ?_
  refine GQ.aloadN (pc' := 6) emitBlock_d5 rfl rfl ?_
  refine GQ.iloadN (pc' := 7) emitBlock_d6 rfl rfl ?_
  refine GQ.callP (Mc := compressBlock_I) (args0 := [I x1]) (S := []) (r := 0) (pc' := 10) (compressBlock_K hw (by decide)) rfl emitBlock_d7 rfl (wd250 hw) (wd251 hw) (wd252 hw) (wd1 hw) XA.recv rfl (compressBlock_M_ok hw K x1 s) rfl (fun z7 s7 => ?_)
  show GQ (XA l Z n0 CN FF cv h0) emitBlock_I _ _ 10 [some (Rf 0), some (I x1), some (I x2_4), none, none] [I z7] s7 _
  refine GQ.istoreN (L' := [some (Rf 0), some (I x1), some (I x2_4), some (I z7), none]) (pc' := 11) emitBlock_d10 rfl rfl rfl ?_
  refine GQ.aloadN (pc' := 12) emitBlock_d11 rfl rfl ?_
  refine GQ.iconst (pc' := 13) emitBlock_d12 rfl rfl ?_
  refine GQ.callP (Mc := u16_I) (args0 := [I 2]) (S := []) (r := 0) (pc' := 16) (u16_K hw (by decide)) rfl emitBlock_d13 rfl (wd214 hw) (wd215 hw) (wd216 hw) (wd1 hw) XA.recv rfl (u16_M_ok hw K 2 s7) rfl (fun z13 s13 => ?_)
  show GQ (XA l Z n0 CN FF cv h0) emitBlock_I _ _ 16 [some (Rf 0), some (I x1), some (I x2_4), some (I z7), none] [I z13] s13 _
  refine GQ.iconst (pc' := 17) emitBlock_d16 rfl rfl ?_
  refine GQ.aloadN (pc' := 18) emitBlock_d17 rfl rfl ?_
  refine GQ.getI (M := emitBlock_I) (k := 52) (pc' := 21) rfl (wd196 hw) emitBlock_d18 rfl ?_
  refine GQ.imul (pc' := 22) emitBlock_d21 rfl ?_
  refine GQ.iadd (pc' := 23) emitBlock_d22 rfl ?_
  refine GQ.letI (fun x4_23 => ?_)
  refine GQ.istore (L' := [some (Rf 0), some (I x1), some (I x2_4), some (I z7), some (I x4_23)]) (pc' := 25) emitBlock_d23 rfl rfl rfl ?_
  refine GQ.aloadN (pc' := 26) emitBlock_d25 rfl rfl ?_
  refine GQ.iload (pc' := 28) emitBlock_d26 rfl rfl ?_
  refine GQ.iloadN (pc' := 29) emitBlock_d28 rfl rfl ?_
  refine GQ.callP (Mc := put16_I) (args0 := [I x4_23, I x2_4]) (S := []) (r := 0) (pc' := 32) (put16_K hw (by decide)) rfl emitBlock_d29 rfl (wd184 hw) (wd185 hw) (wd186 hw) (wd1 hw) XA.recv rfl (put16_M_ok hw K x4_23 x2_4 s13) rfl (fun _ s29 => ?_)
  show GQ (XA l Z n0 CN FF cv h0) emitBlock_I _ _ 32 [some (Rf 0), some (I x1), some (I x2_4), some (I z7), some (I x4_23)] [] s29 _
  refine GQ.aloadN (pc' := 33) emitBlock_d32 rfl rfl ?_
  refine GQ.iload (pc' := 35) emitBlock_d33 rfl rfl ?_
  refine GQ.iconst (pc' := 36) emitBlock_d35 rfl rfl ?_
  refine GQ.iadd (pc' := 37) emitBlock_d36 rfl ?_
  refine GQ.iloadN (pc' := 38) emitBlock_d37 rfl rfl ?_
  refine GQ.callP (Mc := put8_I) (args0 := [I (aAdd x4_23 2), I z7]) (S := []) (r := 0) (pc' := 41) (put8_K hw (by decide)) rfl emitBlock_d38 rfl (wd188 hw) (wd189 hw) (wd190 hw) (wd1 hw) XA.recv rfl (put8_M_ok hw K (aAdd x4_23 2) z7 s29) rfl (fun _ s38 => ?_)
  show GQ (XA l Z n0 CN FF cv h0) emitBlock_I _ _ 41 [some (Rf 0), some (I x1), some (I x2_4), some (I z7), some (I x4_23)] [] s38 _
  refine GQ.aloadN (pc' := 42) emitBlock_d41 rfl rfl ?_
  refine GQ.iload (pc' := 44) emitBlock_d42 rfl rfl ?_
  refine GQ.iconst (pc' := 45) emitBlock_d44 rfl rfl ?_
  refine GQ.iadd (pc' := 46) emitBlock_d45 rfl ?_
  refine GQ.iloadN (pc' := 47) emitBlock_d46 rfl rfl ?_
  refine GQ.callP (Mc := put8_I) (args0 := [I (aAdd x4_23 3), I x1]) (S := []) (r := 0) (pc' := 50) (put8_K hw (by decide)) rfl emitBlock_d47 rfl (wd188 hw) (wd189 hw) (wd190 hw) (wd1 hw) XA.recv rfl (put8_M_ok hw K (aAdd x4_23 3) x1 s38) rfl (fun _ s47 => ?_)
  show GQ (XA l Z n0 CN FF cv h0) emitBlock_I _ _ 50 [some (Rf 0), some (I x1), some (I x2_4), some (I z7), some (I x4_23)] [] s47 _
  refine GQ.aloadN (pc' := 51) emitBlock_d50 rfl rfl ?_
  refine GQ.dupR (pc' := 52) emitBlock_d51 rfl ?_
  refine GQ.getI (M := emitBlock_I) (k := 52) (pc' := 55) rfl (wd196 hw) emitBlock_d52 rfl ?_
  refine GQ.iconst (pc' := 56) emitBlock_d55 rfl rfl ?_
  refine GQ.iadd (pc' := 57) emitBlock_d56 rfl ?_
  refine GQ.putI (M := emitBlock_I) (k := 52) (pc' := 60) K rfl (wd196 hw) (wd197 hw) emitBlock_d57 rfl ?_
  refine GQ.letM (fun s57 => ?_)
  exact GQ.ret rfl emitBlock_d60
def appendTail_I : Mi := (⟨"SquashImage", "appendTail", "(II)V"⟩, prog_1_method_16_code, 4, none, 0, 0)
theorem appendTail_d0 : decode appendTail_I.2.1 0 = .ok (.iload_n 1, 1) := by decide +kernel
theorem appendTail_d1 : decode appendTail_I.2.1 1 = .ok (.istore_n 3, 1) := by decide +kernel
theorem appendTail_d2 : decode appendTail_I.2.1 2 = .ok (.iload_n 3, 1) := by decide +kernel
theorem appendTail_d3 : decode appendTail_I.2.1 3 = .ok (.iload_n 2, 1) := by decide +kernel
theorem appendTail_d4 : decode appendTail_I.2.1 4 = .ok (.if_icmp .ge 55, 3) := by decide +kernel
theorem appendTail_d7 : decode appendTail_I.2.1 7 = .ok (.iload_n 3, 1) := by decide +kernel
theorem appendTail_d8 : decode appendTail_I.2.1 8 = .ok (.sipush 256, 3) := by decide +kernel
theorem appendTail_d11 : decode appendTail_I.2.1 11 = .ok (.if_icmp .ge 48, 3) := by decide +kernel
theorem appendTail_d14 : decode appendTail_I.2.1 14 = .ok (.iload_n 3, 1) := by decide +kernel
theorem appendTail_d15 : decode appendTail_I.2.1 15 = .ok (.ifCond .lt 38, 3) := by decide +kernel
theorem appendTail_d18 : decode appendTail_I.2.1 18 = .ok (.aload_n 0, 1) := by decide +kernel
theorem appendTail_d19 : decode appendTail_I.2.1 19 = .ok (.getfield 168, 3) := by decide +kernel
theorem appendTail_d22 : decode appendTail_I.2.1 22 = .ok (.sipush 256, 3) := by decide +kernel
theorem appendTail_d25 : decode appendTail_I.2.1 25 = .ok (.if_icmp .ge 28, 3) := by decide +kernel
theorem appendTail_d28 : decode appendTail_I.2.1 28 = .ok (.aload_n 0, 1) := by decide +kernel
theorem appendTail_d29 : decode appendTail_I.2.1 29 = .ok (.getfield 130, 3) := by decide +kernel
theorem appendTail_d32 : decode appendTail_I.2.1 32 = .ok (.aload_n 0, 1) := by decide +kernel
theorem appendTail_d33 : decode appendTail_I.2.1 33 = .ok (.getfield 168, 3) := by decide +kernel
theorem appendTail_d36 : decode appendTail_I.2.1 36 = .ok (.aload_n 0, 1) := by decide +kernel
theorem appendTail_d37 : decode appendTail_I.2.1 37 = .ok (.getfield 127, 3) := by decide +kernel
theorem appendTail_d40 : decode appendTail_I.2.1 40 = .ok (.iload_n 3, 1) := by decide +kernel
theorem appendTail_d41 : decode appendTail_I.2.1 41 = .ok (.baload, 1) := by decide +kernel
theorem appendTail_d42 : decode appendTail_I.2.1 42 = .ok (.bastore, 1) := by decide +kernel
theorem appendTail_d43 : decode appendTail_I.2.1 43 = .ok (.aload_n 0, 1) := by decide +kernel
theorem appendTail_d44 : decode appendTail_I.2.1 44 = .ok (.dup, 1) := by decide +kernel
theorem appendTail_d45 : decode appendTail_I.2.1 45 = .ok (.getfield 168, 3) := by decide +kernel
theorem appendTail_d48 : decode appendTail_I.2.1 48 = .ok (.iconst 1, 1) := by decide +kernel
theorem appendTail_d49 : decode appendTail_I.2.1 49 = .ok (.iadd, 1) := by decide +kernel
theorem appendTail_d50 : decode appendTail_I.2.1 50 = .ok (.putfield 168, 3) := by decide +kernel
theorem appendTail_d53 : decode appendTail_I.2.1 53 = .ok (.iinc 3 1, 3) := by decide +kernel
theorem appendTail_d56 : decode appendTail_I.2.1 56 = .ok (.goto (-54), 3) := by decide +kernel
theorem appendTail_d59 : decode appendTail_I.2.1 59 = .ok (.return_, 1) := by decide +kernel
theorem appendTail_p : parseMethodDescriptor appendTail_I.1.desc = some ⟨[.int, .int], none⟩ := by decide +kernel
theorem appendTail_K {a0 : Array Value} {Z : State} {M : Mi} (hw : Words a0 Z) (h : appendTail_I.2.2.2.2.1 + 1 ≤ M.2.2.2.2.1) : Callee a0 Z M appendTail_I 2 := ⟨pnC, (wd237 hw), (wd2 hw), h, by decide, fun sig q => by cases appendTail_p.symm.trans q; rfl⟩
set_option maxRecDepth 65536 in
set_option maxHeartbeats 4000000 in
theorem appendTail_j53_ok {l : Launch} {Z : State} {a0 : Array Value} {n0 : Nat} {cv : Nat → Nat} {h0 : Heap} (hw : Words a0 Z) (K : KA a0 Z n0 CN nI FF cv) {x2 : Int} {rec : Int → Obj → Option (Int × Obj)} (hrec : ∀ (x3 : Int) (s : Obj), GQ (XA l Z n0 CN FF cv h0) appendTail_I 0 0 2 [some (Rf 0), none, some (I x2), some (I x3)] [] s (rec x3 s)) (x3 : Int) (s : Obj) : GQ (XA l Z n0 CN FF cv h0) appendTail_I 0 0 53 [some (Rf 0), none, some (I x2), some (I x3)] [] s (appendTail_j53 rec x2 x3 s) := by
  unfold appendTail_j53
  refine GQ.iinc (L' := [some (Rf 0), none, some (I x2), some (I (aAdd x3 1))]) (pc' := 56) appendTail_d53 rfl rfl rfl rfl ?_
  refine GQ.goto (pc' := 2) appendTail_d56 rfl rfl ?_
  exact hrec (aAdd x3 1) s
set_option maxRecDepth 65536 in
set_option maxHeartbeats 4000000 in
theorem appendTail_l2b_ok {l : Launch} {Z : State} {a0 : Array Value} {n0 : Nat} {cv : Nat → Nat} {h0 : Heap} (hw : Words a0 Z) (K : KA a0 Z n0 CN nI FF cv) (x2 : Int) {rec : Int → Obj → Option (Int × Obj)} (hrec : ∀ (x3 : Int) (s : Obj), GQ (XA l Z n0 CN FF cv h0) appendTail_I 0 0 2 [some (Rf 0), none, some (I x2), some (I x3)] [] s (rec x3 s)) (x3 : Int) (s : Obj) : GQ (XA l Z n0 CN FF cv h0) appendTail_I 0 0 2 [some (Rf 0), none, some (I x2), some (I x3)] [] s (appendTail_l2b x2 rec x3 s) := by
  unfold appendTail_l2b
  refine GQ.iloadN (pc' := 3) appendTail_d2 rfl rfl ?_
  refine GQ.iloadN (pc' := 4) appendTail_d3 rfl rfl ?_
  refine GQ.icmpF (pcT := 59) (pcF := 7) h_ge appendTail_d4 rfl rfl rfl ?_ ?_
  · exact GQ.ret rfl appendTail_d59
  refine GQ.iloadN (pc' := 8) appendTail_d7 rfl rfl ?_
  refine GQ.sipush (pc' := 11) appendTail_d8 rfl rfl ?_
  refine GQ.icmpF (pcT := 59) (pcF := 14) h_ge appendTail_d11 rfl rfl rfl ?_ ?_
  · exact GQ.ret rfl appendTail_d59
  refine GQ.iloadN (pc' := 15) appendTail_d14 rfl rfl ?_
  refine GQ.ifT (pcT := 53) (pcF := 18) h_lt appendTail_d15 rfl rfl rfl ?_ ?_
  · exact appendTail_j53_ok hw K hrec x3 s
  refine GQ.aloadN (pc' := 19) appendTail_d18 rfl rfl ?_
  refine GQ.getI (M := appendTail_I) (k := 47) (pc' := 22) rfl (wd116 hw) appendTail_d19 rfl ?_
  refine GQ.sipush (pc' := 25) appendTail_d22 rfl rfl ?_
  refine GQ.icmpF (pcT := 53) (pcF := 28) h_ge appendTail_d25 rfl rfl rfl ?_ ?_
  · exact appendTail_j53_ok hw K hrec x3 s
  refine GQ.aloadN (pc' := 29) appendTail_d28 rfl rfl ?_
  refine GQ.getA (M := appendTail_I) (k := 46) (pc' := 32) rfl (by decide) (wd90 hw) appendTail_d29 rfl ?_
  refine GQ.aloadN (pc' := 33) appendTail_d32 rfl rfl ?_
  refine GQ.getI (M := appendTail_I) (k := 47) (pc' := 36) rfl (wd116 hw) appendTail_d33 rfl ?_
  refine GQ.aloadN (pc' := 37) appendTail_d36 rfl rfl ?_
  refine GQ.getA (M := appendTail_I) (k := 45) (pc' := 40) rfl (by decide) (wd88 hw) appendTail_d37 rfl ?_
  refine GQ.iloadN (pc' := 41) appendTail_d40 rfl rfl ?_
  refine GQ.rd (k := 45) (ins := .baload) (pc' := 42) rfl (by decide) (Or.inr (Or.inl ⟨rfl, rfl⟩)) appendTail_d41 rfl (fun z41 => ?_)
  refine GQ.wr (k := 46) (ins := .bastore) (pc' := 43) K rfl (by decide) (Or.inr (Or.inl ⟨rfl, rfl⟩)) appendTail_d42 rfl (fun s42 => ?_)
  refine GQ.aloadN (pc' := 44) appendTail_d43 rfl rfl ?_
  refine GQ.dupR (pc' := 45) appendTail_d44 rfl ?_
  refine GQ.getI (M := appendTail_I) (k := 47) (pc' := 48) rfl (wd116 hw) appendTail_d45 rfl ?_
  refine GQ.iconst (pc' := 49) appendTail_d48 rfl rfl ?_
  refine GQ.iadd (pc' := 50) appendTail_d49 rfl ?_
  refine GQ.putI (M := appendTail_I) (k := 47) (pc' := 53) K rfl (wd116 hw) (wd117 hw) appendTail_d50 rfl ?_
  refine GQ.letM (fun s50 => ?_)
  exact appendTail_j53_ok hw K hrec x3 s50
set_option maxRecDepth 65536 in
set_option maxHeartbeats 4000000 in
theorem appendTail_l2_ok {l : Launch} {Z : State} {a0 : Array Value} {n0 : Nat} {cv : Nat → Nat} {h0 : Heap} (hw : Words a0 Z) (K : KA a0 Z n0 CN nI FF cv) (x2 : Int) : ∀ (fu : Nat) (x3 : Int) (s : Obj), GQ (XA l Z n0 CN FF cv h0) appendTail_I 0 0 2 [some (Rf 0), none, some (I x2), some (I x3)] [] s (appendTail_l2 x2 fu x3 s)
  | 0 => fun _ _ => GQ.no
  | fu + 1 => appendTail_l2b_ok hw K x2 (appendTail_l2_ok hw K x2 fu)
set_option maxRecDepth 65536 in
set_option maxHeartbeats 4000000 in
theorem appendTail_M_ok {l : Launch} {Z : State} {a0 : Array Value} {n0 : Nat} {cv : Nat → Nat} {h0 : Heap} (hw : Words a0 Z) (K : KA a0 Z n0 CN nI FF cv) (x1 : Int) (x2 : Int) (s : Obj) : GQ (XA l Z n0 CN FF cv h0) appendTail_I 0 0 0 (entry [Rf 0, I x1, I x2] appendTail_I.2.2.1) [] s (appendTail_M x1 x2 s) := by
  show GQ _ _ _ _ 0 [some (Rf 0), some (I x1), some (I x2), none] [] _ _
  unfold appendTail_M
  refine GQ.iloadN (pc' := 1) appendTail_d0 rfl rfl ?_
  refine GQ.istoreN (L' := [some (Rf 0), some (I x1), some (I x2), some (I x1)]) (pc' := 2) appendTail_d1 rfl rfl rfl ?_
  refine GQ.weak (L' := [some (Rf 0), none, some (I x2), some (I x1)]) (Sub.keep (Sub.drop (Sub.keep (Sub.keep Sub.nil)))) ?_
  exact appendTail_l2_ok hw K x2 FU x1 s
def writeFileNode_I : Mi := (⟨"SquashImage", "writeFileNode", "(I)V"⟩, prog_1_method_14_code, 7, none, 4, 73)
theorem writeFileNode_d0 : decode writeFileNode_I.2.1 0 = .ok (.aload_n 0, 1) := by decide +kernel
theorem writeFileNode_d1 : decode writeFileNode_I.2.1 1 = .ok (.iload_n 1, 1) := by decide +kernel
theorem writeFileNode_d2 : decode writeFileNode_I.2.1 2 = .ok (.invokevirtual 230, 3) := by decide +kernel
theorem writeFileNode_d5 : decode writeFileNode_I.2.1 5 = .ok (.istore_n 2, 1) := by decide +kernel
theorem writeFileNode_d6 : decode writeFileNode_I.2.1 6 = .ok (.iload_n 2, 1) := by decide +kernel
theorem writeFileNode_d7 : decode writeFileNode_I.2.1 7 = .ok (.aload_n 0, 1) := by decide +kernel
theorem writeFileNode_d8 : decode writeFileNode_I.2.1 8 = .ok (.getfield 146, 3) := by decide +kernel
theorem writeFileNode_d11 : decode writeFileNode_I.2.1 11 = .ok (.idiv, 1) := by decide +kernel
theorem writeFileNode_d12 : decode writeFileNode_I.2.1 12 = .ok (.istore_n 3, 1) := by decide +kernel
theorem writeFileNode_d13 : decode writeFileNode_I.2.1 13 = .ok (.aload_n 0, 1) := by decide +kernel
theorem writeFileNode_d14 : decode writeFileNode_I.2.1 14 = .ok (.getfield 205, 3) := by decide +kernel
theorem writeFileNode_d17 : decode writeFileNode_I.2.1 17 = .ok (.istore 4, 2) := by decide +kernel
theorem writeFileNode_d19 : decode writeFileNode_I.2.1 19 = .ok (.iconst 0, 1) := by decide +kernel
theorem writeFileNode_d20 : decode writeFileNode_I.2.1 20 = .ok (.istore 5, 2) := by decide +kernel
theorem writeFileNode_d22 : decode writeFileNode_I.2.1 22 = .ok (.iload 5, 2) := by decide +kernel
theorem writeFileNode_d24 : decode writeFileNode_I.2.1 24 = .ok (.iload_n 3, 1) := by decide +kernel
theorem writeFileNode_d25 : decode writeFileNode_I.2.1 25 = .ok (.if_icmp .ge 39, 3) := by decide +kernel
theorem writeFileNode_d28 : decode writeFileNode_I.2.1 28 = .ok (.iload 5, 2) := by decide +kernel
theorem writeFileNode_d30 : decode writeFileNode_I.2.1 30 = .ok (.bipush 64, 2) := by decide +kernel
theorem writeFileNode_d32 : decode writeFileNode_I.2.1 32 = .ok (.if_icmp .ge 32, 3) := by decide +kernel
theorem writeFileNode_d35 : decode writeFileNode_I.2.1 35 = .ok (.aload_n 0, 1) := by decide +kernel
theorem writeFileNode_d36 : decode writeFileNode_I.2.1 36 = .ok (.iload 5, 2) := by decide +kernel
theorem writeFileNode_d38 : decode writeFileNode_I.2.1 38 = .ok (.aload_n 0, 1) := by decide +kernel
theorem writeFileNode_d39 : decode writeFileNode_I.2.1 39 = .ok (.getfield 146, 3) := by decide +kernel
theorem writeFileNode_d42 : decode writeFileNode_I.2.1 42 = .ok (.imul, 1) := by decide +kernel
theorem writeFileNode_d43 : decode writeFileNode_I.2.1 43 = .ok (.aload_n 0, 1) := by decide +kernel
theorem writeFileNode_d44 : decode writeFileNode_I.2.1 44 = .ok (.getfield 146, 3) := by decide +kernel
theorem writeFileNode_d47 : decode writeFileNode_I.2.1 47 = .ok (.invokevirtual 234, 3) := by decide +kernel
theorem writeFileNode_d50 : decode writeFileNode_I.2.1 50 = .ok (.aload_n 0, 1) := by decide +kernel
theorem writeFileNode_d51 : decode writeFileNode_I.2.1 51 = .ok (.aload_n 0, 1) := by decide +kernel
theorem writeFileNode_d52 : decode writeFileNode_I.2.1 52 = .ok (.getfield 146, 3) := by decide +kernel
theorem writeFileNode_d55 : decode writeFileNode_I.2.1 55 = .ok (.invokevirtual 237, 3) := by decide +kernel
theorem writeFileNode_d58 : decode writeFileNode_I.2.1 58 = .ok (.iinc 5 1, 3) := by decide +kernel
theorem writeFileNode_d61 : decode writeFileNode_I.2.1 61 = .ok (.goto (-39), 3) := by decide +kernel
theorem writeFileNode_d64 : decode writeFileNode_I.2.1 64 = .ok (.aload_n 0, 1) := by decide +kernel
theorem writeFileNode_d65 : decode writeFileNode_I.2.1 65 = .ok (.getfield 168, 3) := by decide +kernel
theorem writeFileNode_d68 : decode writeFileNode_I.2.1 68 = .ok (.istore 5, 2) := by decide +kernel
theorem writeFileNode_d70 : decode writeFileNode_I.2.1 70 = .ok (.aload_n 0, 1) := by decide +kernel
theorem writeFileNode_d71 : decode writeFileNode_I.2.1 71 = .ok (.iload_n 3, 1) := by decide +kernel
theorem writeFileNode_d72 : decode writeFileNode_I.2.1 72 = .ok (.aload_n 0, 1) := by decide +kernel
theorem writeFileNode_d73 : decode writeFileNode_I.2.1 73 = .ok (.getfield 146, 3) := by decide +kernel
theorem writeFileNode_d76 : decode writeFileNode_I.2.1 76 = .ok (.imul, 1) := by decide +kernel
theorem writeFileNode_d77 : decode writeFileNode_I.2.1 77 = .ok (.iload_n 2, 1) := by decide +kernel
theorem writeFileNode_d78 : decode writeFileNode_I.2.1 78 = .ok (.invokevirtual 240, 3) := by decide +kernel
theorem writeFileNode_d81 : decode writeFileNode_I.2.1 81 = .ok (.aload_n 0, 1) := by decide +kernel
theorem writeFileNode_d82 : decode writeFileNode_I.2.1 82 = .ok (.iload_n 1, 1) := by decide +kernel
theorem writeFileNode_d83 : decode writeFileNode_I.2.1 83 = .ok (.invokevirtual 243, 3) := by decide +kernel
theorem writeFileNode_d86 : decode writeFileNode_I.2.1 86 = .ok (.istore 6, 2) := by decide +kernel
theorem writeFileNode_d88 : decode writeFileNode_I.2.1 88 = .ok (.aload_n 0, 1) := by decide +kernel
theorem writeFileNode_d89 : decode writeFileNode_I.2.1 89 = .ok (.iload 6, 2) := by decide +kernel
theorem writeFileNode_d91 : decode writeFileNode_I.2.1 91 = .ok (.iconst 0, 1) := by decide +kernel
theorem writeFileNode_d92 : decode writeFileNode_I.2.1 92 = .ok (.iadd, 1) := by decide +kernel
theorem writeFileNode_d93 : decode writeFileNode_I.2.1 93 = .ok (.iconst 2, 1) := by decide +kernel
theorem writeFileNode_d94 : decode writeFileNode_I.2.1 94 = .ok (.invokevirtual 221, 3) := by decide +kernel
theorem writeFileNode_d97 : decode writeFileNode_I.2.1 97 = .ok (.aload_n 0, 1) := by decide +kernel
theorem writeFileNode_d98 : decode writeFileNode_I.2.1 98 = .ok (.iload 6, 2) := by decide +kernel
theorem writeFileNode_d100 : decode writeFileNode_I.2.1 100 = .ok (.iconst 1, 1) := by decide +kernel
theorem writeFileNode_d101 : decode writeFileNode_I.2.1 101 = .ok (.iadd, 1) := by decide +kernel
theorem writeFileNode_d102 : decode writeFileNode_I.2.1 102 = .ok (.aload_n 0, 1) := by decide +kernel
theorem writeFileNode_d103 : decode writeFileNode_I.2.1 103 = .ok (.getfield 98, 3) := by decide +kernel
theorem writeFileNode_d106 : decode writeFileNode_I.2.1 106 = .ok (.iload_n 1, 1) := by decide +kernel
theorem writeFileNode_d107 : decode writeFileNode_I.2.1 107 = .ok (.baload, 1) := by decide +kernel
theorem writeFileNode_d108 : decode writeFileNode_I.2.1 108 = .ok (.invokevirtual 221, 3) := by decide +kernel
theorem writeFileNode_d111 : decode writeFileNode_I.2.1 111 = .ok (.aload_n 0, 1) := by decide +kernel
theorem writeFileNode_d112 : decode writeFileNode_I.2.1 112 = .ok (.iload 6, 2) := by decide +kernel
theorem writeFileNode_d114 : decode writeFileNode_I.2.1 114 = .ok (.iconst 2, 1) := by decide +kernel
theorem writeFileNode_d115 : decode writeFileNode_I.2.1 115 = .ok (.iadd, 1) := by decide +kernel
theorem writeFileNode_d116 : decode writeFileNode_I.2.1 116 = .ok (.iload_n 2, 1) := by decide +kernel
theorem writeFileNode_d117 : decode writeFileNode_I.2.1 117 = .ok (.invokevirtual 218, 3) := by decide +kernel
theorem writeFileNode_d120 : decode writeFileNode_I.2.1 120 = .ok (.aload_n 0, 1) := by decide +kernel
theorem writeFileNode_d121 : decode writeFileNode_I.2.1 121 = .ok (.iload 6, 2) := by decide +kernel
theorem writeFileNode_d123 : decode writeFileNode_I.2.1 123 = .ok (.iconst 4, 1) := by decide +kernel
theorem writeFileNode_d124 : decode writeFileNode_I.2.1 124 = .ok (.iadd, 1) := by decide +kernel
theorem writeFileNode_d125 : decode writeFileNode_I.2.1 125 = .ok (.iload 4, 2) := by decide +kernel
theorem writeFileNode_d127 : decode writeFileNode_I.2.1 127 = .ok (.invokevirtual 221, 3) := by decide +kernel
theorem writeFileNode_d130 : decode writeFileNode_I.2.1 130 = .ok (.aload_n 0, 1) := by decide +kernel
theorem writeFileNode_d131 : decode writeFileNode_I.2.1 131 = .ok (.iload 6, 2) := by decide +kernel
theorem writeFileNode_d133 : decode writeFileNode_I.2.1 133 = .ok (.iconst 5, 1) := by decide +kernel
theorem writeFileNode_d134 : decode writeFileNode_I.2.1 134 = .ok (.iadd, 1) := by decide +kernel
theorem writeFileNode_d135 : decode writeFileNode_I.2.1 135 = .ok (.iload 5, 2) := by decide +kernel
theorem writeFileNode_d137 : decode writeFileNode_I.2.1 137 = .ok (.invokevirtual 218, 3) := by decide +kernel
theorem writeFileNode_d140 : decode writeFileNode_I.2.1 140 = .ok (.aload_n 0, 1) := by decide +kernel
theorem writeFileNode_d141 : decode writeFileNode_I.2.1 141 = .ok (.iload 6, 2) := by decide +kernel
theorem writeFileNode_d143 : decode writeFileNode_I.2.1 143 = .ok (.bipush 7, 2) := by decide +kernel
theorem writeFileNode_d145 : decode writeFileNode_I.2.1 145 = .ok (.iadd, 1) := by decide +kernel
theorem writeFileNode_d146 : decode writeFileNode_I.2.1 146 = .ok (.aload_n 0, 1) := by decide +kernel
theorem writeFileNode_d147 : decode writeFileNode_I.2.1 147 = .ok (.getfield 101, 3) := by decide +kernel
theorem writeFileNode_d150 : decode writeFileNode_I.2.1 150 = .ok (.iload_n 1, 1) := by decide +kernel
theorem writeFileNode_d151 : decode writeFileNode_I.2.1 151 = .ok (.baload, 1) := by decide +kernel
theorem writeFileNode_d152 : decode writeFileNode_I.2.1 152 = .ok (.invokevirtual 221, 3) := by decide +kernel
theorem writeFileNode_d155 : decode writeFileNode_I.2.1 155 = .ok (.return_, 1) := by decide +kernel
theorem writeFileNode_p : parseMethodDescriptor writeFileNode_I.1.desc = some ⟨[.int], none⟩ := by decide +kernel
theorem writeFileNode_K {a0 : Array Value} {Z : State} {M : Mi} (hw : Words a0 Z) (h : writeFileNode_I.2.2.2.2.1 + 1 ≤ M.2.2.2.2.1) : Callee a0 Z M writeFileNode_I 1 := ⟨pnC, (wd229 hw), (wd2 hw), h, by decide, fun sig q => by cases writeFileNode_p.symm.trans q; rfl⟩
set_option maxRecDepth 65536 in
set_option maxHeartbeats 4000000 in
theorem writeFileNode_l22b_ok {l : Launch} {Z : State} {a0 : Array Value} {n0 : Nat} {cv : Nat → Nat} {h0 : Heap} (hw : Words a0 Z) (K : KA a0 Z n0 CN nI FF cv) (x3 : Int) (x1 : Int) (x2 : Int) (x4 : Int) {k64 : Obj → Option (Int × Obj)} (hk64 : ∀  (s : Obj), GQ (XA l Z n0 CN FF cv h0) writeFileNode_I 0 0 64 [some (Rf 0), some (I x1), some (I x2), some (I x3), some (I x4), none, none] [] s (k64 s)) {rec : Int → Obj → Option (Int × Obj)} (hrec : ∀ (x5 : Int) (s : Obj), GQ (XA l Z n0 CN FF cv h0) writeFileNode_I 0 0 22 [some (Rf 0), some (I x1), some (I x2), some (I x3), some (I x4), some (I x5), none] [] s (rec x5 s)) (x5 : Int) (s : Obj) : GQ (XA l Z n0 CN FF cv h0) writeFileNode_I 0 0 22 [some (Rf 0), some (I x1), some (I x2), some (I x3), some (I x4), some (I x5), none] [] s (writeFileNode_l22b k64 x3 rec x5 s) := by
  unfold writeFileNode_l22b
  refine GQ.iload (pc' := 24) writeFileNode_d22 rfl rfl ?_
  refine GQ.iloadN (pc' := 25) writeFileNode_d24 rfl rfl ?_
  refine GQ.icmpF (pcT := 64) (pcF := 28) h_ge writeFileNode_d25 rfl rfl rfl ?_ ?_
  · refine GQ.weak (L' := [some (Rf 0), some (I x1), some (I x2), some (I x3), some (I x4), none, none]) (Sub.keep (Sub.keep (Sub.keep (Sub.keep (Sub.keep (Sub.drop (Sub.keep Sub.nil))))))) ?_
    exact hk64 s
  refine GQ.iload (pc' := 30) writeFileNode_d28 rfl rfl ?_
  refine GQ.bipush (pc' := 32) writeFileNode_d30 rfl rfl ?_
  refine GQ.icmpF (pcT := 64) (pcF := 35) h_ge writeFileNode_d32 rfl rfl rfl ?_ ?_
  · refine GQ.weak (L' := [some (Rf 0), some (I x1), some (I x2), some (I x3), some (I x4), none, none]) (Sub.keep (Sub.keep (Sub.keep (Sub.keep (Sub.keep (Sub.drop (Sub.keep Sub.nil))))))) ?_
    exact hk64 s
  refine GQ.aloadN (pc' := 36) writeFileNode_d35 rfl rfl ?_
  refine GQ.iload (pc' := 38) writeFileNode_d36 rfl rfl ?_
  refine GQ.aloadN (pc' := 39) writeFileNode_d38 rfl rfl ?_
  refine GQ.getI (M := writeFileNode_I) (k := 28) (pc' := 42) rfl (wd102 hw) writeFileNode_d39 rfl ?_
  refine GQ.imul (pc' := 43) writeFileNode_d42 rfl ?_
  refine GQ.aloadN (pc' := 44) writeFileNode_d43 rfl rfl ?_
  refine GQ.getI (M := writeFileNode_I) (k := 28) (pc' := 47) rfl (wd102 hw) writeFileNode_d44 rfl ?_
  refine GQ.callP (Mc := loadRawFromFile_I) (args0 := [I (aMul x5 (s.1 28)), I (s.1 28)]) (S := []) (r := 0) (pc' := 50) (loadRawFromFile_K hw (by decide)) rfl writeFileNode_d47 rfl (wd294 hw) (wd295 hw) (wd296 hw) (wd1 hw) XA.recv rfl (loadRawFromFile_M_ok hw K (aMul x5 (s.1 28)) (s.1 28) s) rfl (fun _ s47 => ?_)
  show GQ (XA l Z n0 CN FF cv h0) writeFileNode_I _ _ 50 [some (Rf 0), some (I x1), some (I x2), some (I x3), some (I x4), some (I x5), none] [] s47 _
  refine GQ.aloadN (pc' := 51) writeFileNode_d50 rfl rfl ?_
  refine GQ.aloadN (pc' := 52) writeFileNode_d51 rfl rfl ?_
  refine GQ.getI (M := writeFileNode_I) (k := 28) (pc' := 55) rfl (wd102 hw) writeFileNode_d52 rfl ?_
  refine GQ.callP (Mc := emitBlock_I) (args0 := [I (s47.1 28)]) (S := []) (r := 0) (pc' := 58) (emitBlock_K hw (by decide)) rfl writeFileNode_d55 rfl (wd246 hw) (wd247 hw) (wd248 hw) (wd1 hw) XA.recv rfl (emitBlock_M_ok hw K (s47.1 28) s47) rfl (fun _ s55 => ?_)
  show GQ (XA l Z n0 CN FF cv h0) writeFileNode_I _ _ 58 [some (Rf 0), some (I x1), some (I x2), some (I x3), some (I x4), some (I x5), none] [] s55 _
  refine GQ.iinc (L' := [some (Rf 0), some (I x1), some (I x2), some (I x3), some (I x4), some (I (aAdd x5 1)), none]) (pc' := 61) writeFileNode_d58 rfl rfl rfl rfl ?_
  refine GQ.goto (pc' := 22) writeFileNode_d61 rfl rfl ?_
  exact hrec (aAdd x5 1) s55
set_option maxRecDepth 65536 in
set_option maxHeartbeats 4000000 in
theorem writeFileNode_l22_ok {l : Launch} {Z : State} {a0 : Array Value} {n0 : Nat} {cv : Nat → Nat} {h0 : Heap} (hw : Words a0 Z) (K : KA a0 Z n0 CN nI FF cv) (x3 : Int) (x1 : Int) (x2 : Int) (x4 : Int) {k64 : Obj → Option (Int × Obj)} (hk64 : ∀  (s : Obj), GQ (XA l Z n0 CN FF cv h0) writeFileNode_I 0 0 64 [some (Rf 0), some (I x1), some (I x2), some (I x3), some (I x4), none, none] [] s (k64 s)) : ∀ (fu : Nat) (x5 : Int) (s : Obj), GQ (XA l Z n0 CN FF cv h0) writeFileNode_I 0 0 22 [some (Rf 0), some (I x1), some (I x2), some (I x3), some (I x4), some (I x5), none] [] s (writeFileNode_l22 k64 x3 fu x5 s)
  | 0 => fun _ _ => GQ.no
  | fu + 1 => writeFileNode_l22b_ok hw K x3 x1 x2 x4 hk64 (writeFileNode_l22_ok hw K x3 x1 x2 x4 hk64 fu)
set_option maxRecDepth 65536 in
set_option maxHeartbeats 4000000 in
theorem writeFileNode_j64_ok {l : Launch} {Z : State} {a0 : Array Value} {n0 : Nat} {cv : Nat → Nat} {h0 : Heap} (hw : Words a0 Z) (K : KA a0 Z n0 CN nI FF cv) (x1 : Int) (x2 : Int) (x3 : Int) (x4 : Int) (s : Obj) : GQ (XA l Z n0 CN FF cv h0) writeFileNode_I 0 0 64 [some (Rf 0), some (I x1), some (I x2), some (I x3), some (I x4), none, none] [] s (writeFileNode_j64 x1 x2 x3 x4 s) := by
  unfold writeFileNode_j64
  refine GQ.aloadN (pc' := 65) writeFileNode_d64 rfl rfl ?_
  refine GQ.getI (M := writeFileNode_I) (k := 47) (pc' := 68) rfl (wd116 hw) writeFileNode_d65 rfl ?_
  refine GQ.letI (fun x5_68 => ?_)
  refine GQ.istore (L' := [some (Rf 0), some (I x1), some (I x2), some (I x3), some (I x4), some (I x5_68), none]) (pc' := 70) writeFileNode_d68 rfl rfl rfl ?_
  refine GQ.aloadN (pc' := 71) writeFileNode_d70 rfl rfl ?_
  refine GQ.iloadN (pc' := 72) writeFileNode_d71 rfl rfl ?_
  refine GQ.aloadN (pc' := 73) writeFileNode_d72 rfl rfl ?_
  refine GQ.getI (M := writeFileNode_I) (k := 28) (pc' := 76) rfl (wd102 hw) writeFileNode_d73 rfl ?_
  refine GQ.imul (pc' := 77) writeFileNode_d76 rfl ?_
  refine GQ.iloadN (pc' := 78) writeFileNode_d77 rfl rfl ?_
  refine GQ.callP (Mc := appendTail_I) (args0 := [I (aMul x3 (s.1 28)), I x2]) (S := []) (r := 0) (pc' := 81) (appendTail_K hw (by decide)) rfl writeFileNode_d78 rfl (wd234 hw) (wd235 hw) (wd236 hw) (wd1 hw) XA.recv rfl (appendTail_M_ok hw K (aMul x3 (s.1 28)) x2 s) rfl (fun _ s78 => ?_)
  show GQ (XA l Z n0 CN FF cv h0) writeFileNode_I _ _ 81 [some (Rf 0), some (I x1), some (I x2), some (I x3), some (I x4), some (I x5_68), none] [] s78 _
  refine GQ.aloadN (pc' := 82) writeFileNode_d81 rfl rfl ?_
  refine GQ.iloadN (pc' := 83) writeFileNode_d82 rfl rfl ?_
  refine GQ.callP (Mc := inodePos_I) (args0 := [I x1]) (S := []) (r := 0) (pc' := 86) (inodePos_K hw (by decide)) rfl writeFileNode_d83 rfl (wd210 hw) (wd211 hw) (wd212 hw) (wd1 hw) XA.recv rfl (inodePos_M_ok hw K x1 s78) rfl (fun z83 s83 => ?_)
  show GQ (XA l Z n0 CN FF cv h0) writeFileNode_I _ _ 86 [some (Rf 0), some (I x1), some (I x2), some (I x3), some (I x4), some (I x5_68), none] [I z83] s83 _
  refine GQ.istore (L' := [some (Rf 0), some (I x1), some (I x2), some (I x3), some (I x4), some (I x5_68), some (I z83)]) (pc' := 88) writeFileNode_d86 rfl rfl rfl ?_
  refine GQ.aloadN (pc' := 89) writeFileNode_d88 rfl rfl ?_
  refine GQ.iload (pc' := 91) writeFileNode_d89 rfl rfl ?_
  refine GQ.iconst (pc' := 92) writeFileNode_d91 rfl rfl ?_
  refine GQ.iadd (pc' := 93) writeFileNode_d92 rfl ?_
  refine GQ.iconst (pc' := 94) writeFileNode_d93 rfl rfl ?_
  refine GQ.callP (Mc := put8_I) (args0 := [I (aAdd z83 0), I 2]) (S := []) (r := 0) (pc' := 97) (put8_K hw (by decide)) rfl writeFileNode_d94 rfl (wd188 hw) (wd189 hw) (wd190 hw) (wd1 hw) XA.recv rfl (put8_M_ok hw K (aAdd z83 0) 2 s83) rfl (fun _ s94 => ?_)
  show GQ (XA l Z n0 CN FF cv h0) writeFileNode_I _ _ 97 [some (Rf 0), some (I x1), some (I x2), some (I x3), some (I x4), some (I x5_68), some (I z83)] [] s94 _
  refine GQ.aloadN (pc' := 98) writeFileNode_d97 rfl rfl ?_
  refine GQ.iload (pc' := 100) writeFileNode_d98 rfl rfl ?_
  refine GQ.iconst (pc' := 101) writeFileNode_d100 rfl rfl ?_
  refine GQ.iadd (pc' := 102) writeFileNode_d101 rfl ?_
  refine GQ.aloadN (pc' := 103) writeFileNode_d102 rfl rfl ?_
  refine GQ.getA (M := writeFileNode_I) (k := 33) (pc' := 106) rfl (by decide) (wd68 hw) writeFileNode_d103 rfl ?_
  refine GQ.iloadN (pc' := 107) writeFileNode_d106 rfl rfl ?_
  refine GQ.rd (k := 33) (ins := .baload) (pc' := 108) rfl (by decide) (Or.inr (Or.inl ⟨rfl, rfl⟩)) writeFileNode_d107 rfl (fun z107 => ?_)
  refine GQ.callP (Mc := put8_I) (args0 := [I (aAdd z83 1), I z107]) (S := []) (r := 0) (pc' := 111) (put8_K hw (by decide)) rfl writeFileNode_d108 rfl (wd188 hw) (wd189 hw) (wd190 hw) (wd1 hw) XA.recv rfl (put8_M_ok hw K (aAdd z83 1) z107 s94) rfl (fun _ s108 => ?_)
  show GQ (XA l Z n0 CN FF cv h0) writeFileNode_I _ _ 111 [some (Rf 0), some (I x1), some (I x2), some (I x3), some (I x4), some (I x5_68), some (I z83)] [] s108 _
  refine GQ.aloadN (pc' := 112) writeFileNode_d111 rfl rfl ?_
  refine GQ.iload (pc' := 114) writeFileNode_d112 rfl rfl ?_
  refine GQ.iconst (pc' := 115) writeFileNode_d114 rfl rfl ?_
  refine GQ.iadd (pc' := 116) writeFileNode_d115 rfl ?_
  refine GQ.iloadN (pc' := 117) writeFileNode_d116 rfl rfl ?_
  refine GQ.callP (Mc := put16_I) (args0 := [I (aAdd z83 2), I x2]) (S := []) (r := 0) (pc' := 120) (put16_K hw (by decide)) rfl writeFileNode_d117 rfl (wd184 hw) (wd185 hw) (wd186 hw) (wd1 hw) XA.recv rfl (put16_M_ok hw K (aAdd z83 2) x2 s108) rfl (fun _ s117 => ?_)
  show GQ (XA l Z n0 CN FF cv h0) writeFileNode_I _ _ 120 [some (Rf 0), some (I x1), some (I x2), some (I x3), some (I x4), some (I x5_68), some (I z83)] [] s117 _
  refine GQ.aloadN (pc' := 121) writeFileNode_d120 rfl rfl ?_
  refine GQ.iload (pc' := 123) writeFileNode_d121 rfl rfl ?_
  refine GQ.iconst (pc' := 124) writeFileNode_d123 rfl rfl ?_
  refine GQ.iadd (pc' := 125) writeFileNode_d124 rfl ?_
  refine GQ.iload (pc' := 127) writeFileNode_d125 rfl rfl ?_
  refine GQ.callP (Mc := put8_I) (args0 := [I (aAdd z83 4), I x4]) (S := []) (r := 0) (pc' := 130) (put8_K hw (by decide)) rfl writeFileNode_d127 rfl (wd188 hw) (wd189 hw) (wd190 hw) (wd1 hw) XA.recv rfl (put8_M_ok hw K (aAdd z83 4) x4 s117) rfl (fun _ s127 => ?_)
  show GQ (XA l Z n0 CN FF cv h0) writeFileNode_I _ _ 130 [some (Rf 0), some (I x1), some (I x2), some (I x3), some (I x4), some (I x5_68), some (I z83)] [] s127 _
  refine GQ.aloadN (pc' := 131) writeFileNode_d130 rfl rfl ?_
  refine GQ.iload (pc' := 133) writeFileNode_d131 rfl rfl ?_
  refine GQ.iconst (pc' := 134) writeFileNode_d133 rfl rfl ?_
  refine GQ.iadd (pc' := 135) writeFileNode_d134 rfl ?_
  refine GQ.iload (pc' := 137) writeFileNode_d135 rfl rfl ?_
  refine GQ.callP (Mc := put16_I) (args0 := [I (aAdd z83 5), I x5_68]) (S := []) (r := 0) (pc' := 140) (put16_K hw (by decide)) rfl writeFileNode_d137 rfl (wd184 hw) (wd185 hw) (wd186 hw) (wd1 hw) XA.recv rfl (put16_M_ok hw K (aAdd z83 5) x5_68 s127) rfl (fun _ s137 => ?_)
  show GQ (XA l Z n0 CN FF cv h0) writeFileNode_I _ _ 140 [some (Rf 0), some (I x1), some (I x2), some (I x3), some (I x4), some (I x5_68), some (I z83)] [] s137 _
  refine GQ.aloadN (pc' := 141) writeFileNode_d140 rfl rfl ?_
  refine GQ.iload (pc' := 143) writeFileNode_d141 rfl rfl ?_
  refine GQ.bipush (pc' := 145) writeFileNode_d143 rfl rfl ?_
  refine GQ.iadd (pc' := 146) writeFileNode_d145 rfl ?_
  refine GQ.aloadN (pc' := 147) writeFileNode_d146 rfl rfl ?_
  refine GQ.getA (M := writeFileNode_I) (k := 34) (pc' := 150) rfl (by decide) (wd70 hw) writeFileNode_d147 rfl ?_
  refine GQ.iloadN (pc' := 151) writeFileNode_d150 rfl rfl ?_
  refine GQ.rd (k := 34) (ins := .baload) (pc' := 152) rfl (by decide) (Or.inr (Or.inl ⟨rfl, rfl⟩)) writeFileNode_d151 rfl (fun z151 => ?_)
  refine GQ.callP (Mc := put8_I) (args0 := [I (aAdd z83 7), I z151]) (S := []) (r := 0) (pc' := 155) (put8_K hw (by decide)) rfl writeFileNode_d152 rfl (wd188 hw) (wd189 hw) (wd190 hw) (wd1 hw) XA.recv rfl (put8_M_ok hw K (aAdd z83 7) z151 s137) rfl (fun _ s152 => ?_)
  show GQ (XA l Z n0 CN FF cv h0) writeFileNode_I _ _ 155 [some (Rf 0), some (I x1), some (I x2), some (I x3), some (I x4), some (I x5_68), some (I z83)] [] s152 _
  exact GQ.ret rfl writeFileNode_d155
set_option maxRecDepth 65536 in
set_option maxHeartbeats 4000000 in
theorem writeFileNode_M_ok {l : Launch} {Z : State} {a0 : Array Value} {n0 : Nat} {cv : Nat → Nat} {h0 : Heap} (hw : Words a0 Z) (K : KA a0 Z n0 CN nI FF cv) (x1 : Int) (s : Obj) : GQ (XA l Z n0 CN FF cv h0) writeFileNode_I 0 0 0 (entry [Rf 0, I x1] writeFileNode_I.2.2.1) [] s (writeFileNode_M x1 s) := by
  show GQ _ _ _ _ 0 [some (Rf 0), some (I x1), none, none, none, none, none] [] _ _
  unfold writeFileNode_M
  refine GQ.aloadN (pc' := 1) writeFileNode_d0 rfl rfl ?_
  refine GQ.iloadN (pc' := 2) writeFileNode_d1 rfl rfl ?_
  refine GQ.callP (Mc := gatherFile_I) (args0 := [I x1]) (S := []) (r := 0) (pc' := 5) (gatherFile_K hw (by decide)) rfl writeFileNode_d2 rfl (wd230 hw) (wd231 hw) (wd232 hw) (wd1 hw) XA.recv rfl (gatherFile_M_ok hw K x1 s) rfl (fun z2 s2 => ?_)
  show GQ (XA l Z n0 CN FF cv h0) writeFileNode_I _ _ 5 [some (Rf 0), some (I x1), none, none, none, none, none] [I z2] s2 _
  refine GQ.istoreN (L' := [some (Rf 0), some (I x1), some (I z2), none, none, none, none]) (pc' := 6) writeFileNode_d5 rfl rfl rfl ?_
  refine GQ.iloadN (pc' := 7) writeFileNode_d6 rfl rfl ?_
  refine GQ.aloadN (pc' := 8) writeFileNode_d7 rfl rfl ?_
  refine GQ.getI (M := writeFileNode_I) (k := 28) (pc' := 11) rfl (wd102 hw) writeFileNode_d8 rfl ?_
  refine GQ.idiv (pc' := 12) writeFileNode_d11 rfl ?_
  refine GQ.letI (fun x3_12 => ?_)
  refine GQ.istoreN (L' := [some (Rf 0), some (I x1), some (I z2), some (I x3_12), none, none, none]) (pc' := 13) writeFileNode_d12 rfl rfl rfl ?_
  refine GQ.aloadN (pc' := 14) writeFileNode_d13 rfl rfl ?_
  refine GQ.getI (M := writeFileNode_I) (k := 52) (pc' := 17) rfl (wd196 hw) writeFileNode_d14 rfl ?_
  refine GQ.letI (fun x4_17 => ?_)
  refine GQ.istore (L' := [some (Rf 0), some (I x1), some (I z2), some (I x3_12), some (I x4_17), none, none]) (pc' := 19) writeFileNode_d17 rfl rfl rfl ?_
  refine GQ.iconst (pc' := 20) writeFileNode_d19 rfl rfl ?_
  refine GQ.istore (L' := [some (Rf 0), some (I x1), some (I z2), some (I x3_12), some (I x4_17), some (I 0), none]) (pc' := 22) writeFileNode_d20 rfl rfl rfl ?_
  refine writeFileNode_l22_ok hw K x3_12 x1 z2 x4_17 (fun s64 => ?_) FU 0 s2
  exact writeFileNode_j64_ok hw K x1 z2 x3_12 x4_17 s64
def collectChildren_I : Mi := (⟨"SquashImage", "collectChildren", "(I)I"⟩, prog_1_method_23_code, 4, (some .int), 0, 0)
theorem collectChildren_d0 : decode collectChildren_I.2.1 0 = .ok (.iconst 0, 1) := by decide +kernel
theorem collectChildren_d1 : decode collectChildren_I.2.1 1 = .ok (.istore_n 2, 1) := by decide +kernel
theorem collectChildren_d2 : decode collectChildren_I.2.1 2 = .ok (.iconst 1, 1) := by decide +kernel
theorem collectChildren_d3 : decode collectChildren_I.2.1 3 = .ok (.istore_n 3, 1) := by decide +kernel
theorem collectChildren_d4 : decode collectChildren_I.2.1 4 = .ok (.iload_n 3, 1) := by decide +kernel
theorem collectChildren_d5 : decode collectChildren_I.2.1 5 = .ok (.aload_n 0, 1) := by decide +kernel
theorem collectChildren_d6 : decode collectChildren_I.2.1 6 = .ok (.getfield 156, 3) := by decide +kernel
theorem collectChildren_d9 : decode collectChildren_I.2.1 9 = .ok (.if_icmp .ge 42, 3) := by decide +kernel
theorem collectChildren_d12 : decode collectChildren_I.2.1 12 = .ok (.iload_n 3, 1) := by decide +kernel
theorem collectChildren_d13 : decode collectChildren_I.2.1 13 = .ok (.bipush 16, 2) := by decide +kernel
theorem collectChildren_d15 : decode collectChildren_I.2.1 15 = .ok (.if_icmp .ge 36, 3) := by decide +kernel
theorem collectChildren_d18 : decode collectChildren_I.2.1 18 = .ok (.aload_n 0, 1) := by decide +kernel
theorem collectChildren_d19 : decode collectChildren_I.2.1 19 = .ok (.getfield 98, 3) := by decide +kernel
theorem collectChildren_d22 : decode collectChildren_I.2.1 22 = .ok (.iload_n 3, 1) := by decide +kernel
theorem collectChildren_d23 : decode collectChildren_I.2.1 23 = .ok (.baload, 1) := by decide +kernel
theorem collectChildren_d24 : decode collectChildren_I.2.1 24 = .ok (.iload_n 1, 1) := by decide +kernel
theorem collectChildren_d25 : decode collectChildren_I.2.1 25 = .ok (.if_icmp .ne 20, 3) := by decide +kernel
theorem collectChildren_d28 : decode collectChildren_I.2.1 28 = .ok (.iload_n 2, 1) := by decide +kernel
theorem collectChildren_d29 : decode collectChildren_I.2.1 29 = .ok (.bipush 16, 2) := by decide +kernel
theorem collectChildren_d31 : decode collectChildren_I.2.1 31 = .ok (.if_icmp .ge 14, 3) := by decide +kernel
theorem collectChildren_d34 : decode collectChildren_I.2.1 34 = .ok (.aload_n 0, 1) := by decide +kernel
theorem collectChildren_d35 : decode collectChildren_I.2.1 35 = .ok (.getfield 139, 3) := by decide +kernel
theorem collectChildren_d38 : decode collectChildren_I.2.1 38 = .ok (.iload_n 2, 1) := by decide +kernel
theorem collectChildren_d39 : decode collectChildren_I.2.1 39 = .ok (.iload_n 3, 1) := by decide +kernel
theorem collectChildren_d40 : decode collectChildren_I.2.1 40 = .ok (.i2b, 1) := by decide +kernel
theorem collectChildren_d41 : decode collectChildren_I.2.1 41 = .ok (.bastore, 1) := by decide +kernel
theorem collectChildren_d42 : decode collectChildren_I.2.1 42 = .ok (.iinc 2 1, 3) := by decide +kernel
theorem collectChildren_d45 : decode collectChildren_I.2.1 45 = .ok (.iinc 3 1, 3) := by decide +kernel
theorem collectChildren_d48 : decode collectChildren_I.2.1 48 = .ok (.goto (-44), 3) := by decide +kernel
theorem collectChildren_d51 : decode collectChildren_I.2.1 51 = .ok (.iload_n 2, 1) := by decide +kernel
theorem collectChildren_d52 : decode collectChildren_I.2.1 52 = .ok (.ireturn, 1) := by decide +kernel
theorem collectChildren_p : parseMethodDescriptor collectChildren_I.1.desc = some ⟨[.int], (some .int)⟩ := by decide +kernel
theorem collectChildren_K {a0 : Array Value} {Z : State} {M : Mi} (hw : Words a0 Z) (h : collectChildren_I.2.2.2.2.1 + 1 ≤ M.2.2.2.2.1) : Callee a0 Z M collectChildren_I 1 := ⟨pnC, (wd205 hw), (wd2 hw), h, by decide, fun sig q => by cases collectChildren_p.symm.trans q; rfl⟩
set_option maxRecDepth 65536 in
set_option maxHeartbeats 4000000 in
theorem collectChildren_j45_ok {l : Launch} {Z : State} {a0 : Array Value} {n0 : Nat} {cv : Nat → Nat} {h0 : Heap} (hw : Words a0 Z) (K : KA a0 Z n0 CN nI FF cv) {x1 : Int} {rec : Int → Int → Obj → Option (Int × Obj)} (hrec : ∀ (x2 : Int) (x3 : Int) (s : Obj), GQ (XA l Z n0 CN FF cv h0) collectChildren_I 0 0 4 [some (Rf 0), some (I x1), some (I x2), some (I x3)] [] s (rec x2 x3 s)) (x2 : Int) (x3 : Int) (s : Obj) : GQ (XA l Z n0 CN FF cv h0) collectChildren_I 0 0 45 [some (Rf 0), some (I x1), some (I x2), some (I x3)] [] s (collectChildren_j45 rec x1 x2 x3 s) := by
  unfold collectChildren_j45
  refine GQ.iinc (L' := [some (Rf 0), some (I x1), some (I x2), some (I (aAdd x3 1))]) (pc' := 48) collectChildren_d45 rfl rfl rfl rfl ?_
  refine GQ.goto (pc' := 4) collectChildren_d48 rfl rfl ?_
  exact hrec x2 (aAdd x3 1) s
set_option maxRecDepth 65536 in
set_option maxHeartbeats 4000000 in
theorem collectChildren_l4b_ok {l : Launch} {Z : State} {a0 : Array Value} {n0 : Nat} {cv : Nat → Nat} {h0 : Heap} (hw : Words a0 Z) (K : KA a0 Z n0 CN nI FF cv) (x1 : Int) {rec : Int → Int → Obj → Option (Int × Obj)} (hrec : ∀ (x2 : Int) (x3 : Int) (s : Obj), GQ (XA l Z n0 CN FF cv h0) collectChildren_I 0 0 4 [some (Rf 0), some (I x1), some (I x2), some (I x3)] [] s (rec x2 x3 s)) (x2 : Int) (x3 : Int) (s : Obj) : GQ (XA l Z n0 CN FF cv h0) collectChildren_I 0 0 4 [some (Rf 0), some (I x1), some (I x2), some (I x3)] [] s (collectChildren_l4b x1 rec x2 x3 s) := by
  unfold collectChildren_l4b
  refine GQ.iloadN (pc' := 5) collectChildren_d4 rfl rfl ?_
  refine GQ.aloadN (pc' := 6) collectChildren_d5 rfl rfl ?_
  refine GQ.getI (M := collectChildren_I) (k := 31) (pc' := 9) rfl (wd108 hw) collectChildren_d6 rfl ?_
  refine GQ.icmpF (pcT := 51) (pcF := 12) h_ge collectChildren_d9 rfl rfl rfl ?_ ?_
  · refine GQ.iloadN (pc' := 52) collectChildren_d51 rfl rfl ?_
    exact GQ.iret rfl collectChildren_d52
  refine GQ.iloadN (pc' := 13) collectChildren_d12 rfl rfl ?_
  refine GQ.bipush (pc' := 15) collectChildren_d13 rfl rfl ?_
  refine GQ.icmpF (pcT := 51) (pcF := 18) h_ge collectChildren_d15 rfl rfl rfl ?_ ?_
  · refine GQ.iloadN (pc' := 52) collectChildren_d51 rfl rfl ?_
    exact GQ.iret rfl collectChildren_d52
  refine GQ.aloadN (pc' := 19) collectChildren_d18 rfl rfl ?_
  refine GQ.getA (M := collectChildren_I) (k := 33) (pc' := 22) rfl (by decide) (wd68 hw) collectChildren_d19 rfl ?_
  refine GQ.iloadN (pc' := 23) collectChildren_d22 rfl rfl ?_
  refine GQ.rd (k := 33) (ins := .baload) (pc' := 24) rfl (by decide) (Or.inr (Or.inl ⟨rfl, rfl⟩)) collectChildren_d23 rfl (fun z23 => ?_)
  refine GQ.iloadN (pc' := 25) collectChildren_d24 rfl rfl ?_
  refine GQ.icmpF (pcT := 45) (pcF := 28) h_ne collectChildren_d25 rfl rfl rfl ?_ ?_
  · exact collectChildren_j45_ok hw K hrec x2 x3 s
  refine GQ.iloadN (pc' := 29) collectChildren_d28 rfl rfl ?_
  refine GQ.bipush (pc' := 31) collectChildren_d29 rfl rfl ?_
  refine GQ.icmpF (pcT := 45) (pcF := 34) h_ge collectChildren_d31 rfl rfl rfl ?_ ?_
  · exact collectChildren_j45_ok hw K hrec x2 x3 s
  refine GQ.aloadN (pc' := 35) collectChildren_d34 rfl rfl ?_
  refine GQ.getA (M := collectChildren_I) (k := 50) (pc' := 38) rfl (by decide) (wd96 hw) collectChildren_d35 rfl ?_
  refine GQ.iloadN (pc' := 39) collectChildren_d38 rfl rfl ?_
  refine GQ.iloadN (pc' := 40) collectChildren_d39 rfl rfl ?_
  refine GQ.i2b (pc' := 41) collectChildren_d40 rfl ?_
  refine GQ.wr (k := 50) (ins := .bastore) (pc' := 42) K rfl (by decide) (Or.inr (Or.inl ⟨rfl, rfl⟩)) collectChildren_d41 rfl (fun s41 => ?_)
  refine GQ.iinc (L' := [some (Rf 0), some (I x1), some (I (aAdd x2 1)), some (I x3)]) (pc' := 45) collectChildren_d42 rfl rfl rfl rfl ?_
  exact collectChildren_j45_ok hw K hrec (aAdd x2 1) x3 s41
set_option maxRecDepth 65536 in
set_option maxHeartbeats 4000000 in
theorem collectChildren_l4_ok {l : Launch} {Z : State} {a0 : Array Value} {n0 : Nat} {cv : Nat → Nat} {h0 : Heap} (hw : Words a0 Z) (K : KA a0 Z n0 CN nI FF cv) (x1 : Int) : ∀ (fu : Nat) (x2 : Int) (x3 : Int) (s : Obj), GQ (XA l Z n0 CN FF cv h0) collectChildren_I 0 0 4 [some (Rf 0), some (I x1), some (I x2), some (I x3)] [] s (collectChildren_l4 x1 fu x2 x3 s)
  | 0 => fun _ _ _ => GQ.no
  | fu + 1 => collectChildren_l4b_ok hw K x1 (collectChildren_l4_ok hw K x1 fu)
set_option maxRecDepth 65536 in
set_option maxHeartbeats 4000000 in
theorem collectChildren_M_ok {l : Launch} {Z : State} {a0 : Array Value} {n0 : Nat} {cv : Nat → Nat} {h0 : Heap} (hw : Words a0 Z) (K : KA a0 Z n0 CN nI FF cv) (x1 : Int) (s : Obj) : GQ (XA l Z n0 CN FF cv h0) collectChildren_I 0 0 0 (entry [Rf 0, I x1] collectChildren_I.2.2.1) [] s (collectChildren_M x1 s) := by
  show GQ _ _ _ _ 0 [some (Rf 0), some (I x1), none, none] [] _ _
  unfold collectChildren_M
  refine GQ.iconst (pc' := 1) collectChildren_d0 rfl rfl ?_
  refine GQ.istoreN (L' := [some (Rf 0), some (I x1), some (I 0), none]) (pc' := 2) collectChildren_d1 rfl rfl rfl ?_
  refine GQ.iconst (pc' := 3) collectChildren_d2 rfl rfl ?_
  refine GQ.istoreN (L' := [some (Rf 0), some (I x1), some (I 0), some (I 1)]) (pc' := 4) collectChildren_d3 rfl rfl rfl ?_
  exact collectChildren_l4_ok hw K x1 FU 0 1 s
def sortChildren_I : Mi := (⟨"SquashImage", "sortChildren", "(I)V"⟩, prog_1_method_24_code, 6, none, 0, 0)
theorem sortChildren_d0 : decode sortChildren_I.2.1 0 = .ok (.iconst 1, 1) := by decide +kernel
theorem sortChildren_d1 : decode sortChildren_I.2.1 1 = .ok (.istore_n 2, 1) := by decide +kernel
theorem sortChildren_d2 : decode sortChildren_I.2.1 2 = .ok (.iload_n 2, 1) := by decide +kernel
theorem sortChildren_d3 : decode sortChildren_I.2.1 3 = .ok (.iload_n 1, 1) := by decide +kernel
theorem sortChildren_d4 : decode sortChildren_I.2.1 4 = .ok (.if_icmp .ge 79, 3) := by decide +kernel
theorem sortChildren_d7 : decode sortChildren_I.2.1 7 = .ok (.iload_n 2, 1) := by decide +kernel
theorem sortChildren_d8 : decode sortChildren_I.2.1 8 = .ok (.bipush 16, 2) := by decide +kernel
theorem sortChildren_d10 : decode sortChildren_I.2.1 10 = .ok (.if_icmp .ge 73, 3) := by decide +kernel
theorem sortChildren_d13 : decode sortChildren_I.2.1 13 = .ok (.iload_n 2, 1) := by decide +kernel
theorem sortChildren_d14 : decode sortChildren_I.2.1 14 = .ok (.istore_n 3, 1) := by decide +kernel
theorem sortChildren_d15 : decode sortChildren_I.2.1 15 = .ok (.iload_n 3, 1) := by decide +kernel
theorem sortChildren_d16 : decode sortChildren_I.2.1 16 = .ok (.ifCond .le 61, 3) := by decide +kernel
theorem sortChildren_d19 : decode sortChildren_I.2.1 19 = .ok (.aload_n 0, 1) := by decide +kernel
theorem sortChildren_d20 : decode sortChildren_I.2.1 20 = .ok (.getfield 139, 3) := by decide +kernel
theorem sortChildren_d23 : decode sortChildren_I.2.1 23 = .ok (.iload_n 3, 1) := by decide +kernel
theorem sortChildren_d24 : decode sortChildren_I.2.1 24 = .ok (.baload, 1) := by decide +kernel
theorem sortChildren_d25 : decode sortChildren_I.2.1 25 = .ok (.istore 4, 2) := by decide +kernel
theorem sortChildren_d27 : decode sortChildren_I.2.1 27 = .ok (.aload_n 0, 1) := by decide +kernel
theorem sortChildren_d28 : decode sortChildren_I.2.1 28 = .ok (.getfield 139, 3) := by decide +kernel
theorem sortChildren_d31 : decode sortChildren_I.2.1 31 = .ok (.iload_n 3, 1) := by decide +kernel
theorem sortChildren_d32 : decode sortChildren_I.2.1 32 = .ok (.iconst 1, 1) := by decide +kernel
theorem sortChildren_d33 : decode sortChildren_I.2.1 33 = .ok (.isub, 1) := by decide +kernel
theorem sortChildren_d34 : decode sortChildren_I.2.1 34 = .ok (.baload, 1) := by decide +kernel
theorem sortChildren_d35 : decode sortChildren_I.2.1 35 = .ok (.istore 5, 2) := by decide +kernel
theorem sortChildren_d37 : decode sortChildren_I.2.1 37 = .ok (.aload_n 0, 1) := by decide +kernel
theorem sortChildren_d38 : decode sortChildren_I.2.1 38 = .ok (.iload 4, 2) := by decide +kernel
theorem sortChildren_d40 : decode sortChildren_I.2.1 40 = .ok (.iload 5, 2) := by decide +kernel
theorem sortChildren_d42 : decode sortChildren_I.2.1 42 = .ok (.invokevirtual 264, 3) := by decide +kernel
theorem sortChildren_d45 : decode sortChildren_I.2.1 45 = .ok (.ifCond .lt 6, 3) := by decide +kernel
theorem sortChildren_d48 : decode sortChildren_I.2.1 48 = .ok (.goto 29, 3) := by decide +kernel
theorem sortChildren_d51 : decode sortChildren_I.2.1 51 = .ok (.aload_n 0, 1) := by decide +kernel
theorem sortChildren_d52 : decode sortChildren_I.2.1 52 = .ok (.getfield 139, 3) := by decide +kernel
theorem sortChildren_d55 : decode sortChildren_I.2.1 55 = .ok (.iload_n 3, 1) := by decide +kernel
theorem sortChildren_d56 : decode sortChildren_I.2.1 56 = .ok (.iload 5, 2) := by decide +kernel
theorem sortChildren_d58 : decode sortChildren_I.2.1 58 = .ok (.i2b, 1) := by decide +kernel
theorem sortChildren_d59 : decode sortChildren_I.2.1 59 = .ok (.bastore, 1) := by decide +kernel
theorem sortChildren_d60 : decode sortChildren_I.2.1 60 = .ok (.aload_n 0, 1) := by decide +kernel
theorem sortChildren_d61 : decode sortChildren_I.2.1 61 = .ok (.getfield 139, 3) := by decide +kernel
theorem sortChildren_d64 : decode sortChildren_I.2.1 64 = .ok (.iload_n 3, 1) := by decide +kernel
theorem sortChildren_d65 : decode sortChildren_I.2.1 65 = .ok (.iconst 1, 1) := by decide +kernel
theorem sortChildren_d66 : decode sortChildren_I.2.1 66 = .ok (.isub, 1) := by decide +kernel
theorem sortChildren_d67 : decode sortChildren_I.2.1 67 = .ok (.iload 4, 2) := by decide +kernel
theorem sortChildren_d69 : decode sortChildren_I.2.1 69 = .ok (.i2b, 1) := by decide +kernel
theorem sortChildren_d70 : decode sortChildren_I.2.1 70 = .ok (.bastore, 1) := by decide +kernel
theorem sortChildren_d71 : decode sortChildren_I.2.1 71 = .ok (.iinc 3 (-1), 3) := by decide +kernel
theorem sortChildren_d74 : decode sortChildren_I.2.1 74 = .ok (.goto (-59), 3) := by decide +kernel
theorem sortChildren_d77 : decode sortChildren_I.2.1 77 = .ok (.iinc 2 1, 3) := by decide +kernel
theorem sortChildren_d80 : decode sortChildren_I.2.1 80 = .ok (.goto (-78), 3) := by decide +kernel
theorem sortChildren_d83 : decode sortChildren_I.2.1 83 = .ok (.return_, 1) := by decide +kernel
theorem sortChildren_p : parseMethodDescriptor sortChildren_I.1.desc = some ⟨[.int], none⟩ := by decide +kernel
theorem sortChildren_K {a0 : Array Value} {Z : State} {M : Mi} (hw : Words a0 Z) (h : sortChildren_I.2.2.2.2.1 + 1 ≤ M.2.2.2.2.1) : Callee a0 Z M sortChildren_I 1 := ⟨pnC, (wd209 hw), (wd2 hw), h, by decide, fun sig q => by cases sortChildren_p.symm.trans q; rfl⟩
set_option maxRecDepth 65536 in
set_option maxHeartbeats 4000000 in
theorem sortChildren_l15b_ok {l : Launch} {Z : State} {a0 : Array Value} {n0 : Nat} {cv : Nat → Nat} {h0 : Heap} (hw : Words a0 Z) (K : KA a0 Z n0 CN nI FF cv) (x1 : Int) (x2 : Int) {k48 : Obj → Option (Int × Obj)} {k77 : Obj → Option (Int × Obj)} (hk48 : ∀  (s : Obj), GQ (XA l Z n0 CN FF cv h0) sortChildren_I 0 0 48 [some (Rf 0), some (I x1), some (I x2), none, none, none] [] s (k48 s)) (hk77 : ∀  (s : Obj), GQ (XA l Z n0 CN FF cv h0) sortChildren_I 0 0 77 [some (Rf 0), some (I x1), some (I x2), none, none, none] [] s (k77 s)) {rec : Int → Obj → Option (Int × Obj)} (hrec : ∀ (x3 : Int) (s : Obj), GQ (XA l Z n0 CN FF cv h0) sortChildren_I 0 0 15 [some (Rf 0), some (I x1), some (I x2), some (I x3), none, none] [] s (rec x3 s)) (x3 : Int) (s : Obj) : GQ (XA l Z n0 CN FF cv h0) sortChildren_I 0 0 15 [some (Rf 0), some (I x1), some (I x2), some (I x3), none, none] [] s (sortChildren_l15b k48 k77 rec x3 s) := by
  unfold sortChildren_l15b
  refine GQ.iloadN (pc' := 16) sortChildren_d15 rfl rfl ?_
  refine GQ.ifF (pcT := 77) (pcF := 19) h_le sortChildren_d16 rfl rfl rfl ?_ ?_
  · refine GQ.weak (L' := [some (Rf 0), some (I x1), some (I x2), none, none, none]) (Sub.keep (Sub.keep (Sub.keep (Sub.drop (Sub.keep (Sub.keep Sub.nil)))))) ?_
    exact hk77 s
  refine GQ.aloadN (pc' := 20) sortChildren_d19 rfl rfl ?_
  refine GQ.getA (M := sortChildren_I) (k := 50) (pc' := 23) rfl (by decide) (wd96 hw) sortChildren_d20 rfl ?_
  refine GQ.iloadN (pc' := 24) sortChildren_d23 rfl rfl ?_
  refine GQ.rd (k := 50) (ins := .baload) (pc' := 25) rfl (by decide) (Or.inr (Or.inl ⟨rfl, rfl⟩)) sortChildren_d24 rfl (fun z24 => ?_)
  refine GQ.istore (L' := [some (Rf 0), some (I x1), some (I x2), some (I x3), some (I z24), none]) (pc' := 27) sortChildren_d25 rfl rfl rfl ?_
  refine GQ.aloadN (pc' := 28) sortChildren_d27 rfl rfl ?_
  refine GQ.getA (M := sortChildren_I) (k := 50) (pc' := 31) rfl (by decide) (wd96 hw) sortChildren_d28 rfl ?_
  refine GQ.iloadN (pc' := 32) sortChildren_d31 rfl rfl ?_
  refine GQ.iconst (pc' := 33) sortChildren_d32 rfl rfl ?_
  refine GQ.isub (pc' := 34) sortChildren_d33 rfl ?_
  refine GQ.rd (k := 50) (ins := .baload) (pc' := 35) rfl (by decide) (Or.inr (Or.inl ⟨rfl, rfl⟩)) sortChildren_d34 rfl (fun z34 => ?_)
  refine GQ.istore (L' := [some (Rf 0), some (I x1), some (I x2), some (I x3), some (I z24), some (I z34)]) (pc' := 37) sortChildren_d35 rfl rfl rfl ?_
  refine GQ.aloadN (pc' := 38) sortChildren_d37 rfl rfl ?_
  refine GQ.iload (pc' := 40) sortChildren_d38 rfl rfl ?_
  refine GQ.iload (pc' := 42) sortChildren_d40 rfl rfl ?_
  exact GQ.no
set_option maxRecDepth 65536 in
set_option maxHeartbeats 4000000 in
theorem sortChildren_l15_ok {l : Launch} {Z : State} {a0 : Array Value} {n0 : Nat} {cv : Nat → Nat} {h0 : Heap} (hw : Words a0 Z) (K : KA a0 Z n0 CN nI FF cv) (x1 : Int) (x2 : Int) {k48 : Obj → Option (Int × Obj)} {k77 : Obj → Option (Int × Obj)} (hk48 : ∀  (s : Obj), GQ (XA l Z n0 CN FF cv h0) sortChildren_I 0 0 48 [some (Rf 0), some (I x1), some (I x2), none, none, none] [] s (k48 s)) (hk77 : ∀  (s : Obj), GQ (XA l Z n0 CN FF cv h0) sortChildren_I 0 0 77 [some (Rf 0), some (I x1), some (I x2), none, none, none] [] s (k77 s)) : ∀ (fu : Nat) (x3 : Int) (s : Obj), GQ (XA l Z n0 CN FF cv h0) sortChildren_I 0 0 15 [some (Rf 0), some (I x1), some (I x2), some (I x3), none, none] [] s (sortChildren_l15 k48 k77 fu x3 s)
  | 0 => fun _ _ => GQ.no
  | fu + 1 => sortChildren_l15b_ok hw K x1 x2 hk48 hk77 (sortChildren_l15_ok hw K x1 x2 hk48 hk77 fu)
set_option maxRecDepth 65536 in
set_option maxHeartbeats 4000000 in
theorem sortChildren_j77_ok {l : Launch} {Z : State} {a0 : Array Value} {n0 : Nat} {cv : Nat → Nat} {h0 : Heap} (hw : Words a0 Z) (K : KA a0 Z n0 CN nI FF cv) {x1 : Int} {rec : Int → Obj → Option (Int × Obj)} (hrec : ∀ (x2 : Int) (s : Obj), GQ (XA l Z n0 CN FF cv h0) sortChildren_I 0 0 2 [some (Rf 0), some (I x1), some (I x2), none, none, none] [] s (rec x2 s)) (x2 : Int) (s : Obj) : GQ (XA l Z n0 CN FF cv h0) sortChildren_I 0 0 77 [some (Rf 0), some (I x1), some (I x2), none, none, none] [] s (sortChildren_j77 rec x1 x2 s) := by
  unfold sortChildren_j77
  refine GQ.iinc (L' := [some (Rf 0), some (I x1), some (I (aAdd x2 1)), none, none, none]) (pc' := 80) sortChildren_d77 rfl rfl rfl rfl ?_
  refine GQ.goto (pc' := 2) sortChildren_d80 rfl rfl ?_
  exact hrec (aAdd x2 1) s
set_option maxRecDepth 65536 in
set_option maxHeartbeats 4000000 in
theorem sortChildren_l2b_ok {l : Launch} {Z : State} {a0 : Array Value} {n0 : Nat} {cv : Nat → Nat} {h0 : Heap} (hw : Words a0 Z) (K : KA a0 Z n0 CN nI FF cv) (x1 : Int) {rec : Int → Obj → Option (Int × Obj)} (hrec : ∀ (x2 : Int) (s : Obj), GQ (XA l Z n0 CN FF cv h0) sortChildren_I 0 0 2 [some (Rf 0), some (I x1), some (I x2), none, none, none] [] s (rec x2 s)) (x2 : Int) (s : Obj) : GQ (XA l Z n0 CN FF cv h0) sortChildren_I 0 0 2 [some (Rf 0), some (I x1), some (I x2), none, none, none] [] s (sortChildren_l2b x1 rec x2 s) := by
  unfold sortChildren_l2b
  refine GQ.iloadN (pc' := 3) sortChildren_d2 rfl rfl ?_
  refine GQ.iloadN (pc' := 4) sortChildren_d3 rfl rfl ?_
  refine GQ.icmpF (pcT := 83) (pcF := 7) h_ge sortChildren_d4 rfl rfl rfl ?_ ?_
  · exact GQ.ret rfl sortChildren_d83
  refine GQ.iloadN (pc' := 8) sortChildren_d7 rfl rfl ?_
  refine GQ.bipush (pc' := 10) sortChildren_d8 rfl rfl ?_
  refine GQ.icmpF (pcT := 83) (pcF := 13) h_ge sortChildren_d10 rfl rfl rfl ?_ ?_
  · exact GQ.ret rfl sortChildren_d83
  refine GQ.iloadN (pc' := 14) sortChildren_d13 rfl rfl ?_
  refine GQ.istoreN (L' := [some (Rf 0), some (I x1), some (I x2), some (I x2), none, none]) (pc' := 15) sortChildren_d14 rfl rfl rfl ?_
  refine sortChildren_l15_ok hw K x1 x2 (fun s48 => ?_) (fun s77 => ?_) FU x2 s
  · refine GQ.goto (pc' := 77) sortChildren_d48 rfl rfl ?_
    exact sortChildren_j77_ok hw K hrec x2 s48
  exact sortChildren_j77_ok hw K hrec x2 s77
set_option maxRecDepth 65536 in
set_option maxHeartbeats 4000000 in
theorem sortChildren_l2_ok {l : Launch} {Z : State} {a0 : Array Value} {n0 : Nat} {cv : Nat → Nat} {h0 : Heap} (hw : Words a0 Z) (K : KA a0 Z n0 CN nI FF cv) (x1 : Int) : ∀ (fu : Nat) (x2 : Int) (s : Obj), GQ (XA l Z n0 CN FF cv h0) sortChildren_I 0 0 2 [some (Rf 0), some (I x1), some (I x2), none, none, none] [] s (sortChildren_l2 x1 fu x2 s)
  | 0 => fun _ _ => GQ.no
  | fu + 1 => sortChildren_l2b_ok hw K x1 (sortChildren_l2_ok hw K x1 fu)
set_option maxRecDepth 65536 in
set_option maxHeartbeats 4000000 in
theorem sortChildren_M_ok {l : Launch} {Z : State} {a0 : Array Value} {n0 : Nat} {cv : Nat → Nat} {h0 : Heap} (hw : Words a0 Z) (K : KA a0 Z n0 CN nI FF cv) (x1 : Int) (s : Obj) : GQ (XA l Z n0 CN FF cv h0) sortChildren_I 0 0 0 (entry [Rf 0, I x1] sortChildren_I.2.2.1) [] s (sortChildren_M x1 s) := by
  show GQ _ _ _ _ 0 [some (Rf 0), some (I x1), none, none, none, none] [] _ _
  unfold sortChildren_M
  refine GQ.iconst (pc' := 1) sortChildren_d0 rfl rfl ?_
  refine GQ.istoreN (L' := [some (Rf 0), some (I x1), some (I 1), none, none, none]) (pc' := 2) sortChildren_d1 rfl rfl rfl ?_
  exact sortChildren_l2_ok hw K x1 FU 1 s
def writeEntry_I : Mi := (⟨"SquashImage", "writeEntry", "(I)V"⟩, prog_1_method_22_code, 4, none, 1, 14)
theorem writeEntry_d0 : decode writeEntry_I.2.1 0 = .ok (.iload_n 1, 1) := by decide +kernel
theorem writeEntry_d1 : decode writeEntry_I.2.1 1 = .ok (.ifCond .lt 9, 3) := by decide +kernel
theorem writeEntry_d4 : decode writeEntry_I.2.1 4 = .ok (.iload_n 1, 1) := by decide +kernel
theorem writeEntry_d5 : decode writeEntry_I.2.1 5 = .ok (.bipush 16, 2) := by decide +kernel
theorem writeEntry_d7 : decode writeEntry_I.2.1 7 = .ok (.if_icmp .lt 4, 3) := by decide +kernel
theorem writeEntry_d10 : decode writeEntry_I.2.1 10 = .ok (.return_, 1) := by decide +kernel
theorem writeEntry_d11 : decode writeEntry_I.2.1 11 = .ok (.aload_n 0, 1) := by decide +kernel
theorem writeEntry_d12 : decode writeEntry_I.2.1 12 = .ok (.getfield 101, 3) := by decide +kernel
theorem writeEntry_d15 : decode writeEntry_I.2.1 15 = .ok (.iload_n 1, 1) := by decide +kernel
theorem writeEntry_d16 : decode writeEntry_I.2.1 16 = .ok (.baload, 1) := by decide +kernel
theorem writeEntry_d17 : decode writeEntry_I.2.1 17 = .ok (.istore_n 2, 1) := by decide +kernel
theorem writeEntry_d18 : decode writeEntry_I.2.1 18 = .ok (.aload_n 0, 1) := by decide +kernel
theorem writeEntry_d19 : decode writeEntry_I.2.1 19 = .ok (.aload_n 0, 1) := by decide +kernel
theorem writeEntry_d20 : decode writeEntry_I.2.1 20 = .ok (.getfield 227, 3) := by decide +kernel
theorem writeEntry_d23 : decode writeEntry_I.2.1 23 = .ok (.iload_n 1, 1) := by decide +kernel
theorem writeEntry_d24 : decode writeEntry_I.2.1 24 = .ok (.invokevirtual 221, 3) := by decide +kernel
theorem writeEntry_d27 : decode writeEntry_I.2.1 27 = .ok (.aload_n 0, 1) := by decide +kernel
theorem writeEntry_d28 : decode writeEntry_I.2.1 28 = .ok (.aload_n 0, 1) := by decide +kernel
theorem writeEntry_d29 : decode writeEntry_I.2.1 29 = .ok (.getfield 227, 3) := by decide +kernel
theorem writeEntry_d32 : decode writeEntry_I.2.1 32 = .ok (.iconst 1, 1) := by decide +kernel
theorem writeEntry_d33 : decode writeEntry_I.2.1 33 = .ok (.iadd, 1) := by decide +kernel
theorem writeEntry_d34 : decode writeEntry_I.2.1 34 = .ok (.iload_n 2, 1) := by decide +kernel
theorem writeEntry_d35 : decode writeEntry_I.2.1 35 = .ok (.invokevirtual 221, 3) := by decide +kernel
theorem writeEntry_d38 : decode writeEntry_I.2.1 38 = .ok (.iconst 0, 1) := by decide +kernel
theorem writeEntry_d39 : decode writeEntry_I.2.1 39 = .ok (.istore_n 3, 1) := by decide +kernel
theorem writeEntry_d40 : decode writeEntry_I.2.1 40 = .ok (.iload_n 3, 1) := by decide +kernel
theorem writeEntry_d41 : decode writeEntry_I.2.1 41 = .ok (.bipush 8, 2) := by decide +kernel
theorem writeEntry_d43 : decode writeEntry_I.2.1 43 = .ok (.if_icmp .ge 41, 3) := by decide +kernel
theorem writeEntry_d46 : decode writeEntry_I.2.1 46 = .ok (.aload_n 0, 1) := by decide +kernel
theorem writeEntry_d47 : decode writeEntry_I.2.1 47 = .ok (.aload_n 0, 1) := by decide +kernel
theorem writeEntry_d48 : decode writeEntry_I.2.1 48 = .ok (.getfield 227, 3) := by decide +kernel
theorem writeEntry_d51 : decode writeEntry_I.2.1 51 = .ok (.iconst 2, 1) := by decide +kernel
theorem writeEntry_d52 : decode writeEntry_I.2.1 52 = .ok (.iadd, 1) := by decide +kernel
theorem writeEntry_d53 : decode writeEntry_I.2.1 53 = .ok (.iload_n 3, 1) := by decide +kernel
theorem writeEntry_d54 : decode writeEntry_I.2.1 54 = .ok (.iadd, 1) := by decide +kernel
theorem writeEntry_d55 : decode writeEntry_I.2.1 55 = .ok (.iload_n 3, 1) := by decide +kernel
theorem writeEntry_d56 : decode writeEntry_I.2.1 56 = .ok (.iload_n 2, 1) := by decide +kernel
theorem writeEntry_d57 : decode writeEntry_I.2.1 57 = .ok (.if_icmp .ge 17, 3) := by decide +kernel
theorem writeEntry_d60 : decode writeEntry_I.2.1 60 = .ok (.aload_n 0, 1) := by decide +kernel
theorem writeEntry_d61 : decode writeEntry_I.2.1 61 = .ok (.getfield 104, 3) := by decide +kernel
theorem writeEntry_d64 : decode writeEntry_I.2.1 64 = .ok (.iload_n 1, 1) := by decide +kernel
theorem writeEntry_d65 : decode writeEntry_I.2.1 65 = .ok (.bipush 8, 2) := by decide +kernel
theorem writeEntry_d67 : decode writeEntry_I.2.1 67 = .ok (.imul, 1) := by decide +kernel
theorem writeEntry_d68 : decode writeEntry_I.2.1 68 = .ok (.iload_n 3, 1) := by decide +kernel
theorem writeEntry_d69 : decode writeEntry_I.2.1 69 = .ok (.iadd, 1) := by decide +kernel
theorem writeEntry_d70 : decode writeEntry_I.2.1 70 = .ok (.caload, 1) := by decide +kernel
theorem writeEntry_d71 : decode writeEntry_I.2.1 71 = .ok (.goto 4, 3) := by decide +kernel
theorem writeEntry_d74 : decode writeEntry_I.2.1 74 = .ok (.iconst 0, 1) := by decide +kernel
theorem writeEntry_d75 : decode writeEntry_I.2.1 75 = .ok (.invokevirtual 221, 3) := by decide +kernel
theorem writeEntry_d78 : decode writeEntry_I.2.1 78 = .ok (.iinc 3 1, 3) := by decide +kernel
theorem writeEntry_d81 : decode writeEntry_I.2.1 81 = .ok (.goto (-41), 3) := by decide +kernel
theorem writeEntry_d84 : decode writeEntry_I.2.1 84 = .ok (.aload_n 0, 1) := by decide +kernel
theorem writeEntry_d85 : decode writeEntry_I.2.1 85 = .ok (.dup, 1) := by decide +kernel
theorem writeEntry_d86 : decode writeEntry_I.2.1 86 = .ok (.getfield 227, 3) := by decide +kernel
theorem writeEntry_d89 : decode writeEntry_I.2.1 89 = .ok (.bipush 10, 2) := by decide +kernel
theorem writeEntry_d91 : decode writeEntry_I.2.1 91 = .ok (.iadd, 1) := by decide +kernel
theorem writeEntry_d92 : decode writeEntry_I.2.1 92 = .ok (.putfield 227, 3) := by decide +kernel
theorem writeEntry_d95 : decode writeEntry_I.2.1 95 = .ok (.return_, 1) := by decide +kernel
theorem writeEntry_p : parseMethodDescriptor writeEntry_I.1.desc = some ⟨[.int], none⟩ := by decide +kernel
theorem writeEntry_K {a0 : Array Value} {Z : State} {M : Mi} (hw : Words a0 Z) (h : writeEntry_I.2.2.2.2.1 + 1 ≤ M.2.2.2.2.1) : Callee a0 Z M writeEntry_I 1 := ⟨pnC, (wd225 hw), (wd2 hw), h, by decide, fun sig q => by cases writeEntry_p.symm.trans q; rfl⟩
set_option maxRecDepth 65536 in
set_option maxHeartbeats 4000000 in
theorem writeEntry_j75_ok {l : Launch} {Z : State} {a0 : Array Value} {n0 : Nat} {cv : Nat → Nat} {h0 : Heap} (hw : Words a0 Z) (K : KA a0 Z n0 CN nI FF cv) {x1 x2 : Int} {rec : Int → Obj → Option (Int × Obj)} (hrec : ∀ (x3 : Int) (s : Obj), GQ (XA l Z n0 CN FF cv h0) writeEntry_I 0 0 40 [some (Rf 0), some (I x1), some (I x2), some (I x3)] [] s (rec x3 s)) (x3 : Int) (y0 : Int) (y1 : Int) (s : Obj) : GQ (XA l Z n0 CN FF cv h0) writeEntry_I 0 0 75 [some (Rf 0), some (I x1), some (I x2), some (I x3)] [I y0, I y1, Rf 0] s (writeEntry_j75 rec x1 x2 x3 y0 y1 s) := by
  unfold writeEntry_j75
  refine GQ.callP (Mc := put8_I) (args0 := [I y1, I y0]) (S := []) (r := 0) (pc' := 78) (put8_K hw (by decide)) rfl writeEntry_d75 rfl (wd188 hw) (wd189 hw) (wd190 hw) (wd1 hw) XA.recv rfl (put8_M_ok hw K y1 y0 s) rfl (fun _ s75 => ?_)
  show GQ (XA l Z n0 CN FF cv h0) writeEntry_I _ _ 78 [some (Rf 0), some (I x1), some (I x2), some (I x3)] [] s75 _
  refine GQ.iinc (L' := [some (Rf 0), some (I x1), some (I x2), some (I (aAdd x3 1))]) (pc' := 81) writeEntry_d78 rfl rfl rfl rfl ?_
  refine GQ.goto (pc' := 40) writeEntry_d81 rfl rfl ?_
  exact hrec (aAdd x3 1) s75
set_option maxRecDepth 65536 in
set_option maxHeartbeats 4000000 in
theorem writeEntry_l40b_ok {l : Launch} {Z : State} {a0 : Array Value} {n0 : Nat} {cv : Nat → Nat} {h0 : Heap} (hw : Words a0 Z) (K : KA a0 Z n0 CN nI FF cv) (x1 : Int) (x2 : Int) {rec : Int → Obj → Option (Int × Obj)} (hrec : ∀ (x3 : Int) (s : Obj), GQ (XA l Z n0 CN FF cv h0) writeEntry_I 0 0 40 [some (Rf 0), some (I x1), some (I x2), some (I x3)] [] s (rec x3 s)) (x3 : Int) (s : Obj) : GQ (XA l Z n0 CN FF cv h0) writeEntry_I 0 0 40 [some (Rf 0), some (I x1), some (I x2), some (I x3)] [] s (writeEntry_l40b x1 x2 rec x3 s) := by
  unfold writeEntry_l40b
  refine GQ.iloadN (pc' := 41) writeEntry_d40 rfl rfl ?_
  refine GQ.bipush (pc' := 43) writeEntry_d41 rfl rfl ?_
  refine GQ.icmpF (pcT := 84) (pcF := 46) h_ge writeEntry_d43 rfl rfl rfl ?_ ?_
  · refine GQ.aloadN (pc' := 85) writeEntry_d84 rfl rfl ?_
    refine GQ.dupR (pc' := 86) writeEntry_d85 rfl ?_
    refine GQ.getI (M := writeEntry_I) (k := 53) (pc' := 89) rfl (wd194 hw) writeEntry_d86 rfl ?_
    refine GQ.bipush (pc' := 91) writeEntry_d89 rfl rfl ?_
    refine GQ.iadd (pc' := 92) writeEntry_d91 rfl ?_
    refine GQ.putI (M := writeEntry_I) (k := 53) (pc' := 95) K rfl (wd194 hw) (wd195 hw) writeEntry_d92 rfl ?_
    refine GQ.letM (fun s92 => ?_)
    exact GQ.ret rfl writeEntry_d95
  refine GQ.aloadN (pc' := 47) writeEntry_d46 rfl rfl ?_
  refine GQ.aloadN (pc' := 48) writeEntry_d47 rfl rfl ?_
  refine GQ.getI (M := writeEntry_I) (k := 53) (pc' := 51) rfl (wd194 hw) writeEntry_d48 rfl ?_
  refine GQ.iconst (pc' := 52) writeEntry_d51 rfl rfl ?_
  refine GQ.iadd (pc' := 53) writeEntry_d52 rfl ?_
  refine GQ.iloadN (pc' := 54) writeEntry_d53 rfl rfl ?_
  refine GQ.iadd (pc' := 55) writeEntry_d54 rfl ?_
  refine GQ.iloadN (pc' := 56) writeEntry_d55 rfl rfl ?_
  refine GQ.iloadN (pc' := 57) writeEntry_d56 rfl rfl ?_
  refine GQ.icmpF (pcT := 74) (pcF := 60) h_ge writeEntry_d57 rfl rfl rfl ?_ ?_
  · refine GQ.iconst (pc' := 75) writeEntry_d74 rfl rfl ?_
    exact writeEntry_j75_ok hw K hrec x3 0 (aAdd (aAdd (s.1 53) 2) x3) s
  refine GQ.aloadN (pc' := 61) writeEntry_d60 rfl rfl ?_
  refine GQ.getA (M := writeEntry_I) (k := 35) (pc' := 64) rfl (by decide) (wd73 hw) writeEntry_d61 rfl ?_
  refine GQ.iloadN (pc' := 65) writeEntry_d64 rfl rfl ?_
  refine GQ.bipush (pc' := 67) writeEntry_d65 rfl rfl ?_
  refine GQ.imul (pc' := 68) writeEntry_d67 rfl ?_
  refine GQ.iloadN (pc' := 69) writeEntry_d68 rfl rfl ?_
  refine GQ.iadd (pc' := 70) writeEntry_d69 rfl ?_
  refine GQ.rd (k := 35) (ins := .caload) (pc' := 71) rfl (by decide) (Or.inr (Or.inr (Or.inr ⟨rfl, rfl⟩))) writeEntry_d70 rfl (fun z70 => ?_)
  refine GQ.goto (pc' := 75) writeEntry_d71 rfl rfl ?_
  exact writeEntry_j75_ok hw K hrec x3 z70 (aAdd (aAdd (s.1 53) 2) x3) s
set_option maxRecDepth 65536 in
set_option maxHeartbeats 4000000 in
theorem writeEntry_l40_ok {l : Launch} {Z : State} {a0 : Array Value} {n0 : Nat} {cv : Nat → Nat} {h0 : Heap} (hw : Words a0 Z) (K : KA a0 Z n0 CN nI FF cv) (x1 : Int) (x2 : Int) : ∀ (fu : Nat) (x3 : Int) (s : Obj), GQ (XA l Z n0 CN FF cv h0) writeEntry_I 0 0 40 [some (Rf 0), some (I x1), some (I x2), some (I x3)] [] s (writeEntry_l40 x1 x2 fu x3 s)
  | 0 => fun _ _ => GQ.no
  | fu + 1 => writeEntry_l40b_ok hw K x1 x2 (writeEntry_l40_ok hw K x1 x2 fu)
set_option maxRecDepth 65536 in
set_option maxHeartbeats 4000000 in
theorem writeEntry_M_ok {l : Launch} {Z : State} {a0 : Array Value} {n0 : Nat} {cv : Nat → Nat} {h0 : Heap} (hw : Words a0 Z) (K : KA a0 Z n0 CN nI FF cv) (x1 : Int) (s : Obj) : GQ (XA l Z n0 CN FF cv h0) writeEntry_I 0 0 0 (entry [Rf 0, I x1] writeEntry_I.2.2.1) [] s (writeEntry_M x1 s) := by
  show GQ _ _ _ _ 0 [some (Rf 0), some (I x1), none, none] [] _ _
  unfold writeEntry_M
  refine GQ.iloadN (pc' := 1) writeEntry_d0 rfl rfl ?_
  refine GQ.ifT (pcT := 10) (pcF := 4) h_lt writeEntry_d1 rfl rfl rfl ?_ ?_
  · exact GQ.ret rfl writeEntry_d10
  refine GQ.iloadN (pc' := 5) writeEntry_d4 rfl rfl ?_
  refine GQ.bipush (pc' := 7) writeEntry_d5 rfl rfl ?_
  refine GQ.icmpT (pcT := 11) (pcF := 10) h_lt writeEntry_d7 rfl rfl rfl ?_ ?_
  · refine GQ.aloadN (pc' := 12) writeEntry_d11 rfl rfl ?_
    refine GQ.getA (M := writeEntry_I) (k := 34) (pc' := 15) rfl (by decide) (wd70 hw) writeEntry_d12 rfl ?_
    refine GQ.iloadN (pc' := 16) writeEntry_d15 rfl rfl ?_
    refine GQ.rd (k := 34) (ins := .baload) (pc' := 17) rfl (by decide) (Or.inr (Or.inl ⟨rfl, rfl⟩)) writeEntry_d16 rfl (fun z16 => ?_)
    refine GQ.istoreN (L' := [some (Rf 0), some (I x1), some (I z16), none]) (pc' := 18) writeEntry_d17 rfl rfl rfl ?_
    refine GQ.aloadN (pc' := 19) writeEntry_d18 rfl rfl ?_
    refine GQ.aloadN (pc' := 20) writeEntry_d19 rfl rfl ?_
    refine GQ.getI (M := writeEntry_I) (k := 53) (pc' := 23) rfl (wd194 hw) writeEntry_d20 rfl ?_
    refine GQ.iloadN (pc' := 24) writeEntry_d23 rfl rfl ?_
    refine GQ.callP (Mc := put8_I) (args0 := [I (s.1 53), I x1]) (S := []) (r := 0) (pc' := 27) (put8_K hw (by decide)) rfl writeEntry_d24 rfl (wd188 hw) (wd189 hw) (wd190 hw) (wd1 hw) XA.recv rfl (put8_M_ok hw K (s.1 53) x1 s) rfl (fun _ s24 => ?_)
    show GQ (XA l Z n0 CN FF cv h0) writeEntry_I _ _ 27 [some (Rf 0), some (I x1), some (I z16), none] [] s24 _
    refine GQ.aloadN (pc' := 28) writeEntry_d27 rfl rfl ?_
    refine GQ.aloadN (pc' := 29) writeEntry_d28 rfl rfl ?_
    refine GQ.getI (M := writeEntry_I) (k := 53) (pc' := 32) rfl (wd194 hw) writeEntry_d29 rfl ?_
    refine GQ.iconst (pc' := 33) writeEntry_d32 rfl rfl ?_
    refine GQ.iadd (pc' := 34) writeEntry_d33 rfl ?_
    refine GQ.iloadN (pc' := 35) writeEntry_d34 rfl rfl ?_
    refine GQ.callP (Mc := put8_I) (args0 := [I (aAdd (s24.1 53) 1), I z16]) (S := []) (r := 0) (pc' := 38) (put8_K hw (by decide)) rfl writeEntry_d35 rfl (wd188 hw) (wd189 hw) (wd190 hw) (wd1 hw) XA.recv rfl (put8_M_ok hw K (aAdd (s24.1 53) 1) z16 s24) rfl (fun _ s35 => ?_)
    show GQ (XA l Z n0 CN FF cv h0) writeEntry_I _ _ 38 [some (Rf 0), some (I x1), some (I z16), none] [] s35 _
    refine GQ.iconst (pc' := 39) writeEntry_d38 rfl rfl ?_
    refine GQ.istoreN (L' := [some (Rf 0), some (I x1), some (I z16), some (I 0)]) (pc' := 40) writeEntry_d39 rfl rfl rfl ?_
    exact writeEntry_l40_ok hw K x1 z16 FU 0 s35
  exact GQ.ret rfl writeEntry_d10
def writeDirNode_I : Mi := (⟨"SquashImage", "writeDirNode", "(I)V"⟩, prog_1_method_21_code, 5, none, 3, 42)
theorem writeDirNode_d0 : decode writeDirNode_I.2.1 0 = .ok (.aload_n 0, 1) := by decide +kernel
theorem writeDirNode_d1 : decode writeDirNode_I.2.1 1 = .ok (.iload_n 1, 1) := by decide +kernel
theorem writeDirNode_d2 : decode writeDirNode_I.2.1 2 = .ok (.invokevirtual 255, 3) := by decide +kernel
theorem writeDirNode_d5 : decode writeDirNode_I.2.1 5 = .ok (.istore_n 2, 1) := by decide +kernel
theorem writeDirNode_d6 : decode writeDirNode_I.2.1 6 = .ok (.aload_n 0, 1) := by decide +kernel
theorem writeDirNode_d7 : decode writeDirNode_I.2.1 7 = .ok (.iload_n 2, 1) := by decide +kernel
theorem writeDirNode_d8 : decode writeDirNode_I.2.1 8 = .ok (.invokevirtual 258, 3) := by decide +kernel
theorem writeDirNode_d11 : decode writeDirNode_I.2.1 11 = .ok (.aload_n 0, 1) := by decide +kernel
theorem writeDirNode_d12 : decode writeDirNode_I.2.1 12 = .ok (.iload_n 1, 1) := by decide +kernel
theorem writeDirNode_d13 : decode writeDirNode_I.2.1 13 = .ok (.invokevirtual 243, 3) := by decide +kernel
theorem writeDirNode_d16 : decode writeDirNode_I.2.1 16 = .ok (.istore_n 3, 1) := by decide +kernel
theorem writeDirNode_d17 : decode writeDirNode_I.2.1 17 = .ok (.aload_n 0, 1) := by decide +kernel
theorem writeDirNode_d18 : decode writeDirNode_I.2.1 18 = .ok (.iload_n 3, 1) := by decide +kernel
theorem writeDirNode_d19 : decode writeDirNode_I.2.1 19 = .ok (.iconst 0, 1) := by decide +kernel
theorem writeDirNode_d20 : decode writeDirNode_I.2.1 20 = .ok (.iadd, 1) := by decide +kernel
theorem writeDirNode_d21 : decode writeDirNode_I.2.1 21 = .ok (.iconst 1, 1) := by decide +kernel
theorem writeDirNode_d22 : decode writeDirNode_I.2.1 22 = .ok (.invokevirtual 221, 3) := by decide +kernel
theorem writeDirNode_d25 : decode writeDirNode_I.2.1 25 = .ok (.aload_n 0, 1) := by decide +kernel
theorem writeDirNode_d26 : decode writeDirNode_I.2.1 26 = .ok (.iload_n 3, 1) := by decide +kernel
theorem writeDirNode_d27 : decode writeDirNode_I.2.1 27 = .ok (.iconst 1, 1) := by decide +kernel
theorem writeDirNode_d28 : decode writeDirNode_I.2.1 28 = .ok (.iadd, 1) := by decide +kernel
theorem writeDirNode_d29 : decode writeDirNode_I.2.1 29 = .ok (.aload_n 0, 1) := by decide +kernel
theorem writeDirNode_d30 : decode writeDirNode_I.2.1 30 = .ok (.getfield 98, 3) := by decide +kernel
theorem writeDirNode_d33 : decode writeDirNode_I.2.1 33 = .ok (.iload_n 1, 1) := by decide +kernel
theorem writeDirNode_d34 : decode writeDirNode_I.2.1 34 = .ok (.baload, 1) := by decide +kernel
theorem writeDirNode_d35 : decode writeDirNode_I.2.1 35 = .ok (.invokevirtual 221, 3) := by decide +kernel
theorem writeDirNode_d38 : decode writeDirNode_I.2.1 38 = .ok (.aload_n 0, 1) := by decide +kernel
theorem writeDirNode_d39 : decode writeDirNode_I.2.1 39 = .ok (.iload_n 3, 1) := by decide +kernel
theorem writeDirNode_d40 : decode writeDirNode_I.2.1 40 = .ok (.iconst 2, 1) := by decide +kernel
theorem writeDirNode_d41 : decode writeDirNode_I.2.1 41 = .ok (.iadd, 1) := by decide +kernel
theorem writeDirNode_d42 : decode writeDirNode_I.2.1 42 = .ok (.aload_n 0, 1) := by decide +kernel
theorem writeDirNode_d43 : decode writeDirNode_I.2.1 43 = .ok (.getfield 227, 3) := by decide +kernel
theorem writeDirNode_d46 : decode writeDirNode_I.2.1 46 = .ok (.invokevirtual 218, 3) := by decide +kernel
theorem writeDirNode_d49 : decode writeDirNode_I.2.1 49 = .ok (.aload_n 0, 1) := by decide +kernel
theorem writeDirNode_d50 : decode writeDirNode_I.2.1 50 = .ok (.iload_n 3, 1) := by decide +kernel
theorem writeDirNode_d51 : decode writeDirNode_I.2.1 51 = .ok (.iconst 4, 1) := by decide +kernel
theorem writeDirNode_d52 : decode writeDirNode_I.2.1 52 = .ok (.iadd, 1) := by decide +kernel
theorem writeDirNode_d53 : decode writeDirNode_I.2.1 53 = .ok (.iload_n 2, 1) := by decide +kernel
theorem writeDirNode_d54 : decode writeDirNode_I.2.1 54 = .ok (.invokevirtual 221, 3) := by decide +kernel
theorem writeDirNode_d57 : decode writeDirNode_I.2.1 57 = .ok (.aload_n 0, 1) := by decide +kernel
theorem writeDirNode_d58 : decode writeDirNode_I.2.1 58 = .ok (.iload_n 3, 1) := by decide +kernel
theorem writeDirNode_d59 : decode writeDirNode_I.2.1 59 = .ok (.iconst 5, 1) := by decide +kernel
theorem writeDirNode_d60 : decode writeDirNode_I.2.1 60 = .ok (.iadd, 1) := by decide +kernel
theorem writeDirNode_d61 : decode writeDirNode_I.2.1 61 = .ok (.iconst 0, 1) := by decide +kernel
theorem writeDirNode_d62 : decode writeDirNode_I.2.1 62 = .ok (.invokevirtual 218, 3) := by decide +kernel
theorem writeDirNode_d65 : decode writeDirNode_I.2.1 65 = .ok (.aload_n 0, 1) := by decide +kernel
theorem writeDirNode_d66 : decode writeDirNode_I.2.1 66 = .ok (.iload_n 3, 1) := by decide +kernel
theorem writeDirNode_d67 : decode writeDirNode_I.2.1 67 = .ok (.bipush 7, 2) := by decide +kernel
theorem writeDirNode_d69 : decode writeDirNode_I.2.1 69 = .ok (.iadd, 1) := by decide +kernel
theorem writeDirNode_d70 : decode writeDirNode_I.2.1 70 = .ok (.aload_n 0, 1) := by decide +kernel
theorem writeDirNode_d71 : decode writeDirNode_I.2.1 71 = .ok (.getfield 101, 3) := by decide +kernel
theorem writeDirNode_d74 : decode writeDirNode_I.2.1 74 = .ok (.iload_n 1, 1) := by decide +kernel
theorem writeDirNode_d75 : decode writeDirNode_I.2.1 75 = .ok (.baload, 1) := by decide +kernel
theorem writeDirNode_d76 : decode writeDirNode_I.2.1 76 = .ok (.invokevirtual 221, 3) := by decide +kernel
theorem writeDirNode_d79 : decode writeDirNode_I.2.1 79 = .ok (.iconst 0, 1) := by decide +kernel
theorem writeDirNode_d80 : decode writeDirNode_I.2.1 80 = .ok (.istore 4, 2) := by decide +kernel
theorem writeDirNode_d82 : decode writeDirNode_I.2.1 82 = .ok (.iload 4, 2) := by decide +kernel
theorem writeDirNode_d84 : decode writeDirNode_I.2.1 84 = .ok (.iload_n 2, 1) := by decide +kernel
theorem writeDirNode_d85 : decode writeDirNode_I.2.1 85 = .ok (.if_icmp .ge 27, 3) := by decide +kernel
theorem writeDirNode_d88 : decode writeDirNode_I.2.1 88 = .ok (.iload 4, 2) := by decide +kernel
theorem writeDirNode_d90 : decode writeDirNode_I.2.1 90 = .ok (.bipush 16, 2) := by decide +kernel
theorem writeDirNode_d92 : decode writeDirNode_I.2.1 92 = .ok (.if_icmp .ge 20, 3) := by decide +kernel
theorem writeDirNode_d95 : decode writeDirNode_I.2.1 95 = .ok (.aload_n 0, 1) := by decide +kernel
theorem writeDirNode_d96 : decode writeDirNode_I.2.1 96 = .ok (.aload_n 0, 1) := by decide +kernel
theorem writeDirNode_d97 : decode writeDirNode_I.2.1 97 = .ok (.getfield 139, 3) := by decide +kernel
theorem writeDirNode_d100 : decode writeDirNode_I.2.1 100 = .ok (.iload 4, 2) := by decide +kernel
theorem writeDirNode_d102 : decode writeDirNode_I.2.1 102 = .ok (.baload, 1) := by decide +kernel
theorem writeDirNode_d103 : decode writeDirNode_I.2.1 103 = .ok (.invokevirtual 261, 3) := by decide +kernel
theorem writeDirNode_d106 : decode writeDirNode_I.2.1 106 = .ok (.iinc 4 1, 3) := by decide +kernel
theorem writeDirNode_d109 : decode writeDirNode_I.2.1 109 = .ok (.goto (-27), 3) := by decide +kernel
theorem writeDirNode_d112 : decode writeDirNode_I.2.1 112 = .ok (.return_, 1) := by decide +kernel
theorem writeDirNode_p : parseMethodDescriptor writeDirNode_I.1.desc = some ⟨[.int], none⟩ := by decide +kernel
theorem writeDirNode_K {a0 : Array Value} {Z : State} {M : Mi} (hw : Words a0 Z) (h : writeDirNode_I.2.2.2.2.1 + 1 ≤ M.2.2.2.2.1) : Callee a0 Z M writeDirNode_I 1 := ⟨pnC, (wd201 hw), (wd2 hw), h, by decide, fun sig q => by cases writeDirNode_p.symm.trans q; rfl⟩
set_option maxRecDepth 65536 in
set_option maxHeartbeats 4000000 in
theorem writeDirNode_l82b_ok {l : Launch} {Z : State} {a0 : Array Value} {n0 : Nat} {cv : Nat → Nat} {h0 : Heap} (hw : Words a0 Z) (K : KA a0 Z n0 CN nI FF cv) (x2 : Int) {rec : Int → Obj → Option (Int × Obj)} (hrec : ∀ (x4 : Int) (s : Obj), GQ (XA l Z n0 CN FF cv h0) writeDirNode_I 0 0 82 [some (Rf 0), none, some (I x2), none, some (I x4)] [] s (rec x4 s)) (x4 : Int) (s : Obj) : GQ (XA l Z n0 CN FF cv h0) writeDirNode_I 0 0 82 [some (Rf 0), none, some (I x2), none, some (I x4)] [] s (writeDirNode_l82b x2 rec x4 s) := by
  unfold writeDirNode_l82b
  refine GQ.iload (pc' := 84) writeDirNode_d82 rfl rfl ?_
  refine GQ.iloadN (pc' := 85) writeDirNode_d84 rfl rfl ?_
  refine GQ.icmpF (pcT := 112) (pcF := 88) h_ge writeDirNode_d85 rfl rfl rfl ?_ ?_
  · exact GQ.ret rfl writeDirNode_d112
  refine GQ.iload (pc' := 90) writeDirNode_d88 rfl rfl ?_
  refine GQ.bipush (pc' := 92) writeDirNode_d90 rfl rfl ?_
  refine GQ.icmpF (pcT := 112) (pcF := 95) h_ge writeDirNode_d92 rfl rfl rfl ?_ ?_
  · exact GQ.ret rfl writeDirNode_d112
  refine GQ.aloadN (pc' := 96) writeDirNode_d95 rfl rfl ?_
  refine GQ.aloadN (pc' := 97) writeDirNode_d96 rfl rfl ?_
  refine GQ.getA (M := writeDirNode_I) (k := 50) (pc' := 100) rfl (by decide) (wd96 hw) writeDirNode_d97 rfl ?_
  refine GQ.iload (pc' := 102) writeDirNode_d100 rfl rfl ?_
  refine GQ.rd (k := 50) (ins := .baload) (pc' := 103) rfl (by decide) (Or.inr (Or.inl ⟨rfl, rfl⟩)) writeDirNode_d102 rfl (fun z102 => ?_)
  refine GQ.callP (Mc := writeEntry_I) (args0 := [I z102]) (S := []) (r := 0) (pc' := 106) (writeEntry_K hw (by decide)) rfl writeDirNode_d103 rfl (wd222 hw) (wd223 hw) (wd224 hw) (wd1 hw) XA.recv rfl (writeEntry_M_ok hw K z102 s) rfl (fun _ s103 => ?_)
  show GQ (XA l Z n0 CN FF cv h0) writeDirNode_I _ _ 106 [some (Rf 0), none, some (I x2), none, some (I x4)] [] s103 _
  refine GQ.iinc (L' := [some (Rf 0), none, some (I x2), none, some (I (aAdd x4 1))]) (pc' := 109) writeDirNode_d106 rfl rfl rfl rfl ?_
  refine GQ.goto (pc' := 82) writeDirNode_d109 rfl rfl ?_
  exact hrec (aAdd x4 1) s103
set_option maxRecDepth 65536 in
set_option maxHeartbeats 4000000 in
theorem writeDirNode_l82_ok {l : Launch} {Z : State} {a0 : Array Value} {n0 : Nat} {cv : Nat → Nat} {h0 : Heap} (hw : Words a0 Z) (K : KA a0 Z n0 CN nI FF cv) (x2 : Int) : ∀ (fu : Nat) (x4 : Int) (s : Obj), GQ (XA l Z n0 CN FF cv h0) writeDirNode_I 0 0 82 [some (Rf 0), none, some (I x2), none, some (I x4)] [] s (writeDirNode_l82 x2 fu x4 s)
  | 0 => fun _ _ => GQ.no
  | fu + 1 => writeDirNode_l82b_ok hw K x2 (writeDirNode_l82_ok hw K x2 fu)
set_option maxRecDepth 65536 in
set_option maxHeartbeats 4000000 in
theorem writeDirNode_M_ok {l : Launch} {Z : State} {a0 : Array Value} {n0 : Nat} {cv : Nat → Nat} {h0 : Heap} (hw : Words a0 Z) (K : KA a0 Z n0 CN nI FF cv) (x1 : Int) (s : Obj) : GQ (XA l Z n0 CN FF cv h0) writeDirNode_I 0 0 0 (entry [Rf 0, I x1] writeDirNode_I.2.2.1) [] s (writeDirNode_M x1 s) := by
  show GQ _ _ _ _ 0 [some (Rf 0), some (I x1), none, none, none] [] _ _
  unfold writeDirNode_M
  refine GQ.aloadN (pc' := 1) writeDirNode_d0 rfl rfl ?_
  refine GQ.iloadN (pc' := 2) writeDirNode_d1 rfl rfl ?_
  refine GQ.callP (Mc := collectChildren_I) (args0 := [I x1]) (S := []) (r := 0) (pc' := 5) (collectChildren_K hw (by decide)) rfl writeDirNode_d2 rfl (wd202 hw) (wd203 hw) (wd204 hw) (wd1 hw) XA.recv rfl (collectChildren_M_ok hw K x1 s) rfl (fun z2 s2 => ?_)
  show GQ (XA l Z n0 CN FF cv h0) writeDirNode_I _ _ 5 [some (Rf 0), some (I x1), none, none, none] [I z2] s2 _
  refine GQ.istoreN (L' := [some (Rf 0), some (I x1), some (I z2), none, none]) (pc' := 6) writeDirNode_d5 rfl rfl rfl ?_
  refine GQ.aloadN (pc' := 7) writeDirNode_d6 rfl rfl ?_
  refine GQ.iloadN (pc' := 8) writeDirNode_d7 rfl rfl ?_
  refine GQ.callP (Mc := sortChildren_I) (args0 := [I z2]) (S := []) (r := 0) (pc' := 11) (sortChildren_K hw (by decide)) rfl writeDirNode_d8 rfl (wd206 hw) (wd207 hw) (wd208 hw) (wd1 hw) XA.recv rfl (sortChildren_M_ok hw K z2 s2) rfl (fun _ s8 => ?_)
  show GQ (XA l Z n0 CN FF cv h0) writeDirNode_I _ _ 11 [some (Rf 0), some (I x1), some (I z2), none, none] [] s8 _
  refine GQ.aloadN (pc' := 12) writeDirNode_d11 rfl rfl ?_
  refine GQ.iloadN (pc' := 13) writeDirNode_d12 rfl rfl ?_
  refine GQ.callP (Mc := inodePos_I) (args0 := [I x1]) (S := []) (r := 0) (pc' := 16) (inodePos_K hw (by decide)) rfl writeDirNode_d13 rfl (wd210 hw) (wd211 hw) (wd212 hw) (wd1 hw) XA.recv rfl (inodePos_M_ok hw K x1 s8) rfl (fun z13 s13 => ?_)
  show GQ (XA l Z n0 CN FF cv h0) writeDirNode_I _ _ 16 [some (Rf 0), some (I x1), some (I z2), none, none] [I z13] s13 _
  refine GQ.istoreN (L' := [some (Rf 0), some (I x1), some (I z2), some (I z13), none]) (pc' := 17) writeDirNode_d16 rfl rfl rfl ?_
  refine GQ.aloadN (pc' := 18) writeDirNode_d17 rfl rfl ?_
  refine GQ.iloadN (pc' := 19) writeDirNode_d18 rfl rfl ?_
  refine GQ.iconst (pc' := 20) writeDirNode_d19 rfl rfl ?_
  refine GQ.iadd (pc' := 21) writeDirNode_d20 rfl ?_
  refine GQ.iconst (pc' := 22) writeDirNode_d21 rfl rfl ?_
  refine GQ.callP (Mc := put8_I) (args0 := [I (aAdd z13 0), I 1]) (S := []) (r := 0) (pc' := 25) (put8_K hw (by decide)) rfl writeDirNode_d22 rfl (wd188 hw) (wd189 hw) (wd190 hw) (wd1 hw) XA.recv rfl (put8_M_ok hw K (aAdd z13 0) 1 s13) rfl (fun _ s22 => ?_)
  show GQ (XA l Z n0 CN FF cv h0) writeDirNode_I _ _ 25 [some (Rf 0), some (I x1), some (I z2), some (I z13), none] [] s22 _
  refine GQ.aloadN (pc' := 26) writeDirNode_d25 rfl rfl ?_
  refine GQ.iloadN (pc' := 27) writeDirNode_d26 rfl rfl ?_
  refine GQ.iconst (pc' := 28) writeDirNode_d27 rfl rfl ?_
  refine GQ.iadd (pc' := 29) writeDirNode_d28 rfl ?_
  refine GQ.aloadN (pc' := 30) writeDirNode_d29 rfl rfl ?_
  refine GQ.getA (M := writeDirNode_I) (k := 33) (pc' := 33) rfl (by decide) (wd68 hw) writeDirNode_d30 rfl ?_
  refine GQ.iloadN (pc' := 34) writeDirNode_d33 rfl rfl ?_
  refine GQ.rd (k := 33) (ins := .baload) (pc' := 35) rfl (by decide) (Or.inr (Or.inl ⟨rfl, rfl⟩)) writeDirNode_d34 rfl (fun z34 => ?_)
  refine GQ.callP (Mc := put8_I) (args0 := [I (aAdd z13 1), I z34]) (S := []) (r := 0) (pc' := 38) (put8_K hw (by decide)) rfl writeDirNode_d35 rfl (wd188 hw) (wd189 hw) (wd190 hw) (wd1 hw) XA.recv rfl (put8_M_ok hw K (aAdd z13 1) z34 s22) rfl (fun _ s35 => ?_)
  show GQ (XA l Z n0 CN FF cv h0) writeDirNode_I _ _ 38 [some (Rf 0), some (I x1), some (I z2), some (I z13), none] [] s35 _
  refine GQ.aloadN (pc' := 39) writeDirNode_d38 rfl rfl ?_
  refine GQ.iloadN (pc' := 40) writeDirNode_d39 rfl rfl ?_
  refine GQ.iconst (pc' := 41) writeDirNode_d40 rfl rfl ?_
  refine GQ.iadd (pc' := 42) writeDirNode_d41 rfl ?_
  refine GQ.aloadN (pc' := 43) writeDirNode_d42 rfl rfl ?_
  refine GQ.getI (M := writeDirNode_I) (k := 53) (pc' := 46) rfl (wd194 hw) writeDirNode_d43 rfl ?_
  refine GQ.callP (Mc := put16_I) (args0 := [I (aAdd z13 2), I (s35.1 53)]) (S := []) (r := 0) (pc' := 49) (put16_K hw (by decide)) rfl writeDirNode_d46 rfl (wd184 hw) (wd185 hw) (wd186 hw) (wd1 hw) XA.recv rfl (put16_M_ok hw K (aAdd z13 2) (s35.1 53) s35) rfl (fun _ s46 => ?_)
  show GQ (XA l Z n0 CN FF cv h0) writeDirNode_I _ _ 49 [some (Rf 0), some (I x1), some (I z2), some (I z13), none] [] s46 _
  refine GQ.aloadN (pc' := 50) writeDirNode_d49 rfl rfl ?_
  refine GQ.iloadN (pc' := 51) writeDirNode_d50 rfl rfl ?_
  refine GQ.iconst (pc' := 52) writeDirNode_d51 rfl rfl ?_
  refine GQ.iadd (pc' := 53) writeDirNode_d52 rfl ?_
  refine GQ.iloadN (pc' := 54) writeDirNode_d53 rfl rfl ?_
  refine GQ.callP (Mc := put8_I) (args0 := [I (aAdd z13 4), I z2]) (S := []) (r := 0) (pc' := 57) (put8_K hw (by decide)) rfl writeDirNode_d54 rfl (wd188 hw) (wd189 hw) (wd190 hw) (wd1 hw) XA.recv rfl (put8_M_ok hw K (aAdd z13 4) z2 s46) rfl (fun _ s54 => ?_)
  show GQ (XA l Z n0 CN FF cv h0) writeDirNode_I _ _ 57 [some (Rf 0), some (I x1), some (I z2), some (I z13), none] [] s54 _
  refine GQ.aloadN (pc' := 58) writeDirNode_d57 rfl rfl ?_
  refine GQ.iloadN (pc' := 59) writeDirNode_d58 rfl rfl ?_
  refine GQ.iconst (pc' := 60) writeDirNode_d59 rfl rfl ?_
  refine GQ.iadd (pc' := 61) writeDirNode_d60 rfl ?_
  refine GQ.iconst (pc' := 62) writeDirNode_d61 rfl rfl ?_
  refine GQ.callP (Mc := put16_I) (args0 := [I (aAdd z13 5), I 0]) (S := []) (r := 0) (pc' := 65) (put16_K hw (by decide)) rfl writeDirNode_d62 rfl (wd184 hw) (wd185 hw) (wd186 hw) (wd1 hw) XA.recv rfl (put16_M_ok hw K (aAdd z13 5) 0 s54) rfl (fun _ s62 => ?_)
  show GQ (XA l Z n0 CN FF cv h0) writeDirNode_I _ _ 65 [some (Rf 0), some (I x1), some (I z2), some (I z13), none] [] s62 _
  refine GQ.aloadN (pc' := 66) writeDirNode_d65 rfl rfl ?_
  refine GQ.iloadN (pc' := 67) writeDirNode_d66 rfl rfl ?_
  refine GQ.bipush (pc' := 69) writeDirNode_d67 rfl rfl ?_
  refine GQ.iadd (pc' := 70) writeDirNode_d69 rfl ?_
  refine GQ.aloadN (pc' := 71) writeDirNode_d70 rfl rfl ?_
  refine GQ.getA (M := writeDirNode_I) (k := 34) (pc' := 74) rfl (by decide) (wd70 hw) writeDirNode_d71 rfl ?_
  refine GQ.iloadN (pc' := 75) writeDirNode_d74 rfl rfl ?_
  refine GQ.rd (k := 34) (ins := .baload) (pc' := 76) rfl (by decide) (Or.inr (Or.inl ⟨rfl, rfl⟩)) writeDirNode_d75 rfl (fun z75 => ?_)
  refine GQ.callP (Mc := put8_I) (args0 := [I (aAdd z13 7), I z75]) (S := []) (r := 0) (pc' := 79) (put8_K hw (by decide)) rfl writeDirNode_d76 rfl (wd188 hw) (wd189 hw) (wd190 hw) (wd1 hw) XA.recv rfl (put8_M_ok hw K (aAdd z13 7) z75 s62) rfl (fun _ s76 => ?_)
  show GQ (XA l Z n0 CN FF cv h0) writeDirNode_I _ _ 79 [some (Rf 0), some (I x1), some (I z2), some (I z13), none] [] s76 _
  refine GQ.iconst (pc' := 80) writeDirNode_d79 rfl rfl ?_
  refine GQ.istore (L' := [some (Rf 0), some (I x1), some (I z2), some (I z13), some (I 0)]) (pc' := 82) writeDirNode_d80 rfl rfl rfl ?_
  refine GQ.weak (L' := [some (Rf 0), none, some (I z2), none, some (I 0)]) (Sub.keep (Sub.drop (Sub.keep (Sub.drop (Sub.keep Sub.nil))))) ?_
  exact writeDirNode_l82_ok hw K z2 FU 0 s76
def loadRawFromFrag_I : Mi := (⟨"SquashImage", "loadRawFromFrag", "(II)V"⟩, prog_1_method_18_code, 5, none, 0, 0)
theorem loadRawFromFrag_d0 : decode loadRawFromFrag_I.2.1 0 = .ok (.iconst 0, 1) := by decide +kernel
theorem loadRawFromFrag_d1 : decode loadRawFromFrag_I.2.1 1 = .ok (.istore_n 3, 1) := by decide +kernel
theorem loadRawFromFrag_d2 : decode loadRawFromFrag_I.2.1 2 = .ok (.iload_n 3, 1) := by decide +kernel
theorem loadRawFromFrag_d3 : decode loadRawFromFrag_I.2.1 3 = .ok (.iload_n 2, 1) := by decide +kernel
theorem loadRawFromFrag_d4 : decode loadRawFromFrag_I.2.1 4 = .ok (.if_icmp .ge 50, 3) := by decide +kernel
theorem loadRawFromFrag_d7 : decode loadRawFromFrag_I.2.1 7 = .ok (.iload_n 3, 1) := by decide +kernel
theorem loadRawFromFrag_d8 : decode loadRawFromFrag_I.2.1 8 = .ok (.bipush 32, 2) := by decide +kernel
theorem loadRawFromFrag_d10 : decode loadRawFromFrag_I.2.1 10 = .ok (.if_icmp .ge 44, 3) := by decide +kernel
theorem loadRawFromFrag_d13 : decode loadRawFromFrag_I.2.1 13 = .ok (.iload_n 1, 1) := by decide +kernel
theorem loadRawFromFrag_d14 : decode loadRawFromFrag_I.2.1 14 = .ok (.iload_n 3, 1) := by decide +kernel
theorem loadRawFromFrag_d15 : decode loadRawFromFrag_I.2.1 15 = .ok (.iadd, 1) := by decide +kernel
theorem loadRawFromFrag_d16 : decode loadRawFromFrag_I.2.1 16 = .ok (.istore 4, 2) := by decide +kernel
theorem loadRawFromFrag_d18 : decode loadRawFromFrag_I.2.1 18 = .ok (.aload_n 0, 1) := by decide +kernel
theorem loadRawFromFrag_d19 : decode loadRawFromFrag_I.2.1 19 = .ok (.getfield 133, 3) := by decide +kernel
theorem loadRawFromFrag_d22 : decode loadRawFromFrag_I.2.1 22 = .ok (.iload_n 3, 1) := by decide +kernel
theorem loadRawFromFrag_d23 : decode loadRawFromFrag_I.2.1 23 = .ok (.iload 4, 2) := by decide +kernel
theorem loadRawFromFrag_d25 : decode loadRawFromFrag_I.2.1 25 = .ok (.ifCond .lt 21, 3) := by decide +kernel
theorem loadRawFromFrag_d28 : decode loadRawFromFrag_I.2.1 28 = .ok (.iload 4, 2) := by decide +kernel
theorem loadRawFromFrag_d30 : decode loadRawFromFrag_I.2.1 30 = .ok (.sipush 256, 3) := by decide +kernel
theorem loadRawFromFrag_d33 : decode loadRawFromFrag_I.2.1 33 = .ok (.if_icmp .ge 13, 3) := by decide +kernel
theorem loadRawFromFrag_d36 : decode loadRawFromFrag_I.2.1 36 = .ok (.aload_n 0, 1) := by decide +kernel
theorem loadRawFromFrag_d37 : decode loadRawFromFrag_I.2.1 37 = .ok (.getfield 130, 3) := by decide +kernel
theorem loadRawFromFrag_d40 : decode loadRawFromFrag_I.2.1 40 = .ok (.iload 4, 2) := by decide +kernel
theorem loadRawFromFrag_d42 : decode loadRawFromFrag_I.2.1 42 = .ok (.baload, 1) := by decide +kernel
theorem loadRawFromFrag_d43 : decode loadRawFromFrag_I.2.1 43 = .ok (.goto 4, 3) := by decide +kernel
theorem loadRawFromFrag_d46 : decode loadRawFromFrag_I.2.1 46 = .ok (.iconst 0, 1) := by decide +kernel
theorem loadRawFromFrag_d47 : decode loadRawFromFrag_I.2.1 47 = .ok (.bastore, 1) := by decide +kernel
theorem loadRawFromFrag_d48 : decode loadRawFromFrag_I.2.1 48 = .ok (.iinc 3 1, 3) := by decide +kernel
theorem loadRawFromFrag_d51 : decode loadRawFromFrag_I.2.1 51 = .ok (.goto (-49), 3) := by decide +kernel
theorem loadRawFromFrag_d54 : decode loadRawFromFrag_I.2.1 54 = .ok (.return_, 1) := by decide +kernel
theorem loadRawFromFrag_p : parseMethodDescriptor loadRawFromFrag_I.1.desc = some ⟨[.int, .int], none⟩ := by decide +kernel
theorem loadRawFromFrag_K {a0 : Array Value} {Z : State} {M : Mi} (hw : Words a0 Z) (h : loadRawFromFrag_I.2.2.2.2.1 + 1 ≤ M.2.2.2.2.1) : Callee a0 Z M loadRawFromFrag_I 2 := ⟨pnC, (wd245 hw), (wd2 hw), h, by decide, fun sig q => by cases loadRawFromFrag_p.symm.trans q; rfl⟩
set_option maxRecDepth 65536 in
set_option maxHeartbeats 4000000 in
theorem loadRawFromFrag_j47_ok {l : Launch} {Z : State} {a0 : Array Value} {n0 : Nat} {cv : Nat → Nat} {h0 : Heap} (hw : Words a0 Z) (K : KA a0 Z n0 CN nI FF cv) {x1 x2 : Int} {rec : Int → Obj → Option (Int × Obj)} (hrec : ∀ (x3 : Int) (s : Obj), GQ (XA l Z n0 CN FF cv h0) loadRawFromFrag_I 0 0 2 [some (Rf 0), some (I x1), some (I x2), some (I x3), none] [] s (rec x3 s)) (x3 : Int) (y0 : Int) (y1 : Int) (s : Obj) : GQ (XA l Z n0 CN FF cv h0) loadRawFromFrag_I 0 0 47 [some (Rf 0), some (I x1), some (I x2), some (I x3), none] [I y0, I y1, Rf 49] s (loadRawFromFrag_j47 rec x1 x2 x3 y0 y1 s) := by
  unfold loadRawFromFrag_j47
  refine GQ.wr (k := 48) (ins := .bastore) (pc' := 48) K rfl (by decide) (Or.inr (Or.inl ⟨rfl, rfl⟩)) loadRawFromFrag_d47 rfl (fun s47 => ?_)
  refine GQ.iinc (L' := [some (Rf 0), some (I x1), some (I x2), some (I (aAdd x3 1)), none]) (pc' := 51) loadRawFromFrag_d48 rfl rfl rfl rfl ?_
  refine GQ.goto (pc' := 2) loadRawFromFrag_d51 rfl rfl ?_
  exact hrec (aAdd x3 1) s47
set_option maxRecDepth 65536 in
set_option maxHeartbeats 4000000 in
theorem loadRawFromFrag_j46_ok {l : Launch} {Z : State} {a0 : Array Value} {n0 : Nat} {cv : Nat → Nat} {h0 : Heap} (hw : Words a0 Z) (K : KA a0 Z n0 CN nI FF cv) {x1 x2 : Int} {rec : Int → Obj → Option (Int × Obj)} (hrec : ∀ (x3 : Int) (s : Obj), GQ (XA l Z n0 CN FF cv h0) loadRawFromFrag_I 0 0 2 [some (Rf 0), some (I x1), some (I x2), some (I x3), none] [] s (rec x3 s)) (x3 : Int) (y0 : Int) (s : Obj) : GQ (XA l Z n0 CN FF cv h0) loadRawFromFrag_I 0 0 46 [some (Rf 0), some (I x1), some (I x2), some (I x3), none] [I y0, Rf 49] s (loadRawFromFrag_j46 rec x1 x2 x3 y0 s) := by
  unfold loadRawFromFrag_j46
  refine GQ.iconst (pc' := 47) loadRawFromFrag_d46 rfl rfl ?_
  exact loadRawFromFrag_j47_ok hw K hrec x3 0 y0 s
set_option maxRecDepth 65536 in
set_option maxHeartbeats 4000000 in
theorem loadRawFromFrag_l2b_ok {l : Launch} {Z : State} {a0 : Array Value} {n0 : Nat} {cv : Nat → Nat} {h0 : Heap} (hw : Words a0 Z) (K : KA a0 Z n0 CN nI FF cv) (x1 : Int) (x2 : Int) {rec : Int → Obj → Option (Int × Obj)} (hrec : ∀ (x3 : Int) (s : Obj), GQ (XA l Z n0 CN FF cv h0) loadRawFromFrag_I 0 0 2 [some (Rf 0), some (I x1), some (I x2), some (I x3), none] [] s (rec x3 s)) (x3 : Int) (s : Obj) : GQ (XA l Z n0 CN FF cv h0) loadRawFromFrag_I 0 0 2 [some (Rf 0), some (I x1), some (I x2), some (I x3), none] [] s (loadRawFromFrag_l2b x1 x2 rec x3 s) := by
  unfold loadRawFromFrag_l2b
  refine GQ.iloadN (pc' := 3) loadRawFromFrag_d2 rfl rfl ?_
  refine GQ.iloadN (pc' := 4) loadRawFromFrag_d3 rfl rfl ?_
  refine GQ.icmpF (pcT := 54) (pcF := 7) h_ge loadRawFromFrag_d4 rfl rfl rfl ?_ ?_
  · exact GQ.ret rfl loadRawFromFrag_d54
  refine GQ.iloadN (pc' := 8) loadRawFromFrag_d7 rfl rfl ?_
  refine GQ.bipush (pc' := 10) loadRawFromFrag_d8 rfl rfl ?_
  refine GQ.icmpF (pcT := 54) (pcF := 13) h_ge loadRawFromFrag_d10 rfl rfl rfl ?_ ?_
  · exact GQ.ret rfl loadRawFromFrag_d54
  refine GQ.iloadN (pc' := 14) loadRawFromFrag_d13 rfl rfl ?_
  refine GQ.iloadN (pc' := 15) loadRawFromFrag_d14 rfl rfl ?_
  refine GQ.iadd (pc' := 16) loadRawFromFrag_d15 rfl ?_
  refine GQ.letI (fun x4_16 => ?_)
  refine GQ.istore (L' := [some (Rf 0), some (I x1), some (I x2), some (I x3), some (I x4_16)]) (pc' := 18) loadRawFromFrag_d16 rfl rfl rfl ?_
  refine GQ.aloadN (pc' := 19) loadRawFromFrag_d18 rfl rfl ?_
  refine GQ.getA (M := loadRawFromFrag_I) (k := 48) (pc' := 22) rfl (by decide) (wd92 hw) loadRawFromFrag_d19 rfl ?_
  refine GQ.iloadN (pc' := 23) loadRawFromFrag_d22 rfl rfl ?_
  refine GQ.iload (pc' := 25) loadRawFromFrag_d23 rfl rfl ?_
  refine GQ.ifT (pcT := 46) (pcF := 28) h_lt loadRawFromFrag_d25 rfl rfl rfl ?_ ?_
  · refine GQ.weak (L' := [some (Rf 0), some (I x1), some (I x2), some (I x3), none]) (Sub.keep (Sub.keep (Sub.keep (Sub.keep (Sub.drop Sub.nil))))) ?_
    exact loadRawFromFrag_j46_ok hw K hrec x3 x3 s
  refine GQ.iload (pc' := 30) loadRawFromFrag_d28 rfl rfl ?_
  refine GQ.sipush (pc' := 33) loadRawFromFrag_d30 rfl rfl ?_
  refine GQ.icmpF (pcT := 46) (pcF := 36) h_ge loadRawFromFrag_d33 rfl rfl rfl ?_ ?_
  · refine GQ.weak (L' := [some (Rf 0), some (I x1), some (I x2), some (I x3), none]) (Sub.keep (Sub.keep (Sub.keep (Sub.keep (Sub.drop Sub.nil))))) ?_
    exact loadRawFromFrag_j46_ok hw K hrec x3 x3 s
  refine GQ.aloadN (pc' := 37) loadRawFromFrag_d36 rfl rfl ?_
  refine GQ.getA (M := loadRawFromFrag_I) (k := 46) (pc' := 40) rfl (by decide) (wd90 hw) loadRawFromFrag_d37 rfl ?_
  refine GQ.iload (pc' := 42) loadRawFromFrag_d40 rfl rfl ?_
  refine GQ.rd (k := 46) (ins := .baload) (pc' := 43) rfl (by decide) (Or.inr (Or.inl ⟨rfl, rfl⟩)) loadRawFromFrag_d42 rfl (fun z42 => ?_)
  refine GQ.goto (pc' := 47) loadRawFromFrag_d43 rfl rfl ?_
  refine GQ.weak (L' := [some (Rf 0), some (I x1), some (I x2), some (I x3), none]) (Sub.keep (Sub.keep (Sub.keep (Sub.keep (Sub.drop Sub.nil))))) ?_
  exact loadRawFromFrag_j47_ok hw K hrec x3 z42 x3 s
set_option maxRecDepth 65536 in
set_option maxHeartbeats 4000000 in
theorem loadRawFromFrag_l2_ok {l : Launch} {Z : State} {a0 : Array Value} {n0 : Nat} {cv : Nat → Nat} {h0 : Heap} (hw : Words a0 Z) (K : KA a0 Z n0 CN nI FF cv) (x1 : Int) (x2 : Int) : ∀ (fu : Nat) (x3 : Int) (s : Obj), GQ (XA l Z n0 CN FF cv h0) loadRawFromFrag_I 0 0 2 [some (Rf 0), some (I x1), some (I x2), some (I x3), none] [] s (loadRawFromFrag_l2 x1 x2 fu x3 s)
  | 0 => fun _ _ => GQ.no
  | fu + 1 => loadRawFromFrag_l2b_ok hw K x1 x2 (loadRawFromFrag_l2_ok hw K x1 x2 fu)
set_option maxRecDepth 65536 in
set_option maxHeartbeats 4000000 in
theorem loadRawFromFrag_M_ok {l : Launch} {Z : State} {a0 : Array Value} {n0 : Nat} {cv : Nat → Nat} {h0 : Heap} (hw : Words a0 Z) (K : KA a0 Z n0 CN nI FF cv) (x1 : Int) (x2 : Int) (s : Obj) : GQ (XA l Z n0 CN FF cv h0) loadRawFromFrag_I 0 0 0 (entry [Rf 0, I x1, I x2] loadRawFromFrag_I.2.2.1) [] s (loadRawFromFrag_M x1 x2 s) := by
  show GQ _ _ _ _ 0 [some (Rf 0), some (I x1), some (I x2), none, none] [] _ _
  unfold loadRawFromFrag_M
  refine GQ.iconst (pc' := 1) loadRawFromFrag_d0 rfl rfl ?_
  refine GQ.istoreN (L' := [some (Rf 0), some (I x1), some (I x2), some (I 0), none]) (pc' := 2) loadRawFromFrag_d1 rfl rfl rfl ?_
  exact loadRawFromFrag_l2_ok hw K x1 x2 FU 0 s
def writeFragmentBlocks_I : Mi := (⟨"SquashImage", "writeFragmentBlocks", "()V"⟩, prog_1_method_19_code, 4, none, 4, 73)
theorem writeFragmentBlocks_d0 : decode writeFragmentBlocks_I.2.1 0 = .ok (.iconst 0, 1) := by decide +kernel
theorem writeFragmentBlocks_d1 : decode writeFragmentBlocks_I.2.1 1 = .ok (.istore_n 1, 1) := by decide +kernel
theorem writeFragmentBlocks_d2 : decode writeFragmentBlocks_I.2.1 2 = .ok (.iload_n 1, 1) := by decide +kernel
theorem writeFragmentBlocks_d3 : decode writeFragmentBlocks_I.2.1 3 = .ok (.bipush 64, 2) := by decide +kernel
theorem writeFragmentBlocks_d5 : decode writeFragmentBlocks_I.2.1 5 = .ok (.if_icmp .ge 58, 3) := by decide +kernel
theorem writeFragmentBlocks_d8 : decode writeFragmentBlocks_I.2.1 8 = .ok (.iload_n 1, 1) := by decide +kernel
theorem writeFragmentBlocks_d9 : decode writeFragmentBlocks_I.2.1 9 = .ok (.aload_n 0, 1) := by decide +kernel
theorem writeFragmentBlocks_d10 : decode writeFragmentBlocks_I.2.1 10 = .ok (.getfield 146, 3) := by decide +kernel
theorem writeFragmentBlocks_d13 : decode writeFragmentBlocks_I.2.1 13 = .ok (.imul, 1) := by decide +kernel
theorem writeFragmentBlocks_d14 : decode writeFragmentBlocks_I.2.1 14 = .ok (.istore_n 2, 1) := by decide +kernel
theorem writeFragmentBlocks_d15 : decode writeFragmentBlocks_I.2.1 15 = .ok (.iload_n 2, 1) := by decide +kernel
theorem writeFragmentBlocks_d16 : decode writeFragmentBlocks_I.2.1 16 = .ok (.aload_n 0, 1) := by decide +kernel
theorem writeFragmentBlocks_d17 : decode writeFragmentBlocks_I.2.1 17 = .ok (.getfield 168, 3) := by decide +kernel
theorem writeFragmentBlocks_d20 : decode writeFragmentBlocks_I.2.1 20 = .ok (.if_icmp .lt 6, 3) := by decide +kernel
theorem writeFragmentBlocks_d23 : decode writeFragmentBlocks_I.2.1 23 = .ok (.goto 40, 3) := by decide +kernel
theorem writeFragmentBlocks_d26 : decode writeFragmentBlocks_I.2.1 26 = .ok (.aload_n 0, 1) := by decide +kernel
theorem writeFragmentBlocks_d27 : decode writeFragmentBlocks_I.2.1 27 = .ok (.getfield 168, 3) := by decide +kernel
theorem writeFragmentBlocks_d30 : decode writeFragmentBlocks_I.2.1 30 = .ok (.iload_n 2, 1) := by decide +kernel
theorem writeFragmentBlocks_d31 : decode writeFragmentBlocks_I.2.1 31 = .ok (.isub, 1) := by decide +kernel
theorem writeFragmentBlocks_d32 : decode writeFragmentBlocks_I.2.1 32 = .ok (.istore_n 3, 1) := by decide +kernel
theorem writeFragmentBlocks_d33 : decode writeFragmentBlocks_I.2.1 33 = .ok (.iload_n 3, 1) := by decide +kernel
theorem writeFragmentBlocks_d34 : decode writeFragmentBlocks_I.2.1 34 = .ok (.aload_n 0, 1) := by decide +kernel
theorem writeFragmentBlocks_d35 : decode writeFragmentBlocks_I.2.1 35 = .ok (.getfield 146, 3) := by decide +kernel
theorem writeFragmentBlocks_d38 : decode writeFragmentBlocks_I.2.1 38 = .ok (.if_icmp .le 8, 3) := by decide +kernel
theorem writeFragmentBlocks_d41 : decode writeFragmentBlocks_I.2.1 41 = .ok (.aload_n 0, 1) := by decide +kernel
theorem writeFragmentBlocks_d42 : decode writeFragmentBlocks_I.2.1 42 = .ok (.getfield 146, 3) := by decide +kernel
theorem writeFragmentBlocks_d45 : decode writeFragmentBlocks_I.2.1 45 = .ok (.istore_n 3, 1) := by decide +kernel
theorem writeFragmentBlocks_d46 : decode writeFragmentBlocks_I.2.1 46 = .ok (.aload_n 0, 1) := by decide +kernel
theorem writeFragmentBlocks_d47 : decode writeFragmentBlocks_I.2.1 47 = .ok (.iload_n 2, 1) := by decide +kernel
theorem writeFragmentBlocks_d48 : decode writeFragmentBlocks_I.2.1 48 = .ok (.iload_n 3, 1) := by decide +kernel
theorem writeFragmentBlocks_d49 : decode writeFragmentBlocks_I.2.1 49 = .ok (.invokevirtual 246, 3) := by decide +kernel
theorem writeFragmentBlocks_d52 : decode writeFragmentBlocks_I.2.1 52 = .ok (.aload_n 0, 1) := by decide +kernel
theorem writeFragmentBlocks_d53 : decode writeFragmentBlocks_I.2.1 53 = .ok (.iload_n 3, 1) := by decide +kernel
theorem writeFragmentBlocks_d54 : decode writeFragmentBlocks_I.2.1 54 = .ok (.invokevirtual 237, 3) := by decide +kernel
theorem writeFragmentBlocks_d57 : decode writeFragmentBlocks_I.2.1 57 = .ok (.iinc 1 1, 3) := by decide +kernel
theorem writeFragmentBlocks_d60 : decode writeFragmentBlocks_I.2.1 60 = .ok (.goto (-58), 3) := by decide +kernel
theorem writeFragmentBlocks_d63 : decode writeFragmentBlocks_I.2.1 63 = .ok (.return_, 1) := by decide +kernel
theorem writeFragmentBlocks_p : parseMethodDescriptor writeFragmentBlocks_I.1.desc = some ⟨[], none⟩ := by decide +kernel
theorem writeFragmentBlocks_K {a0 : Array Value} {Z : State} {M : Mi} (hw : Words a0 Z) (h : writeFragmentBlocks_I.2.2.2.2.1 + 1 ≤ M.2.2.2.2.1) : Callee a0 Z M writeFragmentBlocks_I 0 := ⟨pnC, (wd241 hw), (wd2 hw), h, by decide, fun sig q => by cases writeFragmentBlocks_p.symm.trans q; rfl⟩
set_option maxRecDepth 65536 in
set_option maxHeartbeats 4000000 in
theorem writeFragmentBlocks_j46_ok {l : Launch} {Z : State} {a0 : Array Value} {n0 : Nat} {cv : Nat → Nat} {h0 : Heap} (hw : Words a0 Z) (K : KA a0 Z n0 CN nI FF cv) {rec : Int → Obj → Option (Int × Obj)} (hrec : ∀ (x1 : Int) (s : Obj), GQ (XA l Z n0 CN FF cv h0) writeFragmentBlocks_I 0 0 2 [some (Rf 0), some (I x1), none, none] [] s (rec x1 s)) (x1 : Int) (x2 : Int) (x3 : Int) (s : Obj) : GQ (XA l Z n0 CN FF cv h0) writeFragmentBlocks_I 0 0 46 [some (Rf 0), some (I x1), some (I x2), some (I x3)] [] s (writeFragmentBlocks_j46 rec x1 x2 x3 s) := by
  unfold writeFragmentBlocks_j46
  refine GQ.aloadN (pc' := 47) writeFragmentBlocks_d46 rfl rfl ?_
  refine GQ.iloadN (pc' := 48) writeFragmentBlocks_d47 rfl rfl ?_
  refine GQ.iloadN (pc' := 49) writeFragmentBlocks_d48 rfl rfl ?_
  refine GQ.callP (Mc := loadRawFromFrag_I) (args0 := [I x2, I x3]) (S := []) (r := 0) (pc' := 52) (loadRawFromFrag_K hw (by decide)) rfl writeFragmentBlocks_d49 rfl (wd242 hw) (wd243 hw) (wd244 hw) (wd1 hw) XA.recv rfl (loadRawFromFrag_M_ok hw K x2 x3 s) rfl (fun _ s49 => ?_)
  show GQ (XA l Z n0 CN FF cv h0) writeFragmentBlocks_I _ _ 52 [some (Rf 0), some (I x1), some (I x2), some (I x3)] [] s49 _
  refine GQ.aloadN (pc' := 53) writeFragmentBlocks_d52 rfl rfl ?_
  refine GQ.iloadN (pc' := 54) writeFragmentBlocks_d53 rfl rfl ?_
  refine GQ.callP (Mc := emitBlock_I) (args0 := [I x3]) (S := []) (r := 0) (pc' := 57) (emitBlock_K hw (by decide)) rfl writeFragmentBlocks_d54 rfl (wd246 hw) (wd247 hw) (wd248 hw) (wd1 hw) XA.recv rfl (emitBlock_M_ok hw K x3 s49) rfl (fun _ s54 => ?_)
  show GQ (XA l Z n0 CN FF cv h0) writeFragmentBlocks_I _ _ 57 [some (Rf 0), some (I x1), some (I x2), some (I x3)] [] s54 _
  refine GQ.iinc (L' := [some (Rf 0), some (I (aAdd x1 1)), some (I x2), some (I x3)]) (pc' := 60) writeFragmentBlocks_d57 rfl rfl rfl rfl ?_
  refine GQ.goto (pc' := 2) writeFragmentBlocks_d60 rfl rfl ?_
  refine GQ.weak (L' := [some (Rf 0), some (I (aAdd x1 1)), none, none]) (Sub.keep (Sub.keep (Sub.drop (Sub.drop Sub.nil)))) ?_
  exact hrec (aAdd x1 1) s54
set_option maxRecDepth 65536 in
set_option maxHeartbeats 4000000 in
theorem writeFragmentBlocks_l2b_ok {l : Launch} {Z : State} {a0 : Array Value} {n0 : Nat} {cv : Nat → Nat} {h0 : Heap} (hw : Words a0 Z) (K : KA a0 Z n0 CN nI FF cv) {rec : Int → Obj → Option (Int × Obj)} (hrec : ∀ (x1 : Int) (s : Obj), GQ (XA l Z n0 CN FF cv h0) writeFragmentBlocks_I 0 0 2 [some (Rf 0), some (I x1), none, none] [] s (rec x1 s)) (x1 : Int) (s : Obj) : GQ (XA l Z n0 CN FF cv h0) writeFragmentBlocks_I 0 0 2 [some (Rf 0), some (I x1), none, none] [] s (writeFragmentBlocks_l2b rec x1 s) := by
  unfold writeFragmentBlocks_l2b
  refine GQ.iloadN (pc' := 3) writeFragmentBlocks_d2 rfl rfl ?_
  refine GQ.bipush (pc' := 5) writeFragmentBlocks_d3 rfl rfl ?_
  refine GQ.icmpF (pcT := 63) (pcF := 8) h_ge writeFragmentBlocks_d5 rfl rfl rfl ?_ ?_
  · exact GQ.ret rfl writeFragmentBlocks_d63
  refine GQ.iloadN (pc' := 9) writeFragmentBlocks_d8 rfl rfl ?_
  refine GQ.aloadN (pc' := 10) writeFragmentBlocks_d9 rfl rfl ?_
  refine GQ.getI (M := writeFragmentBlocks_I) (k := 28) (pc' := 13) rfl (wd102 hw) writeFragmentBlocks_d10 rfl ?_
  refine GQ.imul (pc' := 14) writeFragmentBlocks_d13 rfl ?_
  refine GQ.letI (fun x2_14 => ?_)
  refine GQ.istoreN (L' := [some (Rf 0), some (I x1), some (I x2_14), none]) (pc' := 15) writeFragmentBlocks_d14 rfl rfl rfl ?_
  refine GQ.iloadN (pc' := 16) writeFragmentBlocks_d15 rfl rfl ?_
  refine GQ.aloadN (pc' := 17) writeFragmentBlocks_d16 rfl rfl ?_
  refine GQ.getI (M := writeFragmentBlocks_I) (k := 47) (pc' := 20) rfl (wd116 hw) writeFragmentBlocks_d17 rfl ?_
  refine GQ.icmpT (pcT := 26) (pcF := 23) h_lt writeFragmentBlocks_d20 rfl rfl rfl ?_ ?_
  · refine GQ.aloadN (pc' := 27) writeFragmentBlocks_d26 rfl rfl ?_
    refine GQ.getI (M := writeFragmentBlocks_I) (k := 47) (pc' := 30) rfl (wd116 hw) writeFragmentBlocks_d27 rfl ?_
    refine GQ.iloadN (pc' := 31) writeFragmentBlocks_d30 rfl rfl ?_
    refine GQ.isub (pc' := 32) writeFragmentBlocks_d31 rfl ?_
    refine GQ.letI (fun x3_32 => ?_)
    refine GQ.istoreN (L' := [some (Rf 0), some (I x1), some (I x2_14), some (I x3_32)]) (pc' := 33) writeFragmentBlocks_d32 rfl rfl rfl ?_
    refine GQ.iloadN (pc' := 34) writeFragmentBlocks_d33 rfl rfl ?_
    refine GQ.aloadN (pc' := 35) writeFragmentBlocks_d34 rfl rfl ?_
    refine GQ.getI (M := writeFragmentBlocks_I) (k := 28) (pc' := 38) rfl (wd102 hw) writeFragmentBlocks_d35 rfl ?_
    refine GQ.icmpF (pcT := 46) (pcF := 41) h_le writeFragmentBlocks_d38 rfl rfl rfl ?_ ?_
    · exact writeFragmentBlocks_j46_ok hw K hrec x1 x2_14 x3_32 s
    refine GQ.aloadN (pc' := 42) writeFragmentBlocks_d41 rfl rfl ?_
    refine GQ.getI (M := writeFragmentBlocks_I) (k := 28) (pc' := 45) rfl (wd102 hw) writeFragmentBlocks_d42 rfl ?_
    refine GQ.letI (fun x3_45 => ?_)
    refine GQ.istoreN (L' := [some (Rf 0), some (I x1), some (I x2_14), some (I x3_45)]) (pc' := 46) writeFragmentBlocks_d45 rfl rfl rfl ?_
    exact writeFragmentBlocks_j46_ok hw K hrec x1 x2_14 x3_45 s
  refine GQ.goto (pc' := 63) writeFragmentBlocks_d23 rfl rfl ?_
  exact GQ.ret rfl writeFragmentBlocks_d63
set_option maxRecDepth 65536 in
set_option maxHeartbeats 4000000 in
theorem writeFragmentBlocks_l2_ok {l : Launch} {Z : State} {a0 : Array Value} {n0 : Nat} {cv : Nat → Nat} {h0 : Heap} (hw : Words a0 Z) (K : KA a0 Z n0 CN nI FF cv) : ∀ (fu : Nat) (x1 : Int) (s : Obj), GQ (XA l Z n0 CN FF cv h0) writeFragmentBlocks_I 0 0 2 [some (Rf 0), some (I x1), none, none] [] s (writeFragmentBlocks_l2 fu x1 s)
  | 0 => fun _ _ => GQ.no
  | fu + 1 => writeFragmentBlocks_l2b_ok hw K (writeFragmentBlocks_l2_ok hw K fu)
set_option maxRecDepth 65536 in
set_option maxHeartbeats 4000000 in
theorem writeFragmentBlocks_M_ok {l : Launch} {Z : State} {a0 : Array Value} {n0 : Nat} {cv : Nat → Nat} {h0 : Heap} (hw : Words a0 Z) (K : KA a0 Z n0 CN nI FF cv) (s : Obj) : GQ (XA l Z n0 CN FF cv h0) writeFragmentBlocks_I 0 0 0 (entry [Rf 0] writeFragmentBlocks_I.2.2.1) [] s (writeFragmentBlocks_M s) := by
  show GQ _ _ _ _ 0 [some (Rf 0), none, none, none] [] _ _
  unfold writeFragmentBlocks_M
  refine GQ.iconst (pc' := 1) writeFragmentBlocks_d0 rfl rfl ?_
  refine GQ.istoreN (L' := [some (Rf 0), some (I 0), none, none]) (pc' := 2) writeFragmentBlocks_d1 rfl rfl rfl ?_
  exact writeFragmentBlocks_l2_ok hw K  FU 0 s
def build_I : Mi := (⟨"SquashImage", "build", "()Z"⟩, prog_1_method_12_code, 2, (some .boolean), 5, 91)
theorem build_d0 : decode build_I.2.1 0 = .ok (.aload_n 0, 1) := by decide +kernel
theorem build_d1 : decode build_I.2.1 1 = .ok (.getfield 152, 3) := by decide +kernel
theorem build_d4 : decode build_I.2.1 4 = .ok (.ifCond .eq 5, 3) := by decide +kernel
theorem build_d7 : decode build_I.2.1 7 = .ok (.iconst 0, 1) := by decide +kernel
theorem build_d8 : decode build_I.2.1 8 = .ok (.ireturn, 1) := by decide +kernel
theorem build_d9 : decode build_I.2.1 9 = .ok (.aload_n 0, 1) := by decide +kernel
theorem build_d10 : decode build_I.2.1 10 = .ok (.invokevirtual 202, 3) := by decide +kernel
theorem build_d13 : decode build_I.2.1 13 = .ok (.aload_n 0, 1) := by decide +kernel
theorem build_d14 : decode build_I.2.1 14 = .ok (.iconst 0, 1) := by decide +kernel
theorem build_d15 : decode build_I.2.1 15 = .ok (.putfield 168, 3) := by decide +kernel
theorem build_d18 : decode build_I.2.1 18 = .ok (.aload_n 0, 1) := by decide +kernel
theorem build_d19 : decode build_I.2.1 19 = .ok (.iconst 0, 1) := by decide +kernel
theorem build_d20 : decode build_I.2.1 20 = .ok (.putfield 205, 3) := by decide +kernel
theorem build_d23 : decode build_I.2.1 23 = .ok (.iconst 0, 1) := by decide +kernel
theorem build_d24 : decode build_I.2.1 24 = .ok (.istore_n 1, 1) := by decide +kernel
theorem build_d25 : decode build_I.2.1 25 = .ok (.iload_n 1, 1) := by decide +kernel
theorem build_d26 : decode build_I.2.1 26 = .ok (.aload_n 0, 1) := by decide +kernel
theorem build_d27 : decode build_I.2.1 27 = .ok (.getfield 156, 3) := by decide +kernel
theorem build_d30 : decode build_I.2.1 30 = .ok (.if_icmp .ge 38, 3) := by decide +kernel
theorem build_d33 : decode build_I.2.1 33 = .ok (.iload_n 1, 1) := by decide +kernel
theorem build_d34 : decode build_I.2.1 34 = .ok (.bipush 16, 2) := by decide +kernel
theorem build_d36 : decode build_I.2.1 36 = .ok (.if_icmp .ge 32, 3) := by decide +kernel
theorem build_d39 : decode build_I.2.1 39 = .ok (.aload_n 0, 1) := by decide +kernel
theorem build_d40 : decode build_I.2.1 40 = .ok (.getfield 94, 3) := by decide +kernel
theorem build_d43 : decode build_I.2.1 43 = .ok (.iload_n 1, 1) := by decide +kernel
theorem build_d44 : decode build_I.2.1 44 = .ok (.baload, 1) := by decide +kernel
theorem build_d45 : decode build_I.2.1 45 = .ok (.iconst 2, 1) := by decide +kernel
theorem build_d46 : decode build_I.2.1 46 = .ok (.if_icmp .ne 11, 3) := by decide +kernel
theorem build_d49 : decode build_I.2.1 49 = .ok (.aload_n 0, 1) := by decide +kernel
theorem build_d50 : decode build_I.2.1 50 = .ok (.iload_n 1, 1) := by decide +kernel
theorem build_d51 : decode build_I.2.1 51 = .ok (.invokevirtual 208, 3) := by decide +kernel
theorem build_d54 : decode build_I.2.1 54 = .ok (.goto 8, 3) := by decide +kernel
theorem build_d57 : decode build_I.2.1 57 = .ok (.aload_n 0, 1) := by decide +kernel
theorem build_d58 : decode build_I.2.1 58 = .ok (.iload_n 1, 1) := by decide +kernel
theorem build_d59 : decode build_I.2.1 59 = .ok (.invokevirtual 212, 3) := by decide +kernel
theorem build_d62 : decode build_I.2.1 62 = .ok (.iinc 1 1, 3) := by decide +kernel
theorem build_d65 : decode build_I.2.1 65 = .ok (.goto (-40), 3) := by decide +kernel
theorem build_d68 : decode build_I.2.1 68 = .ok (.aload_n 0, 1) := by decide +kernel
theorem build_d69 : decode build_I.2.1 69 = .ok (.invokevirtual 215, 3) := by decide +kernel
theorem build_d72 : decode build_I.2.1 72 = .ok (.aload_n 0, 1) := by decide +kernel
theorem build_d73 : decode build_I.2.1 73 = .ok (.iconst 1, 1) := by decide +kernel
theorem build_d74 : decode build_I.2.1 74 = .ok (.putfield 152, 3) := by decide +kernel
theorem build_d77 : decode build_I.2.1 77 = .ok (.aload_n 0, 1) := by decide +kernel
theorem build_d78 : decode build_I.2.1 78 = .ok (.iconst (-1), 1) := by decide +kernel
theorem build_d79 : decode build_I.2.1 79 = .ok (.putfield 171, 3) := by decide +kernel
theorem build_d82 : decode build_I.2.1 82 = .ok (.aload_n 0, 1) := by decide +kernel
theorem build_d83 : decode build_I.2.1 83 = .ok (.iconst 0, 1) := by decide +kernel
theorem build_d84 : decode build_I.2.1 84 = .ok (.putfield 174, 3) := by decide +kernel
theorem build_d87 : decode build_I.2.1 87 = .ok (.iconst 1, 1) := by decide +kernel
theorem build_d88 : decode build_I.2.1 88 = .ok (.ireturn, 1) := by decide +kernel
theorem build_p : parseMethodDescriptor build_I.1.desc = some ⟨[], (some .boolean)⟩ := by decide +kernel
theorem build_K {a0 : Array Value} {Z : State} {M : Mi} (hw : Words a0 Z) (h : build_I.2.2.2.2.1 + 1 ≤ M.2.2.2.2.1) : Callee a0 Z M build_I 0 := ⟨pnC, (wd179 hw), (wd2 hw), h, by decide, fun sig q => by cases build_p.symm.trans q; rfl⟩
set_option maxRecDepth 65536 in
set_option maxHeartbeats 4000000 in
theorem build_j62_ok {l : Launch} {Z : State} {a0 : Array Value} {n0 : Nat} {cv : Nat → Nat} {h0 : Heap} (hw : Words a0 Z) (K : KA a0 Z n0 CN nI FF cv) {k68 : Obj → Option (Int × Obj)} {rec : Int → Obj → Option (Int × Obj)} (hk68 : ∀  (s : Obj), GQ (XA l Z n0 CN FF cv h0) build_I 0 0 68 [some (Rf 0), none] [] s (k68 s)) (hrec : ∀ (x1 : Int) (s : Obj), GQ (XA l Z n0 CN FF cv h0) build_I 0 0 25 [some (Rf 0), some (I x1)] [] s (rec x1 s)) (x1 : Int) (s : Obj) : GQ (XA l Z n0 CN FF cv h0) build_I 0 0 62 [some (Rf 0), some (I x1)] [] s (build_j62 k68 rec x1 s) := by
  unfold build_j62
  refine GQ.iinc (L' := [some (Rf 0), some (I (aAdd x1 1))]) (pc' := 65) build_d62 rfl rfl rfl rfl ?_
  refine GQ.goto (pc' := 25) build_d65 rfl rfl ?_
  exact hrec (aAdd x1 1) s
set_option maxRecDepth 65536 in
set_option maxHeartbeats 4000000 in
theorem build_l25b_ok {l : Launch} {Z : State} {a0 : Array Value} {n0 : Nat} {cv : Nat → Nat} {h0 : Heap} (hw : Words a0 Z) (K : KA a0 Z n0 CN nI FF cv) {k68 : Obj → Option (Int × Obj)} (hk68 : ∀  (s : Obj), GQ (XA l Z n0 CN FF cv h0) build_I 0 0 68 [some (Rf 0), none] [] s (k68 s)) {rec : Int → Obj → Option (Int × Obj)} (hrec : ∀ (x1 : Int) (s : Obj), GQ (XA l Z n0 CN FF cv h0) build_I 0 0 25 [some (Rf 0), some (I x1)] [] s (rec x1 s)) (x1 : Int) (s : Obj) : GQ (XA l Z n0 CN FF cv h0) build_I 0 0 25 [some (Rf 0), some (I x1)] [] s (build_l25b k68 rec x1 s) := by
  unfold build_l25b
  refine GQ.iloadN (pc' := 26) build_d25 rfl rfl ?_
  refine GQ.aloadN (pc' := 27) build_d26 rfl rfl ?_
  refine GQ.getI (M := build_I) (k := 31) (pc' := 30) rfl (wd108 hw) build_d27 rfl ?_
  refine GQ.icmpF (pcT := 68) (pcF := 33) h_ge build_d30 rfl rfl rfl ?_ ?_
  · refine GQ.weak (L' := [some (Rf 0), none]) (Sub.keep (Sub.drop Sub.nil)) ?_
    exact hk68 s
  refine GQ.iloadN (pc' := 34) build_d33 rfl rfl ?_
  refine GQ.bipush (pc' := 36) build_d34 rfl rfl ?_
  refine GQ.icmpF (pcT := 68) (pcF := 39) h_ge build_d36 rfl rfl rfl ?_ ?_
  · refine GQ.weak (L' := [some (Rf 0), none]) (Sub.keep (Sub.drop Sub.nil)) ?_
    exact hk68 s
  refine GQ.aloadN (pc' := 40) build_d39 rfl rfl ?_
  refine GQ.getA (M := build_I) (k := 32) (pc' := 43) rfl (by decide) (wd66 hw) build_d40 rfl ?_
  refine GQ.iloadN (pc' := 44) build_d43 rfl rfl ?_
  refine GQ.rd (k := 32) (ins := .baload) (pc' := 45) rfl (by decide) (Or.inr (Or.inl ⟨rfl, rfl⟩)) build_d44 rfl (fun z44 => ?_)
  refine GQ.iconst (pc' := 46) build_d45 rfl rfl ?_
  refine GQ.icmpF (pcT := 57) (pcF := 49) h_ne build_d46 rfl rfl rfl ?_ ?_
  · refine GQ.aloadN (pc' := 58) build_d57 rfl rfl ?_
    refine GQ.iloadN (pc' := 59) build_d58 rfl rfl ?_
    refine GQ.callP (Mc := writeDirNode_I) (args0 := [I x1]) (S := []) (r := 0) (pc' := 62) (writeDirNode_K hw (by decide)) rfl build_d59 rfl (wd198 hw) (wd199 hw) (wd200 hw) (wd1 hw) XA.recv rfl (writeDirNode_M_ok hw K x1 s) rfl (fun _ s59 => ?_)
    show GQ (XA l Z n0 CN FF cv h0) build_I _ _ 62 [some (Rf 0), some (I x1)] [] s59 _
    exact build_j62_ok hw K hk68 hrec x1 s59
  refine GQ.aloadN (pc' := 50) build_d49 rfl rfl ?_
  refine GQ.iloadN (pc' := 51) build_d50 rfl rfl ?_
  refine GQ.callP (Mc := writeFileNode_I) (args0 := [I x1]) (S := []) (r := 0) (pc' := 54) (writeFileNode_K hw (by decide)) rfl build_d51 rfl (wd226 hw) (wd227 hw) (wd228 hw) (wd1 hw) XA.recv rfl (writeFileNode_M_ok hw K x1 s) rfl (fun _ s51 => ?_)
  show GQ (XA l Z n0 CN FF cv h0) build_I _ _ 54 [some (Rf 0), some (I x1)] [] s51 _
  refine GQ.goto (pc' := 62) build_d54 rfl rfl ?_
  exact build_j62_ok hw K hk68 hrec x1 s51
set_option maxRecDepth 65536 in
set_option maxHeartbeats 4000000 in
theorem build_l25_ok {l : Launch} {Z : State} {a0 : Array Value} {n0 : Nat} {cv : Nat → Nat} {h0 : Heap} (hw : Words a0 Z) (K : KA a0 Z n0 CN nI FF cv) {k68 : Obj → Option (Int × Obj)} (hk68 : ∀  (s : Obj), GQ (XA l Z n0 CN FF cv h0) build_I 0 0 68 [some (Rf 0), none] [] s (k68 s)) : ∀ (fu : Nat) (x1 : Int) (s : Obj), GQ (XA l Z n0 CN FF cv h0) build_I 0 0 25 [some (Rf 0), some (I x1)] [] s (build_l25 k68 fu x1 s)
  | 0 => fun _ _ => GQ.no
  | fu + 1 => build_l25b_ok hw K hk68 (build_l25_ok hw K hk68 fu)
set_option maxRecDepth 65536 in
set_option maxHeartbeats 4000000 in
theorem build_j68_ok {l : Launch} {Z : State} {a0 : Array Value} {n0 : Nat} {cv : Nat → Nat} {h0 : Heap} (hw : Words a0 Z) (K : KA a0 Z n0 CN nI FF cv) (s : Obj) : GQ (XA l Z n0 CN FF cv h0) build_I 0 0 68 [some (Rf 0), none] [] s (build_j68 s) := by
  unfold build_j68
  refine GQ.aloadN (pc' := 69) build_d68 rfl rfl ?_
  refine GQ.callP (Mc := writeFragmentBlocks_I) (args0 := []) (S := []) (r := 0) (pc' := 72) (writeFragmentBlocks_K hw (by decide)) rfl build_d69 rfl (wd238 hw) (wd239 hw) (wd240 hw) (wd1 hw) XA.recv rfl (writeFragmentBlocks_M_ok hw K s) rfl (fun _ s69 => ?_)
  show GQ (XA l Z n0 CN FF cv h0) build_I _ _ 72 [some (Rf 0), none] [] s69 _
  refine GQ.aloadN (pc' := 73) build_d72 rfl rfl ?_
  refine GQ.iconst (pc' := 74) build_d73 rfl rfl ?_
  refine GQ.putI (M := build_I) (k := 30) (pc' := 77) K rfl (wd106 hw) (wd107 hw) build_d74 rfl ?_
  refine GQ.letM (fun s74 => ?_)
  refine GQ.aloadN (pc' := 78) build_d77 rfl rfl ?_
  refine GQ.iconst (pc' := 79) build_d78 rfl rfl ?_
  refine GQ.putI (M := build_I) (k := 55) (pc' := 82) K rfl (wd118 hw) (wd119 hw) build_d79 rfl ?_
  refine GQ.letM (fun s79 => ?_)
  refine GQ.aloadN (pc' := 83) build_d82 rfl rfl ?_
  refine GQ.iconst (pc' := 84) build_d83 rfl rfl ?_
  refine GQ.putI (M := build_I) (k := 56) (pc' := 87) K rfl (wd120 hw) (wd121 hw) build_d84 rfl ?_
  refine GQ.letM (fun s84 => ?_)
  refine GQ.iconst (pc' := 88) build_d87 rfl rfl ?_
  exact GQ.zret rfl build_d88
set_option maxRecDepth 65536 in
set_option maxHeartbeats 4000000 in
theorem build_M_ok {l : Launch} {Z : State} {a0 : Array Value} {n0 : Nat} {cv : Nat → Nat} {h0 : Heap} (hw : Words a0 Z) (K : KA a0 Z n0 CN nI FF cv) (s : Obj) : GQ (XA l Z n0 CN FF cv h0) build_I 0 0 0 (entry [Rf 0] build_I.2.2.1) [] s (build_M s) := by
  show GQ _ _ _ _ 0 [some (Rf 0), none] [] _ _
  unfold build_M
  refine GQ.aloadN (pc' := 1) build_d0 rfl rfl ?_
  refine GQ.getI (M := build_I) (k := 30) (pc' := 4) rfl (wd106 hw) build_d1 rfl ?_
  refine GQ.ifT (pcT := 9) (pcF := 7) h_eq build_d4 rfl rfl rfl ?_ ?_
  · refine GQ.aloadN (pc' := 10) build_d9 rfl rfl ?_
    refine GQ.callP (Mc := planLayout_I) (args0 := []) (S := []) (r := 0) (pc' := 13) (planLayout_K hw (by decide)) rfl build_d10 rfl (wd180 hw) (wd181 hw) (wd182 hw) (wd1 hw) XA.recv rfl (planLayout_M_ok hw K s) rfl (fun _ s10 => ?_)
    show GQ (XA l Z n0 CN FF cv h0) build_I _ _ 13 [some (Rf 0), none] [] s10 _
    refine GQ.aloadN (pc' := 14) build_d13 rfl rfl ?_
    refine GQ.iconst (pc' := 15) build_d14 rfl rfl ?_
    refine GQ.putI (M := build_I) (k := 47) (pc' := 18) K rfl (wd116 hw) (wd117 hw) build_d15 rfl ?_
    refine GQ.letM (fun s15 => ?_)
    refine GQ.aloadN (pc' := 19) build_d18 rfl rfl ?_
    refine GQ.iconst (pc' := 20) build_d19 rfl rfl ?_
    refine GQ.putI (M := build_I) (k := 52) (pc' := 23) K rfl (wd196 hw) (wd197 hw) build_d20 rfl ?_
    refine GQ.letM (fun s20 => ?_)
    refine GQ.iconst (pc' := 24) build_d23 rfl rfl ?_
    refine GQ.istoreN (L' := [some (Rf 0), some (I 0)]) (pc' := 25) build_d24 rfl rfl rfl ?_
    refine build_l25_ok hw K  (fun s68 => ?_) FU 0 s20
    exact build_j68_ok hw K s68
  refine GQ.iconst (pc' := 8) build_d7 rfl rfl ?_
  exact GQ.zret rfl build_d8
def copyLiteral_I : Mi := (⟨"SquashImage", "copyLiteral", "(IIII)I"⟩, prog_1_method_34_code, 8, (some .int), 1, 13)
theorem copyLiteral_d0 : decode copyLiteral_I.2.1 0 = .ok (.iload_n 2, 1) := by decide +kernel
theorem copyLiteral_d1 : decode copyLiteral_I.2.1 1 = .ok (.istore 5, 2) := by decide +kernel
theorem copyLiteral_d3 : decode copyLiteral_I.2.1 3 = .ok (.iconst 0, 1) := by decide +kernel
theorem copyLiteral_d4 : decode copyLiteral_I.2.1 4 = .ok (.istore 6, 2) := by decide +kernel
theorem copyLiteral_d6 : decode copyLiteral_I.2.1 6 = .ok (.iload 6, 2) := by decide +kernel
theorem copyLiteral_d8 : decode copyLiteral_I.2.1 8 = .ok (.iload_n 3, 1) := by decide +kernel
theorem copyLiteral_d9 : decode copyLiteral_I.2.1 9 = .ok (.if_icmp .ge 61, 3) := by decide +kernel
theorem copyLiteral_d12 : decode copyLiteral_I.2.1 12 = .ok (.iload 6, 2) := by decide +kernel
theorem copyLiteral_d14 : decode copyLiteral_I.2.1 14 = .ok (.bipush 64, 2) := by decide +kernel
theorem copyLiteral_d16 : decode copyLiteral_I.2.1 16 = .ok (.if_icmp .ge 54, 3) := by decide +kernel
theorem copyLiteral_d19 : decode copyLiteral_I.2.1 19 = .ok (.iload 5, 2) := by decide +kernel
theorem copyLiteral_d21 : decode copyLiteral_I.2.1 21 = .ok (.ifCond .lt 49, 3) := by decide +kernel
theorem copyLiteral_d24 : decode copyLiteral_I.2.1 24 = .ok (.iload 5, 2) := by decide +kernel
theorem copyLiteral_d26 : decode copyLiteral_I.2.1 26 = .ok (.iload 4, 2) := by decide +kernel
theorem copyLiteral_d28 : decode copyLiteral_I.2.1 28 = .ok (.if_icmp .ge 42, 3) := by decide +kernel
theorem copyLiteral_d31 : decode copyLiteral_I.2.1 31 = .ok (.iload 5, 2) := by decide +kernel
theorem copyLiteral_d33 : decode copyLiteral_I.2.1 33 = .ok (.bipush 32, 2) := by decide +kernel
theorem copyLiteral_d35 : decode copyLiteral_I.2.1 35 = .ok (.if_icmp .lt 6, 3) := by decide +kernel
theorem copyLiteral_d38 : decode copyLiteral_I.2.1 38 = .ok (.goto 32, 3) := by decide +kernel
theorem copyLiteral_d41 : decode copyLiteral_I.2.1 41 = .ok (.aload_n 0, 1) := by decide +kernel
theorem copyLiteral_d42 : decode copyLiteral_I.2.1 42 = .ok (.iload_n 1, 1) := by decide +kernel
theorem copyLiteral_d43 : decode copyLiteral_I.2.1 43 = .ok (.iload 6, 2) := by decide +kernel
theorem copyLiteral_d45 : decode copyLiteral_I.2.1 45 = .ok (.iadd, 1) := by decide +kernel
theorem copyLiteral_d46 : decode copyLiteral_I.2.1 46 = .ok (.invokevirtual 286, 3) := by decide +kernel
theorem copyLiteral_d49 : decode copyLiteral_I.2.1 49 = .ok (.istore 7, 2) := by decide +kernel
theorem copyLiteral_d51 : decode copyLiteral_I.2.1 51 = .ok (.aload_n 0, 1) := by decide +kernel
theorem copyLiteral_d52 : decode copyLiteral_I.2.1 52 = .ok (.getfield 136, 3) := by decide +kernel
theorem copyLiteral_d55 : decode copyLiteral_I.2.1 55 = .ok (.iload 5, 2) := by decide +kernel
theorem copyLiteral_d57 : decode copyLiteral_I.2.1 57 = .ok (.iload 7, 2) := by decide +kernel
theorem copyLiteral_d59 : decode copyLiteral_I.2.1 59 = .ok (.i2b, 1) := by decide +kernel
theorem copyLiteral_d60 : decode copyLiteral_I.2.1 60 = .ok (.bastore, 1) := by decide +kernel
theorem copyLiteral_d61 : decode copyLiteral_I.2.1 61 = .ok (.iinc 5 1, 3) := by decide +kernel
theorem copyLiteral_d64 : decode copyLiteral_I.2.1 64 = .ok (.iinc 6 1, 3) := by decide +kernel
theorem copyLiteral_d67 : decode copyLiteral_I.2.1 67 = .ok (.goto (-61), 3) := by decide +kernel
theorem copyLiteral_d70 : decode copyLiteral_I.2.1 70 = .ok (.iload 5, 2) := by decide +kernel
theorem copyLiteral_d72 : decode copyLiteral_I.2.1 72 = .ok (.ireturn, 1) := by decide +kernel
theorem copyLiteral_p : parseMethodDescriptor copyLiteral_I.1.desc = some ⟨[.int, .int, .int, .int], (some .int)⟩ := by decide +kernel
theorem copyLiteral_K {a0 : Array Value} {Z : State} {M : Mi} (hw : Words a0 Z) (h : copyLiteral_I.2.2.2.2.1 + 1 ≤ M.2.2.2.2.1) : Callee a0 Z M copyLiteral_I 4 := ⟨pnC, (wd288 hw), (wd2 hw), h, by decide, fun sig q => by cases copyLiteral_p.symm.trans q; rfl⟩
set_option maxRecDepth 65536 in
set_option maxHeartbeats 4000000 in
theorem copyLiteral_l6b_ok {l : Launch} {Z : State} {a0 : Array Value} {n0 : Nat} {cv : Nat → Nat} {h0 : Heap} (hw : Words a0 Z) (K : KA a0 Z n0 CN nI FF cv) (x1 : Int) (x3 : Int) (x4 : Int) {rec : Int → Int → Obj → Option (Int × Obj)} (hrec : ∀ (x5 : Int) (x6 : Int) (s : Obj), GQ (XA l Z n0 CN FF cv h0) copyLiteral_I 0 0 6 [some (Rf 0), some (I x1), none, some (I x3), some (I x4), some (I x5), some (I x6), none] [] s (rec x5 x6 s)) (x5 : Int) (x6 : Int) (s : Obj) : GQ (XA l Z n0 CN FF cv h0) copyLiteral_I 0 0 6 [some (Rf 0), some (I x1), none, some (I x3), some (I x4), some (I x5), some (I x6), none] [] s (copyLiteral_l6b x1 x3 x4 rec x5 x6 s) := by
  unfold copyLiteral_l6b
  refine GQ.iload (pc' := 8) copyLiteral_d6 rfl rfl ?_
  refine GQ.iloadN (pc' := 9) copyLiteral_d8 rfl rfl ?_
  refine GQ.icmpF (pcT := 70) (pcF := 12) h_ge copyLiteral_d9 rfl rfl rfl ?_ ?_
  · refine GQ.iload (pc' := 72) copyLiteral_d70 rfl rfl ?_
    exact GQ.iret rfl copyLiteral_d72
  refine GQ.iload (pc' := 14) copyLiteral_d12 rfl rfl ?_
  refine GQ.bipush (pc' := 16) copyLiteral_d14 rfl rfl ?_
  refine GQ.icmpF (pcT := 70) (pcF := 19) h_ge copyLiteral_d16 rfl rfl rfl ?_ ?_
  · refine GQ.iload (pc' := 72) copyLiteral_d70 rfl rfl ?_
    exact GQ.iret rfl copyLiteral_d72
  refine GQ.iload (pc' := 21) copyLiteral_d19 rfl rfl ?_
  refine GQ.ifT (pcT := 70) (pcF := 24) h_lt copyLiteral_d21 rfl rfl rfl ?_ ?_
  · refine GQ.iload (pc' := 72) copyLiteral_d70 rfl rfl ?_
    exact GQ.iret rfl copyLiteral_d72
  refine GQ.iload (pc' := 26) copyLiteral_d24 rfl rfl ?_
  refine GQ.iload (pc' := 28) copyLiteral_d26 rfl rfl ?_
  refine GQ.icmpF (pcT := 70) (pcF := 31) h_ge copyLiteral_d28 rfl rfl rfl ?_ ?_
  · refine GQ.iload (pc' := 72) copyLiteral_d70 rfl rfl ?_
    exact GQ.iret rfl copyLiteral_d72
  refine GQ.iload (pc' := 33) copyLiteral_d31 rfl rfl ?_
  refine GQ.bipush (pc' := 35) copyLiteral_d33 rfl rfl ?_
  refine GQ.icmpT (pcT := 41) (pcF := 38) h_lt copyLiteral_d35 rfl rfl rfl ?_ ?_
  · refine GQ.aloadN (pc' := 42) copyLiteral_d41 rfl rfl ?_
    refine GQ.iloadN (pc' := 43) copyLiteral_d42 rfl rfl ?_
    refine GQ.iload (pc' := 45) copyLiteral_d43 rfl rfl ?_
    refine GQ.iadd (pc' := 46) copyLiteral_d45 rfl ?_
    refine GQ.callP (Mc := u8_I) (args0 := [I (aAdd x1 x6)]) (S := []) (r := 0) (pc' := 49) (u8_K hw (by decide)) rfl copyLiteral_d46 rfl (wd218 hw) (wd219 hw) (wd220 hw) (wd1 hw) XA.recv rfl (u8_M_ok hw K (aAdd x1 x6) s) rfl (fun z46 s46 => ?_)
    show GQ (XA l Z n0 CN FF cv h0) copyLiteral_I _ _ 49 [some (Rf 0), some (I x1), none, some (I x3), some (I x4), some (I x5), some (I x6), none] [I z46] s46 _
    refine GQ.istore (L' := [some (Rf 0), some (I x1), none, some (I x3), some (I x4), some (I x5), some (I x6), some (I z46)]) (pc' := 51) copyLiteral_d49 rfl rfl rfl ?_
    refine GQ.aloadN (pc' := 52) copyLiteral_d51 rfl rfl ?_
    refine GQ.getA (M := copyLiteral_I) (k := 49) (pc' := 55) rfl (by decide) (wd94 hw) copyLiteral_d52 rfl ?_
    refine GQ.iload (pc' := 57) copyLiteral_d55 rfl rfl ?_
    refine GQ.iload (pc' := 59) copyLiteral_d57 rfl rfl ?_
    refine GQ.i2b (pc' := 60) copyLiteral_d59 rfl ?_
    refine GQ.wr (k := 49) (ins := .bastore) (pc' := 61) K rfl (by decide) (Or.inr (Or.inl ⟨rfl, rfl⟩)) copyLiteral_d60 rfl (fun s60 => ?_)
    refine GQ.iinc (L' := [some (Rf 0), some (I x1), none, some (I x3), some (I x4), some (I (aAdd x5 1)), some (I x6), some (I z46)]) (pc' := 64) copyLiteral_d61 rfl rfl rfl rfl ?_
    refine GQ.iinc (L' := [some (Rf 0), some (I x1), none, some (I x3), some (I x4), some (I (aAdd x5 1)), some (I (aAdd x6 1)), some (I z46)]) (pc' := 67) copyLiteral_d64 rfl rfl rfl rfl ?_
    refine GQ.goto (pc' := 6) copyLiteral_d67 rfl rfl ?_
    refine GQ.weak (L' := [some (Rf 0), some (I x1), none, some (I x3), some (I x4), some (I (aAdd x5 1)), some (I (aAdd x6 1)), none]) (Sub.keep (Sub.keep (Sub.keep (Sub.keep (Sub.keep (Sub.keep (Sub.keep (Sub.drop Sub.nil)))))))) ?_
    exact hrec (aAdd x5 1) (aAdd x6 1) s60
  refine GQ.goto (pc' := 70) copyLiteral_d38 rfl rfl ?_
  refine GQ.iload (pc' := 72) copyLiteral_d70 rfl rfl ?_
  exact GQ.iret rfl copyLiteral_d72
set_option maxRecDepth 65536 in
set_option maxHeartbeats 4000000 in
theorem copyLiteral_l6_ok {l : Launch} {Z : State} {a0 : Array Value} {n0 : Nat} {cv : Nat → Nat} {h0 : Heap} (hw : Words a0 Z) (K : KA a0 Z n0 CN nI FF cv) (x1 : Int) (x3 : Int) (x4 : Int) : ∀ (fu : Nat) (x5 : Int) (x6 : Int) (s : Obj), GQ (XA l Z n0 CN FF cv h0) copyLiteral_I 0 0 6 [some (Rf 0), some (I x1), none, some (I x3), some (I x4), some (I x5), some (I x6), none] [] s (copyLiteral_l6 x1 x3 x4 fu x5 x6 s)
  | 0 => fun _ _ _ => GQ.no
  | fu + 1 => copyLiteral_l6b_ok hw K x1 x3 x4 (copyLiteral_l6_ok hw K x1 x3 x4 fu)
set_option maxRecDepth 65536 in
set_option maxHeartbeats 4000000 in
theorem copyLiteral_M_ok {l : Launch} {Z : State} {a0 : Array Value} {n0 : Nat} {cv : Nat → Nat} {h0 : Heap} (hw : Words a0 Z) (K : KA a0 Z n0 CN nI FF cv) (x1 : Int) (x2 : Int) (x3 : Int) (x4 : Int) (s : Obj) : GQ (XA l Z n0 CN FF cv h0) copyLiteral_I 0 0 0 (entry [Rf 0, I x1, I x2, I x3, I x4] copyLiteral_I.2.2.1) [] s (copyLiteral_M x1 x2 x3 x4 s) := by
  show GQ _ _ _ _ 0 [some (Rf 0), some (I x1), some (I x2), some (I x3), some (I x4), none, none, none] [] _ _
  unfold copyLiteral_M
  refine GQ.iloadN (pc' := 1) copyLiteral_d0 rfl rfl ?_
  refine GQ.istore (L' := [some (Rf 0), some (I x1), some (I x2), some (I x3), some (I x4), some (I x2), none, none]) (pc' := 3) copyLiteral_d1 rfl rfl rfl ?_
  refine GQ.iconst (pc' := 4) copyLiteral_d3 rfl rfl ?_
  refine GQ.istore (L' := [some (Rf 0), some (I x1), some (I x2), some (I x3), some (I x4), some (I x2), some (I 0), none]) (pc' := 6) copyLiteral_d4 rfl rfl rfl ?_
  refine GQ.weak (L' := [some (Rf 0), some (I x1), none, some (I x3), some (I x4), some (I x2), some (I 0), none]) (Sub.keep (Sub.keep (Sub.drop (Sub.keep (Sub.keep (Sub.keep (Sub.keep (Sub.keep Sub.nil)))))))) ?_
  exact copyLiteral_l6_ok hw K x1 x3 x4 FU x2 0 s
def fillRun_I : Mi := (⟨"SquashImage", "fillRun", "(IIII)I"⟩, prog_1_method_35_code, 7, (some .int), 0, 0)
theorem fillRun_d0 : decode fillRun_I.2.1 0 = .ok (.iload_n 2, 1) := by decide +kernel
theorem fillRun_d1 : decode fillRun_I.2.1 1 = .ok (.istore 5, 2) := by decide +kernel
theorem fillRun_d3 : decode fillRun_I.2.1 3 = .ok (.iconst 0, 1) := by decide +kernel
theorem fillRun_d4 : decode fillRun_I.2.1 4 = .ok (.istore 6, 2) := by decide +kernel
theorem fillRun_d6 : decode fillRun_I.2.1 6 = .ok (.iload 6, 2) := by decide +kernel
theorem fillRun_d8 : decode fillRun_I.2.1 8 = .ok (.iload_n 3, 1) := by decide +kernel
theorem fillRun_d9 : decode fillRun_I.2.1 9 = .ok (.if_icmp .ge 50, 3) := by decide +kernel
theorem fillRun_d12 : decode fillRun_I.2.1 12 = .ok (.iload 6, 2) := by decide +kernel
theorem fillRun_d14 : decode fillRun_I.2.1 14 = .ok (.bipush 64, 2) := by decide +kernel
theorem fillRun_d16 : decode fillRun_I.2.1 16 = .ok (.if_icmp .ge 43, 3) := by decide +kernel
theorem fillRun_d19 : decode fillRun_I.2.1 19 = .ok (.iload 5, 2) := by decide +kernel
theorem fillRun_d21 : decode fillRun_I.2.1 21 = .ok (.ifCond .lt 38, 3) := by decide +kernel
theorem fillRun_d24 : decode fillRun_I.2.1 24 = .ok (.iload 5, 2) := by decide +kernel
theorem fillRun_d26 : decode fillRun_I.2.1 26 = .ok (.iload 4, 2) := by decide +kernel
theorem fillRun_d28 : decode fillRun_I.2.1 28 = .ok (.if_icmp .ge 31, 3) := by decide +kernel
theorem fillRun_d31 : decode fillRun_I.2.1 31 = .ok (.iload 5, 2) := by decide +kernel
theorem fillRun_d33 : decode fillRun_I.2.1 33 = .ok (.bipush 32, 2) := by decide +kernel
theorem fillRun_d35 : decode fillRun_I.2.1 35 = .ok (.if_icmp .lt 6, 3) := by decide +kernel
theorem fillRun_d38 : decode fillRun_I.2.1 38 = .ok (.goto 21, 3) := by decide +kernel
theorem fillRun_d41 : decode fillRun_I.2.1 41 = .ok (.aload_n 0, 1) := by decide +kernel
theorem fillRun_d42 : decode fillRun_I.2.1 42 = .ok (.getfield 136, 3) := by decide +kernel
theorem fillRun_d45 : decode fillRun_I.2.1 45 = .ok (.iload 5, 2) := by decide +kernel
theorem fillRun_d47 : decode fillRun_I.2.1 47 = .ok (.iload_n 1, 1) := by decide +kernel
theorem fillRun_d48 : decode fillRun_I.2.1 48 = .ok (.i2b, 1) := by decide +kernel
theorem fillRun_d49 : decode fillRun_I.2.1 49 = .ok (.bastore, 1) := by decide +kernel
theorem fillRun_d50 : decode fillRun_I.2.1 50 = .ok (.iinc 5 1, 3) := by decide +kernel
theorem fillRun_d53 : decode fillRun_I.2.1 53 = .ok (.iinc 6 1, 3) := by decide +kernel
theorem fillRun_d56 : decode fillRun_I.2.1 56 = .ok (.goto (-50), 3) := by decide +kernel
theorem fillRun_d59 : decode fillRun_I.2.1 59 = .ok (.iload 5, 2) := by decide +kernel
theorem fillRun_d61 : decode fillRun_I.2.1 61 = .ok (.ireturn, 1) := by decide +kernel
theorem fillRun_p : parseMethodDescriptor fillRun_I.1.desc = some ⟨[.int, .int, .int, .int], (some .int)⟩ := by decide +kernel
theorem fillRun_K {a0 : Array Value} {Z : State} {M : Mi} (hw : Words a0 Z) (h : fillRun_I.2.2.2.2.1 + 1 ≤ M.2.2.2.2.1) : Callee a0 Z M fillRun_I 4 := ⟨pnC, (wd305 hw), (wd2 hw), h, by decide, fun sig q => by cases fillRun_p.symm.trans q; rfl⟩
set_option maxRecDepth 65536 in
set_option maxHeartbeats 4000000 in
theorem fillRun_l6b_ok {l : Launch} {Z : State} {a0 : Array Value} {n0 : Nat} {cv : Nat → Nat} {h0 : Heap} (hw : Words a0 Z) (K : KA a0 Z n0 CN nI FF cv) (x1 : Int) (x3 : Int) (x4 : Int) {rec : Int → Int → Obj → Option (Int × Obj)} (hrec : ∀ (x5 : Int) (x6 : Int) (s : Obj), GQ (XA l Z n0 CN FF cv h0) fillRun_I 0 0 6 [some (Rf 0), some (I x1), none, some (I x3), some (I x4), some (I x5), some (I x6)] [] s (rec x5 x6 s)) (x5 : Int) (x6 : Int) (s : Obj) : GQ (XA l Z n0 CN FF cv h0) fillRun_I 0 0 6 [some (Rf 0), some (I x1), none, some (I x3), some (I x4), some (I x5), some (I x6)] [] s (fillRun_l6b x1 x3 x4 rec x5 x6 s) := by
  unfold fillRun_l6b
  refine GQ.iload (pc' := 8) fillRun_d6 rfl rfl ?_
  refine GQ.iloadN (pc' := 9) fillRun_d8 rfl rfl ?_
  refine GQ.icmpF (pcT := 59) (pcF := 12) h_ge fillRun_d9 rfl rfl rfl ?_ ?_
  · refine GQ.iload (pc' := 61) fillRun_d59 rfl rfl ?_
    exact GQ.iret rfl fillRun_d61
  refine GQ.iload (pc' := 14) fillRun_d12 rfl rfl ?_
  refine GQ.bipush (pc' := 16) fillRun_d14 rfl rfl ?_
  refine GQ.icmpF (pcT := 59) (pcF := 19) h_ge fillRun_d16 rfl rfl rfl ?_ ?_
  · refine GQ.iload (pc' := 61) fillRun_d59 rfl rfl ?_
    exact GQ.iret rfl fillRun_d61
  refine GQ.iload (pc' := 21) fillRun_d19 rfl rfl ?_
  refine GQ.ifT (pcT := 59) (pcF := 24) h_lt fillRun_d21 rfl rfl rfl ?_ ?_
  · refine GQ.iload (pc' := 61) fillRun_d59 rfl rfl ?_
    exact GQ.iret rfl fillRun_d61
  refine GQ.iload (pc' := 26) fillRun_d24 rfl rfl ?_
  refine GQ.iload (pc' := 28) fillRun_d26 rfl rfl ?_
  refine GQ.icmpF (pcT := 59) (pcF := 31) h_ge fillRun_d28 rfl rfl rfl ?_ ?_
  · refine GQ.iload (pc' := 61) fillRun_d59 rfl rfl ?_
    exact GQ.iret rfl fillRun_d61
  refine GQ.iload (pc' := 33) fillRun_d31 rfl rfl ?_
  refine GQ.bipush (pc' := 35) fillRun_d33 rfl rfl ?_
  refine GQ.icmpT (pcT := 41) (pcF := 38) h_lt fillRun_d35 rfl rfl rfl ?_ ?_
  · refine GQ.aloadN (pc' := 42) fillRun_d41 rfl rfl ?_
    refine GQ.getA (M := fillRun_I) (k := 49) (pc' := 45) rfl (by decide) (wd94 hw) fillRun_d42 rfl ?_
    refine GQ.iload (pc' := 47) fillRun_d45 rfl rfl ?_
    refine GQ.iloadN (pc' := 48) fillRun_d47 rfl rfl ?_
    refine GQ.i2b (pc' := 49) fillRun_d48 rfl ?_
    refine GQ.wr (k := 49) (ins := .bastore) (pc' := 50) K rfl (by decide) (Or.inr (Or.inl ⟨rfl, rfl⟩)) fillRun_d49 rfl (fun s49 => ?_)
    refine GQ.iinc (L' := [some (Rf 0), some (I x1), none, some (I x3), some (I x4), some (I (aAdd x5 1)), some (I x6)]) (pc' := 53) fillRun_d50 rfl rfl rfl rfl ?_
    refine GQ.iinc (L' := [some (Rf 0), some (I x1), none, some (I x3), some (I x4), some (I (aAdd x5 1)), some (I (aAdd x6 1))]) (pc' := 56) fillRun_d53 rfl rfl rfl rfl ?_
    refine GQ.goto (pc' := 6) fillRun_d56 rfl rfl ?_
    exact hrec (aAdd x5 1) (aAdd x6 1) s49
  refine GQ.goto (pc' := 59) fillRun_d38 rfl rfl ?_
  refine GQ.iload (pc' := 61) fillRun_d59 rfl rfl ?_
  exact GQ.iret rfl fillRun_d61
set_option maxRecDepth 65536 in
set_option maxHeartbeats 4000000 in
theorem fillRun_l6_ok {l : Launch} {Z : State} {a0 : Array Value} {n0 : Nat} {cv : Nat → Nat} {h0 : Heap} (hw : Words a0 Z) (K : KA a0 Z n0 CN nI FF cv) (x1 : Int) (x3 : Int) (x4 : Int) : ∀ (fu : Nat) (x5 : Int) (x6 : Int) (s : Obj), GQ (XA l Z n0 CN FF cv h0) fillRun_I 0 0 6 [some (Rf 0), some (I x1), none, some (I x3), some (I x4), some (I x5), some (I x6)] [] s (fillRun_l6 x1 x3 x4 fu x5 x6 s)
  | 0 => fun _ _ _ => GQ.no
  | fu + 1 => fillRun_l6b_ok hw K x1 x3 x4 (fillRun_l6_ok hw K x1 x3 x4 fu)
set_option maxRecDepth 65536 in
set_option maxHeartbeats 4000000 in
theorem fillRun_M_ok {l : Launch} {Z : State} {a0 : Array Value} {n0 : Nat} {cv : Nat → Nat} {h0 : Heap} (hw : Words a0 Z) (K : KA a0 Z n0 CN nI FF cv) (x1 : Int) (x2 : Int) (x3 : Int) (x4 : Int) (s : Obj) : GQ (XA l Z n0 CN FF cv h0) fillRun_I 0 0 0 (entry [Rf 0, I x1, I x2, I x3, I x4] fillRun_I.2.2.1) [] s (fillRun_M x1 x2 x3 x4 s) := by
  show GQ _ _ _ _ 0 [some (Rf 0), some (I x1), some (I x2), some (I x3), some (I x4), none, none] [] _ _
  unfold fillRun_M
  refine GQ.iloadN (pc' := 1) fillRun_d0 rfl rfl ?_
  refine GQ.istore (L' := [some (Rf 0), some (I x1), some (I x2), some (I x3), some (I x4), some (I x2), none]) (pc' := 3) fillRun_d1 rfl rfl rfl ?_
  refine GQ.iconst (pc' := 4) fillRun_d3 rfl rfl ?_
  refine GQ.istore (L' := [some (Rf 0), some (I x1), some (I x2), some (I x3), some (I x4), some (I x2), some (I 0)]) (pc' := 6) fillRun_d4 rfl rfl rfl ?_
  refine GQ.weak (L' := [some (Rf 0), some (I x1), none, some (I x3), some (I x4), some (I x2), some (I 0)]) (Sub.keep (Sub.keep (Sub.drop (Sub.keep (Sub.keep (Sub.keep (Sub.keep Sub.nil))))))) ?_
  exact fillRun_l6_ok hw K x1 x3 x4 FU x2 0 s
def decodeBlock_I : Mi := (⟨"SquashImage", "decodeBlock", "(III)I"⟩, prog_1_method_33_code, 13, (some .int), 2, 32)
theorem decodeBlock_d0 : decode decodeBlock_I.2.1 0 = .ok (.iload_n 3, 1) := by decide +kernel
theorem decodeBlock_d1 : decode decodeBlock_I.2.1 1 = .ok (.bipush 32, 2) := by decide +kernel
theorem decodeBlock_d3 : decode decodeBlock_I.2.1 3 = .ok (.if_icmp .le 8, 3) := by decide +kernel
theorem decodeBlock_d6 : decode decodeBlock_I.2.1 6 = .ok (.bipush 32, 2) := by decide +kernel
theorem decodeBlock_d8 : decode decodeBlock_I.2.1 8 = .ok (.goto 4, 3) := by decide +kernel
theorem decodeBlock_d11 : decode decodeBlock_I.2.1 11 = .ok (.iload_n 3, 1) := by decide +kernel
theorem decodeBlock_d12 : decode decodeBlock_I.2.1 12 = .ok (.istore 4, 2) := by decide +kernel
theorem decodeBlock_d14 : decode decodeBlock_I.2.1 14 = .ok (.iload_n 1, 1) := by decide +kernel
theorem decodeBlock_d15 : decode decodeBlock_I.2.1 15 = .ok (.istore 5, 2) := by decide +kernel
theorem decodeBlock_d17 : decode decodeBlock_I.2.1 17 = .ok (.iload_n 1, 1) := by decide +kernel
theorem decodeBlock_d18 : decode decodeBlock_I.2.1 18 = .ok (.iload_n 2, 1) := by decide +kernel
theorem decodeBlock_d19 : decode decodeBlock_I.2.1 19 = .ok (.iadd, 1) := by decide +kernel
theorem decodeBlock_d20 : decode decodeBlock_I.2.1 20 = .ok (.istore 6, 2) := by decide +kernel
theorem decodeBlock_d22 : decode decodeBlock_I.2.1 22 = .ok (.iconst 0, 1) := by decide +kernel
theorem decodeBlock_d23 : decode decodeBlock_I.2.1 23 = .ok (.istore 7, 2) := by decide +kernel
theorem decodeBlock_d25 : decode decodeBlock_I.2.1 25 = .ok (.iconst 0, 1) := by decide +kernel
theorem decodeBlock_d26 : decode decodeBlock_I.2.1 26 = .ok (.istore 8, 2) := by decide +kernel
theorem decodeBlock_d28 : decode decodeBlock_I.2.1 28 = .ok (.iload 8, 2) := by decide +kernel
theorem decodeBlock_d30 : decode decodeBlock_I.2.1 30 = .ok (.bipush 64, 2) := by decide +kernel
theorem decodeBlock_d32 : decode decodeBlock_I.2.1 32 = .ok (.if_icmp .ge 138, 3) := by decide +kernel
theorem decodeBlock_d35 : decode decodeBlock_I.2.1 35 = .ok (.iload 5, 2) := by decide +kernel
theorem decodeBlock_d37 : decode decodeBlock_I.2.1 37 = .ok (.iload 6, 2) := by decide +kernel
theorem decodeBlock_d39 : decode decodeBlock_I.2.1 39 = .ok (.if_icmp .ge 131, 3) := by decide +kernel
theorem decodeBlock_d42 : decode decodeBlock_I.2.1 42 = .ok (.iload 7, 2) := by decide +kernel
theorem decodeBlock_d44 : decode decodeBlock_I.2.1 44 = .ok (.iload 4, 2) := by decide +kernel
theorem decodeBlock_d46 : decode decodeBlock_I.2.1 46 = .ok (.if_icmp .ge 124, 3) := by decide +kernel
theorem decodeBlock_d49 : decode decodeBlock_I.2.1 49 = .ok (.aload_n 0, 1) := by decide +kernel
theorem decodeBlock_d50 : decode decodeBlock_I.2.1 50 = .ok (.iload 5, 2) := by decide +kernel
theorem decodeBlock_d52 : decode decodeBlock_I.2.1 52 = .ok (.invokevirtual 286, 3) := by decide +kernel
theorem decodeBlock_d55 : decode decodeBlock_I.2.1 55 = .ok (.istore 9, 2) := by decide +kernel
theorem decodeBlock_d57 : decode decodeBlock_I.2.1 57 = .ok (.iinc 5 1, 3) := by decide +kernel
theorem decodeBlock_d60 : decode decodeBlock_I.2.1 60 = .ok (.iload 9, 2) := by decide +kernel
theorem decodeBlock_d62 : decode decodeBlock_I.2.1 62 = .ok (.bipush 6, 2) := by decide +kernel
theorem decodeBlock_d64 : decode decodeBlock_I.2.1 64 = .ok (.iushr, 1) := by decide +kernel
theorem decodeBlock_d65 : decode decodeBlock_I.2.1 65 = .ok (.istore 10, 2) := by decide +kernel
theorem decodeBlock_d67 : decode decodeBlock_I.2.1 67 = .ok (.iload 9, 2) := by decide +kernel
theorem decodeBlock_d69 : decode decodeBlock_I.2.1 69 = .ok (.bipush 63, 2) := by decide +kernel
theorem decodeBlock_d71 : decode decodeBlock_I.2.1 71 = .ok (.iand, 1) := by decide +kernel
theorem decodeBlock_d72 : decode decodeBlock_I.2.1 72 = .ok (.iconst 1, 1) := by decide +kernel
theorem decodeBlock_d73 : decode decodeBlock_I.2.1 73 = .ok (.iadd, 1) := by decide +kernel
theorem decodeBlock_d74 : decode decodeBlock_I.2.1 74 = .ok (.istore 11, 2) := by decide +kernel
theorem decodeBlock_d76 : decode decodeBlock_I.2.1 76 = .ok (.iload 10, 2) := by decide +kernel
theorem decodeBlock_d78 : decode decodeBlock_I.2.1 78 = .ok (.ifCond .ne 27, 3) := by decide +kernel
theorem decodeBlock_d81 : decode decodeBlock_I.2.1 81 = .ok (.aload_n 0, 1) := by decide +kernel
theorem decodeBlock_d82 : decode decodeBlock_I.2.1 82 = .ok (.iload 5, 2) := by decide +kernel
theorem decodeBlock_d84 : decode decodeBlock_I.2.1 84 = .ok (.iload 7, 2) := by decide +kernel
theorem decodeBlock_d86 : decode decodeBlock_I.2.1 86 = .ok (.iload 11, 2) := by decide +kernel
theorem decodeBlock_d88 : decode decodeBlock_I.2.1 88 = .ok (.iload 4, 2) := by decide +kernel
theorem decodeBlock_d90 : decode decodeBlock_I.2.1 90 = .ok (.invokevirtual 292, 3) := by decide +kernel
theorem decodeBlock_d93 : decode decodeBlock_I.2.1 93 = .ok (.istore 7, 2) := by decide +kernel
theorem decodeBlock_d95 : decode decodeBlock_I.2.1 95 = .ok (.iload 5, 2) := by decide +kernel
theorem decodeBlock_d97 : decode decodeBlock_I.2.1 97 = .ok (.iload 11, 2) := by decide +kernel
theorem decodeBlock_d99 : decode decodeBlock_I.2.1 99 = .ok (.iadd, 1) := by decide +kernel
theorem decodeBlock_d100 : decode decodeBlock_I.2.1 100 = .ok (.istore 5, 2) := by decide +kernel
theorem decodeBlock_d102 : decode decodeBlock_I.2.1 102 = .ok (.goto 62, 3) := by decide +kernel
theorem decodeBlock_d105 : decode decodeBlock_I.2.1 105 = .ok (.iload 10, 2) := by decide +kernel
theorem decodeBlock_d107 : decode decodeBlock_I.2.1 107 = .ok (.iconst 1, 1) := by decide +kernel
theorem decodeBlock_d108 : decode decodeBlock_I.2.1 108 = .ok (.if_icmp .ne 31, 3) := by decide +kernel
theorem decodeBlock_d111 : decode decodeBlock_I.2.1 111 = .ok (.aload_n 0, 1) := by decide +kernel
theorem decodeBlock_d112 : decode decodeBlock_I.2.1 112 = .ok (.iload 5, 2) := by decide +kernel
theorem decodeBlock_d114 : decode decodeBlock_I.2.1 114 = .ok (.invokevirtual 286, 3) := by decide +kernel
theorem decodeBlock_d117 : decode decodeBlock_I.2.1 117 = .ok (.istore 12, 2) := by decide +kernel
theorem decodeBlock_d119 : decode decodeBlock_I.2.1 119 = .ok (.iinc 5 1, 3) := by decide +kernel
theorem decodeBlock_d122 : decode decodeBlock_I.2.1 122 = .ok (.aload_n 0, 1) := by decide +kernel
theorem decodeBlock_d123 : decode decodeBlock_I.2.1 123 = .ok (.iload 12, 2) := by decide +kernel
theorem decodeBlock_d125 : decode decodeBlock_I.2.1 125 = .ok (.iload 7, 2) := by decide +kernel
theorem decodeBlock_d127 : decode decodeBlock_I.2.1 127 = .ok (.iload 11, 2) := by decide +kernel
theorem decodeBlock_d129 : decode decodeBlock_I.2.1 129 = .ok (.iload 4, 2) := by decide +kernel
theorem decodeBlock_d131 : decode decodeBlock_I.2.1 131 = .ok (.invokevirtual 296, 3) := by decide +kernel
theorem decodeBlock_d134 : decode decodeBlock_I.2.1 134 = .ok (.istore 7, 2) := by decide +kernel
theorem decodeBlock_d136 : decode decodeBlock_I.2.1 136 = .ok (.goto 28, 3) := by decide +kernel
theorem decodeBlock_d139 : decode decodeBlock_I.2.1 139 = .ok (.aload_n 0, 1) := by decide +kernel
theorem decodeBlock_d140 : decode decodeBlock_I.2.1 140 = .ok (.iload 5, 2) := by decide +kernel
theorem decodeBlock_d142 : decode decodeBlock_I.2.1 142 = .ok (.invokevirtual 286, 3) := by decide +kernel
theorem decodeBlock_d145 : decode decodeBlock_I.2.1 145 = .ok (.istore 12, 2) := by decide +kernel
theorem decodeBlock_d147 : decode decodeBlock_I.2.1 147 = .ok (.iinc 5 1, 3) := by decide +kernel
theorem decodeBlock_d150 : decode decodeBlock_I.2.1 150 = .ok (.aload_n 0, 1) := by decide +kernel
theorem decodeBlock_d151 : decode decodeBlock_I.2.1 151 = .ok (.iload 12, 2) := by decide +kernel
theorem decodeBlock_d153 : decode decodeBlock_I.2.1 153 = .ok (.iload 7, 2) := by decide +kernel
theorem decodeBlock_d155 : decode decodeBlock_I.2.1 155 = .ok (.iload 11, 2) := by decide +kernel
theorem decodeBlock_d157 : decode decodeBlock_I.2.1 157 = .ok (.iload 4, 2) := by decide +kernel
theorem decodeBlock_d159 : decode decodeBlock_I.2.1 159 = .ok (.invokevirtual 299, 3) := by decide +kernel
theorem decodeBlock_d162 : decode decodeBlock_I.2.1 162 = .ok (.istore 7, 2) := by decide +kernel
theorem decodeBlock_d164 : decode decodeBlock_I.2.1 164 = .ok (.iinc 8 1, 3) := by decide +kernel
theorem decodeBlock_d167 : decode decodeBlock_I.2.1 167 = .ok (.goto (-139), 3) := by decide +kernel
theorem decodeBlock_d170 : decode decodeBlock_I.2.1 170 = .ok (.iload 7, 2) := by decide +kernel
theorem decodeBlock_d172 : decode decodeBlock_I.2.1 172 = .ok (.ireturn, 1) := by decide +kernel
theorem decodeBlock_p : parseMethodDescriptor decodeBlock_I.1.desc = some ⟨[.int, .int, .int], (some .int)⟩ := by decide +kernel
theorem decodeBlock_K {a0 : Array Value} {Z : State} {M : Mi} (hw : Words a0 Z) (h : decodeBlock_I.2.2.2.2.1 + 1 ≤ M.2.2.2.2.1) : Callee a0 Z M decodeBlock_I 3 := ⟨pnC, (wd284 hw), (wd2 hw), h, by decide, fun sig q => by cases decodeBlock_p.symm.trans q; rfl⟩
set_option maxRecDepth 65536 in
set_option maxHeartbeats 4000000 in
theorem decodeBlock_j164_ok {l : Launch} {Z : State} {a0 : Array Value} {n0 : Nat} {cv : Nat → Nat} {h0 : Heap} (hw : Words a0 Z) (K : KA a0 Z n0 CN nI FF cv) {x4 x6 : Int} {rec : Int → Int → Int → Obj → Option (Int × Obj)} (hrec : ∀ (x5 : Int) (x7 : Int) (x8 : Int) (s : Obj), GQ (XA l Z n0 CN FF cv h0) decodeBlock_I 0 0 28 [some (Rf 0), none, none, none, some (I x4), some (I x5), some (I x6), some (I x7), some (I x8), none, none, none, none] [] s (rec x5 x7 x8 s)) (x5 : Int) (x7 : Int) (x8 : Int) (s : Obj) : GQ (XA l Z n0 CN FF cv h0) decodeBlock_I 0 0 164 [some (Rf 0), none, none, none, some (I x4), some (I x5), some (I x6), some (I x7), some (I x8), none, none, none, none] [] s (decodeBlock_j164 rec x4 x5 x6 x7 x8 s) := by
  unfold decodeBlock_j164
  refine GQ.iinc (L' := [some (Rf 0), none, none, none, some (I x4), some (I x5), some (I x6), some (I x7), some (I (aAdd x8 1)), none, none, none, none]) (pc' := 167) decodeBlock_d164 rfl rfl rfl rfl ?_
  refine GQ.goto (pc' := 28) decodeBlock_d167 rfl rfl ?_
  exact hrec x5 x7 (aAdd x8 1) s
set_option maxRecDepth 65536 in
set_option maxHeartbeats 4000000 in
theorem decodeBlock_l28b_ok {l : Launch} {Z : State} {a0 : Array Value} {n0 : Nat} {cv : Nat → Nat} {h0 : Heap} (hw : Words a0 Z) (K : KA a0 Z n0 CN nI FF cv) (x4 : Int) (x6 : Int) {rec : Int → Int → Int → Obj → Option (Int × Obj)} (hrec : ∀ (x5 : Int) (x7 : Int) (x8 : Int) (s : Obj), GQ (XA l Z n0 CN FF cv h0) decodeBlock_I 0 0 28 [some (Rf 0), none, none, none, some (I x4), some (I x5), some (I x6), some (I x7), some (I x8), none, none, none, none] [] s (rec x5 x7 x8 s)) (x5 : Int) (x7 : Int) (x8 : Int) (s : Obj) : GQ (XA l Z n0 CN FF cv h0) decodeBlock_I 0 0 28 [some (Rf 0), none, none, none, some (I x4), some (I x5), some (I x6), some (I x7), some (I x8), none, none, none, none] [] s (decodeBlock_l28b x4 x6 rec x5 x7 x8 s) := by
  unfold decodeBlock_l28b
  refine GQ.iload (pc' := 30) decodeBlock_d28 rfl rfl ?_
  refine GQ.bipush (pc' := 32) decodeBlock_d30 rfl rfl ?_
  refine GQ.icmpF (pcT := 170) (pcF := 35) h_ge decodeBlock_d32 rfl rfl rfl ?_ ?_
  · refine GQ.iload (pc' := 172) decodeBlock_d170 rfl rfl ?_
    exact GQ.iret rfl decodeBlock_d172
  refine GQ.iload (pc' := 37) decodeBlock_d35 rfl rfl ?_
  refine GQ.iload (pc' := 39) decodeBlock_d37 rfl rfl ?_
  refine GQ.icmpF (pcT := 170) (pcF := 42) h_ge decodeBlock_d39 rfl rfl rfl ?_ ?_
  · refine GQ.iload (pc' := 172) decodeBlock_d170 rfl rfl ?_
    exact GQ.iret rfl decodeBlock_d172
  refine GQ.iload (pc' := 44) decodeBlock_d42 rfl rfl ?_
  refine GQ.iload (pc' := 46) decodeBlock_d44 rfl rfl ?_
  refine GQ.icmpF (pcT := 170) (pcF := 49) h_ge decodeBlock_d46 rfl rfl rfl ?_ ?_
  · refine GQ.iload (pc' := 172) decodeBlock_d170 rfl rfl ?_
    exact GQ.iret rfl decodeBlock_d172
  refine GQ.aloadN (pc' := 50) decodeBlock_d49 rfl rfl ?_
  refine GQ.iload (pc' := 52) decodeBlock_d50 rfl rfl ?_
  refine GQ.callP (Mc := u8_I) (args0 := [I x5]) (S := []) (r := 0) (pc' := 55) (u8_K hw (by decide)) rfl decodeBlock_d52 rfl (wd218 hw) (wd219 hw) (wd220 hw) (wd1 hw) XA.recv rfl (u8_M_ok hw K x5 s) rfl (fun z52 s52 => ?_)
  show GQ (XA l Z n0 CN FF cv h0) decodeBlock_I _ _ 55 [some (Rf 0), none, none, none, some (I x4), some (I x5), some (I x6), some (I x7), some (I x8), none, none, none, none] [I z52] s52 _
  refine GQ.istore (L' := [some (Rf 0), none, none, none, some (I x4), some (I x5), some (I x6), some (I x7), some (I x8), some (I z52), none, none, none]) (pc' := 57) decodeBlock_d55 rfl rfl rfl ?_
  refine GQ.iinc (L' := [some (Rf 0), none, none, none, some (I x4), some (I (aAdd x5 1)), some (I x6), some (I x7), some (I x8), some (I z52), none, none, none]) (pc' := 60) decodeBlock_d57 rfl rfl rfl rfl ?_
  refine GQ.iload (pc' := 62) decodeBlock_d60 rfl rfl ?_
  refine GQ.bipush (pc' := 64) decodeBlock_d62 rfl rfl ?_
  refine GQ.iushr (pc' := 65) decodeBlock_d64 rfl ?_
  refine GQ.letI (fun x10_65 => ?_)
  refine GQ.istore (L' := [some (Rf 0), none, none, none, some (I x4), some (I (aAdd x5 1)), some (I x6), some (I x7), some (I x8), some (I z52), some (I x10_65), none, none]) (pc' := 67) decodeBlock_d65 rfl rfl rfl ?_
  refine GQ.iload (pc' := 69) decodeBlock_d67 rfl rfl ?_
  refine GQ.bipush (pc' := 71) decodeBlock_d69 rfl rfl ?_
  refine GQ.iand (pc' := 72) decodeBlock_d71 rfl ?_
  refine GQ.iconst (pc' := 73) decodeBlock_d72 rfl rfl ?_
  refine GQ.iadd (pc' := 74) decodeBlock_d73 rfl ?_
  refine GQ.letI (fun x11_74 => ?_)
  refine GQ.istore (L' := [some (Rf 0), none, none, none, some (I x4), some (I (aAdd x5 1)), some (I x6), some (I x7), some (I x8), some (I z52), some (I x10_65), some (I x11_74), none]) (pc' := 76) decodeBlock_d74 rfl rfl rfl ?_
  refine GQ.iload (pc' := 78) decodeBlock_d76 rfl rfl ?_
  refine GQ.ifF (pcT := 105) (pcF := 81) h_ne decodeBlock_d78 rfl rfl rfl ?_ ?_
  · refine GQ.iload (pc' := 107) decodeBlock_d105 rfl rfl ?_
    refine GQ.iconst (pc' := 108) decodeBlock_d107 rfl rfl ?_
    refine GQ.icmpF (pcT := 139) (pcF := 111) h_ne decodeBlock_d108 rfl rfl rfl ?_ ?_
    · refine GQ.aloadN (pc' := 140) decodeBlock_d139 rfl rfl ?_
      refine GQ.iload (pc' := 142) decodeBlock_d140 rfl rfl ?_
      refine GQ.callP (Mc := u8_I) (args0 := [I (aAdd x5 1)]) (S := []) (r := 0) (pc' := 145) (u8_K hw (by decide)) rfl decodeBlock_d142 rfl (wd218 hw) (wd219 hw) (wd220 hw) (wd1 hw) XA.recv rfl (u8_M_ok hw K (aAdd x5 1) s52) rfl (fun z142 s142 => ?_)
      show GQ (XA l Z n0 CN FF cv h0) decodeBlock_I _ _ 145 [some (Rf 0), none, none, none, some (I x4), some (I (aAdd x5 1)), some (I x6), some (I x7), some (I x8), some (I z52), some (I x10_65), some (I x11_74), none] [I z142] s142 _
      refine GQ.istore (L' := [some (Rf 0), none, none, none, some (I x4), some (I (aAdd x5 1)), some (I x6), some (I x7), some (I x8), some (I z52), some (I x10_65), some (I x11_74), some (I z142)]) (pc' := 147) decodeBlock_d145 rfl rfl rfl ?_
      refine GQ.iinc (L' := [some (Rf 0), none, none, none, some (I x4), some (I (aAdd (aAdd x5 1) 1)), some (I x6), some (I x7), some (I x8), some (I z52), some (I x10_65), some (I x11_74), some (I z142)]) (pc' := 150) decodeBlock_d147 rfl rfl rfl rfl ?_
      refine GQ.aloadN (pc' := 151) decodeBlock_d150 rfl rfl ?_
      refine GQ.iload (pc' := 153) decodeBlock_d151 rfl rfl ?_
      refine GQ.iload (pc' := 155) decodeBlock_d153 rfl rfl ?_
      refine GQ.iload (pc' := 157) decodeBlock_d155 rfl rfl ?_
      refine GQ.iload (pc' := 159) decodeBlock_d157 rfl rfl ?_
      exact GQ.no
    refine GQ.aloadN (pc' := 112) decodeBlock_d111 rfl rfl ?_
    refine GQ.iload (pc' := 114) decodeBlock_d112 rfl rfl ?_
    refine GQ.callP (Mc := u8_I) (args0 := [I (aAdd x5 1)]) (S := []) (r := 0) (pc' := 117) (u8_K hw (by decide)) rfl decodeBlock_d114 rfl (wd218 hw) (wd219 hw) (wd220 hw) (wd1 hw) XA.recv rfl (u8_M_ok hw K (aAdd x5 1) s52) rfl (fun z114 s114 => ?_)
    show GQ (XA l Z n0 CN FF cv h0) decodeBlock_I _ _ 117 [some (Rf 0), none, none, none, some (I x4), some (I (aAdd x5 1)), some (I x6), some (I x7), some (I x8), some (I z52), some (I x10_65), some (I x11_74), none] [I z114] s114 _
    refine GQ.istore (L' := [some (Rf 0), none, none, none, some (I x4), some (I (aAdd x5 1)), some (I x6), some (I x7), some (I x8), some (I z52), some (I x10_65), some (I x11_74), some (I z114)]) (pc' := 119) decodeBlock_d117 rfl rfl rfl ?_
    refine GQ.iinc (L' := [some (Rf 0), none, none, none, some (I x4), some (I (aAdd (aAdd x5 1) 1)), some (I x6), some (I x7), some (I x8), some (I z52), some (I x10_65), some (I x11_74), some (I z114)]) (pc' := 122) decodeBlock_d119 rfl rfl rfl rfl ?_
    refine GQ.aloadN (pc' := 123) decodeBlock_d122 rfl rfl ?_
    refine GQ.iload (pc' := 125) decodeBlock_d123 rfl rfl ?_
    refine GQ.iload (pc' := 127) decodeBlock_d125 rfl rfl ?_
    refine GQ.iload (pc' := 129) decodeBlock_d127 rfl rfl ?_
    refine GQ.iload (pc' := 131) decodeBlock_d129 rfl rfl ?_
    refine GQ.callP (Mc := fillRun_I) (args0 := [I z114, I x7, I x11_74, I x4]) (S := []) (r := 0) (pc' := 134) (fillRun_K hw (by decide)) rfl decodeBlock_d131 rfl (wd302 hw) (wd303 hw) (wd304 hw) (wd1 hw) XA.recv rfl (fillRun_M_ok hw K z114 x7 x11_74 x4 s114) rfl (fun z131 s131 => ?_)
    show GQ (XA l Z n0 CN FF cv h0) decodeBlock_I _ _ 134 [some (Rf 0), none, none, none, some (I x4), some (I (aAdd (aAdd x5 1) 1)), some (I x6), some (I x7), some (I x8), some (I z52), some (I x10_65), some (I x11_74), some (I z114)] [I z131] s131 _
    refine GQ.istore (L' := [some (Rf 0), none, none, none, some (I x4), some (I (aAdd (aAdd x5 1) 1)), some (I x6), some (I z131), some (I x8), some (I z52), some (I x10_65), some (I x11_74), some (I z114)]) (pc' := 136) decodeBlock_d134 rfl rfl rfl ?_
    refine GQ.goto (pc' := 164) decodeBlock_d136 rfl rfl ?_
    refine GQ.weak (L' := [some (Rf 0), none, none, none, some (I x4), some (I (aAdd (aAdd x5 1) 1)), some (I x6), some (I z131), some (I x8), none, none, none, none]) (Sub.keep (Sub.keep (Sub.keep (Sub.keep (Sub.keep (Sub.keep (Sub.keep (Sub.keep (Sub.keep (Sub.drop (Sub.drop (Sub.drop (Sub.drop Sub.nil))))))))))))) ?_
    exact decodeBlock_j164_ok hw K hrec (aAdd (aAdd x5 1) 1) z131 x8 s131
  refine GQ.aloadN (pc' := 82) decodeBlock_d81 rfl rfl ?_
  refine GQ.iload (pc' := 84) decodeBlock_d82 rfl rfl ?_
  refine GQ.iload (pc' := 86) decodeBlock_d84 rfl rfl ?_
  refine GQ.iload (pc' := 88) decodeBlock_d86 rfl rfl ?_
  refine GQ.iload (pc' := 90) decodeBlock_d88 rfl rfl ?_
  refine GQ.callP (Mc := copyLiteral_I) (args0 := [I (aAdd x5 1), I x7, I x11_74, I x4]) (S := []) (r := 0) (pc' := 93) (copyLiteral_K hw (by decide)) rfl decodeBlock_d90 rfl (wd285 hw) (wd286 hw) (wd287 hw) (wd1 hw) XA.recv rfl (copyLiteral_M_ok hw K (aAdd x5 1) x7 x11_74 x4 s52) rfl (fun z90 s90 => ?_)
  show GQ (XA l Z n0 CN FF cv h0) decodeBlock_I _ _ 93 [some (Rf 0), none, none, none, some (I x4), some (I (aAdd x5 1)), some (I x6), some (I x7), some (I x8), some (I z52), some (I x10_65), some (I x11_74), none] [I z90] s90 _
  refine GQ.istore (L' := [some (Rf 0), none, none, none, some (I x4), some (I (aAdd x5 1)), some (I x6), some (I z90), some (I x8), some (I z52), some (I x10_65), some (I x11_74), none]) (pc' := 95) decodeBlock_d93 rfl rfl rfl ?_
  refine GQ.iload (pc' := 97) decodeBlock_d95 rfl rfl ?_
  refine GQ.iload (pc' := 99) decodeBlock_d97 rfl rfl ?_
  refine GQ.iadd (pc' := 100) decodeBlock_d99 rfl ?_
  refine GQ.letI (fun x5_100 => ?_)
  refine GQ.istore (L' := [some (Rf 0), none, none, none, some (I x4), some (I x5_100), some (I x6), some (I z90), some (I x8), some (I z52), some (I x10_65), some (I x11_74), none]) (pc' := 102) decodeBlock_d100 rfl rfl rfl ?_
  refine GQ.goto (pc' := 164) decodeBlock_d102 rfl rfl ?_
  refine GQ.weak (L' := [some (Rf 0), none, none, none, some (I x4), some (I x5_100), some (I x6), some (I z90), some (I x8), none, none, none, none]) (Sub.keep (Sub.keep (Sub.keep (Sub.keep (Sub.keep (Sub.keep (Sub.keep (Sub.keep (Sub.keep (Sub.drop (Sub.drop (Sub.drop (Sub.keep Sub.nil))))))))))))) ?_
  exact decodeBlock_j164_ok hw K hrec x5_100 z90 x8 s90
set_option maxRecDepth 65536 in
set_option maxHeartbeats 4000000 in
theorem decodeBlock_l28_ok {l : Launch} {Z : State} {a0 : Array Value} {n0 : Nat} {cv : Nat → Nat} {h0 : Heap} (hw : Words a0 Z) (K : KA a0 Z n0 CN nI FF cv) (x4 : Int) (x6 : Int) : ∀ (fu : Nat) (x5 : Int) (x7 : Int) (x8 : Int) (s : Obj), GQ (XA l Z n0 CN FF cv h0) decodeBlock_I 0 0 28 [some (Rf 0), none, none, none, some (I x4), some (I x5), some (I x6), some (I x7), some (I x8), none, none, none, none] [] s (decodeBlock_l28 x4 x6 fu x5 x7 x8 s)
  | 0 => fun _ _ _ _ => GQ.no
  | fu + 1 => decodeBlock_l28b_ok hw K x4 x6 (decodeBlock_l28_ok hw K x4 x6 fu)
set_option maxRecDepth 65536 in
set_option maxHeartbeats 4000000 in
theorem decodeBlock_j12_ok {l : Launch} {Z : State} {a0 : Array Value} {n0 : Nat} {cv : Nat → Nat} {h0 : Heap} (hw : Words a0 Z) (K : KA a0 Z n0 CN nI FF cv) (x1 : Int) (x2 : Int) (y0 : Int) (s : Obj) : GQ (XA l Z n0 CN FF cv h0) decodeBlock_I 0 0 12 [some (Rf 0), some (I x1), some (I x2), none, none, none, none, none, none, none, none, none, none] [I y0] s (decodeBlock_j12 x1 x2 y0 s) := by
  unfold decodeBlock_j12
  refine GQ.istore (L' := [some (Rf 0), some (I x1), some (I x2), none, some (I y0), none, none, none, none, none, none, none, none]) (pc' := 14) decodeBlock_d12 rfl rfl rfl ?_
  refine GQ.iloadN (pc' := 15) decodeBlock_d14 rfl rfl ?_
  refine GQ.istore (L' := [some (Rf 0), some (I x1), some (I x2), none, some (I y0), some (I x1), none, none, none, none, none, none, none]) (pc' := 17) decodeBlock_d15 rfl rfl rfl ?_
  refine GQ.iloadN (pc' := 18) decodeBlock_d17 rfl rfl ?_
  refine GQ.iloadN (pc' := 19) decodeBlock_d18 rfl rfl ?_
  refine GQ.iadd (pc' := 20) decodeBlock_d19 rfl ?_
  refine GQ.letI (fun x6_20 => ?_)
  refine GQ.istore (L' := [some (Rf 0), some (I x1), some (I x2), none, some (I y0), some (I x1), some (I x6_20), none, none, none, none, none, none]) (pc' := 22) decodeBlock_d20 rfl rfl rfl ?_
  refine GQ.iconst (pc' := 23) decodeBlock_d22 rfl rfl ?_
  refine GQ.istore (L' := [some (Rf 0), some (I x1), some (I x2), none, some (I y0), some (I x1), some (I x6_20), some (I 0), none, none, none, none, none]) (pc' := 25) decodeBlock_d23 rfl rfl rfl ?_
  refine GQ.iconst (pc' := 26) decodeBlock_d25 rfl rfl ?_
  refine GQ.istore (L' := [some (Rf 0), some (I x1), some (I x2), none, some (I y0), some (I x1), some (I x6_20), some (I 0), some (I 0), none, none, none, none]) (pc' := 28) decodeBlock_d26 rfl rfl rfl ?_
  refine GQ.weak (L' := [some (Rf 0), none, none, none, some (I y0), some (I x1), some (I x6_20), some (I 0), some (I 0), none, none, none, none]) (Sub.keep (Sub.drop (Sub.drop (Sub.keep (Sub.keep (Sub.keep (Sub.keep (Sub.keep (Sub.keep (Sub.keep (Sub.keep (Sub.keep (Sub.keep Sub.nil))))))))))))) ?_
  exact decodeBlock_l28_ok hw K y0 x6_20 FU x1 0 0 s
set_option maxRecDepth 65536 in
set_option maxHeartbeats 4000000 in
theorem decodeBlock_M_ok {l : Launch} {Z : State} {a0 : Array Value} {n0 : Nat} {cv : Nat → Nat} {h0 : Heap} (hw : Words a0 Z) (K : KA a0 Z n0 CN nI FF cv) (x1 : Int) (x2 : Int) (x3 : Int) (s : Obj) : GQ (XA l Z n0 CN FF cv h0) decodeBlock_I 0 0 0 (entry [Rf 0, I x1, I x2, I x3] decodeBlock_I.2.2.1) [] s (decodeBlock_M x1 x2 x3 s) := by
  show GQ _ _ _ _ 0 [some (Rf 0), some (I x1), some (I x2), some (I x3), none, none, none, none, none, none, none, none, none] [] _ _
  unfold decodeBlock_M
  refine GQ.iloadN (pc' := 1) decodeBlock_d0 rfl rfl ?_
  refine GQ.bipush (pc' := 3) decodeBlock_d1 rfl rfl ?_
  refine GQ.icmpF (pcT := 11) (pcF := 6) h_le decodeBlock_d3 rfl rfl rfl ?_ ?_
  · refine GQ.iloadN (pc' := 12) decodeBlock_d11 rfl rfl ?_
    refine GQ.weak (L' := [some (Rf 0), some (I x1), some (I x2), none, none, none, none, none, none, none, none, none, none]) (Sub.keep (Sub.keep (Sub.keep (Sub.drop (Sub.keep (Sub.keep (Sub.keep (Sub.keep (Sub.keep (Sub.keep (Sub.keep (Sub.keep (Sub.keep Sub.nil))))))))))))) ?_
    exact decodeBlock_j12_ok hw K x1 x2 x3 s
  refine GQ.bipush (pc' := 8) decodeBlock_d6 rfl rfl ?_
  refine GQ.goto (pc' := 12) decodeBlock_d8 rfl rfl ?_
  refine GQ.weak (L' := [some (Rf 0), some (I x1), some (I x2), none, none, none, none, none, none, none, none, none, none]) (Sub.keep (Sub.keep (Sub.keep (Sub.drop (Sub.keep (Sub.keep (Sub.keep (Sub.keep (Sub.keep (Sub.keep (Sub.keep (Sub.keep (Sub.keep Sub.nil))))))))))))) ?_
  exact decodeBlock_j12_ok hw K x1 x2 32 s
def loadBlock_I : Mi := (⟨"SquashImage", "loadBlock", "(I)I"⟩, prog_1_method_32_code, 8, (some .int), 3, 56)
theorem loadBlock_d0 : decode loadBlock_I.2.1 0 = .ok (.iload_n 1, 1) := by decide +kernel
theorem loadBlock_d1 : decode loadBlock_I.2.1 1 = .ok (.aload_n 0, 1) := by decide +kernel
theorem loadBlock_d2 : decode loadBlock_I.2.1 2 = .ok (.getfield 171, 3) := by decide +kernel
theorem loadBlock_d5 : decode loadBlock_I.2.1 5 = .ok (.if_icmp .ne 8, 3) := by decide +kernel
theorem loadBlock_d8 : decode loadBlock_I.2.1 8 = .ok (.aload_n 0, 1) := by decide +kernel
theorem loadBlock_d9 : decode loadBlock_I.2.1 9 = .ok (.getfield 174, 3) := by decide +kernel
theorem loadBlock_d12 : decode loadBlock_I.2.1 12 = .ok (.ireturn, 1) := by decide +kernel
theorem loadBlock_d13 : decode loadBlock_I.2.1 13 = .ok (.aload_n 0, 1) := by decide +kernel
theorem loadBlock_d14 : decode loadBlock_I.2.1 14 = .ok (.bipush 11, 2) := by decide +kernel
theorem loadBlock_d16 : decode loadBlock_I.2.1 16 = .ok (.invokevirtual 286, 3) := by decide +kernel
theorem loadBlock_d19 : decode loadBlock_I.2.1 19 = .ok (.istore_n 2, 1) := by decide +kernel
theorem loadBlock_d20 : decode loadBlock_I.2.1 20 = .ok (.iload_n 1, 1) := by decide +kernel
theorem loadBlock_d21 : decode loadBlock_I.2.1 21 = .ok (.ifCond .lt 8, 3) := by decide +kernel
theorem loadBlock_d24 : decode loadBlock_I.2.1 24 = .ok (.iload_n 1, 1) := by decide +kernel
theorem loadBlock_d25 : decode loadBlock_I.2.1 25 = .ok (.iload_n 2, 1) := by decide +kernel
theorem loadBlock_d26 : decode loadBlock_I.2.1 26 = .ok (.if_icmp .lt 5, 3) := by decide +kernel
theorem loadBlock_d29 : decode loadBlock_I.2.1 29 = .ok (.iconst 0, 1) := by decide +kernel
theorem loadBlock_d30 : decode loadBlock_I.2.1 30 = .ok (.ireturn, 1) := by decide +kernel
theorem loadBlock_d31 : decode loadBlock_I.2.1 31 = .ok (.aload_n 0, 1) := by decide +kernel
theorem loadBlock_d32 : decode loadBlock_I.2.1 32 = .ok (.iconst 2, 1) := by decide +kernel
theorem loadBlock_d33 : decode loadBlock_I.2.1 33 = .ok (.invokevirtual 252, 3) := by decide +kernel
theorem loadBlock_d36 : decode loadBlock_I.2.1 36 = .ok (.iconst 4, 1) := by decide +kernel
theorem loadBlock_d37 : decode loadBlock_I.2.1 37 = .ok (.iload_n 1, 1) := by decide +kernel
theorem loadBlock_d38 : decode loadBlock_I.2.1 38 = .ok (.imul, 1) := by decide +kernel
theorem loadBlock_d39 : decode loadBlock_I.2.1 39 = .ok (.iadd, 1) := by decide +kernel
theorem loadBlock_d40 : decode loadBlock_I.2.1 40 = .ok (.istore_n 3, 1) := by decide +kernel
theorem loadBlock_d41 : decode loadBlock_I.2.1 41 = .ok (.aload_n 0, 1) := by decide +kernel
theorem loadBlock_d42 : decode loadBlock_I.2.1 42 = .ok (.iload_n 3, 1) := by decide +kernel
theorem loadBlock_d43 : decode loadBlock_I.2.1 43 = .ok (.invokevirtual 252, 3) := by decide +kernel
theorem loadBlock_d46 : decode loadBlock_I.2.1 46 = .ok (.istore 4, 2) := by decide +kernel
theorem loadBlock_d48 : decode loadBlock_I.2.1 48 = .ok (.aload_n 0, 1) := by decide +kernel
theorem loadBlock_d49 : decode loadBlock_I.2.1 49 = .ok (.iload_n 3, 1) := by decide +kernel
theorem loadBlock_d50 : decode loadBlock_I.2.1 50 = .ok (.iconst 2, 1) := by decide +kernel
theorem loadBlock_d51 : decode loadBlock_I.2.1 51 = .ok (.iadd, 1) := by decide +kernel
theorem loadBlock_d52 : decode loadBlock_I.2.1 52 = .ok (.invokevirtual 286, 3) := by decide +kernel
theorem loadBlock_d55 : decode loadBlock_I.2.1 55 = .ok (.istore 5, 2) := by decide +kernel
theorem loadBlock_d57 : decode loadBlock_I.2.1 57 = .ok (.aload_n 0, 1) := by decide +kernel
theorem loadBlock_d58 : decode loadBlock_I.2.1 58 = .ok (.iload_n 3, 1) := by decide +kernel
theorem loadBlock_d59 : decode loadBlock_I.2.1 59 = .ok (.iconst 3, 1) := by decide +kernel
theorem loadBlock_d60 : decode loadBlock_I.2.1 60 = .ok (.iadd, 1) := by decide +kernel
theorem loadBlock_d61 : decode loadBlock_I.2.1 61 = .ok (.invokevirtual 286, 3) := by decide +kernel
theorem loadBlock_d64 : decode loadBlock_I.2.1 64 = .ok (.istore 6, 2) := by decide +kernel
theorem loadBlock_d66 : decode loadBlock_I.2.1 66 = .ok (.aload_n 0, 1) := by decide +kernel
theorem loadBlock_d67 : decode loadBlock_I.2.1 67 = .ok (.iload 4, 2) := by decide +kernel
theorem loadBlock_d69 : decode loadBlock_I.2.1 69 = .ok (.iload 5, 2) := by decide +kernel
theorem loadBlock_d71 : decode loadBlock_I.2.1 71 = .ok (.iload 6, 2) := by decide +kernel
theorem loadBlock_d73 : decode loadBlock_I.2.1 73 = .ok (.invokevirtual 289, 3) := by decide +kernel
theorem loadBlock_d76 : decode loadBlock_I.2.1 76 = .ok (.istore 7, 2) := by decide +kernel
theorem loadBlock_d78 : decode loadBlock_I.2.1 78 = .ok (.aload_n 0, 1) := by decide +kernel
theorem loadBlock_d79 : decode loadBlock_I.2.1 79 = .ok (.iload_n 1, 1) := by decide +kernel
theorem loadBlock_d80 : decode loadBlock_I.2.1 80 = .ok (.putfield 171, 3) := by decide +kernel
theorem loadBlock_d83 : decode loadBlock_I.2.1 83 = .ok (.aload_n 0, 1) := by decide +kernel
theorem loadBlock_d84 : decode loadBlock_I.2.1 84 = .ok (.iload 7, 2) := by decide +kernel
theorem loadBlock_d86 : decode loadBlock_I.2.1 86 = .ok (.putfield 174, 3) := by decide +kernel
theorem loadBlock_d89 : decode loadBlock_I.2.1 89 = .ok (.iload 7, 2) := by decide +kernel
theorem loadBlock_d91 : decode loadBlock_I.2.1 91 = .ok (.ireturn, 1) := by decide +kernel
theorem loadBlock_p : parseMethodDescriptor loadBlock_I.1.desc = some ⟨[.int], (some .int)⟩ := by decide +kernel
theorem loadBlock_K {a0 : Array Value} {Z : State} {M : Mi} (hw : Words a0 Z) (h : loadBlock_I.2.2.2.2.1 + 1 ≤ M.2.2.2.2.1) : Callee a0 Z M loadBlock_I 1 := ⟨pnC, (wd280 hw), (wd2 hw), h, by decide, fun sig q => by cases loadBlock_p.symm.trans q; rfl⟩
set_option maxRecDepth 65536 in
set_option maxHeartbeats 4000000 in
theorem loadBlock_M_ok {l : Launch} {Z : State} {a0 : Array Value} {n0 : Nat} {cv : Nat → Nat} {h0 : Heap} (hw : Words a0 Z) (K : KA a0 Z n0 CN nI FF cv) (x1 : Int) (s : Obj) : GQ (XA l Z n0 CN FF cv h0) loadBlock_I 0 0 0 (entry [Rf 0, I x1] loadBlock_I.2.2.1) [] s (loadBlock_M x1 s) := by
  show GQ _ _ _ _ 0 [some (Rf 0), some (I x1), none, none, none, none, none, none] [] _ _
  unfold loadBlock_M
  refine GQ.iloadN (pc' := 1) loadBlock_d0 rfl rfl ?_
  refine GQ.aloadN (pc' := 2) loadBlock_d1 rfl rfl ?_
  refine GQ.getI (M := loadBlock_I) (k := 55) (pc' := 5) rfl (wd118 hw) loadBlock_d2 rfl ?_
  refine GQ.icmpF (pcT := 13) (pcF := 8) h_ne loadBlock_d5 rfl rfl rfl ?_ ?_
  · refine GQ.aloadN (pc' := 14) loadBlock_d13 rfl rfl ?_
    refine GQ.bipush (pc' := 16) loadBlock_d14 rfl rfl ?_
    refine GQ.callP (Mc := u8_I) (args0 := [I 11]) (S := []) (r := 0) (pc' := 19) (u8_K hw (by decide)) rfl loadBlock_d16 rfl (wd218 hw) (wd219 hw) (wd220 hw) (wd1 hw) XA.recv rfl (u8_M_ok hw K 11 s) rfl (fun z16 s16 => ?_)
    show GQ (XA l Z n0 CN FF cv h0) loadBlock_I _ _ 19 [some (Rf 0), some (I x1), none, none, none, none, none, none] [I z16] s16 _
    refine GQ.istoreN (L' := [some (Rf 0), some (I x1), some (I z16), none, none, none, none, none]) (pc' := 20) loadBlock_d19 rfl rfl rfl ?_
    refine GQ.iloadN (pc' := 21) loadBlock_d20 rfl rfl ?_
    refine GQ.ifT (pcT := 29) (pcF := 24) h_lt loadBlock_d21 rfl rfl rfl ?_ ?_
    · refine GQ.iconst (pc' := 30) loadBlock_d29 rfl rfl ?_
      exact GQ.iret rfl loadBlock_d30
    refine GQ.iloadN (pc' := 25) loadBlock_d24 rfl rfl ?_
    refine GQ.iloadN (pc' := 26) loadBlock_d25 rfl rfl ?_
    refine GQ.icmpT (pcT := 31) (pcF := 29) h_lt loadBlock_d26 rfl rfl rfl ?_ ?_
    · refine GQ.aloadN (pc' := 32) loadBlock_d31 rfl rfl ?_
      refine GQ.iconst (pc' := 33) loadBlock_d32 rfl rfl ?_
      refine GQ.callP (Mc := u16_I) (args0 := [I 2]) (S := []) (r := 0) (pc' := 36) (u16_K hw (by decide)) rfl loadBlock_d33 rfl (wd214 hw) (wd215 hw) (wd216 hw) (wd1 hw) XA.recv rfl (u16_M_ok hw K 2 s16) rfl (fun z33 s33 => ?_)
      show GQ (XA l Z n0 CN FF cv h0) loadBlock_I _ _ 36 [some (Rf 0), some (I x1), some (I z16), none, none, none, none, none] [I z33] s33 _
      refine GQ.iconst (pc' := 37) loadBlock_d36 rfl rfl ?_
      refine GQ.iloadN (pc' := 38) loadBlock_d37 rfl rfl ?_
      refine GQ.imul (pc' := 39) loadBlock_d38 rfl ?_
      refine GQ.iadd (pc' := 40) loadBlock_d39 rfl ?_
      refine GQ.letI (fun x3_40 => ?_)
      refine GQ.istoreN (L' := [some (Rf 0), some (I x1), some (I z16), some (I x3_40), none, none, none, none]) (pc' := 41) loadBlock_d40 rfl rfl rfl ?_
      refine GQ.aloadN (pc' := 42) loadBlock_d41 rfl rfl ?_
      refine GQ.iloadN (pc' := 43) loadBlock_d42 rfl rfl ?_
      refine GQ.callP (Mc := u16_I) (args0 := [I x3_40]) (S := []) (r := 0) (pc' := 46) (u16_K hw (by decide)) rfl loadBlock_d43 rfl (wd214 hw) (wd215 hw) (wd216 hw) (wd1 hw) XA.recv rfl (u16_M_ok hw K x3_40 s33) rfl (fun z43 s43 => ?_)
      show GQ (XA l Z n0 CN FF cv h0) loadBlock_I _ _ 46 [some (Rf 0), some (I x1), some (I z16), some (I x3_40), none, none, none, none] [I z43] s43 _
      refine GQ.istore (L' := [some (Rf 0), some (I x1), some (I z16), some (I x3_40), some (I z43), none, none, none]) (pc' := 48) loadBlock_d46 rfl rfl rfl ?_
      refine GQ.aloadN (pc' := 49) loadBlock_d48 rfl rfl ?_
      refine GQ.iloadN (pc' := 50) loadBlock_d49 rfl rfl ?_
      refine GQ.iconst (pc' := 51) loadBlock_d50 rfl rfl ?_
      refine GQ.iadd (pc' := 52) loadBlock_d51 rfl ?_
      refine GQ.callP (Mc := u8_I) (args0 := [I (aAdd x3_40 2)]) (S := []) (r := 0) (pc' := 55) (u8_K hw (by decide)) rfl loadBlock_d52 rfl (wd218 hw) (wd219 hw) (wd220 hw) (wd1 hw) XA.recv rfl (u8_M_ok hw K (aAdd x3_40 2) s43) rfl (fun z52 s52 => ?_)
      show GQ (XA l Z n0 CN FF cv h0) loadBlock_I _ _ 55 [some (Rf 0), some (I x1), some (I z16), some (I x3_40), some (I z43), none, none, none] [I z52] s52 _
      refine GQ.istore (L' := [some (Rf 0), some (I x1), some (I z16), some (I x3_40), some (I z43), some (I z52), none, none]) (pc' := 57) loadBlock_d55 rfl rfl rfl ?_
      refine GQ.aloadN (pc' := 58) loadBlock_d57 rfl rfl ?_
      refine GQ.iloadN (pc' := 59) loadBlock_d58 rfl rfl ?_
      refine GQ.iconst (pc' := 60) loadBlock_d59 rfl rfl ?_
      refine GQ.iadd (pc' := 61) loadBlock_d60 rfl ?_
      refine GQ.callP (Mc := u8_I) (args0 := [I (aAdd x3_40 3)]) (S := []) (r := 0) (pc' := 64) (u8_K hw (by decide)) rfl loadBlock_d61 rfl (wd218 hw) (wd219 hw) (wd220 hw) (wd1 hw) XA.recv rfl (u8_M_ok hw K (aAdd x3_40 3) s52) rfl (fun z61 s61 => ?_)
      show GQ (XA l Z n0 CN FF cv h0) loadBlock_I _ _ 64 [some (Rf 0), some (I x1), some (I z16), some (I x3_40), some (I z43), some (I z52), none, none] [I z61] s61 _
      refine GQ.istore (L' := [some (Rf 0), some (I x1), some (I z16), some (I x3_40), some (I z43), some (I z52), some (I z61), none]) (pc' := 66) loadBlock_d64 rfl rfl rfl ?_
      refine GQ.aloadN (pc' := 67) loadBlock_d66 rfl rfl ?_
      refine GQ.iload (pc' := 69) loadBlock_d67 rfl rfl ?_
      refine GQ.iload (pc' := 71) loadBlock_d69 rfl rfl ?_
      refine GQ.iload (pc' := 73) loadBlock_d71 rfl rfl ?_
      refine GQ.callP (Mc := decodeBlock_I) (args0 := [I z43, I z52, I z61]) (S := []) (r := 0) (pc' := 76) (decodeBlock_K hw (by decide)) rfl loadBlock_d73 rfl (wd281 hw) (wd282 hw) (wd283 hw) (wd1 hw) XA.recv rfl (decodeBlock_M_ok hw K z43 z52 z61 s61) rfl (fun z73 s73 => ?_)
      show GQ (XA l Z n0 CN FF cv h0) loadBlock_I _ _ 76 [some (Rf 0), some (I x1), some (I z16), some (I x3_40), some (I z43), some (I z52), some (I z61), none] [I z73] s73 _
      refine GQ.istore (L' := [some (Rf 0), some (I x1), some (I z16), some (I x3_40), some (I z43), some (I z52), some (I z61), some (I z73)]) (pc' := 78) loadBlock_d76 rfl rfl rfl ?_
      refine GQ.aloadN (pc' := 79) loadBlock_d78 rfl rfl ?_
      refine GQ.iloadN (pc' := 80) loadBlock_d79 rfl rfl ?_
      refine GQ.putI (M := loadBlock_I) (k := 55) (pc' := 83) K rfl (wd118 hw) (wd119 hw) loadBlock_d80 rfl ?_
      refine GQ.letM (fun s80 => ?_)
      refine GQ.aloadN (pc' := 84) loadBlock_d83 rfl rfl ?_
      refine GQ.iload (pc' := 86) loadBlock_d84 rfl rfl ?_
      refine GQ.putI (M := loadBlock_I) (k := 56) (pc' := 89) K rfl (wd120 hw) (wd121 hw) loadBlock_d86 rfl ?_
      refine GQ.letM (fun s86 => ?_)
      refine GQ.iload (pc' := 91) loadBlock_d89 rfl rfl ?_
      exact GQ.iret rfl loadBlock_d91
    refine GQ.iconst (pc' := 30) loadBlock_d29 rfl rfl ?_
    exact GQ.iret rfl loadBlock_d30
  refine GQ.aloadN (pc' := 9) loadBlock_d8 rfl rfl ?_
  refine GQ.getI (M := loadBlock_I) (k := 56) (pc' := 12) rfl (wd120 hw) loadBlock_d9 rfl ?_
  exact GQ.iret rfl loadBlock_d12
def readByte_I : Mi := (⟨"SquashImage", "readByte", "(II)I"⟩, prog_1_method_44_code, 9, (some .int), 4, 75)
theorem readByte_d0 : decode readByte_I.2.1 0 = .ok (.aload_n 0, 1) := by decide +kernel
theorem readByte_d1 : decode readByte_I.2.1 1 = .ok (.getfield 152, 3) := by decide +kernel
theorem readByte_d4 : decode readByte_I.2.1 4 = .ok (.ifCond .ne 5, 3) := by decide +kernel
theorem readByte_d7 : decode readByte_I.2.1 7 = .ok (.iconst (-1), 1) := by decide +kernel
theorem readByte_d8 : decode readByte_I.2.1 8 = .ok (.ireturn, 1) := by decide +kernel
theorem readByte_d9 : decode readByte_I.2.1 9 = .ok (.aload_n 0, 1) := by decide +kernel
theorem readByte_d10 : decode readByte_I.2.1 10 = .ok (.iload_n 1, 1) := by decide +kernel
theorem readByte_d11 : decode readByte_I.2.1 11 = .ok (.invokevirtual 195, 3) := by decide +kernel
theorem readByte_d14 : decode readByte_I.2.1 14 = .ok (.ifCond .ne 6, 3) := by decide +kernel
theorem readByte_d17 : decode readByte_I.2.1 17 = .ok (.bipush (-2), 2) := by decide +kernel
theorem readByte_d19 : decode readByte_I.2.1 19 = .ok (.ireturn, 1) := by decide +kernel
theorem readByte_d20 : decode readByte_I.2.1 20 = .ok (.aload_n 0, 1) := by decide +kernel
theorem readByte_d21 : decode readByte_I.2.1 21 = .ok (.iload_n 1, 1) := by decide +kernel
theorem readByte_d22 : decode readByte_I.2.1 22 = .ok (.invokevirtual 243, 3) := by decide +kernel
theorem readByte_d25 : decode readByte_I.2.1 25 = .ok (.istore_n 3, 1) := by decide +kernel
theorem readByte_d26 : decode readByte_I.2.1 26 = .ok (.aload_n 0, 1) := by decide +kernel
theorem readByte_d27 : decode readByte_I.2.1 27 = .ok (.iload_n 3, 1) := by decide +kernel
theorem readByte_d28 : decode readByte_I.2.1 28 = .ok (.iconst 2, 1) := by decide +kernel
theorem readByte_d29 : decode readByte_I.2.1 29 = .ok (.iadd, 1) := by decide +kernel
theorem readByte_d30 : decode readByte_I.2.1 30 = .ok (.invokevirtual 252, 3) := by decide +kernel
theorem readByte_d33 : decode readByte_I.2.1 33 = .ok (.istore 4, 2) := by decide +kernel
theorem readByte_d35 : decode readByte_I.2.1 35 = .ok (.iload_n 2, 1) := by decide +kernel
theorem readByte_d36 : decode readByte_I.2.1 36 = .ok (.ifCond .lt 9, 3) := by decide +kernel
theorem readByte_d39 : decode readByte_I.2.1 39 = .ok (.iload_n 2, 1) := by decide +kernel
theorem readByte_d40 : decode readByte_I.2.1 40 = .ok (.iload 4, 2) := by decide +kernel
theorem readByte_d42 : decode readByte_I.2.1 42 = .ok (.if_icmp .lt 6, 3) := by decide +kernel
theorem readByte_d45 : decode readByte_I.2.1 45 = .ok (.bipush (-3), 2) := by decide +kernel
theorem readByte_d47 : decode readByte_I.2.1 47 = .ok (.ireturn, 1) := by decide +kernel
theorem readByte_d48 : decode readByte_I.2.1 48 = .ok (.iload 4, 2) := by decide +kernel
theorem readByte_d50 : decode readByte_I.2.1 50 = .ok (.aload_n 0, 1) := by decide +kernel
theorem readByte_d51 : decode readByte_I.2.1 51 = .ok (.getfield 146, 3) := by decide +kernel
theorem readByte_d54 : decode readByte_I.2.1 54 = .ok (.idiv, 1) := by decide +kernel
theorem readByte_d55 : decode readByte_I.2.1 55 = .ok (.aload_n 0, 1) := by decide +kernel
theorem readByte_d56 : decode readByte_I.2.1 56 = .ok (.getfield 146, 3) := by decide +kernel
theorem readByte_d59 : decode readByte_I.2.1 59 = .ok (.imul, 1) := by decide +kernel
theorem readByte_d60 : decode readByte_I.2.1 60 = .ok (.istore 5, 2) := by decide +kernel
theorem readByte_d62 : decode readByte_I.2.1 62 = .ok (.iload_n 2, 1) := by decide +kernel
theorem readByte_d63 : decode readByte_I.2.1 63 = .ok (.iload 5, 2) := by decide +kernel
theorem readByte_d65 : decode readByte_I.2.1 65 = .ok (.if_icmp .ge 30, 3) := by decide +kernel
theorem readByte_d68 : decode readByte_I.2.1 68 = .ok (.aload_n 0, 1) := by decide +kernel
theorem readByte_d69 : decode readByte_I.2.1 69 = .ok (.iload_n 3, 1) := by decide +kernel
theorem readByte_d70 : decode readByte_I.2.1 70 = .ok (.iconst 4, 1) := by decide +kernel
theorem readByte_d71 : decode readByte_I.2.1 71 = .ok (.iadd, 1) := by decide +kernel
theorem readByte_d72 : decode readByte_I.2.1 72 = .ok (.invokevirtual 286, 3) := by decide +kernel
theorem readByte_d75 : decode readByte_I.2.1 75 = .ok (.iload_n 2, 1) := by decide +kernel
theorem readByte_d76 : decode readByte_I.2.1 76 = .ok (.aload_n 0, 1) := by decide +kernel
theorem readByte_d77 : decode readByte_I.2.1 77 = .ok (.getfield 146, 3) := by decide +kernel
theorem readByte_d80 : decode readByte_I.2.1 80 = .ok (.idiv, 1) := by decide +kernel
theorem readByte_d81 : decode readByte_I.2.1 81 = .ok (.iadd, 1) := by decide +kernel
theorem readByte_d82 : decode readByte_I.2.1 82 = .ok (.istore 6, 2) := by decide +kernel
theorem readByte_d84 : decode readByte_I.2.1 84 = .ok (.iload_n 2, 1) := by decide +kernel
theorem readByte_d85 : decode readByte_I.2.1 85 = .ok (.aload_n 0, 1) := by decide +kernel
theorem readByte_d86 : decode readByte_I.2.1 86 = .ok (.getfield 146, 3) := by decide +kernel
theorem readByte_d89 : decode readByte_I.2.1 89 = .ok (.irem, 1) := by decide +kernel
theorem readByte_d90 : decode readByte_I.2.1 90 = .ok (.istore 7, 2) := by decide +kernel
theorem readByte_d92 : decode readByte_I.2.1 92 = .ok (.goto 42, 3) := by decide +kernel
theorem readByte_d95 : decode readByte_I.2.1 95 = .ok (.aload_n 0, 1) := by decide +kernel
theorem readByte_d96 : decode readByte_I.2.1 96 = .ok (.iload_n 3, 1) := by decide +kernel
theorem readByte_d97 : decode readByte_I.2.1 97 = .ok (.iconst 5, 1) := by decide +kernel
theorem readByte_d98 : decode readByte_I.2.1 98 = .ok (.iadd, 1) := by decide +kernel
theorem readByte_d99 : decode readByte_I.2.1 99 = .ok (.invokevirtual 252, 3) := by decide +kernel
theorem readByte_d102 : decode readByte_I.2.1 102 = .ok (.iload_n 2, 1) := by decide +kernel
theorem readByte_d103 : decode readByte_I.2.1 103 = .ok (.iload 5, 2) := by decide +kernel
theorem readByte_d105 : decode readByte_I.2.1 105 = .ok (.isub, 1) := by decide +kernel
theorem readByte_d106 : decode readByte_I.2.1 106 = .ok (.iadd, 1) := by decide +kernel
theorem readByte_d107 : decode readByte_I.2.1 107 = .ok (.istore 8, 2) := by decide +kernel
theorem readByte_d109 : decode readByte_I.2.1 109 = .ok (.aload_n 0, 1) := by decide +kernel
theorem readByte_d110 : decode readByte_I.2.1 110 = .ok (.bipush 10, 2) := by decide +kernel
theorem readByte_d112 : decode readByte_I.2.1 112 = .ok (.invokevirtual 286, 3) := by decide +kernel
theorem readByte_d115 : decode readByte_I.2.1 115 = .ok (.iload 8, 2) := by decide +kernel
theorem readByte_d117 : decode readByte_I.2.1 117 = .ok (.aload_n 0, 1) := by decide +kernel
theorem readByte_d118 : decode readByte_I.2.1 118 = .ok (.getfield 146, 3) := by decide +kernel
theorem readByte_d121 : decode readByte_I.2.1 121 = .ok (.idiv, 1) := by decide +kernel
theorem readByte_d122 : decode readByte_I.2.1 122 = .ok (.iadd, 1) := by decide +kernel
theorem readByte_d123 : decode readByte_I.2.1 123 = .ok (.istore 6, 2) := by decide +kernel
theorem readByte_d125 : decode readByte_I.2.1 125 = .ok (.iload 8, 2) := by decide +kernel
theorem readByte_d127 : decode readByte_I.2.1 127 = .ok (.aload_n 0, 1) := by decide +kernel
theorem readByte_d128 : decode readByte_I.2.1 128 = .ok (.getfield 146, 3) := by decide +kernel
theorem readByte_d131 : decode readByte_I.2.1 131 = .ok (.irem, 1) := by decide +kernel
theorem readByte_d132 : decode readByte_I.2.1 132 = .ok (.istore 7, 2) := by decide +kernel
theorem readByte_d134 : decode readByte_I.2.1 134 = .ok (.aload_n 0, 1) := by decide +kernel
theorem readByte_d135 : decode readByte_I.2.1 135 = .ok (.iload 6, 2) := by decide +kernel
theorem readByte_d137 : decode readByte_I.2.1 137 = .ok (.invokevirtual 322, 3) := by decide +kernel
theorem readByte_d140 : decode readByte_I.2.1 140 = .ok (.istore 8, 2) := by decide +kernel
theorem readByte_d142 : decode readByte_I.2.1 142 = .ok (.iload 7, 2) := by decide +kernel
theorem readByte_d144 : decode readByte_I.2.1 144 = .ok (.ifCond .lt 17, 3) := by decide +kernel
theorem readByte_d147 : decode readByte_I.2.1 147 = .ok (.iload 7, 2) := by decide +kernel
theorem readByte_d149 : decode readByte_I.2.1 149 = .ok (.iload 8, 2) := by decide +kernel
theorem readByte_d151 : decode readByte_I.2.1 151 = .ok (.if_icmp .ge 10, 3) := by decide +kernel
theorem readByte_d154 : decode readByte_I.2.1 154 = .ok (.iload 7, 2) := by decide +kernel
theorem readByte_d156 : decode readByte_I.2.1 156 = .ok (.bipush 32, 2) := by decide +kernel
theorem readByte_d158 : decode readByte_I.2.1 158 = .ok (.if_icmp .lt 5, 3) := by decide +kernel
theorem readByte_d161 : decode readByte_I.2.1 161 = .ok (.iconst 0, 1) := by decide +kernel
theorem readByte_d162 : decode readByte_I.2.1 162 = .ok (.ireturn, 1) := by decide +kernel
theorem readByte_d163 : decode readByte_I.2.1 163 = .ok (.aload_n 0, 1) := by decide +kernel
theorem readByte_d164 : decode readByte_I.2.1 164 = .ok (.getfield 136, 3) := by decide +kernel
theorem readByte_d167 : decode readByte_I.2.1 167 = .ok (.iload 7, 2) := by decide +kernel
theorem readByte_d169 : decode readByte_I.2.1 169 = .ok (.baload, 1) := by decide +kernel
theorem readByte_d170 : decode readByte_I.2.1 170 = .ok (.sipush 255, 3) := by decide +kernel
theorem readByte_d173 : decode readByte_I.2.1 173 = .ok (.iand, 1) := by decide +kernel
theorem readByte_d174 : decode readByte_I.2.1 174 = .ok (.ireturn, 1) := by decide +kernel
theorem readByte_p : parseMethodDescriptor readByte_I.1.desc = some ⟨[.int, .int], (some .int)⟩ := by decide +kernel
theorem readByte_K {a0 : Array Value} {Z : State} {M : Mi} (hw : Words a0 Z) (h : readByte_I.2.2.2.2.1 + 1 ≤ M.2.2.2.2.1) : Callee a0 Z M readByte_I 2 := ⟨pnC, (wd276 hw), (wd2 hw), h, by decide, fun sig q => by cases readByte_p.symm.trans q; rfl⟩
set_option maxRecDepth 65536 in
set_option maxHeartbeats 4000000 in
theorem readByte_j134_ok {l : Launch} {Z : State} {a0 : Array Value} {n0 : Nat} {cv : Nat → Nat} {h0 : Heap} (hw : Words a0 Z) (K : KA a0 Z n0 CN nI FF cv) (x6 : Int) (x7 : Int) (s : Obj) : GQ (XA l Z n0 CN FF cv h0) readByte_I 0 0 134 [some (Rf 0), none, none, none, none, none, some (I x6), some (I x7), none] [] s (readByte_j134 x6 x7 s) := by
  unfold readByte_j134
  refine GQ.aloadN (pc' := 135) readByte_d134 rfl rfl ?_
  refine GQ.iload (pc' := 137) readByte_d135 rfl rfl ?_
  refine GQ.callP (Mc := loadBlock_I) (args0 := [I x6]) (S := []) (r := 0) (pc' := 140) (loadBlock_K hw (by decide)) rfl readByte_d137 rfl (wd277 hw) (wd278 hw) (wd279 hw) (wd1 hw) XA.recv rfl (loadBlock_M_ok hw K x6 s) rfl (fun z137 s137 => ?_)
  show GQ (XA l Z n0 CN FF cv h0) readByte_I _ _ 140 [some (Rf 0), none, none, none, none, none, some (I x6), some (I x7), none] [I z137] s137 _
  refine GQ.istore (L' := [some (Rf 0), none, none, none, none, none, some (I x6), some (I x7), some (I z137)]) (pc' := 142) readByte_d140 rfl rfl rfl ?_
  refine GQ.iload (pc' := 144) readByte_d142 rfl rfl ?_
  refine GQ.ifT (pcT := 161) (pcF := 147) h_lt readByte_d144 rfl rfl rfl ?_ ?_
  · refine GQ.iconst (pc' := 162) readByte_d161 rfl rfl ?_
    exact GQ.iret rfl readByte_d162
  refine GQ.iload (pc' := 149) readByte_d147 rfl rfl ?_
  refine GQ.iload (pc' := 151) readByte_d149 rfl rfl ?_
  refine GQ.icmpF (pcT := 161) (pcF := 154) h_ge readByte_d151 rfl rfl rfl ?_ ?_
  · refine GQ.iconst (pc' := 162) readByte_d161 rfl rfl ?_
    exact GQ.iret rfl readByte_d162
  refine GQ.iload (pc' := 156) readByte_d154 rfl rfl ?_
  refine GQ.bipush (pc' := 158) readByte_d156 rfl rfl ?_
  refine GQ.icmpT (pcT := 163) (pcF := 161) h_lt readByte_d158 rfl rfl rfl ?_ ?_
  · refine GQ.aloadN (pc' := 164) readByte_d163 rfl rfl ?_
    refine GQ.getA (M := readByte_I) (k := 49) (pc' := 167) rfl (by decide) (wd94 hw) readByte_d164 rfl ?_
    refine GQ.iload (pc' := 169) readByte_d167 rfl rfl ?_
    refine GQ.rd (k := 49) (ins := .baload) (pc' := 170) rfl (by decide) (Or.inr (Or.inl ⟨rfl, rfl⟩)) readByte_d169 rfl (fun z169 => ?_)
    refine GQ.sipush (pc' := 173) readByte_d170 rfl rfl ?_
    refine GQ.iand (pc' := 174) readByte_d173 rfl ?_
    exact GQ.iret rfl readByte_d174
  refine GQ.iconst (pc' := 162) readByte_d161 rfl rfl ?_
  exact GQ.iret rfl readByte_d162
set_option maxRecDepth 65536 in
set_option maxHeartbeats 4000000 in
theorem readByte_M_ok {l : Launch} {Z : State} {a0 : Array Value} {n0 : Nat} {cv : Nat → Nat} {h0 : Heap} (hw : Words a0 Z) (K : KA a0 Z n0 CN nI FF cv) (x1 : Int) (x2 : Int) (s : Obj) : GQ (XA l Z n0 CN FF cv h0) readByte_I 0 0 0 (entry [Rf 0, I x1, I x2] readByte_I.2.2.1) [] s (readByte_M x1 x2 s) := by
  show GQ _ _ _ _ 0 [some (Rf 0), some (I x1), some (I x2), none, none, none, none, none, none] [] _ _
  unfold readByte_M
  refine GQ.aloadN (pc' := 1) readByte_d0 rfl rfl ?_
  refine GQ.getI (M := readByte_I) (k := 30) (pc' := 4) rfl (wd106 hw) readByte_d1 rfl ?_
  refine GQ.ifF (pcT := 9) (pcF := 7) h_ne readByte_d4 rfl rfl rfl ?_ ?_
  · refine GQ.aloadN (pc' := 10) readByte_d9 rfl rfl ?_
    refine GQ.iloadN (pc' := 11) readByte_d10 rfl rfl ?_
    refine GQ.callP (Mc := isFile_I) (args0 := [I x1]) (S := []) (r := 0) (pc' := 14) (isFile_K hw (by decide)) rfl readByte_d11 rfl (wd157 hw) (wd158 hw) (wd159 hw) (wd1 hw) XA.recv rfl (isFile_M_ok hw K x1 s) rfl (fun z11 s11 => ?_)
    show GQ (XA l Z n0 CN FF cv h0) readByte_I _ _ 14 [some (Rf 0), some (I x1), some (I x2), none, none, none, none, none, none] [I z11] s11 _
    refine GQ.ifF (pcT := 20) (pcF := 17) h_ne readByte_d14 rfl rfl rfl ?_ ?_
    · refine GQ.aloadN (pc' := 21) readByte_d20 rfl rfl ?_
      refine GQ.iloadN (pc' := 22) readByte_d21 rfl rfl ?_
      refine GQ.callP (Mc := inodePos_I) (args0 := [I x1]) (S := []) (r := 0) (pc' := 25) (inodePos_K hw (by decide)) rfl readByte_d22 rfl (wd210 hw) (wd211 hw) (wd212 hw) (wd1 hw) XA.recv rfl (inodePos_M_ok hw K x1 s11) rfl (fun z22 s22 => ?_)
      show GQ (XA l Z n0 CN FF cv h0) readByte_I _ _ 25 [some (Rf 0), some (I x1), some (I x2), none, none, none, none, none, none] [I z22] s22 _
      refine GQ.istoreN (L' := [some (Rf 0), some (I x1), some (I x2), some (I z22), none, none, none, none, none]) (pc' := 26) readByte_d25 rfl rfl rfl ?_
      refine GQ.aloadN (pc' := 27) readByte_d26 rfl rfl ?_
      refine GQ.iloadN (pc' := 28) readByte_d27 rfl rfl ?_
      refine GQ.iconst (pc' := 29) readByte_d28 rfl rfl ?_
      refine GQ.iadd (pc' := 30) readByte_d29 rfl ?_
      refine GQ.callP (Mc := u16_I) (args0 := [I (aAdd z22 2)]) (S := []) (r := 0) (pc' := 33) (u16_K hw (by decide)) rfl readByte_d30 rfl (wd214 hw) (wd215 hw) (wd216 hw) (wd1 hw) XA.recv rfl (u16_M_ok hw K (aAdd z22 2) s22) rfl (fun z30 s30 => ?_)
      show GQ (XA l Z n0 CN FF cv h0) readByte_I _ _ 33 [some (Rf 0), some (I x1), some (I x2), some (I z22), none, none, none, none, none] [I z30] s30 _
      refine GQ.istore (L' := [some (Rf 0), some (I x1), some (I x2), some (I z22), some (I z30), none, none, none, none]) (pc' := 35) readByte_d33 rfl rfl rfl ?_
      refine GQ.iloadN (pc' := 36) readByte_d35 rfl rfl ?_
      refine GQ.ifT (pcT := 45) (pcF := 39) h_lt readByte_d36 rfl rfl rfl ?_ ?_
      · refine GQ.bipush (pc' := 47) readByte_d45 rfl rfl ?_
        exact GQ.iret rfl readByte_d47
      refine GQ.iloadN (pc' := 40) readByte_d39 rfl rfl ?_
      refine GQ.iload (pc' := 42) readByte_d40 rfl rfl ?_
      refine GQ.icmpT (pcT := 48) (pcF := 45) h_lt readByte_d42 rfl rfl rfl ?_ ?_
      · refine GQ.iload (pc' := 50) readByte_d48 rfl rfl ?_
        refine GQ.aloadN (pc' := 51) readByte_d50 rfl rfl ?_
        refine GQ.getI (M := readByte_I) (k := 28) (pc' := 54) rfl (wd102 hw) readByte_d51 rfl ?_
        refine GQ.idiv (pc' := 55) readByte_d54 rfl ?_
        refine GQ.aloadN (pc' := 56) readByte_d55 rfl rfl ?_
        refine GQ.getI (M := readByte_I) (k := 28) (pc' := 59) rfl (wd102 hw) readByte_d56 rfl ?_
        refine GQ.imul (pc' := 60) readByte_d59 rfl ?_
        refine GQ.letI (fun x5_60 => ?_)
        refine GQ.istore (L' := [some (Rf 0), some (I x1), some (I x2), some (I z22), some (I z30), some (I x5_60), none, none, none]) (pc' := 62) readByte_d60 rfl rfl rfl ?_
        refine GQ.iloadN (pc' := 63) readByte_d62 rfl rfl ?_
        refine GQ.iload (pc' := 65) readByte_d63 rfl rfl ?_
        refine GQ.icmpF (pcT := 95) (pcF := 68) h_ge readByte_d65 rfl rfl rfl ?_ ?_
        · refine GQ.aloadN (pc' := 96) readByte_d95 rfl rfl ?_
          refine GQ.iloadN (pc' := 97) readByte_d96 rfl rfl ?_
          refine GQ.iconst (pc' := 98) readByte_d97 rfl rfl ?_
          refine GQ.iadd (pc' := 99) readByte_d98 rfl ?_
          refine GQ.callP (Mc := u16_I) (args0 := [I (aAdd z22 5)]) (S := []) (r := 0) (pc' := 102) (u16_K hw (by decide)) rfl readByte_d99 rfl (wd214 hw) (wd215 hw) (wd216 hw) (wd1 hw) XA.recv rfl (u16_M_ok hw K (aAdd z22 5) s30) rfl (fun z99 s99 => ?_)
          show GQ (XA l Z n0 CN FF cv h0) readByte_I _ _ 102 [some (Rf 0), some (I x1), some (I x2), some (I z22), some (I z30), some (I x5_60), none, none, none] [I z99] s99 _
          refine GQ.iloadN (pc' := 103) readByte_d102 rfl rfl ?_
          refine GQ.iload (pc' := 105) readByte_d103 rfl rfl ?_
          refine GQ.isub (pc' := 106) readByte_d105 rfl ?_
          refine GQ.iadd (pc' := 107) readByte_d106 rfl ?_
          refine GQ.letI (fun x8_107 => ?_)
          refine GQ.istore (L' := [some (Rf 0), some (I x1), some (I x2), some (I z22), some (I z30), some (I x5_60), none, none, some (I x8_107)]) (pc' := 109) readByte_d107 rfl rfl rfl ?_
          refine GQ.aloadN (pc' := 110) readByte_d109 rfl rfl ?_
          refine GQ.bipush (pc' := 112) readByte_d110 rfl rfl ?_
          refine GQ.callP (Mc := u8_I) (args0 := [I 10]) (S := []) (r := 0) (pc' := 115) (u8_K hw (by decide)) rfl readByte_d112 rfl (wd218 hw) (wd219 hw) (wd220 hw) (wd1 hw) XA.recv rfl (u8_M_ok hw K 10 s99) rfl (fun z112 s112 => ?_)
          show GQ (XA l Z n0 CN FF cv h0) readByte_I _ _ 115 [some (Rf 0), some (I x1), some (I x2), some (I z22), some (I z30), some (I x5_60), none, none, some (I x8_107)] [I z112] s112 _
          refine GQ.iload (pc' := 117) readByte_d115 rfl rfl ?_
          refine GQ.aloadN (pc' := 118) readByte_d117 rfl rfl ?_
          refine GQ.getI (M := readByte_I) (k := 28) (pc' := 121) rfl (wd102 hw) readByte_d118 rfl ?_
          refine GQ.idiv (pc' := 122) readByte_d121 rfl ?_
          refine GQ.iadd (pc' := 123) readByte_d122 rfl ?_
          refine GQ.letI (fun x6_123 => ?_)
          refine GQ.istore (L' := [some (Rf 0), some (I x1), some (I x2), some (I z22), some (I z30), some (I x5_60), some (I x6_123), none, some (I x8_107)]) (pc' := 125) readByte_d123 rfl rfl rfl ?_
          refine GQ.iload (pc' := 127) readByte_d125 rfl rfl ?_
          refine GQ.aloadN (pc' := 128) readByte_d127 rfl rfl ?_
          refine GQ.getI (M := readByte_I) (k := 28) (pc' := 131) rfl (wd102 hw) readByte_d128 rfl ?_
          refine GQ.irem (pc' := 132) readByte_d131 rfl ?_
          refine GQ.letI (fun x7_132 => ?_)
          refine GQ.istore (L' := [some (Rf 0), some (I x1), some (I x2), some (I z22), some (I z30), some (I x5_60), some (I x6_123), some (I x7_132), some (I x8_107)]) (pc' := 134) readByte_d132 rfl rfl rfl ?_
          refine GQ.weak (L' := [some (Rf 0), none, none, none, none, none, some (I x6_123), some (I x7_132), none]) (Sub.keep (Sub.drop (Sub.drop (Sub.drop (Sub.drop (Sub.drop (Sub.keep (Sub.keep (Sub.drop Sub.nil))))))))) ?_
          exact readByte_j134_ok hw K x6_123 x7_132 s112
        refine GQ.aloadN (pc' := 69) readByte_d68 rfl rfl ?_
        refine GQ.iloadN (pc' := 70) readByte_d69 rfl rfl ?_
        refine GQ.iconst (pc' := 71) readByte_d70 rfl rfl ?_
        refine GQ.iadd (pc' := 72) readByte_d71 rfl ?_
        refine GQ.callP (Mc := u8_I) (args0 := [I (aAdd z22 4)]) (S := []) (r := 0) (pc' := 75) (u8_K hw (by decide)) rfl readByte_d72 rfl (wd218 hw) (wd219 hw) (wd220 hw) (wd1 hw) XA.recv rfl (u8_M_ok hw K (aAdd z22 4) s30) rfl (fun z72 s72 => ?_)
        show GQ (XA l Z n0 CN FF cv h0) readByte_I _ _ 75 [some (Rf 0), some (I x1), some (I x2), some (I z22), some (I z30), some (I x5_60), none, none, none] [I z72] s72 _
        refine GQ.iloadN (pc' := 76) readByte_d75 rfl rfl ?_
        refine GQ.aloadN (pc' := 77) readByte_d76 rfl rfl ?_
        refine GQ.getI (M := readByte_I) (k := 28) (pc' := 80) rfl (wd102 hw) readByte_d77 rfl ?_
        refine GQ.idiv (pc' := 81) readByte_d80 rfl ?_
        refine GQ.iadd (pc' := 82) readByte_d81 rfl ?_
        refine GQ.letI (fun x6_82 => ?_)
        refine GQ.istore (L' := [some (Rf 0), some (I x1), some (I x2), some (I z22), some (I z30), some (I x5_60), some (I x6_82), none, none]) (pc' := 84) readByte_d82 rfl rfl rfl ?_
        refine GQ.iloadN (pc' := 85) readByte_d84 rfl rfl ?_
        refine GQ.aloadN (pc' := 86) readByte_d85 rfl rfl ?_
        refine GQ.getI (M := readByte_I) (k := 28) (pc' := 89) rfl (wd102 hw) readByte_d86 rfl ?_
        refine GQ.irem (pc' := 90) readByte_d89 rfl ?_
        refine GQ.letI (fun x7_90 => ?_)
        refine GQ.istore (L' := [some (Rf 0), some (I x1), some (I x2), some (I z22), some (I z30), some (I x5_60), some (I x6_82), some (I x7_90), none]) (pc' := 92) readByte_d90 rfl rfl rfl ?_
        refine GQ.goto (pc' := 134) readByte_d92 rfl rfl ?_
        refine GQ.weak (L' := [some (Rf 0), none, none, none, none, none, some (I x6_82), some (I x7_90), none]) (Sub.keep (Sub.drop (Sub.drop (Sub.drop (Sub.drop (Sub.drop (Sub.keep (Sub.keep (Sub.keep Sub.nil))))))))) ?_
        exact readByte_j134_ok hw K x6_82 x7_90 s72
      refine GQ.bipush (pc' := 47) readByte_d45 rfl rfl ?_
      exact GQ.iret rfl readByte_d47
    refine GQ.bipush (pc' := 19) readByte_d17 rfl rfl ?_
    exact GQ.iret rfl readByte_d19
  refine GQ.iconst (pc' := 8) readByte_d7 rfl rfl ?_
  exact GQ.iret rfl readByte_d8
def tailLength_I : Mi := (⟨"SquashImage", "tailLength", "(I)I"⟩, prog_1_method_46_code, 4, (some .int), 3, 42)
theorem tailLength_d0 : decode tailLength_I.2.1 0 = .ok (.aload_n 0, 1) := by decide +kernel
theorem tailLength_d1 : decode tailLength_I.2.1 1 = .ok (.getfield 152, 3) := by decide +kernel
theorem tailLength_d4 : decode tailLength_I.2.1 4 = .ok (.ifCond .ne 5, 3) := by decide +kernel
theorem tailLength_d7 : decode tailLength_I.2.1 7 = .ok (.iconst (-1), 1) := by decide +kernel
theorem tailLength_d8 : decode tailLength_I.2.1 8 = .ok (.ireturn, 1) := by decide +kernel
theorem tailLength_d9 : decode tailLength_I.2.1 9 = .ok (.aload_n 0, 1) := by decide +kernel
theorem tailLength_d10 : decode tailLength_I.2.1 10 = .ok (.iload_n 1, 1) := by decide +kernel
theorem tailLength_d11 : decode tailLength_I.2.1 11 = .ok (.invokevirtual 195, 3) := by decide +kernel
theorem tailLength_d14 : decode tailLength_I.2.1 14 = .ok (.ifCond .ne 6, 3) := by decide +kernel
theorem tailLength_d17 : decode tailLength_I.2.1 17 = .ok (.bipush (-2), 2) := by decide +kernel
theorem tailLength_d19 : decode tailLength_I.2.1 19 = .ok (.ireturn, 1) := by decide +kernel
theorem tailLength_d20 : decode tailLength_I.2.1 20 = .ok (.aload_n 0, 1) := by decide +kernel
theorem tailLength_d21 : decode tailLength_I.2.1 21 = .ok (.iload_n 1, 1) := by decide +kernel
theorem tailLength_d22 : decode tailLength_I.2.1 22 = .ok (.invokevirtual 243, 3) := by decide +kernel
theorem tailLength_d25 : decode tailLength_I.2.1 25 = .ok (.istore_n 2, 1) := by decide +kernel
theorem tailLength_d26 : decode tailLength_I.2.1 26 = .ok (.aload_n 0, 1) := by decide +kernel
theorem tailLength_d27 : decode tailLength_I.2.1 27 = .ok (.iload_n 2, 1) := by decide +kernel
theorem tailLength_d28 : decode tailLength_I.2.1 28 = .ok (.iconst 2, 1) := by decide +kernel
theorem tailLength_d29 : decode tailLength_I.2.1 29 = .ok (.iadd, 1) := by decide +kernel
theorem tailLength_d30 : decode tailLength_I.2.1 30 = .ok (.invokevirtual 252, 3) := by decide +kernel
theorem tailLength_d33 : decode tailLength_I.2.1 33 = .ok (.istore_n 3, 1) := by decide +kernel
theorem tailLength_d34 : decode tailLength_I.2.1 34 = .ok (.iload_n 3, 1) := by decide +kernel
theorem tailLength_d35 : decode tailLength_I.2.1 35 = .ok (.aload_n 0, 1) := by decide +kernel
theorem tailLength_d36 : decode tailLength_I.2.1 36 = .ok (.getfield 146, 3) := by decide +kernel
theorem tailLength_d39 : decode tailLength_I.2.1 39 = .ok (.irem, 1) := by decide +kernel
theorem tailLength_d40 : decode tailLength_I.2.1 40 = .ok (.ireturn, 1) := by decide +kernel
theorem tailLength_p : parseMethodDescriptor tailLength_I.1.desc = some ⟨[.int], (some .int)⟩ := by decide +kernel
theorem tailLength_K {a0 : Array Value} {Z : State} {M : Mi} (hw : Words a0 Z) (h : tailLength_I.2.2.2.2.1 + 1 ≤ M.2.2.2.2.1) : Callee a0 Z M tailLength_I 1 := ⟨pnC, (wd293 hw), (wd2 hw), h, by decide, fun sig q => by cases tailLength_p.symm.trans q; rfl⟩
set_option maxRecDepth 65536 in
set_option maxHeartbeats 4000000 in
theorem tailLength_M_ok {l : Launch} {Z : State} {a0 : Array Value} {n0 : Nat} {cv : Nat → Nat} {h0 : Heap} (hw : Words a0 Z) (K : KA a0 Z n0 CN nI FF cv) (x1 : Int) (s : Obj) : GQ (XA l Z n0 CN FF cv h0) tailLength_I 0 0 0 (entry [Rf 0, I x1] tailLength_I.2.2.1) [] s (tailLength_M x1 s) := by
  show GQ _ _ _ _ 0 [some (Rf 0), some (I x1), none, none] [] _ _
  unfold tailLength_M
  refine GQ.aloadN (pc' := 1) tailLength_d0 rfl rfl ?_
  refine GQ.getI (M := tailLength_I) (k := 30) (pc' := 4) rfl (wd106 hw) tailLength_d1 rfl ?_
  refine GQ.ifF (pcT := 9) (pcF := 7) h_ne tailLength_d4 rfl rfl rfl ?_ ?_
  · refine GQ.aloadN (pc' := 10) tailLength_d9 rfl rfl ?_
    refine GQ.iloadN (pc' := 11) tailLength_d10 rfl rfl ?_
    refine GQ.callP (Mc := isFile_I) (args0 := [I x1]) (S := []) (r := 0) (pc' := 14) (isFile_K hw (by decide)) rfl tailLength_d11 rfl (wd157 hw) (wd158 hw) (wd159 hw) (wd1 hw) XA.recv rfl (isFile_M_ok hw K x1 s) rfl (fun z11 s11 => ?_)
    show GQ (XA l Z n0 CN FF cv h0) tailLength_I _ _ 14 [some (Rf 0), some (I x1), none, none] [I z11] s11 _
    refine GQ.ifF (pcT := 20) (pcF := 17) h_ne tailLength_d14 rfl rfl rfl ?_ ?_
    · refine GQ.aloadN (pc' := 21) tailLength_d20 rfl rfl ?_
      refine GQ.iloadN (pc' := 22) tailLength_d21 rfl rfl ?_
      refine GQ.callP (Mc := inodePos_I) (args0 := [I x1]) (S := []) (r := 0) (pc' := 25) (inodePos_K hw (by decide)) rfl tailLength_d22 rfl (wd210 hw) (wd211 hw) (wd212 hw) (wd1 hw) XA.recv rfl (inodePos_M_ok hw K x1 s11) rfl (fun z22 s22 => ?_)
      show GQ (XA l Z n0 CN FF cv h0) tailLength_I _ _ 25 [some (Rf 0), some (I x1), none, none] [I z22] s22 _
      refine GQ.istoreN (L' := [some (Rf 0), some (I x1), some (I z22), none]) (pc' := 26) tailLength_d25 rfl rfl rfl ?_
      refine GQ.aloadN (pc' := 27) tailLength_d26 rfl rfl ?_
      refine GQ.iloadN (pc' := 28) tailLength_d27 rfl rfl ?_
      refine GQ.iconst (pc' := 29) tailLength_d28 rfl rfl ?_
      refine GQ.iadd (pc' := 30) tailLength_d29 rfl ?_
      refine GQ.callP (Mc := u16_I) (args0 := [I (aAdd z22 2)]) (S := []) (r := 0) (pc' := 33) (u16_K hw (by decide)) rfl tailLength_d30 rfl (wd214 hw) (wd215 hw) (wd216 hw) (wd1 hw) XA.recv rfl (u16_M_ok hw K (aAdd z22 2) s22) rfl (fun z30 s30 => ?_)
      show GQ (XA l Z n0 CN FF cv h0) tailLength_I _ _ 33 [some (Rf 0), some (I x1), some (I z22), none] [I z30] s30 _
      refine GQ.istoreN (L' := [some (Rf 0), some (I x1), some (I z22), some (I z30)]) (pc' := 34) tailLength_d33 rfl rfl rfl ?_
      refine GQ.iloadN (pc' := 35) tailLength_d34 rfl rfl ?_
      refine GQ.aloadN (pc' := 36) tailLength_d35 rfl rfl ?_
      refine GQ.getI (M := tailLength_I) (k := 28) (pc' := 39) rfl (wd102 hw) tailLength_d36 rfl ?_
      refine GQ.irem (pc' := 40) tailLength_d39 rfl ?_
      exact GQ.iret rfl tailLength_d40
    refine GQ.bipush (pc' := 19) tailLength_d17 rfl rfl ?_
    exact GQ.iret rfl tailLength_d19
  refine GQ.iconst (pc' := 8) tailLength_d7 rfl rfl ?_
  exact GQ.iret rfl tailLength_d8
def law_I : Mi := (x, code, maxLocals, ret, 6, 104)
set_option maxRecDepth 65536 in
set_option maxHeartbeats 4000000 in
theorem law_j224_ok {l : Launch} {Z : State} {a0 : Array Value} {n0 sa : Nat} (hw : Words a0 Z) (K : KB a0 Z CN nI FF (posF PP) nA) {kc ks : Nat} (x7 : Int) (y0 : Int) (w : MB) : GQ (XB l Z n0 CN FF (posF PP) nA sa none) law_I kc ks 224 [none, none, none, none, none, some (Rf (0 + 1)), none, some (I x7), none, none] [I y0] w (law_j224 x7 y0 w) := by
  unfold law_j224
  refine GQ.istore (L' := [none, none, none, none, none, some (Rf (0 + 1)), none, some (I x7), none, some (I y0)]) (pc' := 226) at_224 rfl rfl rfl ?_
  refine GQ.aload (pc' := 228) at_226 rfl rfl ?_
  refine GQ.iconst (pc' := 229) at_228 rfl rfl ?_
  refine GQ.vir (j := 0) (m := fun q => tailLength_M 1 q) (Mc := tailLength_I) (args0 := [I 1]) (S := []) (pc' := 232) K (tailLength_K hw (by decide)) rfl rfl at_229 rfl (wd289 hw) (wd291 hw) (wd290 hw) (wd292 hw) (nrS nrI nr0) rfl (fun cv h0 q KA0 => tailLength_M_ok hw KA0 1 q) rfl (fun z229 w229 => ?_)
  show GQ (XB l Z n0 CN FF (posF PP) nA sa none) law_I _ _ 232 [none, none, none, none, none, some (Rf (0 + 1)), none, some (I x7), none, some (I y0)] [I z229] w229 _
  refine GQ.iload (pc' := 234) at_232 rfl rfl ?_
  refine GQ.iconst (pc' := 235) at_234 rfl rfl ?_
  refine GQ.iadd (pc' := 236) at_235 rfl ?_
  refine GQ.iload (pc' := 238) at_236 rfl rfl ?_
  refine GQ.irem (pc' := 239) at_238 rfl ?_
  refine GQ.icmpF (pcT := 246) (pcF := 242) h_ne at_239 rfl rfl rfl ?_ ?_
  · refine GQ.iconst (pc' := 247) at_246 rfl rfl ?_
    exact GQ.zret rfl at_247
  refine GQ.iconst (pc' := 243) at_242 rfl rfl ?_
  refine GQ.goto (pc' := 247) at_243 rfl rfl ?_
  exact GQ.zret rfl at_247
set_option maxRecDepth 65536 in
set_option maxHeartbeats 4000000 in
theorem law_j151_ok {l : Launch} {Z : State} {a0 : Array Value} {n0 sa : Nat} (hw : Words a0 Z) (K : KB a0 Z CN nI FF (posF PP) nA) {kc ks : Nat} (x0 : Int) (x4 : Int) (x7 : Int) (y0 : Int) (w : MB) : GQ (XB l Z n0 CN FF (posF PP) nA sa none) law_I kc ks 151 [some (I x0), none, none, none, some (I x4), some (Rf (0 + 1)), none, some (I x7), none, none] [I y0] w (law_j151 x0 x4 x7 y0 w) := by
  unfold law_j151
  refine GQ.istore (L' := [some (I x0), none, none, none, some (I x4), some (Rf (0 + 1)), none, some (I x7), some (I y0), none]) (pc' := 153) at_151 rfl rfl rfl ?_
  refine GQ.aload (pc' := 155) at_153 rfl rfl ?_
  refine GQ.iconst (pc' := 156) at_155 rfl rfl ?_
  refine GQ.iconst (pc' := 157) at_156 rfl rfl ?_
  refine GQ.vir (j := 0) (m := fun q => readByte_M 1 0 q) (Mc := readByte_I) (args0 := [I 1, I 0]) (S := []) (pc' := 160) K (readByte_K hw (by decide)) rfl rfl at_157 rfl (wd272 hw) (wd274 hw) (wd273 hw) (wd275 hw) (nrS nrI (nrS nrI nr0)) rfl (fun cv h0 q KA0 => readByte_M_ok hw KA0 1 0 q) rfl (fun z157 w157 => ?_)
  show GQ (XB l Z n0 CN FF (posF PP) nA sa none) law_I _ _ 160 [some (I x0), none, none, none, some (I x4), some (Rf (0 + 1)), none, some (I x7), some (I y0), none] [I z157] w157 _
  refine GQ.iload (pc' := 162) at_160 rfl rfl ?_
  refine GQ.icmpT (pcT := 167) (pcF := 165) h_eq at_162 rfl rfl rfl ?_ ?_
  · refine GQ.aload (pc' := 169) at_167 rfl rfl ?_
    refine GQ.iconst (pc' := 170) at_169 rfl rfl ?_
    refine GQ.iload (pc' := 172) at_170 rfl rfl ?_
    refine GQ.vir (j := 0) (m := fun q => readByte_M 1 x7 q) (Mc := readByte_I) (args0 := [I 1, I x7]) (S := []) (pc' := 175) K (readByte_K hw (by decide)) rfl rfl at_172 rfl (wd272 hw) (wd274 hw) (wd273 hw) (wd275 hw) (nrS nrI (nrS nrI nr0)) rfl (fun cv h0 q KA0 => readByte_M_ok hw KA0 1 x7 q) rfl (fun z172 w172 => ?_)
    show GQ (XB l Z n0 CN FF (posF PP) nA sa none) law_I _ _ 175 [some (I x0), none, none, none, some (I x4), some (Rf (0 + 1)), none, some (I x7), some (I y0), none] [I z172] w172 _
    refine GQ.iload (pc' := 177) at_175 rfl rfl ?_
    refine GQ.sipush (pc' := 180) at_177 rfl rfl ?_
    refine GQ.iand (pc' := 181) at_180 rfl ?_
    refine GQ.icmpT (pcT := 186) (pcF := 184) h_eq at_181 rfl rfl rfl ?_ ?_
    · refine GQ.aload (pc' := 188) at_186 rfl rfl ?_
      refine GQ.iconst (pc' := 189) at_188 rfl rfl ?_
      refine GQ.iload (pc' := 191) at_189 rfl rfl ?_
      refine GQ.iconst (pc' := 192) at_191 rfl rfl ?_
      refine GQ.iadd (pc' := 193) at_192 rfl ?_
      refine GQ.vir (j := 0) (m := fun q => readByte_M 1 (aAdd x7 1) q) (Mc := readByte_I) (args0 := [I 1, I (aAdd x7 1)]) (S := []) (pc' := 196) K (readByte_K hw (by decide)) rfl rfl at_193 rfl (wd272 hw) (wd274 hw) (wd273 hw) (wd275 hw) (nrS nrI (nrS nrI nr0)) rfl (fun cv h0 q KA0 => readByte_M_ok hw KA0 1 (aAdd x7 1) q) rfl (fun z193 w193 => ?_)
      show GQ (XB l Z n0 CN FF (posF PP) nA sa none) law_I _ _ 196 [some (I x0), none, none, none, some (I x4), some (Rf (0 + 1)), none, some (I x7), some (I y0), none] [I z193] w193 _
      refine GQ.bipush (pc' := 198) at_196 rfl rfl ?_
      refine GQ.icmpT (pcT := 203) (pcF := 201) h_eq at_198 rfl rfl rfl ?_ ?_
      · refine GQ.iloadN (pc' := 204) at_203 rfl rfl ?_
        refine GQ.iconst (pc' := 205) at_204 rfl rfl ?_
        refine GQ.icmpF (pcT := 212) (pcF := 208) h_ge at_205 rfl rfl rfl ?_ ?_
        · refine GQ.iloadN (pc' := 213) at_212 rfl rfl ?_
          refine GQ.bipush (pc' := 215) at_213 rfl rfl ?_
          refine GQ.icmpF (pcT := 223) (pcF := 218) h_le at_215 rfl rfl rfl ?_ ?_
          · refine GQ.iloadN (pc' := 224) at_223 rfl rfl ?_
            refine GQ.weak (L' := [none, none, none, none, none, some (Rf (0 + 1)), none, some (I x7), none, none]) (Sub.drop (Sub.keep (Sub.keep (Sub.keep (Sub.drop (Sub.keep (Sub.keep (Sub.keep (Sub.drop (Sub.keep Sub.nil)))))))))) ?_
            exact law_j224_ok hw K x7 x0 w193
          refine GQ.bipush (pc' := 220) at_218 rfl rfl ?_
          refine GQ.goto (pc' := 224) at_220 rfl rfl ?_
          refine GQ.weak (L' := [none, none, none, none, none, some (Rf (0 + 1)), none, some (I x7), none, none]) (Sub.drop (Sub.keep (Sub.keep (Sub.keep (Sub.drop (Sub.keep (Sub.keep (Sub.keep (Sub.drop (Sub.keep Sub.nil)))))))))) ?_
          exact law_j224_ok hw K x7 32 w193
        refine GQ.iconst (pc' := 209) at_208 rfl rfl ?_
        refine GQ.goto (pc' := 224) at_209 rfl rfl ?_
        refine GQ.weak (L' := [none, none, none, none, none, some (Rf (0 + 1)), none, some (I x7), none, none]) (Sub.drop (Sub.keep (Sub.keep (Sub.keep (Sub.drop (Sub.keep (Sub.keep (Sub.keep (Sub.drop (Sub.keep Sub.nil)))))))))) ?_
        exact law_j224_ok hw K x7 4 w193
      refine GQ.iconst (pc' := 202) at_201 rfl rfl ?_
      exact GQ.zret rfl at_202
    refine GQ.iconst (pc' := 185) at_184 rfl rfl ?_
    exact GQ.zret rfl at_185
  refine GQ.iconst (pc' := 166) at_165 rfl rfl ?_
  exact GQ.zret rfl at_166
set_option maxRecDepth 65536 in
set_option maxHeartbeats 4000000 in
theorem law_j85_ok {l : Launch} {Z : State} {a0 : Array Value} {n0 sa : Nat} (hw : Words a0 Z) (K : KB a0 Z CN nI FF (posF PP) nA) {kc ks : Nat} (x0 : Int) (x2 : Int) (x4 : Int) (x6 : Int) (x7 : Int) (y0 : Int) (y1 : Int) (w : MB) : GQ (XB l Z n0 CN FF (posF PP) nA sa none) law_I kc ks 85 [some (I x0), none, some (I x2), none, some (I x4), some (Rf (0 + 1)), some (I x6), some (I x7), none, none] [I y0, I y1] w (law_j85 x0 x2 x4 x6 x7 y0 y1 w) := by
  unfold law_j85
  refine GQ.icmpT (pcT := 90) (pcF := 88) h_eq at_85 rfl rfl rfl ?_ ?_
  · refine GQ.aload (pc' := 92) at_90 rfl rfl ?_
    refine GQ.iconst (pc' := 93) at_92 rfl rfl ?_
    refine GQ.iload (pc' := 95) at_93 rfl rfl ?_
    refine GQ.vir (j := 0) (m := fun q => appendByte_M 1 x4 q) (Mc := appendByte_I) (args0 := [I 1, I x4]) (S := []) (pc' := 98) K (appendByte_K hw (by decide)) rfl rfl at_95 rfl (wd165 hw) (wd167 hw) (wd166 hw) (wd168 hw) (nrS nrI (nrS nrI nr0)) rfl (fun cv h0 q KA0 => appendByte_M_ok hw KA0 1 x4 q) rfl (fun z95 w95 => ?_)
    show GQ (XB l Z n0 CN FF (posF PP) nA sa none) law_I _ _ 98 [some (I x0), none, some (I x2), none, some (I x4), some (Rf (0 + 1)), some (I x6), some (I x7), none, none] [I z95] w95 _
    refine GQ.iload (pc' := 100) at_98 rfl rfl ?_
    refine GQ.iconst (pc' := 101) at_100 rfl rfl ?_
    refine GQ.iadd (pc' := 102) at_101 rfl ?_
    refine GQ.icmpT (pcT := 107) (pcF := 105) h_eq at_102 rfl rfl rfl ?_ ?_
    · refine GQ.aload (pc' := 109) at_107 rfl rfl ?_
      refine GQ.iconst (pc' := 110) at_109 rfl rfl ?_
      refine GQ.vir (j := 0) (m := fun q => fileSize_M 1 q) (Mc := fileSize_I) (args0 := [I 1]) (S := []) (pc' := 113) K (fileSize_K hw (by decide)) rfl rfl at_110 rfl (wd170 hw) (wd172 hw) (wd171 hw) (wd173 hw) (nrS nrI nr0) rfl (fun cv h0 q KA0 => fileSize_M_ok hw KA0 1 q) rfl (fun z110 w110 => ?_)
      show GQ (XB l Z n0 CN FF (posF PP) nA sa none) law_I _ _ 113 [some (I x0), none, some (I x2), none, some (I x4), some (Rf (0 + 1)), some (I x6), some (I x7), none, none] [I z110] w110 _
      refine GQ.iload (pc' := 115) at_113 rfl rfl ?_
      refine GQ.iconst (pc' := 116) at_115 rfl rfl ?_
      refine GQ.iadd (pc' := 117) at_116 rfl ?_
      refine GQ.icmpT (pcT := 122) (pcF := 120) h_eq at_117 rfl rfl rfl ?_ ?_
      · refine GQ.aload (pc' := 124) at_122 rfl rfl ?_
        refine GQ.vir (j := 0) (m := fun q => build_M q) (Mc := build_I) (args0 := []) (S := []) (pc' := 127) K (build_K hw (by decide)) rfl rfl at_124 rfl (wd175 hw) (wd177 hw) (wd176 hw) (wd178 hw) (nr0) rfl (fun cv h0 q KA0 => build_M_ok hw KA0 q) rfl (fun z124 w124 => ?_)
        show GQ (XB l Z n0 CN FF (posF PP) nA sa none) law_I _ _ 127 [some (I x0), none, some (I x2), none, some (I x4), some (Rf (0 + 1)), some (I x6), some (I x7), none, none] [I z124] w124 _
        refine GQ.ifF (pcT := 132) (pcF := 130) h_ne at_127 rfl rfl rfl ?_ ?_
        · refine GQ.iload (pc' := 134) at_132 rfl rfl ?_
          refine GQ.ifT (pcT := 145) (pcF := 137) h_eq at_134 rfl rfl rfl ?_ ?_
          · refine GQ.iload (pc' := 147) at_145 rfl rfl ?_
            refine GQ.sipush (pc' := 150) at_147 rfl rfl ?_
            refine GQ.iand (pc' := 151) at_150 rfl ?_
            refine GQ.weak (L' := [some (I x0), none, none, none, some (I x4), some (Rf (0 + 1)), none, some (I x7), none, none]) (Sub.keep (Sub.keep (Sub.drop (Sub.keep (Sub.keep (Sub.keep (Sub.drop (Sub.keep (Sub.keep (Sub.keep Sub.nil)))))))))) ?_
            exact law_j151_ok hw K x0 x4 x7 (aAnd x4 255) w124
          refine GQ.iloadN (pc' := 138) at_137 rfl rfl ?_
          refine GQ.sipush (pc' := 141) at_138 rfl rfl ?_
          refine GQ.iand (pc' := 142) at_141 rfl ?_
          refine GQ.goto (pc' := 151) at_142 rfl rfl ?_
          refine GQ.weak (L' := [some (I x0), none, none, none, some (I x4), some (Rf (0 + 1)), none, some (I x7), none, none]) (Sub.keep (Sub.keep (Sub.drop (Sub.keep (Sub.keep (Sub.keep (Sub.drop (Sub.keep (Sub.keep (Sub.keep Sub.nil)))))))))) ?_
          exact law_j151_ok hw K x0 x4 x7 (aAnd x2 255) w124
        refine GQ.iconst (pc' := 131) at_130 rfl rfl ?_
        exact GQ.zret rfl at_131
      refine GQ.iconst (pc' := 121) at_120 rfl rfl ?_
      exact GQ.zret rfl at_121
    refine GQ.iconst (pc' := 106) at_105 rfl rfl ?_
    exact GQ.zret rfl at_106
  refine GQ.iconst (pc' := 89) at_88 rfl rfl ?_
  exact GQ.zret rfl at_89
set_option maxRecDepth 65536 in
set_option maxHeartbeats 4000000 in
theorem law_j64_ok {l : Launch} {Z : State} {a0 : Array Value} {n0 sa : Nat} (hw : Words a0 Z) (K : KB a0 Z CN nI FF (posF PP) nA) {kc ks : Nat} (x0 : Int) (x2 : Int) (x3 : Int) (x4 : Int) (x6 : Int) (y0 : Int) (w : MB) : GQ (XB l Z n0 CN FF (posF PP) nA sa none) law_I kc ks 64 [some (I x0), none, some (I x2), some (I x3), some (I x4), some (Rf (0 + 1)), some (I x6), none, none, none] [I y0] w (law_j64 x0 x2 x3 x4 x6 y0 w) := by
  unfold law_j64
  refine GQ.istore (L' := [some (I x0), none, some (I x2), some (I x3), some (I x4), some (Rf (0 + 1)), some (I x6), some (I y0), none, none]) (pc' := 66) at_64 rfl rfl rfl ?_
  refine GQ.aload (pc' := 68) at_66 rfl rfl ?_
  refine GQ.iconst (pc' := 69) at_68 rfl rfl ?_
  refine GQ.iloadN (pc' := 70) at_69 rfl rfl ?_
  refine GQ.iloadN (pc' := 71) at_70 rfl rfl ?_
  refine GQ.vir (j := 0) (m := fun q => appendRun_M 1 x2 x3 q) (Mc := appendRun_I) (args0 := [I 1, I x2, I x3]) (S := []) (pc' := 74) K (appendRun_K hw (by decide)) rfl rfl at_71 rfl (wd152 hw) (wd154 hw) (wd153 hw) (wd155 hw) (nrS nrI (nrS nrI (nrS nrI nr0))) rfl (fun cv h0 q KA0 => appendRun_M_ok hw KA0 1 x2 x3 q) rfl (fun z71 w71 => ?_)
  show GQ (XB l Z n0 CN FF (posF PP) nA sa none) law_I _ _ 74 [some (I x0), none, some (I x2), some (I x3), some (I x4), some (Rf (0 + 1)), some (I x6), some (I y0), none, none] [I z71] w71 _
  refine GQ.iload (pc' := 76) at_74 rfl rfl ?_
  refine GQ.ifT (pcT := 83) (pcF := 79) h_eq at_76 rfl rfl rfl ?_ ?_
  · refine GQ.bipush (pc' := 85) at_83 rfl rfl ?_
    refine GQ.weak (L' := [some (I x0), none, some (I x2), none, some (I x4), some (Rf (0 + 1)), some (I x6), some (I y0), none, none]) (Sub.keep (Sub.keep (Sub.keep (Sub.drop (Sub.keep (Sub.keep (Sub.keep (Sub.keep (Sub.keep (Sub.keep Sub.nil)))))))))) ?_
    exact law_j85_ok hw K x0 x2 x4 x6 y0 (-3) z71 w71
  refine GQ.iloadN (pc' := 80) at_79 rfl rfl ?_
  refine GQ.goto (pc' := 85) at_80 rfl rfl ?_
  refine GQ.weak (L' := [some (I x0), none, some (I x2), none, some (I x4), some (Rf (0 + 1)), some (I x6), some (I y0), none, none]) (Sub.keep (Sub.keep (Sub.keep (Sub.drop (Sub.keep (Sub.keep (Sub.keep (Sub.keep (Sub.keep (Sub.keep Sub.nil)))))))))) ?_
  exact law_j85_ok hw K x0 x2 x4 x6 y0 x3 z71 w71
set_option maxRecDepth 65536 in
set_option maxHeartbeats 4000000 in
theorem law_j52_ok {l : Launch} {Z : State} {a0 : Array Value} {n0 sa : Nat} (hw : Words a0 Z) (K : KB a0 Z CN nI FF (posF PP) nA) {kc ks : Nat} (x0 : Int) (x2 : Int) (x3 : Int) (x4 : Int) (y0 : Int) (w : MB) : GQ (XB l Z n0 CN FF (posF PP) nA sa none) law_I kc ks 52 [some (I x0), none, some (I x2), some (I x3), some (I x4), some (Rf (0 + 1)), none, none, none, none] [I y0] w (law_j52 x0 x2 x3 x4 y0 w) := by
  unfold law_j52
  refine GQ.istore (L' := [some (I x0), none, some (I x2), some (I x3), some (I x4), some (Rf (0 + 1)), some (I y0), none, none, none]) (pc' := 54) at_52 rfl rfl rfl ?_
  refine GQ.iload (pc' := 56) at_54 rfl rfl ?_
  refine GQ.ifT (pcT := 63) (pcF := 59) h_eq at_56 rfl rfl rfl ?_ ?_
  · refine GQ.iconst (pc' := 64) at_63 rfl rfl ?_
    exact law_j64_ok hw K x0 x2 x3 x4 y0 0 w
  refine GQ.iloadN (pc' := 60) at_59 rfl rfl ?_
  refine GQ.goto (pc' := 64) at_60 rfl rfl ?_
  exact law_j64_ok hw K x0 x2 x3 x4 y0 x3 w
set_option maxRecDepth 65536 in
set_option maxHeartbeats 4000000 in
theorem law_j51_ok {l : Launch} {Z : State} {a0 : Array Value} {n0 sa : Nat} (hw : Words a0 Z) (K : KB a0 Z CN nI FF (posF PP) nA) {kc ks : Nat} (x0 : Int) (x2 : Int) (x3 : Int) (x4 : Int) (w : MB) : GQ (XB l Z n0 CN FF (posF PP) nA sa none) law_I kc ks 51 [some (I x0), none, some (I x2), some (I x3), some (I x4), some (Rf (0 + 1)), none, none, none, none] [] w (law_j51 x0 x2 x3 x4 w) := by
  unfold law_j51
  refine GQ.iconst (pc' := 52) at_51 rfl rfl ?_
  exact law_j52_ok hw K x0 x2 x3 x4 0 w
set_option maxRecDepth 65536 in
set_option maxHeartbeats 4000000 in
theorem law_M_ok {l : Launch} {Z : State} {a0 : Array Value} {n0 sa : Nat} (hw : Words a0 Z) (K : KB a0 Z CN nI FF (posF PP) nA) (x0 : Int) (x1 : Int) (x2 : Int) (x3 : Int) (x4 : Int) (w : MB) : GQ (XB l Z n0 CN FF (posF PP) nA sa none) law_I 16 2417 0 (entry [I x0, I x1, I x2, I x3, I x4] law_I.2.2.1) [] w (law_M x0 x1 x2 x3 x4 w) := by
  show GQ _ _ _ _ 0 [some (I x0), some (I x1), some (I x2), some (I x3), some (I x4), none, none, none, none, none] [] _ _
  unfold law_M
  refine GQ.new (M := law_I) (n := 0) (pc' := 3) (kc := 15) (ks := 2360) K (wd0 hw) (wd2 hw) at_0 rfl (fun w0 => ?_)
  refine GQ.dupR (pc' := 4) at_3 rfl ?_
  refine GQ.iloadN (pc' := 5) at_4 rfl rfl ?_
  refine GQ.iloadN (pc' := 6) at_5 rfl rfl ?_
  refine GQ.init (n := 0) (oc := ctor_M x0 x1) (Mc := ctor_I) (args0 := [I x0, I x1]) (S := [Rf (0 + 1)]) (pc' := 9) (kc := 0) (ks := 0) (sl := 2360) K (ctor_K hw (by decide)) rfl rfl rfl at_6 rfl (wd3 hw) (wd4 hw) (nrS nrI (nrS nrI nr0)) rfl (fun a h0 ha hh => ctor_M_ok hw K ha hh x0 x1) rfl (fun w6 => ?_)
  refine GQ.astore (L' := [some (I x0), some (I x1), some (I x2), some (I x3), some (I x4), some (Rf (0 + 1)), none, none, none, none]) (pc' := 11) at_9 rfl rfl rfl ?_
  refine GQ.aload (pc' := 13) at_11 rfl rfl ?_
  refine GQ.bipush (pc' := 15) at_13 rfl rfl ?_
  refine GQ.vir (j := 0) (m := fun q => putNameChar_M 102 q) (Mc := putNameChar_I) (args0 := [I 102]) (S := []) (pc' := 18) K (putNameChar_K hw (by decide)) rfl rfl at_15 rfl (wd122 hw) (wd124 hw) (wd123 hw) (wd125 hw) (nrS nrI nr0) rfl (fun cv h0 q KA0 => putNameChar_M_ok hw KA0 102 q) rfl (fun z15 w15 => ?_)
  show GQ (XB l Z n0 CN FF (posF PP) nA sa none) law_I _ _ 18 [some (I x0), some (I x1), some (I x2), some (I x3), some (I x4), some (Rf (0 + 1)), none, none, none, none] [I z15] w15 _
  refine GQ.ifF (pcT := 23) (pcF := 21) h_ne at_18 rfl rfl rfl ?_ ?_
  · refine GQ.aload (pc' := 25) at_23 rfl rfl ?_
    refine GQ.iconst (pc' := 26) at_25 rfl rfl ?_
    refine GQ.iconst (pc' := 27) at_26 rfl rfl ?_
    refine GQ.vir (j := 0) (m := fun q => create_M 0 2 q) (Mc := create_I) (args0 := [I 0, I 2]) (S := []) (pc' := 30) K (create_K hw (by decide)) rfl rfl at_27 rfl (wd131 hw) (wd133 hw) (wd132 hw) (wd134 hw) (nrS nrI (nrS nrI nr0)) rfl (fun cv h0 q KA0 => create_M_ok hw KA0 0 2 q) rfl (fun z27 w27 => ?_)
    show GQ (XB l Z n0 CN FF (posF PP) nA sa none) law_I _ _ 30 [some (I x0), some (I x1), some (I x2), some (I x3), some (I x4), some (Rf (0 + 1)), none, none, none, none] [I z27] w27 _
    refine GQ.iconst (pc' := 31) at_30 rfl rfl ?_
    refine GQ.icmpT (pcT := 36) (pcF := 34) h_eq at_31 rfl rfl rfl ?_ ?_
    · refine GQ.iloadN (pc' := 37) at_36 rfl rfl ?_
      refine GQ.iconst (pc' := 38) at_37 rfl rfl ?_
      refine GQ.icmpT (pcT := 51) (pcF := 41) h_lt at_38 rfl rfl rfl ?_ ?_
      · refine GQ.weak (L' := [some (I x0), none, some (I x2), some (I x3), some (I x4), some (Rf (0 + 1)), none, none, none, none]) (Sub.keep (Sub.drop (Sub.keep (Sub.keep (Sub.keep (Sub.keep (Sub.keep (Sub.keep (Sub.keep (Sub.keep Sub.nil)))))))))) ?_
        exact law_j51_ok hw K x0 x2 x3 x4 w27
      refine GQ.iloadN (pc' := 42) at_41 rfl rfl ?_
      refine GQ.bipush (pc' := 44) at_42 rfl rfl ?_
      refine GQ.icmpT (pcT := 51) (pcF := 47) h_gt at_44 rfl rfl rfl ?_ ?_
      · refine GQ.weak (L' := [some (I x0), none, some (I x2), some (I x3), some (I x4), some (Rf (0 + 1)), none, none, none, none]) (Sub.keep (Sub.drop (Sub.keep (Sub.keep (Sub.keep (Sub.keep (Sub.keep (Sub.keep (Sub.keep (Sub.keep Sub.nil)))))))))) ?_
        exact law_j51_ok hw K x0 x2 x3 x4 w27
      refine GQ.iconst (pc' := 48) at_47 rfl rfl ?_
      refine GQ.goto (pc' := 52) at_48 rfl rfl ?_
      refine GQ.weak (L' := [some (I x0), none, some (I x2), some (I x3), some (I x4), some (Rf (0 + 1)), none, none, none, none]) (Sub.keep (Sub.drop (Sub.keep (Sub.keep (Sub.keep (Sub.keep (Sub.keep (Sub.keep (Sub.keep (Sub.keep Sub.nil)))))))))) ?_
      exact law_j52_ok hw K x0 x2 x3 x4 1 w27
    refine GQ.iconst (pc' := 35) at_34 rfl rfl ?_
    exact GQ.zret rfl at_35
  refine GQ.iconst (pc' := 22) at_21 rfl rfl ?_
  exact GQ.zret rfl at_22
set_option maxRecDepth 65536 in
set_option maxHeartbeats 4000000 in
theorem comes_1 {Post : Tables → Env → Array Value → State → Outcome → State → Prop} (hpost : ∀ tb e args s v u, (limb_1_1.after args s (.returned v) u = true ∧ limb_1_2.after args s (.returned v) u = true ∧ True) → FrameEnd s (.returned v) u (Jvm.fieldLocs frame_1_writes args s ++ Jvm.arrayLocs frame_1_arrays args s ++ Jvm.staticLocs frame_1_statics s) 40 4928 → Post tb e args s (.returned v) u) :
    ArmFor flags0 classFile x code maxLocals ret World_1 tables_1 room_1 Calls_1 rest_1 Pre_1 Post := by
  intro l hfl _ _ p e ha hc hk s m args below hf hA hF happ hP
  obtain ⟨hcalls, hrest, hpre⟩ := hP
  obtain ⟨-, -, -, hnamed, -, -, -, hat⟩ := (Spec.applies_iff hf).mp happ
  obtain ⟨hg, hn⟩ := and_e (Cond.before_iff.mp (show (Jvm.Cond.and given_1 narrow_1).before args s = true from hpre))
  obtain ⟨h1, g0⟩ := and_e hg
  have hw : Words args s := fun d hd => atoms_spec (ws := Jvm.Cond.code x code maxLocals ret :: tables_1) hat d (List.mem_cons_of_mem _ hd)
  obtain ⟨v0, v1, v2, v3, v4, rfl⟩ : ∃ v0 v1 v2 v3 v4 : Value, args = #[v0, v1, v2, v3, v4] := by
    have hs : args.size = 5 := by simpa [Cond.value, given_1] using h1
    obtain ⟨L⟩ := args
    match L, hs with
    | [v0, v1, v2, v3, v4], _ => exact ⟨v0, v1, v2, v3, v4, rfl⟩
  obtain ⟨q0, g1⟩ := and_e g0
  obtain ⟨q1, g2⟩ := and_e g1
  obtain ⟨q2, g3⟩ := and_e g2
  obtain ⟨q3, g4⟩ := and_e g3
  have q4 := g4
  obtain ⟨i0, e0⟩ := is_v q0
  obtain rfl : v0 = .int i0 := Option.some.inj e0
  obtain ⟨i1, e1⟩ := is_v q1
  obtain rfl : v1 = .int i1 := Option.some.inj e1
  obtain ⟨i2, e2⟩ := is_v q2
  obtain rfl : v2 = .int i2 := Option.some.inj e2
  obtain ⟨i3, e3⟩ := is_v q3
  obtain rfl : v3 = .int i3 := Option.some.inj e3
  obtain ⟨i4, e4⟩ := is_v q4
  obtain rfl : v4 = .int i4 := Option.some.inj e4
  obtain ⟨w', hlaw⟩ := law_true i0.toInt i1.toInt i2.toInt i3.toInt i4.toInt (r32 i0) (r32 i1) (r32 i2) (r32 i3) (r32 i4)
  have H := law_M_ok (l := l) (n0 := s.heap.size) (sa := 0) hw (kb_1 hw) i0.toInt i1.toInt i2.toInt i3.toInt i4.toInt ([], false)
  have hr0 : RepB s s.heap.size CN FF (posF PP) nA 0 none ([], false) s.heap := ⟨by show s.heap.size = s.heap.size + 0 * (nA + 1) + 0; omega, (fun j σ hj => by simp at hj), (fun h => by cases h), (fun n f h => by cases h)⟩
  have hgd : ∀ w ∈ ([I i0.toInt, I i1.toInt, I i2.toInt, I i3.toInt, I i4.toInt] : List AV), good w := by
    intro w hw'
    simp only [List.mem_cons, List.not_mem_nil, or_false] at hw'
    rcases hw' with rfl | rfl | rfl | rfl | rfl <;> exact r32 _
  obtain ⟨n, o, h1, h2, h3, _, L, rfl, ⟨rfl, hrep, N, _⟩, hq⟩ := met_of H hlaw pnL hgd (Nat.le_of_ble_eq_true rfl) (h := s.heap) hr0 tables_1 room_1 (by decide) (by decide) (by decide) (by decide) p e ha hc hk s m _ below hf ((Spec.applies_iff_loose hf).mp happ).1 ⟨by simp only [List.map_cons, List.map_nil, cval, o32_t], State.Warmed39.refl s, rfl⟩ trivial
  exact ⟨n, _, h1, h2, h3, hpost _ _ _ _ _ _ ⟨Cond.after_iff.mpr rfl, Cond.after_iff.mpr (eq_i res_at (Term.int_eval (1)) rfl), trivial⟩ ⟨hq.1, hq.2.1, (hq.2.2.sift fun y hy => Or.inr (N y hy)).mono (by decide) (by decide)⟩⟩
theorem main_1_1 : Claimed_1_1 := comes_1 fun _ _ _ _ _ _ h hF => ⟨h.1, hF⟩
theorem main_1_2 : Claimed_1_2 := comes_1 fun _ _ _ _ _ _ h hF => ⟨h.2.1, hF⟩
end Jvm.Pilot.@@N@@
namespace Jvm.Pilot.@@N@@
open Jvm Jvm.ClassFile Sem Op Lib Jvm.Free Jvm.Stand Jvm.Pilot.@@N@@.Jvm.D
/-! MADE BY PROGRAM (witnessworld.py) out of the Statement's table words and the real class files: 11 classes; the members and pool entries that the words name. The judged class is class 1, her method 1. -/
namespace start1
open Jvm.ClassFile
def u (s : String) : CpInfo := .utf8 (stringToUtf16 s)
/-- a pool by its gaps: so many unusable entries, then the entry; so many at the end -/
def gap : Nat → List CpInfo → List CpInfo
  | 0, r => r
  | n + 1, r => .unusable :: gap n r
def poolList (es : List (Nat × CpInfo)) (last : Nat) : List CpInfo := es.foldr (fun e r => gap e.1 (e.2 :: r)) (gap last [])
def pool (es : List (Nat × CpInfo)) (last : Nat) : Array CpInfo := ⟨poolList es last⟩
def fileOf (pool : Array CpInfo) (this : Nat) (attrs : Array Attribute := #[]) (ms : Array MethodInfo := #[]) (fl : Nat := 33) (sup : Nat := 0) (ifs : Array Nat := #[]) (fds : Array FieldInfo := #[]) : ClassFile where
  minorVersion := 0
  majorVersion := 65
  constantPool := pool
  accessFlags := fl
  thisClass := this
  superClass := sup
  interfaces := ifs
  fields := fds
  methods := ms
  attributes := attrs
def plain (name : String) (sup : Option ClassId) : Class where
  name := name
  kind := .ordinary
  loader := none
  accessFlags := 33
  super := sup
  interfaces := #[]
  cf := none
  fields := #[]
  methods := #[]
  instanceTypes := #[]
  staticTypes := #[]
  resolved := #[]
  callSites := []
  init := .initialized
  statics := none
  mirror := none

def pool0 : Array CpInfo := pool [(5, u "<init>"), (0, u "()V"), (1, .class_ 10), (1, u "java/lang/Object")] 113

def k0c0 : Code := { maxStack := 0, maxLocals := 1, code := object_method_1_code, exceptionTable := #[], attributes := #[] }
def k0m0 : Method := { name := "<init>", desc := "()V", sig := { parameters := [], returnType := none }, accessFlags := 1, code := some k0c0 }
/-- java/lang/Object -/
def k0 : Class := { plain "java/lang/Object" none with
  accessFlags := 33
  interfaces := #[]
  cf := some (fileOf pool0 8 #[] #[{ accessFlags := 1, nameIndex := 5, descriptorIndex := 6, attributes := #[] }] 33 0 #[] #[])
  fields := #[]
  methods := #[k0m0]
  instanceTypes := #[]
  staticTypes := #[]
  resolved := Array.replicate 124 none
  statics := none }

def pool1 : Array CpInfo := pool [(2, .class_ 4), (1, u "java/lang/Object"), (0, u "<init>"), (0, u "()V"), (0, .class_ 8), (0, u "SquashImage"), (0, .methodref 7 10), (0, .nameAndType 5 11), (0, u "(II)V"), (0, .methodref 7 13), (0, .nameAndType 14 15), (0, u "putNameChar"), (0, u "(C)Z"), (0, .methodref 7 17), (0, .nameAndType 18 19), (0, u "create"), (0, u "(II)I"), (0, .methodref 7 21), (0, .nameAndType 22 23), (0, u "appendRun"), (0, u "(III)I"), (0, .methodref 7 25), (0, .nameAndType 26 19), (0, u "appendByte"), (0, .methodref 7 28), (0, .nameAndType 29 30), (0, u "fileSize"), (0, u "(I)I"), (0, .methodref 7 32), (0, .nameAndType 33 34), (0, u "build"), (0, u "()Z"), (0, .methodref 7 36), (0, .nameAndType 37 19), (0, u "readByte"), (0, .methodref 7 39), (0, .nameAndType 40 30), (0, u "tailLength"), (0, .class_ 42), (0, u "SquashImageL2"), (2, u "law"), (0, u "(IIIII)Z")] 3

def k1m0 : Method := { name := "<init>", desc := "()V", sig := { parameters := [], returnType := none }, accessFlags := 1, code := none }
def k1c1 : Code := { maxStack := 4, maxLocals := 10, code := code, exceptionTable := #[], attributes := #[] }
def k1m1 : Method := { name := "law", desc := "(IIIII)Z", sig := { parameters := [.int, .int, .int, .int, .int], returnType := some .boolean }, accessFlags := 9, code := some k1c1 }
/-- SquashImageL2 -/
def k1 : Class := { plain "SquashImageL2" (some 0) with
  accessFlags := 49
  interfaces := #[]
  cf := some (fileOf pool1 41 #[] #[{ accessFlags := 1, nameIndex := 5, descriptorIndex := 6, attributes := #[] }, { accessFlags := 9, nameIndex := 45, descriptorIndex := 46, attributes := #[] }] 49 2 #[] #[])
  fields := #[]
  methods := #[k1m0, k1m1]
  instanceTypes := #[]
  staticTypes := #[]
  resolved := Array.replicate 50 none
  statics := none }

def pool2 : Array CpInfo := pool [(1, .methodref 2 3), (0, .class_ 4), (0, .nameAndType 5 6), (0, u "java/lang/Object"), (0, u "<init>"), (0, u "()V"), (0, .fieldref 8 9), (0, .class_ 10), (0, .nameAndType 11 12), (0, u "SquashImage"), (0, u "superSize"), (0, u "I"), (0, .fieldref 8 14), (0, .nameAndType 15 12), (0, u "inodeSize"), (0, .fieldref 8 17), (0, .nameAndType 18 12), (0, u "entrySize"), (0, .fieldref 8 20), (0, .nameAndType 21 12), (0, u "blockEntrySize"), (0, .fieldref 8 23), (0, .nameAndType 24 12), (0, u "maxBlock"), (0, .fieldref 8 26), (0, .nameAndType 27 12), (0, u "maxBlocks"), (0, .fieldref 8 29), (0, .nameAndType 30 12), (0, u "magicValue"), (0, .fieldref 8 32), (0, .nameAndType 33 12), (0, u "tokenLiteral"), (0, .fieldref 8 35), (0, .nameAndType 36 12), (0, u "tokenRun"), (0, .fieldref 8 38), (0, .nameAndType 39 12), (0, u "tokenRef"), (0, .fieldref 8 41), (0, .nameAndType 42 12), (0, u "minMatch"), (0, .fieldref 8 44), (0, .nameAndType 45 12), (0, u "sbInodeTable"), (0, .fieldref 8 47), (0, .nameAndType 48 12), (0, u "sbBlockTable"), (0, .fieldref 8 50), (0, .nameAndType 51 12), (0, u "sbDirTable"), (0, .fieldref 8 53), (0, .nameAndType 54 12), (0, u "sbDataStart"), (0, .fieldref 8 56), (0, .nameAndType 57 12), (0, u "sbNodeCount"), (0, .fieldref 8 59), (0, .nameAndType 60 12), (0, u "sbBlockSize"), (0, .fieldref 8 62), (0, .nameAndType 63 12), (0, u "sbFragFirst"), (0, .fieldref 8 65), (0, .nameAndType 66 12), (0, u "sbBlockCount"), (0, .fieldref 8 68), (0, .nameAndType 69 12), (0, u "sbMagic"), (0, .fieldref 8 71), (0, .nameAndType 72 12), (0, u "inKind"), (0, .fieldref 8 74), (0, .nameAndType 75 12), (0, u "inParent"), (0, .fieldref 8 77), (0, .nameAndType 78 12), (0, u "inSize"), (0, .fieldref 8 80), (0, .nameAndType 81 12), (0, u "inDirOff"), (0, .fieldref 8 83), (0, .nameAndType 84 12), (0, u "inFirst"), (0, .fieldref 8 86), (0, .nameAndType 87 12), (0, u "inEntries"), (0, .fieldref 8 89), (0, .nameAndType 90 12), (0, u "inTail"), (0, .fieldref 8 92), (0, .nameAndType 93 12), (0, u "inNameLen"), (0, .fieldref 8 95), (0, .nameAndType 96 97), (0, u "nodeKind"), (0, u "[B"), (0, .fieldref 8 99), (0, .nameAndType 100 97), (0, u "nodeParent"), (0, .fieldref 8 102), (0, .nameAndType 103 97), (0, u "nameLen"), (0, .fieldref 8 105), (0, .nameAndType 106 107), (0, u "names"), (0, u "[C"), (0, .fieldref 8 109), (0, .nameAndType 110 111), (0, u "sizes"), (0, u "[I"), (0, .fieldref 8 113), (0, .nameAndType 114 107), (0, u "nameBuf"), (0, .fieldref 8 116), (0, .nameAndType 117 107), (0, u "pathBuf"), (0, .fieldref 8 119), (0, .nameAndType 120 97), (0, u "poolData"), (0, .fieldref 8 122), (0, .nameAndType 123 97), (0, u "poolOwner"), (0, .fieldref 8 125), (0, .nameAndType 126 97), (0, u "img"), (0, .fieldref 8 128), (0, .nameAndType 129 97), (0, u "fileBuf"), (0, .fieldref 8 131), (0, .nameAndType 132 97), (0, u "fragRaw"), (0, .fieldref 8 134), (0, .nameAndType 135 97), (0, u "rawBlk"), (0, .fieldref 8 137), (0, .nameAndType 138 97), (0, u "blkBuf"), (0, .fieldref 8 140), (0, .nameAndType 141 97), (0, u "sortBuf"), (0, .methodref 8 143), (0, .nameAndType 144 145), (0, u "clamp"), (0, u "(III)I"), (0, .fieldref 8 147), (0, .nameAndType 148 12), (0, u "blockSize"), (0, .fieldref 8 150), (0, .nameAndType 151 12), (0, u "maxNodes"), (0, .fieldref 8 153), (0, .nameAndType 154 155), (0, u "sealed"), (0, u "Z"), (0, .fieldref 8 157), (0, .nameAndType 158 12), (0, u "nodes"), (0, .fieldref 8 160), (0, .nameAndType 161 12), (0, u "nameBufLen"), (0, .fieldref 8 163), (0, .nameAndType 164 12), (0, u "pathLen"), (0, .fieldref 8 166), (0, .nameAndType 167 12), (0, u "totalData"), (0, .fieldref 8 169), (0, .nameAndType 170 12), (0, u "fragLen"), (0, .fieldref 8 172), (0, .nameAndType 173 12), (0, u "cachedBlock"), (0, .fieldref 8 175), (0, .nameAndType 176 12), (0, u "cachedLen"), (0, .methodref 8 178), (0, .nameAndType 179 180), (0, u "isNameChar"), (0, u "(I)Z"), (0, .methodref 8 182), (0, .nameAndType 183 180), (0, u "isDir"), (0, .methodref 8 185), (0, .nameAndType 186 187), (0, u "findChildByNameBuf"), (0, u "(II)I"), (0, .methodref 8 189), (0, .nameAndType 190 145), (0, u "addNode"), (4, .methodref 8 196), (0, .nameAndType 197 180), (0, u "isFile"), (0, .methodref 8 199), (0, .nameAndType 200 201), (0, u "pushByte"), (0, u "(II)V"), (0, .methodref 8 203), (0, .nameAndType 204 6), (0, u "planLayout"), (0, .fieldref 8 206), (0, .nameAndType 207 12), (0, u "nextBlock"), (0, .methodref 8 209), (0, .nameAndType 210 211), (0, u "writeFileNode"), (0, u "(I)V"), (0, .methodref 8 213), (0, .nameAndType 214 211), (0, u "writeDirNode"), (0, .methodref 8 216), (0, .nameAndType 217 6), (0, u "writeFragmentBlocks"), (0, .methodref 8 219), (0, .nameAndType 220 201), (0, u "put16"), (0, .methodref 8 222), (0, .nameAndType 223 201), (0, u "put8"), (0, .fieldref 8 225), (0, .nameAndType 226 12), (0, u "writePos"), (0, .fieldref 8 228), (0, .nameAndType 229 12), (0, u "dirPos"), (0, .methodref 8 231), (0, .nameAndType 232 233), (0, u "gatherFile"), (0, u "(I)I"), (0, .methodref 8 235), (0, .nameAndType 236 201), (0, u "loadRawFromFile"), (0, .methodref 8 238), (0, .nameAndType 239 211), (0, u "emitBlock"), (0, .methodref 8 241), (0, .nameAndType 242 201), (0, u "appendTail"), (0, .methodref 8 244), (0, .nameAndType 245 233), (0, u "inodePos"), (0, .methodref 8 247), (0, .nameAndType 248 201), (0, u "loadRawFromFrag"), (0, .methodref 8 250), (0, .nameAndType 251 233), (0, u "compressBlock"), (0, .methodref 8 253), (0, .nameAndType 254 233), (0, u "u16"), (0, .methodref 8 256), (0, .nameAndType 257 233), (0, u "collectChildren"), (0, .methodref 8 259), (0, .nameAndType 260 211), (0, u "sortChildren"), (0, .methodref 8 262), (0, .nameAndType 263 211), (0, u "writeEntry"), (3, .methodref 8 268), (0, .nameAndType 269 187), (0, u "runLength"), (0, .methodref 8 271), (0, .nameAndType 272 187), (0, u "bestDistance"), (0, .fieldref 8 274), (0, .nameAndType 275 12), (0, u "bestMatchLen"), (0, .methodref 8 277), (0, .nameAndType 278 201), (0, u "flushLiteral"), (0, .methodref 8 280), (0, .nameAndType 281 282), (0, u "emitToken"), (0, u "(III)V"), (0, .methodref 8 284), (0, .nameAndType 285 145), (0, u "matchLength"), (0, .methodref 8 287), (0, .nameAndType 288 233), (0, u "u8"), (0, .methodref 8 290), (0, .nameAndType 291 145), (0, u "decodeBlock"), (0, .methodref 8 293), (0, .nameAndType 294 295), (0, u "copyLiteral"), (0, u "(IIII)I"), (0, .methodref 8 297), (0, .nameAndType 298 295), (0, u "fillRun"), (10, u "()Z"), (12, .methodref 8 323), (0, .nameAndType 324 233), (0, u "loadBlock"), (0, .methodref 8 326), (0, .nameAndType 327 180), (0, u "isValid"), (0, u "KIND_DIR"), (2, u "KIND_FILE"), (1, u "ERR_STATE"), (1, u "ERR_NODE"), (1, u "ERR_RANGE"), (1, u "ERR_NAME"), (1, u "ERR_EXISTS"), (1, u "ERR_FULL"), (1, u "ERR_BAD_PATH"), (1, u "ERR_NOT_FOUND"), (1, u "ERR_NOT_DIR"), (1, u "MAX_NAME"), (1, u "MAX_PATH"), (1, u "MAX_DATA"), (1, u "MAX_RUN"), (16, u "putNameChar"), (0, u "(C)Z"), (0, u "create"), (1, u "appendByte"), (0, u "appendRun"), (0, u "build"), (3, u "readByte"), (0, u "fileSize"), (0, u "tailLength")] 8

def k2c0 : Code := { maxStack := 5, maxLocals := 3, code := prog_1_method_1_code, exceptionTable := #[], attributes := #[] }
def k2m0 : Method := { name := "<init>", desc := "(II)V", sig := { parameters := [.int, .int], returnType := none }, accessFlags := 1, code := some k2c0 }
def k2c1 : Code := { maxStack := 2, maxLocals := 4, code := prog_1_method_2_code, exceptionTable := #[], attributes := #[] }
def k2m1 : Method := { name := "clamp", desc := "(III)I", sig := { parameters := [.int, .int, .int], returnType := some .int }, accessFlags := 2, code := some k2c1 }
def k2c2 : Code := { maxStack := 3, maxLocals := 2, code := prog_1_method_3_code, exceptionTable := #[], attributes := #[] }
def k2m2 : Method := { name := "putNameChar", desc := "(C)Z", sig := { parameters := [.char], returnType := some .boolean }, accessFlags := 1, code := some k2c2 }
def k2c3 : Code := { maxStack := 2, maxLocals := 2, code := prog_1_method_4_code, exceptionTable := #[], attributes := #[] }
def k2m3 : Method := { name := "isNameChar", desc := "(I)Z", sig := { parameters := [.int], returnType := some .boolean }, accessFlags := 2, code := some k2c3 }
def k2c4 : Code := { maxStack := 4, maxLocals := 4, code := prog_1_method_5_code, exceptionTable := #[], attributes := #[] }
def k2m4 : Method := { name := "create", desc := "(II)I", sig := { parameters := [.int, .int], returnType := some .int }, accessFlags := 1, code := some k2c4 }
def k2c5 : Code := { maxStack := 3, maxLocals := 4, code := prog_1_method_6_code, exceptionTable := #[], attributes := #[] }
def k2m5 : Method := { name := "findChildByNameBuf", desc := "(II)I", sig := { parameters := [.int, .int], returnType := some .int }, accessFlags := 2, code := some k2c5 }
def k2c6 : Code := { maxStack := 4, maxLocals := 6, code := prog_1_method_8_code, exceptionTable := #[], attributes := #[] }
def k2m6 : Method := { name := "addNode", desc := "(III)I", sig := { parameters := [.int, .int, .int], returnType := some .int }, accessFlags := 2, code := some k2c6 }
def k2c7 : Code := { maxStack := 4, maxLocals := 3, code := prog_1_method_9_code, exceptionTable := #[], attributes := #[] }
def k2m7 : Method := { name := "appendByte", desc := "(II)I", sig := { parameters := [.int, .int], returnType := some .int }, accessFlags := 1, code := some k2c7 }
def k2c8 : Code := { maxStack := 3, maxLocals := 6, code := prog_1_method_10_code, exceptionTable := #[], attributes := #[] }
def k2m8 : Method := { name := "appendRun", desc := "(III)I", sig := { parameters := [.int, .int, .int], returnType := some .int }, accessFlags := 1, code := some k2c8 }
def k2c9 : Code := { maxStack := 4, maxLocals := 3, code := prog_1_method_11_code, exceptionTable := #[], attributes := #[] }
def k2m9 : Method := { name := "pushByte", desc := "(II)V", sig := { parameters := [.int, .int], returnType := none }, accessFlags := 2, code := some k2c9 }
def k2c10 : Code := { maxStack := 2, maxLocals := 2, code := prog_1_method_12_code, exceptionTable := #[], attributes := #[] }
def k2m10 : Method := { name := "build", desc := "()Z", sig := { parameters := [], returnType := some .boolean }, accessFlags := 1, code := some k2c10 }
def k2c11 : Code := { maxStack := 4, maxLocals := 9, code := prog_1_method_13_code, exceptionTable := #[], attributes := #[] }
def k2m11 : Method := { name := "planLayout", desc := "()V", sig := { parameters := [], returnType := none }, accessFlags := 2, code := some k2c11 }
def k2c12 : Code := { maxStack := 4, maxLocals := 7, code := prog_1_method_14_code, exceptionTable := #[], attributes := #[] }
def k2m12 : Method := { name := "writeFileNode", desc := "(I)V", sig := { parameters := [.int], returnType := none }, accessFlags := 2, code := some k2c12 }
def k2c13 : Code := { maxStack := 4, maxLocals := 4, code := prog_1_method_15_code, exceptionTable := #[], attributes := #[] }
def k2m13 : Method := { name := "gatherFile", desc := "(I)I", sig := { parameters := [.int], returnType := some .int }, accessFlags := 2, code := some k2c13 }
def k2c14 : Code := { maxStack := 4, maxLocals := 4, code := prog_1_method_16_code, exceptionTable := #[], attributes := #[] }
def k2m14 : Method := { name := "appendTail", desc := "(II)V", sig := { parameters := [.int, .int], returnType := none }, accessFlags := 2, code := some k2c14 }
def k2c15 : Code := { maxStack := 4, maxLocals := 5, code := prog_1_method_17_code, exceptionTable := #[], attributes := #[] }
def k2m15 : Method := { name := "loadRawFromFile", desc := "(II)V", sig := { parameters := [.int, .int], returnType := none }, accessFlags := 2, code := some k2c15 }
def k2c16 : Code := { maxStack := 4, maxLocals := 5, code := prog_1_method_18_code, exceptionTable := #[], attributes := #[] }
def k2m16 : Method := { name := "loadRawFromFrag", desc := "(II)V", sig := { parameters := [.int, .int], returnType := none }, accessFlags := 2, code := some k2c16 }
def k2c17 : Code := { maxStack := 3, maxLocals := 4, code := prog_1_method_19_code, exceptionTable := #[], attributes := #[] }
def k2m17 : Method := { name := "writeFragmentBlocks", desc := "()V", sig := { parameters := [], returnType := none }, accessFlags := 2, code := some k2c17 }
def k2c18 : Code := { maxStack := 3, maxLocals := 5, code := prog_1_method_20_code, exceptionTable := #[], attributes := #[] }
def k2m18 : Method := { name := "emitBlock", desc := "(I)V", sig := { parameters := [.int], returnType := none }, accessFlags := 2, code := some k2c18 }
def k2c19 : Code := { maxStack := 4, maxLocals := 5, code := prog_1_method_21_code, exceptionTable := #[], attributes := #[] }
def k2m19 : Method := { name := "writeDirNode", desc := "(I)V", sig := { parameters := [.int], returnType := none }, accessFlags := 2, code := some k2c19 }
def k2c20 : Code := { maxStack := 5, maxLocals := 4, code := prog_1_method_22_code, exceptionTable := #[], attributes := #[] }
def k2m20 : Method := { name := "writeEntry", desc := "(I)V", sig := { parameters := [.int], returnType := none }, accessFlags := 2, code := some k2c20 }
def k2c21 : Code := { maxStack := 3, maxLocals := 4, code := prog_1_method_23_code, exceptionTable := #[], attributes := #[] }
def k2m21 : Method := { name := "collectChildren", desc := "(I)I", sig := { parameters := [.int], returnType := some .int }, accessFlags := 2, code := some k2c21 }
def k2c22 : Code := { maxStack := 3, maxLocals := 6, code := prog_1_method_24_code, exceptionTable := #[], attributes := #[] }
def k2m22 : Method := { name := "sortChildren", desc := "(I)V", sig := { parameters := [.int], returnType := none }, accessFlags := 2, code := some k2c22 }
def k2c23 : Code := { maxStack := 5, maxLocals := 10, code := prog_1_method_26_code, exceptionTable := #[], attributes := #[] }
def k2m23 : Method := { name := "compressBlock", desc := "(I)I", sig := { parameters := [.int], returnType := some .int }, accessFlags := 2, code := some k2c23 }
def k2c24 : Code := { maxStack := 2, maxLocals := 6, code := prog_1_method_27_code, exceptionTable := #[], attributes := #[] }
def k2m24 : Method := { name := "runLength", desc := "(II)I", sig := { parameters := [.int, .int], returnType := some .int }, accessFlags := 2, code := some k2c24 }
def k2c25 : Code := { maxStack := 4, maxLocals := 6, code := prog_1_method_28_code, exceptionTable := #[], attributes := #[] }
def k2m25 : Method := { name := "bestDistance", desc := "(II)I", sig := { parameters := [.int, .int], returnType := some .int }, accessFlags := 2, code := some k2c25 }
def k2c26 : Code := { maxStack := 3, maxLocals := 8, code := prog_1_method_29_code, exceptionTable := #[], attributes := #[] }
def k2m26 : Method := { name := "matchLength", desc := "(III)I", sig := { parameters := [.int, .int, .int], returnType := some .int }, accessFlags := 2, code := some k2c26 }
def k2c27 : Code := { maxStack := 5, maxLocals := 4, code := prog_1_method_30_code, exceptionTable := #[], attributes := #[] }
def k2m27 : Method := { name := "emitToken", desc := "(III)V", sig := { parameters := [.int, .int, .int], returnType := none }, accessFlags := 2, code := some k2c27 }
def k2c28 : Code := { maxStack := 5, maxLocals := 6, code := prog_1_method_31_code, exceptionTable := #[], attributes := #[] }
def k2m28 : Method := { name := "flushLiteral", desc := "(II)V", sig := { parameters := [.int, .int], returnType := none }, accessFlags := 2, code := some k2c28 }
def k2c29 : Code := { maxStack := 4, maxLocals := 8, code := prog_1_method_32_code, exceptionTable := #[], attributes := #[] }
def k2m29 : Method := { name := "loadBlock", desc := "(I)I", sig := { parameters := [.int], returnType := some .int }, accessFlags := 2, code := some k2c29 }
def k2c30 : Code := { maxStack := 5, maxLocals := 13, code := prog_1_method_33_code, exceptionTable := #[], attributes := #[] }
def k2m30 : Method := { name := "decodeBlock", desc := "(III)I", sig := { parameters := [.int, .int, .int], returnType := some .int }, accessFlags := 2, code := some k2c30 }
def k2c31 : Code := { maxStack := 3, maxLocals := 8, code := prog_1_method_34_code, exceptionTable := #[], attributes := #[] }
def k2m31 : Method := { name := "copyLiteral", desc := "(IIII)I", sig := { parameters := [.int, .int, .int, .int], returnType := some .int }, accessFlags := 2, code := some k2c31 }
def k2c32 : Code := { maxStack := 3, maxLocals := 7, code := prog_1_method_35_code, exceptionTable := #[], attributes := #[] }
def k2m32 : Method := { name := "fillRun", desc := "(IIII)I", sig := { parameters := [.int, .int, .int, .int], returnType := some .int }, accessFlags := 2, code := some k2c32 }
def k2c33 : Code := { maxStack := 3, maxLocals := 9, code := prog_1_method_44_code, exceptionTable := #[], attributes := #[] }
def k2m33 : Method := { name := "readByte", desc := "(II)I", sig := { parameters := [.int, .int], returnType := some .int }, accessFlags := 1, code := some k2c33 }
def k2c34 : Code := { maxStack := 3, maxLocals := 3, code := prog_1_method_45_code, exceptionTable := #[], attributes := #[] }
def k2m34 : Method := { name := "fileSize", desc := "(I)I", sig := { parameters := [.int], returnType := some .int }, accessFlags := 1, code := some k2c34 }
def k2c35 : Code := { maxStack := 3, maxLocals := 4, code := prog_1_method_46_code, exceptionTable := #[], attributes := #[] }
def k2m35 : Method := { name := "tailLength", desc := "(I)I", sig := { parameters := [.int], returnType := some .int }, accessFlags := 1, code := some k2c35 }
def k2c36 : Code := { maxStack := 2, maxLocals := 2, code := prog_1_method_53_code, exceptionTable := #[], attributes := #[] }
def k2m36 : Method := { name := "isValid", desc := "(I)Z", sig := { parameters := [.int], returnType := some .boolean }, accessFlags := 2, code := some k2c36 }
def k2c37 : Code := { maxStack := 2, maxLocals := 2, code := prog_1_method_54_code, exceptionTable := #[], attributes := #[] }
def k2m37 : Method := { name := "isFile", desc := "(I)Z", sig := { parameters := [.int], returnType := some .boolean }, accessFlags := 2, code := some k2c37 }
def k2c38 : Code := { maxStack := 2, maxLocals := 2, code := prog_1_method_55_code, exceptionTable := #[], attributes := #[] }
def k2m38 : Method := { name := "isDir", desc := "(I)Z", sig := { parameters := [.int], returnType := some .boolean }, accessFlags := 2, code := some k2c38 }
def k2c39 : Code := { maxStack := 3, maxLocals := 3, code := prog_1_method_56_code, exceptionTable := #[], attributes := #[] }
def k2m39 : Method := { name := "inodePos", desc := "(I)I", sig := { parameters := [.int], returnType := some .int }, accessFlags := 2, code := some k2c39 }
def k2c40 : Code := { maxStack := 2, maxLocals := 2, code := prog_1_method_58_code, exceptionTable := #[], attributes := #[] }
def k2m40 : Method := { name := "u8", desc := "(I)I", sig := { parameters := [.int], returnType := some .int }, accessFlags := 2, code := some k2c40 }
def k2c41 : Code := { maxStack := 3, maxLocals := 4, code := prog_1_method_59_code, exceptionTable := #[], attributes := #[] }
def k2m41 : Method := { name := "u16", desc := "(I)I", sig := { parameters := [.int], returnType := some .int }, accessFlags := 2, code := some k2c41 }
def k2c42 : Code := { maxStack := 3, maxLocals := 3, code := prog_1_method_60_code, exceptionTable := #[], attributes := #[] }
def k2m42 : Method := { name := "put8", desc := "(II)V", sig := { parameters := [.int, .int], returnType := none }, accessFlags := 2, code := some k2c42 }
def k2c43 : Code := { maxStack := 4, maxLocals := 3, code := prog_1_method_61_code, exceptionTable := #[], attributes := #[] }
def k2m43 : Method := { name := "put16", desc := "(II)V", sig := { parameters := [.int, .int], returnType := none }, accessFlags := 2, code := some k2c43 }
/-- SquashImage -/
def k2 : Class := { plain "SquashImage" (some 0) with
  accessFlags := 49
  interfaces := #[]
  cf := some (fileOf pool2 8 #[] #[{ accessFlags := 1, nameIndex := 5, descriptorIndex := 201, attributes := #[] }, { accessFlags := 2, nameIndex := 144, descriptorIndex := 145, attributes := #[] }, { accessFlags := 1, nameIndex := 374, descriptorIndex := 375, attributes := #[] }, { accessFlags := 2, nameIndex := 179, descriptorIndex := 180, attributes := #[] }, { accessFlags := 1, nameIndex := 376, descriptorIndex := 187, attributes := #[] }, { accessFlags := 2, nameIndex := 186, descriptorIndex := 187, attributes := #[] }, { accessFlags := 2, nameIndex := 190, descriptorIndex := 145, attributes := #[] }, { accessFlags := 1, nameIndex := 378, descriptorIndex := 187, attributes := #[] }, { accessFlags := 1, nameIndex := 379, descriptorIndex := 145, attributes := #[] }, { accessFlags := 2, nameIndex := 200, descriptorIndex := 201, attributes := #[] }, { accessFlags := 1, nameIndex := 380, descriptorIndex := 309, attributes := #[] }, { accessFlags := 2, nameIndex := 204, descriptorIndex := 6, attributes := #[] }, { accessFlags := 2, nameIndex := 210, descriptorIndex := 211, attributes := #[] }, { accessFlags := 2, nameIndex := 232, descriptorIndex := 233, attributes := #[] }, { accessFlags := 2, nameIndex := 242, descriptorIndex := 201, attributes := #[] }, { accessFlags := 2, nameIndex := 236, descriptorIndex := 201, attributes := #[] }, { accessFlags := 2, nameIndex := 248, descriptorIndex := 201, attributes := #[] }, { accessFlags := 2, nameIndex := 217, descriptorIndex := 6, attributes := #[] }, { accessFlags := 2, nameIndex := 239, descriptorIndex := 211, attributes := #[] }, { accessFlags := 2, nameIndex := 214, descriptorIndex := 211, attributes := #[] }, { accessFlags := 2, nameIndex := 263, descriptorIndex := 211, attributes := #[] }, { accessFlags := 2, nameIndex := 257, descriptorIndex := 233, attributes := #[] }, { accessFlags := 2, nameIndex := 260, descriptorIndex := 211, attributes := #[] }, { accessFlags := 2, nameIndex := 251, descriptorIndex := 233, attributes := #[] }, { accessFlags := 2, nameIndex := 269, descriptorIndex := 187, attributes := #[] }, { accessFlags := 2, nameIndex := 272, descriptorIndex := 187, attributes := #[] }, { accessFlags := 2, nameIndex := 285, descriptorIndex := 145, attributes := #[] }, { accessFlags := 2, nameIndex := 281, descriptorIndex := 282, attributes := #[] }, { accessFlags := 2, nameIndex := 278, descriptorIndex := 201, attributes := #[] }, { accessFlags := 2, nameIndex := 324, descriptorIndex := 233, attributes := #[] }, { accessFlags := 2, nameIndex := 291, descriptorIndex := 145, attributes := #[] }, { accessFlags := 2, nameIndex := 294, descriptorIndex := 295, attributes := #[] }, { accessFlags := 2, nameIndex := 298, descriptorIndex := 295, attributes := #[] }, { accessFlags := 1, nameIndex := 384, descriptorIndex := 187, attributes := #[] }, { accessFlags := 1, nameIndex := 385, descriptorIndex := 233, attributes := #[] }, { accessFlags := 1, nameIndex := 386, descriptorIndex := 233, attributes := #[] }, { accessFlags := 2, nameIndex := 327, descriptorIndex := 180, attributes := #[] }, { accessFlags := 2, nameIndex := 197, descriptorIndex := 180, attributes := #[] }, { accessFlags := 2, nameIndex := 183, descriptorIndex := 180, attributes := #[] }, { accessFlags := 2, nameIndex := 245, descriptorIndex := 233, attributes := #[] }, { accessFlags := 2, nameIndex := 288, descriptorIndex := 233, attributes := #[] }, { accessFlags := 2, nameIndex := 254, descriptorIndex := 233, attributes := #[] }, { accessFlags := 2, nameIndex := 223, descriptorIndex := 201, attributes := #[] }, { accessFlags := 2, nameIndex := 220, descriptorIndex := 201, attributes := #[] }] 49 2 #[] #[{ accessFlags := 25, nameIndex := 328, descriptorIndex := 12, attributes := #[] }, { accessFlags := 25, nameIndex := 331, descriptorIndex := 12, attributes := #[] }, { accessFlags := 25, nameIndex := 333, descriptorIndex := 12, attributes := #[] }, { accessFlags := 25, nameIndex := 335, descriptorIndex := 12, attributes := #[] }, { accessFlags := 25, nameIndex := 337, descriptorIndex := 12, attributes := #[] }, { accessFlags := 25, nameIndex := 339, descriptorIndex := 12, attributes := #[] }, { accessFlags := 25, nameIndex := 341, descriptorIndex := 12, attributes := #[] }, { accessFlags := 25, nameIndex := 343, descriptorIndex := 12, attributes := #[] }, { accessFlags := 25, nameIndex := 345, descriptorIndex := 12, attributes := #[] }, { accessFlags := 25, nameIndex := 347, descriptorIndex := 12, attributes := #[] }, { accessFlags := 25, nameIndex := 349, descriptorIndex := 12, attributes := #[] }, { accessFlags := 25, nameIndex := 351, descriptorIndex := 12, attributes := #[] }, { accessFlags := 25, nameIndex := 353, descriptorIndex := 12, attributes := #[] }, { accessFlags := 25, nameIndex := 355, descriptorIndex := 12, attributes := #[] }, { accessFlags := 25, nameIndex := 357, descriptorIndex := 12, attributes := #[] }, { accessFlags := 18, nameIndex := 11, descriptorIndex := 12, attributes := #[] }, { accessFlags := 18, nameIndex := 15, descriptorIndex := 12, attributes := #[] }, { accessFlags := 18, nameIndex := 18, descriptorIndex := 12, attributes := #[] }, { accessFlags := 18, nameIndex := 21, descriptorIndex := 12, attributes := #[] }, { accessFlags := 18, nameIndex := 24, descriptorIndex := 12, attributes := #[] }, { accessFlags := 18, nameIndex := 27, descriptorIndex := 12, attributes := #[] }, { accessFlags := 18, nameIndex := 30, descriptorIndex := 12, attributes := #[] }, { accessFlags := 18, nameIndex := 33, descriptorIndex := 12, attributes := #[] }, { accessFlags := 18, nameIndex := 36, descriptorIndex := 12, attributes := #[] }, { accessFlags := 18, nameIndex := 39, descriptorIndex := 12, attributes := #[] }, { accessFlags := 18, nameIndex := 42, descriptorIndex := 12, attributes := #[] }, { accessFlags := 18, nameIndex := 45, descriptorIndex := 12, attributes := #[] }, { accessFlags := 18, nameIndex := 48, descriptorIndex := 12, attributes := #[] }, { accessFlags := 18, nameIndex := 51, descriptorIndex := 12, attributes := #[] }, { accessFlags := 18, nameIndex := 54, descriptorIndex := 12, attributes := #[] }, { accessFlags := 18, nameIndex := 57, descriptorIndex := 12, attributes := #[] }, { accessFlags := 18, nameIndex := 60, descriptorIndex := 12, attributes := #[] }, { accessFlags := 18, nameIndex := 63, descriptorIndex := 12, attributes := #[] }, { accessFlags := 18, nameIndex := 66, descriptorIndex := 12, attributes := #[] }, { accessFlags := 18, nameIndex := 69, descriptorIndex := 12, attributes := #[] }, { accessFlags := 18, nameIndex := 72, descriptorIndex := 12, attributes := #[] }, { accessFlags := 18, nameIndex := 75, descriptorIndex := 12, attributes := #[] }, { accessFlags := 18, nameIndex := 78, descriptorIndex := 12, attributes := #[] }, { accessFlags := 18, nameIndex := 81, descriptorIndex := 12, attributes := #[] }, { accessFlags := 18, nameIndex := 84, descriptorIndex := 12, attributes := #[] }, { accessFlags := 18, nameIndex := 87, descriptorIndex := 12, attributes := #[] }, { accessFlags := 18, nameIndex := 90, descriptorIndex := 12, attributes := #[] }, { accessFlags := 18, nameIndex := 93, descriptorIndex := 12, attributes := #[] }, { accessFlags := 2, nameIndex := 148, descriptorIndex := 12, attributes := #[] }, { accessFlags := 2, nameIndex := 151, descriptorIndex := 12, attributes := #[] }, { accessFlags := 2, nameIndex := 154, descriptorIndex := 155, attributes := #[] }, { accessFlags := 2, nameIndex := 158, descriptorIndex := 12, attributes := #[] }, { accessFlags := 18, nameIndex := 96, descriptorIndex := 97, attributes := #[] }, { accessFlags := 18, nameIndex := 100, descriptorIndex := 97, attributes := #[] }, { accessFlags := 18, nameIndex := 103, descriptorIndex := 97, attributes := #[] }, { accessFlags := 18, nameIndex := 106, descriptorIndex := 107, attributes := #[] }, { accessFlags := 18, nameIndex := 110, descriptorIndex := 111, attributes := #[] }, { accessFlags := 18, nameIndex := 114, descriptorIndex := 107, attributes := #[] }, { accessFlags := 2, nameIndex := 161, descriptorIndex := 12, attributes := #[] }, { accessFlags := 18, nameIndex := 117, descriptorIndex := 107, attributes := #[] }, { accessFlags := 2, nameIndex := 164, descriptorIndex := 12, attributes := #[] }, { accessFlags := 18, nameIndex := 120, descriptorIndex := 97, attributes := #[] }, { accessFlags := 18, nameIndex := 123, descriptorIndex := 97, attributes := #[] }, { accessFlags := 2, nameIndex := 167, descriptorIndex := 12, attributes := #[] }, { accessFlags := 18, nameIndex := 126, descriptorIndex := 97, attributes := #[] }, { accessFlags := 18, nameIndex := 129, descriptorIndex := 97, attributes := #[] }, { accessFlags := 18, nameIndex := 132, descriptorIndex := 97, attributes := #[] }, { accessFlags := 2, nameIndex := 170, descriptorIndex := 12, attributes := #[] }, { accessFlags := 18, nameIndex := 135, descriptorIndex := 97, attributes := #[] }, { accessFlags := 18, nameIndex := 138, descriptorIndex := 97, attributes := #[] }, { accessFlags := 18, nameIndex := 141, descriptorIndex := 97, attributes := #[] }, { accessFlags := 2, nameIndex := 226, descriptorIndex := 12, attributes := #[] }, { accessFlags := 2, nameIndex := 207, descriptorIndex := 12, attributes := #[] }, { accessFlags := 2, nameIndex := 229, descriptorIndex := 12, attributes := #[] }, { accessFlags := 2, nameIndex := 275, descriptorIndex := 12, attributes := #[] }, { accessFlags := 2, nameIndex := 173, descriptorIndex := 12, attributes := #[] }, { accessFlags := 2, nameIndex := 176, descriptorIndex := 12, attributes := #[] }])
  fields := #[{ name := "KIND_DIR", type := .int, accessFlags := 25, slot := 0, constantValue := 0 }, { name := "KIND_FILE", type := .int, accessFlags := 25, slot := 1, constantValue := 0 }, { name := "ERR_STATE", type := .int, accessFlags := 25, slot := 2, constantValue := 0 }, { name := "ERR_NODE", type := .int, accessFlags := 25, slot := 3, constantValue := 0 }, { name := "ERR_RANGE", type := .int, accessFlags := 25, slot := 4, constantValue := 0 }, { name := "ERR_NAME", type := .int, accessFlags := 25, slot := 5, constantValue := 0 }, { name := "ERR_EXISTS", type := .int, accessFlags := 25, slot := 6, constantValue := 0 }, { name := "ERR_FULL", type := .int, accessFlags := 25, slot := 7, constantValue := 0 }, { name := "ERR_BAD_PATH", type := .int, accessFlags := 25, slot := 8, constantValue := 0 }, { name := "ERR_NOT_FOUND", type := .int, accessFlags := 25, slot := 9, constantValue := 0 }, { name := "ERR_NOT_DIR", type := .int, accessFlags := 25, slot := 10, constantValue := 0 }, { name := "MAX_NAME", type := .int, accessFlags := 25, slot := 11, constantValue := 0 }, { name := "MAX_PATH", type := .int, accessFlags := 25, slot := 12, constantValue := 0 }, { name := "MAX_DATA", type := .int, accessFlags := 25, slot := 13, constantValue := 0 }, { name := "MAX_RUN", type := .int, accessFlags := 25, slot := 14, constantValue := 0 }, { name := "superSize", type := .int, accessFlags := 18, slot := 0, constantValue := 0 }, { name := "inodeSize", type := .int, accessFlags := 18, slot := 1, constantValue := 0 }, { name := "entrySize", type := .int, accessFlags := 18, slot := 2, constantValue := 0 }, { name := "blockEntrySize", type := .int, accessFlags := 18, slot := 3, constantValue := 0 }, { name := "maxBlock", type := .int, accessFlags := 18, slot := 4, constantValue := 0 }, { name := "maxBlocks", type := .int, accessFlags := 18, slot := 5, constantValue := 0 }, { name := "magicValue", type := .int, accessFlags := 18, slot := 6, constantValue := 0 }, { name := "tokenLiteral", type := .int, accessFlags := 18, slot := 7, constantValue := 0 }, { name := "tokenRun", type := .int, accessFlags := 18, slot := 8, constantValue := 0 }, { name := "tokenRef", type := .int, accessFlags := 18, slot := 9, constantValue := 0 }, { name := "minMatch", type := .int, accessFlags := 18, slot := 10, constantValue := 0 }, { name := "sbInodeTable", type := .int, accessFlags := 18, slot := 11, constantValue := 0 }, { name := "sbBlockTable", type := .int, accessFlags := 18, slot := 12, constantValue := 0 }, { name := "sbDirTable", type := .int, accessFlags := 18, slot := 13, constantValue := 0 }, { name := "sbDataStart", type := .int, accessFlags := 18, slot := 14, constantValue := 0 }, { name := "sbNodeCount", type := .int, accessFlags := 18, slot := 15, constantValue := 0 }, { name := "sbBlockSize", type := .int, accessFlags := 18, slot := 16, constantValue := 0 }, { name := "sbFragFirst", type := .int, accessFlags := 18, slot := 17, constantValue := 0 }, { name := "sbBlockCount", type := .int, accessFlags := 18, slot := 18, constantValue := 0 }, { name := "sbMagic", type := .int, accessFlags := 18, slot := 19, constantValue := 0 }, { name := "inKind", type := .int, accessFlags := 18, slot := 20, constantValue := 0 }, { name := "inParent", type := .int, accessFlags := 18, slot := 21, constantValue := 0 }, { name := "inSize", type := .int, accessFlags := 18, slot := 22, constantValue := 0 }, { name := "inDirOff", type := .int, accessFlags := 18, slot := 23, constantValue := 0 }, { name := "inFirst", type := .int, accessFlags := 18, slot := 24, constantValue := 0 }, { name := "inEntries", type := .int, accessFlags := 18, slot := 25, constantValue := 0 }, { name := "inTail", type := .int, accessFlags := 18, slot := 26, constantValue := 0 }, { name := "inNameLen", type := .int, accessFlags := 18, slot := 27, constantValue := 0 }, { name := "blockSize", type := .int, accessFlags := 2, slot := 28, constantValue := 0 }, { name := "maxNodes", type := .int, accessFlags := 2, slot := 29, constantValue := 0 }, { name := "sealed", type := .boolean, accessFlags := 2, slot := 30, constantValue := 0 }, { name := "nodes", type := .int, accessFlags := 2, slot := 31, constantValue := 0 }, { name := "nodeKind", type := (.array .byte), accessFlags := 18, slot := 32, constantValue := 0 }, { name := "nodeParent", type := (.array .byte), accessFlags := 18, slot := 33, constantValue := 0 }, { name := "nameLen", type := (.array .byte), accessFlags := 18, slot := 34, constantValue := 0 }, { name := "names", type := (.array .char), accessFlags := 18, slot := 35, constantValue := 0 }, { name := "sizes", type := (.array .int), accessFlags := 18, slot := 36, constantValue := 0 }, { name := "nameBuf", type := (.array .char), accessFlags := 18, slot := 37, constantValue := 0 }, { name := "nameBufLen", type := .int, accessFlags := 2, slot := 38, constantValue := 0 }, { name := "pathBuf", type := (.array .char), accessFlags := 18, slot := 39, constantValue := 0 }, { name := "pathLen", type := .int, accessFlags := 2, slot := 40, constantValue := 0 }, { name := "poolData", type := (.array .byte), accessFlags := 18, slot := 41, constantValue := 0 }, { name := "poolOwner", type := (.array .byte), accessFlags := 18, slot := 42, constantValue := 0 }, { name := "totalData", type := .int, accessFlags := 2, slot := 43, constantValue := 0 }, { name := "img", type := (.array .byte), accessFlags := 18, slot := 44, constantValue := 0 }, { name := "fileBuf", type := (.array .byte), accessFlags := 18, slot := 45, constantValue := 0 }, { name := "fragRaw", type := (.array .byte), accessFlags := 18, slot := 46, constantValue := 0 }, { name := "fragLen", type := .int, accessFlags := 2, slot := 47, constantValue := 0 }, { name := "rawBlk", type := (.array .byte), accessFlags := 18, slot := 48, constantValue := 0 }, { name := "blkBuf", type := (.array .byte), accessFlags := 18, slot := 49, constantValue := 0 }, { name := "sortBuf", type := (.array .byte), accessFlags := 18, slot := 50, constantValue := 0 }, { name := "writePos", type := .int, accessFlags := 2, slot := 51, constantValue := 0 }, { name := "nextBlock", type := .int, accessFlags := 2, slot := 52, constantValue := 0 }, { name := "dirPos", type := .int, accessFlags := 2, slot := 53, constantValue := 0 }, { name := "bestMatchLen", type := .int, accessFlags := 2, slot := 54, constantValue := 0 }, { name := "cachedBlock", type := .int, accessFlags := 2, slot := 55, constantValue := 0 }, { name := "cachedLen", type := .int, accessFlags := 2, slot := 56, constantValue := 0 }]
  methods := #[k2m0, k2m1, k2m2, k2m3, k2m4, k2m5, k2m6, k2m7, k2m8, k2m9, k2m10, k2m11, k2m12, k2m13, k2m14, k2m15, k2m16, k2m17, k2m18, k2m19, k2m20, k2m21, k2m22, k2m23, k2m24, k2m25, k2m26, k2m27, k2m28, k2m29, k2m30, k2m31, k2m32, k2m33, k2m34, k2m35, k2m36, k2m37, k2m38, k2m39, k2m40, k2m41, k2m42, k2m43]
  instanceTypes := #[.int, .int, .int, .int, .int, .int, .int, .int, .int, .int, .int, .int, .int, .int, .int, .int, .int, .int, .int, .int, .int, .int, .int, .int, .int, .int, .int, .int, .int, .int, .boolean, .int, (.array .byte), (.array .byte), (.array .byte), (.array .char), (.array .int), (.array .char), .int, (.array .char), .int, (.array .byte), (.array .byte), .int, (.array .byte), (.array .byte), (.array .byte), .int, (.array .byte), (.array .byte), (.array .byte), .int, .int, .int, .int, .int, .int]
  staticTypes := #[.int, .int, .int, .int, .int, .int, .int, .int, .int, .int, .int, .int, .int, .int, .int]
  resolved := Array.replicate 395 none
  statics := none }

def pool3 : Array CpInfo := pool [(1, u "java/lang/Cloneable"), (0, .class_ 1), (0, u "java/lang/Object"), (0, .class_ 3)] 3

/-- java/lang/Cloneable -/
def k3 : Class := { plain "java/lang/Cloneable" (some 0) with
  accessFlags := 1537
  interfaces := #[]
  cf := some (fileOf pool3 2 #[] #[] 1537 4 #[] #[])
  fields := #[]
  methods := #[]
  instanceTypes := #[]
  staticTypes := #[]
  resolved := Array.replicate 8 none
  statics := none }

def pool4 : Array CpInfo := pool [(1, u "java/io/Serializable"), (0, .class_ 1), (0, u "java/lang/Object"), (0, .class_ 3)] 3

/-- java/io/Serializable -/
def k4 : Class := { plain "java/io/Serializable" (some 0) with
  accessFlags := 1537
  interfaces := #[]
  cf := some (fileOf pool4 2 #[] #[] 1537 4 #[] #[])
  fields := #[]
  methods := #[]
  instanceTypes := #[]
  staticTypes := #[]
  resolved := Array.replicate 8 none
  statics := none }

/-- the primitive byte -/
def k5 : Class := { plain "byte" none with kind := .primitive 'B', accessFlags := 0x411 }
/-- [B -/
def k6 : Class := { plain "[B" (some 0) with kind := .array 5 .byte, interfaces := #[3, 4], accessFlags := 1041 }

/-- the primitive char -/
def k7 : Class := { plain "char" none with kind := .primitive 'C', accessFlags := 0x411 }
/-- [C -/
def k8 : Class := { plain "[C" (some 0) with kind := .array 7 .char, interfaces := #[3, 4], accessFlags := 1041 }

/-- the primitive int -/
def k9 : Class := { plain "int" none with kind := .primitive 'I', accessFlags := 0x411 }
/-- [I -/
def k10 : Class := { plain "[I" (some 0) with kind := .array 9 .int, interfaces := #[3, 4], accessFlags := 1041 }

def heap : Heap := #[]
def classes : Array Class := #[k0, k1, k2, k3, k4, k5, k6, k7, k8, k9, k10]
def interned : List (Array UInt16 × Addr) := []
def slotsUsed : Nat := 0
def theMethod : MethodId := ⟨1, 1⟩
def args0 : Array Value := #[.int 3, .int 4, .int 5, .int 6, .int 7]
def aboutOver (below : List Frame) : State where
  vm := { classes := classes, interned := interned.toArray }
  heap := heap
  slotsUsed := slotsUsed
  threads := #[{ frames := .invoking theMethod args0 :: below }]
def below0 : List Frame := [.native { method := ⟨0, 0⟩, args := #[] }]
def about1 : State := aboutOver below0
def p0 : Program := .bare "" "" ""
def e0 : Env := launch0.env 0 0 0
theorem w_frames : about1.frames = Frame.invoking theMethod args0 :: below0 := rfl
set_option maxRecDepth 65536 in
theorem w_args : argsFit about1.vm theMethod args0 = true := by decide +kernel
set_option maxRecDepth 65536 in
theorem w_heap : heapFits about1 = true := by decide +kernel
set_option maxRecDepth 65536 in
theorem w_runnable : about1.curStatus? = some .runnable := by decide +kernel
set_option maxRecDepth 65536 in
theorem w_alone : about1.alone = true := by decide +kernel
set_option maxRecDepth 65536 in
theorem w_named : about1.methodNamed? x = some theMethod := by decide +kernel
set_option maxRecDepth 65536 in
theorem w_hears : about1.hears theMethod below0 = true := by decide +kernel
set_option maxRecDepth 65536 in
theorem w_ripe : about1.ripe theMethod args0 below0 = true := by decide +kernel
theorem w_running : about1.status = .running := rfl
set_option maxRecDepth 65536 in
theorem w_room : about1.hasRoom e0.platform room_1 = true :=
  launch0.hasRoom_least _ room_1 (by decide +kernel) (by decide +kernel) (by decide +kernel) (by decide +kernel) (by decide +kernel) (by decide +kernel)
theorem allAtoms_all (ts : List Jvm.Cond) (a : Array Jvm.Value) (st : Jvm.State) : (allAtoms ts).before a st = ts.all (fun c => c.before a st) := by
  induction ts with
  | nil => rfl
  | cons c t ih =>
    show (Jvm.Cond.and c (allAtoms t)).before a st = _
    rw [Jvm.Cond.before_and, ih, List.all_cons]
def words1 : List Jvm.Cond := Jvm.Cond.code x code maxLocals ret :: tables_1
/-- a 'code' word, met by the world's own term for the bytes: nothing is compared byte by byte -/
theorem code_word {y : MethodName} {bytes : ByteArray} {mx : Nat} {rt : Option FieldType} {a : Array Value} {s : State} {m : MethodId} {meth : Method} {c : Code} (h1 : s.methodNamed? y = some m) (h2 : s.vm.method? m = some meth) (h3 : meth.code = some c) (h4 : c.code = bytes)
    (h5 : (c.maxLocals == mx && c.exceptionTable.isEmpty && decide (c.maxStack ≤ mostOperands) && decide (meth.sig.returnType = rt) && !meth.locks && decide (parseMethodDescriptor y.desc = some meth.sig)) = true) : (Jvm.Cond.code y bytes mx rt).before a s = true := by
  simp only [Bool.and_eq_true, beq_iff_eq, Bool.not_eq_true', decide_eq_true_eq] at h5
  obtain ⟨⟨⟨⟨⟨g1, g2⟩, g3⟩, g4⟩, g5⟩, g6⟩ := h5
  simp [Cond.before, Cond.holds, Cond.value, h1, h2, h3, h4, g1, g2, g3, g4, g5, g6]
def isCode : Jvm.Cond → Bool
  | .code _ _ _ _ => true
  | _ => false
theorem all_split {L : List Jvm.Cond} {P : Jvm.Cond → Bool} (h1 : L.all (fun c => isCode c || P c) = true) (h2 : ∀ c ∈ L.filter isCode, P c = true) : L.all P = true := by
  refine List.all_eq_true.mpr fun c hc => ?_
  have h := List.all_eq_true.mp h1 c hc
  rcases Bool.eq_false_or_eq_true (isCode c) with hi | hi
  · exact h2 c (List.mem_filter.mpr ⟨hc, hi⟩)
  · simpa [hi] using h
set_option maxRecDepth 65536 in
theorem w_c0 : (Jvm.Cond.code x code maxLocals ret).before args0 about1 = true := code_word (m := ⟨1, 1⟩) (meth := k1m1) (c := k1c1) (by decide +kernel) rfl rfl rfl (by decide +kernel)
set_option maxRecDepth 65536 in
theorem w_c1 : (Jvm.Cond.code ({ cls := "SquashImage", name := "<init>", desc := "(II)V" } : Jvm.MethodName) prog_1_method_1_code (3 : Nat) (Option.none : Option Jvm.ClassFile.FieldType)).before args0 about1 = true := code_word (m := ⟨2, 0⟩) (meth := k2m0) (c := k2c0) (by decide +kernel) rfl rfl rfl (by decide +kernel)
set_option maxRecDepth 65536 in
theorem w_c2 : (Jvm.Cond.code ({ cls := "java/lang/Object", name := "<init>", desc := "()V" } : Jvm.MethodName) object_method_1_code (1 : Nat) (Option.none : Option Jvm.ClassFile.FieldType)).before args0 about1 = true := code_word (m := ⟨0, 0⟩) (meth := k0m0) (c := k0c0) (by decide +kernel) rfl rfl rfl (by decide +kernel)
set_option maxRecDepth 65536 in
theorem w_c3 : (Jvm.Cond.code ({ cls := "SquashImage", name := "clamp", desc := "(III)I" } : Jvm.MethodName) prog_1_method_2_code (4 : Nat) (Option.some Jvm.ClassFile.FieldType.int)).before args0 about1 = true := code_word (m := ⟨2, 1⟩) (meth := k2m1) (c := k2c1) (by decide +kernel) rfl rfl rfl (by decide +kernel)
set_option maxRecDepth 65536 in
theorem w_c4 : (Jvm.Cond.code ({ cls := "SquashImage", name := "putNameChar", desc := "(C)Z" } : Jvm.MethodName) prog_1_method_3_code (2 : Nat) (Option.some Jvm.ClassFile.FieldType.boolean)).before args0 about1 = true := code_word (m := ⟨2, 2⟩) (meth := k2m2) (c := k2c2) (by decide +kernel) rfl rfl rfl (by decide +kernel)
set_option maxRecDepth 65536 in
theorem w_c5 : (Jvm.Cond.code ({ cls := "SquashImage", name := "isNameChar", desc := "(I)Z" } : Jvm.MethodName) prog_1_method_4_code (2 : Nat) (Option.some Jvm.ClassFile.FieldType.boolean)).before args0 about1 = true := code_word (m := ⟨2, 3⟩) (meth := k2m3) (c := k2c3) (by decide +kernel) rfl rfl rfl (by decide +kernel)
set_option maxRecDepth 65536 in
theorem w_c6 : (Jvm.Cond.code ({ cls := "SquashImage", name := "create", desc := "(II)I" } : Jvm.MethodName) prog_1_method_5_code (4 : Nat) (Option.some Jvm.ClassFile.FieldType.int)).before args0 about1 = true := code_word (m := ⟨2, 4⟩) (meth := k2m4) (c := k2c4) (by decide +kernel) rfl rfl rfl (by decide +kernel)
set_option maxRecDepth 65536 in
theorem w_c7 : (Jvm.Cond.code ({ cls := "SquashImage", name := "isDir", desc := "(I)Z" } : Jvm.MethodName) prog_1_method_55_code (2 : Nat) (Option.some Jvm.ClassFile.FieldType.boolean)).before args0 about1 = true := code_word (m := ⟨2, 38⟩) (meth := k2m38) (c := k2c38) (by decide +kernel) rfl rfl rfl (by decide +kernel)
set_option maxRecDepth 65536 in
theorem w_c8 : (Jvm.Cond.code ({ cls := "SquashImage", name := "isValid", desc := "(I)Z" } : Jvm.MethodName) prog_1_method_53_code (2 : Nat) (Option.some Jvm.ClassFile.FieldType.boolean)).before args0 about1 = true := code_word (m := ⟨2, 36⟩) (meth := k2m36) (c := k2c36) (by decide +kernel) rfl rfl rfl (by decide +kernel)
set_option maxRecDepth 65536 in
theorem w_c9 : (Jvm.Cond.code ({ cls := "SquashImage", name := "findChildByNameBuf", desc := "(II)I" } : Jvm.MethodName) prog_1_method_6_code (4 : Nat) (Option.some Jvm.ClassFile.FieldType.int)).before args0 about1 = true := code_word (m := ⟨2, 5⟩) (meth := k2m5) (c := k2c5) (by decide +kernel) rfl rfl rfl (by decide +kernel)
set_option maxRecDepth 65536 in
theorem w_c10 : (Jvm.Cond.code ({ cls := "SquashImage", name := "addNode", desc := "(III)I" } : Jvm.MethodName) prog_1_method_8_code (6 : Nat) (Option.some Jvm.ClassFile.FieldType.int)).before args0 about1 = true := code_word (m := ⟨2, 6⟩) (meth := k2m6) (c := k2c6) (by decide +kernel) rfl rfl rfl (by decide +kernel)
set_option maxRecDepth 65536 in
theorem w_c11 : (Jvm.Cond.code ({ cls := "SquashImage", name := "appendRun", desc := "(III)I" } : Jvm.MethodName) prog_1_method_10_code (6 : Nat) (Option.some Jvm.ClassFile.FieldType.int)).before args0 about1 = true := code_word (m := ⟨2, 8⟩) (meth := k2m8) (c := k2c8) (by decide +kernel) rfl rfl rfl (by decide +kernel)
set_option maxRecDepth 65536 in
theorem w_c12 : (Jvm.Cond.code ({ cls := "SquashImage", name := "isFile", desc := "(I)Z" } : Jvm.MethodName) prog_1_method_54_code (2 : Nat) (Option.some Jvm.ClassFile.FieldType.boolean)).before args0 about1 = true := code_word (m := ⟨2, 37⟩) (meth := k2m37) (c := k2c37) (by decide +kernel) rfl rfl rfl (by decide +kernel)
set_option maxRecDepth 65536 in
theorem w_c13 : (Jvm.Cond.code ({ cls := "SquashImage", name := "pushByte", desc := "(II)V" } : Jvm.MethodName) prog_1_method_11_code (3 : Nat) (Option.none : Option Jvm.ClassFile.FieldType)).before args0 about1 = true := code_word (m := ⟨2, 9⟩) (meth := k2m9) (c := k2c9) (by decide +kernel) rfl rfl rfl (by decide +kernel)
set_option maxRecDepth 65536 in
theorem w_c14 : (Jvm.Cond.code ({ cls := "SquashImage", name := "appendByte", desc := "(II)I" } : Jvm.MethodName) prog_1_method_9_code (3 : Nat) (Option.some Jvm.ClassFile.FieldType.int)).before args0 about1 = true := code_word (m := ⟨2, 7⟩) (meth := k2m7) (c := k2c7) (by decide +kernel) rfl rfl rfl (by decide +kernel)
set_option maxRecDepth 65536 in
theorem w_c15 : (Jvm.Cond.code ({ cls := "SquashImage", name := "fileSize", desc := "(I)I" } : Jvm.MethodName) prog_1_method_45_code (3 : Nat) (Option.some Jvm.ClassFile.FieldType.int)).before args0 about1 = true := code_word (m := ⟨2, 34⟩) (meth := k2m34) (c := k2c34) (by decide +kernel) rfl rfl rfl (by decide +kernel)
set_option maxRecDepth 65536 in
theorem w_c16 : (Jvm.Cond.code ({ cls := "SquashImage", name := "build", desc := "()Z" } : Jvm.MethodName) prog_1_method_12_code (2 : Nat) (Option.some Jvm.ClassFile.FieldType.boolean)).before args0 about1 = true := code_word (m := ⟨2, 10⟩) (meth := k2m10) (c := k2c10) (by decide +kernel) rfl rfl rfl (by decide +kernel)
set_option maxRecDepth 65536 in
theorem w_c17 : (Jvm.Cond.code ({ cls := "SquashImage", name := "planLayout", desc := "()V" } : Jvm.MethodName) prog_1_method_13_code (9 : Nat) (Option.none : Option Jvm.ClassFile.FieldType)).before args0 about1 = true := code_word (m := ⟨2, 11⟩) (meth := k2m11) (c := k2c11) (by decide +kernel) rfl rfl rfl (by decide +kernel)
set_option maxRecDepth 65536 in
theorem w_c18 : (Jvm.Cond.code ({ cls := "SquashImage", name := "put16", desc := "(II)V" } : Jvm.MethodName) prog_1_method_61_code (3 : Nat) (Option.none : Option Jvm.ClassFile.FieldType)).before args0 about1 = true := code_word (m := ⟨2, 43⟩) (meth := k2m43) (c := k2c43) (by decide +kernel) rfl rfl rfl (by decide +kernel)
set_option maxRecDepth 65536 in
theorem w_c19 : (Jvm.Cond.code ({ cls := "SquashImage", name := "put8", desc := "(II)V" } : Jvm.MethodName) prog_1_method_60_code (3 : Nat) (Option.none : Option Jvm.ClassFile.FieldType)).before args0 about1 = true := code_word (m := ⟨2, 42⟩) (meth := k2m42) (c := k2c42) (by decide +kernel) rfl rfl rfl (by decide +kernel)
set_option maxRecDepth 65536 in
theorem w_c20 : (Jvm.Cond.code ({ cls := "SquashImage", name := "writeDirNode", desc := "(I)V" } : Jvm.MethodName) prog_1_method_21_code (5 : Nat) (Option.none : Option Jvm.ClassFile.FieldType)).before args0 about1 = true := code_word (m := ⟨2, 19⟩) (meth := k2m19) (c := k2c19) (by decide +kernel) rfl rfl rfl (by decide +kernel)
set_option maxRecDepth 65536 in
theorem w_c21 : (Jvm.Cond.code ({ cls := "SquashImage", name := "collectChildren", desc := "(I)I" } : Jvm.MethodName) prog_1_method_23_code (4 : Nat) (Option.some Jvm.ClassFile.FieldType.int)).before args0 about1 = true := code_word (m := ⟨2, 21⟩) (meth := k2m21) (c := k2c21) (by decide +kernel) rfl rfl rfl (by decide +kernel)
set_option maxRecDepth 65536 in
theorem w_c22 : (Jvm.Cond.code ({ cls := "SquashImage", name := "sortChildren", desc := "(I)V" } : Jvm.MethodName) prog_1_method_24_code (6 : Nat) (Option.none : Option Jvm.ClassFile.FieldType)).before args0 about1 = true := code_word (m := ⟨2, 22⟩) (meth := k2m22) (c := k2c22) (by decide +kernel) rfl rfl rfl (by decide +kernel)
set_option maxRecDepth 65536 in
theorem w_c23 : (Jvm.Cond.code ({ cls := "SquashImage", name := "inodePos", desc := "(I)I" } : Jvm.MethodName) prog_1_method_56_code (3 : Nat) (Option.some Jvm.ClassFile.FieldType.int)).before args0 about1 = true := code_word (m := ⟨2, 39⟩) (meth := k2m39) (c := k2c39) (by decide +kernel) rfl rfl rfl (by decide +kernel)
set_option maxRecDepth 65536 in
theorem w_c24 : (Jvm.Cond.code ({ cls := "SquashImage", name := "u16", desc := "(I)I" } : Jvm.MethodName) prog_1_method_59_code (4 : Nat) (Option.some Jvm.ClassFile.FieldType.int)).before args0 about1 = true := code_word (m := ⟨2, 41⟩) (meth := k2m41) (c := k2c41) (by decide +kernel) rfl rfl rfl (by decide +kernel)
set_option maxRecDepth 65536 in
theorem w_c25 : (Jvm.Cond.code ({ cls := "SquashImage", name := "u8", desc := "(I)I" } : Jvm.MethodName) prog_1_method_58_code (2 : Nat) (Option.some Jvm.ClassFile.FieldType.int)).before args0 about1 = true := code_word (m := ⟨2, 40⟩) (meth := k2m40) (c := k2c40) (by decide +kernel) rfl rfl rfl (by decide +kernel)
set_option maxRecDepth 65536 in
theorem w_c26 : (Jvm.Cond.code ({ cls := "SquashImage", name := "writeEntry", desc := "(I)V" } : Jvm.MethodName) prog_1_method_22_code (4 : Nat) (Option.none : Option Jvm.ClassFile.FieldType)).before args0 about1 = true := code_word (m := ⟨2, 20⟩) (meth := k2m20) (c := k2c20) (by decide +kernel) rfl rfl rfl (by decide +kernel)
set_option maxRecDepth 65536 in
theorem w_c27 : (Jvm.Cond.code ({ cls := "SquashImage", name := "writeFileNode", desc := "(I)V" } : Jvm.MethodName) prog_1_method_14_code (7 : Nat) (Option.none : Option Jvm.ClassFile.FieldType)).before args0 about1 = true := code_word (m := ⟨2, 12⟩) (meth := k2m12) (c := k2c12) (by decide +kernel) rfl rfl rfl (by decide +kernel)
set_option maxRecDepth 65536 in
theorem w_c28 : (Jvm.Cond.code ({ cls := "SquashImage", name := "gatherFile", desc := "(I)I" } : Jvm.MethodName) prog_1_method_15_code (4 : Nat) (Option.some Jvm.ClassFile.FieldType.int)).before args0 about1 = true := code_word (m := ⟨2, 13⟩) (meth := k2m13) (c := k2c13) (by decide +kernel) rfl rfl rfl (by decide +kernel)
set_option maxRecDepth 65536 in
theorem w_c29 : (Jvm.Cond.code ({ cls := "SquashImage", name := "appendTail", desc := "(II)V" } : Jvm.MethodName) prog_1_method_16_code (4 : Nat) (Option.none : Option Jvm.ClassFile.FieldType)).before args0 about1 = true := code_word (m := ⟨2, 14⟩) (meth := k2m14) (c := k2c14) (by decide +kernel) rfl rfl rfl (by decide +kernel)
set_option maxRecDepth 65536 in
theorem w_c30 : (Jvm.Cond.code ({ cls := "SquashImage", name := "writeFragmentBlocks", desc := "()V" } : Jvm.MethodName) prog_1_method_19_code (4 : Nat) (Option.none : Option Jvm.ClassFile.FieldType)).before args0 about1 = true := code_word (m := ⟨2, 17⟩) (meth := k2m17) (c := k2c17) (by decide +kernel) rfl rfl rfl (by decide +kernel)
set_option maxRecDepth 65536 in
theorem w_c31 : (Jvm.Cond.code ({ cls := "SquashImage", name := "loadRawFromFrag", desc := "(II)V" } : Jvm.MethodName) prog_1_method_18_code (5 : Nat) (Option.none : Option Jvm.ClassFile.FieldType)).before args0 about1 = true := code_word (m := ⟨2, 16⟩) (meth := k2m16) (c := k2c16) (by decide +kernel) rfl rfl rfl (by decide +kernel)
set_option maxRecDepth 65536 in
theorem w_c32 : (Jvm.Cond.code ({ cls := "SquashImage", name := "emitBlock", desc := "(I)V" } : Jvm.MethodName) prog_1_method_20_code (5 : Nat) (Option.none : Option Jvm.ClassFile.FieldType)).before args0 about1 = true := code_word (m := ⟨2, 18⟩) (meth := k2m18) (c := k2c18) (by decide +kernel) rfl rfl rfl (by decide +kernel)
set_option maxRecDepth 65536 in
theorem w_c33 : (Jvm.Cond.code ({ cls := "SquashImage", name := "compressBlock", desc := "(I)I" } : Jvm.MethodName) prog_1_method_26_code (10 : Nat) (Option.some Jvm.ClassFile.FieldType.int)).before args0 about1 = true := code_word (m := ⟨2, 23⟩) (meth := k2m23) (c := k2c23) (by decide +kernel) rfl rfl rfl (by decide +kernel)
set_option maxRecDepth 65536 in
theorem w_c34 : (Jvm.Cond.code ({ cls := "SquashImage", name := "runLength", desc := "(II)I" } : Jvm.MethodName) prog_1_method_27_code (6 : Nat) (Option.some Jvm.ClassFile.FieldType.int)).before args0 about1 = true := code_word (m := ⟨2, 24⟩) (meth := k2m24) (c := k2c24) (by decide +kernel) rfl rfl rfl (by decide +kernel)
set_option maxRecDepth 65536 in
theorem w_c35 : (Jvm.Cond.code ({ cls := "SquashImage", name := "bestDistance", desc := "(II)I" } : Jvm.MethodName) prog_1_method_28_code (6 : Nat) (Option.some Jvm.ClassFile.FieldType.int)).before args0 about1 = true := code_word (m := ⟨2, 25⟩) (meth := k2m25) (c := k2c25) (by decide +kernel) rfl rfl rfl (by decide +kernel)
set_option maxRecDepth 65536 in
theorem w_c36 : (Jvm.Cond.code ({ cls := "SquashImage", name := "matchLength", desc := "(III)I" } : Jvm.MethodName) prog_1_method_29_code (8 : Nat) (Option.some Jvm.ClassFile.FieldType.int)).before args0 about1 = true := code_word (m := ⟨2, 26⟩) (meth := k2m26) (c := k2c26) (by decide +kernel) rfl rfl rfl (by decide +kernel)
set_option maxRecDepth 65536 in
theorem w_c37 : (Jvm.Cond.code ({ cls := "SquashImage", name := "flushLiteral", desc := "(II)V" } : Jvm.MethodName) prog_1_method_31_code (6 : Nat) (Option.none : Option Jvm.ClassFile.FieldType)).before args0 about1 = true := code_word (m := ⟨2, 28⟩) (meth := k2m28) (c := k2c28) (by decide +kernel) rfl rfl rfl (by decide +kernel)
set_option maxRecDepth 65536 in
theorem w_c38 : (Jvm.Cond.code ({ cls := "SquashImage", name := "readByte", desc := "(II)I" } : Jvm.MethodName) prog_1_method_44_code (9 : Nat) (Option.some Jvm.ClassFile.FieldType.int)).before args0 about1 = true := code_word (m := ⟨2, 33⟩) (meth := k2m33) (c := k2c33) (by decide +kernel) rfl rfl rfl (by decide +kernel)
set_option maxRecDepth 65536 in
theorem w_c39 : (Jvm.Cond.code ({ cls := "SquashImage", name := "loadBlock", desc := "(I)I" } : Jvm.MethodName) prog_1_method_32_code (8 : Nat) (Option.some Jvm.ClassFile.FieldType.int)).before args0 about1 = true := code_word (m := ⟨2, 29⟩) (meth := k2m29) (c := k2c29) (by decide +kernel) rfl rfl rfl (by decide +kernel)
set_option maxRecDepth 65536 in
theorem w_c40 : (Jvm.Cond.code ({ cls := "SquashImage", name := "decodeBlock", desc := "(III)I" } : Jvm.MethodName) prog_1_method_33_code (13 : Nat) (Option.some Jvm.ClassFile.FieldType.int)).before args0 about1 = true := code_word (m := ⟨2, 30⟩) (meth := k2m30) (c := k2c30) (by decide +kernel) rfl rfl rfl (by decide +kernel)
set_option maxRecDepth 65536 in
theorem w_c41 : (Jvm.Cond.code ({ cls := "SquashImage", name := "copyLiteral", desc := "(IIII)I" } : Jvm.MethodName) prog_1_method_34_code (8 : Nat) (Option.some Jvm.ClassFile.FieldType.int)).before args0 about1 = true := code_word (m := ⟨2, 31⟩) (meth := k2m31) (c := k2c31) (by decide +kernel) rfl rfl rfl (by decide +kernel)
set_option maxRecDepth 65536 in
theorem w_c42 : (Jvm.Cond.code ({ cls := "SquashImage", name := "tailLength", desc := "(I)I" } : Jvm.MethodName) prog_1_method_46_code (4 : Nat) (Option.some Jvm.ClassFile.FieldType.int)).before args0 about1 = true := code_word (m := ⟨2, 35⟩) (meth := k2m35) (c := k2c35) (by decide +kernel) rfl rfl rfl (by decide +kernel)
set_option maxRecDepth 65536 in
theorem w_c43 : (Jvm.Cond.code ({ cls := "SquashImage", name := "loadRawFromFile", desc := "(II)V" } : Jvm.MethodName) prog_1_method_17_code (5 : Nat) (Option.none : Option Jvm.ClassFile.FieldType)).before args0 about1 = true := code_word (m := ⟨2, 15⟩) (meth := k2m15) (c := k2c15) (by decide +kernel) rfl rfl rfl (by decide +kernel)
set_option maxRecDepth 65536 in
theorem w_c44 : (Jvm.Cond.code ({ cls := "SquashImage", name := "emitToken", desc := "(III)V" } : Jvm.MethodName) prog_1_method_30_code (4 : Nat) (Option.none : Option Jvm.ClassFile.FieldType)).before args0 about1 = true := code_word (m := ⟨2, 27⟩) (meth := k2m27) (c := k2c27) (by decide +kernel) rfl rfl rfl (by decide +kernel)
set_option maxRecDepth 65536 in
theorem w_c45 : (Jvm.Cond.code ({ cls := "SquashImage", name := "fillRun", desc := "(IIII)I" } : Jvm.MethodName) prog_1_method_35_code (7 : Nat) (Option.some Jvm.ClassFile.FieldType.int)).before args0 about1 = true := code_word (m := ⟨2, 32⟩) (meth := k2m32) (c := k2c32) (by decide +kernel) rfl rfl rfl (by decide +kernel)
def codes1 : List Jvm.Cond := [Jvm.Cond.code x code maxLocals ret, Jvm.Cond.code ({ cls := "SquashImage", name := "<init>", desc := "(II)V" } : Jvm.MethodName) prog_1_method_1_code (3 : Nat) (Option.none : Option Jvm.ClassFile.FieldType), Jvm.Cond.code ({ cls := "java/lang/Object", name := "<init>", desc := "()V" } : Jvm.MethodName) object_method_1_code (1 : Nat) (Option.none : Option Jvm.ClassFile.FieldType), Jvm.Cond.code ({ cls := "SquashImage", name := "clamp", desc := "(III)I" } : Jvm.MethodName) prog_1_method_2_code (4 : Nat) (Option.some Jvm.ClassFile.FieldType.int), Jvm.Cond.code ({ cls := "SquashImage", name := "putNameChar", desc := "(C)Z" } : Jvm.MethodName) prog_1_method_3_code (2 : Nat) (Option.some Jvm.ClassFile.FieldType.boolean), Jvm.Cond.code ({ cls := "SquashImage", name := "isNameChar", desc := "(I)Z" } : Jvm.MethodName) prog_1_method_4_code (2 : Nat) (Option.some Jvm.ClassFile.FieldType.boolean), Jvm.Cond.code ({ cls := "SquashImage", name := "create", desc := "(II)I" } : Jvm.MethodName) prog_1_method_5_code (4 : Nat) (Option.some Jvm.ClassFile.FieldType.int), Jvm.Cond.code ({ cls := "SquashImage", name := "isDir", desc := "(I)Z" } : Jvm.MethodName) prog_1_method_55_code (2 : Nat) (Option.some Jvm.ClassFile.FieldType.boolean), Jvm.Cond.code ({ cls := "SquashImage", name := "isValid", desc := "(I)Z" } : Jvm.MethodName) prog_1_method_53_code (2 : Nat) (Option.some Jvm.ClassFile.FieldType.boolean), Jvm.Cond.code ({ cls := "SquashImage", name := "findChildByNameBuf", desc := "(II)I" } : Jvm.MethodName) prog_1_method_6_code (4 : Nat) (Option.some Jvm.ClassFile.FieldType.int), Jvm.Cond.code ({ cls := "SquashImage", name := "addNode", desc := "(III)I" } : Jvm.MethodName) prog_1_method_8_code (6 : Nat) (Option.some Jvm.ClassFile.FieldType.int), Jvm.Cond.code ({ cls := "SquashImage", name := "appendRun", desc := "(III)I" } : Jvm.MethodName) prog_1_method_10_code (6 : Nat) (Option.some Jvm.ClassFile.FieldType.int), Jvm.Cond.code ({ cls := "SquashImage", name := "isFile", desc := "(I)Z" } : Jvm.MethodName) prog_1_method_54_code (2 : Nat) (Option.some Jvm.ClassFile.FieldType.boolean), Jvm.Cond.code ({ cls := "SquashImage", name := "pushByte", desc := "(II)V" } : Jvm.MethodName) prog_1_method_11_code (3 : Nat) (Option.none : Option Jvm.ClassFile.FieldType), Jvm.Cond.code ({ cls := "SquashImage", name := "appendByte", desc := "(II)I" } : Jvm.MethodName) prog_1_method_9_code (3 : Nat) (Option.some Jvm.ClassFile.FieldType.int), Jvm.Cond.code ({ cls := "SquashImage", name := "fileSize", desc := "(I)I" } : Jvm.MethodName) prog_1_method_45_code (3 : Nat) (Option.some Jvm.ClassFile.FieldType.int), Jvm.Cond.code ({ cls := "SquashImage", name := "build", desc := "()Z" } : Jvm.MethodName) prog_1_method_12_code (2 : Nat) (Option.some Jvm.ClassFile.FieldType.boolean), Jvm.Cond.code ({ cls := "SquashImage", name := "planLayout", desc := "()V" } : Jvm.MethodName) prog_1_method_13_code (9 : Nat) (Option.none : Option Jvm.ClassFile.FieldType), Jvm.Cond.code ({ cls := "SquashImage", name := "put16", desc := "(II)V" } : Jvm.MethodName) prog_1_method_61_code (3 : Nat) (Option.none : Option Jvm.ClassFile.FieldType), Jvm.Cond.code ({ cls := "SquashImage", name := "put8", desc := "(II)V" } : Jvm.MethodName) prog_1_method_60_code (3 : Nat) (Option.none : Option Jvm.ClassFile.FieldType), Jvm.Cond.code ({ cls := "SquashImage", name := "writeDirNode", desc := "(I)V" } : Jvm.MethodName) prog_1_method_21_code (5 : Nat) (Option.none : Option Jvm.ClassFile.FieldType), Jvm.Cond.code ({ cls := "SquashImage", name := "collectChildren", desc := "(I)I" } : Jvm.MethodName) prog_1_method_23_code (4 : Nat) (Option.some Jvm.ClassFile.FieldType.int), Jvm.Cond.code ({ cls := "SquashImage", name := "sortChildren", desc := "(I)V" } : Jvm.MethodName) prog_1_method_24_code (6 : Nat) (Option.none : Option Jvm.ClassFile.FieldType), Jvm.Cond.code ({ cls := "SquashImage", name := "inodePos", desc := "(I)I" } : Jvm.MethodName) prog_1_method_56_code (3 : Nat) (Option.some Jvm.ClassFile.FieldType.int), Jvm.Cond.code ({ cls := "SquashImage", name := "u16", desc := "(I)I" } : Jvm.MethodName) prog_1_method_59_code (4 : Nat) (Option.some Jvm.ClassFile.FieldType.int), Jvm.Cond.code ({ cls := "SquashImage", name := "u8", desc := "(I)I" } : Jvm.MethodName) prog_1_method_58_code (2 : Nat) (Option.some Jvm.ClassFile.FieldType.int), Jvm.Cond.code ({ cls := "SquashImage", name := "writeEntry", desc := "(I)V" } : Jvm.MethodName) prog_1_method_22_code (4 : Nat) (Option.none : Option Jvm.ClassFile.FieldType), Jvm.Cond.code ({ cls := "SquashImage", name := "writeFileNode", desc := "(I)V" } : Jvm.MethodName) prog_1_method_14_code (7 : Nat) (Option.none : Option Jvm.ClassFile.FieldType), Jvm.Cond.code ({ cls := "SquashImage", name := "gatherFile", desc := "(I)I" } : Jvm.MethodName) prog_1_method_15_code (4 : Nat) (Option.some Jvm.ClassFile.FieldType.int), Jvm.Cond.code ({ cls := "SquashImage", name := "appendTail", desc := "(II)V" } : Jvm.MethodName) prog_1_method_16_code (4 : Nat) (Option.none : Option Jvm.ClassFile.FieldType), Jvm.Cond.code ({ cls := "SquashImage", name := "writeFragmentBlocks", desc := "()V" } : Jvm.MethodName) prog_1_method_19_code (4 : Nat) (Option.none : Option Jvm.ClassFile.FieldType), Jvm.Cond.code ({ cls := "SquashImage", name := "loadRawFromFrag", desc := "(II)V" } : Jvm.MethodName) prog_1_method_18_code (5 : Nat) (Option.none : Option Jvm.ClassFile.FieldType), Jvm.Cond.code ({ cls := "SquashImage", name := "emitBlock", desc := "(I)V" } : Jvm.MethodName) prog_1_method_20_code (5 : Nat) (Option.none : Option Jvm.ClassFile.FieldType), Jvm.Cond.code ({ cls := "SquashImage", name := "compressBlock", desc := "(I)I" } : Jvm.MethodName) prog_1_method_26_code (10 : Nat) (Option.some Jvm.ClassFile.FieldType.int), Jvm.Cond.code ({ cls := "SquashImage", name := "runLength", desc := "(II)I" } : Jvm.MethodName) prog_1_method_27_code (6 : Nat) (Option.some Jvm.ClassFile.FieldType.int), Jvm.Cond.code ({ cls := "SquashImage", name := "bestDistance", desc := "(II)I" } : Jvm.MethodName) prog_1_method_28_code (6 : Nat) (Option.some Jvm.ClassFile.FieldType.int), Jvm.Cond.code ({ cls := "SquashImage", name := "matchLength", desc := "(III)I" } : Jvm.MethodName) prog_1_method_29_code (8 : Nat) (Option.some Jvm.ClassFile.FieldType.int), Jvm.Cond.code ({ cls := "SquashImage", name := "flushLiteral", desc := "(II)V" } : Jvm.MethodName) prog_1_method_31_code (6 : Nat) (Option.none : Option Jvm.ClassFile.FieldType), Jvm.Cond.code ({ cls := "SquashImage", name := "readByte", desc := "(II)I" } : Jvm.MethodName) prog_1_method_44_code (9 : Nat) (Option.some Jvm.ClassFile.FieldType.int), Jvm.Cond.code ({ cls := "SquashImage", name := "loadBlock", desc := "(I)I" } : Jvm.MethodName) prog_1_method_32_code (8 : Nat) (Option.some Jvm.ClassFile.FieldType.int), Jvm.Cond.code ({ cls := "SquashImage", name := "decodeBlock", desc := "(III)I" } : Jvm.MethodName) prog_1_method_33_code (13 : Nat) (Option.some Jvm.ClassFile.FieldType.int), Jvm.Cond.code ({ cls := "SquashImage", name := "copyLiteral", desc := "(IIII)I" } : Jvm.MethodName) prog_1_method_34_code (8 : Nat) (Option.some Jvm.ClassFile.FieldType.int), Jvm.Cond.code ({ cls := "SquashImage", name := "tailLength", desc := "(I)I" } : Jvm.MethodName) prog_1_method_46_code (4 : Nat) (Option.some Jvm.ClassFile.FieldType.int), Jvm.Cond.code ({ cls := "SquashImage", name := "loadRawFromFile", desc := "(II)V" } : Jvm.MethodName) prog_1_method_17_code (5 : Nat) (Option.none : Option Jvm.ClassFile.FieldType), Jvm.Cond.code ({ cls := "SquashImage", name := "emitToken", desc := "(III)V" } : Jvm.MethodName) prog_1_method_30_code (4 : Nat) (Option.none : Option Jvm.ClassFile.FieldType), Jvm.Cond.code ({ cls := "SquashImage", name := "fillRun", desc := "(IIII)I" } : Jvm.MethodName) prog_1_method_35_code (7 : Nat) (Option.some Jvm.ClassFile.FieldType.int)]
set_option maxRecDepth 65536 in
theorem codes_eq : words1.filter isCode = codes1 := rfl
theorem w_codes : ∀ c ∈ words1.filter isCode, c.before args0 about1 = true := by
  rw [codes_eq]
  intro c hc
  simp only [codes1, List.mem_cons, List.not_mem_nil, or_false] at hc
  rcases hc with rfl | rfl | rfl | rfl | rfl | rfl | rfl | rfl | rfl | rfl | rfl | rfl | rfl | rfl | rfl | rfl | rfl | rfl | rfl | rfl | rfl | rfl | rfl | rfl | rfl | rfl | rfl | rfl | rfl | rfl | rfl | rfl | rfl | rfl | rfl | rfl | rfl | rfl | rfl | rfl | rfl | rfl | rfl | rfl | rfl | rfl
  · exact w_c0
  · exact w_c1
  · exact w_c2
  · exact w_c3
  · exact w_c4
  · exact w_c5
  · exact w_c6
  · exact w_c7
  · exact w_c8
  · exact w_c9
  · exact w_c10
  · exact w_c11
  · exact w_c12
  · exact w_c13
  · exact w_c14
  · exact w_c15
  · exact w_c16
  · exact w_c17
  · exact w_c18
  · exact w_c19
  · exact w_c20
  · exact w_c21
  · exact w_c22
  · exact w_c23
  · exact w_c24
  · exact w_c25
  · exact w_c26
  · exact w_c27
  · exact w_c28
  · exact w_c29
  · exact w_c30
  · exact w_c31
  · exact w_c32
  · exact w_c33
  · exact w_c34
  · exact w_c35
  · exact w_c36
  · exact w_c37
  · exact w_c38
  · exact w_c39
  · exact w_c40
  · exact w_c41
  · exact w_c42
  · exact w_c43
  · exact w_c44
  · exact w_c45
set_option maxRecDepth 65536 in
theorem w_t1 : (words1.take 24).all (fun c => isCode c || c.before args0 about1) = true := by decide +kernel
set_option maxRecDepth 65536 in
theorem w_t2 : ((words1.drop 24).take 24).all (fun c => isCode c || c.before args0 about1) = true := by decide +kernel
set_option maxRecDepth 65536 in
theorem w_t3 : (((words1.drop 24).drop 24).take 24).all (fun c => isCode c || c.before args0 about1) = true := by decide +kernel
set_option maxRecDepth 65536 in
theorem w_t4 : ((((words1.drop 24).drop 24).drop 24).take 24).all (fun c => isCode c || c.before args0 about1) = true := by decide +kernel
set_option maxRecDepth 65536 in
theorem w_t5 : (((((words1.drop 24).drop 24).drop 24).drop 24).take 24).all (fun c => isCode c || c.before args0 about1) = true := by decide +kernel
set_option maxRecDepth 65536 in
theorem w_t6 : ((((((words1.drop 24).drop 24).drop 24).drop 24).drop 24).take 24).all (fun c => isCode c || c.before args0 about1) = true := by decide +kernel
set_option maxRecDepth 65536 in
theorem w_t7 : (((((((words1.drop 24).drop 24).drop 24).drop 24).drop 24).drop 24).take 24).all (fun c => isCode c || c.before args0 about1) = true := by decide +kernel
set_option maxRecDepth 65536 in
theorem w_t8 : ((((((((words1.drop 24).drop 24).drop 24).drop 24).drop 24).drop 24).drop 24).take 24).all (fun c => isCode c || c.before args0 about1) = true := by decide +kernel
set_option maxRecDepth 65536 in
theorem w_t9 : (((((((((words1.drop 24).drop 24).drop 24).drop 24).drop 24).drop 24).drop 24).drop 24).take 24).all (fun c => isCode c || c.before args0 about1) = true := by decide +kernel
set_option maxRecDepth 65536 in
theorem w_t10 : ((((((((((words1.drop 24).drop 24).drop 24).drop 24).drop 24).drop 24).drop 24).drop 24).drop 24).take 24).all (fun c => isCode c || c.before args0 about1) = true := by decide +kernel
set_option maxRecDepth 65536 in
theorem w_t11 : (((((((((((words1.drop 24).drop 24).drop 24).drop 24).drop 24).drop 24).drop 24).drop 24).drop 24).drop 24).take 24).all (fun c => isCode c || c.before args0 about1) = true := by decide +kernel
set_option maxRecDepth 65536 in
theorem w_t12 : ((((((((((((words1.drop 24).drop 24).drop 24).drop 24).drop 24).drop 24).drop 24).drop 24).drop 24).drop 24).drop 24).take 24).all (fun c => isCode c || c.before args0 about1) = true := by decide +kernel
set_option maxRecDepth 65536 in
theorem w_t13 : ((((((((((((words1.drop 24).drop 24).drop 24).drop 24).drop 24).drop 24).drop 24).drop 24).drop 24).drop 24).drop 24).drop 24).all (fun c => isCode c || c.before args0 about1) = true := by decide +kernel
theorem w_tables : (allAtoms (Jvm.Cond.code x code maxLocals ret :: tables_1)).before args0 about1 = true := by
  rw [allAtoms_all]
  show words1.all (fun c => c.before args0 about1) = true
  refine all_split ?_ w_codes
  rw [← List.take_append_drop 24 words1, List.all_append, w_t1, ← List.take_append_drop 24 (words1.drop 24), List.all_append, w_t2, ← List.take_append_drop 24 ((words1.drop 24).drop 24), List.all_append, w_t3, ← List.take_append_drop 24 (((words1.drop 24).drop 24).drop 24), List.all_append, w_t4, ← List.take_append_drop 24 ((((words1.drop 24).drop 24).drop 24).drop 24), List.all_append, w_t5, ← List.take_append_drop 24 (((((words1.drop 24).drop 24).drop 24).drop 24).drop 24), List.all_append, w_t6, ← List.take_append_drop 24 ((((((words1.drop 24).drop 24).drop 24).drop 24).drop 24).drop 24), List.all_append, w_t7, ← List.take_append_drop 24 (((((((words1.drop 24).drop 24).drop 24).drop 24).drop 24).drop 24).drop 24), List.all_append, w_t8, ← List.take_append_drop 24 ((((((((words1.drop 24).drop 24).drop 24).drop 24).drop 24).drop 24).drop 24).drop 24), List.all_append, w_t9, ← List.take_append_drop 24 (((((((((words1.drop 24).drop 24).drop 24).drop 24).drop 24).drop 24).drop 24).drop 24).drop 24), List.all_append, w_t10, ← List.take_append_drop 24 ((((((((((words1.drop 24).drop 24).drop 24).drop 24).drop 24).drop 24).drop 24).drop 24).drop 24).drop 24), List.all_append, w_t11, ← List.take_append_drop 24 (((((((((((words1.drop 24).drop 24).drop 24).drop 24).drop 24).drop 24).drop 24).drop 24).drop 24).drop 24).drop 24), List.all_append, w_t12, w_t13]
  rfl
set_option maxRecDepth 65536 in
theorem w_case : (Jvm.Cond.and given_1 narrow_1).before args0 about1 = true := by decide +kernel
theorem w_applies : (headSpec (Jvm.Cond.code x code maxLocals ret :: tables_1) room_1).applies x e0.platform about1 = true :=
  (Spec.applies_iff w_frames).mpr ⟨w_running, w_runnable, w_alone, w_named, w_hears, w_ripe, w_room, w_tables⟩
theorem atStart : AtStart classFile x code maxLocals ret World_1 tables_1 room_1 Calls_1 rest_1 Pre_1 launch0 p0 e0 about1 theMethod args0 below0 :=
  ⟨lists_1, trivial, launch0.admits_env _ _ _, launch0.least_env, fairChoices_fair.cas, fairChoices_fair.clock, w_frames, w_args, w_heap, w_applies, trivial, trivial, w_case⟩
end start1
theorem witness_1 : WitnessClaimed_1 := ⟨start1.p0, start1.e0, start1.about1, start1.theMethod, start1.args0, start1.below0, start1.atStart⟩
end Jvm.Pilot.@@N@@
