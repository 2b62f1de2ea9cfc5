import JvmDerived
import JvmDerived.Pilot.@@N@@Statement
import JvmDerived.Pilot.@@N@@Code
set_option linter.unusedVariables false
set_option linter.unusedSimpArgs false
namespace Jvm.Wp
open Jvm Jvm.ClassFile Sem Op Lib Jvm.Free Jvm.Stand Jvm.LawKit Jvm.RoadKit
def w32 (x : Int) : Int := (x + 2147483648) % 4294967296 - 2147483648
def w64 (x : Int) : Int := (x + 9223372036854775808) % 18446744073709551616 - 9223372036854775808
def InR (x : Int) : Prop := -2147483648 ≤ x ∧ x < 2147483648
def InL (x : Int) : Prop := -9223372036854775808 ≤ x ∧ x < 9223372036854775808
theorem w32_in (x : Int) : InR (w32 x) := by unfold InR w32; omega
theorem w64_in (x : Int) : InL (w64 x) := by unfold InL w64; omega
theorem w32_id {x : Int} (h1 : -2147483648 ≤ x) (h2 : x < 2147483648) : w32 x = x := by unfold w32; omega
theorem w64_id {x : Int} (h1 : -9223372036854775808 ≤ x) (h2 : x < 9223372036854775808) : w64 x = x := by unfold w64; omega
theorem bmod32 (x : Int) : x.bmod 4294967296 = w32 x := by unfold w32; rw [Int.bmod_def]; split <;> omega
theorem bmod64 (x : Int) : x.bmod 18446744073709551616 = w64 x := by unfold w64; rw [Int.bmod_def]; split <;> omega
abbrev o32 (x : Int) : Int32 := Int32.ofInt x
abbrev o64 (x : Int) : Int64 := Int64.ofInt x
theorem t32 (x : Int) : (o32 x).toInt = w32 x := by rw [← bmod32]; exact Int32.toInt_ofInt
theorem t64 (x : Int) : (o64 x).toInt = w64 x := by rw [← bmod64]; exact Int64.toInt_ofInt
theorem t32i {x : Int} (h : InR x) : (o32 x).toInt = x := by rw [t32, w32_id h.1 h.2]
theorem t64i {x : Int} (h : InL x) : (o64 x).toInt = x := by rw [t64, w64_id h.1 h.2]
theorem o32_w (x : Int) : o32 (w32 x) = o32 x := Int32.toInt_inj.mp (by rw [t32, t32, w32_id (w32_in x).1 (w32_in x).2])
theorem o64_w (x : Int) : o64 (w64 x) = o64 x := Int64.toInt_inj.mp (by rw [t64, t64, w64_id (w64_in x).1 (w64_in x).2])
theorem o32_t (x : Int32) : o32 x.toInt = x := Int32.ofInt_toInt x
theorem o64_t (x : Int64) : o64 x.toInt = x := Int64.ofInt_toInt x
theorem r32 (x : Int32) : InR x.toInt := ⟨x.le_toInt, x.toInt_lt⟩
theorem r64 (x : Int64) : InL x.toInt := ⟨x.le_toInt, x.toInt_lt⟩
/-! what the opcodes reckon -/
def aAdd (x y : Int) : Int := w32 (x + y)
def aSub (x y : Int) : Int := w32 (x - y)
def aMul (x y : Int) : Int := w32 (x * y)
def aNeg (x : Int) : Int := w32 (-x)
def aDiv (x y : Int) : Int := w32 (x.tdiv y)
def aRem (x y : Int) : Int := x.tmod y
def aAnd (x y : Int) : Int := (o32 x &&& o32 y).toInt
def aOr (x y : Int) : Int := (o32 x ||| o32 y).toInt
def aXor (x y : Int) : Int := (o32 x ^^^ o32 y).toInt
def aShl (x y : Int) : Int := (o32 x <<< (o32 y &&& 31)).toInt
def aShr (x y : Int) : Int := (o32 x >>> (o32 y &&& 31)).toInt
def aUshr (x y : Int) : Int := ((o32 x).toUInt32 >>> (o32 y &&& 31).toUInt32).toInt32.toInt
def lAdd (x y : Int) : Int := w64 (x + y)
def lSub (x y : Int) : Int := w64 (x - y)
def lMul (x y : Int) : Int := w64 (x * y)
def lDiv (x y : Int) : Int := w64 (x.tdiv y)
def lRem (x y : Int) : Int := x.tmod y
def lAnd (x y : Int) : Int := (o64 x &&& o64 y).toInt
def lOr (x y : Int) : Int := (o64 x ||| o64 y).toInt
def lXor (x y : Int) : Int := (o64 x ^^^ o64 y).toInt
def lShl (x y : Int) : Int := (o64 x <<< ((o32 y).toInt64 &&& 63)).toInt
def lShr (x y : Int) : Int := (o64 x >>> ((o32 y).toInt64 &&& 63)).toInt
def lUshr (x y : Int) : Int := ((o64 x).toUInt64 >>> ((o32 y).toInt64.toUInt64 &&& Int64.toUInt64 63)).toInt64.toInt
def lCmp (x y : Int) : Int := if x < y then -1 else if x = y then 0 else 1
def i2b (x : Int) : Int := (x + 128) % 256 - 128
def i2c (x : Int) : Int := x % 65536
def i2z (x : Int) : Int := x % 2
theorem e_add (x y : Int) : o32 (aAdd x y) = o32 x + o32 y := by unfold aAdd; rw [o32_w]; exact Int32.ofInt_add x y
theorem e_sub (x y : Int) : o32 (aSub x y) = o32 x - o32 y := by unfold aSub; rw [o32_w]; exact Int32.ofInt_sub x y
theorem e_mul (x y : Int) : o32 (aMul x y) = o32 x * o32 y := by unfold aMul; rw [o32_w]; exact Int32.ofInt_mul x y
theorem e_neg (x : Int) : o32 (aNeg x) = - o32 x := by unfold aNeg; rw [o32_w]; exact Int32.ofInt_neg x
theorem e_div {x y : Int} (hx : InR x) (hy : InR y) : o32 (aDiv x y) = o32 x / o32 y := by
  unfold aDiv; rw [o32_w]; apply Int32.toInt_inj.mp; rw [t32, Int32.toInt_div, t32i hx, t32i hy]; exact (bmod32 _).symm
theorem e_rem {x y : Int} (hx : InR x) (hy : InR y) : o32 (aRem x y) = o32 x % o32 y := by
  unfold aRem; apply Int32.toInt_inj.mp; rw [Int32.toInt_mod, t32i hx, t32i hy, t32]
  have q := r32 (o32 x % o32 y); rw [Int32.toInt_mod, t32i hx, t32i hy] at q; exact w32_id q.1 q.2
theorem in_rem {x y : Int} (hx : InR x) (hy : InR y) : InR (aRem x y) := by
  have q := r32 (o32 x % o32 y); rw [Int32.toInt_mod, t32i hx, t32i hy] at q; exact q
theorem e_ladd (x y : Int) : o64 (lAdd x y) = o64 x + o64 y := by unfold lAdd; rw [o64_w]; exact Int64.ofInt_add x y
theorem e_lsub (x y : Int) : o64 (lSub x y) = o64 x - o64 y := by unfold lSub; rw [o64_w]; exact Int64.ofInt_sub x y
theorem e_lmul (x y : Int) : o64 (lMul x y) = o64 x * o64 y := by unfold lMul; rw [o64_w]; exact Int64.ofInt_mul x y
theorem e_ldiv {x y : Int} (hx : InL x) (hy : InL y) : o64 (lDiv x y) = o64 x / o64 y := by
  unfold lDiv; rw [o64_w]; apply Int64.toInt_inj.mp; rw [t64, Int64.toInt_div, t64i hx, t64i hy]; exact (bmod64 _).symm
theorem e_lrem {x y : Int} (hx : InL x) (hy : InL y) : o64 (lRem x y) = o64 x % o64 y := by
  unfold lRem; apply Int64.toInt_inj.mp; rw [Int64.toInt_mod, t64i hx, t64i hy, t64]
  have q := r64 (o64 x % o64 y); rw [Int64.toInt_mod, t64i hx, t64i hy] at q; exact w64_id q.1 q.2
theorem in_lrem {x y : Int} (hx : InL x) (hy : InL y) : InL (lRem x y) := by
  have q := r64 (o64 x % o64 y); rw [Int64.toInt_mod, t64i hx, t64i hy] at q; exact q
theorem e_i2l {x : Int} (hx : InR x) : o64 x = (o32 x).toInt64 := by
  apply Int64.toInt_inj.mp; rw [Int32.toInt_toInt64, t32i hx, t64]; exact w64_id (by have := hx.1; omega) (by have := hx.2; omega)
theorem e_l2i {x : Int} (hx : InL x) : o32 (w32 x) = (o64 x).toInt32 := by
  apply Int32.toInt_inj.mp; rw [Int64.toInt_toInt32, t64i hx, t32, w32_id (w32_in x).1 (w32_in x).2]; exact (bmod32 x).symm
theorem e_i2b {x : Int} (hx : InR x) : o32 (i2b x) = (o32 x).toInt8.toInt32 := by
  apply Int32.toInt_inj.mp; rw [Int8.toInt_toInt32, Int32.toInt_toInt8, t32i hx, t32, w32_id (by unfold i2b; omega) (by unfold i2b; omega)]
  unfold i2b; show _ = x.bmod 256; rw [Int.bmod_def]; split <;> omega
theorem e_lcmp {x y : Int} (hx : InL x) (hy : InL y) : o32 (lCmp x y) = (if o64 y < o64 x then 1 else if o64 x = o64 y then 0 else -1 : Int32) := by
  have h1 : o64 y < o64 x ↔ y < x := by rw [Int64.lt_iff_toInt_lt, t64i hx, t64i hy]
  have h2 : o64 x = o64 y ↔ x = y := by rw [← Int64.toInt_inj, t64i hx, t64i hy]
  unfold lCmp
  by_cases a : x < y
  · rw [if_pos a, if_neg (by rw [h1]; omega), if_neg (by rw [h2]; omega)]; rfl
  · by_cases b : x = y
    · rw [if_neg a, if_pos b, if_neg (by rw [h1]; omega), if_pos (h2.mpr b)]; rfl
    · rw [if_neg a, if_neg b, if_pos (h1.mpr (by omega))]; rfl
theorem in_b (x : Int) : InR (i2b x) := by unfold InR i2b; omega
theorem in_c (x : Int) : InR (i2c x) := by unfold InR i2c; omega
theorem in_z (x : Int) : InR (i2z x) := by unfold InR i2z; omega
theorem in_cmp (x y : Int) : InR (lCmp x y) := by unfold InR lCmp; split <;> (try split) <;> omega
theorem e_i2c {x : Int} (hx : InR x) : o32 (i2c x) = (o32 x).toUInt32.toUInt16.toUInt32.toInt32 := by
  apply Int32.toInt_inj.mp
  have h1 : (o32 x).toUInt32.toUInt16.toUInt32.toInt32.toBitVec.toNat = (o32 x).toBitVec.toNat % 65536 := by
    show ((o32 x).toUInt32.toUInt16.toUInt32).toNat = _
    rw [UInt16.toNat_toUInt32, UInt32.toNat_toUInt16]; rfl
  have h2 := (o32 x).toBitVec.isLt
  have h3 : (o32 x).toBitVec.toInt = x := t32i hx
  rw [BitVec.toInt_eq_toNat_cond] at h3
  rw [t32, w32_id (in_c x).1 (in_c x).2]
  show i2c x = (o32 x).toUInt32.toUInt16.toUInt32.toInt32.toBitVec.toInt
  rw [BitVec.toInt_eq_toNat_cond, h1]; unfold i2c
  have h4 := hx.1
  have h5 := hx.2
  split at h3 <;> split <;> omega
theorem e_i2z {x : Int} (hx : InR x) : o32 (i2z x) = o32 x &&& 1 := by
  apply Int32.toInt_inj.mp
  have h2 := (o32 x).toBitVec.isLt
  have h3 : (o32 x).toBitVec.toInt = x := t32i hx
  have h1 : (o32 x &&& 1).toBitVec.toNat = (o32 x).toBitVec.toNat % 2 := by
    show ((o32 x).toBitVec &&& 1#32).toNat = _
    rw [BitVec.toNat_and]; exact Nat.and_one_is_mod _
  rw [BitVec.toInt_eq_toNat_cond] at h3
  rw [t32, w32_id (in_z x).1 (in_z x).2]
  show i2z x = (o32 x &&& 1).toBitVec.toInt
  rw [BitVec.toInt_eq_toNat_cond, h1]; unfold i2z
  have h4 := hx.1
  have h5 := hx.2
  split at h3 <;> split <;> omega
/-! values and frames -/
abbrev AV : Type := Sum Int (Sum Int Nat)
abbrev I (x : Int) : AV := .inl x
abbrev J (x : Int) : AV := .inr (.inl x)
abbrev Rf (n : Nat) : AV := .inr (.inr n)
def cval (cv : Nat → Addr) : AV → Value
  | .inl x => .int (o32 x)
  | .inr (.inl x) => .long (o64 x)
  | .inr (.inr n) => .ref (cv n)
def good : AV → Prop
  | .inl x => InR x
  | .inr (.inl x) => InL x
  | .inr (.inr _) => True
def SOk (S : List AV) : Prop := ∀ v ∈ S, good v
def WF (Ls : Array Slot) : Prop := (∀ i : Nat, Ls[i]? = some Slot.second → ∃ (j : Nat) (x : Value), i = j + 1 ∧ Ls[j]? = some (Slot.val x) ∧ x.category = 2) ∧ ∀ (i : Nat) (x : Value), Ls[i]? = some (Slot.val x) → x.category = 2 → Ls[i + 1]? = some Slot.second
def LRel (cv : Nat → Addr) (L : List (Option AV)) (Ls : Array Slot) : Prop := Ls.size = L.length ∧ WF Ls ∧ ∀ (i : Nat) (v : AV), L[i]? = some (some v) → Ls[i]? = some (Slot.val (cval cv v)) ∧ good v
/-- a store wipes a long that it cuts in two -/
def clr (L : List (Option AV)) : Nat → List (Option AV)
  | 0 => L
  | j + 1 => match L[j]? with
    | some (some (.inr (.inl _))) => L.set j none
    | _ => L
def st1 (L : List (Option AV)) (i : Nat) (v : AV) : List (Option AV) := (clr L i).set i (some v)
def st2 (L : List (Option AV)) (i : Nat) (v : AV) : List (Option AV) := ((clr L i).set i (some v)).set (i + 1) none
theorem cat_cval {cv : Nat → Addr} (v : AV) : (cval cv v).category = 2 ↔ ∃ x, v = J x := by
  rcases v with x | x | n <;> simp [cval, Value.category]
theorem clr_len (L : List (Option AV)) (i : Nat) : (clr L i).length = L.length := by
  cases i <;> simp [clr]; split <;> simp
theorem clr_get {L : List (Option AV)} {i k : Nat} {v : AV} (h : (clr L i)[k]? = some (some v)) : L[k]? = some (some v) ∧ ((∃ x, v = J x) → k + 1 ≠ i) := by
  cases i with
  | zero => exact ⟨h, fun _ => by omega⟩
  | succ j =>
    simp only [clr] at h
    split at h
    · rename_i x hx
      rw [List.getElem?_set] at h
      split at h
      · split at h <;> simp at h
      · exact ⟨h, fun _ q => by omega⟩
    · rename_i hx
      refine ⟨h, fun ⟨x, hv⟩ q => ?_⟩
      have : k = j := by omega
      subst this; subst hv
      exact hx x h
theorem WF.tab {Ls : Array Slot} (h : WF Ls) {i : Nat} {x : Value} (hx : Ls[i]? = some (.val x)) (hc : x.category = 2) : Ls[i + 1]? = some .second := h.2 i x hx hc
theorem store_one {cv : Nat → Addr} {L : List (Option AV)} {Ls : Array Slot} (h : LRel cv L Ls) {i : Nat} (hi : i < L.length) {v : AV} (hg : good v) (hv : ∀ x, v ≠ J x) :
    ∃ Ls', storeLocals Ls i (cval cv v) = some Ls' ∧ LRel cv (st1 L i v) Ls' := by
  obtain ⟨hs, ⟨w1, w2⟩, hr⟩ := h
  have hi' : i < Ls.size := by omega
  have hcat : ¬ (cval cv v).category = 2 := fun q => by obtain ⟨x, e⟩ := (cat_cval v).mp q; exact hv x e
  have key : ∀ (Lm : Array Slot), Lm.size = Ls.size → (∀ (k : Nat) (x : Value), k ≠ i → Lm[k]? = some (Slot.val x) → Ls[k]? = some (Slot.val x)) → (∀ k : Nat, k ≠ i → Lm[k]? = some Slot.second → Ls[k]? = some Slot.second) →
      (∀ (k : Nat) (x : Value), k ≠ i → Ls[k]? = some (Slot.val x) → (x.category = 2 → k + 1 ≠ i) → Lm[k]? = some (Slot.val x)) → (∀ x : Value, Ls[i]? = some (Slot.val x) → x.category = 2 → Lm[i + 1]? ≠ some Slot.second) → (∀ (j : Nat) (x : Value), i = j + 1 → Ls[j]? = some (Slot.val x) → x.category = 2 → Lm[j]? ≠ some (Slot.val x)) →
      (∀ (k : Nat) (x : Value), k ≠ i → k + 1 ≠ i → Lm[k]? = some (Slot.val x) → x.category = 2 → Lm[k + 1]? = some Slot.second) →
      ∃ Ls', storeSelf Lm i (cval cv v) = some Ls' ∧ LRel cv (st1 L i v) Ls' := by
    intro Lm hsz c1 c2 c3 c4 c5 c6
    have him : i < Lm.size := by omega
    refine ⟨Lm.setIfInBounds i (.val (cval cv v)), by simp [storeSelf, setAt, him, hcat], by simp [st1, clr_len]; omega, ⟨fun k hk => ?_, fun k x hk hx => ?_⟩, fun k u hu => ?_⟩
    · by_cases e : k = i
      · subst e; rw [Array.getElem?_setIfInBounds_self_of_lt him] at hk; simp at hk
      · rw [Array.getElem?_setIfInBounds_ne (Ne.symm e)] at hk
        obtain ⟨j, x, e1, e2, e3⟩ := w1 k (c2 k e hk)
        by_cases ej : j = i
        · subst ej; subst e1; exact absurd hk (c4 x e2 e3)
        · exact ⟨j, x, e1, by rw [Array.getElem?_setIfInBounds_ne (Ne.symm ej)]; exact c3 j x ej e2 (fun _ => by omega), e3⟩
    · by_cases e : k = i
      · subst e; rw [Array.getElem?_setIfInBounds_self_of_lt him] at hk; simp at hk; subst hk; exact absurd hx hcat
      · rw [Array.getElem?_setIfInBounds_ne (Ne.symm e)] at hk
        by_cases e1 : k + 1 = i
        · exact absurd hk (c5 k x e1.symm (c1 k x e hk) hx)
        · rw [Array.getElem?_setIfInBounds_ne (fun q => e1 q.symm)]; exact c6 k x e e1 hk hx
    · simp only [st1, List.getElem?_set] at hu
      split at hu
      · rename_i e
        subst e
        split at hu
        · simp at hu; subst hu; exact ⟨by rw [Array.getElem?_setIfInBounds_self_of_lt him], hg⟩
        · simp at hu
      · rename_i e
        obtain ⟨q1, q2⟩ := clr_get hu
        obtain ⟨q3, q4⟩ := hr k u q1
        refine ⟨?_, q4⟩
        rw [Array.getElem?_setIfInBounds_ne e]
        exact c3 k _ (fun q => e q.symm) q3 (fun hc => q2 ((cat_cval u).mp hc))
  have hget : Ls[i]? = some Ls[i] := Array.getElem?_eq_getElem hi'
  cases hsl : Ls[i] with
  | unset =>
    rw [hsl] at hget
    obtain ⟨Ls', e1, e2⟩ := key Ls rfl (fun _ _ _ q => q) (fun _ _ q => q) (fun _ _ _ q _ => q) (fun x q => by rw [hget] at q; simp at q) (fun j x e q1 q2 q3 => by subst e; have := w2 j x q1 q2; rw [hget] at this; simp at this) (fun k x _ _ q1 q2 => w2 k x q1 q2)
    exact ⟨Ls', by simp [storeLocals, hget, e1], e2⟩
  | second =>
    rw [hsl] at hget
    obtain ⟨j, x, e, q1, q2⟩ := w1 i hget
    subst e
    have hj : j < Ls.size := by omega
    obtain ⟨Ls', e1, e2⟩ := key (Ls.setIfInBounds j .unset) (by simp) (fun k y hk q => by
        by_cases e : k = j
        · subst e; rw [Array.getElem?_setIfInBounds_self_of_lt hj] at q; simp at q
        · rwa [Array.getElem?_setIfInBounds_ne (Ne.symm e)] at q) (fun k hk q => by
        by_cases e : k = j
        · subst e; rw [Array.getElem?_setIfInBounds_self_of_lt hj] at q; simp at q
        · rwa [Array.getElem?_setIfInBounds_ne (Ne.symm e)] at q) (fun k y hk q hc => by
        by_cases e : k = j
        · subst e; rw [q1] at q; cases q; exact absurd rfl (hc q2)
        · rwa [Array.getElem?_setIfInBounds_ne (Ne.symm e)]) (fun y q => by rw [hget] at q; simp at q) (fun j' y e q q' => by
        have : j' = j := by omega
        subst this
        rw [Array.getElem?_setIfInBounds_self_of_lt hj]; simp) (fun k y hk hk1 q hc => by
        have e : k ≠ j := fun e => hk1 (by omega)
        rw [Array.getElem?_setIfInBounds_ne (Ne.symm e)] at q
        have := w2 k y q hc
        by_cases e2 : k + 1 = j
        · rw [e2, q1] at this; simp at this
        · rwa [Array.getElem?_setIfInBounds_ne (fun q => e2 q.symm)])
    exact ⟨Ls', by simp [storeLocals, hget, setAt, hj, e1], e2⟩
  | val old =>
    rw [hsl] at hget
    by_cases ho : old.category = 2
    · have hs2 := w2 i old hget ho
      have hi1 : i + 1 < Ls.size := (Array.getElem?_eq_some_iff.mp hs2).1
      obtain ⟨Ls', e1, e2⟩ := key (Ls.setIfInBounds (i + 1) .unset) (by simp) (fun k y hk q => by
          by_cases e : k = i + 1
          · subst e; rw [Array.getElem?_setIfInBounds_self_of_lt hi1] at q; simp at q
          · rwa [Array.getElem?_setIfInBounds_ne (Ne.symm e)] at q) (fun k hk q => by
          by_cases e : k = i + 1
          · subst e; rw [Array.getElem?_setIfInBounds_self_of_lt hi1] at q; simp at q
          · rwa [Array.getElem?_setIfInBounds_ne (Ne.symm e)] at q) (fun k y hk q hc => by
          by_cases e : k = i + 1
          · subst e; rw [hs2] at q; simp at q
          · rwa [Array.getElem?_setIfInBounds_ne (Ne.symm e)]) (fun y q _ => by rw [Array.getElem?_setIfInBounds_self_of_lt hi1]; simp) (fun j y e q1 q2 => by
          subst e; have := w2 j y q1 q2; rw [hget] at this; simp at this) (fun k y hk hk1 q hc => by
          by_cases e : k = i + 1
          · subst e; rw [Array.getElem?_setIfInBounds_self_of_lt hi1] at q; simp at q
          · rw [Array.getElem?_setIfInBounds_ne (Ne.symm e)] at q
            have := w2 k y q hc
            rwa [Array.getElem?_setIfInBounds_ne (by omega)])
      exact ⟨Ls', by simp [storeLocals, hget, setAt, hi1, ho, e1], e2⟩
    · obtain ⟨Ls', e1, e2⟩ := key Ls rfl (fun _ _ _ q => q) (fun _ _ q => q) (fun _ _ _ q _ => q) (fun x q hc => by rw [hget] at q; cases q; exact absurd hc ho) (fun j x e q1 q2 q3 => by subst e; have := w2 j x q1 q2; rw [hget] at this; simp at this) (fun k x _ _ q1 q2 => w2 k x q1 q2)
      exact ⟨Ls', by simp [storeLocals, hget, ho, e1], e2⟩
theorem store_two {cv : Nat → Addr} {L : List (Option AV)} {Ls : Array Slot} (h : LRel cv L Ls) {i : Nat} (hi : i + 1 < L.length) {x0 : Int} (hg : InL x0) :
    ∃ Ls', storeLocals Ls i (cval cv (J x0)) = some Ls' ∧ LRel cv (st2 L i (J x0)) Ls' := by
  obtain ⟨hs, ⟨w1, w2⟩, hr⟩ := h
  have hi1 : i + 1 < Ls.size := by omega
  have hi' : i < Ls.size := by omega
  have key : ∀ (E : Array Slot), E.size = Ls.size → E[i]? = some (Slot.val (cval cv (J x0))) → E[i + 1]? = some Slot.second → (∀ k : Nat, k ≠ i → k ≠ i + 1 → E[k]? = Ls[k]? ∨ E[k]? = some Slot.unset) →
      (∀ (k : Nat) (x : Value), k ≠ i → k ≠ i + 1 → Ls[k]? = some (Slot.val x) → (x.category = 2 → k + 1 ≠ i) → E[k]? = some (Slot.val x)) → (∀ (k : Nat) (x : Value), k + 1 = i → Ls[k]? = some (Slot.val x) → x.category = 2 → E[k]? = some Slot.unset) →
      (Ls[i + 2]? = some Slot.second → E[i + 2]? = some Slot.unset) → (∀ k : Nat, k ≠ i → k ≠ i + 1 → k ≠ i + 2 → Ls[k]? = some Slot.second → E[k]? = some Slot.second) → LRel cv (st2 L i (J x0)) E := by
    intro E hE a b c d e f g
    refine ⟨by simp [st2, clr_len]; omega, ⟨fun k hk => ?_, fun k x hk hx => ?_⟩, fun k u hu => ?_⟩
    · by_cases e1 : k = i + 1
      · exact ⟨i, _, e1, a, rfl⟩
      · by_cases e2 : k = i
        · subst e2; rw [a] at hk; simp at hk
        · have q : Ls[k]? = some Slot.second := by
            rcases c k e2 e1 with q | q
            · rw [← q]; exact hk
            · rw [q] at hk; simp at hk
          obtain ⟨j, x, q1, q2, q3⟩ := w1 k q
          have e3 : k ≠ i + 2 := fun z => by subst z; rw [f q] at hk; simp at hk
          exact ⟨j, x, q1, d j x (by omega) (by omega) q2 (fun _ => by omega), q3⟩
    · by_cases e1 : k = i
      · subst e1; exact b
      · by_cases e2 : k = i + 1
        · subst e2; rw [b] at hk; simp at hk
        · have q : Ls[k]? = some (Slot.val x) := by
            rcases c k e1 e2 with q | q
            · rw [← q]; exact hk
            · rw [q] at hk; simp at hk
          have e3 : k + 1 ≠ i := fun z => by rw [e k x z q hx] at hk; simp at hk
          exact g (k + 1) e3 (by omega) (by omega) (w2 k x q hx)
    · simp only [st2, List.getElem?_set, List.length_set, clr_len] at hu
      split at hu
      · simp at hu
      · rename_i e1
        split at hu
        · rename_i e2
          subst e2
          split at hu
          · simp at hu; subst hu; exact ⟨a, hg⟩
          · simp at hu
        · rename_i e2
          obtain ⟨q1, q2⟩ := clr_get hu
          obtain ⟨q3, q4⟩ := hr k u q1
          exact ⟨d k _ (fun q => e2 q.symm) (fun q => e1 q.symm) q3 (fun hc => q2 ((cat_cval u).mp hc)), q4⟩
  have self : ∀ (Lm : Array Slot), Lm.size = Ls.size → (∀ k : Nat, k ≠ i → k + 1 ≠ i → k ≠ i + 1 → Lm[k]? = Ls[k]?) → (Lm[i + 1]? = Ls[i + 1]? ∨ (Lm[i + 1]? = some Slot.unset ∧ Ls[i + 1]? = some Slot.second)) →
      (∀ k : Nat, k + 1 = i → (∀ x : Value, Ls[k]? = some (Slot.val x) → x.category = 2 → Lm[k]? = some Slot.unset) ∧ (Lm[k]? = Ls[k]? ∨ (Lm[k]? = some Slot.unset ∧ ∃ x : Value, Ls[k]? = some (Slot.val x) ∧ x.category = 2))) →
      ∃ Ls', storeSelf Lm i (cval cv (J x0)) = some Ls' ∧ LRel cv (st2 L i (J x0)) Ls' := by
    intro Lm hsz c1 c2 c3
    have him : i < Lm.size := by omega
    have him1 : i + 1 < Lm.size := by omega
    have hcat : (cval cv (J x0)).category = 2 := rfl
    have hg1 : (Lm.setIfInBounds i (Slot.val (cval cv (J x0))))[i + 1]? = Lm[i + 1]? := Array.getElem?_setIfInBounds_ne (by omega)
    have fin : ∀ (E : Array Slot), E.size = Ls.size → E[i]? = some (Slot.val (cval cv (J x0))) → E[i + 1]? = some Slot.second → (∀ k : Nat, k ≠ i → k ≠ i + 1 → k ≠ i + 2 → E[k]? = Lm[k]?) → (E[i + 2]? = Lm[i + 2]? ∧ (∀ x : Value, Lm[i + 1]? = some (Slot.val x) → x.category ≠ 2) ∨ E[i + 2]? = some Slot.unset ∧ Lm[i + 2]? = some Slot.second) → LRel cv (st2 L i (J x0)) E := by
      intro E hE a b c4 c5
      refine key E hE a b (fun k h1 h2 => ?_) (fun k x h1 h2 h3 h4 => ?_) (fun k x h1 h2 h3 => ?_) (fun h1 => ?_) (fun k h1 h2 h3 h4 => ?_)
      · by_cases e : k = i + 2
        · subst e
          have q := c1 (i + 2) h1 (by omega) h2
          rcases c5 with ⟨c5, -⟩ | ⟨c5, -⟩
          · exact Or.inl (c5.trans q)
          · exact Or.inr c5
        · rw [c4 k h1 h2 e]
          by_cases e3 : k + 1 = i
          · rcases (c3 k e3).2 with q | q
            · exact Or.inl q
            · exact Or.inr q.1
          · exact Or.inl (c1 k h1 e3 h2)
      · by_cases e : k = i + 2
        · subst e
          have q := c1 (i + 2) h1 (by omega) h2
          rcases c5 with ⟨c5, -⟩ | ⟨-, c5⟩
          · rw [c5, q]; exact h3
          · rw [q, h3] at c5; simp at c5
        · rw [c4 k h1 h2 e]
          by_cases e3 : k + 1 = i
          · rcases (c3 k e3).2 with q | ⟨-, y, q1, q2⟩
            · rw [q]; exact h3
            · rw [h3] at q1; cases q1; exact absurd e3 (h4 q2)
          · rw [c1 k h1 e3 h2]; exact h3
      · rw [c4 k (by omega) (by omega) (by omega)]; exact (c3 k h1).1 x h2 h3
      · rcases c5 with ⟨c5, c6⟩ | ⟨c5, -⟩
        · obtain ⟨j, y, q1, q2, q3⟩ := w1 (i + 2) h1
          have : j = i + 1 := by omega
          subst this
          rcases c2 with c2 | ⟨-, c2⟩
          · exact absurd q3 (c6 y (c2.trans q2))
          · rw [q2] at c2; simp at c2
        · exact c5
      · rw [c4 k h1 h2 h3]
        by_cases e3 : k + 1 = i
        · rcases (c3 k e3).2 with q | ⟨-, y, q1, q2⟩
          · rw [q]; exact h4
          · rw [h4] at q1; simp at q1
        · rw [c1 k h1 e3 h2]; exact h4
    have hget : Lm[i + 1]? = some Lm[i + 1] := Array.getElem?_eq_getElem him1
    have plain : (∀ x : Value, Lm[i + 1]? = some (Slot.val x) → x.category ≠ 2) → LRel cv (st2 L i (J x0)) ((Lm.setIfInBounds i (Slot.val (cval cv (J x0)))).setIfInBounds (i + 1) Slot.second) := fun hno =>
      fin _ (by simp; omega) (by rw [Array.getElem?_setIfInBounds_ne (by omega), Array.getElem?_setIfInBounds_self_of_lt him]) (by rw [Array.getElem?_setIfInBounds_self_of_lt (by simp; omega)]) (fun k h1 h2 h3 => by rw [Array.getElem?_setIfInBounds_ne (by omega), Array.getElem?_setIfInBounds_ne (by omega)]) (Or.inl ⟨by rw [Array.getElem?_setIfInBounds_ne (by omega), Array.getElem?_setIfInBounds_ne (by omega)], hno⟩)
    have e0 : ∀ y, storeSelf Lm i (cval cv (J x0)) = some y ↔ (match Lm[i + 1] with
      | .val old => if old.category = 2 then (setAt (Lm.setIfInBounds i (Slot.val (cval cv (J x0)))) (i + 2) .unset).bind fun z => setAt z (i + 1) .second else setAt (Lm.setIfInBounds i (Slot.val (cval cv (J x0)))) (i + 1) .second
      | _ => setAt (Lm.setIfInBounds i (Slot.val (cval cv (J x0)))) (i + 1) .second) = some y := by
      intro y
      simp only [storeSelf, setAt, him, if_true, Option.bind_eq_bind, Option.bind_some, hcat, hg1, hget]
      cases Lm[i + 1] <;> simp
    cases hsl : Lm[i + 1] with
    | unset =>
      rw [hsl] at hget
      exact ⟨_, (e0 _).mpr (by rw [hsl]; simp [setAt, him1]), plain (fun x q => by rw [hget] at q; simp at q)⟩
    | second =>
      rw [hsl] at hget
      exact ⟨_, (e0 _).mpr (by rw [hsl]; simp [setAt, him1]), plain (fun x q => by rw [hget] at q; simp at q)⟩
    | val old =>
      rw [hsl] at hget
      by_cases ho : old.category = 2
      · have q : Ls[i + 1]? = some (Slot.val old) := by
          rcases c2 with c2 | ⟨c2, -⟩
          · rw [← c2]; exact hget
          · rw [hget] at c2; simp at c2
        have q2 := w2 (i + 1) old q ho
        have hi2 : i + 2 < Ls.size := (Array.getElem?_eq_some_iff.mp q2).1
        have q3 : Lm[i + 2]? = some Slot.second := by rw [c1 (i + 2) (by omega) (by omega) (by omega)]; exact q2
        refine ⟨((Lm.setIfInBounds i (Slot.val (cval cv (J x0)))).setIfInBounds (i + 2) Slot.unset).setIfInBounds (i + 1) Slot.second, (e0 _).mpr (by rw [hsl]; simp [ho, setAt, show i + 2 < Lm.size by omega, him1]), ?_⟩
        exact fin _ (by simp; omega) (by rw [Array.getElem?_setIfInBounds_ne (by omega), Array.getElem?_setIfInBounds_ne (by omega), Array.getElem?_setIfInBounds_self_of_lt him]) (by rw [Array.getElem?_setIfInBounds_self_of_lt (by simp; omega)]) (fun k h1 h2 h3 => by rw [Array.getElem?_setIfInBounds_ne (by omega), Array.getElem?_setIfInBounds_ne (by omega), Array.getElem?_setIfInBounds_ne (by omega)])
          (Or.inr ⟨by rw [Array.getElem?_setIfInBounds_ne (by omega), Array.getElem?_setIfInBounds_self_of_lt (by simp; omega)], q3⟩)
      · exact ⟨_, (e0 _).mpr (by rw [hsl]; simp [ho, setAt, him1]), plain (fun x q => by rw [hget] at q; cases q; exact ho)⟩
  have hget : Ls[i]? = some Ls[i] := Array.getElem?_eq_getElem hi'
  cases hsl : Ls[i] with
  | unset =>
    rw [hsl] at hget
    obtain ⟨Ls', e1, e2⟩ := self Ls rfl (fun _ _ _ _ => rfl) (Or.inl rfl) (fun k hk => ⟨fun x q1 q2 => by subst hk; have := w2 k x q1 q2; rw [hget] at this; simp at this, Or.inl rfl⟩)
    exact ⟨Ls', by simp [storeLocals, hget, e1], e2⟩
  | second =>
    rw [hsl] at hget
    obtain ⟨j, x, e, q1, q2⟩ := w1 i hget
    subst e
    have hj : j < Ls.size := by omega
    obtain ⟨Ls', e1, e2⟩ := self (Ls.setIfInBounds j .unset) (by simp) (fun k h1 h2 h3 => Array.getElem?_setIfInBounds_ne (by omega)) (Or.inl (Array.getElem?_setIfInBounds_ne (by omega))) (fun k hk => by
      have : k = j := by omega
      subst this
      rw [Array.getElem?_setIfInBounds_self_of_lt hj]
      exact ⟨fun _ _ _ => rfl, Or.inr ⟨rfl, x, q1, q2⟩⟩)
    exact ⟨Ls', by simp [storeLocals, hget, setAt, hj, e1], e2⟩
  | val old =>
    rw [hsl] at hget
    have nosec : ∀ k : Nat, k + 1 = i → ∀ x : Value, Ls[k]? = some (Slot.val x) → x.category ≠ 2 := fun k hk x q1 q2 => by subst hk; have := w2 k x q1 q2; rw [hget] at this; simp at this
    by_cases ho : old.category = 2
    · have hs2 := w2 i old hget ho
      obtain ⟨Ls', e1, e2⟩ := self (Ls.setIfInBounds (i + 1) .unset) (by simp) (fun k h1 h2 h3 => Array.getElem?_setIfInBounds_ne (by omega)) (Or.inr ⟨Array.getElem?_setIfInBounds_self_of_lt hi1, hs2⟩) (fun k hk => ⟨fun x q1 q2 => absurd q2 (nosec k hk x q1), Or.inl (Array.getElem?_setIfInBounds_ne (by omega))⟩)
      exact ⟨Ls', by simp [storeLocals, hget, setAt, hi1, ho, e1], e2⟩
    · obtain ⟨Ls', e1, e2⟩ := self Ls rfl (fun _ _ _ _ => rfl) (Or.inl rfl) (fun k hk => ⟨fun x q1 q2 => absurd q2 (nosec k hk x q1), Or.inl rfl⟩)
      exact ⟨Ls', by simp [storeLocals, hget, ho, e1], e2⟩
/-! the frame at the entry -/
def spread : List AV → List (Option AV)
  | [] => []
  | .inr (.inl x) :: r => some (J x) :: none :: spread r
  | v :: r => some v :: spread r
def entry (args : List AV) (mx : Nat) : List (Option AV) := spread args ++ List.replicate (mx - (spread args).length) none
def spreadS : List Value → List Slot
  | [] => []
  | v :: r => if v.category = 2 then .val v :: .second :: spreadS r else .val v :: spreadS r
theorem argsTo_eq (vs : List Value) (mx : Nat) : argsToLocals vs.toArray mx = (spreadS vs ++ List.replicate (mx - (spreadS vs).length) Slot.unset).toArray := by
  have h : ∀ (vs : List Value) (acc : Array Slot), vs.foldl (fun acc v => if v.category = 2 then (acc.push (.val v)).push .second else acc.push (.val v)) acc = acc ++ (spreadS vs).toArray := by
    intro vs
    induction vs with
    | nil => intro acc; simp [spreadS]
    | cons v r ih =>
      intro acc
      rw [List.foldl_cons, ih]
      simp only [spreadS]
      split <;> simp
  unfold argsToLocals
  rw [List.foldl_toArray, h]
  apply Array.ext'
  simp
theorem spread_len (cv : Nat → Addr) (args : List AV) : (spreadS (args.map (cval cv))).length = (spread args).length := by
  induction args with
  | nil => rfl
  | cons v r ih => rcases v with x | x | n <;> simp [spread, spreadS, cval, Value.category, ih]
theorem spread_rel (cv : Nat → Addr) : ∀ (args : List AV), (∀ v ∈ args, good v) → ∀ (tl : List Slot), (∀ s ∈ tl, s = Slot.unset) →
    (∀ i : Nat, (spreadS (args.map (cval cv)) ++ tl)[i]? = some Slot.second → ∃ (j : Nat) (x : Value), i = j + 1 ∧ (spreadS (args.map (cval cv)) ++ tl)[j]? = some (Slot.val x) ∧ x.category = 2) ∧
    (∀ (i : Nat) (x : Value), (spreadS (args.map (cval cv)) ++ tl)[i]? = some (Slot.val x) → x.category = 2 → (spreadS (args.map (cval cv)) ++ tl)[i + 1]? = some Slot.second) ∧
    ∀ (i : Nat) (v : AV) (tn : List (Option AV)), (∀ s ∈ tn, s = none) → (spread args ++ tn)[i]? = some (some v) → (spreadS (args.map (cval cv)) ++ tl)[i]? = some (Slot.val (cval cv v)) ∧ good v
  | [], _, tl, ht => by
    refine ⟨fun i h => ?_, fun i x h => ?_, fun i v tn hn h => ?_⟩
    · have := ht _ (List.mem_of_getElem? h); simp at this
    · have := ht _ (List.mem_of_getElem? h); simp at this
    · have := hn _ (List.mem_of_getElem? h); simp at this
  | v :: r, hg, tl, ht => by
    obtain ⟨h1, h2, h3⟩ := spread_rel cv r (fun v hv => hg v (List.mem_cons_of_mem _ hv)) tl ht
    have hv := hg v (List.mem_cons_self ..)
    rcases v with x | x | n
    · refine ⟨fun i h => ?_, fun i y h hc => ?_, fun i u tn hn h => ?_⟩
      · cases i with
        | zero => simp [spreadS, cval, Value.category] at h
        | succ i => simp [spreadS, cval, Value.category] at h; obtain ⟨j, y, e1, e2, e3⟩ := h1 i (by simpa using h); exact ⟨j + 1, y, by omega, by simpa [spreadS, cval, Value.category] using e2, e3⟩
      · cases i with
        | zero => simp [spreadS, cval, Value.category] at h; subst h; simp [Value.category] at hc
        | succ i => simp [spreadS, cval, Value.category] at h; simpa [spreadS, cval, Value.category] using h2 i y (by simpa using h) hc
      · cases i with
        | zero => simp [spread] at h; subst h; exact ⟨by simp [spreadS, cval, Value.category], hv⟩
        | succ i => simp [spread] at h; obtain ⟨e1, e2⟩ := h3 i u tn hn (by simpa using h); exact ⟨by simpa [spreadS, cval, Value.category] using e1, e2⟩
    · refine ⟨fun i h => ?_, fun i y h hc => ?_, fun i u tn hn h => ?_⟩
      · match i, h with
        | 0, h => simp [spreadS, cval, Value.category] at h
        | 1, h => exact ⟨0, .long (o64 x), rfl, by simp [spreadS, cval, Value.category], rfl⟩
        | i + 2, h => simp [spreadS, cval, Value.category] at h; obtain ⟨j, y, e1, e2, e3⟩ := h1 i (by simpa using h); exact ⟨j + 2, y, by omega, by simpa [spreadS, cval, Value.category] using e2, e3⟩
      · match i, h with
        | 0, h => simp [spreadS, cval, Value.category]
        | 1, h => simp [spreadS, cval, Value.category] at h
        | i + 2, h => simp [spreadS, cval, Value.category] at h; simpa [spreadS, cval, Value.category] using h2 i y (by simpa using h) hc
      · match i, h with
        | 0, h => simp [spread] at h; subst h; exact ⟨by simp [spreadS, cval, Value.category], hv⟩
        | 1, h => simp [spread] at h
        | i + 2, h => simp [spread] at h; obtain ⟨e1, e2⟩ := h3 i u tn hn (by simpa using h); exact ⟨by simpa [spreadS, cval, Value.category] using e1, e2⟩
    · refine ⟨fun i h => ?_, fun i y h hc => ?_, fun i u tn hn h => ?_⟩
      · cases i with
        | zero => simp [spreadS, cval, Value.category] at h
        | succ i => simp [spreadS, cval, Value.category] at h; obtain ⟨j, y, e1, e2, e3⟩ := h1 i (by simpa using h); exact ⟨j + 1, y, by omega, by simpa [spreadS, cval, Value.category] using e2, e3⟩
      · cases i with
        | zero => simp [spreadS, cval, Value.category] at h; subst h; simp [Value.category] at hc
        | succ i => simp [spreadS, cval, Value.category] at h; simpa [spreadS, cval, Value.category] using h2 i y (by simpa using h) hc
      · cases i with
        | zero => simp [spread] at h; subst h; exact ⟨by simp [spreadS, cval, Value.category], hv⟩
        | succ i => simp [spread] at h; obtain ⟨e1, e2⟩ := h3 i u tn hn (by simpa using h); exact ⟨by simpa [spreadS, cval, Value.category] using e1, e2⟩
theorem entry_rel (cv : Nat → Addr) {args : List AV} {mx : Nat} (hg : ∀ v ∈ args, good v) (hm : (spread args).length ≤ mx) : LRel cv (entry args mx) (argsToLocals (args.map (cval cv)).toArray mx) := by
  rw [argsTo_eq]
  obtain ⟨h1, h2, h3⟩ := spread_rel cv args hg (List.replicate (mx - (spreadS (args.map (cval cv))).length) Slot.unset) (fun s hs => (List.mem_replicate.mp hs).2)
  refine ⟨by simp [entry, spread_len], ⟨fun i h => ?_, fun i x h hc => ?_⟩, fun i v h => ?_⟩
  · obtain ⟨j, x, e1, e2, e3⟩ := h1 i (by simpa using h); exact ⟨j, x, e1, by simpa using e2, e3⟩
  · simpa using h2 i x (by simpa using h) hc
  · simpa using h3 i v _ (fun s hs => (List.mem_replicate.mp hs).2) h
/-! the judgement: from here the method returns, as the plain function says -/
abbrev Mi : Type := MethodName × ByteArray × Nat × Option FieldType × Nat × Nat
abbrev Cx (μ : Type) : Type := Launch × State × Nat × (Nat → Addr) × (μ → Heap → Prop)
abbrev Cx.cv {μ : Type} (X : Cx μ) : Nat → Addr := X.2.2.2.1
abbrev Cx.rep {μ : Type} (X : Cx μ) : μ → Heap → Prop := X.2.2.2.2
def rval (rt : Option FieldType) (z : Int) : Option AV := match rt with
  | none => none
  | some .long => some (J z)
  | some _ => some (I z)
def Goes {μ : Type} (X : Cx μ) (M : Mi) (kc ks : Nat) (pc : Nat) (L : List (Option AV)) (S : List AV) (σ : μ) (v : Option AV) (σ' : μ) : Prop :=
  ∀ (p : Program) (e : Env) (R : Room) (s : State) (m : MethodId) (args : Array Value) (below : List Frame) (meth : Method) (c : Code) (T : State) (locs : List Loc) (cells slots : Nat) (Ls : Array Slot),
    Stand p X.1 e R s m args below meth c T locs cells slots → p.tables.exec = Jvm.exec → X.2.1.Warmed39 s.vm → s.vm.findClass M.1.cls = some m.cls → meth.name = M.1.name → c.code = M.2.1 → c.maxLocals = M.2.2.1 → meth.sig.returnType = M.2.2.2.1 →
    M.2.2.2.2.1 ≤ R.frames → M.2.2.2.2.2 ≤ R.locals → cells + kc ≤ R.cells → slots + ks ≤ R.slots → X.rep σ T.heap → LRel X.cv L Ls → SOk S → L.length = M.2.2.1 → Fr X.2.2.1 locs →
    ∃ (T' : State) (locs' : List Loc), Stand p X.1 e R s m args below meth c T' locs' (cells + kc) (slots + ks) ∧ X.rep σ' T'.heap ∧ Fr X.2.2.1 locs' ∧ (M.2.2.2.1 = none → v = none) ∧ (∀ w, v = some w → good w) ∧
      ∀ fs, (∀ (f : JFrame) (acts : List Action), f.method = m → f.locked = none → f.entered = [] → (doReturn e (T'.setTop f) acts (v.map (cval X.cv))).1 = T'.setFrames fs) →
        Steps p.tables e below (T.setTop (mkF m pc Ls (S.map (cval X.cv)))) (T'.setFrames fs)
def GQ {μ : Type} (X : Cx μ) (M : Mi) (kc ks : Nat) (pc : Nat) (L : List (Option AV)) (S : List AV) (σ : μ) (o : Option (Int × μ)) : Prop :=
  ∀ z σ', o = some (z, σ') → Goes X M kc ks pc L S σ (rval M.2.2.2.1 z) σ'
/-! how a plain function goes on behind a step that may fail -/
def cB {μ : Type} (q : Option (Int × μ)) (f : Int → μ → Option (Int × μ)) : Option (Int × μ) := match q with
  | none => none
  | some r => f r.1 r.2
def lB {α β : Type} (x : α) (f : α → β) : β := f x
def dB {α : Type} (y : Int) (q : Option α) : Option α := if y = 0 then none else q
theorem cB_some {μ : Type} (z : Int) (σ : μ) (f : Int → μ → Option (Int × μ)) : cB (some (z, σ)) f = f z σ := rfl
theorem cB_none {μ : Type} (f : Int → μ → Option (Int × μ)) : cB (none : Option (Int × μ)) f = none := rfl
theorem lB_eq {α β : Type} (x : α) (f : α → β) : lB x f = f x := rfl
section Rules
variable {μ : Type} {X : Cx μ} {M : Mi} {kc ks pc pc' : Nat} {L L' : List (Option AV)} {S S' : List AV} {σ : μ} {o oT oF : Option (Int × μ)} {x y : Int}
theorem SOk.cons {v : AV} (h : good v) (hS : SOk S) : SOk (v :: S) := fun w hw => (List.mem_cons.mp hw).elim (fun q => q ▸ h) (hS w)
theorem SOk.tl {v : AV} (hS : SOk (v :: S)) : SOk S := fun w hw => hS w (List.mem_cons_of_mem _ hw)
theorem SOk.hd {v : AV} (hS : SOk (v :: S)) : good v := hS v (List.mem_cons_self ..)
theorem SOk.hd2 {u v : AV} (hS : SOk (u :: v :: S)) : good v := hS.tl.hd
theorem st1_len (L : List (Option AV)) (i : Nat) (v : AV) : (st1 L i v).length = L.length := by simp [st1, clr_len]
theorem st2_len (L : List (Option AV)) (i : Nat) (v : AV) : (st2 L i v).length = L.length := by simp [st2, clr_len]
theorem GQ.no : GQ X M kc ks pc L S σ none := fun _ _ h => nomatch h
theorem GQ.plain (nx : GQ X M kc ks pc' L' S' σ o) (hlen : L'.length = L.length)
    (h : ∀ {tb : Tables} [Ours tb] {e : Env} {below : List Frame} {T : State} {m : MethodId} {c : Code} {Ls : Array Slot}, At T m c below → tb.exec = Jvm.exec → c.code = M.2.1 → LRel X.cv L Ls → SOk S →
      ∃ Ls', LRel X.cv L' Ls' ∧ SOk S' ∧ ∀ target, (Steps tb e below (T.setTop (mkF m pc' Ls' (S'.map (cval X.cv)))) target → Steps tb e below (T.setTop (mkF m pc Ls (S.map (cval X.cv)))) target)) : GQ X M kc ks pc L S σ o := by
  intro z σ' ho p e R s m args below meth c T locs cells slots Ls Y hx hZ hown hnm hby hml hrt hf hl hc hs hrep hL hS hLl hF
  obtain ⟨Ls1, hL1, hS1, st⟩ := h (e := e) Y.here hx hby hL hS
  obtain ⟨T', locs', Y', hrep', hF', hv1, hv2, st'⟩ := nx z σ' ho p e R s m args below meth c T locs cells slots Ls1 Y hx hZ hown hnm hby hml hrt hf hl hc hs hrep hL1 hS1 (by omega) hF
  exact ⟨T', locs', Y', hrep', hF', hv1, hv2, fun fs hfs => st _ (st' fs hfs)⟩
/-- what is known of the variables may be forgotten -/
def Sub (L' L : List (Option AV)) : Prop := L'.length = L.length ∧ ∀ (i : Nat) (v : AV), L'[i]? = some (some v) → L[i]? = some (some v)
theorem Sub.nil : Sub [] [] := ⟨rfl, fun i v h => by simp at h⟩
theorem Sub.keep {a : Option AV} (h : Sub L' L) : Sub (a :: L') (a :: L) := ⟨by simp [h.1], fun i v q => by cases i with | zero => simpa using q | succ i => simpa using h.2 i v (by simpa using q)⟩
theorem Sub.drop {a : Option AV} (h : Sub L' L) : Sub (none :: L') (a :: L) := ⟨by simp [h.1], fun i v q => by cases i with | zero => simp at q | succ i => simpa using h.2 i v (by simpa using q)⟩
theorem GQ.weak (hs : Sub L' L) (nx : GQ X M kc ks pc L' S σ o) : GQ X M kc ks pc L S σ o :=
  GQ.plain nx hs.1 (fun _ _ _ hL hS => ⟨_, ⟨by rw [hL.1, hs.1], hL.2.1, fun i v q => hL.2.2 i v (hs.2 i v q)⟩, hS, fun _ st => st⟩)
theorem GQ.letI {e : Int} {f : Int → Option (Int × μ)} (nx : ∀ z, GQ X M kc ks pc L (I z :: S) σ (f z)) : GQ X M kc ks pc L (I e :: S) σ (lB e f) := nx e
theorem GQ.letJ {e : Int} {f : Int → Option (Int × μ)} (nx : ∀ z, GQ X M kc ks pc L (J z :: S) σ (f z)) : GQ X M kc ks pc L (J e :: S) σ (lB e f) := nx e
theorem GQ.letM {e : μ} {f : μ → Option (Int × μ)} (nx : ∀ z, GQ X M kc ks pc L S z (f z)) : GQ X M kc ks pc L S e (lB e f) := nx e
theorem GQ.iload {k : Nat} (hd : decode M.2.1 pc = .ok (.iload k, 2)) (hl : L[k]? = some (some (I x))) (hp : pc + 2 = pc') (nx : GQ X M kc ks pc' L (I x :: S) σ o) : GQ X M kc ks pc L S σ o := by
  subst hp; exact GQ.plain nx rfl (fun hA hx hc hL hS => ⟨_, hL, hS.cons (hL.2.2 _ _ hl).2, fun _ st => XS.iload hA hx rfl (hb hc hd) (hL.2.2 _ _ hl).1 st⟩)
theorem GQ.iloadN {k : Fin 4} (hd : decode M.2.1 pc = .ok (.iload_n k, 1)) (hl : L[k.val]? = some (some (I x))) (hp : pc + 1 = pc') (nx : GQ X M kc ks pc' L (I x :: S) σ o) : GQ X M kc ks pc L S σ o := by
  subst hp; exact GQ.plain nx rfl (fun hA hx hc hL hS => ⟨_, hL, hS.cons (hL.2.2 _ _ hl).2, fun _ st => XS.iloadN hA hx rfl (hb hc hd) (hL.2.2 _ _ hl).1 st⟩)
theorem GQ.lload {k : Nat} (hd : decode M.2.1 pc = .ok (.lload k, 2)) (hl : L[k]? = some (some (J x))) (hp : pc + 2 = pc') (nx : GQ X M kc ks pc' L (J x :: S) σ o) : GQ X M kc ks pc L S σ o := by
  subst hp; exact GQ.plain nx rfl (fun hA hx hc hL hS => ⟨_, hL, hS.cons (hL.2.2 _ _ hl).2, fun _ st => XT.lload hA hx rfl (hb hc hd) (hL.2.2 _ _ hl).1 st⟩)
theorem GQ.lloadN {k : Fin 4} (hd : decode M.2.1 pc = .ok (.lload_n k, 1)) (hl : L[k.val]? = some (some (J x))) (hp : pc + 1 = pc') (nx : GQ X M kc ks pc' L (J x :: S) σ o) : GQ X M kc ks pc L S σ o := by
  subst hp; exact GQ.plain nx rfl (fun hA hx hc hL hS => ⟨_, hL, hS.cons (hL.2.2 _ _ hl).2, fun _ st => XT.lloadN hA hx rfl (hb hc hd) (hL.2.2 _ _ hl).1 st⟩)
theorem GQ.aload {k r : Nat} (hd : decode M.2.1 pc = .ok (.aload k, 2)) (hl : L[k]? = some (some (Rf r))) (hp : pc + 2 = pc') (nx : GQ X M kc ks pc' L (Rf r :: S) σ o) : GQ X M kc ks pc L S σ o := by
  subst hp; exact GQ.plain nx rfl (fun hA hx hc hL hS => ⟨_, hL, hS.cons (hL.2.2 _ _ hl).2, fun _ st => XS.aload hA hx rfl (hb hc hd) (hL.2.2 _ _ hl).1 rfl st⟩)
theorem GQ.aloadN {k : Fin 4} {r : Nat} (hd : decode M.2.1 pc = .ok (.aload_n k, 1)) (hl : L[k.val]? = some (some (Rf r))) (hp : pc + 1 = pc') (nx : GQ X M kc ks pc' L (Rf r :: S) σ o) : GQ X M kc ks pc L S σ o := by
  subst hp; exact GQ.plain nx rfl (fun hA hx hc hL hS => ⟨_, hL, hS.cons (hL.2.2 _ _ hl).2, fun _ st => XS.aloadN hA hx rfl (hb hc hd) (hL.2.2 _ _ hl).1 rfl st⟩)
theorem GQ.istore {k : Nat} (hd : decode M.2.1 pc = .ok (.istore k, 2)) (hk : Nat.blt k L.length = true) (hl : st1 L k (I x) = L') (hp : pc + 2 = pc') (nx : GQ X M kc ks pc' L' S σ o) : GQ X M kc ks pc L (I x :: S) σ o := by
  subst hp hl; refine GQ.plain nx (st1_len ..) (fun hA hx hc hL hS => ?_)
  obtain ⟨Ls', h1, h2⟩ := store_one hL (Nat.blt_eq.mp hk) hS.hd (by simp)
  exact ⟨Ls', h2, hS.tl, fun _ st => XS.istore hA hx rfl (hb hc hd) rfl h1 st⟩
theorem GQ.istoreN {k : Fin 4} (hd : decode M.2.1 pc = .ok (.istore_n k, 1)) (hk : Nat.blt k.val L.length = true) (hl : st1 L k.val (I x) = L') (hp : pc + 1 = pc') (nx : GQ X M kc ks pc' L' S σ o) : GQ X M kc ks pc L (I x :: S) σ o := by
  subst hp hl; refine GQ.plain nx (st1_len ..) (fun hA hx hc hL hS => ?_)
  obtain ⟨Ls', h1, h2⟩ := store_one hL (Nat.blt_eq.mp hk) hS.hd (by simp)
  exact ⟨Ls', h2, hS.tl, fun _ st => XS.istoreN hA hx rfl (hb hc hd) rfl h1 st⟩
theorem GQ.lstore {k : Nat} (hd : decode M.2.1 pc = .ok (.lstore k, 2)) (hk : Nat.blt (k + 1) L.length = true) (hl : st2 L k (J x) = L') (hp : pc + 2 = pc') (nx : GQ X M kc ks pc' L' S σ o) : GQ X M kc ks pc L (J x :: S) σ o := by
  subst hp hl; refine GQ.plain nx (st2_len ..) (fun hA hx hc hL hS => ?_)
  obtain ⟨Ls', h1, h2⟩ := store_two hL (Nat.blt_eq.mp hk) (x0 := x) hS.hd
  exact ⟨Ls', h2, hS.tl, fun _ st => XT.lstore hA hx rfl (hb hc hd) rfl h1 st⟩
theorem GQ.lstoreN {k : Fin 4} (hd : decode M.2.1 pc = .ok (.lstore_n k, 1)) (hk : Nat.blt (k.val + 1) L.length = true) (hl : st2 L k.val (J x) = L') (hp : pc + 1 = pc') (nx : GQ X M kc ks pc' L' S σ o) : GQ X M kc ks pc L (J x :: S) σ o := by
  subst hp hl; refine GQ.plain nx (st2_len ..) (fun hA hx hc hL hS => ?_)
  obtain ⟨Ls', h1, h2⟩ := store_two hL (Nat.blt_eq.mp hk) (x0 := x) hS.hd
  exact ⟨Ls', h2, hS.tl, fun _ st => XT.lstoreN hA hx rfl (hb hc hd) rfl h1 st⟩
theorem GQ.astore {k r : Nat} (hd : decode M.2.1 pc = .ok (.astore k, 2)) (hk : Nat.blt k L.length = true) (hl : st1 L k (Rf r) = L') (hp : pc + 2 = pc') (nx : GQ X M kc ks pc' L' S σ o) : GQ X M kc ks pc L (Rf r :: S) σ o := by
  subst hp hl; refine GQ.plain nx (st1_len ..) (fun hA hx hc hL hS => ?_)
  obtain ⟨Ls', h1, h2⟩ := store_one hL (Nat.blt_eq.mp hk) hS.hd (by simp)
  exact ⟨Ls', h2, hS.tl, fun _ st => XS.astore hA hx rfl (hb hc hd) rfl rfl h1 st⟩
theorem GQ.astoreN {k : Fin 4} {r : Nat} (hd : decode M.2.1 pc = .ok (.astore_n k, 1)) (hk : Nat.blt k.val L.length = true) (hl : st1 L k.val (Rf r) = L') (hp : pc + 1 = pc') (nx : GQ X M kc ks pc' L' S σ o) : GQ X M kc ks pc L (Rf r :: S) σ o := by
  subst hp hl; refine GQ.plain nx (st1_len ..) (fun hA hx hc hL hS => ?_)
  obtain ⟨Ls', h1, h2⟩ := store_one hL (Nat.blt_eq.mp hk) hS.hd (by simp)
  exact ⟨Ls', h2, hS.tl, fun _ st => XS.astoreN hA hx rfl (hb hc hd) rfl rfl h1 st⟩
theorem GQ.iinc {k : Nat} {cst : Int} (hd : decode M.2.1 pc = .ok (.iinc k cst, 3)) (hk : Nat.blt k L.length = true) (hl : L[k]? = some (some (I x))) (hl' : st1 L k (I (aAdd x cst)) = L') (hp : pc + 3 = pc') (nx : GQ X M kc ks pc' L' S σ o) : GQ X M kc ks pc L S σ o := by
  subst hp hl'; refine GQ.plain nx (st1_len ..) (fun hA hx hc hL hS => ?_)
  obtain ⟨Ls', h1, h2⟩ := store_one hL (Nat.blt_eq.mp hk) (v := I (aAdd x cst)) (w32_in _) (by simp)
  exact ⟨Ls', h2, hS, fun _ st => XS.iinc hA hx rfl (hb hc hd) (hL.2.2 _ _ hl).1 (by rw [← e_add]; exact h1) st⟩
theorem GQ.iconst {i : Int} (hd : decode M.2.1 pc = .ok (.iconst i, 1)) (hi : decide (-2147483648 ≤ i ∧ i < 2147483648) = true) (hp : pc + 1 = pc') (nx : GQ X M kc ks pc' L (I i :: S) σ o) : GQ X M kc ks pc L S σ o := by
  subst hp; exact GQ.plain nx rfl (fun hA hx hc hL hS => ⟨_, hL, hS.cons (show InR i from (of_decide_eq_true hi : -2147483648 ≤ i ∧ i < 2147483648)), fun _ st => XS.iconst hA hx rfl (hb hc hd) st⟩)
theorem GQ.bipush {i : Int} (hd : decode M.2.1 pc = .ok (.bipush i, 2)) (hi : decide (-128 ≤ i ∧ i < 128) = true) (hp : pc + 2 = pc') (nx : GQ X M kc ks pc' L (I i :: S) σ o) : GQ X M kc ks pc L S σ o := by
  have hi := of_decide_eq_true hi
  have he : o32 i = (Int8.ofInt i).toInt32 := by
    apply Int32.toInt_inj.mp; rw [Int8.toInt_toInt32, t32, w32_id (by omega) (by omega), Int8.toInt_ofInt_of_le (by omega) (by omega)]
  subst hp; exact GQ.plain nx rfl (fun hA hx hc hL hS => ⟨_, hL, hS.cons (show InR i from ⟨by omega, by omega⟩), fun _ st => XS.bipush hA hx rfl (hb hc hd) (by rw [← he]; exact st)⟩)
theorem GQ.sipush {i : Int} (hd : decode M.2.1 pc = .ok (.sipush i, 3)) (hi : decide (-32768 ≤ i ∧ i < 32768) = true) (hp : pc + 3 = pc') (nx : GQ X M kc ks pc' L (I i :: S) σ o) : GQ X M kc ks pc L S σ o := by
  have hi := of_decide_eq_true hi
  have he : o32 i = (Int16.ofInt i).toInt32 := by
    apply Int32.toInt_inj.mp; rw [Int16.toInt_toInt32, t32, w32_id (by omega) (by omega), Int16.toInt_ofInt_of_le (by omega) (by omega)]
  subst hp; exact GQ.plain nx rfl (fun hA hx hc hL hS => ⟨_, hL, hS.cons (show InR i from ⟨by omega, by omega⟩), fun _ st => XS.sipush hA hx rfl (hb hc hd) (by rw [← he]; exact st)⟩)
theorem GQ.lconst {k : Fin 2} {i : Int} (hd : decode M.2.1 pc = .ok (.lconst k, 1)) (hi : (k.val : Int) = i) (hp : pc + 1 = pc') (nx : GQ X M kc ks pc' L (J i :: S) σ o) : GQ X M kc ks pc L S σ o := by
  have hk := k.isLt
  subst hp hi; exact GQ.plain nx rfl (fun hA hx hc hL hS => ⟨_, hL, hS.cons (show InL _ from ⟨by omega, by omega⟩), fun _ st => XT.lconst hA hx rfl (hb hc hd) st⟩)
theorem GQ.goto {off : Int} (hd : decode M.2.1 pc = .ok (.goto off, 3)) (ho : decide (0 ≤ (pc : Int) + off) = true) (hp : ((pc : Int) + off).toNat = pc') (nx : GQ X M kc ks pc' L S σ o) : GQ X M kc ks pc L S σ o :=
  GQ.plain nx rfl (fun hA hx hc hL hS => ⟨_, hL, hS, fun _ st => XS.goto hA hx rfl (pc0 := pc) rfl (hb hc hd) (of_decide_eq_true ho) hp st⟩)
theorem GQ.popI (hd : decode M.2.1 pc = .ok (.pop, 1)) (hp : pc + 1 = pc') (nx : GQ X M kc ks pc' L S σ o) : GQ X M kc ks pc L (I x :: S) σ o := by
  subst hp; exact GQ.plain nx rfl (fun hA hx hc hL hS => ⟨_, hL, hS.tl, fun _ st => XT.pop hA hx rfl (hb hc hd) rfl rfl st⟩)
theorem GQ.dupI (hd : decode M.2.1 pc = .ok (.dup, 1)) (hp : pc + 1 = pc') (nx : GQ X M kc ks pc' L (I x :: I x :: S) σ o) : GQ X M kc ks pc L (I x :: S) σ o := by
  subst hp; exact GQ.plain nx rfl (fun hA hx hc hL hS => ⟨_, hL, hS.cons hS.hd, fun _ st => XS.dup hA hx rfl (hb hc hd) rfl rfl st⟩)
theorem GQ.dupR {r : Nat} (hd : decode M.2.1 pc = .ok (.dup, 1)) (hp : pc + 1 = pc') (nx : GQ X M kc ks pc' L (Rf r :: Rf r :: S) σ o) : GQ X M kc ks pc L (Rf r :: S) σ o := by
  subst hp; exact GQ.plain nx rfl (fun hA hx hc hL hS => ⟨_, hL, hS.cons hS.hd, fun _ st => XS.dup hA hx rfl (hb hc hd) rfl rfl st⟩)
theorem GQ.dup2 {r : Nat} (hd : decode M.2.1 pc = .ok (.dup2, 1)) (hp : pc + 1 = pc') (nx : GQ X M kc ks pc' L (I x :: Rf r :: I x :: Rf r :: S) σ o) : GQ X M kc ks pc L (I x :: Rf r :: S) σ o := by
  subst hp; exact GQ.plain nx rfl (fun hA hx hc hL hS => ⟨_, hL, (hS.cons hS.hd2).cons hS.hd, fun _ st => XT.dup2 hA hx rfl (hb hc hd) rfl rfl rfl st⟩)
/-! ints -/
theorem GQ.iadd (hd : decode M.2.1 pc = .ok (.iadd, 1)) (hp : pc + 1 = pc') (nx : GQ X M kc ks pc' L (I (aAdd x y) :: S) σ o) : GQ X M kc ks pc L (I y :: I x :: S) σ o := by
  subst hp; exact GQ.plain nx rfl (fun hA hx hc hL hS => ⟨_, hL, hS.tl.tl.cons (w32_in _), fun _ st => XS.iadd hA hx rfl (hb hc hd) rfl (by rw [← e_add]; exact st)⟩)
theorem GQ.isub (hd : decode M.2.1 pc = .ok (.isub, 1)) (hp : pc + 1 = pc') (nx : GQ X M kc ks pc' L (I (aSub x y) :: S) σ o) : GQ X M kc ks pc L (I y :: I x :: S) σ o := by
  subst hp; exact GQ.plain nx rfl (fun hA hx hc hL hS => ⟨_, hL, hS.tl.tl.cons (w32_in _), fun _ st => XS.isub hA hx rfl (hb hc hd) rfl (by rw [← e_sub]; exact st)⟩)
theorem GQ.imul (hd : decode M.2.1 pc = .ok (.imul, 1)) (hp : pc + 1 = pc') (nx : GQ X M kc ks pc' L (I (aMul x y) :: S) σ o) : GQ X M kc ks pc L (I y :: I x :: S) σ o := by
  subst hp; exact GQ.plain nx rfl (fun hA hx hc hL hS => ⟨_, hL, hS.tl.tl.cons (w32_in _), fun _ st => XS.imul hA hx rfl (hb hc hd) rfl (by rw [← e_mul]; exact st)⟩)
theorem GQ.ineg (hd : decode M.2.1 pc = .ok (.ineg, 1)) (hp : pc + 1 = pc') (nx : GQ X M kc ks pc' L (I (aNeg x) :: S) σ o) : GQ X M kc ks pc L (I x :: S) σ o := by
  subst hp; exact GQ.plain nx rfl (fun hA hx hc hL hS => ⟨_, hL, hS.tl.cons (w32_in _), fun _ st => XS.ineg hA hx rfl (hb hc hd) rfl (by rw [← e_neg]; exact st)⟩)
theorem GQ.iand (hd : decode M.2.1 pc = .ok (.iand, 1)) (hp : pc + 1 = pc') (nx : GQ X M kc ks pc' L (I (aAnd x y) :: S) σ o) : GQ X M kc ks pc L (I y :: I x :: S) σ o := by
  subst hp; exact GQ.plain nx rfl (fun hA hx hc hL hS => ⟨_, hL, hS.tl.tl.cons (r32 _), fun _ st => XS.iand hA hx rfl (hb hc hd) rfl (by rw [← o32_t (o32 x &&& o32 y)]; exact st)⟩)
theorem GQ.ior (hd : decode M.2.1 pc = .ok (.ior, 1)) (hp : pc + 1 = pc') (nx : GQ X M kc ks pc' L (I (aOr x y) :: S) σ o) : GQ X M kc ks pc L (I y :: I x :: S) σ o := by
  subst hp; exact GQ.plain nx rfl (fun hA hx hc hL hS => ⟨_, hL, hS.tl.tl.cons (r32 _), fun _ st => XT.ior hA hx rfl (hb hc hd) rfl (by rw [← o32_t (o32 x ||| o32 y)]; exact st)⟩)
theorem GQ.ixor (hd : decode M.2.1 pc = .ok (.ixor, 1)) (hp : pc + 1 = pc') (nx : GQ X M kc ks pc' L (I (aXor x y) :: S) σ o) : GQ X M kc ks pc L (I y :: I x :: S) σ o := by
  subst hp; exact GQ.plain nx rfl (fun hA hx hc hL hS => ⟨_, hL, hS.tl.tl.cons (r32 _), fun _ st => XT.ixor hA hx rfl (hb hc hd) rfl (by rw [← o32_t (o32 x ^^^ o32 y)]; exact st)⟩)
theorem GQ.ishl (hd : decode M.2.1 pc = .ok (.ishl, 1)) (hp : pc + 1 = pc') (nx : GQ X M kc ks pc' L (I (aShl x y) :: S) σ o) : GQ X M kc ks pc L (I y :: I x :: S) σ o := by
  subst hp; exact GQ.plain nx rfl (fun hA hx hc hL hS => ⟨_, hL, hS.tl.tl.cons (r32 _), fun _ st => XT.ishl hA hx rfl (hb hc hd) rfl (by rw [← o32_t (o32 x <<< (o32 y &&& 31))]; exact st)⟩)
theorem GQ.ishr (hd : decode M.2.1 pc = .ok (.ishr, 1)) (hp : pc + 1 = pc') (nx : GQ X M kc ks pc' L (I (aShr x y) :: S) σ o) : GQ X M kc ks pc L (I y :: I x :: S) σ o := by
  subst hp; exact GQ.plain nx rfl (fun hA hx hc hL hS => ⟨_, hL, hS.tl.tl.cons (r32 _), fun _ st => XT.ishr hA hx rfl (hb hc hd) rfl (by rw [← o32_t (o32 x >>> (o32 y &&& 31))]; exact st)⟩)
theorem GQ.iushr (hd : decode M.2.1 pc = .ok (.iushr, 1)) (hp : pc + 1 = pc') (nx : GQ X M kc ks pc' L (I (aUshr x y) :: S) σ o) : GQ X M kc ks pc L (I y :: I x :: S) σ o := by
  subst hp; exact GQ.plain nx rfl (fun hA hx hc hL hS => ⟨_, hL, hS.tl.tl.cons (r32 _), fun _ st => XT.iushr hA hx rfl (hb hc hd) rfl (by rw [← o32_t (XT.ushr (o32 x) (o32 y))]; exact st)⟩)
theorem ne0 {y : Int} (hy : InR y) (h : ¬ y = 0) : o32 y ≠ 0 := fun q => h (by have := congrArg Int32.toInt q; rw [t32i hy] at this; exact this)
theorem ne0L {y : Int} (hy : InL y) (h : ¬ y = 0) : o64 y ≠ 0 := fun q => h (by have := congrArg Int64.toInt q; rw [t64i hy] at this; exact this)
theorem GQ.guard {P : Prop} [Decidable P] (h : P → GQ X M kc ks pc L S σ o) : GQ X M kc ks pc L S σ (if P then o else none) := by
  by_cases q : P
  · rw [if_pos q]; exact h q
  · rw [if_neg q]; exact GQ.no
theorem GQ.idiv (hd : decode M.2.1 pc = .ok (.idiv, 1)) (hp : pc + 1 = pc') (nx : GQ X M kc ks pc' L (I (aDiv x y) :: S) σ o) : GQ X M kc ks pc L (I y :: I x :: S) σ (dB y o) := by
  unfold dB
  by_cases q : y = 0
  · rw [if_pos q]; exact GQ.no
  · rw [if_neg q]; subst hp; exact GQ.plain nx rfl (fun hA hx hc hL hS => ⟨_, hL, hS.tl.tl.cons (w32_in _), fun _ st => XS.idiv hA hx rfl (hb hc hd) rfl (ne0 hS.hd q) (by rw [← e_div hS.hd2 hS.hd]; exact st)⟩)
theorem GQ.irem (hd : decode M.2.1 pc = .ok (.irem, 1)) (hp : pc + 1 = pc') (nx : GQ X M kc ks pc' L (I (aRem x y) :: S) σ o) : GQ X M kc ks pc L (I y :: I x :: S) σ (dB y o) := by
  unfold dB
  by_cases q : y = 0
  · rw [if_pos q]; exact GQ.no
  · rw [if_neg q]; subst hp; exact GQ.plain nx rfl (fun hA hx hc hL hS => ⟨_, hL, hS.tl.tl.cons (in_rem hS.hd2 hS.hd), fun _ st => XS.irem hA hx rfl (hb hc hd) rfl (ne0 hS.hd q) (by rw [irem_eq_mod, ← e_rem hS.hd2 hS.hd]; exact st)⟩)
theorem GQ.i2l (hd : decode M.2.1 pc = .ok (.i2l, 1)) (hp : pc + 1 = pc') (nx : GQ X M kc ks pc' L (J x :: S) σ o) : GQ X M kc ks pc L (I x :: S) σ o := by
  subst hp; exact GQ.plain nx rfl (fun hA hx hc hL hS => ⟨_, hL, hS.tl.cons (show InL x from ⟨by have : InR x := hS.hd; have := this.1; omega, by have : InR x := hS.hd; have := this.2; omega⟩), fun _ st => XT.i2l hA hx rfl (hb hc hd) rfl (by rw [← e_i2l hS.hd]; exact st)⟩)
theorem GQ.l2i (hd : decode M.2.1 pc = .ok (.l2i, 1)) (hp : pc + 1 = pc') (nx : GQ X M kc ks pc' L (I (w32 x) :: S) σ o) : GQ X M kc ks pc L (J x :: S) σ o := by
  subst hp; exact GQ.plain nx rfl (fun hA hx hc hL hS => ⟨_, hL, hS.tl.cons (w32_in _), fun _ st => XT.l2i hA hx rfl (hb hc hd) rfl (by rw [← e_l2i hS.hd]; exact st)⟩)
theorem GQ.i2b (hd : decode M.2.1 pc = .ok (.i2b, 1)) (hp : pc + 1 = pc') (nx : GQ X M kc ks pc' L (I (Wp.i2b x) :: S) σ o) : GQ X M kc ks pc L (I x :: S) σ o := by
  subst hp; exact GQ.plain nx rfl (fun hA hx hc hL hS => ⟨_, hL, hS.tl.cons (in_b _), fun _ st => XT.i2b hA hx rfl (hb hc hd) rfl (by rw [← e_i2b hS.hd]; exact st)⟩)
theorem GQ.i2c (hd : decode M.2.1 pc = .ok (.i2c, 1)) (hp : pc + 1 = pc') (nx : GQ X M kc ks pc' L (I (Wp.i2c x) :: S) σ o) : GQ X M kc ks pc L (I x :: S) σ o := by
  subst hp; exact GQ.plain nx rfl (fun hA hx hc hL hS => ⟨_, hL, hS.tl.cons (in_c _), fun _ st => XT.i2c hA hx rfl (hb hc hd) rfl (by rw [← e_i2c hS.hd]; exact st)⟩)
/-! longs -/
theorem GQ.ladd (hd : decode M.2.1 pc = .ok (.ladd, 1)) (hp : pc + 1 = pc') (nx : GQ X M kc ks pc' L (J (lAdd x y) :: S) σ o) : GQ X M kc ks pc L (J y :: J x :: S) σ o := by
  subst hp; exact GQ.plain nx rfl (fun hA hx hc hL hS => ⟨_, hL, hS.tl.tl.cons (w64_in _), fun _ st => XT.ladd hA hx rfl (hb hc hd) rfl (by rw [← e_ladd]; exact st)⟩)
theorem GQ.lsub (hd : decode M.2.1 pc = .ok (.lsub, 1)) (hp : pc + 1 = pc') (nx : GQ X M kc ks pc' L (J (lSub x y) :: S) σ o) : GQ X M kc ks pc L (J y :: J x :: S) σ o := by
  subst hp; exact GQ.plain nx rfl (fun hA hx hc hL hS => ⟨_, hL, hS.tl.tl.cons (w64_in _), fun _ st => XT.lsub hA hx rfl (hb hc hd) rfl (by rw [← e_lsub]; exact st)⟩)
theorem GQ.lmul (hd : decode M.2.1 pc = .ok (.lmul, 1)) (hp : pc + 1 = pc') (nx : GQ X M kc ks pc' L (J (lMul x y) :: S) σ o) : GQ X M kc ks pc L (J y :: J x :: S) σ o := by
  subst hp; exact GQ.plain nx rfl (fun hA hx hc hL hS => ⟨_, hL, hS.tl.tl.cons (w64_in _), fun _ st => XT.lmul hA hx rfl (hb hc hd) rfl (by rw [← e_lmul]; exact st)⟩)
theorem GQ.land (hd : decode M.2.1 pc = .ok (.land, 1)) (hp : pc + 1 = pc') (nx : GQ X M kc ks pc' L (J (lAnd x y) :: S) σ o) : GQ X M kc ks pc L (J y :: J x :: S) σ o := by
  subst hp; exact GQ.plain nx rfl (fun hA hx hc hL hS => ⟨_, hL, hS.tl.tl.cons (r64 _), fun _ st => XT.land hA hx rfl (hb hc hd) rfl (by rw [← o64_t (o64 x &&& o64 y)]; exact st)⟩)
theorem GQ.lor (hd : decode M.2.1 pc = .ok (.lor, 1)) (hp : pc + 1 = pc') (nx : GQ X M kc ks pc' L (J (lOr x y) :: S) σ o) : GQ X M kc ks pc L (J y :: J x :: S) σ o := by
  subst hp; exact GQ.plain nx rfl (fun hA hx hc hL hS => ⟨_, hL, hS.tl.tl.cons (r64 _), fun _ st => XT.lor hA hx rfl (hb hc hd) rfl (by rw [← o64_t (o64 x ||| o64 y)]; exact st)⟩)
theorem GQ.lxor (hd : decode M.2.1 pc = .ok (.lxor, 1)) (hp : pc + 1 = pc') (nx : GQ X M kc ks pc' L (J (lXor x y) :: S) σ o) : GQ X M kc ks pc L (J y :: J x :: S) σ o := by
  subst hp; exact GQ.plain nx rfl (fun hA hx hc hL hS => ⟨_, hL, hS.tl.tl.cons (r64 _), fun _ st => XT.lxor hA hx rfl (hb hc hd) rfl (by rw [← o64_t (o64 x ^^^ o64 y)]; exact st)⟩)
theorem GQ.lshl (hd : decode M.2.1 pc = .ok (.lshl, 1)) (hp : pc + 1 = pc') (nx : GQ X M kc ks pc' L (J (lShl x y) :: S) σ o) : GQ X M kc ks pc L (I y :: J x :: S) σ o := by
  subst hp; exact GQ.plain nx rfl (fun hA hx hc hL hS => ⟨_, hL, hS.tl.tl.cons (r64 _), fun _ st => XT.lshl hA hx rfl (hb hc hd) rfl (by rw [← o64_t (o64 x <<< ((o32 y).toInt64 &&& 63))]; exact st)⟩)
theorem GQ.lshr (hd : decode M.2.1 pc = .ok (.lshr, 1)) (hp : pc + 1 = pc') (nx : GQ X M kc ks pc' L (J (lShr x y) :: S) σ o) : GQ X M kc ks pc L (I y :: J x :: S) σ o := by
  subst hp; exact GQ.plain nx rfl (fun hA hx hc hL hS => ⟨_, hL, hS.tl.tl.cons (r64 _), fun _ st => XT.lshr hA hx rfl (hb hc hd) rfl (by rw [← o64_t (o64 x >>> ((o32 y).toInt64 &&& 63))]; exact st)⟩)
theorem GQ.lushr (hd : decode M.2.1 pc = .ok (.lushr, 1)) (hp : pc + 1 = pc') (nx : GQ X M kc ks pc' L (J (lUshr x y) :: S) σ o) : GQ X M kc ks pc L (I y :: J x :: S) σ o := by
  subst hp; exact GQ.plain nx rfl (fun hA hx hc hL hS => ⟨_, hL, hS.tl.tl.cons (r64 _), fun _ st => XT.lushr hA hx rfl (hb hc hd) rfl (by rw [← o64_t (XT.ushrL (o64 x) (o32 y))]; exact st)⟩)
theorem GQ.ldiv (hd : decode M.2.1 pc = .ok (.ldiv, 1)) (hp : pc + 1 = pc') (nx : GQ X M kc ks pc' L (J (lDiv x y) :: S) σ o) : GQ X M kc ks pc L (J y :: J x :: S) σ (dB y o) := by
  unfold dB
  by_cases q : y = 0
  · rw [if_pos q]; exact GQ.no
  · rw [if_neg q]; subst hp; exact GQ.plain nx rfl (fun hA hx hc hL hS => ⟨_, hL, hS.tl.tl.cons (w64_in _), fun _ st => XT.ldiv hA hx rfl (hb hc hd) rfl (ne0L hS.hd q) (by rw [← e_ldiv hS.hd2 hS.hd]; exact st)⟩)
theorem GQ.lcmp (hd : decode M.2.1 pc = .ok (.lcmp, 1)) (hp : pc + 1 = pc') (nx : GQ X M kc ks pc' L (I (lCmp x y) :: S) σ o) : GQ X M kc ks pc L (J y :: J x :: S) σ o := by
  subst hp; exact GQ.plain nx rfl (fun hA hx hc hL hS => ⟨_, hL, hS.tl.tl.cons (in_cmp ..), fun _ st => XT.lcmp hA hx rfl (hb hc hd) rfl (by rw [XT.cmpL, ← e_lcmp hS.hd2 hS.hd]; exact st)⟩)
/-! branches -/
theorem GQ.br {P : Prop} [Decidable P] {pcT pcF : Nat} (nT : GQ X M kc ks pcT L S' σ oT) (nF : GQ X M kc ks pcF L S' σ oF) (hS' : SOk S → SOk S')
    (h : ∀ {tb : Tables} [Ours tb] {e : Env} {below : List Frame} {T : State} {m : MethodId} {c : Code} {Ls : Array Slot} {target : State}, At T m c below → tb.exec = Jvm.exec → c.code = M.2.1 → SOk S →
      (P → Steps tb e below (T.setTop (mkF m pcT Ls (S'.map (cval X.cv)))) target → Steps tb e below (T.setTop (mkF m pc Ls (S.map (cval X.cv)))) target) ∧
      (¬ P → Steps tb e below (T.setTop (mkF m pcF Ls (S'.map (cval X.cv)))) target → Steps tb e below (T.setTop (mkF m pc Ls (S.map (cval X.cv)))) target)) : GQ X M kc ks pc L S σ (if P then oT else oF) := by
  by_cases q : P
  · rw [if_pos q]; exact GQ.plain nT rfl (fun hA hx hc hL hS => ⟨_, hL, hS' hS, fun t st => (h hA hx hc hS).1 q st⟩)
  · rw [if_neg q]; exact GQ.plain nF rfl (fun hA hx hc hL hS => ⟨_, hL, hS' hS, fun t st => (h hA hx hc hS).2 q st⟩)
theorem o_lt {x y : Int} (hx : InR x) (hy : InR y) : o32 x < o32 y ↔ x < y := by rw [Int32.lt_iff_toInt_lt, t32i hx, t32i hy]
theorem o_le {x y : Int} (hx : InR x) (hy : InR y) : o32 x ≤ o32 y ↔ ¬ y < x := by rw [Int32.le_iff_toInt_le, t32i hx, t32i hy]; omega
theorem o_eq {x y : Int} (hx : InR x) (hy : InR y) : o32 x = o32 y ↔ x = y := by rw [← Int32.toInt_inj, t32i hx, t32i hy]
theorem GQ.icmpT {P : Prop} [Decidable P] {cd : ClassFile.Cond} {off : Int} {pcT pcF : Nat} (hP : InR x → InR y → (if_icmp.holds cd (o32 x) (o32 y) = true ↔ P)) (hd : decode M.2.1 pc = .ok (.if_icmp cd off, 3)) (ho : decide (0 ≤ (pc : Int) + off) = true) (hpT : ((pc : Int) + off).toNat = pcT) (hpF : pc + 3 = pcF)
    (nT : GQ X M kc ks pcT L S σ oT) (nF : GQ X M kc ks pcF L S σ oF) : GQ X M kc ks pc L (I y :: I x :: S) σ (if P then oT else oF) := by
  subst hpF
  refine GQ.br nT nF (fun h => h.tl.tl) (fun hA hx hc hS => ⟨fun q st => XS.icmpYes hA hx rfl (pc0 := pc) rfl (hb hc hd) rfl ((hP hS.hd2 hS.hd).mpr q) (of_decide_eq_true ho) hpT st, fun q st => XS.icmpNo hA hx rfl (hb hc hd) rfl ?_ st⟩)
  cases hh : if_icmp.holds cd (o32 x) (o32 y) with
  | false => rfl
  | true => exact absurd ((hP hS.hd2 hS.hd).mp hh) q
theorem GQ.icmpF {P : Prop} [Decidable P] {cd : ClassFile.Cond} {off : Int} {pcT pcF : Nat} (hP : InR x → InR y → (if_icmp.holds cd (o32 x) (o32 y) = true ↔ ¬ P)) (hd : decode M.2.1 pc = .ok (.if_icmp cd off, 3)) (ho : decide (0 ≤ (pc : Int) + off) = true) (hpT : ((pc : Int) + off).toNat = pcT) (hpF : pc + 3 = pcF)
    (nT : GQ X M kc ks pcT L S σ oT) (nF : GQ X M kc ks pcF L S σ oF) : GQ X M kc ks pc L (I y :: I x :: S) σ (if P then oF else oT) := by
  subst hpF
  refine GQ.br nF nT (fun h => h.tl.tl) (fun hA hx hc hS => ⟨fun q st => XS.icmpNo hA hx rfl (hb hc hd) rfl ?_ st, fun q st => XS.icmpYes hA hx rfl (pc0 := pc) rfl (hb hc hd) rfl ((hP hS.hd2 hS.hd).mpr q) (of_decide_eq_true ho) hpT st⟩)
  cases hh : if_icmp.holds cd (o32 x) (o32 y) with
  | false => rfl
  | true => exact absurd q ((hP hS.hd2 hS.hd).mp hh)
theorem h_eq (hx : InR x) (hy : InR y) : if_icmp.holds .eq (o32 x) (o32 y) = true ↔ x = y := by rw [← o_eq hx hy]; simp [if_icmp.holds]
theorem h_ne (hx : InR x) (hy : InR y) : if_icmp.holds .ne (o32 x) (o32 y) = true ↔ ¬ x = y := by rw [← o_eq hx hy]; simp [if_icmp.holds]
theorem h_lt (hx : InR x) (hy : InR y) : if_icmp.holds .lt (o32 x) (o32 y) = true ↔ x < y := by rw [← o_lt hx hy]; simp [if_icmp.holds]
theorem h_ge (hx : InR x) (hy : InR y) : if_icmp.holds .ge (o32 x) (o32 y) = true ↔ ¬ x < y := by rw [← o_le hy hx]; simp [if_icmp.holds]
theorem h_gt (hx : InR x) (hy : InR y) : if_icmp.holds .gt (o32 x) (o32 y) = true ↔ y < x := by rw [← o_lt hy hx]; simp [if_icmp.holds]
theorem h_le (hx : InR x) (hy : InR y) : if_icmp.holds .le (o32 x) (o32 y) = true ↔ ¬ y < x := by rw [← o_le hx hy]; simp [if_icmp.holds]
theorem h_if0 (cd : ClassFile.Cond) (x : Int) : ifCond.holds cd (o32 x) = if_icmp.holds cd (o32 x) (o32 0) := by cases cd <;> rfl
theorem GQ.ifT {P : Prop} [Decidable P] {cd : ClassFile.Cond} {off : Int} {pcT pcF : Nat} (hP : InR x → InR 0 → (if_icmp.holds cd (o32 x) (o32 0) = true ↔ P)) (hd : decode M.2.1 pc = .ok (.ifCond cd off, 3)) (ho : decide (0 ≤ (pc : Int) + off) = true) (hpT : ((pc : Int) + off).toNat = pcT) (hpF : pc + 3 = pcF)
    (nT : GQ X M kc ks pcT L S σ oT) (nF : GQ X M kc ks pcF L S σ oF) : GQ X M kc ks pc L (I x :: S) σ (if P then oT else oF) := by
  subst hpF
  have z0 : InR 0 := ⟨by omega, by omega⟩
  refine GQ.br nT nF (fun h => h.tl) (fun hA hx hc hS => ⟨fun q st => XS.ifYes hA hx rfl (pc0 := pc) rfl (hb hc hd) rfl ((h_if0 cd x).trans ((hP hS.hd z0).mpr q)) (of_decide_eq_true ho) hpT st, fun q st => XS.ifNo hA hx rfl (hb hc hd) rfl ?_ st⟩)
  rw [h_if0]
  cases hh : if_icmp.holds cd (o32 x) (o32 0) with
  | false => rfl
  | true => exact absurd ((hP hS.hd z0).mp hh) q
theorem GQ.ifF {P : Prop} [Decidable P] {cd : ClassFile.Cond} {off : Int} {pcT pcF : Nat} (hP : InR x → InR 0 → (if_icmp.holds cd (o32 x) (o32 0) = true ↔ ¬ P)) (hd : decode M.2.1 pc = .ok (.ifCond cd off, 3)) (ho : decide (0 ≤ (pc : Int) + off) = true) (hpT : ((pc : Int) + off).toNat = pcT) (hpF : pc + 3 = pcF)
    (nT : GQ X M kc ks pcT L S σ oT) (nF : GQ X M kc ks pcF L S σ oF) : GQ X M kc ks pc L (I x :: S) σ (if P then oF else oT) := by
  subst hpF
  have z0 : InR 0 := ⟨by omega, by omega⟩
  refine GQ.br nF nT (fun h => h.tl) (fun hA hx hc hS => ⟨fun q st => XS.ifNo hA hx rfl (hb hc hd) rfl ?_ st, fun q st => XS.ifYes hA hx rfl (pc0 := pc) rfl (hb hc hd) rfl ((h_if0 cd x).trans ((hP hS.hd z0).mpr q)) (of_decide_eq_true ho) hpT st⟩)
  rw [h_if0]
  cases hh : if_icmp.holds cd (o32 x) (o32 0) with
  | false => rfl
  | true => exact absurd q ((hP hS.hd z0).mp hh)
/-! returns -/
theorem GQ.out {v : Option AV} {z : Int} (hv : rval M.2.2.2.1 z = v) (hg : SOk S → ∀ w, v = some w → good w) (hn : M.2.2.2.1 = none → v = none)
    (h : ∀ {p : Program} {e : Env} {R : Room} {s : State} {m : MethodId} {args : Array Value} {below : List Frame} {meth : Method} {c : Code} {T : State} {locs : List Loc} {cells slots : Nat} {Ls : Array Slot} {fs : List Frame},
      Stand p X.1 e R s m args below meth c T locs cells slots → p.tables.exec = Jvm.exec → c.code = M.2.1 → meth.sig.returnType = M.2.2.2.1 → SOk S →
      (∀ (f : JFrame) (acts : List Action), f.method = m → f.locked = none → f.entered = [] → (doReturn e (T.setTop f) acts (v.map (cval X.cv))).1 = T.setFrames fs) → Steps p.tables e below (T.setTop (mkF m pc Ls (S.map (cval X.cv)))) (T.setFrames fs)) :
    GQ X M kc ks pc L S σ (some (z, σ)) := by
  subst hv
  intro z' σ' ho p e R s m args below meth c T locs cells slots Ls Y hx hZ hown hnm hby hml hrt hf hl hc hs hrep hL hS hLl hF
  cases ho
  exact ⟨T, locs, Y.more (Nat.le_add_right _ _) (Nat.le_add_right _ _), hrep, hF, hn, hg hS, fun fs hfs => h Y hx hby hrt hS hfs⟩
theorem GQ.ret (hr : M.2.2.2.1 = none) (hd : decode M.2.1 pc = .ok (.return_, 1)) : GQ X M kc ks pc L [] σ (some (0, σ)) :=
  GQ.out (v := none) (by rw [hr]; rfl) (fun _ w h => nomatch h) (fun _ => rfl) (fun Y hx hc hrt _ hfs => Y.returnOut hx (hrt.trans hr) (hb hc hd) hfs)
theorem GQ.iret (hr : M.2.2.2.1 = some .int) (hd : decode M.2.1 pc = .ok (.ireturn, 1)) : GQ X M kc ks pc L (I x :: S) σ (some (x, σ)) :=
  GQ.out (v := some (I x)) (by rw [hr]; rfl) (fun hS w h => by cases h; exact hS.hd) (fun h => by rw [hr] at h; cases h) (fun {p e R s m args below meth c T locs cells slots Ls fs} Y hx hc hrt _ hfs => by
    have hm' : T.vm.method? m = some meth := Y.method'
    have hret := hrt.trans hr
    have hd' := hb hc hd
    have hn : narrow .int (.int (o32 x)) = .int (o32 x) := rfl
    have hfs' : ∀ (f : JFrame) (acts : List Action), f.method = m → f.locked = none → f.entered = [] → (doReturn e (T.setTop f) acts (some (.int (o32 x)))).1 = T.setFrames fs := hfs
    show Steps p.tables e below (T.setTop { method := m, pc := pc, locals := Ls, stack := .int (o32 x) :: S.map (cval X.cv), locked := none }) _
    jvm_step Y.here [Y.here.top, hx, hd', hm', hret, hn]
    first | (intro acts; rw [hfs' _ acts rfl rfl rfl]) | rw [hfs' _ _ rfl rfl rfl]
    exact Steps.refl _)
theorem GQ.zret (hr : M.2.2.2.1 = some .boolean) (hd : decode M.2.1 pc = .ok (.ireturn, 1)) : GQ X M kc ks pc L (I x :: S) σ (some (i2z x, σ)) :=
  GQ.out (v := some (I (i2z x))) (by rw [hr]; rfl) (fun hS w h => by cases h; exact in_z x) (fun h => by rw [hr] at h; cases h) (fun {p e R s m args below meth c T locs cells slots Ls fs} Y hx hc hrt hS hfs => by
    have hm' : T.vm.method? m = some meth := Y.method'
    have hret := hrt.trans hr
    have hd' := hb hc hd
    have hn : narrow .boolean (.int (o32 x)) = .int (o32 (i2z x)) := by rw [e_i2z hS.hd]; rfl
    have hfs' : ∀ (f : JFrame) (acts : List Action), f.method = m → f.locked = none → f.entered = [] → (doReturn e (T.setTop f) acts (some (.int (o32 (i2z x))))).1 = T.setFrames fs := hfs
    show Steps p.tables e below (T.setTop { method := m, pc := pc, locals := Ls, stack := .int (o32 x) :: S.map (cval X.cv), locked := none }) _
    jvm_step Y.here [Y.here.top, hx, hd', hm', hret, hn]
    first | (intro acts; rw [hfs' _ acts rfl rfl rfl]) | rw [hfs' _ _ rfl rfl rfl]
    exact Steps.refl _)
theorem GQ.lret (hr : M.2.2.2.1 = some .long) (hd : decode M.2.1 pc = .ok (.lreturn, 1)) : GQ X M kc ks pc L [J x] σ (some (x, σ)) :=
  GQ.out (v := some (J x)) (by rw [hr]; rfl) (fun hS w h => by cases h; exact hS.hd) (fun h => by rw [hr] at h; cases h) (fun Y hx hc hrt _ hfs => Y.lreturnOut hx (hrt.trans hr) (hb hc hd) hfs)
end Rules
/-! calls by contract -/
section Calls
variable {μ : Type} {X : Cx μ} {M Mc : Mi} {kc ks pc pc' : Nat} {L L' : List (Option AV)} {S S' : List AV} {σ σ1 : μ} {o oc : Option (Int × μ)} {x y z1 : Int} {a0 : Array Value}
def Rm (M : Mi) (kc ks : Nat) : Room := { frames := M.2.2.2.2.1, cells := kc, slots := ks, locals := M.2.2.2.2.2 }
theorem met_of {args0 : List AV} (H : GQ X M kc ks 0 (entry args0 M.2.2.1) [] σ o) (ho : o = some (z1, σ1)) (hpl : plainName M.1.cls = true) (hg : ∀ w ∈ args0, good w) (hm : (spread args0).length ≤ M.2.2.1) {h : Heap} (hr : X.rep σ h) (ws : List Jvm.Cond) (rm : Room)
    (h1 : M.2.2.2.2.1 ≤ rm.frames) (h2 : M.2.2.2.2.2 ≤ rm.locals) (h3 : kc ≤ rm.cells) (h4 : ks ≤ rm.slots) :
    MetFree X.1 M.1 (head1 (Jvm.Cond.code M.1 M.2.1 M.2.2.1 M.2.2.2.1 :: ws) rm) (fun a U => a = (args0.map (cval X.cv)).toArray ∧ X.2.1.Warmed39 U.vm ∧ U.heap = h) (fun _ _ _ _ _ => True)
      (fun _ U o U' => ∃ v L, o = .returned v ∧ (v = (rval M.2.2.2.1 z1).map (cval X.cv) ∧ X.rep σ1 U'.heap ∧ Fr X.2.2.1 L ∧ ∀ w, rval M.2.2.2.1 z1 = some w → good w) ∧ FrameEnd U o U' L kc ks) := by
  refine MetFree.of_bodySF (plainFor_of_name hpl) hisR ?_
  intro p e s m args below meth c s₁ Bd hml0 hP hK
  obtain ⟨rfl, hZ, hh⟩ := hP
  have Y0 := Stand.of_body Bd
  have e0 : s₁.heap = h := by rw [← hh, Bd.state]; rfl
  have hlen : (entry args0 M.2.2.1).length = M.2.2.1 := by simp only [entry, List.length_append, List.length_replicate]; omega
  obtain ⟨T', locs', Y', hr', hF', hv1, hv2, st⟩ := H z1 σ1 ho p e _ s m _ below meth c s₁ [] 0 0 _ Y0 Bd.exec hZ (findClass_of_methodNamed Bd.named) (name_of_methodNamed Bd.named Bd.method).1 Bd.bytes hml0 Bd.returns h1 h2 (by show 0 + kc ≤ rm.cells; omega) (by show 0 + ks ≤ rm.slots; omega) (by rw [e0]; exact hr) (entry_rel X.cv hg hm) (fun _ q => nomatch q) hlen (Fr.nil _)
  obtain ⟨fs, hret, hrun, hended, hW, hsame⟩ := Y'.leave (v := (rval M.2.2.2.1 z1).map (cval X.cv)) (fun q => by rw [hv1 (Bd.returns.symm.trans q)]; rfl)
  exact ⟨_, _, st fs hret, hrun, hended, _, _, rfl, ⟨rfl, hr', hF', hv2⟩, ⟨_, rfl⟩, hW, hsame.mono (by omega) (by omega)⟩
theorem back_of {args0 : List AV} (H : GQ X Mc kc ks 0 (entry args0 Mc.2.2.1) [] σ oc) (ho : oc = some (z1, σ1)) (hpl : plainName Mc.1.cls = true) (hg : ∀ w ∈ args0, good w) (hm : (spread args0).length ≤ Mc.2.2.1) {h : Heap} (hr : X.rep σ h)
    {s : State} (hZ : X.2.1.Warmed39 s.vm) (wc : (Jvm.Cond.code Mc.1 Mc.2.1 Mc.2.2.1 Mc.2.2.2.1).before a0 X.2.1 = true) (wz : (Jvm.Cond.initialized Mc.1.cls).before a0 X.2.1 = true) {R : Room} {W : Nat} (hf : Mc.2.2.2.2.1 + 1 ≤ R.frames) (hl : W + (Mc.2.2.1 + 11) + Mc.2.2.2.2.2 ≤ R.locals) {p : Program} {e : Env} {below : List Frame} {args : Array Value} {len : Nat} :
    Back X.1 R p e below s args Mc.1 len W (fun A a => a = (args0.map (cval X.cv)).toArray ∧ A.U.heap = h ∧ A.cells + kc ≤ R.cells ∧ A.slots + ks ≤ R.slots)
      (fun A _ v B => ∃ L, (v = (rval Mc.2.2.2.1 z1).map (cval X.cv) ∧ X.rep σ1 B.U.heap ∧ Fr X.2.2.1 L ∧ ∀ w, rval Mc.2.2.2.1 z1 = some w → good w) ∧ B.locs = A.locs ++ L ∧ B.cells = A.cells + kc ∧ B.slots = A.slots + ks) :=
  backOf (rm := Rm Mc kc ks) (Q := fun v h L => v = (rval Mc.2.2.2.1 z1).map (cval X.cv) ∧ X.rep σ1 h ∧ Fr X.2.2.1 L ∧ ∀ w, rval Mc.2.2.2.1 z1 = some w → good w) (as' := (args0.map (cval X.cv)).toArray) (met_of H ho hpl hg hm hr [] (Rm Mc kc ks) (Nat.le_refl _) (Nat.le_refl _) (Nat.le_refl _) (Nat.le_refl _)) hZ wc wz hf hl
def cat (S : List AV) : Nat := (S.map fun v => match v with | .inr (.inl _) => 2 | _ => 1).sum
theorem cat_eq (cv : Nat → Addr) (S : List AV) : ((S.map (cval cv)).map fun v => v.category).sum = cat S := by
  induction S with
  | nil => rfl
  | cons v r ih => rcases v with x | x | n <;> simp only [cat, List.map_cons, List.sum_cons] at ih ⊢ <;> rw [ih] <;> rfl
theorem SOk.app {A B : List AV} (h : SOk (A ++ B)) : SOk A ∧ SOk B := ⟨fun v hv => h v (List.mem_append_left _ hv), fun v hv => h v (List.mem_append_right _ hv)⟩
theorem SOk.res {v : Option AV} (h : ∀ w, v = some w → good w) (hS : SOk S) : SOk (v.toList ++ S) := by
  cases v with
  | none => exact hS
  | some w => exact SOk.cons (h w rfl) hS
/-- what is known of a callee, by its words -/
def Callee (a0 : Array Value) (Z : State) (M Mc : Mi) (na : Nat) : Prop :=
  plainName Mc.1.cls = true ∧ (Jvm.Cond.code Mc.1 Mc.2.1 Mc.2.2.1 Mc.2.2.2.1).before a0 Z = true ∧ (Jvm.Cond.initialized Mc.1.cls).before a0 Z = true ∧ Mc.2.2.2.2.1 + 1 ≤ M.2.2.2.2.1 ∧ (Mc.1.cls ≠ "java/lang/invoke/MethodHandle" ∧ Mc.1.cls ≠ "java/lang/invoke/VarHandle") ∧ (∀ sig, parseMethodDescriptor Mc.1.desc = some sig → na = sig.parameters.length)
theorem GQ.callP {idx nI r : Nat} {args0 : List AV} {f : Int → μ → Option (Int × μ)} (K : Callee a0 X.2.1 M Mc args0.length) (hroom0 : Nat.ble (cat S + (Mc.2.2.1 + 11) + Mc.2.2.2.2.2) M.2.2.2.2.2 = true) (hd : decode M.2.1 pc = .ok (.invokevirtual idx, 3)) (hp : pc + 3 = pc')
    (w1 : (Jvm.Cond.methodLink M.1.cls idx Mc.1).before a0 X.2.1 = true) (w2 : (Jvm.Cond.instanceMethod Mc.1).before a0 X.2.1 = true) (w3 : (Jvm.Cond.privateMethod Mc.1).before a0 X.2.1 = true) (w4 : (Jvm.Cond.instantiable Mc.1.cls nI).before a0 X.2.1 = true)
    (hrecv : ∀ h, X.rep σ h → ∃ cell, h[X.cv r]? = some cell ∧ ∀ q, cell.vm ≠ .statics q) (hm0 : Nat.ble (spread (Rf r :: args0)).length Mc.2.2.1 = true)
    (H : GQ X Mc 0 0 0 (entry (Rf r :: args0) Mc.2.2.1) [] σ oc) (hst : S' = args0.reverse ++ Rf r :: S) (nx : ∀ z σ1, GQ X M kc ks pc' L ((rval Mc.2.2.2.1 z).toList ++ S) σ1 (f z σ1)) : GQ X M kc ks pc L S' σ (cB oc f) := by
  intro z σ' ho p e R s m args below meth c T locs cells slots Ls Y hx hZ hown hnm hby hml hrt hf hl hc hs hrep hL hS hLl hF
  subst hst hp
  obtain ⟨k1, k2, k3, k4, k5, k6⟩ := K
  have hroom := Nat.le_of_ble_eq_true hroom0
  have hm := Nat.le_of_ble_eq_true hm0
  cases hoc : oc with
  | none => rw [hoc] at ho; exact nomatch ho
  | some q =>
    obtain ⟨z1, σ1⟩ := q
    rw [hoc] at ho H
    have hS0 := hS.app
    obtain ⟨cell, hc1, hc2⟩ := hrecv _ hrep
    have hg : ∀ w ∈ Rf r :: args0, good w := fun w hw => (List.mem_cons.mp hw).elim (fun q => q ▸ trivial) (fun q => hS0.1 w (List.mem_reverse.mpr q))
    have hpriv := Cond.privateMethod_at (mvP hZ w3 (args := #[]))
    have hsel : (Jvm.Cond.selects Mc.1.cls Mc.1 Mc.1).before args s = true := by
      obtain ⟨cc, kk, i1, i2, -, i4, -⟩ := Cond.instantiable_spec (mvT hZ w4 (args := #[]))
      exact selects_self_of_private i1 i2 (by simp at i4; exact i4.1) hpriv (mvT hZ w2) k5
    obtain ⟨v, vm1, ⟨T1, L1, c1, n1⟩, -, Y1, ⟨Lc, ⟨hv, hr1, hF1, hg1⟩, l1, l2, l3⟩, st⟩ := Y.privateBack hx (y := Mc.1) hown (mvT hZ w1) (mvT hZ w2) hsel hpriv (mvT hZ k2) k5
      (back_of (W := cat S) H rfl k1 hg hm hrep hZ k2 k3 (by omega) (by omega)) (g := mkF m pc Ls ((args0.reverse ++ Rf r :: S).map (cval X.cv))) rfl (by show Ls.size = _; rw [hL.1, hLl, hml]) (Steps.refl _) (a := X.cv r) hc1 hc2 (argsL := args0.map (cval X.cv)) (rest := S.map (cval X.cv)) (fun sig q => by rw [List.length_map]; exact k6 sig q) (by simp [cval]) (by show 2 * 0 + _ ≤ _; rw [cat_eq]; omega) (hb hby hd) (fun _ _ => ⟨rfl, rfl, by show cells + 0 ≤ _; omega, by show slots + 0 ≤ _; omega⟩)
    dsimp only [Pt.U, Pt.locs, Pt.cells, Pt.slots] at Y1 l1 l2 l3 st hr1
    subst l1 l2 l3 hv
    obtain ⟨T', locs', Y', hrep', hF', hv1, hv2, st'⟩ := nx z1 σ1 z σ' ho p e R s m args below meth c T1 _ _ _ Ls Y1 hx hZ hown hnm hby hml hrt hf hl hc hs hr1 hL (SOk.res hg1 hS0.2.tl) hLl (Fr.app hF hF1)
    refine ⟨T', locs', Y', hrep', hF', hv1, hv2, fun fs hfs => ?_⟩
    have q := st' fs hfs
    refine st.trans ?_
    have e1 : ((rval Mc.2.2.2.1 z1).toList ++ S).map (cval X.cv) = ((rval Mc.2.2.2.1 z1).map (cval X.cv)).toList ++ S.map (cval X.cv) := by cases rval Mc.2.2.2.1 z1 <;> simp
    rw [e1] at q; exact q
theorem GQ.callV {idx r : Nat} {args0 : List AV} {f : Int → μ → Option (Int × μ)} (K : Callee a0 X.2.1 M Mc args0.length) (hroom0 : Nat.ble (cat S + (Mc.2.2.1 + 11) + Mc.2.2.2.2.2) M.2.2.2.2.2 = true) (hd : decode M.2.1 pc = .ok (.invokevirtual idx, 3)) (hp : pc + 3 = pc')
    (w1 : (Jvm.Cond.methodLink M.1.cls idx Mc.1).before a0 X.2.1 = true) (w2 : (Jvm.Cond.instanceMethod Mc.1).before a0 X.2.1 = true) (w3 : (Jvm.Cond.declares Mc.1).before a0 X.2.1 = true) (w4 : (Jvm.Cond.selects Mc.1.cls Mc.1 Mc.1).before a0 X.2.1 = true)
    (hrecv : ∀ h, X.rep σ h → Exa X.2.1 h (X.cv r) Mc.1.cls) (hm0 : Nat.ble (spread (Rf r :: args0)).length Mc.2.2.1 = true)
    (H : GQ X Mc 0 0 0 (entry (Rf r :: args0) Mc.2.2.1) [] σ oc) (hst : S' = args0.reverse ++ Rf r :: S) (nx : ∀ z σ1, GQ X M kc ks pc' L ((rval Mc.2.2.2.1 z).toList ++ S) σ1 (f z σ1)) : GQ X M kc ks pc L S' σ (cB oc f) := by
  intro z σ' ho p e R s m args below meth c T locs cells slots Ls Y hx hZ hown hnm hby hml hrt hf hl hc hs hrep hL hS hLl hF
  subst hst hp
  obtain ⟨k1, k2, k3, k4, k5, k6⟩ := K
  have hroom := Nat.le_of_ble_eq_true hroom0
  have hm := Nat.le_of_ble_eq_true hm0
  cases hoc : oc with
  | none => rw [hoc] at ho; exact nomatch ho
  | some q =>
    obtain ⟨z1, σ1⟩ := q
    rw [hoc] at ho H
    have hS0 := hS.app
    have hg : ∀ w ∈ Rf r :: args0, good w := fun w hw => (List.mem_cons.mp hw).elim (fun q => q ▸ trivial) (fun q => hS0.1 w (List.mem_reverse.mpr q))
    obtain ⟨cq, kq, qa, qb, qc⟩ := isOf (T := T) hZ rfl (hrecv _ hrep)
    obtain ⟨v, vm1, ⟨T1, L1, c1, n1⟩, -, Y1, ⟨Lc, ⟨hv, hr1, hF1, hg1⟩, l1, l2, l3⟩, st⟩ := Y.virtualBack hx (y := Mc.1) (z := Mc.1) hown (mvT hZ w1) (mvT hZ w3) (notFace_of_selects (args := #[]) (mvT hZ w4)) (mvT hZ w4) (mvT hZ w2) k5
      (back_of (W := cat S) H rfl k1 hg hm hrep hZ k2 k3 (by omega) (by omega)) qa qc (g := mkF m pc Ls ((args0.reverse ++ Rf r :: S).map (cval X.cv))) rfl (by show Ls.size = _; rw [hL.1, hLl, hml]) (Steps.refl _) (argsL := args0.map (cval X.cv)) (rest := S.map (cval X.cv)) (fun sig q => by rw [List.length_map]; exact k6 sig q) (by simp [cval]) (by show 2 * 0 + _ ≤ _; rw [cat_eq]; omega) (hb hby hd) (fun _ _ => ⟨rfl, rfl, by show cells + 0 ≤ _; omega, by show slots + 0 ≤ _; omega⟩)
    dsimp only [Pt.U, Pt.locs, Pt.cells, Pt.slots] at Y1 l1 l2 l3 st hr1
    subst l1 l2 l3 hv
    obtain ⟨T', locs', Y', hrep', hF', hv1, hv2, st'⟩ := nx z1 σ1 z σ' ho p e R s m args below meth c T1 _ _ _ Ls Y1 hx hZ hown hnm hby hml hrt hf hl hc hs hr1 hL (SOk.res hg1 hS0.2.tl) hLl (Fr.app hF hF1)
    refine ⟨T', locs', Y', hrep', hF', hv1, hv2, fun fs hfs => ?_⟩
    have q := st' fs hfs
    refine st.trans ?_
    have e1 : ((rval Mc.2.2.2.1 z1).toList ++ S).map (cval X.cv) = ((rval Mc.2.2.2.1 z1).map (cval X.cv)).toList ++ S.map (cval X.cv) := by cases rval Mc.2.2.2.1 z1 <;> simp
    rw [e1] at q; exact q
theorem GQ.callS {idx : Nat} {args0 : List AV} {f : Int → μ → Option (Int × μ)} (K : Callee a0 X.2.1 M Mc args0.length) (hroom0 : Nat.ble (cat S + (Mc.2.2.1 + 11) + Mc.2.2.2.2.2) M.2.2.2.2.2 = true) (hd : decode M.2.1 pc = .ok (.invokestatic idx, 3)) (hp : pc + 3 = pc')
    (w1 : (Jvm.Cond.methodLink M.1.cls idx Mc.1).before a0 X.2.1 = true) (w2 : (Jvm.Cond.static Mc.1).before a0 X.2.1 = true) (hm0 : Nat.ble (spread args0).length Mc.2.2.1 = true)
    (H : GQ X Mc 0 0 0 (entry args0 Mc.2.2.1) [] σ oc) (hst : S' = args0.reverse ++ S) (nx : ∀ z σ1, GQ X M kc ks pc' L ((rval Mc.2.2.2.1 z).toList ++ S) σ1 (f z σ1)) : GQ X M kc ks pc L S' σ (cB oc f) := by
  intro z σ' ho p e R s m args below meth c T locs cells slots Ls Y hx hZ hown hnm hby hml hrt hf hl hc hs hrep hL hS hLl hF
  subst hst hp
  obtain ⟨k1, k2, k3, k4, k5, k6⟩ := K
  have hroom := Nat.le_of_ble_eq_true hroom0
  have hm := Nat.le_of_ble_eq_true hm0
  cases hoc : oc with
  | none => rw [hoc] at ho; exact nomatch ho
  | some q =>
    obtain ⟨z1, σ1⟩ := q
    rw [hoc] at ho H
    have hS0 := hS.app
    have hg : ∀ w ∈ args0, good w := fun w hw => hS0.1 w (List.mem_reverse.mpr hw)
    obtain ⟨v, vm1, ⟨T1, L1, c1, n1⟩, -, Y1, ⟨Lc, ⟨hv, hr1, hF1, hg1⟩, l1, l2, l3⟩, st⟩ := Jvm.LawKit.callS Y hx (y := Mc.1) hown (mvT hZ w1) (mvT hZ w2) (mvT hZ k3) (mvT hZ k2) k5
      (back_of (W := cat S) H rfl k1 hg hm hrep hZ k2 k3 (by omega) (by omega)) (g := mkF m pc Ls ((args0.reverse ++ S).map (cval X.cv))) rfl (by show Ls.size = _; rw [hL.1, hLl, hml]) (argsL := args0.map (cval X.cv)) (rest := S.map (cval X.cv)) (fun sig q => by rw [List.length_map]; exact k6 sig q) (by simp [cval]) (by show 2 * 0 + _ ≤ _; rw [cat_eq]; omega) (hb hby hd) (fun _ _ => ⟨rfl, rfl, by show cells + 0 ≤ _; omega, by show slots + 0 ≤ _; omega⟩)
    dsimp only [Pt.U, Pt.locs, Pt.cells, Pt.slots] at Y1 l1 l2 l3 st hr1
    subst l1 l2 l3 hv
    obtain ⟨T', locs', Y', hrep', hF', hv1, hv2, st'⟩ := nx z1 σ1 z σ' ho p e R s m args below meth c T1 _ _ _ Ls Y1 hx hZ hown hnm hby hml hrt hf hl hc hs hr1 hL (SOk.res hg1 hS0.2) hLl (Fr.app hF hF1)
    refine ⟨T', locs', Y', hrep', hF', hv1, hv2, fun fs hfs => ?_⟩
    have q := st' fs hfs
    refine st _ ?_
    have e1 : ((rval Mc.2.2.2.1 z1).toList ++ S).map (cval X.cv) = ((rval Mc.2.2.2.1 z1).map (cval X.cv)).toList ++ S.map (cval X.cv) := by cases rval Mc.2.2.2.1 z1 <;> simp
    rw [e1] at q; exact q
end Calls
section Ldc
variable {μ : Type} {X : Cx μ} {M Mc : Mi} {kc ks pc pc' : Nat} {L L' : List (Option AV)} {S S' : List AV} {σ σ1 : μ} {o oc : Option (Int × μ)} {x y z1 : Int} {a0 : Array Value}
/-- a step that needs the tables or the heap -/
theorem GQ.heap {σ1 : μ} (nx : GQ X M kc ks pc' L S' σ1 o)
    (h : ∀ {p : Program} {e : Env} {R : Room} {s : State} {m : MethodId} {args : Array Value} {below : List Frame} {meth : Method} {c : Code} {T : State} {locs : List Loc} {cells slots : Nat} {Ls : Array Slot},
      Stand p X.1 e R s m args below meth c T locs cells slots → p.tables.exec = Jvm.exec → X.2.1.Warmed39 s.vm → s.vm.findClass M.1.cls = some m.cls → meth.name = M.1.name → c.code = M.2.1 → X.rep σ T.heap → SOk S → Fr X.2.2.1 locs →
      ∃ (T1 : State) (locs1 : List Loc), Stand p X.1 e R s m args below meth c T1 locs1 cells slots ∧ X.rep σ1 T1.heap ∧ SOk S' ∧ Fr X.2.2.1 locs1 ∧
        ∀ target, Steps p.tables e below (T1.setTop (mkF m pc' Ls (S'.map (cval X.cv)))) target → Steps p.tables e below (T.setTop (mkF m pc Ls (S.map (cval X.cv)))) target) : GQ X M kc ks pc L S σ o := by
  intro z σ' ho p e R s m args below meth c T locs cells slots Ls Y hx hZ hown hnm hby hml hrt hf hl hc hs hrep hL hS hLl hF
  obtain ⟨T1, locs1, Y1, hr1, hS1, hF1, st⟩ := h (Ls := Ls) Y hx hZ hown hnm hby hrep hS hF
  obtain ⟨T', locs', Y', hrep', hF', hv1, hv2, st'⟩ := nx z σ' ho p e R s m args below meth c T1 locs1 cells slots Ls Y1 hx hZ hown hnm hby hml hrt hf hl hc hs hr1 hL hS1 hLl hF1
  exact ⟨T', locs', Y', hrep', hF', hv1, hv2, fun fs hfs => st _ (st' fs hfs)⟩
theorem GQ.ldc {idx : Nat} {i : Int} {v : Int32} (hd : decode M.2.1 pc = .ok (.ldc idx, 2)) (w : (Jvm.Cond.constant M.1.cls idx v).before a0 X.2.1 = true) (hi : v.toInt = i) (hp : pc + 2 = pc') (nx : GQ X M kc ks pc' L (I i :: S) σ o) : GQ X M kc ks pc L S σ o := by
  subst hp hi
  refine GQ.heap nx (fun {p e R s m args below meth c T locs cells slots Ls} Y hx hZ hown hnm hby hr hS hF => ⟨T, locs, Y, hr, hS.cons (r32 v), hF, fun t st => ?_⟩)
  have w' : (Jvm.Cond.constant M.1.cls idx v).before args s = true := mvT hZ w
  have q := Y.ldcInt hx hown w' (g := mkF m pc Ls (S.map (cval X.cv))) rfl (hb hby hd) t
  have e1 : cval X.cv (I v.toInt) = Value.int v := congrArg Value.int (o32_t v)
  rw [List.map_cons, e1] at st
  exact q st
theorem GQ.ldc2 {idx : Nat} {i : Int} {v : Int64} (hd : decode M.2.1 pc = .ok (.ldc2_w idx, 3)) (w : (Jvm.Cond.constantLong M.1.cls idx v).before a0 X.2.1 = true) (hi : v.toInt = i) (hp : pc + 3 = pc') (nx : GQ X M kc ks pc' L (J i :: S) σ o) : GQ X M kc ks pc L S σ o := by
  subst hp hi
  refine GQ.heap nx (fun {p e R s m args below meth c T locs cells slots Ls} Y hx hZ hown hnm hby hr hS hF => ⟨T, locs, Y, hr, hS.cons (r64 v), hF, fun t st => ?_⟩)
  have w' : (Jvm.Cond.constantLong M.1.cls idx v).before args s = true := mvT hZ w
  have q := Y.ldc2Long hx hown w' (g := mkF m pc Ls (S.map (cval X.cv))) rfl (hb hby hd) t
  have e1 : cval X.cv (J v.toInt) = Value.long v := congrArg Value.long (o64_t v)
  rw [List.map_cons, e1] at st
  exact q st
end Ldc
/-! an object of the project's class: its plain fields and its arrays -/
abbrev Obj : Type := (Nat → Int) × (Nat → Nat → Int)
abbrev Fe : Type := String × String × FieldType × Nat
def upd {α : Type} (f : Nat → α) (k : Nat) (v : α) : Nat → α := fun j => if j = k then v else f j
theorem upd_same {α : Type} (f : Nat → α) (k : Nat) (v : α) : upd f k v k = v := if_pos rfl
theorem upd_ne {α : Type} (f : Nat → α) {k j : Nat} (v : α) (h : j ≠ k) : upd f k v j = f j := if_neg h
def setF (σ : Obj) (k : Nat) (v : Int) : Obj := (upd σ.1 k v, σ.2)
def setA (σ : Obj) (k i : Nat) (v : Int) : Obj := (σ.1, upd σ.2 k (upd (σ.2 k) i v))
def fitI (ty : FieldType) (x : Int) : Prop := match ty with
  | .boolean => x = 0 ∨ x = 1
  | .byte => -128 ≤ x ∧ x ≤ 127
  | .char => 0 ≤ x ∧ x ≤ 65535
  | .int => InR x
  | _ => False
def nrw (ty : FieldType) (x : Int) : Int := match ty with
  | .boolean => i2z x
  | .byte => i2b x
  | .char => i2c x
  | _ => x
def intK (ty : FieldType) : Bool := match ty with
  | .boolean | .byte | .char | .int => true
  | _ => false
theorem fitI_in {ty : FieldType} {x : Int} (h : fitI ty x) : InR x := by
  cases ty <;> simp only [fitI] at h <;> first | exact h.elim | exact h | (unfold InR; omega)
theorem fit_nrw {ty : FieldType} (ht : intK ty = true) {x : Int} (hx : InR x) : fitI ty (nrw ty x) := by
  cases ty <;> simp only [intK] at ht <;> first | cases ht | skip
  all_goals simp only [fitI, nrw, i2z, i2b, i2c] <;> first | exact hx | omega
theorem narrow_nrw {ty : FieldType} (ht : intK ty = true) {x : Int} (hx : InR x) : narrow ty (.int (o32 x)) = .int (o32 (nrw ty x)) := by
  cases ty <;> simp only [intK] at ht <;> first | cases ht | skip
  all_goals first | rfl | (simp only [nrw, e_i2z hx]; rfl) | (simp only [nrw, e_i2b hx]; rfl) | (simp only [nrw, e_i2c hx]; rfl)
theorem nar_nrw {ty : FieldType} (ht : intK ty = true) {x : Int} (hx : InR x) : nar ty (o32 x) = o32 (nrw ty x) := by
  cases ty <;> simp only [intK] at ht <;> first | cases ht | skip
  all_goals first | (simp only [nrw, nar, e_i2z hx]; done) | (simp only [nrw, nar, e_i2b hx]; done) | (simp only [nrw, nar, e_i2c hx]; done) | rfl
theorem fits_of {ty : FieldType} {x : Int} (h : fitI ty x) : fits ty (.int (o32 x)) = true := by
  have hx := fitI_in h
  cases ty <;> simp only [fitI] at h <;> first | exact h.elim | skip
  all_goals first | rfl | (rcases h with rfl | rfl <;> decide) | skip
  all_goals
    simp only [fits, Bool.and_eq_true, decide_eq_true_eq, Int32.le_iff_toInt_le, t32i hx]
    exact h
/-- the words on the class -/
def CA (a0 : Array Value) (Z : State) (C : String) (nI : Nat) (F : List (Option Fe)) : Prop :=
  (∀ (k : Nat) (e : Fe), F[k]? = some (some e) → Laid Z a0 C C e.1 e.2.1 ∧ intK e.2.2.1 = true ∧ parseFieldDescriptor e.2.1 = some (if e.2.2.2 = 0 then e.2.2.1 else .array e.2.2.1)) ∧
  (∀ (k k' : Nat) (e e' : Fe), F[k]? = some (some e) → F[k']? = some (some e') → e.1 = e'.1 → k = k') ∧ (Jvm.Cond.instantiable C nI).before a0 Z = true
def okJ (F : List (Option Fe)) (j : Nat) : Prop := j = 0 ∨ ∃ (k : Nat) (e : Fe), j = k + 1 ∧ F[k]? = some (some e) ∧ 0 < e.2.2.2
def Inj (F : List (Option Fe)) (cv : Nat → Addr) : Prop := ∀ j j', okJ F j → okJ F j' → cv j = cv j' → j = j'
def ARep (Z : State) (h : Heap) (a : Addr) (ty : FieldType) (len : Nat) (f : Nat → Int) : Prop := ∃ c, Arr Z h a c ty ∧ c.slots.size = len ∧ ∀ i, i < len → c.slots[i]? = some (.int (o32 (f i))) ∧ fitI ty (f i)
def ORep (Z : State) (C : String) (F : List (Option Fe)) (cv : Nat → Addr) (σ : Obj) (h : Heap) : Prop :=
  Exa Z h (cv 0) C ∧ ∀ (k : Nat) (e : Fe), F[k]? = some (some e) → (e.2.2.2 = 0 → Fld Z h (cv 0) C e.1 e.2.1 (.int (o32 (σ.1 k))) ∧ fitI e.2.2.1 (σ.1 k)) ∧ (0 < e.2.2.2 → Fld Z h (cv 0) C e.1 e.2.1 (.ref (cv (k + 1))) ∧ ARep Z h (cv (k + 1)) e.2.2.1 e.2.2.2 (σ.2 k))
def wsOf (F : List (Option Fe)) (cv : Nat → Addr) : List Addr := (List.range (F.length + 1)).map cv
theorem ARep.other {Z : State} {h h' : Heap} {a b : Addr} {ty : FieldType} {len sl : Nat} {f : Nat → Int} {v : Value} (A : ARep Z h b ty len f) (W : Wr h h' a sl v) (ne : b ≠ a) : ARep Z h' b ty len f := by
  obtain ⟨c, h1, h2⟩ := A; exact ⟨c, h1.other W ne, h2⟩
theorem ARep.set {Z : State} {h h' : Heap} {a : Addr} {ty : FieldType} {len i : Nat} {f : Nat → Int} {x : Int} (A : ARep Z h a ty len f) (W : Wr h h' a i (.int (o32 x))) (hx : fitI ty x) : ARep Z h' a ty len (upd f i x) := by
  obtain ⟨c, h1, h2, h3⟩ := A
  refine ⟨_, h1.same W, by simp [Cell.setSlot, h2], fun j hj => ?_⟩
  by_cases e : j = i
  · subst e; simp [Cell.setSlot, upd_same, hx, h2, hj]
  · rw [upd_ne f x e]
    exact ⟨by rw [← (h3 j hj).1]; exact Array.getElem?_setIfInBounds_ne (Ne.symm e), (h3 j hj).2⟩
section Mem
variable {Z : State} {C : String} {F : List (Option Fe)} {cv : Nat → Addr} {σ : Obj} {h h' : Heap} {a0 : Array Value} {nI : Nat}
theorem okJ.arr {k : Nat} {e : Fe} (hF : F[k]? = some (some e)) (hl : 0 < e.2.2.2) : okJ F (k + 1) := Or.inr ⟨k, e, rfl, hF, hl⟩
theorem okJ.mem {j : Nat} (hj : okJ F j) : cv j ∈ wsOf F cv := by
  refine List.mem_map.mpr ⟨j, List.mem_range.mpr ?_, rfl⟩
  rcases hj with rfl | ⟨k, e, rfl, hF, -⟩
  · omega
  · have := (List.getElem?_eq_some_iff.mp hF).1; omega
theorem ORep.putF (R : ORep Z C F cv σ h) (hI : Inj F cv) (K : CA a0 Z C nI F) {k : Nat} {e : Fe} (hF : F[k]? = some (some e)) (hl : e.2.2.2 = 0) {x : Int} (hx : fitI e.2.2.1 x) (W : Wr h h' (cv 0) (Jvm.RoadKit.slotOf Z C e.1 e.2.1) (.int (o32 x))) : ORep Z C F cv (setF σ k x) h' := by
  refine ⟨R.1.wr W, fun j e' hF' => ⟨fun hl' => ?_, fun hl' => ?_⟩⟩
  · obtain ⟨q1, q2⟩ := (R.2 j e' hF').1 hl'
    by_cases ej : j = k
    · subst ej
      cases hF.symm.trans hF'
      show Fld Z h' (cv 0) C e.1 e.2.1 (.int (o32 (upd σ.1 j x j))) ∧ fitI e.2.2.1 (upd σ.1 j x j)
      rw [upd_same]; exact ⟨q1.same W, hx⟩
    · show Fld Z h' (cv 0) C e'.1 e'.2.1 (.int (o32 (upd σ.1 k x j))) ∧ fitI e'.2.2.1 (upd σ.1 k x j)
      rw [upd_ne _ _ ej]
      exact ⟨q1.other W (Or.inr (slot_ne (K.1 j e' hF').1 (K.1 k e hF).1 (fun q => ej (K.2.1 j k e' e hF' hF q)) (K.1 j e' hF').2.2 (K.1 k e hF).2.2)), q2⟩
  · obtain ⟨q1, q2⟩ := (R.2 j e' hF').2 hl'
    have ej : j ≠ k := fun q => by subst q; cases hF.symm.trans hF'; omega
    exact ⟨q1.other W (Or.inr (slot_ne (K.1 j e' hF').1 (K.1 k e hF).1 (fun q => ej (K.2.1 j k e' e hF' hF q)) (K.1 j e' hF').2.2 (K.1 k e hF).2.2)), q2.other W (fun q => by have := hI _ _ (okJ.arr hF' hl') (Or.inl rfl) q; omega)⟩
theorem ORep.putA (R : ORep Z C F cv σ h) (hI : Inj F cv) {k i : Nat} {e : Fe} (hF : F[k]? = some (some e)) (hl : 0 < e.2.2.2) {x : Int} (hx : fitI e.2.2.1 x) (W : Wr h h' (cv (k + 1)) i (.int (o32 x))) : ORep Z C F cv (setA σ k i x) h' := by
  have n0 : cv 0 ≠ cv (k + 1) := fun q => by have := hI _ _ (Or.inl rfl) (okJ.arr hF hl) q; omega
  refine ⟨R.1.wr W, fun j e' hF' => ⟨fun hl' => ?_, fun hl' => ?_⟩⟩
  · obtain ⟨q1, q2⟩ := (R.2 j e' hF').1 hl'
    exact ⟨q1.other W (Or.inl n0), q2⟩
  · obtain ⟨q1, q2⟩ := (R.2 j e' hF').2 hl'
    refine ⟨q1.other W (Or.inl n0), ?_⟩
    by_cases ej : j = k
    · subst ej
      cases hF.symm.trans hF'
      show ARep Z h' (cv (j + 1)) e.2.2.1 e.2.2.2 (upd σ.2 j (upd (σ.2 j) i x) j)
      rw [upd_same]; exact q2.set W hx
    · show ARep Z h' (cv (j + 1)) e'.2.2.1 e'.2.2.2 (upd σ.2 k (upd (σ.2 k) i x) j)
      rw [upd_ne _ _ ej]
      exact q2.other W (fun q => by have := hI _ _ (okJ.arr hF' hl') (okJ.arr hF hl) q; omega)
theorem ORep.keep {ws : List Addr} (R : ORep Z C F cv σ h) (K : Keep h h' ws) (hn : ∀ j, okJ F j → cv j ∉ ws) : ORep Z C F cv σ h' := by
  refine ⟨R.1.keep K, fun j e' hF' => ⟨fun hl' => ?_, fun hl' => ?_⟩⟩
  · obtain ⟨q1, q2⟩ := (R.2 j e' hF').1 hl'
    exact ⟨q1.keep K (hn 0 (Or.inl rfl)), q2⟩
  · obtain ⟨q1, c, q2, q3⟩ := (R.2 j e' hF').2 hl'
    exact ⟨q1.keep K (hn 0 (Or.inl rfl)), c, ⟨K.2.1 _ c q2.1 (hn _ (okJ.arr hF' hl')), q2.2⟩, q3⟩
end Mem
/-- a method of the project's class at work on its own object -/
def XA (l : Launch) (Z : State) (n0 : Nat) (C : String) (F : List (Option Fe)) (cv : Nat → Addr) (h0 : Heap) : Cx Obj := (l, Z, n0, cv, fun σ h => ORep Z C F cv σ h ∧ Keep h0 h (wsOf F cv) ∧ h.size = h0.size)
/-- what every walk of such a method knows -/
def KA (a0 : Array Value) (Z : State) (n0 : Nat) (C : String) (nI : Nat) (F : List (Option Fe)) (cv : Nat → Addr) : Prop := CA a0 Z C nI F ∧ Inj F cv ∧ ∀ j, n0 ≤ cv j
def rB (f : Nat → Int) (len : Nat) (i : Int) (g : Int → Option α) : Option α := if 0 ≤ i ∧ i < len then g (f i.toNat) else none
def wB (σ : Obj) (k len : Nat) (i v : Int) (g : Obj → Option α) : Option α := if 0 ≤ i ∧ i < len then g (setA σ k i.toNat v) else none
section MemRules
variable {l : Launch} {Z : State} {n0 : Nat} {C : String} {F : List (Option Fe)} {cv : Nat → Addr} {h0 : Heap} {M : Mi} {kc ks pc pc' idx k nI : Nat} {L L' : List (Option AV)} {S S' : List AV} {σ : Obj} {o : Option (Int × Obj)} {x y i : Int} {a0 : Array Value} {n d : String} {ty : FieldType} {len : Nat}
theorem GQ.getI (hF : F[k]? = some (some (n, d, ty, 0))) (w : (Jvm.Cond.fieldLink M.1.cls idx C n d).before a0 Z = true) (hd : decode M.2.1 pc = .ok (.getfield idx, 3)) (hp : pc + 3 = pc')
    (nx : GQ (XA l Z n0 C F cv h0) M kc ks pc' L (I (σ.1 k) :: S) σ o) : GQ (XA l Z n0 C F cv h0) M kc ks pc L (Rf 0 :: S) σ o := by
  subst hp
  refine GQ.heap nx (fun {p e R s m args below meth c T locs cells slots Ls} Y hx hZ hown hnm hby hr hS hF' => ?_)
  obtain ⟨q1, q2⟩ := (hr.1.2 k _ hF).1 rfl
  obtain ⟨T1, Y1, e1, st⟩ := getF Y hx hZ hown (host := "") (Or.inl w) Via.refl rfl q1 (g := mkF m pc Ls ((Rf 0 :: S).map (cval cv))) rfl rfl (hb hby hd)
  exact ⟨T1, locs, Y1, by rw [e1]; exact hr, hS.tl.cons (fitI_in q2), hF', st⟩
theorem GQ.getA (hF : F[k]? = some (some (n, d, ty, len))) (hl : 0 < len) (w : (Jvm.Cond.fieldLink M.1.cls idx C n d).before a0 Z = true) (hd : decode M.2.1 pc = .ok (.getfield idx, 3)) (hp : pc + 3 = pc')
    (nx : GQ (XA l Z n0 C F cv h0) M kc ks pc' L (Rf (k + 1) :: S) σ o) : GQ (XA l Z n0 C F cv h0) M kc ks pc L (Rf 0 :: S) σ o := by
  subst hp
  refine GQ.heap nx (fun {p e R s m args below meth c T locs cells slots Ls} Y hx hZ hown hnm hby hr hS hF' => ?_)
  obtain ⟨q1, q2⟩ := (hr.1.2 k _ hF).2 hl
  obtain ⟨T1, Y1, e1, st⟩ := getF Y hx hZ hown (host := "") (Or.inl w) Via.refl rfl q1 (g := mkF m pc Ls ((Rf 0 :: S).map (cval cv))) rfl rfl (hb hby hd)
  exact ⟨T1, locs, Y1, by rw [e1]; exact hr, hS.tl.cons trivial, hF', st⟩
theorem GQ.putI (K : KA a0 Z n0 C nI F cv) (hF : F[k]? = some (some (n, d, ty, 0))) (w : (Jvm.Cond.fieldLink M.1.cls idx C n d).before a0 Z = true) (wl : (Jvm.Cond.lays C C n d).before a0 Z = true) (hd : decode M.2.1 pc = .ok (.putfield idx, 3)) (hp : pc + 3 = pc')
    (nx : GQ (XA l Z n0 C F cv h0) M kc ks pc' L S (setF σ k (nrw ty x)) o) : GQ (XA l Z n0 C F cv h0) M kc ks pc L (I x :: Rf 0 :: S) σ o := by
  subst hp
  refine GQ.heap nx (fun {p e R s m args below meth c T locs cells slots Ls} Y hx hZ hown hnm hby hr hS hF' => ?_)
  obtain ⟨⟨K1, K2, K3⟩, hI, hn⟩ := K
  obtain ⟨q1, q2⟩ := (hr.1.2 k _ hF).1 rfl
  obtain ⟨c1, c2, c3⟩ := K1 k _ hF
  have hxx : InR x := hS.hd
  obtain ⟨T1, h1, Y1, e1, W1, st⟩ := putFN Y hx hZ hown w Via.refl rfl q1 hr.1.1 (Or.inl wl) K3 (ty := ty) c3 (narrow_nrw c2 hxx) (fits_of (fit_nrw c2 hxx)) (g := mkF m pc Ls ((I x :: Rf 0 :: S).map (cval cv))) rfl rfl (hb hby hd)
  exact ⟨T1, _, Y1, by rw [e1]; exact ⟨hr.1.putF hI ⟨K1, K2, K3⟩ hF rfl (fit_nrw c2 hxx) W1, hr.2.1.wr W1 (Or.inl (okJ.mem (Or.inl rfl))), W1.size.trans hr.2.2⟩, hS.tl.tl, Fr.snoc Y1 hF' (hn 0), st⟩
theorem i_in {i : Int} (hi : InR i) {cs : Nat} (h : 0 ≤ i ∧ i < cs) : (¬ (o32 i < 0 ∨ cs ≤ (o32 i).toNatClampNeg)) ∧ (o32 i).toNatClampNeg = i.toNat := by
  have e1 : (o32 i).toNatClampNeg = i.toNat := by simp only [Int32.toNatClampNeg, t32i hi]
  refine ⟨fun q => ?_, e1⟩
  rw [e1] at q
  rcases q with q | q
  · have := Int32.lt_iff_toInt_lt.mp q; rw [t32i hi] at this; have e0 : (0 : Int32).toInt = 0 := rfl; omega
  · omega
theorem GQ.rd {ins : Instr} {g : Int → Option (Int × Obj)} (hF : F[k]? = some (some (n, d, ty, len))) (hl : 0 < len) (hi : (ins = .iaload ∧ ty = .int) ∨ (ins = .baload ∧ ty = .byte) ∨ (ins = .baload ∧ ty = .boolean) ∨ (ins = .caload ∧ ty = .char)) (hd : decode M.2.1 pc = .ok (ins, 1)) (hp : pc + 1 = pc')
    (nx : ∀ z, GQ (XA l Z n0 C F cv h0) M kc ks pc' L (I z :: S) σ (g z)) : GQ (XA l Z n0 C F cv h0) M kc ks pc L (I i :: Rf (k + 1) :: S) σ (rB (σ.2 k) len i g) := by
  subst hp
  unfold rB
  refine GQ.guard (fun hin => ?_)
  refine GQ.heap (nx _) (fun {p e R s m args below meth c T locs cells slots Ls} Y hx hZ hown hnm hby hr hS hF' => ?_)
  obtain ⟨-, cl, A, q3, q4⟩ := (hr.1.2 k _ hF).2 hl
  obtain ⟨j1, j2⟩ := i_in (cs := cl.slots.size) hS.hd (by rw [q3]; exact hin)
  obtain ⟨v1, v2⟩ := q4 i.toNat (by show i.toNat < len; omega)
  have v1 : cl.slots[(o32 i).toNatClampNeg]? = some (.int (o32 (σ.2 k i.toNat))) := by rw [j2]; exact v1
  have hA : ∀ t, ty = t → s.isArrayOf cl t := fun t e => e ▸ State.isArrayOf_alike hZ.alike A.2.1
  refine ⟨T, locs, Y, hr, hS.tl.tl.cons (fitI_in v2), hF', fun t st => ?_⟩
  have st' : Steps p.tables e below (T.setTop { (mkF m pc Ls ((I i :: Rf (k + 1) :: S).map (cval cv))) with pc := pc + 1, stack := .int (o32 (σ.2 k i.toNat)) :: S.map (cval cv) }) t := st
  rcases hi with ⟨rfl, rfl⟩ | ⟨rfl, rfl⟩ | ⟨rfl, rfl⟩ | ⟨rfl, rfl⟩
  · exact Y.iaload hx A.1 (hA _ rfl) A.2.2 j1 v1 (g := mkF m pc Ls ((I i :: Rf (k + 1) :: S).map (cval cv))) rfl rfl (hb hby hd) t st'
  · exact Y.baloadBytes hx A.1 (hA _ rfl) A.2.2 j1 v1 (g := mkF m pc Ls ((I i :: Rf (k + 1) :: S).map (cval cv))) rfl rfl (hb hby hd) t st'
  · exact Y.baloadBooleans hx A.1 (hA _ rfl) A.2.2 j1 v1 (g := mkF m pc Ls ((I i :: Rf (k + 1) :: S).map (cval cv))) rfl rfl (hb hby hd) t st'
  · exact Y.caload hx A.1 (hA _ rfl) A.2.2 j1 v1 (g := mkF m pc Ls ((I i :: Rf (k + 1) :: S).map (cval cv))) rfl rfl (hb hby hd) t st'
theorem GQ.wr {ins : Instr} {g : Obj → Option (Int × Obj)} (K : KA a0 Z n0 C nI F cv) (hF : F[k]? = some (some (n, d, ty, len))) (hl : 0 < len) (hi : (ins = .iastore ∧ ty = .int) ∨ (ins = .bastore ∧ ty = .byte) ∨ (ins = .bastore ∧ ty = .boolean) ∨ (ins = .castore ∧ ty = .char)) (hd : decode M.2.1 pc = .ok (ins, 1)) (hp : pc + 1 = pc')
    (nx : ∀ s, GQ (XA l Z n0 C F cv h0) M kc ks pc' L S s (g s)) : GQ (XA l Z n0 C F cv h0) M kc ks pc L (I x :: I i :: Rf (k + 1) :: S) σ (wB σ k len i (nrw ty x) g) := by
  subst hp
  unfold wB
  refine GQ.guard (fun hin => ?_)
  refine GQ.heap (nx _) (fun {p e R s m args below meth c T locs cells slots Ls} Y hx hZ hown hnm hby hr hS hF' => ?_)
  obtain ⟨⟨K1, K2, K3⟩, hI, hn⟩ := K
  obtain ⟨-, cl, A, q3, q4⟩ := (hr.1.2 k _ hF).2 hl
  obtain ⟨c1, c2, c3⟩ := K1 k _ hF
  have hxx : InR x := hS.hd
  obtain ⟨j1, j2⟩ := i_in (cs := cl.slots.size) hS.hd2 (by rw [q3]; exact hin)
  have fin : (∃ T' h', Stand p l e R s m args below meth c T' (locs ++ [⟨cv (k + 1), (o32 i).toNatClampNeg⟩]) cells slots ∧ T'.heap = h' ∧ Wr T.heap h' (cv (k + 1)) (o32 i).toNatClampNeg (.int (nar ty (o32 x))) ∧ ∀ target, Steps p.tables e below (T'.setTop { (mkF m pc Ls ((I x :: I i :: Rf (k + 1) :: S).map (cval cv))) with pc := pc + 1, stack := S.map (cval cv) }) target → Steps p.tables e below (T.setTop (mkF m pc Ls ((I x :: I i :: Rf (k + 1) :: S).map (cval cv)))) target) →
      ∃ (T1 : State) (locs1 : List Loc), Stand p l e R s m args below meth c T1 locs1 cells slots ∧ (XA l Z n0 C F cv h0).rep (setA σ k i.toNat (nrw ty x)) T1.heap ∧ SOk S ∧ Fr n0 locs1 ∧ ∀ target, Steps p.tables e below (T1.setTop (mkF m (pc + 1) Ls (S.map (cval cv)))) target → Steps p.tables e below (T.setTop (mkF m pc Ls ((I x :: I i :: Rf (k + 1) :: S).map (cval cv)))) target := by
    rintro ⟨T1, h1, Y1, e1, W1, st⟩
    rw [j2, nar_nrw c2 hxx] at W1
    exact ⟨T1, _, Y1, by rw [e1]; exact ⟨hr.1.putA hI hF hl (fit_nrw c2 hxx) W1, hr.2.1.wr W1 (Or.inl (okJ.mem (okJ.arr hF hl))), W1.size.trans hr.2.2⟩, hS.tl.tl.tl, Fr.snoc Y1 hF' (hn _), st⟩
  rcases hi with ⟨rfl, rfl⟩ | ⟨rfl, rfl⟩ | ⟨rfl, rfl⟩ | ⟨rfl, rfl⟩
  · exact fin (stI Y hx hZ rfl A j1 rfl rfl (hb hby hd))
  · exact fin (stB Y hx hZ rfl A j1 rfl rfl (hb hby hd))
  · exact fin (stZ Y hx hZ rfl A j1 rfl rfl (hb hby hd))
  · exact fin (stC Y hx hZ rfl A j1 rfl rfl (hb hby hd))
theorem GQ.lenA (hF : F[k]? = some (some (n, d, ty, len))) (hl : decide (0 < len ∧ len < 2147483648) = true) (hd : decode M.2.1 pc = .ok (.arraylength, 1)) (hp : pc + 1 = pc')
    (nx : GQ (XA l Z n0 C F cv h0) M kc ks pc' L (I (len : Int) :: S) σ o) : GQ (XA l Z n0 C F cv h0) M kc ks pc L (Rf (k + 1) :: S) σ o := by
  subst hp
  obtain ⟨hl1, hl2⟩ := of_decide_eq_true hl
  refine GQ.heap nx (fun {p e R s m args below meth c T locs cells slots Ls} Y hx hZ hown hnm hby hr hS hF' => ?_)
  obtain ⟨-, cl, A, q3, q4⟩ := (hr.1.2 k _ hF).2 hl1
  refine ⟨T, locs, Y, hr, hS.tl.cons (show InR (len : Int) from ⟨by omega, by omega⟩), hF', fun t st => ?_⟩
  refine Y.arraylength hx A.1 (State.isArrayOf_alike hZ.alike A.2.1) (g := mkF m pc Ls ((Rf (k + 1) :: S).map (cval cv))) rfl rfl (hb hby hd) t ?_
  have e1 : cl.slots.size.toInt32 = o32 (len : Int) := by rw [q3]; apply Int32.toInt_inj.mp; rw [len_toInt (by show len < 2 ^ 31; omega), t32i ⟨by omega, by omega⟩]
  rw [e1]; exact st
theorem XA.recv (h : Heap) (hr : (XA l Z n0 C F cv h0).rep σ h) : ∃ cell, h[(XA l Z n0 C F cv h0).cv 0]? = some cell ∧ ∀ q, cell.vm ≠ .statics q := hr.1.1.cell
theorem XA.exa (h : Heap) (hr : (XA l Z n0 C F cv h0).rep σ h) : Exa (XA l Z n0 C F cv h0).2.1 h ((XA l Z n0 C F cv h0).cv 0) C := hr.1.1
end MemRules
/-! the constructor: its field initialisers, then its body -/
def cvO (pos : Nat → Nat) (a : Nat) : Nat → Nat
  | 0 => a
  | k + 1 => a + 1 + pos k
abbrev PS : Type := (Nat → Int) × (Nat → Bool) × Nat
def IRep (Z : State) (C : String) (F : List (Option Fe)) (cv : Nat → Nat) (h0 : Heap) (q : PS) (h : Heap) : Prop :=
  Exa Z h (cv 0) C ∧ h.size = h0.size + q.2.2 ∧ Keep h0 h [cv 0] ∧ cv 0 < h0.size ∧ (∀ (k : Nat) (e : Fe), F[k]? = some (some e) → (e.2.2.2 = 0 → Fld Z h (cv 0) C e.1 e.2.1 (.int (o32 (q.1 k))) ∧ fitI e.2.2.1 (q.1 k)) ∧ (0 < e.2.2.2 → (q.2.1 k = true → Fld Z h (cv 0) C e.1 e.2.1 (.ref (cv (k + 1))) ∧ ARep Z h (cv (k + 1)) e.2.2.1 e.2.2.2 (fun _ => 0) ∧ h0.size ≤ cv (k + 1)) ∧ (q.2.1 k = false → Fld Z h (cv 0) C e.1 e.2.1 .null)))
def XP (l : Launch) (Z : State) (n0 : Nat) (C : String) (F : List (Option Fe)) (pos : Nat → Nat) (a : Nat) (h0 : Heap) (nA : Nat) : Cx (Sum PS Obj) :=
  (l, Z, n0, cvO pos a, fun q h => match q with
    | .inl q => IRep Z C F (cvO pos a) h0 q h
    | .inr σ => ORep Z C F (cvO pos a) σ h ∧ Keep h0 h [a] ∧ h.size = h0.size + nA)
theorem ARep.new {Z : State} {h : Heap} {a : Nat} {cA : ClassId} {ty : FieldType} {n : Int} (hi : intK ty = true) (A : Arr Z h a (newA cA ty (o32 n)) ty) (hn : 0 ≤ n) (hb : n < 2147483648) : ARep Z h a ty n.toNat (fun _ => 0) := by
  have e : (o32 n).toNatClampNeg = n.toNat := by simp only [Int32.toNatClampNeg, t32i (show InR n from ⟨by omega, hb⟩)]
  refine ⟨_, A, by rw [sz_new, e], fun i hi' => ⟨?_, ?_⟩⟩
  · have : (newA cA ty (o32 n)).slots[i]? = some (defaultValue ty) := by simp [newA, e, hi']
    rw [this]
    cases ty <;> first | rfl | (exact absurd hi (by decide)) | (simp [intK] at hi)
  · cases ty <;> first | (exact Or.inl rfl) | (simp only [fitI, InR]; omega) | (simp [intK] at hi)
theorem ARep.ext {Z : State} {h h' : Heap} {a : Nat} {ty : FieldType} {len : Nat} {f : Nat → Int} (E : Ext h h') (A : ARep Z h a ty len f) : ARep Z h' a ty len f := by
  obtain ⟨c, h1, h2⟩ := A; exact ⟨c, h1.ext E, h2⟩
section Init
variable {l : Launch} {Z : State} {n0 : Nat} {C : String} {F : List (Option Fe)} {pos : Nat → Nat} {a : Nat} {h0 : Heap} {nA : Nat} {M : Mi} {kc ks pc pc' idx k nI : Nat} {L L' : List (Option AV)} {S S' : List AV} {q : PS} {o : Option (Int × Sum PS Obj)} {x y i : Int} {a0 : Array Value} {n d : String} {ty : FieldType} {len : Nat}
theorem GQ.init0 (w1 : (Jvm.Cond.methodLink M.1.cls idx Lib.objectInit).before a0 Z = true) (w2 : (Jvm.Cond.instanceMethod Lib.objectInit).before a0 Z = true) (w3 : (Jvm.Cond.code Lib.objectInit ⟨#[0xb1]⟩ 1 none).before a0 Z = true) (hf : 1 ≤ M.2.2.2.2.1) (hl : 12 ≤ M.2.2.2.2.2) (hd : decode M.2.1 pc = .ok (.invokespecial idx, 3)) (hp : pc + 3 = pc') {σ : Sum PS Obj}
    (nx : GQ (XP l Z n0 C F pos a h0 nA) M kc ks pc' L [] σ o) : GQ (XP l Z n0 C F pos a h0 nA) M kc ks pc L [Rf 0] σ o := by
  intro z σ' ho p e R s m args below meth c T locs cells slots Ls Y hx hZ hown hnm hby hml hrt hf' hl' hc hs hrep hL hS hLl hF
  subst hp
  obtain ⟨T1, Y1, e1, st⟩ := initO Y hx hZ hown w1 w2 w3 rfl (g := mkF m pc Ls ([Rf 0].map (cval (cvO pos a)))) rfl (by show Ls.size = _; rw [hL.1, hLl, hml]) (a := a) (rest := []) rfl (hb hby hd) (by omega) (W := 0) (by show 2 * 0 + _ ≤ _; exact Nat.le_refl _) (by omega)
  obtain ⟨T', locs', Y', hrep', hF', hv1, hv2, st'⟩ := nx z σ' ho p e R s m args below meth c T1 locs cells slots Ls Y1 hx hZ hown hnm hby hml hrt hf' hl' hc hs (by rw [e1]; exact hrep) hL hS.tl hLl hF
  exact ⟨T', locs', Y', hrep', hF', hv1, hv2, fun fs hfs => st _ (st' fs hfs)⟩
theorem GQ.ini (K : CA a0 Z C nI F) (hn0 : n0 ≤ a) (hF : F[k]? = some (some (n, d, ty, 0))) (w : (Jvm.Cond.fieldLink M.1.cls idx C n d).before a0 Z = true) (wl : (Jvm.Cond.lays C C n d).before a0 Z = true ∨ ((Jvm.Cond.laysFinal C C n d).before a0 Z = true ∧ M.1.cls = C ∧ M.1.name = "<init>")) (hd : decode M.2.1 pc = .ok (.putfield idx, 3)) (hp : pc + 3 = pc')
    (nx : GQ (XP l Z n0 C F pos a h0 nA) M kc ks pc' L S (.inl (upd q.1 k (nrw ty x), q.2)) o) : GQ (XP l Z n0 C F pos a h0 nA) M kc ks pc L (I x :: Rf 0 :: S) (.inl q) o := by
  subst hp
  refine GQ.heap nx (fun {p e R s m args below meth c T locs cells slots Ls} Y hx hZ hown hnm hby hr hS hF' => ?_)
  obtain ⟨r1, r2, r3, r4, r5⟩ := hr
  have r4 : h0.size > cvO pos a 0 := r4
  obtain ⟨q1, q2⟩ := (r5 k _ hF).1 rfl
  obtain ⟨K1, K2, K3⟩ := K
  obtain ⟨c1, c2, c3⟩ := K1 k _ hF
  have hxx : InR x := hS.hd
  obtain ⟨T1, h1, Y1, e1, W1, st⟩ := putFN Y hx hZ hown w Via.refl rfl q1 r1 (wl.imp id fun g => ⟨g.1, g.2.1, hnm.trans g.2.2⟩) K3 (ty := ty) c3 (narrow_nrw c2 hxx) (fits_of (fit_nrw c2 hxx)) (g := mkF m pc Ls ((I x :: Rf 0 :: S).map (cval (cvO pos a)))) rfl rfl (hb hby hd)
  have ne : ∀ j, h0.size ≤ cvO pos a (j + 1) → cvO pos a (j + 1) ≠ cvO pos a 0 := fun j hj q => by rw [q] at hj; omega
  refine ⟨T1, _, Y1, ?_, hS.tl.tl, Fr.snoc Y1 hF' hn0, st⟩
  rw [e1]
  refine ⟨r1.wr W1, W1.size.trans r2, r3.wr W1 (Or.inl (List.mem_singleton.mpr rfl)), r4, fun j e' hj => ⟨fun hl' => ?_, fun hl' => ⟨fun ha => ?_, fun ha => ?_⟩⟩⟩
  · obtain ⟨p1, p2⟩ := (r5 j e' hj).1 hl'
    by_cases ej : j = k
    · subst ej
      cases hF.symm.trans hj
      show Fld Z h1 _ C n d (.int (o32 (upd q.1 j (nrw ty x) j))) ∧ fitI ty (upd q.1 j (nrw ty x) j)
      rw [upd_same]; exact ⟨p1.same W1, fit_nrw c2 hxx⟩
    · show Fld Z h1 _ C e'.1 e'.2.1 (.int (o32 (upd q.1 k (nrw ty x) j))) ∧ fitI e'.2.2.1 (upd q.1 k (nrw ty x) j)
      rw [upd_ne _ _ ej]
      exact ⟨p1.other W1 (Or.inr (slot_ne (K1 j e' hj).1 c1 (fun z => ej (K2 j k e' _ hj hF z)) (K1 j e' hj).2.2 c3)), p2⟩
  all_goals have ej : j ≠ k := fun z => by subst z; cases hF.symm.trans hj; exact absurd hl' (Nat.lt_irrefl 0)
  · obtain ⟨p1, p2, p3⟩ := ((r5 j e' hj).2 hl').1 ha
    exact ⟨p1.other W1 (Or.inr (slot_ne (K1 j e' hj).1 c1 (fun z => ej (K2 j k e' _ hj hF z)) (K1 j e' hj).2.2 c3)), p2.other W1 (ne j p3), p3⟩
  · exact (((r5 j e' hj).2 hl').2 ha).other W1 (Or.inr (slot_ne (K1 j e' hj).1 c1 (fun z => ej (K2 j k e' _ hj hF z)) (K1 j e' hj).2.2 c3))
theorem GQ.newA {aty : ArrayType} {pc1 : Nat} (K : CA a0 Z C nI F) (hn0 : n0 ≤ a) (hF : F[k]? = some (some (n, d, newarray.typeOf aty, x.toNat))) (hx0 : decide (0 < x ∧ x * 8 ≤ 536870912) = true) (hal : q.2.1 k = false) (hcv : h0.size = a + 1) (hpos : pos k = q.2.2) (wa : (Jvm.Cond.arrayClass (newarray.typeOf aty)).before a0 Z = true)
    (w : (Jvm.Cond.fieldLink M.1.cls idx C n d).before a0 Z = true) (wl : (Jvm.Cond.lays C C n d).before a0 Z = true ∨ ((Jvm.Cond.laysFinal C C n d).before a0 Z = true ∧ M.1.cls = C ∧ M.1.name = "<init>"))
    (hd : decode M.2.1 pc = .ok (.newarray aty, 2)) (hp1 : pc + 2 = pc1) (hd' : decode M.2.1 pc1 = .ok (.putfield idx, 3)) (hp : pc1 + 3 = pc')
    (nx : GQ (XP l Z n0 C F pos a h0 nA) M kc ks pc' L S (.inl (q.1, upd q.2.1 k true, q.2.2 + 1)) o) : GQ (XP l Z n0 C F pos a h0 nA) M (kc + 1) (ks + x.toNat) pc L (I x :: Rf 0 :: S) (.inl q) o := by
  subst hp hp1
  intro z σ' ho p e R s m args below meth c T locs cells slots Ls Y hx hZ hown hnm hby hml hrt hf' hl' hc hs hrep hL hS hLl hF'
  obtain ⟨r1, r2, r3, r4, r5⟩ := hrep
  have r2 : T.heap.size = h0.size + q.2.2 := r2
  have r4 : h0.size > cvO pos a 0 := r4
  obtain ⟨K1, K2, K3⟩ := K
  obtain ⟨c1, c2, c3⟩ := K1 k _ hF
  obtain ⟨x1, x2⟩ := of_decide_eq_true hx0
  have hxx : InR x := hS.hd
  have hxn : (o32 x).toNatClampNeg = x.toNat := by simp only [Int32.toNatClampNeg, t32i hxx]
  have hxneg : ¬ o32 x < 0 := fun q => by have := Int32.lt_iff_toInt_lt.mp q; rw [t32i hxx] at this; have e0 : (0 : Int32).toInt = 0 := rfl; omega
  have p0 := ((r5 k _ hF).2 (by show 0 < x.toNat; omega)).2 hal
  obtain ⟨cA, kA, comp, f1, f2, f3, Y1, st1⟩ := Y.newarrayPrim hx (mvA hZ wa) (g := mkF m pc Ls ((I x :: Rf 0 :: S).map (cval (cvO pos a)))) rfl (hb hby hd) (n := o32 x) (rest := (Rf 0 :: S).map (cval (cvO pos a))) rfl hxneg (Nat.le_trans (Nat.mul_le_mul (Nat.le_of_eq hxn) (show componentBytes (newarray.typeOf aty) ≤ 8 by cases aty <;> decide)) (by omega)) (by omega) (by omega)
  obtain ⟨h1, e1⟩ : ∃ h1, (T.pushCell { cls := cA, slots := Array.replicate (o32 x).toNatClampNeg (defaultValue (newarray.typeOf aty)), vm := .none }).heap = h1 := ⟨_, rfl⟩
  have e1' : h1 = T.heap.push (newA cA (newarray.typeOf aty) (o32 x)) := e1.symm
  have hk2 : h1.size = T.heap.size + 1 := by rw [e1']; simp
  have E1 : Ext T.heap h1 := ⟨by omega, fun b c hb => by rw [e1', Array.getElem?_push_lt (Array.getElem?_eq_some_iff.mp hb).1]; exact (Array.getElem?_eq_getElem _).symm.trans hb⟩
  have A1 : Arr Z h1 T.heap.size (newA cA (newarray.typeOf aty) (o32 x)) (newarray.typeOf aty) := by
    rw [hZ.alike.findClass] at f1
    obtain ⟨kZ, z1, -⟩ := Vm.findClass_spec f1
    obtain ⟨k', z2, z3⟩ := hZ.alike.2.2 _ _ z1
    cases f2.symm.trans z2
    exact ⟨by rw [e1']; simp, ⟨by simp [newA], kZ, z1, comp, by rw [← f3, z3]⟩, by simp [newA]⟩
  have hsz : T.heap.size = cvO pos a (k + 1) := by rw [r2, hcv, ← hpos]; rfl
  rw [hsz] at A1 st1
  have p0' : Fld Z h1 (cvO pos a 0) C n d .null := p0.ext E1
  have c3' : parseFieldDescriptor d = some (.array (newarray.typeOf aty)) := by
    have q0 : ¬ x.toNat = 0 := by omega
    simpa [q0] using c3
  obtain ⟨T2, h2, Y2, e2, W2, st2⟩ := putF Y1 hx hZ hown (host := "") (Or.inl w) Via.refl e1 p0' (r1.ext E1) (wl.imp id fun g => ⟨g.1, g.2.1, hnm.trans g.2.2⟩) K3 (ty := .array (newarray.typeOf aty)) c3' (v := .ref (cvO pos a (k + 1))) rfl rfl (g := mkF m (pc + 2) Ls (.ref (cvO pos a (k + 1)) :: (Rf 0 :: S).map (cval (cvO pos a)))) rfl rfl (hb hby hd')
  have nek : h0.size ≤ cvO pos a (k + 1) := by rw [← hsz]; omega
  have ne : ∀ j, h0.size ≤ cvO pos a (j + 1) → cvO pos a (j + 1) ≠ cvO pos a 0 := fun j hj q => by rw [q] at hj; omega
  have hrep2 : IRep Z C F (cvO pos a) h0 (q.1, upd q.2.1 k true, q.2.2 + 1) T2.heap := by
    rw [e2]
    refine ⟨(r1.ext E1).wr W2, by rw [W2.size, hk2, r2]; show _ = h0.size + (q.2.2 + 1); omega, (r3.ext E1).wr W2 (Or.inl (List.mem_singleton.mpr rfl)), r4, fun j e' hj => ⟨fun hl' => ?_, fun hl' => ⟨fun ha => ?_, fun ha => ?_⟩⟩⟩
    · obtain ⟨p1, p2⟩ := (r5 j e' hj).1 hl'
      have ej : j ≠ k := fun z => by subst z; cases hF.symm.trans hj; simp at hl'; omega
      exact ⟨(p1.ext E1).other W2 (Or.inr (slot_ne (K1 j e' hj).1 c1 (fun z => ej (K2 j k e' _ hj hF z)) (K1 j e' hj).2.2 c3)), p2⟩
    · by_cases ej : j = k
      · subst ej
        cases hF.symm.trans hj
        exact ⟨p0'.same W2, (ARep.new c2 A1 (by omega) (by omega)).other W2 (ne j nek), nek⟩
      · have ha' : q.2.1 j = true := by have : upd q.2.1 k true j = true := ha; rwa [upd_ne _ _ ej] at this
        obtain ⟨p1, p2, p3⟩ := ((r5 j e' hj).2 hl').1 ha'
        exact ⟨(p1.ext E1).other W2 (Or.inr (slot_ne (K1 j e' hj).1 c1 (fun z => ej (K2 j k e' _ hj hF z)) (K1 j e' hj).2.2 c3)), (p2.ext E1).other W2 (ne j p3), p3⟩
    · have ej : j ≠ k := fun z => by subst z; have : upd q.2.1 j true j = false := ha; rw [upd_same] at this; cases this
      have ha' : q.2.1 j = false := by have : upd q.2.1 k true j = false := ha; rwa [upd_ne _ _ ej] at this
      exact ((((r5 j e' hj).2 hl').2 ha').ext E1).other W2 (Or.inr (slot_ne (K1 j e' hj).1 c1 (fun z => ej (K2 j k e' _ hj hF z)) (K1 j e' hj).2.2 c3))
  obtain ⟨T', locs', Y', hrep', hF'', hv1, hv2, st'⟩ := nx z σ' ho p e R s m args below meth c T2 _ _ _ Ls Y2 hx hZ hown hnm hby hml hrt hf' hl' (by omega) (by omega) hrep2 hL hS.tl.tl hLl (Fr.snoc Y2 hF' hn0)
  refine ⟨T', locs', by rw [show cells + (kc + 1) = cells + 1 + kc by omega, show slots + (ks + x.toNat) = slots + (o32 x).toNatClampNeg + ks by omega]; exact Y', hrep', hF'', hv1, hv2, fun fs hfs => st1 _ (st2 _ (st' fs hfs))⟩
end Init
section Init2
variable {l : Launch} {Z : State} {n0 : Nat} {C : String} {F : List (Option Fe)} {pos : Nat → Nat} {a : Nat} {h0 : Heap} {nA : Nat} {M : Mi} {pc : Nat} {L : List (Option AV)} {S : List AV} {q : PS} {o : Option (Int × Obj)}
def emb (o : Option (Int × Obj)) : Option (Int × Sum PS Obj) := o.map fun r => (r.1, .inr r.2)
theorem GQ.body (hal : ∀ (k : Nat) (e : Fe), F[k]? = some (some e) → 0 < e.2.2.2 → q.2.1 k = true) (hcnt : q.2.2 = nA) (hcv : h0.size = a + 1)
    (H : ∀ h1, GQ (XA l Z n0 C F (cvO pos a) h1) M 0 0 pc L S (q.1, fun _ _ => 0) o) : GQ (XP l Z n0 C F pos a h0 nA) M 0 0 pc L S (.inl q) (emb o) := by
  intro z σ' ho p e R s m args below meth c T locs cells slots Ls Y hx hZ hown hnm hby hml hrt hf' hl' hc hs hrep hL hS hLl hF'
  cases hoo : o with
  | none => rw [hoo] at ho; exact nomatch ho
  | some r =>
    obtain ⟨z1, σ1⟩ := r
    rw [hoo] at ho
    cases ho
    obtain ⟨r1, r2, r3, r4, r5⟩ := hrep
    have hO : ORep Z C F (cvO pos a) (q.1, fun _ _ => 0) T.heap := ⟨r1, fun k e hk => ⟨(r5 k e hk).1, fun hl => by
      obtain ⟨p1, p2, -⟩ := ((r5 k e hk).2 hl).1 (hal k e hk hl)
      exact ⟨p1, p2⟩⟩⟩
    obtain ⟨T', locs', Y', ⟨g1, g2, g3⟩, hF'', hv1, hv2, st'⟩ := H T.heap z1 σ1 hoo p e R s m args below meth c T locs cells slots Ls Y hx hZ hown hnm hby hml hrt hf' hl' hc hs ⟨hO, Keep.refl _ _, rfl⟩ hL hS hLl hF'
    refine ⟨T', locs', Y', ⟨g1, r3.trans g2 (fun x hx => ?_), ?_⟩, hF'', hv1, hv2, st'⟩
    · obtain ⟨j, -, rfl⟩ := List.mem_map.mp hx
      cases j with
      | zero => exact Or.inl (List.mem_singleton.mpr rfl)
      | succ j => refine Or.inr ?_; rw [hcv]; show a + 1 ≤ a + 1 + pos j; omega
    · rw [g3, r2, hcnt]
end Init2
/-! the law: objects made, methods called, the script read -/
abbrev MB : Type := List Obj × Bool
def Fresh (Z : State) (C : String) (F : List (Option Fe)) (a : Nat) (h : Heap) : Prop := Exa Z h a C ∧ ∀ (k : Nat) (e : Fe), F[k]? = some (some e) → (e.2.2.2 = 0 → Fld Z h a C e.1 e.2.1 (.int (o32 0))) ∧ (0 < e.2.2.2 → Fld Z h a C e.1 e.2.1 .null)
def cvB (n0 nA : Nat) (sa : Nat) : Nat → Nat
  | 0 => sa
  | j + 1 => n0 + j * (nA + 1)
def RepB (Z : State) (n0 : Nat) (C : String) (F : List (Option Fe)) (pos : Nat → Nat) (nA : Nat) (sa : Nat) (scr : Option (Nat × (Nat → Int))) (w : MB) (h : Heap) : Prop :=
  h.size = n0 + w.1.length * (nA + 1) + (if w.2 then 1 else 0) ∧ (∀ (j : Nat) (σ : Obj), w.1[j]? = some σ → ORep Z C F (cvO pos (n0 + j * (nA + 1))) σ h) ∧ (w.2 = true → Fresh Z C F (n0 + w.1.length * (nA + 1)) h) ∧ ∀ n f, scr = some (n, f) → ARep Z h sa .int n f ∧ n0 > sa ∧ n < 2147483648
def XB (l : Launch) (Z : State) (n0 : Nat) (C : String) (F : List (Option Fe)) (pos : Nat → Nat) (nA : Nat) (sa : Nat) (scr : Option (Nat × (Nat → Int))) : Cx MB := (l, Z, n0, cvB n0 nA sa, RepB Z n0 C F pos nA sa scr)
/-- the words on the class, and where a new object's arrays lie -/
def KB (a0 : Array Value) (Z : State) (C : String) (nI : Nat) (F : List (Option Fe)) (pos : Nat → Nat) (nA : Nat) : Prop :=
  CA a0 Z C nI F ∧ (∀ k, pos k < nA) ∧ ∀ (k k' : Nat) (e e' : Fe), F[k]? = some (some e) → F[k']? = some (some e') → 0 < e.2.2.2 → 0 < e'.2.2.2 → pos k = pos k' → k = k'
def newB (n : Nat) (w : MB) (f : MB → Option (Int × MB)) : Option (Int × MB) := if w.1.length = n ∧ w.2 = false then f (w.1, true) else none
def iniB (n : Nat) (m : Option (Int × Obj)) (w : MB) (f : MB → Option (Int × MB)) : Option (Int × MB) := if w.1.length = n ∧ w.2 = true then (match m with
  | none => none
  | some r => f (w.1 ++ [r.2], false)) else none
def virB (j : Nat) (m : Obj → Option (Int × Obj)) (w : MB) (f : Int → MB → Option (Int × MB)) : Option (Int × MB) := match w.1[j]? with
  | none => none
  | some σ => match m σ with
    | none => none
    | some r => f r.1 (w.1.set j r.2, w.2)
theorem cval_nr {cv cv' : Nat → Nat} {v : AV} (h : ∀ n, v ≠ Rf n) : cval cv v = cval cv' v := by
  rcases v with x | x | n
  · rfl
  · rfl
  · exact absurd rfl (h n)
theorem map_nr {cv cv' : Nat → Nat} {A : List AV} (h : ∀ v ∈ A, ∀ n, v ≠ Rf n) : A.map (cval cv) = A.map (cval cv') := List.map_congr_left fun v hv => cval_nr (h v hv)
theorem KB.inj {a0 : Array Value} {Z : State} {C : String} {nI : Nat} {F : List (Option Fe)} {pos : Nat → Nat} {nA : Nat} (K : KB a0 Z C nI F pos nA) (a : Nat) : Inj F (cvO pos a) := by
  intro j j' hj hj' e
  rcases hj with rfl | ⟨k, f, rfl, h1, h2⟩ <;> rcases hj' with rfl | ⟨k', f', rfl, h1', h2'⟩
  · rfl
  · exfalso; have e : a = a + 1 + pos k' := e; omega
  · exfalso; have e : a + 1 + pos k = a := e; omega
  · have e : a + 1 + pos k = a + 1 + pos k' := e
    rw [K.2.2 k k' f f' h1 h1' h2 h2' (by omega)]
theorem cvO_ge (pos : Nat → Nat) (a : Nat) (j : Nat) : a ≤ cvO pos a j := by cases j with | zero => exact Nat.le_refl _ | succ j => show a ≤ a + 1 + pos j; omega
theorem cvO_lt {pos : Nat → Nat} {nA : Nat} (hp : ∀ k, pos k < nA) (a : Nat) (j : Nat) : cvO pos a j < a + (nA + 1) := by cases j with | zero => show a < a + (nA + 1); omega | succ j => have := hp j; show a + 1 + pos j < a + (nA + 1); omega
theorem box_ne {n0 nA j j' x : Nat} (h : j ≠ j') (h1 : n0 + j * (nA + 1) ≤ x) (h2 : x < n0 + j * (nA + 1) + (nA + 1)) (h3 : n0 + j' * (nA + 1) ≤ x) (h4 : x < n0 + j' * (nA + 1) + (nA + 1)) : False := by
  rcases Nat.lt_or_gt_of_ne h with q | q
  · have := Nat.mul_le_mul_right (nA + 1) (show j + 1 ≤ j' from q); rw [Nat.add_mul] at this; omega
  · have := Nat.mul_le_mul_right (nA + 1) (show j' + 1 ≤ j from q); rw [Nat.add_mul] at this; omega
section Law
variable {l : Launch} {Z : State} {n0 : Nat} {C : String} {F : List (Option Fe)} {pos : Nat → Nat} {nA : Nat} {sa : Nat} {scr : Option (Nat × (Nat → Int))} {M Mc : Mi} {kc ks pc pc' idx nI n : Nat} {L L' : List (Option AV)} {S S' : List AV} {w : MB} {o : Option (Int × MB)} {x y i : Int} {a0 : Array Value}
theorem RepB.size_le {h : Heap} (R : RepB Z n0 C F pos nA sa scr w h) {j : Nat} {σ : Obj} (hj : w.1[j]? = some σ) : n0 + j * (nA + 1) + (nA + 1) ≤ h.size := by
  have h1 := (List.getElem?_eq_some_iff.mp hj).1
  have := Nat.mul_le_mul_right (nA + 1) (show j + 1 ≤ w.1.length from h1)
  rw [Nat.add_mul] at this
  rw [R.1]; omega
/-- a method of object j by its walk -/
theorem GQ.vir {j : Nat} {args0 : List AV} {m : Obj → Option (Int × Obj)} {f : Int → MB → Option (Int × MB)} (KB0 : KB a0 Z C nI F pos nA) (K : Callee a0 Z M Mc args0.length) (hroom0 : Nat.ble (cat S + (Mc.2.2.1 + 11) + Mc.2.2.2.2.2) M.2.2.2.2.2 = true) (hC : Mc.1.cls = C) (hd : decode M.2.1 pc = .ok (.invokevirtual idx, 3)) (hp : pc + 3 = pc')
    (w1 : (Jvm.Cond.methodLink M.1.cls idx Mc.1).before a0 Z = true) (w2 : (Jvm.Cond.instanceMethod Mc.1).before a0 Z = true) (w3 : (Jvm.Cond.declares Mc.1).before a0 Z = true) (w4 : (Jvm.Cond.selects Mc.1.cls Mc.1 Mc.1).before a0 Z = true)
    (hnr : ∀ v ∈ args0, ∀ n, v ≠ Rf n) (hm0 : Nat.ble (spread (Rf 0 :: args0)).length Mc.2.2.1 = true)
    (H : ∀ (cv : Nat → Nat) (h0 : Heap) (σ : Obj), KA a0 Z n0 C nI F cv → GQ (XA l Z n0 C F cv h0) Mc 0 0 0 (entry (Rf 0 :: args0) Mc.2.2.1) [] σ (m σ)) (hst : S' = args0.reverse ++ Rf (j + 1) :: S)
    (nx : ∀ z w', GQ (XB l Z n0 C F pos nA sa scr) M kc ks pc' L ((rval Mc.2.2.2.1 z).toList ++ S) w' (f z w')) : GQ (XB l Z n0 C F pos nA sa scr) M kc ks pc L S' w (virB j m w f) := by
  intro z σ' ho p e R s mm args below meth c T locs cells slots Ls Y hx hZ hown hnm hby hml hrt hf hl hc hs hrep hL hS hLl hF
  subst hst hp
  obtain ⟨k1, k2, k3, k4, k5, k6⟩ := K
  have hroom := Nat.le_of_ble_eq_true hroom0
  have hm := Nat.le_of_ble_eq_true hm0
  unfold virB at ho
  cases hj : w.1[j]? with
  | none => rw [hj] at ho; exact nomatch ho
  | some σ =>
  rw [hj] at ho
  cases hoc : m σ with
  | none => simp only [hoc] at ho; exact nomatch ho
  | some q =>
    obtain ⟨z1, σ1⟩ := q
    simp only [hoc] at ho
    have hS0 := hS.app
    have hrep' : RepB Z n0 C F pos nA sa scr w T.heap := hrep
    obtain ⟨b1, b2, b3, b4⟩ := hrep'
    have hO := b2 j σ hj
    have hka : KA a0 Z n0 C nI F (cvO pos (n0 + j * (nA + 1))) := ⟨KB0.1, KB0.inj _, fun i => Nat.le_trans (Nat.le_add_right _ _) (cvO_ge pos _ i)⟩
    have Hc := H (cvO pos (n0 + j * (nA + 1))) T.heap σ hka
    rw [hoc] at Hc
    have hg : ∀ w ∈ Rf 0 :: args0, good w := fun w hw => (List.mem_cons.mp hw).elim (fun q => q ▸ trivial) (fun q => hS0.1 w (List.mem_reverse.mpr q))
    have hE : Exa Z T.heap (n0 + j * (nA + 1)) Mc.1.cls := by rw [hC]; exact hO.1
    obtain ⟨cq, kq, qa, qb, qc⟩ := isOf (T := T) hZ rfl hE
    obtain ⟨v, vm1, ⟨T1, L1, c1, n1⟩, -, Y1, ⟨Lc, ⟨hv, hr1, hF1, hg1⟩, l1, l2, l3⟩, st⟩ := Y.virtualBack hx (y := Mc.1) (z := Mc.1) hown (mvT hZ w1) (mvT hZ w3) (notFace_of_selects (args := #[]) (mvT hZ w4)) (mvT hZ w4) (mvT hZ w2) k5
      (back_of (X := XA l Z n0 C F (cvO pos (n0 + j * (nA + 1))) T.heap) (W := cat S) Hc rfl k1 hg hm (h := T.heap) ⟨hO, Keep.refl _ _, rfl⟩ hZ k2 k3 (by omega) (by omega)) qa qc (g := mkF mm pc Ls ((args0.reverse ++ Rf (j + 1) :: S).map (cval (cvB n0 nA sa)))) rfl (by show Ls.size = _; rw [hL.1, hLl, hml]) (Steps.refl _) (argsL := args0.map (cval (cvB n0 nA sa))) (rest := S.map (cval (cvB n0 nA sa))) (fun sig q => by rw [List.length_map]; exact k6 sig q) (by simp [cval, cvB]) (by show 2 * 0 + _ ≤ _; rw [cat_eq]; omega) (hb hby hd)
      (fun _ _ => ⟨by show _ = ((Rf 0 :: args0).map (cval (cvO pos (n0 + j * (nA + 1))))).toArray; rw [List.map_cons, map_nr (cv := cvO pos (n0 + j * (nA + 1))) (cv' := cvB n0 nA sa) hnr]; rfl, rfl, by show cells + 0 ≤ _; omega, by show slots + 0 ≤ _; omega⟩)
    dsimp only [Pt.U, Pt.locs, Pt.cells, Pt.slots] at Y1 l1 l2 l3 st hr1
    subst l1 l2 l3 hv
    obtain ⟨g1, g2, g3⟩ := hr1
    have hjl := (List.getElem?_eq_some_iff.mp hj).1
    have wsin : ∀ x : Nat, x ∈ wsOf F (cvO pos (n0 + j * (nA + 1))) → n0 + j * (nA + 1) ≤ x ∧ x < n0 + j * (nA + 1) + (nA + 1) := fun x hx => by
      obtain ⟨i, -, rfl⟩ := List.mem_map.mp hx
      exact ⟨cvO_ge pos _ i, cvO_lt KB0.2.1 _ i⟩
    have hrep1 : RepB Z n0 C F pos nA sa scr (w.1.set j σ1, w.2) T1.heap := by
      refine ⟨by rw [g3, b1]; simp, fun i τ hi => ?_, fun hb' => ?_, fun n f hs' => ?_⟩
      · by_cases e1 : i = j
        · subst e1
          simp [hjl] at hi; subst hi
          exact g1
        · have hi' : w.1[i]? = some τ := by rw [← hi]; exact (List.getElem?_set_ne (Ne.symm e1)).symm
          exact (b2 i τ hi').keep g2 (fun q _ hx => by
            obtain ⟨x1, x2⟩ := wsin _ hx
            exact box_ne e1 (cvO_ge pos _ q) (cvO_lt KB0.2.1 _ q) x1 x2)
      · obtain ⟨f1, f2⟩ := b3 hb'
        have hne : (n0 + w.1.length * (nA + 1)) ∉ wsOf F (cvO pos (n0 + j * (nA + 1))) := fun hx => by
          obtain ⟨x1, x2⟩ := wsin _ hx
          have := Nat.mul_le_mul_right (nA + 1) (show j + 1 ≤ w.1.length from hjl)
          rw [Nat.add_mul] at this; omega
        simp only [List.length_set]
        exact ⟨f1.keep g2, fun k e hk => ⟨fun hl => ((f2 k e hk).1 hl).keep g2 hne, fun hl => ((f2 k e hk).2 hl).keep g2 hne⟩⟩
      · obtain ⟨⟨cl, s1, s2⟩, s3, s4⟩ := b4 n f hs'
        exact ⟨⟨cl, ⟨g2.2.1 _ cl s1.1 (fun hx => by have := (wsin _ hx).1; omega), s1.2⟩, s2⟩, s3, s4⟩
    obtain ⟨T', locs', Y', hrep', hF', hv1, hv2, st'⟩ := nx z1 _ z σ' ho p e R s mm args below meth c T1 _ _ _ Ls Y1 hx hZ hown hnm hby hml hrt hf hl hc hs hrep1 hL (SOk.res hg1 hS0.2.tl) hLl (Fr.app hF hF1)
    refine ⟨T', locs', Y', hrep', hF', hv1, hv2, fun fs hfs => ?_⟩
    have q := st' fs hfs
    refine st.trans ?_
    have e1 : ((rval Mc.2.2.2.1 z1).toList ++ S).map (cval (cvB n0 nA sa)) = ((rval Mc.2.2.2.1 z1).map (cval (cvO pos (n0 + j * (nA + 1))))).toList ++ S.map (cval (cvB n0 nA sa)) := by
      unfold rval; split <;> simp [cval]
    have q' := q
    rw [show (XB l Z n0 C F pos nA sa scr).cv = cvB n0 nA sa from rfl, e1] at q'; exact q'
end Law
/-! small checks by evaluation -/
def distF : List (Option Fe) → Bool
  | [] => true
  | none :: r => distF r
  | some e :: r => r.all (fun o => match o with
    | none => true
    | some e' => e'.1 != e.1) && distF r
theorem distF_ok : ∀ {F : List (Option Fe)}, distF F = true → ∀ (k k' : Nat) (e e' : Fe), F[k]? = some (some e) → F[k']? = some (some e') → e.1 = e'.1 → k = k'
  | [], _, k, k', e, e', h1, _, _ => by simp at h1
  | none :: r, h, k, k', e, e', h1, h2, h3 => by
    cases k with
    | zero => simp at h1
    | succ k => cases k' with
      | zero => simp at h2
      | succ k' => rw [distF_ok (F := r) h k k' e e' (by simpa using h1) (by simpa using h2) h3]
  | some a :: r, h, k, k', e, e', h1, h2, h3 => by
    simp only [distF, Bool.and_eq_true] at h
    obtain ⟨ha, hr⟩ := h
    have key : ∀ (i : Nat) (f : Fe), r[i]? = some (some f) → f.1 ≠ a.1 := fun i f hi q => by
      have := List.all_eq_true.mp ha _ (List.mem_of_getElem? hi)
      simp [q] at this
    cases k with
    | zero =>
      simp at h1; subst h1
      cases k' with
      | zero => rfl
      | succ k' => exact absurd h3.symm (key k' e' (by simpa using h2))
    | succ k => cases k' with
      | zero => simp at h2; subst h2; exact absurd h3 (key k e (by simpa using h1))
      | succ k' => rw [distF_ok (F := r) hr k k' e e' (by simpa using h1) (by simpa using h2) h3]
def alF (al : Nat → Bool) : Nat → List (Option Fe) → Bool
  | _, [] => true
  | k, o :: r => (match o with
    | none => true
    | some e => e.2.2.2 == 0 || al k) && alF al (k + 1) r
theorem alF_ok {al : Nat → Bool} : ∀ {F : List (Option Fe)} {j : Nat}, alF al j F = true → ∀ (k : Nat) (e : Fe), F[k]? = some (some e) → 0 < e.2.2.2 → al (j + k) = true
  | [], _, _, k, e, h1, _ => by simp at h1
  | o :: r, j, h, k, e, h1, h2 => by
    simp only [alF, Bool.and_eq_true] at h
    cases k with
    | zero =>
      simp at h1; subst h1
      have := h.1
      simp only [Bool.or_eq_true, beq_iff_eq] at this
      rcases this with q | q
      · omega
      · exact q
    | succ k =>
      have := alF_ok (F := r) (j := j + 1) h.2 k e (by simpa using h1) h2
      rwa [show j + 1 + k = j + (k + 1) by omega] at this
def posF (P : List Nat) (k : Nat) : Nat := P.getD k 0
theorem posF_lt {P : List Nat} {nA : Nat} (h : P.all (fun x => Nat.blt x nA) = true) (h0 : 0 < nA) (k : Nat) : posF P k < nA := by
  unfold posF
  rw [List.getD_eq_getElem?_getD]
  cases hk : P[k]? with
  | none => exact h0
  | some x => exact Nat.blt_eq.mp (List.all_eq_true.mp h x (List.mem_of_getElem? hk))
/-- the arrays of the table lie one behind the other -/
def seqF : Nat → List (Option Fe) → List Nat → Bool
  | _, [], _ => true
  | c, o :: r, P => (match o with
    | none => seqF c r P.tail
    | some e => if e.2.2.2 = 0 then seqF c r P.tail else Nat.ble c (P.headD 0) && seqF (P.headD 0 + 1) r P.tail)
theorem seqF_ge : ∀ {F : List (Option Fe)} {P : List Nat} {c : Nat}, seqF c F P = true → ∀ (k : Nat) (e : Fe), F[k]? = some (some e) → 0 < e.2.2.2 → c ≤ posF P k
  | [], _, _, _, k, e, h1, _ => by simp at h1
  | o :: r, P, c, h, k, e, h1, h2 => by
    have hp : ∀ k, posF P (k + 1) = posF P.tail k := fun k => by cases P <;> simp [posF]
    cases k with
    | zero =>
      simp at h1; subst h1
      simp only [seqF] at h
      rw [if_neg (by omega)] at h
      simp only [Bool.and_eq_true] at h
      have := Nat.le_of_ble_eq_true h.1
      cases P <;> simpa [posF] using this
    | succ k =>
      rw [hp]
      cases o with
      | none => exact seqF_ge (F := r) h k e (by simpa using h1) h2
      | some a =>
        simp only [seqF] at h
        split at h
        · exact seqF_ge (F := r) h k e (by simpa using h1) h2
        · simp only [Bool.and_eq_true] at h
          have q1 := Nat.le_of_ble_eq_true h.1
          have := seqF_ge (F := r) h.2 k e (by simpa using h1) h2
          omega
theorem seqF_lt : ∀ {F : List (Option Fe)} {P : List Nat} {c : Nat}, seqF c F P = true → ∀ (k k' : Nat) (e e' : Fe), F[k]? = some (some e) → F[k']? = some (some e') → 0 < e.2.2.2 → 0 < e'.2.2.2 → k < k' → posF P k < posF P k'
  | [], _, _, _, k, k', e, e', h1, _, _, _, _ => by simp at h1
  | o :: r, P, c, h, k, k', e, e', h1, h1', h2, h2', hlt => by
    have hp : ∀ k, posF P (k + 1) = posF P.tail k := fun k => by cases P <;> simp [posF]
    cases k' with
    | zero => omega
    | succ k' =>
      cases k with
      | zero =>
        simp at h1; subst h1
        simp only [seqF] at h
        rw [if_neg (by omega)] at h
        simp only [Bool.and_eq_true] at h
        have := seqF_ge (F := r) h.2 k' e' (by simpa using h1') h2'
        rw [hp]
        have e0 : posF P 0 = P.headD 0 := by cases P <;> simp [posF]
        omega
      | succ k =>
        rw [hp, hp]
        cases o with
        | none => exact seqF_lt (F := r) h k k' e e' (by simpa using h1) (by simpa using h1') h2 h2' (by omega)
        | some a =>
          simp only [seqF] at h
          split at h
          · exact seqF_lt (F := r) h k k' e e' (by simpa using h1) (by simpa using h1') h2 h2' (by omega)
          · simp only [Bool.and_eq_true] at h
            exact seqF_lt (F := r) h.2 k k' e e' (by simpa using h1) (by simpa using h1') h2 h2' (by omega)
theorem seqF_inj {F : List (Option Fe)} {P : List Nat} (h : seqF 0 F P = true) (k k' : Nat) (e e' : Fe) (h1 : F[k]? = some (some e)) (h1' : F[k']? = some (some e')) (h2 : 0 < e.2.2.2) (h2' : 0 < e'.2.2.2) (q : posF P k = posF P k') : k = k' := by
  rcases Nat.lt_trichotomy k k' with z | z | z
  · have := seqF_lt h k k' e e' h1 h1' h2 h2' z; omega
  · exact z
  · have := seqF_lt h k' k e' e h1' h1 h2' h2 z; omega
section Law2
variable {l : Launch} {Z : State} {n0 : Nat} {C : String} {F : List (Option Fe)} {pos : Nat → Nat} {nA : Nat} {sa : Nat} {scr : Option (Nat × (Nat → Int))} {M Mc : Mi} {kc ks pc pc' idx nI n : Nat} {L L' : List (Option AV)} {S S' : List AV} {w : MB} {o : Option (Int × MB)} {x y i : Int} {a0 : Array Value}
theorem Fresh.made {h : Heap} {cC : ClassId} {kZ : Class} (K : CA a0 Z C nI F) (h1 : Z.vm.findClass C = some cC) (h2 : Z.vm.classes[cC]? = some kZ) (a : Nat) (hN : h[a]? = some { cls := cC, slots := kZ.instanceTypes.map defaultValue, vm := .none }) : Fresh Z C F a h := by
  have key : ∀ (k : Nat) (e : Fe) (ty : FieldType), F[k]? = some (some e) → parseFieldDescriptor e.2.1 = some ty → Fld Z h a C e.1 e.2.1 (defaultValue ty) := fun k e ty hk ht => by
    obtain ⟨c1, k1, cf, kf, i, f, b1, b2, b3, b4, b5, b6, -⟩ := (K.1 k e hk).1.spec
    cases h1.symm.trans b1
    cases h2.symm.trans b2
    refine ⟨_, cf, kf, i, f, hN, b3, b4, by simp, rfl, b5, ?_⟩
    simp [b6, (State.fieldFound?_type b3 ht).2]
  refine ⟨⟨_, kZ, hN, h1, h2, rfl, fun _ => by simp⟩, fun k e hk => ⟨fun hl => ?_, fun hl => ?_⟩⟩
  · have q := (K.1 k e hk).2.2
    rw [if_pos hl] at q
    have r := key k e _ hk q
    have q2 := (K.1 k e hk).2.1
    revert r q2
    cases e.2.2.1 <;> intro r q2 <;> first | exact r | (simp [intK] at q2)
  · have q := (K.1 k e hk).2.2
    rw [if_neg (by omega)] at q
    exact key k e _ hk q
theorem ORep.ext {σ : Obj} {cv : Nat → Nat} {h h' : Heap} (E : Ext h h') (R : ORep Z C F cv σ h) : ORep Z C F cv σ h' :=
  ⟨R.1.ext E, fun k e hk => ⟨fun hl => ⟨((R.2 k e hk).1 hl).1.ext E, ((R.2 k e hk).1 hl).2⟩, fun hl => ⟨((R.2 k e hk).2 hl).1.ext E, ((R.2 k e hk).2 hl).2.ext E⟩⟩⟩
theorem GQ.new {f : MB → Option (Int × MB)} (KB0 : KB a0 Z C nI F pos nA) (w1 : (Jvm.Cond.classLink M.1.cls idx C).before a0 Z = true) (w2 : (Jvm.Cond.initialized C).before a0 Z = true) (hd : decode M.2.1 pc = .ok (.new idx, 3)) (hp : pc + 3 = pc')
    (nx : ∀ w', GQ (XB l Z n0 C F pos nA sa scr) M kc ks pc' L (Rf (n + 1) :: S) w' (f w')) : GQ (XB l Z n0 C F pos nA sa scr) M (kc + 1) (ks + nI) pc L S w (newB n w f) := by
  subst hp
  unfold newB
  refine GQ.guard (fun hq => ?_)
  obtain ⟨hq1, hq2⟩ := hq
  intro z σ' ho p e R s mm args below meth c T locs cells slots Ls Y hx hZ hown hnm hby hml hrt hf hl hc hs hrep hL hS hLl hF
  have hrep' : RepB Z n0 C F pos nA sa scr w T.heap := hrep
  obtain ⟨b1, b2, b3, b4⟩ := hrep'
  obtain ⟨vm', cC, kC, h1, h2, h3, h4, Y', st⟩ := Y.newCold hx hown (mv hZ w1) (mv hZ KB0.1.2.2) (mv hZ w2) (g := mkF mm pc Ls (S.map (cval (cvB n0 nA sa)))) rfl (hb hby hd) (by omega) (by omega)
  rw [hZ.alike.findClass] at h1
  obtain ⟨kZ, z1, -⟩ := Vm.findClass_spec h1
  obtain ⟨k', z2, z3⟩ := hZ.alike.2.2 _ _ z1
  cases h2.symm.trans z2
  have ei : kC.instanceTypes = kZ.instanceTypes := by rw [z3]
  obtain ⟨h', e1⟩ : ∃ h', ((T.setVm vm').pushCell { cls := cC, slots := kC.instanceTypes.map defaultValue, vm := .none }).heap = h' := ⟨_, rfl⟩
  have e1' : h' = T.heap.push { cls := cC, slots := kC.instanceTypes.map defaultValue, vm := .none } := e1.symm
  have hsz : h'.size = T.heap.size + 1 := by rw [e1']; simp
  have E1 : Ext T.heap h' := ⟨by omega, fun b c hb => by rw [e1', Array.getElem?_push_lt (Array.getElem?_eq_some_iff.mp hb).1]; exact (Array.getElem?_eq_getElem _).symm.trans hb⟩
  have hat : T.heap.size = n0 + w.1.length * (nA + 1) := by rw [b1, hq2]; rfl
  have hfr : Fresh Z C F (n0 + w.1.length * (nA + 1)) h' := Fresh.made KB0.1 h1 z1 _ (by rw [← hat, e1', ← ei]; simp)
  have hrep1 : RepB Z n0 C F pos nA sa scr (w.1, true) ((T.setVm vm').pushCell { cls := cC, slots := kC.instanceTypes.map defaultValue, vm := .none }).heap := by
    rw [e1]
    refine ⟨by rw [hsz, hat]; rfl, fun j σ hj => (b2 j σ hj).ext E1, fun _ => hfr, fun n f hs' => ?_⟩
    obtain ⟨s1, s2⟩ := b4 n f hs'
    exact ⟨s1.ext E1, s2⟩
  obtain ⟨T', locs', Y2, hrep2, hF', hv1, hv2, st'⟩ := nx (w.1, true) z σ' ho p e R s mm args below meth c _ locs _ _ Ls Y' hx hZ hown hnm hby hml hrt hf hl (by omega) (by omega) hrep1 hL (hS.cons trivial) hLl hF
  refine ⟨T', locs', by rw [show cells + (kc + 1) = cells + 1 + kc by omega, show slots + (ks + nI) = slots + nI + ks by omega]; exact Y2, hrep2, hF', hv1, hv2, fun fs hfs => st _ ?_⟩
  have q := st' fs hfs
  have e2 : cval (cvB n0 nA sa) (Rf (n + 1)) = Value.ref T.heap.size := by rw [hat, hq1]; rfl
  rw [show (XB l Z n0 C F pos nA sa scr).cv = cvB n0 nA sa from rfl, List.map_cons, e2] at q
  exact q
theorem GQ.init {args0 : List AV} {oc : Option (Int × Obj)} {f : MB → Option (Int × MB)} {sl : Nat} (KB0 : KB a0 Z C nI F pos nA) (K : Callee a0 Z M Mc args0.length) (hroom0 : Nat.ble (cat S + (Mc.2.2.1 + 11) + Mc.2.2.2.2.2) M.2.2.2.2.2 = true) (hrt : Mc.2.2.2.1 = none) (hnm0 : Mc.1.name = "<init>") (hd : decode M.2.1 pc = .ok (.invokespecial idx, 3)) (hp : pc + 3 = pc')
    (w1 : (Jvm.Cond.methodLink M.1.cls idx Mc.1).before a0 Z = true) (w2 : (Jvm.Cond.instanceMethod Mc.1).before a0 Z = true) (hnr : ∀ v ∈ args0, ∀ n, v ≠ Rf n) (hm0 : Nat.ble (spread (Rf 0 :: args0)).length Mc.2.2.1 = true)
    (H : ∀ (a : Nat) (h0 : Heap), n0 ≤ a → h0.size = a + 1 → GQ (XP l Z n0 C F pos a h0 nA) Mc nA sl 0 (entry (Rf 0 :: args0) Mc.2.2.1) [] (.inl (fun _ => 0, fun _ => false, 0)) (emb oc)) (hst : S' = args0.reverse ++ Rf (n + 1) :: S)
    (nx : ∀ w', GQ (XB l Z n0 C F pos nA sa scr) M kc ks pc' L S w' (f w')) : GQ (XB l Z n0 C F pos nA sa scr) M (kc + nA) (ks + sl) pc L S' w (iniB n oc w f) := by
  subst hst hp
  unfold iniB
  refine GQ.guard (fun hq => ?_)
  obtain ⟨hq1, hq2⟩ := hq
  intro z σ' ho p e R s mm args below meth c T locs cells slots Ls Y hx hZ hown hnm hby hml hrt' hf hl hc hs hrep hL hS hLl hF
  obtain ⟨k1, k2, k3, k4, k5, k6⟩ := K
  have hroom := Nat.le_of_ble_eq_true hroom0
  have hm := Nat.le_of_ble_eq_true hm0
  cases hoc : oc with
  | none => rw [hoc] at ho; exact nomatch ho
  | some q =>
    obtain ⟨z1, σ1⟩ := q
    rw [hoc] at ho
    have ho : f (w.1 ++ [σ1], false) = some (z, σ') := ho
    have hS0 := hS.app
    have hrep' : RepB Z n0 C F pos nA sa scr w T.heap := hrep
    obtain ⟨b1, b2, b3, b4⟩ := hrep'
    obtain ⟨a, ha⟩ : ∃ a, a = n0 + w.1.length * (nA + 1) := ⟨_, rfl⟩
    have hsz : T.heap.size = a + 1 := by rw [b1, hq2, ha]; rfl
    obtain ⟨fr1, fr2⟩ := b3 hq2
    rw [← ha] at fr1 fr2
    have Hc := H a T.heap (by omega) hsz
    rw [hoc] at Hc
    have hg : ∀ w ∈ Rf 0 :: args0, good w := fun w hw => (List.mem_cons.mp hw).elim (fun q => q ▸ trivial) (fun q => hS0.1 w (List.mem_reverse.mpr q))
    have hfit0 : ∀ (k : Nat) (e : Fe), F[k]? = some (some e) → fitI e.2.2.1 0 := fun k e hk => by
      have q2 := (KB0.1.1 k e hk).2.1
      revert q2
      cases e.2.2.1 <;> intro q2 <;> first | exact Or.inl rfl | (simp only [fitI, InR]; omega) | (simp [intK] at q2)
    have hI : IRep Z C F (cvO pos a) T.heap (fun _ => 0, fun _ => false, 0) T.heap := ⟨fr1, rfl, Keep.refl _ _, by show a < T.heap.size; omega, fun k e hk => ⟨fun hl => ⟨(fr2 k e hk).1 hl, hfit0 k e hk⟩, fun hl => ⟨(fun q => by cases q), fun _ => (fr2 k e hk).2 hl⟩⟩⟩
    obtain ⟨v, vm1, ⟨T1, L1, c1, n1⟩, -, Y1, ⟨Lc, ⟨hv, hr1, hF1, hg1⟩, l1, l2, l3⟩, st⟩ := Y.specialBack hx (y := Mc.1) hnm0 hown (mvT hZ w1) (mvT hZ w2) (mvT hZ (hrt ▸ k2)) k5
      (back_of (X := XP l Z n0 C F pos a T.heap nA) (W := cat S) Hc rfl k1 hg hm (h := T.heap) hI hZ k2 k3 (by omega) (by omega)) (g := mkF mm pc Ls ((args0.reverse ++ Rf (n + 1) :: S).map (cval (cvB n0 nA sa)))) rfl (by show Ls.size = _; rw [hL.1, hLl, hml]) (Steps.refl _) (a := a) (argsL := args0.map (cval (cvB n0 nA sa))) (rest := S.map (cval (cvB n0 nA sa))) (fun sig q => by rw [List.length_map]; exact k6 sig q) (by rw [ha, hq1]; simp [cval, cvB]) (by show 2 * 0 + _ ≤ _; rw [cat_eq]; omega) (hb hby hd)
      (fun _ _ => ⟨by show _ = ((Rf 0 :: args0).map (cval (cvO pos a))).toArray; rw [List.map_cons, map_nr (cv := cvO pos a) (cv' := cvB n0 nA sa) hnr]; rfl, rfl, by show cells + nA ≤ _; omega, by show slots + sl ≤ _; omega⟩)
    dsimp only [Pt.U, Pt.locs, Pt.cells, Pt.slots] at Y1 l1 l2 l3 st hr1
    subst l1 l2 l3 hv
    rw [hrt] at st hg1
    obtain ⟨g1, g2, g3⟩ := hr1
    have hrep1 : RepB Z n0 C F pos nA sa scr (w.1 ++ [σ1], false) T1.heap := by
      refine ⟨?_, fun i τ hi => ?_, (fun hb' => by cases hb'), fun n f hs' => ?_⟩
      · rw [g3, hsz, ha]; show _ = n0 + (w.1 ++ [σ1]).length * (nA + 1) + 0; rw [List.length_append, List.length_singleton, Nat.add_mul]; omega
      · have hi : (w.1 ++ [σ1])[i]? = some τ := hi
        rcases Nat.lt_or_ge i w.1.length with hlt | hge
        · rw [List.getElem?_append_left hlt] at hi
          refine (b2 i τ hi).keep g2 (fun q _ hx => ?_)
          have hx := List.mem_singleton.mp hx
          have r1 := cvO_lt KB0.2.1 (n0 + i * (nA + 1)) q
          rw [hx, ha] at r1
          have := Nat.mul_le_mul_right (nA + 1) (show i + 1 ≤ w.1.length from hlt)
          rw [Nat.add_mul] at this; omega
        · rw [List.getElem?_append_right hge] at hi
          have e0 : i = w.1.length := by
            have := (List.getElem?_eq_some_iff.mp hi).1
            simp at this; omega
          subst e0
          simp at hi; subst hi
          rw [← ha]; exact g1
      · obtain ⟨⟨cl, s1, s2⟩, s3, s4⟩ := b4 n f hs'
        exact ⟨⟨cl, ⟨g2.2.1 _ cl s1.1 (fun hx => absurd (List.mem_singleton.mp hx) (Nat.ne_of_lt (by omega))), s1.2⟩, s2⟩, s3, s4⟩
    obtain ⟨T', locs', Y', hrep', hF', hv1, hv2, st'⟩ := nx _ z σ' ho p e R s mm args below meth c T1 _ _ _ Ls Y1 hx hZ hown hnm hby hml hrt' hf hl (by omega) (by omega) hrep1 hL hS0.2.tl hLl (Fr.app hF hF1)
    refine ⟨T', locs', by rw [show cells + (kc + nA) = cells + nA + kc by omega, show slots + (ks + sl) = slots + sl + ks by omega]; exact Y', hrep', hF', hv1, hv2, fun fs hfs => ?_⟩
    exact st.trans (st' fs hfs)
theorem GQ.scrLen {fs : Nat → Int} (hs : scr = some (n, fs)) (hd : decode M.2.1 pc = .ok (.arraylength, 1)) (hp : pc + 1 = pc')
    (nx : GQ (XB l Z n0 C F pos nA sa scr) M kc ks pc' L (I (n : Int) :: S) w o) : GQ (XB l Z n0 C F pos nA sa scr) M kc ks pc L (Rf 0 :: S) w o := by
  subst hp
  refine GQ.heap nx (fun {p e R s m args below meth c T locs cells slots Ls} Y hx hZ hown hnm hby hr hS hF' => ?_)
  obtain ⟨⟨cl, A, q3, q4⟩, s3, s4⟩ := hr.2.2.2 n fs hs
  refine ⟨T, locs, Y, hr, hS.tl.cons (show InR (n : Int) from ⟨by omega, by omega⟩), hF', fun t st => ?_⟩
  refine Y.arraylength hx A.1 (State.isArrayOf_alike hZ.alike A.2.1) (g := mkF m pc Ls ((Rf 0 :: S).map (cval (cvB n0 nA sa)))) rfl rfl (hb hby hd) t ?_
  have e1 : cl.slots.size.toInt32 = o32 (n : Int) := by rw [q3]; apply Int32.toInt_inj.mp; rw [len_toInt (by omega), t32i ⟨by omega, by omega⟩]
  rw [e1]; exact st
theorem GQ.scrAt {fs : Nat → Int} {g : Int → Option (Int × MB)} (hs : scr = some (n, fs)) (hd : decode M.2.1 pc = .ok (.iaload, 1)) (hp : pc + 1 = pc')
    (nx : ∀ z, GQ (XB l Z n0 C F pos nA sa scr) M kc ks pc' L (I z :: S) w (g z)) : GQ (XB l Z n0 C F pos nA sa scr) M kc ks pc L (I i :: Rf 0 :: S) w (rB fs n i g) := by
  subst hp
  unfold rB
  refine GQ.guard (fun hin => ?_)
  refine GQ.heap (nx _) (fun {p e R s m args below meth c T locs cells slots Ls} Y hx hZ hown hnm hby hr hS hF' => ?_)
  obtain ⟨⟨cl, A, q3, q4⟩, s3, s4⟩ := hr.2.2.2 n fs hs
  obtain ⟨j1, j2⟩ := i_in (cs := cl.slots.size) hS.hd (by rw [q3]; exact hin)
  obtain ⟨v1, v2⟩ := q4 i.toNat (by omega)
  have v1 : cl.slots[(o32 i).toNatClampNeg]? = some (.int (o32 (fs i.toNat))) := by rw [j2]; exact v1
  refine ⟨T, locs, Y, hr, hS.tl.tl.cons (fitI_in v2), hF', fun t st => ?_⟩
  exact Y.iaload hx A.1 (State.isArrayOf_alike hZ.alike A.2.1) A.2.2 j1 v1 (g := mkF m pc Ls ((I i :: Rf 0 :: S).map (cval (cvB n0 nA sa)))) rfl rfl (hb hby hd) t st
end Law2
/-! small helps of the closing rows -/
theorem nr0 : ∀ v ∈ ([] : List AV), ∀ n, v ≠ Rf n := fun _ h => nomatch h
theorem nrI {x : Int} : ∀ n, I x ≠ Rf n := fun n h => nomatch h
theorem nrJ {x : Int} : ∀ n, J x ≠ Rf n := fun n h => nomatch h
theorem nrS {v : AV} {A : List AV} (h1 : ∀ n, v ≠ Rf n) (h2 : ∀ v ∈ A, ∀ n, v ≠ Rf n) : ∀ u ∈ v :: A, ∀ n, u ≠ Rf n := fun u hu => (List.mem_cons.mp hu).elim (fun q => q ▸ h1) (h2 u)
def scrF (c : Cell) (i : Nat) : Int := match c.slots[i]? with
  | some (.int x) => x.toInt
  | _ => 0
theorem scrF_in (c : Cell) (i : Nat) : InR (scrF c i) := by
  unfold scrF
  split
  · exact r32 _
  · exact ⟨by omega, by omega⟩
theorem len_small {s : State} {args : Array Value} {t : Term} {a : Nat} {c : Cell} {ty : FieldType} {x : Int32} (e0 : t.eval args s none [] s = some (.ref a)) (A : Arr s s.heap a c ty) (e1 : (Term.length t).eval args s none [] s = some (.int x)) : c.slots.size < 2147483648 ∧ x = c.slots.size.toInt32 := by
  have q := A.fin (Vm.Alike.refl _)
  simp only [Term.eval, e0, q] at e1
  by_cases h : c.slots.size < 2 ^ 31
  · simp [h, q] at e1
    exact ⟨by omega, (by simpa [show c.slots.size < 2147483648 by omega] using e1 : _ = x).symm⟩
  · have h' : ¬ c.slots.size < 2147483648 := by omega
    simp [h', q] at e1
theorem le_small {s : State} {args : Array Value} {t : Term} {x : Int32} {k : Nat} (e1 : t.eval args s none [] s = some (.int x)) (e2 : x = k.toInt32) (hk : k < 2147483648) (h : (Jvm.Cond.le t (.int 260)).value args s none s [] = some true) : k ≤ 260 := by
  simp only [Cond.value, e1, Term.eval] at h
  have h := of_decide_eq_true (Option.some.inj h)
  rw [Int32.le_iff_toInt_le, e2, len_toInt (by omega)] at h
  have e3 : (260 : Int32).toInt = 260 := rfl
  omega
theorem scr_rep {s : State} {a : Nat} {c : Cell} (hf : Fit s) (A : Arr s s.heap a c .int) (hk : c.slots.size < 2147483648) : ARep s s.heap a .int c.slots.size (scrF c) := by
  refine ⟨c, A, rfl, fun i hi => ?_⟩
  have q := hf A.1 hi
  obtain ⟨hs, k, hkk, comp, hkind⟩ := A.2.1
  have e : s.slotType? c.cls c.vm i = some .int := by
    cases hq : c.vm <;> first | exact absurd hq (hs _) | simp [State.slotType?, hkk, hkind]
  have hfit : fits .int c.slots[i] = true := by simpa [State.fitsSlot, e] using q
  obtain ⟨x, hx⟩ := fit_I hfit (Or.inl rfl)
  have e2 : c.slots[i]? = some (.int x) := by rw [Array.getElem?_eq_getElem hi, hx]
  have e3 : scrF c i = x.toInt := by simp [scrF, e2]
  exact ⟨by rw [e2, e3, o32_t], scrF_in c i⟩
end Jvm.Wp
namespace Jvm.Pilot.@@N@@
open Jvm Jvm.ClassFile Sem Op Lib Jvm.Free Jvm.Stand Jvm.LawKit Jvm.RoadKit Bundle Jvm.Pilot.@@N@@.Jvm.D Jvm.Wp
def FU : Nat := 1000000000
def clamp_M (x1 : Int) (x2 : Int) (x3 : Int) (s : Obj) : Option (Int × Obj) :=
  if x1 < x2 then
    some (x2, s)
  else
    if x3 < x1 then
      some (x3, s)
    else
      some (x1, s)
def resetBlockTables_l2b (k28 : Obj → Option (Int × Obj)) (rec : Int → Obj → Option (Int × Obj)) (x1 : Int) (s : Obj) : Option (Int × Obj) :=
  if x1 < 32 then
    wB s 13 32 x1 (-1) fun s14 =>
    wB s14 14 32 x1 (-1) fun s21 =>
    rec (aAdd x1 1) s21
  else
    k28 s
def resetBlockTables_l2 (k28 : Obj → Option (Int × Obj)) : Nat → Int → Obj → Option (Int × Obj)
  | 0 => fun _ _ => none
  | fu + 1 => resetBlockTables_l2b k28 (resetBlockTables_l2 k28 fu)
def resetBlockTables_l30b (rec : Int → Obj → Option (Int × Obj)) (x1 : Int) (s : Obj) : Option (Int × Obj) :=
  if x1 < 256 then
    wB s 15 256 x1 0 fun s43 =>
    rec (aAdd x1 1) s43
  else
    some (0, s)
def resetBlockTables_l30  : Nat → Int → Obj → Option (Int × Obj)
  | 0 => fun _ _ => none
  | fu + 1 => resetBlockTables_l30b (resetBlockTables_l30 fu)
def resetBlockTables_M (s : Obj) : Option (Int × Obj) :=
  resetBlockTables_l2 (fun s28 =>
    resetBlockTables_l30 FU 0 s28) FU 0 s
def clearMapRow_l13b (x1 : Int) (rec : Int → Obj → Option (Int × Obj)) (x2 : Int) (s : Obj) : Option (Int × Obj) :=
  if x2 < 32 then
    wB s 12 256 (aAdd (aMul x1 32) x2) (-1) fun s30 =>
    rec (aAdd x2 1) s30
  else
    some (0, s)
def clearMapRow_l13 (x1 : Int) : Nat → Int → Obj → Option (Int × Obj)
  | 0 => fun _ _ => none
  | fu + 1 => clearMapRow_l13b x1 (clearMapRow_l13 x1 fu)
def clearMapRow_M (x1 : Int) (s : Obj) : Option (Int × Obj) :=
  if x1 < 0 then
    some (0, s)
  else
    if x1 < 8 then
      clearMapRow_l13 x1 FU 0 s
    else
      some (0, s)
def resetFileTables_l2b (rec : Int → Obj → Option (Int × Obj)) (x1 : Int) (s : Obj) : Option (Int × Obj) :=
  if x1 < 8 then
    wB s 10 8 x1 0 fun s14 =>
    wB s14 11 8 x1 0 fun s21 =>
    cB (clearMapRow_M x1 s21) fun _ s24 =>
    rec (aAdd x1 1) s24
  else
    some (0, s)
def resetFileTables_l2  : Nat → Int → Obj → Option (Int × Obj)
  | 0 => fun _ _ => none
  | fu + 1 => resetFileTables_l2b (resetFileTables_l2 fu)
def resetFileTables_M (s : Obj) : Option (Int × Obj) :=
  resetFileTables_l2 FU 0 s
def ctor_B (x1 : Int) (x2 : Int) (x3 : Int) (s : Obj) : Option (Int × Obj) :=
  cB (clamp_M x1 8 32 s) fun z84 s84 =>
  lB (setF s84 4 z84) fun s87 =>
  cB (clamp_M x2 1 8 s87) fun z96 s96 =>
  lB (setF s96 5 z96) fun s99 =>
  cB (clamp_M x3 1 8 s99) fun z108 s108 =>
  lB (setF s108 6 z108) fun s111 =>
  lB (setF s111 7 0) fun s116 =>
  lB (setF s116 8 0) fun s121 =>
  lB (setF s121 9 0) fun s126 =>
  cB (resetBlockTables_M s126) fun _ s130 =>
  cB (resetFileTables_M s130) fun _ s134 =>
  some (0, s134)
def ctor_M (x1 : Int) (x2 : Int) (x3 : Int) : Option (Int × Obj) := ctor_B x1 x2 x3 ((@upd Int (@upd Int (@upd Int (@upd Int (fun _ => 0) 0 32) 1 8) 2 8) 3 (-1)), fun _ _ => 0)
def create_l2b (k25 : Int → Obj → Option (Int × Obj)) (rec : Int → Obj → Option (Int × Obj)) (x1 : Int) (s : Obj) : Option (Int × Obj) :=
  if x1 < (s.1 6) then
    if x1 < 8 then
      rB (s.2 10) 8 x1 fun z21 =>
      if z21 = 0 then
        k25 x1 s
      else
        rec (aAdd x1 1) s
    else
      some ((-6), s)
  else
    some ((-6), s)
def create_l2 (k25 : Int → Obj → Option (Int × Obj)) : Nat → Int → Obj → Option (Int × Obj)
  | 0 => fun _ _ => none
  | fu + 1 => create_l2b k25 (create_l2 k25 fu)
def create_M (s : Obj) : Option (Int × Obj) :=
  create_l2 (fun x1_25 s25 =>
    wB s25 10 8 x1_25 1 fun s31 =>
    wB s31 11 8 x1_25 0 fun s38 =>
    cB (clearMapRow_M x1_25 s38) fun _ s41 =>
    some (x1_25, s41)) FU 0 s
def isValidFile_M (x1 : Int) (s : Obj) : Option (Int × Obj) :=
  if x1 < 0 then
    some (0, s)
  else
    if x1 < (s.1 6) then
      if x1 < 8 then
        rB (s.2 10) 8 x1 fun z25 =>
        some (i2z z25, s)
      else
        some (0, s)
    else
      some (0, s)
def needsNewBlock_M (x1 : Int) (x2 : Int) (s : Obj) : Option (Int × Obj) :=
  if x2 = x1 then
    dB (s.1 5) <|
    if (aRem x1 (s.1 5)) = 0 then
      some (1, s)
    else
      some (0, s)
  else
    some (0, s)
def blocksFor_M (x1 : Int) (s : Obj) : Option (Int × Obj) :=
  if 0 < x1 then
    dB (s.1 5) <|
    some ((aDiv (aSub (aAdd x1 (s.1 5)) 1) (s.1 5)), s)
  else
    some (0, s)
def bitCount_M (x1 : Int) (s : Obj) : Option (Int × Obj) :=
  lB (aSub x1 (aAnd (aUshr x1 1) 1431655765)) fun x2_8 =>
  lB (aAdd (aAnd x2_8 858993459) (aAnd (aUshr x2_8 2) 858993459)) fun x2_20 =>
  lB (aAnd (aAdd x2_20 (aUshr x2_20 4)) 252645135) fun x2_29 =>
  some ((aUshr (aMul x2_29 16843009) 24), s)
def allocatedCount_M (s : Obj) : Option (Int × Obj) :=
  cB (bitCount_M (s.1 9) s) fun z5 s5 =>
  some (z5, s5)
def lowMask_M (x1 : Int) (s : Obj) : Option (Int × Obj) :=
  if 0 < x1 then
    if x1 < 32 then
      some ((aSub (aShl 1 x1) 1), s)
    else
      some ((-1), s)
  else
    some (0, s)
def freeBelow_M (x1 : Int) (s : Obj) : Option (Int × Obj) :=
  cB (lowMask_M x1 s) fun z8 s8 =>
  some ((aAnd (aXor (s.1 9) (-1)) z8), s8)
def lowestBit_j71 (x2 : Int) (x3 : Int) (s : Obj) : Option (Int × Obj) :=
  if (aAnd x2 1) = 0 then
    some ((aAdd x3 1), s)
  else
    some (x3, s)
def lowestBit_j58 (x2 : Int) (x3 : Int) (s : Obj) : Option (Int × Obj) :=
  if (aAnd x2 3) = 0 then
    lB (aUshr x2 2) fun x2_70 =>
    lowestBit_j71 x2_70 (aAdd x3 2) s
  else
    lowestBit_j71 x2 x3 s
def lowestBit_j44 (x2 : Int) (x3 : Int) (s : Obj) : Option (Int × Obj) :=
  if (aAnd x2 15) = 0 then
    lB (aUshr x2 4) fun x2_57 =>
    lowestBit_j58 x2_57 (aAdd x3 4) s
  else
    lowestBit_j58 x2 x3 s
def lowestBit_j28 (x2 : Int) (x3 : Int) (s : Obj) : Option (Int × Obj) :=
  if (aAnd x2 255) = 0 then
    lB (aUshr x2 8) fun x2_43 =>
    lowestBit_j44 x2_43 (aAdd x3 8) s
  else
    lowestBit_j44 x2 x3 s
def lowestBit_M (x1 : Int) (s : Obj) : Option (Int × Obj) :=
  if x1 = 0 then
    some ((-1), s)
  else
    lB (aAnd x1 (aNeg x1)) fun x2_10 =>
    if (aAnd x2_10 65535) = 0 then
      lB (aUshr x2_10 16) fun x2_27 =>
      lowestBit_j28 x2_27 (aAdd 0 16) s
    else
      lowestBit_j28 x2_10 0 s
def allocateBlock_j30 (x1 : Int) (s : Obj) : Option (Int × Obj) :=
  cB (freeBelow_M x1 s) fun z32 s32 =>
  cB (lowestBit_M z32 s32) fun z38 s38 =>
  some (z38, s38)
def allocateBlock_M (s : Obj) : Option (Int × Obj) :=
  lB (s.1 4) fun x1_4 =>
  if (s.1 7) = 0 then
    allocateBlock_j30 x1_4 s
  else
    cB (allocatedCount_M s) fun z13 s13 =>
    if z13 < (s13.1 8) then
      lB (s13.1 8) fun x1_29 =>
      allocateBlock_j30 x1_29 s13
    else
      some ((-1), s13)
def mapSlot_M (x1 : Int) (x2 : Int) (s : Obj) : Option (Int × Obj) :=
  some ((aAdd (aMul x1 32) x2), s)
def markAllocated_M (x1 : Int) (x2 : Int) (x3 : Int) (s : Obj) : Option (Int × Obj) :=
  if x1 < 0 then
    some (0, s)
  else
    if x1 < 32 then
      lB (setF s 9 (aOr (s.1 9) (aShl 1 x1))) fun s20 =>
      wB s20 13 32 x1 x2 fun s29 =>
      wB s29 14 32 x1 x3 fun s36 =>
      some (0, s36)
    else
      some (0, s)
def attach_M (x1 : Int) (x2 : Int) (x3 : Int) (s : Obj) : Option (Int × Obj) :=
  if x3 < 0 then
    some (0, s)
  else
    if x3 < 32 then
      if x2 < 0 then
        some (0, s)
      else
        if x2 < 32 then
          cB (mapSlot_M x1 x2 s) fun z28 s28 =>
          wB s28 12 256 z28 x3 fun s32 =>
          cB (markAllocated_M x3 x1 x2 s32) fun _ s37 =>
          some (0, s37)
        else
          some (0, s)
    else
      some (0, s)
def growByOneBlock_M (x1 : Int) (s : Obj) : Option (Int × Obj) :=
  rB (s.2 11) 8 x1 fun z6 =>
  cB (blocksFor_M z6 s) fun z7 s7 =>
  if z7 < 0 then
    some ((-3), s7)
  else
    if z7 < 32 then
      cB (allocateBlock_M s7) fun z25 s25 =>
      if z25 < 0 then
        some ((-3), s25)
      else
        cB (attach_M x1 z7 z25 s25) fun _ s40 =>
        some (0, s40)
    else
      some ((-3), s7)
def byteSlot_M (x1 : Int) (x2 : Int) (s : Obj) : Option (Int × Obj) :=
  if x1 < 0 then
    some ((-1), s)
  else
    if x1 < 32 then
      if x2 < 0 then
        some ((-1), s)
      else
        if x2 < 8 then
          some ((aAdd (aMul x1 8) x2), s)
        else
          some ((-1), s)
    else
      some ((-1), s)
def storeAt_M (x1 : Int) (x2 : Int) (x3 : Int) (s : Obj) : Option (Int × Obj) :=
  dB (s.1 5) <|
  lB (aDiv x2 (s.1 5)) fun x4_6 =>
  if x4_6 < 0 then
    some (0, s)
  else
    if x4_6 < 32 then
      cB (mapSlot_M x1 x4_6 s) fun z29 s29 =>
      rB (s29.2 12) 256 z29 fun z32 =>
      dB (s29.1 5) <|
      cB (byteSlot_M z32 (aRem x2 (s29.1 5)) s29) fun z44 s44 =>
      if z44 < 0 then
        some (0, s44)
      else
        wB s44 15 256 z44 (aAnd x3 255) fun s66 =>
        some (0, s66)
    else
      some (0, s)
def write_j56 (x1 : Int) (x2 : Int) (x3 : Int) (x4 : Int) (s : Obj) : Option (Int × Obj) :=
  cB (storeAt_M x1 x2 x3 s) fun _ s60 =>
  if x2 = x4 then
    wB s60 11 8 x1 (aAdd x4 1) fun s78 =>
    some (0, s78)
  else
    some (0, s60)
def write_M (x1 : Int) (x2 : Int) (x3 : Int) (s : Obj) : Option (Int × Obj) :=
  cB (isValidFile_M x1 s) fun z2 s2 =>
  if z2 = 0 then
    some ((-1), s2)
  else
    rB (s2.2 11) 8 x1 fun z15 =>
    if x2 < 0 then
      some ((-2), s2)
    else
      if z15 < x2 then
        some ((-2), s2)
      else
        cB (needsNewBlock_M z15 x2 s2) fun z35 s35 =>
        if z35 = 0 then
          write_j56 x1 x2 x3 z15 s35
        else
          cB (growByOneBlock_M x1 s35) fun z43 s43 =>
          if z43 = 0 then
            write_j56 x1 x2 x3 z15 s43
          else
            some (z43, s43)
def physOf_M (x1 : Int) (x2 : Int) (s : Obj) : Option (Int × Obj) :=
  cB (isValidFile_M x1 s) fun z2 s2 =>
  if z2 = 0 then
    some ((-1), s2)
  else
    rB (s2.2 11) 8 x1 fun z16 =>
    cB (blocksFor_M z16 s2) fun z17 s17 =>
    if x2 < 0 then
      some ((-2), s17)
    else
      if x2 < z17 then
        if x2 < 32 then
          cB (mapSlot_M x1 x2 s17) fun z46 s46 =>
          rB (s46.2 12) 256 z46 fun z49 =>
          some (z49, s46)
        else
          some ((-2), s17)
      else
        some ((-2), s17)
def markFree_M (x1 : Int) (s : Obj) : Option (Int × Obj) :=
  if x1 < 0 then
    some (0, s)
  else
    if x1 < 32 then
      lB (setF s 9 (aAnd (s.1 9) (aXor (aShl 1 x1) (-1)))) fun s22 =>
      wB s22 13 32 x1 (-1) fun s31 =>
      wB s31 14 32 x1 (-1) fun s38 =>
      some (0, s38)
    else
      some (0, s)
def releaseFrom_l26b (x1 : Int) (x3 : Int) (rec : Int → Obj → Option (Int × Obj)) (x5 : Int) (s : Obj) : Option (Int × Obj) :=
  if x5 < x3 then
    if x5 < 32 then
      cB (mapSlot_M x1 x5 s) fun z43 s43 =>
      rB (s43.2 12) 256 z43 fun z54 =>
      cB (markFree_M z54 s43) fun _ s60 =>
      wB s60 12 256 z43 (-1) fun s70 =>
      rec (aAdd x5 1) s70
    else
      some (0, s)
  else
    some (0, s)
def releaseFrom_l26 (x1 : Int) (x3 : Int) : Nat → Int → Obj → Option (Int × Obj)
  | 0 => fun _ _ => none
  | fu + 1 => releaseFrom_l26b x1 x3 (releaseFrom_l26 x1 x3 fu)
def releaseFrom_j20 (x1 : Int) (x3 : Int) (y0 : Int) (s : Obj) : Option (Int × Obj) :=
  releaseFrom_l26 x1 x3 FU y0 s
def releaseFrom_M (x1 : Int) (x2 : Int) (s : Obj) : Option (Int × Obj) :=
  rB (s.2 11) 8 x1 fun z6 =>
  cB (blocksFor_M z6 s) fun z7 s7 =>
  if x2 < 0 then
    releaseFrom_j20 x1 z7 0 s7
  else
    releaseFrom_j20 x1 z7 x2 s7
def delete_M (x1 : Int) (s : Obj) : Option (Int × Obj) :=
  cB (isValidFile_M x1 s) fun z2 s2 =>
  if z2 = 0 then
    some ((-1), s2)
  else
    cB (releaseFrom_M x1 0 s2) fun _ s13 =>
    wB s13 11 8 x1 0 fun s22 =>
    wB s22 10 8 x1 0 fun s29 =>
    some (0, s29)
def shrink_M (x1 : Int) (s : Obj) : Option (Int × Obj) :=
  if (s.1 7) = 0 then
    if x1 < 1 then
      some ((-2), s)
    else
      if x1 < (s.1 4) then
        cB (allocatedCount_M s) fun z27 s27 =>
        if x1 < z27 then
          some ((-3), s27)
        else
          lB (setF s27 7 1) fun s39 =>
          lB (setF s39 8 x1) fun s44 =>
          some (0, s44)
      else
        some ((-2), s)
  else
    some ((-4), s)
def usedFrom_M (x1 : Int) (s : Obj) : Option (Int × Obj) :=
  cB (lowMask_M x1 s) fun z6 s6 =>
  some ((aAnd (s.1 9) (aXor z6 (-1))), s6)
def pendingCount_M (s : Obj) : Option (Int × Obj) :=
  cB (usedFrom_M (s.1 8) s) fun z5 s5 =>
  cB (bitCount_M z5 s5) fun z11 s11 =>
  some (z11, s11)
def pendingMoves_M (s : Obj) : Option (Int × Obj) :=
  if (s.1 7) = 0 then
    some (0, s)
  else
    cB (pendingCount_M s) fun z10 s10 =>
    some (z10, s10)
def completeShrink_M (s : Obj) : Option (Int × Obj) :=
  lB (setF s 4 (s.1 8)) fun s5 =>
  lB (setF s5 7 0) fun s10 =>
  lB (setF s10 8 0) fun s15 =>
  some (0, s15)
def copyBlock_l35b (x3 : Int) (x4 : Int) (rec : Int → Obj → Option (Int × Obj)) (x5 : Int) (s : Obj) : Option (Int × Obj) :=
  if x5 < 8 then
    rB (s.2 15) 256 (aAdd x3 x5) fun z59 =>
    wB s 15 256 (aAdd x4 x5) z59 fun s60 =>
    rec (aAdd x5 1) s60
  else
    some (0, s)
def copyBlock_l35 (x3 : Int) (x4 : Int) : Nat → Int → Obj → Option (Int × Obj)
  | 0 => fun _ _ => none
  | fu + 1 => copyBlock_l35b x3 x4 (copyBlock_l35 x3 x4 fu)
def copyBlock_M (x1 : Int) (x2 : Int) (s : Obj) : Option (Int × Obj) :=
  if x1 < 0 then
    some (0, s)
  else
    if x1 < 32 then
      if x2 < 0 then
        some (0, s)
      else
        if x2 < 32 then
          lB (aMul x1 8) fun x3_25 =>
          lB (aMul x2 8) fun x4_30 =>
          copyBlock_l35 x3_25 x4_30 FU 0 s
        else
          some (0, s)
    else
      some (0, s)
def moveOne_M (s : Obj) : Option (Int × Obj) :=
  cB (usedFrom_M (s.1 8) s) fun z5 s5 =>
  cB (lowestBit_M z5 s5) fun z11 s11 =>
  cB (freeBelow_M (s11.1 8) s11) fun z20 s20 =>
  cB (lowestBit_M z20 s20) fun z26 s26 =>
  if z11 < 0 then
    some (0, s26)
  else
    if z26 < 0 then
      some (0, s26)
    else
      rB (s26.2 13) 32 z11 fun z47 =>
      rB (s26.2 14) 32 z11 fun z55 =>
      if z47 < 0 then
        some (0, s26)
      else
        if z47 < 8 then
          if z55 < 0 then
            some (0, s26)
          else
            if z55 < 32 then
              cB (copyBlock_M z11 z26 s26) fun _ s88 =>
              cB (mapSlot_M z47 z55 s88) fun z100 s100 =>
              wB s100 12 256 z100 z26 fun s105 =>
              cB (markAllocated_M z26 z47 z55 s105) fun _ s113 =>
              cB (markFree_M z11 s113) fun _ s118 =>
              some (1, s118)
            else
              some (0, s26)
        else
          some (0, s26)
def step_l36b (k50 : Int → Obj → Option (Int × Obj)) (x2 : Int) (rec : Int → Int → Obj → Option (Int × Obj)) (x3 : Int) (x4 : Int) (s : Obj) : Option (Int × Obj) :=
  if 65 < x4 then
    some (x3, s)
  else
    cB (pendingCount_M s) fun z44 s44 =>
    if z44 = 0 then
      k50 x3 s44
    else
      if x3 = x2 then
        some (x3, s44)
      else
        cB (moveOne_M s44) fun z64 s64 =>
        if z64 = 0 then
          some (x3, s64)
        else
          rec (aAdd x3 1) (aAdd x4 1) s64
def step_l36 (k50 : Int → Obj → Option (Int × Obj)) (x2 : Int) : Nat → Int → Int → Obj → Option (Int × Obj)
  | 0 => fun _ _ _ => none
  | fu + 1 => step_l36b k50 x2 (step_l36 k50 x2 fu)
def step_j30 (y0 : Int) (s : Obj) : Option (Int × Obj) :=
  step_l36 (fun x3_50 s50 =>
    cB (completeShrink_M s50) fun _ s51 =>
    some (x3_50, s51)) y0 FU 0 0 s
def step_M (x1 : Int) (s : Obj) : Option (Int × Obj) :=
  if (s.1 7) = 0 then
    some ((-5), s)
  else
    if x1 < 1 then
      some ((-2), s)
    else
      if 64 < x1 then
        step_j30 64 s
      else
        step_j30 x1 s
def volumeBlocks_M (s : Obj) : Option (Int × Obj) :=
  some ((s.1 4), s)
def target_M (s : Obj) : Option (Int × Obj) :=
  if (s.1 7) = 0 then
    some ((-5), s)
  else
    some ((s.1 8), s)
def loadAt_M (x1 : Int) (x2 : Int) (s : Obj) : Option (Int × Obj) :=
  dB (s.1 5) <|
  lB (aDiv x2 (s.1 5)) fun x3_6 =>
  if x3_6 < 0 then
    some (0, s)
  else
    if x3_6 < 32 then
      cB (mapSlot_M x1 x3_6 s) fun z26 s26 =>
      rB (s26.2 12) 256 z26 fun z29 =>
      dB (s26.1 5) <|
      cB (byteSlot_M z29 (aRem x2 (s26.1 5)) s26) fun z41 s41 =>
      if z41 < 0 then
        some (0, s41)
      else
        rB (s41.2 15) 256 z41 fun z59 =>
        some ((aAnd z59 255), s41)
    else
      some (0, s)
def read_M (x1 : Int) (x2 : Int) (s : Obj) : Option (Int × Obj) :=
  cB (isValidFile_M x1 s) fun z2 s2 =>
  if z2 = 0 then
    some ((-1), s2)
  else
    if x2 < 0 then
      some ((-2), s2)
    else
      rB (s2.2 11) 8 x1 fun z20 =>
      if x2 < z20 then
        cB (loadAt_M x1 x2 s2) fun z30 s30 =>
        some (z30, s30)
      else
        some ((-2), s2)
def size_M (x1 : Int) (s : Obj) : Option (Int × Obj) :=
  cB (isValidFile_M x1 s) fun z2 s2 =>
  if z2 = 0 then
    some ((-1), s2)
  else
    rB (s2.2 11) 8 x1 fun z15 =>
    some (z15, s2)
def countExtents_j73 (rec : Int → Int → Obj → Option (Int × Obj)) (x2 : Int) (x3 : Int) (x4 : Int) (x5 : Int) (s : Obj) : Option (Int × Obj) :=
  rec x3 (aAdd x5 1) s
def countExtents_l30b (x2 : Int) (x4 : Int) (rec : Int → Int → Obj → Option (Int × Obj)) (x3 : Int) (x5 : Int) (s : Obj) : Option (Int × Obj) :=
  if x5 < x2 then
    if x5 < 32 then
      rB (s.2 12) 256 (aAdd x4 x5) fun z52 =>
      rB (s.2 12) 256 (aSub (aAdd x4 x5) 1) fun z64 =>
      if z52 = (aAdd z64 1) then
        countExtents_j73 rec x2 x3 x4 x5 s
      else
        countExtents_j73 rec x2 (aAdd x3 1) x4 x5 s
    else
      some (x3, s)
  else
    some (x3, s)
def countExtents_l30 (x2 : Int) (x4 : Int) : Nat → Int → Int → Obj → Option (Int × Obj)
  | 0 => fun _ _ _ => none
  | fu + 1 => countExtents_l30b x2 x4 (countExtents_l30 x2 x4 fu)
def countExtents_M (x1 : Int) (s : Obj) : Option (Int × Obj) :=
  rB (s.2 11) 8 x1 fun z6 =>
  cB (blocksFor_M z6 s) fun z7 s7 =>
  if 0 < z7 then
    cB (mapSlot_M x1 0 s7) fun z22 s22 =>
    countExtents_l30 z7 z22 FU 1 1 s22
  else
    some (0, s7)
def extentCount_M (x1 : Int) (s : Obj) : Option (Int × Obj) :=
  cB (isValidFile_M x1 s) fun z2 s2 =>
  if z2 = 0 then
    some ((-1), s2)
  else
    cB (countExtents_M x1 s2) fun z12 s12 =>
    some (z12, s12)
def freeBlocks_M (s : Obj) : Option (Int × Obj) :=
  cB (allocatedCount_M s) fun z5 s5 =>
  some ((aSub (s.1 4) z5), s5)
def isAllocated_M (x1 : Int) (s : Obj) : Option (Int × Obj) :=
  if x1 < 0 then
    some (0, s)
  else
    if x1 < 32 then
      if (aAnd (s.1 9) (aShl 1 x1)) = 0 then
        some (0, s)
      else
        some (1, s)
    else
      some (0, s)
def blockOwner_M (x1 : Int) (s : Obj) : Option (Int × Obj) :=
  if x1 < 0 then
    some ((-2), s)
  else
    if x1 < (s.1 4) then
      if x1 < 32 then
        cB (isAllocated_M x1 s) fun z23 s23 =>
        if z23 = 0 then
          some ((-7), s23)
        else
          rB (s23.2 13) 32 x1 fun z37 =>
          some (z37, s23)
      else
        some ((-2), s)
    else
      some ((-2), s)
def law_M (x0 : Int) (x1 : Int) (x2 : Int) (x3 : Int) (x4 : Int) (w : MB) : Option (Int × MB) :=
  newB 0 w fun w0 =>
  iniB 0 (ctor_M 8 1 2) w0 fun w8 =>
  virB 0 (fun q => create_M q) w8 fun z15 w15 =>
  if z15 = 0 then
    virB 0 (fun q => write_M 0 0 x0 q) w15 fun z28 w28 =>
    if z28 = 0 then
      virB 0 (fun q => write_M 0 1 x0 q) w28 fun z41 w41 =>
      if z41 = 0 then
        virB 0 (fun q => write_M 0 2 x0 q) w41 fun z54 w54 =>
        if z54 = 0 then
          virB 0 (fun q => create_M q) w54 fun z64 w64 =>
          if z64 = 1 then
            virB 0 (fun q => write_M 1 0 x1 q) w64 fun z78 w78 =>
            if z78 = 0 then
              virB 0 (fun q => write_M 1 1 x2 q) w78 fun z91 w91 =>
              if z91 = 0 then
                virB 0 (fun q => physOf_M 1 1 q) w91 fun z103 w103 =>
                if z103 = 4 then
                  virB 0 (fun q => delete_M 0 q) w103 fun z115 w115 =>
                  if z115 = 0 then
                    virB 0 (fun q => shrink_M 2 q) w115 fun z126 w126 =>
                    if z126 = 0 then
                      virB 0 (fun q => pendingMoves_M q) w126 fun z136 w136 =>
                      if z136 = 2 then
                        virB 0 (fun q => step_M 1 q) w136 fun z148 w148 =>
                        if z148 = 1 then
                          virB 0 (fun q => pendingMoves_M q) w148 fun z159 w159 =>
                          if z159 = 1 then
                            virB 0 (fun q => physOf_M 1 0 q) w159 fun z172 w172 =>
                            if z172 = 0 then
                              virB 0 (fun q => write_M 1 1 x3 q) w172 fun z185 w185 =>
                              if z185 = 0 then
                                virB 0 (fun q => write_M 1 2 x4 q) w185 fun z199 w199 =>
                                if z199 = (-3) then
                                  virB 0 (fun q => step_M 8 q) w199 fun z213 w213 =>
                                  if z213 = 1 then
                                    virB 0 (fun q => volumeBlocks_M q) w213 fun z224 w224 =>
                                    if z224 = 2 then
                                      virB 0 (fun q => target_M q) w224 fun z235 w235 =>
                                      if z235 = (-5) then
                                        virB 0 (fun q => physOf_M 1 1 q) w235 fun z249 w249 =>
                                        if z249 = 1 then
                                          virB 0 (fun q => read_M 1 0 q) w249 fun z262 w262 =>
                                          if z262 = (aAnd x1 255) then
                                            virB 0 (fun q => read_M 1 1 q) w262 fun z279 w279 =>
                                            if z279 = (aAnd x3 255) then
                                              virB 0 (fun q => size_M 1 q) w279 fun z295 w295 =>
                                              if z295 = 2 then
                                                virB 0 (fun q => extentCount_M 1 q) w295 fun z307 w307 =>
                                                if z307 = 1 then
                                                  virB 0 (fun q => freeBlocks_M q) w307 fun z318 w318 =>
                                                  if z318 = 0 then
                                                    virB 0 (fun q => blockOwner_M 1 q) w318 fun z329 w329 =>
                                                    if z329 = 1 then
                                                      some (1, w329)
                                                    else
                                                      some (0, w329)
                                                  else
                                                    some (0, w318)
                                                else
                                                  some (0, w307)
                                              else
                                                some (0, w295)
                                            else
                                              some (0, w279)
                                          else
                                            some (0, w262)
                                        else
                                          some (0, w249)
                                      else
                                        some (0, w235)
                                    else
                                      some (0, w224)
                                  else
                                    some (0, w213)
                                else
                                  some (0, w199)
                              else
                                some (0, w185)
                            else
                              some (0, w172)
                          else
                            some (0, w159)
                        else
                          some (0, w148)
                      else
                        some (0, w136)
                    else
                      some (0, w126)
                  else
                    some (0, w115)
                else
                  some (0, w103)
              else
                some (0, w91)
            else
              some (0, w78)
          else
            some (0, w64)
        else
          some (0, w54)
      else
        some (0, w41)
    else
      some (0, w28)
  else
    some (0, w15)
/-! plain Lean: reckoning and loops -/
theorem aAdd_id {x y : Int} (h1 : -2147483648 ≤ x + y) (h2 : x + y < 2147483648) : aAdd x y = x + y := w32_id h1 h2
theorem aSub_id {x y : Int} (h1 : -2147483648 ≤ x - y) (h2 : x - y < 2147483648) : aSub x y = x - y := w32_id h1 h2
theorem aMul_id {x y : Int} (h1 : -2147483648 ≤ x * y) (h2 : x * y < 2147483648) : aMul x y = x * y := w32_id h1 h2
theorem rB_in {α : Type} {f : Nat → Int} {len : Nat} {i : Int} {g : Int → Option α} (h1 : 0 ≤ i) (h2 : i < len) : rB f len i g = g (f i.toNat) := if_pos ⟨h1, h2⟩
theorem wB_in {α : Type} {σ : Obj} {k len : Nat} {i v : Int} {g : Obj → Option α} (h1 : 0 ≤ i) (h2 : i < len) : wB σ k len i v g = g (setA σ k i.toNat v) := if_pos ⟨h1, h2⟩
theorem setF_1 (σ : Obj) (k : Nat) (v : Int) : (setF σ k v).1 = Wp.upd σ.1 k v := rfl
theorem setF_2 (σ : Obj) (k : Nat) (v : Int) : (setF σ k v).2 = σ.2 := rfl
theorem setA_1 (σ : Obj) (k i : Nat) (v : Int) : (setA σ k i v).1 = σ.1 := rfl
theorem setA_2 (σ : Obj) (k i : Nat) (v : Int) : (setA σ k i v).2 = Wp.upd σ.2 k (Wp.upd (σ.2 k) i v) := rfl
theorem upd_apply {α : Type} (f : Nat → α) (k : Nat) (v : α) (j : Nat) : Wp.upd f k v j = if j = k then v else f j := rfl
theorem FU_pos : FU = 999999999 + 1 := rfl
/-- a loop: P holds at each turn, m falls, Q of the answer -/
theorem loop_ind {α R : Type} (lp : Nat → α → Option R) (m : α → Nat) (P : α → Prop) (Q : Option R → Prop)
    (h : ∀ fu a, P a → Q (lp (fu + 1) a) ∨ ∃ a', lp (fu + 1) a = lp fu a' ∧ P a' ∧ m a' < m a) : ∀ (fu : Nat) (a : α), P a → m a < fu → Q (lp fu a) := by
  intro fu
  induction fu with
  | zero => intro a _ hm; omega
  | succ fu ih =>
    intro a ha hm
    rcases h fu a ha with q | ⟨a', e, ha', hm'⟩
    · exact q
    · rw [e]; exact ih a' ha' (by omega)
theorem new0 (f : MB → Option (Int × MB)) : newB 0 ([], false) f = f ([], true) := rfl
theorem ini0 (r : Int) (s : Obj) (f : MB → Option (Int × MB)) : iniB 0 (some (r, s)) ([], true) f = f ([s], false) := rfl
theorem new1 (s : Obj) (f : MB → Option (Int × MB)) : newB 1 ([s], false) f = f ([s], true) := rfl
theorem ini1 (r : Int) (s t : Obj) (f : MB → Option (Int × MB)) : iniB 1 (some (r, t)) ([s], true) f = f ([s, t], false) := rfl
theorem vir0 {m : Obj → Option (Int × Obj)} {s s' : Obj} {z : Int} (h : m s = some (z, s')) (f : Int → MB → Option (Int × MB)) : virB 0 m ([s], false) f = f z ([s'], false) := by
  show (match m s with
    | none => none
    | some r => f r.1 ([s].set 0 r.2, false)) = _
  rw [h]; rfl
theorem virL {m : Obj → Option (Int × Obj)} {s s' t : Obj} {z : Int} (h : m s = some (z, s')) (f : Int → MB → Option (Int × MB)) : virB 0 m ([s, t], false) f = f z ([s', t], false) := by
  show (match m s with
    | none => none
    | some r => f r.1 ([s, t].set 0 r.2, false)) = _
  rw [h]; rfl
theorem virR {m : Obj → Option (Int × Obj)} {s t t' : Obj} {z : Int} (h : m t = some (z, t')) (f : Int → MB → Option (Int × MB)) : virB 1 m ([s, t], false) f = f z ([s, t'], false) := by
  show (match m t with
    | none => none
    | some r => f r.1 ([s, t].set 1 r.2, false)) = _
  rw [h]; rfl
/-! closed runs: by evaluation in the kernel -/
def pk (q : Option (Int × Obj)) : Obj := match q with
  | none => (fun _ => 0, fun _ _ => 0)
  | some r => r.2
def vl (q : Option (Int × Obj)) : Option Int := q.map (fun r => r.1)
def vlw (q : Option (Int × MB)) : Option Int := q.map (fun r => r.1)
theorem pk_eq {q : Option (Int × Obj)} {z : Int} (h : vl q = some z) : q = some (z, pk q) := by
  cases q with
  | none => exact absurd h (by simp [vl])
  | some r =>
    obtain ⟨a, b⟩ := r
    have : a = z := by simpa [vl] using h
    subst this; rfl
theorem vlw_ex {q : Option (Int × MB)} (h : vlw q = some 1) : ∃ w', q = some (1, w') := by
  cases q with
  | none => exact absurd h (by simp [vlw])
  | some r =>
    obtain ⟨a, b⟩ := r
    have : a = 1 := by simpa [vlw] using h
    subst this; exact ⟨b, rfl⟩
/-! the low byte of the low byte -/
theorem and255_idem (v : Int) : aAnd (aAnd v 255) 255 = aAnd v 255 := by
  show (o32 ((o32 v &&& o32 255).toInt) &&& o32 255).toInt = _
  rw [o32_t]
  show ((o32 v &&& o32 255) &&& o32 255).toInt = (o32 v &&& o32 255).toInt
  refine congrArg Int32.toInt ?_
  refine Int32.toBitVec_inj.mp ?_
  simp only [Int32.toBitVec_and]
  rw [BitVec.and_assoc, BitVec.and_self]
/-! the functions commute with a map of the data -/
def Tm (φ : Int → Int) (s : Obj) : Obj := (s.1, Wp.upd s.2 15 (fun i => φ (s.2 15 i)))
def mp (φ : Int → Int) (q : Option (Int × Obj)) : Option (Int × Obj) := q.map (fun p => (p.1, Tm φ p.2))
theorem mp_sF (φ : Int → Int) {s : Obj} {k : Nat} {v v' : Int} (hv : v' = v) : setF (Tm φ s) k v' = Tm φ (setF s k v) := by subst hv; rfl
theorem mp_ite (φ : Int → Int) {c c' : Prop} [Decidable c] [Decidable c'] {x y x' y' : Option (Int × Obj)} (h : c' ↔ c) (hx : x' = mp φ x) (hy : y' = mp φ y) : (if c' then x' else y') = mp φ (if c then x else y) := by
  by_cases q : c
  · rw [if_pos q, if_pos (h.2 q)]; exact hx
  · rw [if_neg q, if_neg (fun z => q (h.1 z))]; exact hy
theorem mp_some (φ : Int → Int) {r r' : Int} {s s' : Obj} (hr : r' = r) (hs : s' = Tm φ s) : some (r', s') = mp φ (some (r, s)) := by subst hr; subst hs; rfl
theorem mp_cB (φ : Int → Int) {q q' : Option (Int × Obj)} {k k' : Int → Obj → Option (Int × Obj)} (hq : q' = mp φ q) (hk : ∀ z t, k' z (Tm φ t) = mp φ (k z t)) : cB q' k' = mp φ (cB q k) := by
  subst hq
  cases q with
  | none => rfl
  | some p => exact hk p.1 p.2
theorem mp_lO (φ : Int → Int) {x x' : Obj} {k k' : Obj → Option (Int × Obj)} (hx : x' = Tm φ x) (hk : ∀ t, k' (Tm φ t) = mp φ (k t)) : lB x' k' = mp φ (lB x k) := by subst hx; exact hk x
theorem mp_lI (φ : Int → Int) {x x' : Int} {k k' : Int → Option (Int × Obj)} (hx : x' = x) (hk : ∀ t, k' t = mp φ (k t)) : lB x' k' = mp φ (lB x k) := by subst hx; exact hk _
theorem mp_rB (φ : Int → Int) {f f' : Nat → Int} {len : Nat} {i i' : Int} {k k' : Int → Option (Int × Obj)} (hf : f' = f) (hi : i' = i) (hk : ∀ t, k' t = mp φ (k t)) : rB f' len i' k' = mp φ (rB f len i k) := by
  subst hf; subst hi
  unfold rB
  split
  · exact hk _
  · rfl
theorem mp_rV (φ : Int → Int) {s : Obj} {len : Nat} {i i' : Int} {k k' : Int → Option (Int × Obj)} (hi : i' = i) (hk : ∀ t, k' (φ t) = mp φ (k t)) : rB ((Tm φ s).2 15) len i' k' = mp φ (rB (s.2 15) len i k) := by
  subst hi
  unfold rB
  split
  · exact hk _
  · rfl
theorem mp_wB (φ : Int → Int) {s s' : Obj} {j len : Nat} {i i' v v' : Int} {k k' : Obj → Option (Int × Obj)} (hj : j ≠ 15) (hs : s' = Tm φ s) (hi : i' = i) (hv : v' = v) (hk : ∀ t, k' (Tm φ t) = mp φ (k t)) : wB s' j len i' v' k' = mp φ (wB s j len i v k) := by
  subst hs; subst hi; subst hv
  unfold wB
  split
  · rw [← hk]
    congr 1
    show (_, _) = (_, _)
    refine congrArg (Prod.mk s.1) ?_
    funext a
    simp only [upd_apply, setA_2, Tm]
    by_cases e : a = 15
    · have e' : ¬ a = j := fun z => hj (z ▸ e)
      have e2 : ¬ 15 = j := fun z => hj z.symm
      simp [e, e', e2]
    · simp [e, hj]
  · rfl
theorem mp_wV (φ : Int → Int) {s s' : Obj} {len : Nat} {i i' v v' : Int} {k k' : Obj → Option (Int × Obj)} (hs : s' = Tm φ s) (hi : i' = i) (hv : v' = φ v) (hk : ∀ t, k' (Tm φ t) = mp φ (k t)) : wB s' 15 len i' v' k' = mp φ (wB s 15 len i v k) := by
  subst hs; subst hi; subst hv
  unfold wB
  split
  · rw [← hk]
    congr 1
    show (_, _) = (_, _)
    refine congrArg (Prod.mk s.1) ?_
    funext a b
    simp only [upd_apply, setA_2, Tm]
    by_cases e : a = 15
    · by_cases e2 : b = i'.toNat
      · simp [e, e2, upd_apply]
      · simp [e, e2, upd_apply]
    · simp [e]
  · rfl
theorem mp_dB (φ : Int → Int) {x x' : Int} {q q' : Option (Int × Obj)} (hx : x' = x) (hq : q' = mp φ q) : dB x' q' = mp φ (dB x q) := by
  subst hx
  unfold dB
  split
  · rfl
  · exact hq
theorem clamp_M_T (φ : Int → Int) (h0 : φ 0 = 0) (x1 : Int) (x2 : Int) (x3 : Int) (s : Obj)  : clamp_M x1 x2 x3 (Tm φ s) = mp φ (clamp_M x1 x2 x3 s) := by
  unfold clamp_M
  repeat' (first | (intro _) | (with_reducible refine mp_ite φ ?_ ?_ ?_) | (with_reducible refine mp_cB φ ?_ ?_) | (with_reducible refine mp_lO φ ?_ ?_) | (with_reducible refine mp_lI φ ?_ ?_) | (with_reducible refine mp_rV φ ?_ ?_) | (with_reducible refine mp_rB φ ?_ ?_ ?_) | (with_reducible refine mp_wB φ (by decide) ?_ ?_ ?_ ?_) | (with_reducible refine mp_wV φ ?_ ?_ ?_ ?_) | (with_reducible refine mp_some φ ?_ ?_) | (with_reducible refine mp_dB φ ?_ ?_) | (with_reducible rfl) | (with_reducible refine mp_sF φ ?_) | (exact (rfl : @Eq Int _ _)) | (exact (rfl : @Eq (Nat → Int) _ _)) | (exact Iff.rfl) | (exact h0.symm) |  rfl)
theorem resetBlockTables_l2b_T (φ : Int → Int) (h0 : φ 0 = 0) (k28 : Obj → Option (Int × Obj)) (rec : Int → Obj → Option (Int × Obj)) (x1 : Int) (s : Obj) (h_k28 : ∀  t, k28  (Tm φ t) = mp φ (k28  t)) (h_rec : ∀ a0 t, rec a0 (Tm φ t) = mp φ (rec a0 t)) : resetBlockTables_l2b k28 rec x1 (Tm φ s) = mp φ (resetBlockTables_l2b k28 rec x1 s) := by
  unfold resetBlockTables_l2b
  repeat' (first | (intro _) | (with_reducible refine mp_ite φ ?_ ?_ ?_) | (with_reducible refine mp_cB φ ?_ ?_) | (with_reducible refine mp_lO φ ?_ ?_) | (with_reducible refine mp_lI φ ?_ ?_) | (with_reducible refine mp_rV φ ?_ ?_) | (with_reducible refine mp_rB φ ?_ ?_ ?_) | (with_reducible refine mp_wB φ (by decide) ?_ ?_ ?_ ?_) | (with_reducible refine mp_wV φ ?_ ?_ ?_ ?_) | (with_reducible refine mp_some φ ?_ ?_) | (with_reducible refine mp_dB φ ?_ ?_) | (with_reducible exact h_k28  _) | (with_reducible exact h_rec _ _) | (with_reducible rfl) | (with_reducible refine mp_sF φ ?_) | (exact (rfl : @Eq Int _ _)) | (exact (rfl : @Eq (Nat → Int) _ _)) | (exact Iff.rfl) | (exact h0.symm) | exact h_k28  _ | exact h_rec _ _ |  rfl)
theorem resetBlockTables_l2_T (φ : Int → Int) (h0 : φ 0 = 0) (k28 : Obj → Option (Int × Obj)) (h_k28 : ∀  t, k28  (Tm φ t) = mp φ (k28  t)) : ∀ (fu : Nat) (a0 : Int) (s : Obj), resetBlockTables_l2 k28 fu a0 (Tm φ s) = mp φ (resetBlockTables_l2 k28 fu a0 s) := by
  intro fu
  induction fu with
  | zero => intros; rfl
  | succ fu ih => intro a0 s; exact resetBlockTables_l2b_T φ h0 _ _ _ s h_k28 ih
theorem resetBlockTables_l30b_T (φ : Int → Int) (h0 : φ 0 = 0) (rec : Int → Obj → Option (Int × Obj)) (x1 : Int) (s : Obj) (h_rec : ∀ a0 t, rec a0 (Tm φ t) = mp φ (rec a0 t)) : resetBlockTables_l30b rec x1 (Tm φ s) = mp φ (resetBlockTables_l30b rec x1 s) := by
  unfold resetBlockTables_l30b
  repeat' (first | (intro _) | (with_reducible refine mp_ite φ ?_ ?_ ?_) | (with_reducible refine mp_cB φ ?_ ?_) | (with_reducible refine mp_lO φ ?_ ?_) | (with_reducible refine mp_lI φ ?_ ?_) | (with_reducible refine mp_rV φ ?_ ?_) | (with_reducible refine mp_rB φ ?_ ?_ ?_) | (with_reducible refine mp_wB φ (by decide) ?_ ?_ ?_ ?_) | (with_reducible refine mp_wV φ ?_ ?_ ?_ ?_) | (with_reducible refine mp_some φ ?_ ?_) | (with_reducible refine mp_dB φ ?_ ?_) | (with_reducible exact h_rec _ _) | (with_reducible rfl) | (with_reducible refine mp_sF φ ?_) | (exact (rfl : @Eq Int _ _)) | (exact (rfl : @Eq (Nat → Int) _ _)) | (exact Iff.rfl) | (exact h0.symm) | exact h_rec _ _ |  rfl)
theorem resetBlockTables_l30_T (φ : Int → Int) (h0 : φ 0 = 0)   : ∀ (fu : Nat) (a0 : Int) (s : Obj), resetBlockTables_l30  fu a0 (Tm φ s) = mp φ (resetBlockTables_l30  fu a0 s) := by
  intro fu
  induction fu with
  | zero => intros; rfl
  | succ fu ih => intro a0 s; exact resetBlockTables_l30b_T φ h0 _ _ s ih
theorem resetBlockTables_M_T (φ : Int → Int) (h0 : φ 0 = 0) (s : Obj)  : resetBlockTables_M (Tm φ s) = mp φ (resetBlockTables_M s) := by
  unfold resetBlockTables_M
  repeat' (first | (intro _) | (with_reducible refine mp_ite φ ?_ ?_ ?_) | (with_reducible refine mp_cB φ ?_ ?_) | (with_reducible refine mp_lO φ ?_ ?_) | (with_reducible refine mp_lI φ ?_ ?_) | (with_reducible refine mp_rV φ ?_ ?_) | (with_reducible refine mp_rB φ ?_ ?_ ?_) | (with_reducible refine mp_wB φ (by decide) ?_ ?_ ?_ ?_) | (with_reducible refine mp_wV φ ?_ ?_ ?_ ?_) | (with_reducible refine mp_some φ ?_ ?_) | (with_reducible refine mp_dB φ ?_ ?_) | (with_reducible (refine resetBlockTables_l2_T φ h0 _ ?_ _ _ _)) | (with_reducible (refine resetBlockTables_l30_T φ h0   _ _ _)) | (with_reducible rfl) | (with_reducible refine mp_sF φ ?_) | (exact (rfl : @Eq Int _ _)) | (exact (rfl : @Eq (Nat → Int) _ _)) | (exact Iff.rfl) | (exact h0.symm) | (refine resetBlockTables_l2_T φ h0 _ ?_ _ _ _) | (refine resetBlockTables_l30_T φ h0   _ _ _) |  rfl)
theorem clearMapRow_l13b_T (φ : Int → Int) (h0 : φ 0 = 0) (x1 : Int) (rec : Int → Obj → Option (Int × Obj)) (x2 : Int) (s : Obj) (h_rec : ∀ a0 t, rec a0 (Tm φ t) = mp φ (rec a0 t)) : clearMapRow_l13b x1 rec x2 (Tm φ s) = mp φ (clearMapRow_l13b x1 rec x2 s) := by
  unfold clearMapRow_l13b
  repeat' (first | (intro _) | (with_reducible refine mp_ite φ ?_ ?_ ?_) | (with_reducible refine mp_cB φ ?_ ?_) | (with_reducible refine mp_lO φ ?_ ?_) | (with_reducible refine mp_lI φ ?_ ?_) | (with_reducible refine mp_rV φ ?_ ?_) | (with_reducible refine mp_rB φ ?_ ?_ ?_) | (with_reducible refine mp_wB φ (by decide) ?_ ?_ ?_ ?_) | (with_reducible refine mp_wV φ ?_ ?_ ?_ ?_) | (with_reducible refine mp_some φ ?_ ?_) | (with_reducible refine mp_dB φ ?_ ?_) | (with_reducible exact h_rec _ _) | (with_reducible rfl) | (with_reducible refine mp_sF φ ?_) | (exact (rfl : @Eq Int _ _)) | (exact (rfl : @Eq (Nat → Int) _ _)) | (exact Iff.rfl) | (exact h0.symm) | exact h_rec _ _ |  rfl)
theorem clearMapRow_l13_T (φ : Int → Int) (h0 : φ 0 = 0) (x1 : Int)  : ∀ (fu : Nat) (a0 : Int) (s : Obj), clearMapRow_l13 x1 fu a0 (Tm φ s) = mp φ (clearMapRow_l13 x1 fu a0 s) := by
  intro fu
  induction fu with
  | zero => intros; rfl
  | succ fu ih => intro a0 s; exact clearMapRow_l13b_T φ h0 _ _ _ s ih
theorem clearMapRow_M_T (φ : Int → Int) (h0 : φ 0 = 0) (x1 : Int) (s : Obj)  : clearMapRow_M x1 (Tm φ s) = mp φ (clearMapRow_M x1 s) := by
  unfold clearMapRow_M
  repeat' (first | (intro _) | (with_reducible refine mp_ite φ ?_ ?_ ?_) | (with_reducible refine mp_cB φ ?_ ?_) | (with_reducible refine mp_lO φ ?_ ?_) | (with_reducible refine mp_lI φ ?_ ?_) | (with_reducible refine mp_rV φ ?_ ?_) | (with_reducible refine mp_rB φ ?_ ?_ ?_) | (with_reducible refine mp_wB φ (by decide) ?_ ?_ ?_ ?_) | (with_reducible refine mp_wV φ ?_ ?_ ?_ ?_) | (with_reducible refine mp_some φ ?_ ?_) | (with_reducible refine mp_dB φ ?_ ?_) | (with_reducible (refine clearMapRow_l13_T φ h0 _  _ _ _)) | (with_reducible rfl) | (with_reducible refine mp_sF φ ?_) | (exact (rfl : @Eq Int _ _)) | (exact (rfl : @Eq (Nat → Int) _ _)) | (exact Iff.rfl) | (exact h0.symm) | (refine clearMapRow_l13_T φ h0 _  _ _ _) |  rfl)
theorem resetFileTables_l2b_T (φ : Int → Int) (h0 : φ 0 = 0) (rec : Int → Obj → Option (Int × Obj)) (x1 : Int) (s : Obj) (h_rec : ∀ a0 t, rec a0 (Tm φ t) = mp φ (rec a0 t)) : resetFileTables_l2b rec x1 (Tm φ s) = mp φ (resetFileTables_l2b rec x1 s) := by
  unfold resetFileTables_l2b
  repeat' (first | (intro _) | (with_reducible refine mp_ite φ ?_ ?_ ?_) | (with_reducible refine mp_cB φ ?_ ?_) | (with_reducible refine mp_lO φ ?_ ?_) | (with_reducible refine mp_lI φ ?_ ?_) | (with_reducible refine mp_rV φ ?_ ?_) | (with_reducible refine mp_rB φ ?_ ?_ ?_) | (with_reducible refine mp_wB φ (by decide) ?_ ?_ ?_ ?_) | (with_reducible refine mp_wV φ ?_ ?_ ?_ ?_) | (with_reducible refine mp_some φ ?_ ?_) | (with_reducible refine mp_dB φ ?_ ?_) | (with_reducible exact h_rec _ _) | (with_reducible (refine clearMapRow_M_T φ h0 _ _ )) | (with_reducible rfl) | (with_reducible refine mp_sF φ ?_) | (exact (rfl : @Eq Int _ _)) | (exact (rfl : @Eq (Nat → Int) _ _)) | (exact Iff.rfl) | (exact h0.symm) | exact h_rec _ _ | (refine clearMapRow_M_T φ h0 _ _ ) |  rfl)
theorem resetFileTables_l2_T (φ : Int → Int) (h0 : φ 0 = 0)   : ∀ (fu : Nat) (a0 : Int) (s : Obj), resetFileTables_l2  fu a0 (Tm φ s) = mp φ (resetFileTables_l2  fu a0 s) := by
  intro fu
  induction fu with
  | zero => intros; rfl
  | succ fu ih => intro a0 s; exact resetFileTables_l2b_T φ h0 _ _ s ih
theorem resetFileTables_M_T (φ : Int → Int) (h0 : φ 0 = 0) (s : Obj)  : resetFileTables_M (Tm φ s) = mp φ (resetFileTables_M s) := by
  unfold resetFileTables_M
  repeat' (first | (intro _) | (with_reducible refine mp_ite φ ?_ ?_ ?_) | (with_reducible refine mp_cB φ ?_ ?_) | (with_reducible refine mp_lO φ ?_ ?_) | (with_reducible refine mp_lI φ ?_ ?_) | (with_reducible refine mp_rV φ ?_ ?_) | (with_reducible refine mp_rB φ ?_ ?_ ?_) | (with_reducible refine mp_wB φ (by decide) ?_ ?_ ?_ ?_) | (with_reducible refine mp_wV φ ?_ ?_ ?_ ?_) | (with_reducible refine mp_some φ ?_ ?_) | (with_reducible refine mp_dB φ ?_ ?_) | (with_reducible (refine resetFileTables_l2_T φ h0   _ _ _)) | (with_reducible rfl) | (with_reducible refine mp_sF φ ?_) | (exact (rfl : @Eq Int _ _)) | (exact (rfl : @Eq (Nat → Int) _ _)) | (exact Iff.rfl) | (exact h0.symm) | (refine resetFileTables_l2_T φ h0   _ _ _) |  rfl)
theorem ctor_B_T (φ : Int → Int) (h0 : φ 0 = 0) (x1 : Int) (x2 : Int) (x3 : Int) (s : Obj)  : ctor_B x1 x2 x3 (Tm φ s) = mp φ (ctor_B x1 x2 x3 s) := by
  unfold ctor_B
  repeat' (first | (intro _) | (with_reducible refine mp_ite φ ?_ ?_ ?_) | (with_reducible refine mp_cB φ ?_ ?_) | (with_reducible refine mp_lO φ ?_ ?_) | (with_reducible refine mp_lI φ ?_ ?_) | (with_reducible refine mp_rV φ ?_ ?_) | (with_reducible refine mp_rB φ ?_ ?_ ?_) | (with_reducible refine mp_wB φ (by decide) ?_ ?_ ?_ ?_) | (with_reducible refine mp_wV φ ?_ ?_ ?_ ?_) | (with_reducible refine mp_some φ ?_ ?_) | (with_reducible refine mp_dB φ ?_ ?_) | (with_reducible (refine clamp_M_T φ h0 _ _ _ _ )) | (with_reducible (refine resetBlockTables_M_T φ h0 _ )) | (with_reducible (refine resetFileTables_M_T φ h0 _ )) | (with_reducible rfl) | (with_reducible refine mp_sF φ ?_) | (exact (rfl : @Eq Int _ _)) | (exact (rfl : @Eq (Nat → Int) _ _)) | (exact Iff.rfl) | (exact h0.symm) | (refine clamp_M_T φ h0 _ _ _ _ ) | (refine resetBlockTables_M_T φ h0 _ ) | (refine resetFileTables_M_T φ h0 _ ) |  rfl)
theorem create_l2b_T (φ : Int → Int) (h0 : φ 0 = 0) (k25 : Int → Obj → Option (Int × Obj)) (rec : Int → Obj → Option (Int × Obj)) (x1 : Int) (s : Obj) (h_k25 : ∀ a0 t, k25 a0 (Tm φ t) = mp φ (k25 a0 t)) (h_rec : ∀ a0 t, rec a0 (Tm φ t) = mp φ (rec a0 t)) : create_l2b k25 rec x1 (Tm φ s) = mp φ (create_l2b k25 rec x1 s) := by
  unfold create_l2b
  repeat' (first | (intro _) | (with_reducible refine mp_ite φ ?_ ?_ ?_) | (with_reducible refine mp_cB φ ?_ ?_) | (with_reducible refine mp_lO φ ?_ ?_) | (with_reducible refine mp_lI φ ?_ ?_) | (with_reducible refine mp_rV φ ?_ ?_) | (with_reducible refine mp_rB φ ?_ ?_ ?_) | (with_reducible refine mp_wB φ (by decide) ?_ ?_ ?_ ?_) | (with_reducible refine mp_wV φ ?_ ?_ ?_ ?_) | (with_reducible refine mp_some φ ?_ ?_) | (with_reducible refine mp_dB φ ?_ ?_) | (with_reducible exact h_k25 _ _) | (with_reducible exact h_rec _ _) | (with_reducible rfl) | (with_reducible refine mp_sF φ ?_) | (exact (rfl : @Eq Int _ _)) | (exact (rfl : @Eq (Nat → Int) _ _)) | (exact Iff.rfl) | (exact h0.symm) | exact h_k25 _ _ | exact h_rec _ _ |  rfl)
theorem create_l2_T (φ : Int → Int) (h0 : φ 0 = 0) (k25 : Int → Obj → Option (Int × Obj)) (h_k25 : ∀ a0 t, k25 a0 (Tm φ t) = mp φ (k25 a0 t)) : ∀ (fu : Nat) (a0 : Int) (s : Obj), create_l2 k25 fu a0 (Tm φ s) = mp φ (create_l2 k25 fu a0 s) := by
  intro fu
  induction fu with
  | zero => intros; rfl
  | succ fu ih => intro a0 s; exact create_l2b_T φ h0 _ _ _ s h_k25 ih
theorem create_M_T (φ : Int → Int) (h0 : φ 0 = 0) (s : Obj)  : create_M (Tm φ s) = mp φ (create_M s) := by
  unfold create_M
  repeat' (first | (intro _) | (with_reducible refine mp_ite φ ?_ ?_ ?_) | (with_reducible refine mp_cB φ ?_ ?_) | (with_reducible refine mp_lO φ ?_ ?_) | (with_reducible refine mp_lI φ ?_ ?_) | (with_reducible refine mp_rV φ ?_ ?_) | (with_reducible refine mp_rB φ ?_ ?_ ?_) | (with_reducible refine mp_wB φ (by decide) ?_ ?_ ?_ ?_) | (with_reducible refine mp_wV φ ?_ ?_ ?_ ?_) | (with_reducible refine mp_some φ ?_ ?_) | (with_reducible refine mp_dB φ ?_ ?_) | (with_reducible (refine create_l2_T φ h0 _ ?_ _ _ _)) | (with_reducible (refine clearMapRow_M_T φ h0 _ _ )) | (with_reducible rfl) | (with_reducible refine mp_sF φ ?_) | (exact (rfl : @Eq Int _ _)) | (exact (rfl : @Eq (Nat → Int) _ _)) | (exact Iff.rfl) | (exact h0.symm) | (refine create_l2_T φ h0 _ ?_ _ _ _) | (refine clearMapRow_M_T φ h0 _ _ ) |  rfl)
theorem isValidFile_M_T (φ : Int → Int) (h0 : φ 0 = 0) (x1 : Int) (s : Obj)  : isValidFile_M x1 (Tm φ s) = mp φ (isValidFile_M x1 s) := by
  unfold isValidFile_M
  repeat' (first | (intro _) | (with_reducible refine mp_ite φ ?_ ?_ ?_) | (with_reducible refine mp_cB φ ?_ ?_) | (with_reducible refine mp_lO φ ?_ ?_) | (with_reducible refine mp_lI φ ?_ ?_) | (with_reducible refine mp_rV φ ?_ ?_) | (with_reducible refine mp_rB φ ?_ ?_ ?_) | (with_reducible refine mp_wB φ (by decide) ?_ ?_ ?_ ?_) | (with_reducible refine mp_wV φ ?_ ?_ ?_ ?_) | (with_reducible refine mp_some φ ?_ ?_) | (with_reducible refine mp_dB φ ?_ ?_) | (with_reducible rfl) | (with_reducible refine mp_sF φ ?_) | (exact (rfl : @Eq Int _ _)) | (exact (rfl : @Eq (Nat → Int) _ _)) | (exact Iff.rfl) | (exact h0.symm) |  rfl)
theorem needsNewBlock_M_T (φ : Int → Int) (h0 : φ 0 = 0) (x1 : Int) (x2 : Int) (s : Obj)  : needsNewBlock_M x1 x2 (Tm φ s) = mp φ (needsNewBlock_M x1 x2 s) := by
  unfold needsNewBlock_M
  repeat' (first | (intro _) | (with_reducible refine mp_ite φ ?_ ?_ ?_) | (with_reducible refine mp_cB φ ?_ ?_) | (with_reducible refine mp_lO φ ?_ ?_) | (with_reducible refine mp_lI φ ?_ ?_) | (with_reducible refine mp_rV φ ?_ ?_) | (with_reducible refine mp_rB φ ?_ ?_ ?_) | (with_reducible refine mp_wB φ (by decide) ?_ ?_ ?_ ?_) | (with_reducible refine mp_wV φ ?_ ?_ ?_ ?_) | (with_reducible refine mp_some φ ?_ ?_) | (with_reducible refine mp_dB φ ?_ ?_) | (with_reducible rfl) | (with_reducible refine mp_sF φ ?_) | (exact (rfl : @Eq Int _ _)) | (exact (rfl : @Eq (Nat → Int) _ _)) | (exact Iff.rfl) | (exact h0.symm) |  rfl)
theorem blocksFor_M_T (φ : Int → Int) (h0 : φ 0 = 0) (x1 : Int) (s : Obj)  : blocksFor_M x1 (Tm φ s) = mp φ (blocksFor_M x1 s) := by
  unfold blocksFor_M
  repeat' (first | (intro _) | (with_reducible refine mp_ite φ ?_ ?_ ?_) | (with_reducible refine mp_cB φ ?_ ?_) | (with_reducible refine mp_lO φ ?_ ?_) | (with_reducible refine mp_lI φ ?_ ?_) | (with_reducible refine mp_rV φ ?_ ?_) | (with_reducible refine mp_rB φ ?_ ?_ ?_) | (with_reducible refine mp_wB φ (by decide) ?_ ?_ ?_ ?_) | (with_reducible refine mp_wV φ ?_ ?_ ?_ ?_) | (with_reducible refine mp_some φ ?_ ?_) | (with_reducible refine mp_dB φ ?_ ?_) | (with_reducible rfl) | (with_reducible refine mp_sF φ ?_) | (exact (rfl : @Eq Int _ _)) | (exact (rfl : @Eq (Nat → Int) _ _)) | (exact Iff.rfl) | (exact h0.symm) |  rfl)
theorem bitCount_M_T (φ : Int → Int) (h0 : φ 0 = 0) (x1 : Int) (s : Obj)  : bitCount_M x1 (Tm φ s) = mp φ (bitCount_M x1 s) := by
  unfold bitCount_M
  repeat' (first | (intro _) | (with_reducible refine mp_ite φ ?_ ?_ ?_) | (with_reducible refine mp_cB φ ?_ ?_) | (with_reducible refine mp_lO φ ?_ ?_) | (with_reducible refine mp_lI φ ?_ ?_) | (with_reducible refine mp_rV φ ?_ ?_) | (with_reducible refine mp_rB φ ?_ ?_ ?_) | (with_reducible refine mp_wB φ (by decide) ?_ ?_ ?_ ?_) | (with_reducible refine mp_wV φ ?_ ?_ ?_ ?_) | (with_reducible refine mp_some φ ?_ ?_) | (with_reducible refine mp_dB φ ?_ ?_) | (with_reducible rfl) | (with_reducible refine mp_sF φ ?_) | (exact (rfl : @Eq Int _ _)) | (exact (rfl : @Eq (Nat → Int) _ _)) | (exact Iff.rfl) | (exact h0.symm) |  rfl)
theorem allocatedCount_M_T (φ : Int → Int) (h0 : φ 0 = 0) (s : Obj)  : allocatedCount_M (Tm φ s) = mp φ (allocatedCount_M s) := by
  unfold allocatedCount_M
  repeat' (first | (intro _) | (with_reducible refine mp_ite φ ?_ ?_ ?_) | (with_reducible refine mp_cB φ ?_ ?_) | (with_reducible refine mp_lO φ ?_ ?_) | (with_reducible refine mp_lI φ ?_ ?_) | (with_reducible refine mp_rV φ ?_ ?_) | (with_reducible refine mp_rB φ ?_ ?_ ?_) | (with_reducible refine mp_wB φ (by decide) ?_ ?_ ?_ ?_) | (with_reducible refine mp_wV φ ?_ ?_ ?_ ?_) | (with_reducible refine mp_some φ ?_ ?_) | (with_reducible refine mp_dB φ ?_ ?_) | (with_reducible (refine bitCount_M_T φ h0 _ _ )) | (with_reducible rfl) | (with_reducible refine mp_sF φ ?_) | (exact (rfl : @Eq Int _ _)) | (exact (rfl : @Eq (Nat → Int) _ _)) | (exact Iff.rfl) | (exact h0.symm) | (refine bitCount_M_T φ h0 _ _ ) |  rfl)
theorem lowMask_M_T (φ : Int → Int) (h0 : φ 0 = 0) (x1 : Int) (s : Obj)  : lowMask_M x1 (Tm φ s) = mp φ (lowMask_M x1 s) := by
  unfold lowMask_M
  repeat' (first | (intro _) | (with_reducible refine mp_ite φ ?_ ?_ ?_) | (with_reducible refine mp_cB φ ?_ ?_) | (with_reducible refine mp_lO φ ?_ ?_) | (with_reducible refine mp_lI φ ?_ ?_) | (with_reducible refine mp_rV φ ?_ ?_) | (with_reducible refine mp_rB φ ?_ ?_ ?_) | (with_reducible refine mp_wB φ (by decide) ?_ ?_ ?_ ?_) | (with_reducible refine mp_wV φ ?_ ?_ ?_ ?_) | (with_reducible refine mp_some φ ?_ ?_) | (with_reducible refine mp_dB φ ?_ ?_) | (with_reducible rfl) | (with_reducible refine mp_sF φ ?_) | (exact (rfl : @Eq Int _ _)) | (exact (rfl : @Eq (Nat → Int) _ _)) | (exact Iff.rfl) | (exact h0.symm) |  rfl)
theorem freeBelow_M_T (φ : Int → Int) (h0 : φ 0 = 0) (x1 : Int) (s : Obj)  : freeBelow_M x1 (Tm φ s) = mp φ (freeBelow_M x1 s) := by
  unfold freeBelow_M
  repeat' (first | (intro _) | (with_reducible refine mp_ite φ ?_ ?_ ?_) | (with_reducible refine mp_cB φ ?_ ?_) | (with_reducible refine mp_lO φ ?_ ?_) | (with_reducible refine mp_lI φ ?_ ?_) | (with_reducible refine mp_rV φ ?_ ?_) | (with_reducible refine mp_rB φ ?_ ?_ ?_) | (with_reducible refine mp_wB φ (by decide) ?_ ?_ ?_ ?_) | (with_reducible refine mp_wV φ ?_ ?_ ?_ ?_) | (with_reducible refine mp_some φ ?_ ?_) | (with_reducible refine mp_dB φ ?_ ?_) | (with_reducible (refine lowMask_M_T φ h0 _ _ )) | (with_reducible rfl) | (with_reducible refine mp_sF φ ?_) | (exact (rfl : @Eq Int _ _)) | (exact (rfl : @Eq (Nat → Int) _ _)) | (exact Iff.rfl) | (exact h0.symm) | (refine lowMask_M_T φ h0 _ _ ) |  rfl)
theorem lowestBit_j71_T (φ : Int → Int) (h0 : φ 0 = 0) (x2 : Int) (x3 : Int) (s : Obj)  : lowestBit_j71 x2 x3 (Tm φ s) = mp φ (lowestBit_j71 x2 x3 s) := by
  unfold lowestBit_j71
  repeat' (first | (intro _) | (with_reducible refine mp_ite φ ?_ ?_ ?_) | (with_reducible refine mp_cB φ ?_ ?_) | (with_reducible refine mp_lO φ ?_ ?_) | (with_reducible refine mp_lI φ ?_ ?_) | (with_reducible refine mp_rV φ ?_ ?_) | (with_reducible refine mp_rB φ ?_ ?_ ?_) | (with_reducible refine mp_wB φ (by decide) ?_ ?_ ?_ ?_) | (with_reducible refine mp_wV φ ?_ ?_ ?_ ?_) | (with_reducible refine mp_some φ ?_ ?_) | (with_reducible refine mp_dB φ ?_ ?_) | (with_reducible rfl) | (with_reducible refine mp_sF φ ?_) | (exact (rfl : @Eq Int _ _)) | (exact (rfl : @Eq (Nat → Int) _ _)) | (exact Iff.rfl) | (exact h0.symm) |  rfl)
theorem lowestBit_j58_T (φ : Int → Int) (h0 : φ 0 = 0) (x2 : Int) (x3 : Int) (s : Obj)  : lowestBit_j58 x2 x3 (Tm φ s) = mp φ (lowestBit_j58 x2 x3 s) := by
  unfold lowestBit_j58
  repeat' (first | (intro _) | (with_reducible refine mp_ite φ ?_ ?_ ?_) | (with_reducible refine mp_cB φ ?_ ?_) | (with_reducible refine mp_lO φ ?_ ?_) | (with_reducible refine mp_lI φ ?_ ?_) | (with_reducible refine mp_rV φ ?_ ?_) | (with_reducible refine mp_rB φ ?_ ?_ ?_) | (with_reducible refine mp_wB φ (by decide) ?_ ?_ ?_ ?_) | (with_reducible refine mp_wV φ ?_ ?_ ?_ ?_) | (with_reducible refine mp_some φ ?_ ?_) | (with_reducible refine mp_dB φ ?_ ?_) | (with_reducible (refine lowestBit_j71_T φ h0 _ _ _ )) | (with_reducible rfl) | (with_reducible refine mp_sF φ ?_) | (exact (rfl : @Eq Int _ _)) | (exact (rfl : @Eq (Nat → Int) _ _)) | (exact Iff.rfl) | (exact h0.symm) | (refine lowestBit_j71_T φ h0 _ _ _ ) |  rfl)
theorem lowestBit_j44_T (φ : Int → Int) (h0 : φ 0 = 0) (x2 : Int) (x3 : Int) (s : Obj)  : lowestBit_j44 x2 x3 (Tm φ s) = mp φ (lowestBit_j44 x2 x3 s) := by
  unfold lowestBit_j44
  repeat' (first | (intro _) | (with_reducible refine mp_ite φ ?_ ?_ ?_) | (with_reducible refine mp_cB φ ?_ ?_) | (with_reducible refine mp_lO φ ?_ ?_) | (with_reducible refine mp_lI φ ?_ ?_) | (with_reducible refine mp_rV φ ?_ ?_) | (with_reducible refine mp_rB φ ?_ ?_ ?_) | (with_reducible refine mp_wB φ (by decide) ?_ ?_ ?_ ?_) | (with_reducible refine mp_wV φ ?_ ?_ ?_ ?_) | (with_reducible refine mp_some φ ?_ ?_) | (with_reducible refine mp_dB φ ?_ ?_) | (with_reducible (refine lowestBit_j58_T φ h0 _ _ _ )) | (with_reducible rfl) | (with_reducible refine mp_sF φ ?_) | (exact (rfl : @Eq Int _ _)) | (exact (rfl : @Eq (Nat → Int) _ _)) | (exact Iff.rfl) | (exact h0.symm) | (refine lowestBit_j58_T φ h0 _ _ _ ) |  rfl)
theorem lowestBit_j28_T (φ : Int → Int) (h0 : φ 0 = 0) (x2 : Int) (x3 : Int) (s : Obj)  : lowestBit_j28 x2 x3 (Tm φ s) = mp φ (lowestBit_j28 x2 x3 s) := by
  unfold lowestBit_j28
  repeat' (first | (intro _) | (with_reducible refine mp_ite φ ?_ ?_ ?_) | (with_reducible refine mp_cB φ ?_ ?_) | (with_reducible refine mp_lO φ ?_ ?_) | (with_reducible refine mp_lI φ ?_ ?_) | (with_reducible refine mp_rV φ ?_ ?_) | (with_reducible refine mp_rB φ ?_ ?_ ?_) | (with_reducible refine mp_wB φ (by decide) ?_ ?_ ?_ ?_) | (with_reducible refine mp_wV φ ?_ ?_ ?_ ?_) | (with_reducible refine mp_some φ ?_ ?_) | (with_reducible refine mp_dB φ ?_ ?_) | (with_reducible (refine lowestBit_j44_T φ h0 _ _ _ )) | (with_reducible rfl) | (with_reducible refine mp_sF φ ?_) | (exact (rfl : @Eq Int _ _)) | (exact (rfl : @Eq (Nat → Int) _ _)) | (exact Iff.rfl) | (exact h0.symm) | (refine lowestBit_j44_T φ h0 _ _ _ ) |  rfl)
theorem lowestBit_M_T (φ : Int → Int) (h0 : φ 0 = 0) (x1 : Int) (s : Obj)  : lowestBit_M x1 (Tm φ s) = mp φ (lowestBit_M x1 s) := by
  unfold lowestBit_M
  repeat' (first | (intro _) | (with_reducible refine mp_ite φ ?_ ?_ ?_) | (with_reducible refine mp_cB φ ?_ ?_) | (with_reducible refine mp_lO φ ?_ ?_) | (with_reducible refine mp_lI φ ?_ ?_) | (with_reducible refine mp_rV φ ?_ ?_) | (with_reducible refine mp_rB φ ?_ ?_ ?_) | (with_reducible refine mp_wB φ (by decide) ?_ ?_ ?_ ?_) | (with_reducible refine mp_wV φ ?_ ?_ ?_ ?_) | (with_reducible refine mp_some φ ?_ ?_) | (with_reducible refine mp_dB φ ?_ ?_) | (with_reducible (refine lowestBit_j28_T φ h0 _ _ _ )) | (with_reducible rfl) | (with_reducible refine mp_sF φ ?_) | (exact (rfl : @Eq Int _ _)) | (exact (rfl : @Eq (Nat → Int) _ _)) | (exact Iff.rfl) | (exact h0.symm) | (refine lowestBit_j28_T φ h0 _ _ _ ) |  rfl)
theorem allocateBlock_j30_T (φ : Int → Int) (h0 : φ 0 = 0) (x1 : Int) (s : Obj)  : allocateBlock_j30 x1 (Tm φ s) = mp φ (allocateBlock_j30 x1 s) := by
  unfold allocateBlock_j30
  repeat' (first | (intro _) | (with_reducible refine mp_ite φ ?_ ?_ ?_) | (with_reducible refine mp_cB φ ?_ ?_) | (with_reducible refine mp_lO φ ?_ ?_) | (with_reducible refine mp_lI φ ?_ ?_) | (with_reducible refine mp_rV φ ?_ ?_) | (with_reducible refine mp_rB φ ?_ ?_ ?_) | (with_reducible refine mp_wB φ (by decide) ?_ ?_ ?_ ?_) | (with_reducible refine mp_wV φ ?_ ?_ ?_ ?_) | (with_reducible refine mp_some φ ?_ ?_) | (with_reducible refine mp_dB φ ?_ ?_) | (with_reducible (refine freeBelow_M_T φ h0 _ _ )) | (with_reducible (refine lowestBit_M_T φ h0 _ _ )) | (with_reducible rfl) | (with_reducible refine mp_sF φ ?_) | (exact (rfl : @Eq Int _ _)) | (exact (rfl : @Eq (Nat → Int) _ _)) | (exact Iff.rfl) | (exact h0.symm) | (refine freeBelow_M_T φ h0 _ _ ) | (refine lowestBit_M_T φ h0 _ _ ) |  rfl)
theorem allocateBlock_M_T (φ : Int → Int) (h0 : φ 0 = 0) (s : Obj)  : allocateBlock_M (Tm φ s) = mp φ (allocateBlock_M s) := by
  unfold allocateBlock_M
  repeat' (first | (intro _) | (with_reducible refine mp_ite φ ?_ ?_ ?_) | (with_reducible refine mp_cB φ ?_ ?_) | (with_reducible refine mp_lO φ ?_ ?_) | (with_reducible refine mp_lI φ ?_ ?_) | (with_reducible refine mp_rV φ ?_ ?_) | (with_reducible refine mp_rB φ ?_ ?_ ?_) | (with_reducible refine mp_wB φ (by decide) ?_ ?_ ?_ ?_) | (with_reducible refine mp_wV φ ?_ ?_ ?_ ?_) | (with_reducible refine mp_some φ ?_ ?_) | (with_reducible refine mp_dB φ ?_ ?_) | (with_reducible (refine allocateBlock_j30_T φ h0 _ _ )) | (with_reducible (refine allocatedCount_M_T φ h0 _ )) | (with_reducible rfl) | (with_reducible refine mp_sF φ ?_) | (exact (rfl : @Eq Int _ _)) | (exact (rfl : @Eq (Nat → Int) _ _)) | (exact Iff.rfl) | (exact h0.symm) | (refine allocateBlock_j30_T φ h0 _ _ ) | (refine allocatedCount_M_T φ h0 _ ) |  rfl)
theorem mapSlot_M_T (φ : Int → Int) (h0 : φ 0 = 0) (x1 : Int) (x2 : Int) (s : Obj)  : mapSlot_M x1 x2 (Tm φ s) = mp φ (mapSlot_M x1 x2 s) := by
  unfold mapSlot_M
  repeat' (first | (intro _) | (with_reducible refine mp_ite φ ?_ ?_ ?_) | (with_reducible refine mp_cB φ ?_ ?_) | (with_reducible refine mp_lO φ ?_ ?_) | (with_reducible refine mp_lI φ ?_ ?_) | (with_reducible refine mp_rV φ ?_ ?_) | (with_reducible refine mp_rB φ ?_ ?_ ?_) | (with_reducible refine mp_wB φ (by decide) ?_ ?_ ?_ ?_) | (with_reducible refine mp_wV φ ?_ ?_ ?_ ?_) | (with_reducible refine mp_some φ ?_ ?_) | (with_reducible refine mp_dB φ ?_ ?_) | (with_reducible rfl) | (with_reducible refine mp_sF φ ?_) | (exact (rfl : @Eq Int _ _)) | (exact (rfl : @Eq (Nat → Int) _ _)) | (exact Iff.rfl) | (exact h0.symm) |  rfl)
theorem markAllocated_M_T (φ : Int → Int) (h0 : φ 0 = 0) (x1 : Int) (x2 : Int) (x3 : Int) (s : Obj)  : markAllocated_M x1 x2 x3 (Tm φ s) = mp φ (markAllocated_M x1 x2 x3 s) := by
  unfold markAllocated_M
  repeat' (first | (intro _) | (with_reducible refine mp_ite φ ?_ ?_ ?_) | (with_reducible refine mp_cB φ ?_ ?_) | (with_reducible refine mp_lO φ ?_ ?_) | (with_reducible refine mp_lI φ ?_ ?_) | (with_reducible refine mp_rV φ ?_ ?_) | (with_reducible refine mp_rB φ ?_ ?_ ?_) | (with_reducible refine mp_wB φ (by decide) ?_ ?_ ?_ ?_) | (with_reducible refine mp_wV φ ?_ ?_ ?_ ?_) | (with_reducible refine mp_some φ ?_ ?_) | (with_reducible refine mp_dB φ ?_ ?_) | (with_reducible rfl) | (with_reducible refine mp_sF φ ?_) | (exact (rfl : @Eq Int _ _)) | (exact (rfl : @Eq (Nat → Int) _ _)) | (exact Iff.rfl) | (exact h0.symm) |  rfl)
theorem attach_M_T (φ : Int → Int) (h0 : φ 0 = 0) (x1 : Int) (x2 : Int) (x3 : Int) (s : Obj)  : attach_M x1 x2 x3 (Tm φ s) = mp φ (attach_M x1 x2 x3 s) := by
  unfold attach_M
  repeat' (first | (intro _) | (with_reducible refine mp_ite φ ?_ ?_ ?_) | (with_reducible refine mp_cB φ ?_ ?_) | (with_reducible refine mp_lO φ ?_ ?_) | (with_reducible refine mp_lI φ ?_ ?_) | (with_reducible refine mp_rV φ ?_ ?_) | (with_reducible refine mp_rB φ ?_ ?_ ?_) | (with_reducible refine mp_wB φ (by decide) ?_ ?_ ?_ ?_) | (with_reducible refine mp_wV φ ?_ ?_ ?_ ?_) | (with_reducible refine mp_some φ ?_ ?_) | (with_reducible refine mp_dB φ ?_ ?_) | (with_reducible (refine mapSlot_M_T φ h0 _ _ _ )) | (with_reducible (refine markAllocated_M_T φ h0 _ _ _ _ )) | (with_reducible rfl) | (with_reducible refine mp_sF φ ?_) | (exact (rfl : @Eq Int _ _)) | (exact (rfl : @Eq (Nat → Int) _ _)) | (exact Iff.rfl) | (exact h0.symm) | (refine mapSlot_M_T φ h0 _ _ _ ) | (refine markAllocated_M_T φ h0 _ _ _ _ ) |  rfl)
theorem growByOneBlock_M_T (φ : Int → Int) (h0 : φ 0 = 0) (x1 : Int) (s : Obj)  : growByOneBlock_M x1 (Tm φ s) = mp φ (growByOneBlock_M x1 s) := by
  unfold growByOneBlock_M
  repeat' (first | (intro _) | (with_reducible refine mp_ite φ ?_ ?_ ?_) | (with_reducible refine mp_cB φ ?_ ?_) | (with_reducible refine mp_lO φ ?_ ?_) | (with_reducible refine mp_lI φ ?_ ?_) | (with_reducible refine mp_rV φ ?_ ?_) | (with_reducible refine mp_rB φ ?_ ?_ ?_) | (with_reducible refine mp_wB φ (by decide) ?_ ?_ ?_ ?_) | (with_reducible refine mp_wV φ ?_ ?_ ?_ ?_) | (with_reducible refine mp_some φ ?_ ?_) | (with_reducible refine mp_dB φ ?_ ?_) | (with_reducible (refine blocksFor_M_T φ h0 _ _ )) | (with_reducible (refine allocateBlock_M_T φ h0 _ )) | (with_reducible (refine attach_M_T φ h0 _ _ _ _ )) | (with_reducible rfl) | (with_reducible refine mp_sF φ ?_) | (exact (rfl : @Eq Int _ _)) | (exact (rfl : @Eq (Nat → Int) _ _)) | (exact Iff.rfl) | (exact h0.symm) | (refine blocksFor_M_T φ h0 _ _ ) | (refine allocateBlock_M_T φ h0 _ ) | (refine attach_M_T φ h0 _ _ _ _ ) |  rfl)
theorem byteSlot_M_T (φ : Int → Int) (h0 : φ 0 = 0) (x1 : Int) (x2 : Int) (s : Obj)  : byteSlot_M x1 x2 (Tm φ s) = mp φ (byteSlot_M x1 x2 s) := by
  unfold byteSlot_M
  repeat' (first | (intro _) | (with_reducible refine mp_ite φ ?_ ?_ ?_) | (with_reducible refine mp_cB φ ?_ ?_) | (with_reducible refine mp_lO φ ?_ ?_) | (with_reducible refine mp_lI φ ?_ ?_) | (with_reducible refine mp_rV φ ?_ ?_) | (with_reducible refine mp_rB φ ?_ ?_ ?_) | (with_reducible refine mp_wB φ (by decide) ?_ ?_ ?_ ?_) | (with_reducible refine mp_wV φ ?_ ?_ ?_ ?_) | (with_reducible refine mp_some φ ?_ ?_) | (with_reducible refine mp_dB φ ?_ ?_) | (with_reducible rfl) | (with_reducible refine mp_sF φ ?_) | (exact (rfl : @Eq Int _ _)) | (exact (rfl : @Eq (Nat → Int) _ _)) | (exact Iff.rfl) | (exact h0.symm) |  rfl)
theorem storeAt_M_T (φ : Int → Int) (h0 : φ 0 = 0) (x1 : Int) (x2 : Int) (x3 : Int) (s : Obj) (x3p : Int) (h_amp : aAnd x3p 255 = φ (aAnd x3 255))  : storeAt_M x1 x2 x3p (Tm φ s) = mp φ (storeAt_M x1 x2 x3 s) := by
  unfold storeAt_M
  repeat' (first | (intro _) | (with_reducible refine mp_ite φ ?_ ?_ ?_) | (with_reducible refine mp_cB φ ?_ ?_) | (with_reducible refine mp_lO φ ?_ ?_) | (with_reducible refine mp_lI φ ?_ ?_) | (with_reducible refine mp_rV φ ?_ ?_) | (with_reducible refine mp_rB φ ?_ ?_ ?_) | (with_reducible refine mp_wB φ (by decide) ?_ ?_ ?_ ?_) | (with_reducible refine mp_wV φ ?_ ?_ ?_ ?_) | (with_reducible refine mp_some φ ?_ ?_) | (with_reducible refine mp_dB φ ?_ ?_) | (with_reducible (refine mapSlot_M_T φ h0 _ _ _ )) | (with_reducible (refine byteSlot_M_T φ h0 _ _ _ )) | (with_reducible rfl) | (with_reducible refine mp_sF φ ?_) | (exact (rfl : @Eq Int _ _)) | (exact (rfl : @Eq (Nat → Int) _ _)) | (exact Iff.rfl) | (exact h0.symm) | (exact h_amp) | (refine mapSlot_M_T φ h0 _ _ _ ) | (refine byteSlot_M_T φ h0 _ _ _ ) |  rfl)
theorem write_j56_T (φ : Int → Int) (h0 : φ 0 = 0) (x1 : Int) (x2 : Int) (x3 : Int) (x4 : Int) (s : Obj) (x3p : Int) (h_amp : aAnd x3p 255 = φ (aAnd x3 255))  : write_j56 x1 x2 x3p x4 (Tm φ s) = mp φ (write_j56 x1 x2 x3 x4 s) := by
  unfold write_j56
  repeat' (first | (intro _) | (with_reducible refine mp_ite φ ?_ ?_ ?_) | (with_reducible refine mp_cB φ ?_ ?_) | (with_reducible refine mp_lO φ ?_ ?_) | (with_reducible refine mp_lI φ ?_ ?_) | (with_reducible refine mp_rV φ ?_ ?_) | (with_reducible refine mp_rB φ ?_ ?_ ?_) | (with_reducible refine mp_wB φ (by decide) ?_ ?_ ?_ ?_) | (with_reducible refine mp_wV φ ?_ ?_ ?_ ?_) | (with_reducible refine mp_some φ ?_ ?_) | (with_reducible refine mp_dB φ ?_ ?_) | (with_reducible (refine storeAt_M_T φ h0 _ _ _ _ _ ?_ )) | (with_reducible rfl) | (with_reducible refine mp_sF φ ?_) | (exact (rfl : @Eq Int _ _)) | (exact (rfl : @Eq (Nat → Int) _ _)) | (exact Iff.rfl) | (exact h0.symm) | (exact h_amp) | (refine storeAt_M_T φ h0 _ _ _ _ _ ?_ ) |  rfl)
theorem write_M_T (φ : Int → Int) (h0 : φ 0 = 0) (x1 : Int) (x2 : Int) (x3 : Int) (s : Obj) (x3p : Int) (h_amp : aAnd x3p 255 = φ (aAnd x3 255))  : write_M x1 x2 x3p (Tm φ s) = mp φ (write_M x1 x2 x3 s) := by
  unfold write_M
  repeat' (first | (intro _) | (with_reducible refine mp_ite φ ?_ ?_ ?_) | (with_reducible refine mp_cB φ ?_ ?_) | (with_reducible refine mp_lO φ ?_ ?_) | (with_reducible refine mp_lI φ ?_ ?_) | (with_reducible refine mp_rV φ ?_ ?_) | (with_reducible refine mp_rB φ ?_ ?_ ?_) | (with_reducible refine mp_wB φ (by decide) ?_ ?_ ?_ ?_) | (with_reducible refine mp_wV φ ?_ ?_ ?_ ?_) | (with_reducible refine mp_some φ ?_ ?_) | (with_reducible refine mp_dB φ ?_ ?_) | (with_reducible (refine isValidFile_M_T φ h0 _ _ )) | (with_reducible (refine needsNewBlock_M_T φ h0 _ _ _ )) | (with_reducible (refine write_j56_T φ h0 _ _ _ _ _ _ ?_ )) | (with_reducible (refine growByOneBlock_M_T φ h0 _ _ )) | (with_reducible rfl) | (with_reducible refine mp_sF φ ?_) | (exact (rfl : @Eq Int _ _)) | (exact (rfl : @Eq (Nat → Int) _ _)) | (exact Iff.rfl) | (exact h0.symm) | (exact h_amp) | (refine isValidFile_M_T φ h0 _ _ ) | (refine needsNewBlock_M_T φ h0 _ _ _ ) | (refine write_j56_T φ h0 _ _ _ _ _ _ ?_ ) | (refine growByOneBlock_M_T φ h0 _ _ ) |  rfl)
theorem physOf_M_T (φ : Int → Int) (h0 : φ 0 = 0) (x1 : Int) (x2 : Int) (s : Obj)  : physOf_M x1 x2 (Tm φ s) = mp φ (physOf_M x1 x2 s) := by
  unfold physOf_M
  repeat' (first | (intro _) | (with_reducible refine mp_ite φ ?_ ?_ ?_) | (with_reducible refine mp_cB φ ?_ ?_) | (with_reducible refine mp_lO φ ?_ ?_) | (with_reducible refine mp_lI φ ?_ ?_) | (with_reducible refine mp_rV φ ?_ ?_) | (with_reducible refine mp_rB φ ?_ ?_ ?_) | (with_reducible refine mp_wB φ (by decide) ?_ ?_ ?_ ?_) | (with_reducible refine mp_wV φ ?_ ?_ ?_ ?_) | (with_reducible refine mp_some φ ?_ ?_) | (with_reducible refine mp_dB φ ?_ ?_) | (with_reducible (refine isValidFile_M_T φ h0 _ _ )) | (with_reducible (refine blocksFor_M_T φ h0 _ _ )) | (with_reducible (refine mapSlot_M_T φ h0 _ _ _ )) | (with_reducible rfl) | (with_reducible refine mp_sF φ ?_) | (exact (rfl : @Eq Int _ _)) | (exact (rfl : @Eq (Nat → Int) _ _)) | (exact Iff.rfl) | (exact h0.symm) | (refine isValidFile_M_T φ h0 _ _ ) | (refine blocksFor_M_T φ h0 _ _ ) | (refine mapSlot_M_T φ h0 _ _ _ ) |  rfl)
theorem markFree_M_T (φ : Int → Int) (h0 : φ 0 = 0) (x1 : Int) (s : Obj)  : markFree_M x1 (Tm φ s) = mp φ (markFree_M x1 s) := by
  unfold markFree_M
  repeat' (first | (intro _) | (with_reducible refine mp_ite φ ?_ ?_ ?_) | (with_reducible refine mp_cB φ ?_ ?_) | (with_reducible refine mp_lO φ ?_ ?_) | (with_reducible refine mp_lI φ ?_ ?_) | (with_reducible refine mp_rV φ ?_ ?_) | (with_reducible refine mp_rB φ ?_ ?_ ?_) | (with_reducible refine mp_wB φ (by decide) ?_ ?_ ?_ ?_) | (with_reducible refine mp_wV φ ?_ ?_ ?_ ?_) | (with_reducible refine mp_some φ ?_ ?_) | (with_reducible refine mp_dB φ ?_ ?_) | (with_reducible rfl) | (with_reducible refine mp_sF φ ?_) | (exact (rfl : @Eq Int _ _)) | (exact (rfl : @Eq (Nat → Int) _ _)) | (exact Iff.rfl) | (exact h0.symm) |  rfl)
theorem releaseFrom_l26b_T (φ : Int → Int) (h0 : φ 0 = 0) (x1 : Int) (x3 : Int) (rec : Int → Obj → Option (Int × Obj)) (x5 : Int) (s : Obj) (h_rec : ∀ a0 t, rec a0 (Tm φ t) = mp φ (rec a0 t)) : releaseFrom_l26b x1 x3 rec x5 (Tm φ s) = mp φ (releaseFrom_l26b x1 x3 rec x5 s) := by
  unfold releaseFrom_l26b
  repeat' (first | (intro _) | (with_reducible refine mp_ite φ ?_ ?_ ?_) | (with_reducible refine mp_cB φ ?_ ?_) | (with_reducible refine mp_lO φ ?_ ?_) | (with_reducible refine mp_lI φ ?_ ?_) | (with_reducible refine mp_rV φ ?_ ?_) | (with_reducible refine mp_rB φ ?_ ?_ ?_) | (with_reducible refine mp_wB φ (by decide) ?_ ?_ ?_ ?_) | (with_reducible refine mp_wV φ ?_ ?_ ?_ ?_) | (with_reducible refine mp_some φ ?_ ?_) | (with_reducible refine mp_dB φ ?_ ?_) | (with_reducible exact h_rec _ _) | (with_reducible (refine mapSlot_M_T φ h0 _ _ _ )) | (with_reducible (refine markFree_M_T φ h0 _ _ )) | (with_reducible rfl) | (with_reducible refine mp_sF φ ?_) | (exact (rfl : @Eq Int _ _)) | (exact (rfl : @Eq (Nat → Int) _ _)) | (exact Iff.rfl) | (exact h0.symm) | exact h_rec _ _ | (refine mapSlot_M_T φ h0 _ _ _ ) | (refine markFree_M_T φ h0 _ _ ) |  rfl)
theorem releaseFrom_l26_T (φ : Int → Int) (h0 : φ 0 = 0) (x1 : Int) (x3 : Int)  : ∀ (fu : Nat) (a0 : Int) (s : Obj), releaseFrom_l26 x1 x3 fu a0 (Tm φ s) = mp φ (releaseFrom_l26 x1 x3 fu a0 s) := by
  intro fu
  induction fu with
  | zero => intros; rfl
  | succ fu ih => intro a0 s; exact releaseFrom_l26b_T φ h0 _ _ _ _ s ih
theorem releaseFrom_j20_T (φ : Int → Int) (h0 : φ 0 = 0) (x1 : Int) (x3 : Int) (y0 : Int) (s : Obj)  : releaseFrom_j20 x1 x3 y0 (Tm φ s) = mp φ (releaseFrom_j20 x1 x3 y0 s) := by
  unfold releaseFrom_j20
  repeat' (first | (intro _) | (with_reducible refine mp_ite φ ?_ ?_ ?_) | (with_reducible refine mp_cB φ ?_ ?_) | (with_reducible refine mp_lO φ ?_ ?_) | (with_reducible refine mp_lI φ ?_ ?_) | (with_reducible refine mp_rV φ ?_ ?_) | (with_reducible refine mp_rB φ ?_ ?_ ?_) | (with_reducible refine mp_wB φ (by decide) ?_ ?_ ?_ ?_) | (with_reducible refine mp_wV φ ?_ ?_ ?_ ?_) | (with_reducible refine mp_some φ ?_ ?_) | (with_reducible refine mp_dB φ ?_ ?_) | (with_reducible (refine releaseFrom_l26_T φ h0 _ _  _ _ _)) | (with_reducible rfl) | (with_reducible refine mp_sF φ ?_) | (exact (rfl : @Eq Int _ _)) | (exact (rfl : @Eq (Nat → Int) _ _)) | (exact Iff.rfl) | (exact h0.symm) | (refine releaseFrom_l26_T φ h0 _ _  _ _ _) |  rfl)
theorem releaseFrom_M_T (φ : Int → Int) (h0 : φ 0 = 0) (x1 : Int) (x2 : Int) (s : Obj)  : releaseFrom_M x1 x2 (Tm φ s) = mp φ (releaseFrom_M x1 x2 s) := by
  unfold releaseFrom_M
  repeat' (first | (intro _) | (with_reducible refine mp_ite φ ?_ ?_ ?_) | (with_reducible refine mp_cB φ ?_ ?_) | (with_reducible refine mp_lO φ ?_ ?_) | (with_reducible refine mp_lI φ ?_ ?_) | (with_reducible refine mp_rV φ ?_ ?_) | (with_reducible refine mp_rB φ ?_ ?_ ?_) | (with_reducible refine mp_wB φ (by decide) ?_ ?_ ?_ ?_) | (with_reducible refine mp_wV φ ?_ ?_ ?_ ?_) | (with_reducible refine mp_some φ ?_ ?_) | (with_reducible refine mp_dB φ ?_ ?_) | (with_reducible (refine blocksFor_M_T φ h0 _ _ )) | (with_reducible (refine releaseFrom_j20_T φ h0 _ _ _ _ )) | (with_reducible rfl) | (with_reducible refine mp_sF φ ?_) | (exact (rfl : @Eq Int _ _)) | (exact (rfl : @Eq (Nat → Int) _ _)) | (exact Iff.rfl) | (exact h0.symm) | (refine blocksFor_M_T φ h0 _ _ ) | (refine releaseFrom_j20_T φ h0 _ _ _ _ ) |  rfl)
theorem delete_M_T (φ : Int → Int) (h0 : φ 0 = 0) (x1 : Int) (s : Obj)  : delete_M x1 (Tm φ s) = mp φ (delete_M x1 s) := by
  unfold delete_M
  repeat' (first | (intro _) | (with_reducible refine mp_ite φ ?_ ?_ ?_) | (with_reducible refine mp_cB φ ?_ ?_) | (with_reducible refine mp_lO φ ?_ ?_) | (with_reducible refine mp_lI φ ?_ ?_) | (with_reducible refine mp_rV φ ?_ ?_) | (with_reducible refine mp_rB φ ?_ ?_ ?_) | (with_reducible refine mp_wB φ (by decide) ?_ ?_ ?_ ?_) | (with_reducible refine mp_wV φ ?_ ?_ ?_ ?_) | (with_reducible refine mp_some φ ?_ ?_) | (with_reducible refine mp_dB φ ?_ ?_) | (with_reducible (refine isValidFile_M_T φ h0 _ _ )) | (with_reducible (refine releaseFrom_M_T φ h0 _ _ _ )) | (with_reducible rfl) | (with_reducible refine mp_sF φ ?_) | (exact (rfl : @Eq Int _ _)) | (exact (rfl : @Eq (Nat → Int) _ _)) | (exact Iff.rfl) | (exact h0.symm) | (refine isValidFile_M_T φ h0 _ _ ) | (refine releaseFrom_M_T φ h0 _ _ _ ) |  rfl)
theorem shrink_M_T (φ : Int → Int) (h0 : φ 0 = 0) (x1 : Int) (s : Obj)  : shrink_M x1 (Tm φ s) = mp φ (shrink_M x1 s) := by
  unfold shrink_M
  repeat' (first | (intro _) | (with_reducible refine mp_ite φ ?_ ?_ ?_) | (with_reducible refine mp_cB φ ?_ ?_) | (with_reducible refine mp_lO φ ?_ ?_) | (with_reducible refine mp_lI φ ?_ ?_) | (with_reducible refine mp_rV φ ?_ ?_) | (with_reducible refine mp_rB φ ?_ ?_ ?_) | (with_reducible refine mp_wB φ (by decide) ?_ ?_ ?_ ?_) | (with_reducible refine mp_wV φ ?_ ?_ ?_ ?_) | (with_reducible refine mp_some φ ?_ ?_) | (with_reducible refine mp_dB φ ?_ ?_) | (with_reducible (refine allocatedCount_M_T φ h0 _ )) | (with_reducible rfl) | (with_reducible refine mp_sF φ ?_) | (exact (rfl : @Eq Int _ _)) | (exact (rfl : @Eq (Nat → Int) _ _)) | (exact Iff.rfl) | (exact h0.symm) | (refine allocatedCount_M_T φ h0 _ ) |  rfl)
theorem usedFrom_M_T (φ : Int → Int) (h0 : φ 0 = 0) (x1 : Int) (s : Obj)  : usedFrom_M x1 (Tm φ s) = mp φ (usedFrom_M x1 s) := by
  unfold usedFrom_M
  repeat' (first | (intro _) | (with_reducible refine mp_ite φ ?_ ?_ ?_) | (with_reducible refine mp_cB φ ?_ ?_) | (with_reducible refine mp_lO φ ?_ ?_) | (with_reducible refine mp_lI φ ?_ ?_) | (with_reducible refine mp_rV φ ?_ ?_) | (with_reducible refine mp_rB φ ?_ ?_ ?_) | (with_reducible refine mp_wB φ (by decide) ?_ ?_ ?_ ?_) | (with_reducible refine mp_wV φ ?_ ?_ ?_ ?_) | (with_reducible refine mp_some φ ?_ ?_) | (with_reducible refine mp_dB φ ?_ ?_) | (with_reducible (refine lowMask_M_T φ h0 _ _ )) | (with_reducible rfl) | (with_reducible refine mp_sF φ ?_) | (exact (rfl : @Eq Int _ _)) | (exact (rfl : @Eq (Nat → Int) _ _)) | (exact Iff.rfl) | (exact h0.symm) | (refine lowMask_M_T φ h0 _ _ ) |  rfl)
theorem pendingCount_M_T (φ : Int → Int) (h0 : φ 0 = 0) (s : Obj)  : pendingCount_M (Tm φ s) = mp φ (pendingCount_M s) := by
  unfold pendingCount_M
  repeat' (first | (intro _) | (with_reducible refine mp_ite φ ?_ ?_ ?_) | (with_reducible refine mp_cB φ ?_ ?_) | (with_reducible refine mp_lO φ ?_ ?_) | (with_reducible refine mp_lI φ ?_ ?_) | (with_reducible refine mp_rV φ ?_ ?_) | (with_reducible refine mp_rB φ ?_ ?_ ?_) | (with_reducible refine mp_wB φ (by decide) ?_ ?_ ?_ ?_) | (with_reducible refine mp_wV φ ?_ ?_ ?_ ?_) | (with_reducible refine mp_some φ ?_ ?_) | (with_reducible refine mp_dB φ ?_ ?_) | (with_reducible (refine usedFrom_M_T φ h0 _ _ )) | (with_reducible (refine bitCount_M_T φ h0 _ _ )) | (with_reducible rfl) | (with_reducible refine mp_sF φ ?_) | (exact (rfl : @Eq Int _ _)) | (exact (rfl : @Eq (Nat → Int) _ _)) | (exact Iff.rfl) | (exact h0.symm) | (refine usedFrom_M_T φ h0 _ _ ) | (refine bitCount_M_T φ h0 _ _ ) |  rfl)
theorem pendingMoves_M_T (φ : Int → Int) (h0 : φ 0 = 0) (s : Obj)  : pendingMoves_M (Tm φ s) = mp φ (pendingMoves_M s) := by
  unfold pendingMoves_M
  repeat' (first | (intro _) | (with_reducible refine mp_ite φ ?_ ?_ ?_) | (with_reducible refine mp_cB φ ?_ ?_) | (with_reducible refine mp_lO φ ?_ ?_) | (with_reducible refine mp_lI φ ?_ ?_) | (with_reducible refine mp_rV φ ?_ ?_) | (with_reducible refine mp_rB φ ?_ ?_ ?_) | (with_reducible refine mp_wB φ (by decide) ?_ ?_ ?_ ?_) | (with_reducible refine mp_wV φ ?_ ?_ ?_ ?_) | (with_reducible refine mp_some φ ?_ ?_) | (with_reducible refine mp_dB φ ?_ ?_) | (with_reducible (refine pendingCount_M_T φ h0 _ )) | (with_reducible rfl) | (with_reducible refine mp_sF φ ?_) | (exact (rfl : @Eq Int _ _)) | (exact (rfl : @Eq (Nat → Int) _ _)) | (exact Iff.rfl) | (exact h0.symm) | (refine pendingCount_M_T φ h0 _ ) |  rfl)
theorem completeShrink_M_T (φ : Int → Int) (h0 : φ 0 = 0) (s : Obj)  : completeShrink_M (Tm φ s) = mp φ (completeShrink_M s) := by
  unfold completeShrink_M
  repeat' (first | (intro _) | (with_reducible refine mp_ite φ ?_ ?_ ?_) | (with_reducible refine mp_cB φ ?_ ?_) | (with_reducible refine mp_lO φ ?_ ?_) | (with_reducible refine mp_lI φ ?_ ?_) | (with_reducible refine mp_rV φ ?_ ?_) | (with_reducible refine mp_rB φ ?_ ?_ ?_) | (with_reducible refine mp_wB φ (by decide) ?_ ?_ ?_ ?_) | (with_reducible refine mp_wV φ ?_ ?_ ?_ ?_) | (with_reducible refine mp_some φ ?_ ?_) | (with_reducible refine mp_dB φ ?_ ?_) | (with_reducible rfl) | (with_reducible refine mp_sF φ ?_) | (exact (rfl : @Eq Int _ _)) | (exact (rfl : @Eq (Nat → Int) _ _)) | (exact Iff.rfl) | (exact h0.symm) |  rfl)
theorem copyBlock_l35b_T (φ : Int → Int) (h0 : φ 0 = 0) (x3 : Int) (x4 : Int) (rec : Int → Obj → Option (Int × Obj)) (x5 : Int) (s : Obj) (h_rec : ∀ a0 t, rec a0 (Tm φ t) = mp φ (rec a0 t)) : copyBlock_l35b x3 x4 rec x5 (Tm φ s) = mp φ (copyBlock_l35b x3 x4 rec x5 s) := by
  unfold copyBlock_l35b
  repeat' (first | (intro _) | (with_reducible refine mp_ite φ ?_ ?_ ?_) | (with_reducible refine mp_cB φ ?_ ?_) | (with_reducible refine mp_lO φ ?_ ?_) | (with_reducible refine mp_lI φ ?_ ?_) | (with_reducible refine mp_rV φ ?_ ?_) | (with_reducible refine mp_rB φ ?_ ?_ ?_) | (with_reducible refine mp_wB φ (by decide) ?_ ?_ ?_ ?_) | (with_reducible refine mp_wV φ ?_ ?_ ?_ ?_) | (with_reducible refine mp_some φ ?_ ?_) | (with_reducible refine mp_dB φ ?_ ?_) | (with_reducible exact h_rec _ _) | (with_reducible rfl) | (with_reducible refine mp_sF φ ?_) | (exact (rfl : @Eq Int _ _)) | (exact (rfl : @Eq (Nat → Int) _ _)) | (exact Iff.rfl) | (exact h0.symm) | exact h_rec _ _ |  rfl)
theorem copyBlock_l35_T (φ : Int → Int) (h0 : φ 0 = 0) (x3 : Int) (x4 : Int)  : ∀ (fu : Nat) (a0 : Int) (s : Obj), copyBlock_l35 x3 x4 fu a0 (Tm φ s) = mp φ (copyBlock_l35 x3 x4 fu a0 s) := by
  intro fu
  induction fu with
  | zero => intros; rfl
  | succ fu ih => intro a0 s; exact copyBlock_l35b_T φ h0 _ _ _ _ s ih
theorem copyBlock_M_T (φ : Int → Int) (h0 : φ 0 = 0) (x1 : Int) (x2 : Int) (s : Obj)  : copyBlock_M x1 x2 (Tm φ s) = mp φ (copyBlock_M x1 x2 s) := by
  unfold copyBlock_M
  repeat' (first | (intro _) | (with_reducible refine mp_ite φ ?_ ?_ ?_) | (with_reducible refine mp_cB φ ?_ ?_) | (with_reducible refine mp_lO φ ?_ ?_) | (with_reducible refine mp_lI φ ?_ ?_) | (with_reducible refine mp_rV φ ?_ ?_) | (with_reducible refine mp_rB φ ?_ ?_ ?_) | (with_reducible refine mp_wB φ (by decide) ?_ ?_ ?_ ?_) | (with_reducible refine mp_wV φ ?_ ?_ ?_ ?_) | (with_reducible refine mp_some φ ?_ ?_) | (with_reducible refine mp_dB φ ?_ ?_) | (with_reducible (refine copyBlock_l35_T φ h0 _ _  _ _ _)) | (with_reducible rfl) | (with_reducible refine mp_sF φ ?_) | (exact (rfl : @Eq Int _ _)) | (exact (rfl : @Eq (Nat → Int) _ _)) | (exact Iff.rfl) | (exact h0.symm) | (refine copyBlock_l35_T φ h0 _ _  _ _ _) |  rfl)
theorem moveOne_M_T (φ : Int → Int) (h0 : φ 0 = 0) (s : Obj)  : moveOne_M (Tm φ s) = mp φ (moveOne_M s) := by
  unfold moveOne_M
  repeat' (first | (intro _) | (with_reducible refine mp_ite φ ?_ ?_ ?_) | (with_reducible refine mp_cB φ ?_ ?_) | (with_reducible refine mp_lO φ ?_ ?_) | (with_reducible refine mp_lI φ ?_ ?_) | (with_reducible refine mp_rV φ ?_ ?_) | (with_reducible refine mp_rB φ ?_ ?_ ?_) | (with_reducible refine mp_wB φ (by decide) ?_ ?_ ?_ ?_) | (with_reducible refine mp_wV φ ?_ ?_ ?_ ?_) | (with_reducible refine mp_some φ ?_ ?_) | (with_reducible refine mp_dB φ ?_ ?_) | (with_reducible (refine usedFrom_M_T φ h0 _ _ )) | (with_reducible (refine lowestBit_M_T φ h0 _ _ )) | (with_reducible (refine freeBelow_M_T φ h0 _ _ )) | (with_reducible (refine copyBlock_M_T φ h0 _ _ _ )) | (with_reducible (refine mapSlot_M_T φ h0 _ _ _ )) | (with_reducible (refine markAllocated_M_T φ h0 _ _ _ _ )) | (with_reducible (refine markFree_M_T φ h0 _ _ )) | (with_reducible rfl) | (with_reducible refine mp_sF φ ?_) | (exact (rfl : @Eq Int _ _)) | (exact (rfl : @Eq (Nat → Int) _ _)) | (exact Iff.rfl) | (exact h0.symm) | (refine usedFrom_M_T φ h0 _ _ ) | (refine lowestBit_M_T φ h0 _ _ ) | (refine freeBelow_M_T φ h0 _ _ ) | (refine copyBlock_M_T φ h0 _ _ _ ) | (refine mapSlot_M_T φ h0 _ _ _ ) | (refine markAllocated_M_T φ h0 _ _ _ _ ) | (refine markFree_M_T φ h0 _ _ ) |  rfl)
theorem step_l36b_T (φ : Int → Int) (h0 : φ 0 = 0) (k50 : Int → Obj → Option (Int × Obj)) (x2 : Int) (rec : Int → Int → Obj → Option (Int × Obj)) (x3 : Int) (x4 : Int) (s : Obj) (h_k50 : ∀ a0 t, k50 a0 (Tm φ t) = mp φ (k50 a0 t)) (h_rec : ∀ a0 a1 t, rec a0 a1 (Tm φ t) = mp φ (rec a0 a1 t)) : step_l36b k50 x2 rec x3 x4 (Tm φ s) = mp φ (step_l36b k50 x2 rec x3 x4 s) := by
  unfold step_l36b
  repeat' (first | (intro _) | (with_reducible refine mp_ite φ ?_ ?_ ?_) | (with_reducible refine mp_cB φ ?_ ?_) | (with_reducible refine mp_lO φ ?_ ?_) | (with_reducible refine mp_lI φ ?_ ?_) | (with_reducible refine mp_rV φ ?_ ?_) | (with_reducible refine mp_rB φ ?_ ?_ ?_) | (with_reducible refine mp_wB φ (by decide) ?_ ?_ ?_ ?_) | (with_reducible refine mp_wV φ ?_ ?_ ?_ ?_) | (with_reducible refine mp_some φ ?_ ?_) | (with_reducible refine mp_dB φ ?_ ?_) | (with_reducible exact h_k50 _ _) | (with_reducible exact h_rec _ _ _) | (with_reducible (refine pendingCount_M_T φ h0 _ )) | (with_reducible (refine moveOne_M_T φ h0 _ )) | (with_reducible rfl) | (with_reducible refine mp_sF φ ?_) | (exact (rfl : @Eq Int _ _)) | (exact (rfl : @Eq (Nat → Int) _ _)) | (exact Iff.rfl) | (exact h0.symm) | exact h_k50 _ _ | exact h_rec _ _ _ | (refine pendingCount_M_T φ h0 _ ) | (refine moveOne_M_T φ h0 _ ) |  rfl)
theorem step_l36_T (φ : Int → Int) (h0 : φ 0 = 0) (k50 : Int → Obj → Option (Int × Obj)) (x2 : Int) (h_k50 : ∀ a0 t, k50 a0 (Tm φ t) = mp φ (k50 a0 t)) : ∀ (fu : Nat) (a0 a1 : Int) (s : Obj), step_l36 k50 x2 fu a0 a1 (Tm φ s) = mp φ (step_l36 k50 x2 fu a0 a1 s) := by
  intro fu
  induction fu with
  | zero => intros; rfl
  | succ fu ih => intro a0 a1 s; exact step_l36b_T φ h0 _ _ _ _ _ s h_k50 ih
theorem step_j30_T (φ : Int → Int) (h0 : φ 0 = 0) (y0 : Int) (s : Obj)  : step_j30 y0 (Tm φ s) = mp φ (step_j30 y0 s) := by
  unfold step_j30
  repeat' (first | (intro _) | (with_reducible refine mp_ite φ ?_ ?_ ?_) | (with_reducible refine mp_cB φ ?_ ?_) | (with_reducible refine mp_lO φ ?_ ?_) | (with_reducible refine mp_lI φ ?_ ?_) | (with_reducible refine mp_rV φ ?_ ?_) | (with_reducible refine mp_rB φ ?_ ?_ ?_) | (with_reducible refine mp_wB φ (by decide) ?_ ?_ ?_ ?_) | (with_reducible refine mp_wV φ ?_ ?_ ?_ ?_) | (with_reducible refine mp_some φ ?_ ?_) | (with_reducible refine mp_dB φ ?_ ?_) | (with_reducible (refine step_l36_T φ h0 _ _ ?_ _ _ _ _)) | (with_reducible (refine completeShrink_M_T φ h0 _ )) | (with_reducible rfl) | (with_reducible refine mp_sF φ ?_) | (exact (rfl : @Eq Int _ _)) | (exact (rfl : @Eq (Nat → Int) _ _)) | (exact Iff.rfl) | (exact h0.symm) | (refine step_l36_T φ h0 _ _ ?_ _ _ _ _) | (refine completeShrink_M_T φ h0 _ ) |  rfl)
theorem step_M_T (φ : Int → Int) (h0 : φ 0 = 0) (x1 : Int) (s : Obj)  : step_M x1 (Tm φ s) = mp φ (step_M x1 s) := by
  unfold step_M
  repeat' (first | (intro _) | (with_reducible refine mp_ite φ ?_ ?_ ?_) | (with_reducible refine mp_cB φ ?_ ?_) | (with_reducible refine mp_lO φ ?_ ?_) | (with_reducible refine mp_lI φ ?_ ?_) | (with_reducible refine mp_rV φ ?_ ?_) | (with_reducible refine mp_rB φ ?_ ?_ ?_) | (with_reducible refine mp_wB φ (by decide) ?_ ?_ ?_ ?_) | (with_reducible refine mp_wV φ ?_ ?_ ?_ ?_) | (with_reducible refine mp_some φ ?_ ?_) | (with_reducible refine mp_dB φ ?_ ?_) | (with_reducible (refine step_j30_T φ h0 _ _ )) | (with_reducible rfl) | (with_reducible refine mp_sF φ ?_) | (exact (rfl : @Eq Int _ _)) | (exact (rfl : @Eq (Nat → Int) _ _)) | (exact Iff.rfl) | (exact h0.symm) | (refine step_j30_T φ h0 _ _ ) |  rfl)
theorem volumeBlocks_M_T (φ : Int → Int) (h0 : φ 0 = 0) (s : Obj)  : volumeBlocks_M (Tm φ s) = mp φ (volumeBlocks_M s) := by
  unfold volumeBlocks_M
  repeat' (first | (intro _) | (with_reducible refine mp_ite φ ?_ ?_ ?_) | (with_reducible refine mp_cB φ ?_ ?_) | (with_reducible refine mp_lO φ ?_ ?_) | (with_reducible refine mp_lI φ ?_ ?_) | (with_reducible refine mp_rV φ ?_ ?_) | (with_reducible refine mp_rB φ ?_ ?_ ?_) | (with_reducible refine mp_wB φ (by decide) ?_ ?_ ?_ ?_) | (with_reducible refine mp_wV φ ?_ ?_ ?_ ?_) | (with_reducible refine mp_some φ ?_ ?_) | (with_reducible refine mp_dB φ ?_ ?_) | (with_reducible rfl) | (with_reducible refine mp_sF φ ?_) | (exact (rfl : @Eq Int _ _)) | (exact (rfl : @Eq (Nat → Int) _ _)) | (exact Iff.rfl) | (exact h0.symm) |  rfl)
theorem target_M_T (φ : Int → Int) (h0 : φ 0 = 0) (s : Obj)  : target_M (Tm φ s) = mp φ (target_M s) := by
  unfold target_M
  repeat' (first | (intro _) | (with_reducible refine mp_ite φ ?_ ?_ ?_) | (with_reducible refine mp_cB φ ?_ ?_) | (with_reducible refine mp_lO φ ?_ ?_) | (with_reducible refine mp_lI φ ?_ ?_) | (with_reducible refine mp_rV φ ?_ ?_) | (with_reducible refine mp_rB φ ?_ ?_ ?_) | (with_reducible refine mp_wB φ (by decide) ?_ ?_ ?_ ?_) | (with_reducible refine mp_wV φ ?_ ?_ ?_ ?_) | (with_reducible refine mp_some φ ?_ ?_) | (with_reducible refine mp_dB φ ?_ ?_) | (with_reducible rfl) | (with_reducible refine mp_sF φ ?_) | (exact (rfl : @Eq Int _ _)) | (exact (rfl : @Eq (Nat → Int) _ _)) | (exact Iff.rfl) | (exact h0.symm) |  rfl)
theorem size_M_T (φ : Int → Int) (h0 : φ 0 = 0) (x1 : Int) (s : Obj)  : size_M x1 (Tm φ s) = mp φ (size_M x1 s) := by
  unfold size_M
  repeat' (first | (intro _) | (with_reducible refine mp_ite φ ?_ ?_ ?_) | (with_reducible refine mp_cB φ ?_ ?_) | (with_reducible refine mp_lO φ ?_ ?_) | (with_reducible refine mp_lI φ ?_ ?_) | (with_reducible refine mp_rV φ ?_ ?_) | (with_reducible refine mp_rB φ ?_ ?_ ?_) | (with_reducible refine mp_wB φ (by decide) ?_ ?_ ?_ ?_) | (with_reducible refine mp_wV φ ?_ ?_ ?_ ?_) | (with_reducible refine mp_some φ ?_ ?_) | (with_reducible refine mp_dB φ ?_ ?_) | (with_reducible (refine isValidFile_M_T φ h0 _ _ )) | (with_reducible rfl) | (with_reducible refine mp_sF φ ?_) | (exact (rfl : @Eq Int _ _)) | (exact (rfl : @Eq (Nat → Int) _ _)) | (exact Iff.rfl) | (exact h0.symm) | (refine isValidFile_M_T φ h0 _ _ ) |  rfl)
theorem countExtents_j73_T (φ : Int → Int) (h0 : φ 0 = 0) (rec : Int → Int → Obj → Option (Int × Obj)) (x2 : Int) (x3 : Int) (x4 : Int) (x5 : Int) (s : Obj) (h_rec : ∀ a0 a1 t, rec a0 a1 (Tm φ t) = mp φ (rec a0 a1 t)) : countExtents_j73 rec x2 x3 x4 x5 (Tm φ s) = mp φ (countExtents_j73 rec x2 x3 x4 x5 s) := by
  unfold countExtents_j73
  repeat' (first | (intro _) | (with_reducible refine mp_ite φ ?_ ?_ ?_) | (with_reducible refine mp_cB φ ?_ ?_) | (with_reducible refine mp_lO φ ?_ ?_) | (with_reducible refine mp_lI φ ?_ ?_) | (with_reducible refine mp_rV φ ?_ ?_) | (with_reducible refine mp_rB φ ?_ ?_ ?_) | (with_reducible refine mp_wB φ (by decide) ?_ ?_ ?_ ?_) | (with_reducible refine mp_wV φ ?_ ?_ ?_ ?_) | (with_reducible refine mp_some φ ?_ ?_) | (with_reducible refine mp_dB φ ?_ ?_) | (with_reducible exact h_rec _ _ _) | (with_reducible rfl) | (with_reducible refine mp_sF φ ?_) | (exact (rfl : @Eq Int _ _)) | (exact (rfl : @Eq (Nat → Int) _ _)) | (exact Iff.rfl) | (exact h0.symm) | exact h_rec _ _ _ |  rfl)
theorem countExtents_l30b_T (φ : Int → Int) (h0 : φ 0 = 0) (x2 : Int) (x4 : Int) (rec : Int → Int → Obj → Option (Int × Obj)) (x3 : Int) (x5 : Int) (s : Obj) (h_rec : ∀ a0 a1 t, rec a0 a1 (Tm φ t) = mp φ (rec a0 a1 t)) : countExtents_l30b x2 x4 rec x3 x5 (Tm φ s) = mp φ (countExtents_l30b x2 x4 rec x3 x5 s) := by
  unfold countExtents_l30b
  repeat' (first | (intro _) | (with_reducible refine mp_ite φ ?_ ?_ ?_) | (with_reducible refine mp_cB φ ?_ ?_) | (with_reducible refine mp_lO φ ?_ ?_) | (with_reducible refine mp_lI φ ?_ ?_) | (with_reducible refine mp_rV φ ?_ ?_) | (with_reducible refine mp_rB φ ?_ ?_ ?_) | (with_reducible refine mp_wB φ (by decide) ?_ ?_ ?_ ?_) | (with_reducible refine mp_wV φ ?_ ?_ ?_ ?_) | (with_reducible refine mp_some φ ?_ ?_) | (with_reducible refine mp_dB φ ?_ ?_) | (with_reducible exact h_rec _ _ _) | (with_reducible (refine countExtents_j73_T φ h0 _ _ _ _ _ _ ?_)) | (with_reducible rfl) | (with_reducible refine mp_sF φ ?_) | (exact (rfl : @Eq Int _ _)) | (exact (rfl : @Eq (Nat → Int) _ _)) | (exact Iff.rfl) | (exact h0.symm) | exact h_rec _ _ _ | (refine countExtents_j73_T φ h0 _ _ _ _ _ _ ?_) |  rfl)
theorem countExtents_l30_T (φ : Int → Int) (h0 : φ 0 = 0) (x2 : Int) (x4 : Int)  : ∀ (fu : Nat) (a0 a1 : Int) (s : Obj), countExtents_l30 x2 x4 fu a0 a1 (Tm φ s) = mp φ (countExtents_l30 x2 x4 fu a0 a1 s) := by
  intro fu
  induction fu with
  | zero => intros; rfl
  | succ fu ih => intro a0 a1 s; exact countExtents_l30b_T φ h0 _ _ _ _ _ s ih
theorem countExtents_M_T (φ : Int → Int) (h0 : φ 0 = 0) (x1 : Int) (s : Obj)  : countExtents_M x1 (Tm φ s) = mp φ (countExtents_M x1 s) := by
  unfold countExtents_M
  repeat' (first | (intro _) | (with_reducible refine mp_ite φ ?_ ?_ ?_) | (with_reducible refine mp_cB φ ?_ ?_) | (with_reducible refine mp_lO φ ?_ ?_) | (with_reducible refine mp_lI φ ?_ ?_) | (with_reducible refine mp_rV φ ?_ ?_) | (with_reducible refine mp_rB φ ?_ ?_ ?_) | (with_reducible refine mp_wB φ (by decide) ?_ ?_ ?_ ?_) | (with_reducible refine mp_wV φ ?_ ?_ ?_ ?_) | (with_reducible refine mp_some φ ?_ ?_) | (with_reducible refine mp_dB φ ?_ ?_) | (with_reducible (refine blocksFor_M_T φ h0 _ _ )) | (with_reducible (refine mapSlot_M_T φ h0 _ _ _ )) | (with_reducible (refine countExtents_l30_T φ h0 _ _  _ _ _ _)) | (with_reducible rfl) | (with_reducible refine mp_sF φ ?_) | (exact (rfl : @Eq Int _ _)) | (exact (rfl : @Eq (Nat → Int) _ _)) | (exact Iff.rfl) | (exact h0.symm) | (refine blocksFor_M_T φ h0 _ _ ) | (refine mapSlot_M_T φ h0 _ _ _ ) | (refine countExtents_l30_T φ h0 _ _  _ _ _ _) |  rfl)
theorem extentCount_M_T (φ : Int → Int) (h0 : φ 0 = 0) (x1 : Int) (s : Obj)  : extentCount_M x1 (Tm φ s) = mp φ (extentCount_M x1 s) := by
  unfold extentCount_M
  repeat' (first | (intro _) | (with_reducible refine mp_ite φ ?_ ?_ ?_) | (with_reducible refine mp_cB φ ?_ ?_) | (with_reducible refine mp_lO φ ?_ ?_) | (with_reducible refine mp_lI φ ?_ ?_) | (with_reducible refine mp_rV φ ?_ ?_) | (with_reducible refine mp_rB φ ?_ ?_ ?_) | (with_reducible refine mp_wB φ (by decide) ?_ ?_ ?_ ?_) | (with_reducible refine mp_wV φ ?_ ?_ ?_ ?_) | (with_reducible refine mp_some φ ?_ ?_) | (with_reducible refine mp_dB φ ?_ ?_) | (with_reducible (refine isValidFile_M_T φ h0 _ _ )) | (with_reducible (refine countExtents_M_T φ h0 _ _ )) | (with_reducible rfl) | (with_reducible refine mp_sF φ ?_) | (exact (rfl : @Eq Int _ _)) | (exact (rfl : @Eq (Nat → Int) _ _)) | (exact Iff.rfl) | (exact h0.symm) | (refine isValidFile_M_T φ h0 _ _ ) | (refine countExtents_M_T φ h0 _ _ ) |  rfl)
theorem freeBlocks_M_T (φ : Int → Int) (h0 : φ 0 = 0) (s : Obj)  : freeBlocks_M (Tm φ s) = mp φ (freeBlocks_M s) := by
  unfold freeBlocks_M
  repeat' (first | (intro _) | (with_reducible refine mp_ite φ ?_ ?_ ?_) | (with_reducible refine mp_cB φ ?_ ?_) | (with_reducible refine mp_lO φ ?_ ?_) | (with_reducible refine mp_lI φ ?_ ?_) | (with_reducible refine mp_rV φ ?_ ?_) | (with_reducible refine mp_rB φ ?_ ?_ ?_) | (with_reducible refine mp_wB φ (by decide) ?_ ?_ ?_ ?_) | (with_reducible refine mp_wV φ ?_ ?_ ?_ ?_) | (with_reducible refine mp_some φ ?_ ?_) | (with_reducible refine mp_dB φ ?_ ?_) | (with_reducible (refine allocatedCount_M_T φ h0 _ )) | (with_reducible rfl) | (with_reducible refine mp_sF φ ?_) | (exact (rfl : @Eq Int _ _)) | (exact (rfl : @Eq (Nat → Int) _ _)) | (exact Iff.rfl) | (exact h0.symm) | (refine allocatedCount_M_T φ h0 _ ) |  rfl)
theorem isAllocated_M_T (φ : Int → Int) (h0 : φ 0 = 0) (x1 : Int) (s : Obj)  : isAllocated_M x1 (Tm φ s) = mp φ (isAllocated_M x1 s) := by
  unfold isAllocated_M
  repeat' (first | (intro _) | (with_reducible refine mp_ite φ ?_ ?_ ?_) | (with_reducible refine mp_cB φ ?_ ?_) | (with_reducible refine mp_lO φ ?_ ?_) | (with_reducible refine mp_lI φ ?_ ?_) | (with_reducible refine mp_rV φ ?_ ?_) | (with_reducible refine mp_rB φ ?_ ?_ ?_) | (with_reducible refine mp_wB φ (by decide) ?_ ?_ ?_ ?_) | (with_reducible refine mp_wV φ ?_ ?_ ?_ ?_) | (with_reducible refine mp_some φ ?_ ?_) | (with_reducible refine mp_dB φ ?_ ?_) | (with_reducible rfl) | (with_reducible refine mp_sF φ ?_) | (exact (rfl : @Eq Int _ _)) | (exact (rfl : @Eq (Nat → Int) _ _)) | (exact Iff.rfl) | (exact h0.symm) |  rfl)
theorem blockOwner_M_T (φ : Int → Int) (h0 : φ 0 = 0) (x1 : Int) (s : Obj)  : blockOwner_M x1 (Tm φ s) = mp φ (blockOwner_M x1 s) := by
  unfold blockOwner_M
  repeat' (first | (intro _) | (with_reducible refine mp_ite φ ?_ ?_ ?_) | (with_reducible refine mp_cB φ ?_ ?_) | (with_reducible refine mp_lO φ ?_ ?_) | (with_reducible refine mp_lI φ ?_ ?_) | (with_reducible refine mp_rV φ ?_ ?_) | (with_reducible refine mp_rB φ ?_ ?_ ?_) | (with_reducible refine mp_wB φ (by decide) ?_ ?_ ?_ ?_) | (with_reducible refine mp_wV φ ?_ ?_ ?_ ?_) | (with_reducible refine mp_some φ ?_ ?_) | (with_reducible refine mp_dB φ ?_ ?_) | (with_reducible (refine isAllocated_M_T φ h0 _ _ )) | (with_reducible rfl) | (with_reducible refine mp_sF φ ?_) | (exact (rfl : @Eq Int _ _)) | (exact (rfl : @Eq (Nat → Int) _ _)) | (exact Iff.rfl) | (exact h0.symm) | (refine isAllocated_M_T φ h0 _ _ ) |  rfl)

def mv (φ : Int → Int) (q : Option (Int × Obj)) : Option (Int × Obj) := q.map (fun p => (φ p.1, Tm φ p.2))
theorem mv_cB (φ : Int → Int) {q q' : Option (Int × Obj)} {k k' : Int → Obj → Option (Int × Obj)} (hq : q' = mp φ q) (hk : ∀ z t, k' z (Tm φ t) = mv φ (k z t)) : cB q' k' = mv φ (cB q k) := by
  subst hq
  cases q with
  | none => rfl
  | some p => exact hk p.1 p.2
theorem mv_cV (φ : Int → Int) {q q' : Option (Int × Obj)} {k k' : Int → Obj → Option (Int × Obj)} (hq : q' = mv φ q) (hk : ∀ z t, k' (φ z) (Tm φ t) = mv φ (k z t)) : cB q' k' = mv φ (cB q k) := by
  subst hq
  cases q with
  | none => rfl
  | some p => exact hk p.1 p.2
theorem mv_ite (φ : Int → Int) {c : Prop} [Decidable c] {x y x' y' : Option (Int × Obj)} (hx : x' = mv φ x) (hy : y' = mv φ y) : (if c then x' else y') = mv φ (if c then x else y) := by
  split
  · exact hx
  · exact hy
theorem mv_some (φ : Int → Int) {r r' : Int} {s : Obj} (hr : r' = φ r) : some (r', Tm φ s) = mv φ (some (r, s)) := by subst hr; rfl
theorem mv_dB (φ : Int → Int) {x : Int} {q q' : Option (Int × Obj)} (hq : q' = mv φ q) : dB x q' = mv φ (dB x q) := by
  unfold dB
  split
  · rfl
  · exact hq
theorem mv_rB (φ : Int → Int) {f : Nat → Int} {len : Nat} {i : Int} {k k' : Int → Option (Int × Obj)} (hk : ∀ t, k' t = mv φ (k t)) : rB f len i k' = mv φ (rB f len i k) := by
  unfold rB
  split
  · exact hk _
  · rfl
theorem mv_rV (φ : Int → Int) {s : Obj} {len : Nat} {i : Int} {k k' : Int → Option (Int × Obj)} (hk : ∀ t, k' (φ t) = mv φ (k t)) : rB ((Tm φ s).2 15) len i k' = mv φ (rB (s.2 15) len i k) := by
  unfold rB
  split
  · exact hk _
  · rfl
theorem loadAt_M_T (φ : Int → Int) (h0 : φ 0 = 0) (hA : ∀ v, aAnd (φ v) 255 = φ (aAnd v 255)) (x y : Int) (s : Obj) : loadAt_M x y (Tm φ s) = mv φ (loadAt_M x y s) := by
  unfold loadAt_M
  refine mv_dB φ ?_
  show (if aDiv y (s.1 5) < 0 then _ else _) = mv φ (if aDiv y (s.1 5) < 0 then _ else _)
  refine mv_ite φ (mv_some φ h0.symm) (mv_ite φ ?_ (mv_some φ h0.symm))
  refine mv_cB φ (mapSlot_M_T φ h0 _ _ _) fun z t => ?_
  refine mv_rB φ fun z' => ?_
  refine mv_dB φ ?_
  refine mv_cB φ (byteSlot_M_T φ h0 _ _ _) fun z2 t2 => ?_
  refine mv_ite φ (mv_some φ h0.symm) ?_
  exact mv_rV φ fun v => mv_some φ (hA v)
theorem read_M_T (φ : Int → Int) (h0 : φ 0 = 0) (h1 : φ (-1) = -1) (h2 : φ (-2) = -2) (hA : ∀ v, aAnd (φ v) 255 = φ (aAnd v 255)) (x y : Int) (s : Obj) : read_M x y (Tm φ s) = mv φ (read_M x y s) := by
  unfold read_M
  refine mv_cB φ (isValidFile_M_T φ h0 _ _) fun z t => ?_
  refine mv_ite φ (mv_some φ h1.symm) ?_
  refine mv_ite φ (mv_some φ h2.symm) ?_
  refine mv_rB φ fun z' => ?_
  refine mv_ite φ ?_ (mv_some φ h2.symm)
  exact mv_cV φ (loadAt_M_T φ h0 hA _ _ _) fun z2 t2 => mv_some φ rfl
theorem stepT {φ : Int → Int} {q q' : Option (Int × Obj)} {z : Int} (h : q' = mp φ q) (hv : vl q = some z) : q' = some (z, Tm φ (pk q)) := by
  rw [h, pk_eq hv]; rfl
theorem stepV {φ : Int → Int} {q q' : Option (Int × Obj)} {z : Int} (h : q' = mv φ q) (hv : vl q = some z) : q' = some (φ z, Tm φ (pk q)) := by
  rw [h, pk_eq hv]; rfl
def ph (a b c d e : Int) (v : Int) : Int := if aAnd v 255 = 11 then aAnd a 255 else if aAnd v 255 = 12 then aAnd b 255 else if aAnd v 255 = 13 then aAnd c 255 else if aAnd v 255 = 14 then aAnd d 255 else if aAnd v 255 = 15 then aAnd e 255 else v
theorem phv (a b c d e v : Int) (h : aAnd v 255 ≠ 11 ∧ aAnd v 255 ≠ 12 ∧ aAnd v 255 ≠ 13 ∧ aAnd v 255 ≠ 14 ∧ aAnd v 255 ≠ 15) : ph a b c d e v = v := by
  unfold ph
  rw [if_neg h.1, if_neg h.2.1, if_neg h.2.2.1, if_neg h.2.2.2.1, if_neg h.2.2.2.2]
theorem ph0 (a b c d e : Int) : ph a b c d e 0 = 0 := phv a b c d e 0 (by decide)
theorem ph1 (a b c d e : Int) : ph a b c d e (-1) = -1 := phv a b c d e (-1) (by decide)
theorem ph2 (a b c d e : Int) : ph a b c d e (-2) = -2 := phv a b c d e (-2) (by decide)
theorem pA (a b c d e v : Int) : aAnd (ph a b c d e v) 255 = ph a b c d e (aAnd v 255) := by
  unfold ph
  rw [and255_idem v]
  by_cases h1 : aAnd v 255 = 11
  · rw [if_pos h1, if_pos h1, and255_idem]
  rw [if_neg h1, if_neg h1]
  by_cases h1 : aAnd v 255 = 12
  · rw [if_pos h1, if_pos h1, and255_idem]
  rw [if_neg h1, if_neg h1]
  by_cases h1 : aAnd v 255 = 13
  · rw [if_pos h1, if_pos h1, and255_idem]
  rw [if_neg h1, if_neg h1]
  by_cases h1 : aAnd v 255 = 14
  · rw [if_pos h1, if_pos h1, and255_idem]
  rw [if_neg h1, if_neg h1]
  by_cases h1 : aAnd v 255 = 15
  · rw [if_pos h1, if_pos h1, and255_idem]
  rw [if_neg h1, if_neg h1]
theorem q11 (a b c d e : Int) : aAnd a 255 = ph a b c d e (aAnd 11 255) := by unfold ph; rw [if_pos (by decide)]
theorem q12 (a b c d e : Int) : aAnd b 255 = ph a b c d e (aAnd 12 255) := by unfold ph; rw [if_neg (by decide), if_pos (by decide)]
theorem q13 (a b c d e : Int) : aAnd c 255 = ph a b c d e (aAnd 13 255) := by unfold ph; rw [if_neg (by decide), if_neg (by decide), if_pos (by decide)]
theorem q14 (a b c d e : Int) : aAnd d 255 = ph a b c d e (aAnd 14 255) := by unfold ph; rw [if_neg (by decide), if_neg (by decide), if_neg (by decide), if_pos (by decide)]
theorem q15 (a b c d e : Int) : aAnd e 255 = ph a b c d e (aAnd 15 255) := by unfold ph; rw [if_neg (by decide), if_neg (by decide), if_neg (by decide), if_neg (by decide), if_pos (by decide)]
theorem w12 (a b c d e : Int) : ph a b c d e 12 = aAnd b 255 := by unfold ph; rw [if_neg (by decide), if_pos (by decide)]
theorem w14 (a b c d e : Int) : ph a b c d e 14 = aAnd d 255 := by unfold ph; rw [if_neg (by decide), if_neg (by decide), if_neg (by decide), if_pos (by decide)]
def S0 : Obj := pk (ctor_M 8 1 2)
theorem r0 : vl (ctor_M 8 1 2) = some 0 := by decide +kernel
theorem i0 (a b c d e : Int) : Tm (ph a b c d e) S0 = S0 := by
  have h := ctor_B_T (ph a b c d e) (ph0 a b c d e) 8 1 2 ((@Wp.upd Int (@Wp.upd Int (@Wp.upd Int (@Wp.upd Int (fun _ => 0) 0 32) 1 8) 2 8) 3 (-1)), fun _ _ => 0)
  have e' : Tm (ph a b c d e) ((@Wp.upd Int (@Wp.upd Int (@Wp.upd Int (@Wp.upd Int (fun _ => 0) 0 32) 1 8) 2 8) 3 (-1)), fun _ _ => 0) = ((@Wp.upd Int (@Wp.upd Int (@Wp.upd Int (@Wp.upd Int (fun _ => 0) 0 32) 1 8) 2 8) 3 (-1)), fun _ _ => 0) := by
    unfold Tm
    refine congrArg (Prod.mk _) ?_
    funext i j
    rw [upd_apply]
    split
    · exact ph0 a b c d e
    · rfl
  rw [e'] at h
  have k : ctor_M 8 1 2 = mp (ph a b c d e) (ctor_M 8 1 2) := h
  have k2 := (pk_eq r0).symm.trans (stepT k r0)
  exact (Prod.mk.inj (Option.some.inj k2)).2.symm
theorem r1 : vl (create_M  S0) = some (0) := by decide +kernel
def S1 : Obj := pk (create_M  S0)
theorem e1 (a b c d e : Int) : create_M  (Tm (ph a b c d e) S0) = some (0, Tm (ph a b c d e) S1) := stepT (create_M_T (ph a b c d e) (ph0 a b c d e)  S0) r1
theorem r2 : vl (write_M 0 0 11 S1) = some (0) := by decide +kernel
def S2 : Obj := pk (write_M 0 0 11 S1)
theorem e2 (a b c d e : Int) : write_M 0 0 a (Tm (ph a b c d e) S1) = some (0, Tm (ph a b c d e) S2) := stepT (write_M_T (ph a b c d e) (ph0 a b c d e) 0 0 11 S1 a (q11 a b c d e)) r2
theorem r3 : vl (write_M 0 1 11 S2) = some (0) := by decide +kernel
def S3 : Obj := pk (write_M 0 1 11 S2)
theorem e3 (a b c d e : Int) : write_M 0 1 a (Tm (ph a b c d e) S2) = some (0, Tm (ph a b c d e) S3) := stepT (write_M_T (ph a b c d e) (ph0 a b c d e) 0 1 11 S2 a (q11 a b c d e)) r3
theorem r4 : vl (write_M 0 2 11 S3) = some (0) := by decide +kernel
def S4 : Obj := pk (write_M 0 2 11 S3)
theorem e4 (a b c d e : Int) : write_M 0 2 a (Tm (ph a b c d e) S3) = some (0, Tm (ph a b c d e) S4) := stepT (write_M_T (ph a b c d e) (ph0 a b c d e) 0 2 11 S3 a (q11 a b c d e)) r4
theorem r5 : vl (create_M  S4) = some (1) := by decide +kernel
def S5 : Obj := pk (create_M  S4)
theorem e5 (a b c d e : Int) : create_M  (Tm (ph a b c d e) S4) = some (1, Tm (ph a b c d e) S5) := stepT (create_M_T (ph a b c d e) (ph0 a b c d e)  S4) r5
theorem r6 : vl (write_M 1 0 12 S5) = some (0) := by decide +kernel
def S6 : Obj := pk (write_M 1 0 12 S5)
theorem e6 (a b c d e : Int) : write_M 1 0 b (Tm (ph a b c d e) S5) = some (0, Tm (ph a b c d e) S6) := stepT (write_M_T (ph a b c d e) (ph0 a b c d e) 1 0 12 S5 b (q12 a b c d e)) r6
theorem r7 : vl (write_M 1 1 13 S6) = some (0) := by decide +kernel
def S7 : Obj := pk (write_M 1 1 13 S6)
theorem e7 (a b c d e : Int) : write_M 1 1 c (Tm (ph a b c d e) S6) = some (0, Tm (ph a b c d e) S7) := stepT (write_M_T (ph a b c d e) (ph0 a b c d e) 1 1 13 S6 c (q13 a b c d e)) r7
theorem r8 : vl (physOf_M 1 1 S7) = some (4) := by decide +kernel
def S8 : Obj := pk (physOf_M 1 1 S7)
theorem e8 (a b c d e : Int) : physOf_M 1 1 (Tm (ph a b c d e) S7) = some (4, Tm (ph a b c d e) S8) := stepT (physOf_M_T (ph a b c d e) (ph0 a b c d e) 1 1 S7) r8
theorem r9 : vl (delete_M 0 S8) = some (0) := by decide +kernel
def S9 : Obj := pk (delete_M 0 S8)
theorem e9 (a b c d e : Int) : delete_M 0 (Tm (ph a b c d e) S8) = some (0, Tm (ph a b c d e) S9) := stepT (delete_M_T (ph a b c d e) (ph0 a b c d e) 0 S8) r9
theorem r10 : vl (shrink_M 2 S9) = some (0) := by decide +kernel
def S10 : Obj := pk (shrink_M 2 S9)
theorem e10 (a b c d e : Int) : shrink_M 2 (Tm (ph a b c d e) S9) = some (0, Tm (ph a b c d e) S10) := stepT (shrink_M_T (ph a b c d e) (ph0 a b c d e) 2 S9) r10
theorem r11 : vl (pendingMoves_M  S10) = some (2) := by decide +kernel
def S11 : Obj := pk (pendingMoves_M  S10)
theorem e11 (a b c d e : Int) : pendingMoves_M  (Tm (ph a b c d e) S10) = some (2, Tm (ph a b c d e) S11) := stepT (pendingMoves_M_T (ph a b c d e) (ph0 a b c d e)  S10) r11
theorem r12 : vl (step_M 1 S11) = some (1) := by decide +kernel
def S12 : Obj := pk (step_M 1 S11)
theorem e12 (a b c d e : Int) : step_M 1 (Tm (ph a b c d e) S11) = some (1, Tm (ph a b c d e) S12) := stepT (step_M_T (ph a b c d e) (ph0 a b c d e) 1 S11) r12
theorem r13 : vl (pendingMoves_M  S12) = some (1) := by decide +kernel
def S13 : Obj := pk (pendingMoves_M  S12)
theorem e13 (a b c d e : Int) : pendingMoves_M  (Tm (ph a b c d e) S12) = some (1, Tm (ph a b c d e) S13) := stepT (pendingMoves_M_T (ph a b c d e) (ph0 a b c d e)  S12) r13
theorem r14 : vl (physOf_M 1 0 S13) = some (0) := by decide +kernel
def S14 : Obj := pk (physOf_M 1 0 S13)
theorem e14 (a b c d e : Int) : physOf_M 1 0 (Tm (ph a b c d e) S13) = some (0, Tm (ph a b c d e) S14) := stepT (physOf_M_T (ph a b c d e) (ph0 a b c d e) 1 0 S13) r14
theorem r15 : vl (write_M 1 1 14 S14) = some (0) := by decide +kernel
def S15 : Obj := pk (write_M 1 1 14 S14)
theorem e15 (a b c d e : Int) : write_M 1 1 d (Tm (ph a b c d e) S14) = some (0, Tm (ph a b c d e) S15) := stepT (write_M_T (ph a b c d e) (ph0 a b c d e) 1 1 14 S14 d (q14 a b c d e)) r15
theorem r16 : vl (write_M 1 2 15 S15) = some (-3) := by decide +kernel
def S16 : Obj := pk (write_M 1 2 15 S15)
theorem e16 (a b c d e : Int) : write_M 1 2 e (Tm (ph a b c d e) S15) = some (-3, Tm (ph a b c d e) S16) := stepT (write_M_T (ph a b c d e) (ph0 a b c d e) 1 2 15 S15 e (q15 a b c d e)) r16
theorem r17 : vl (step_M 8 S16) = some (1) := by decide +kernel
def S17 : Obj := pk (step_M 8 S16)
theorem e17 (a b c d e : Int) : step_M 8 (Tm (ph a b c d e) S16) = some (1, Tm (ph a b c d e) S17) := stepT (step_M_T (ph a b c d e) (ph0 a b c d e) 8 S16) r17
theorem r18 : vl (volumeBlocks_M  S17) = some (2) := by decide +kernel
def S18 : Obj := pk (volumeBlocks_M  S17)
theorem e18 (a b c d e : Int) : volumeBlocks_M  (Tm (ph a b c d e) S17) = some (2, Tm (ph a b c d e) S18) := stepT (volumeBlocks_M_T (ph a b c d e) (ph0 a b c d e)  S17) r18
theorem r19 : vl (target_M  S18) = some (-5) := by decide +kernel
def S19 : Obj := pk (target_M  S18)
theorem e19 (a b c d e : Int) : target_M  (Tm (ph a b c d e) S18) = some (-5, Tm (ph a b c d e) S19) := stepT (target_M_T (ph a b c d e) (ph0 a b c d e)  S18) r19
theorem r20 : vl (physOf_M 1 1 S19) = some (1) := by decide +kernel
def S20 : Obj := pk (physOf_M 1 1 S19)
theorem e20 (a b c d e : Int) : physOf_M 1 1 (Tm (ph a b c d e) S19) = some (1, Tm (ph a b c d e) S20) := stepT (physOf_M_T (ph a b c d e) (ph0 a b c d e) 1 1 S19) r20
theorem r21 : vl (read_M 1 0 S20) = some (12) := by decide +kernel
def S21 : Obj := pk (read_M 1 0 S20)
theorem e21 (a b c d e : Int) : read_M 1 0 (Tm (ph a b c d e) S20) = some (aAnd b 255, Tm (ph a b c d e) S21) := by
  have h := stepV (read_M_T (ph a b c d e) (ph0 a b c d e) (ph1 a b c d e) (ph2 a b c d e) (pA a b c d e) 1 0 S20) r21
  rw [w12] at h
  exact h
theorem r22 : vl (read_M 1 1 S21) = some (14) := by decide +kernel
def S22 : Obj := pk (read_M 1 1 S21)
theorem e22 (a b c d e : Int) : read_M 1 1 (Tm (ph a b c d e) S21) = some (aAnd d 255, Tm (ph a b c d e) S22) := by
  have h := stepV (read_M_T (ph a b c d e) (ph0 a b c d e) (ph1 a b c d e) (ph2 a b c d e) (pA a b c d e) 1 1 S21) r22
  rw [w14] at h
  exact h
theorem r23 : vl (size_M 1 S22) = some (2) := by decide +kernel
def S23 : Obj := pk (size_M 1 S22)
theorem e23 (a b c d e : Int) : size_M 1 (Tm (ph a b c d e) S22) = some (2, Tm (ph a b c d e) S23) := stepT (size_M_T (ph a b c d e) (ph0 a b c d e) 1 S22) r23
theorem r24 : vl (extentCount_M 1 S23) = some (1) := by decide +kernel
def S24 : Obj := pk (extentCount_M 1 S23)
theorem e24 (a b c d e : Int) : extentCount_M 1 (Tm (ph a b c d e) S23) = some (1, Tm (ph a b c d e) S24) := stepT (extentCount_M_T (ph a b c d e) (ph0 a b c d e) 1 S23) r24
theorem r25 : vl (freeBlocks_M  S24) = some (0) := by decide +kernel
def S25 : Obj := pk (freeBlocks_M  S24)
theorem e25 (a b c d e : Int) : freeBlocks_M  (Tm (ph a b c d e) S24) = some (0, Tm (ph a b c d e) S25) := stepT (freeBlocks_M_T (ph a b c d e) (ph0 a b c d e)  S24) r25
theorem r26 : vl (blockOwner_M 1 S25) = some (1) := by decide +kernel
def S26 : Obj := pk (blockOwner_M 1 S25)
theorem e26 (a b c d e : Int) : blockOwner_M 1 (Tm (ph a b c d e) S25) = some (1, Tm (ph a b c d e) S26) := stepT (blockOwner_M_T (ph a b c d e) (ph0 a b c d e) 1 S25) r26
theorem law_true (a b c d e : Int) (ha : InR a) (hb : InR b) (hc : InR c) (hd : InR d) (he : InR e) : ∃ w', law_M a b c d e ([], false) = some (1, w') := by
  unfold law_M
  rw [new0, pk_eq r0, ini0, show pk (ctor_M 8 1 2) = S0 from rfl, ← i0 a b c d e, vir0 (e1 a b c d e), if_pos rfl, vir0 (e2 a b c d e), if_pos rfl, vir0 (e3 a b c d e), if_pos rfl, vir0 (e4 a b c d e), if_pos rfl, vir0 (e5 a b c d e), if_pos rfl, vir0 (e6 a b c d e), if_pos rfl, vir0 (e7 a b c d e), if_pos rfl, vir0 (e8 a b c d e), if_pos rfl, vir0 (e9 a b c d e), if_pos rfl, vir0 (e10 a b c d e), if_pos rfl, vir0 (e11 a b c d e), if_pos rfl, vir0 (e12 a b c d e), if_pos rfl, vir0 (e13 a b c d e), if_pos rfl, vir0 (e14 a b c d e), if_pos rfl, vir0 (e15 a b c d e), if_pos rfl, vir0 (e16 a b c d e), if_pos rfl, vir0 (e17 a b c d e), if_pos rfl, vir0 (e18 a b c d e), if_pos rfl, vir0 (e19 a b c d e), if_pos rfl, vir0 (e20 a b c d e), if_pos rfl, vir0 (e21 a b c d e), if_pos rfl, vir0 (e22 a b c d e), if_pos rfl, vir0 (e23 a b c d e), if_pos rfl, vir0 (e24 a b c d e), if_pos rfl, vir0 (e25 a b c d e), if_pos rfl, vir0 (e26 a b c d e), if_pos rfl]
  exact ⟨_, rfl⟩
def CN : String := "ShrinkRelocator"
abbrev nI : Nat := 16
abbrev nA : Nat := 6
def FF : List (Option Fe) := [some ("blockCap", "I", .int, 0), some ("byteCap", "I", .int, 0), some ("fileCap", "I", .int, 0), some ("none", "I", .int, 0), some ("volBlocks", "I", .int, 0), some ("blockSize", "I", .int, 0), some ("fileSlots", "I", .int, 0), some ("shrinking", "Z", .boolean, 0), some ("shrinkTarget", "I", .int, 0), some ("allocMask", "I", .int, 0), some ("slotUsed", "[Z", .boolean, 8), some ("fileSize", "[I", .int, 8), some ("fileMap", "[I", .int, 256), some ("ownerFile", "[I", .int, 32), some ("ownerIndex", "[I", .int, 32), some ("bytes", "[I", .int, 256)]
def PP : List Nat := [0, 0, 0, 0, 0, 0, 0, 0, 0, 0, 0, 1, 2, 3, 4, 5]
def Words (a0 : Array Value) (Z : State) : Prop := ∀ d ∈ tables_1, d.before a0 Z = true
theorem wd0 {a0 : Array Value} {Z : State} (hw : Words a0 Z) : (Jvm.Cond.classLink "ShrinkRelocatorL3" 7 "ShrinkRelocator").before a0 Z = true := hw _ (List.mem_of_getElem? (i := 0) rfl)
theorem wd1 {a0 : Array Value} {Z : State} (hw : Words a0 Z) : (Jvm.Cond.instantiable "ShrinkRelocator" 16).before a0 Z = true := hw _ (List.mem_of_getElem? (i := 1) rfl)
theorem wd2 {a0 : Array Value} {Z : State} (hw : Words a0 Z) : (Jvm.Cond.initialized "ShrinkRelocator").before a0 Z = true := hw _ (List.mem_of_getElem? (i := 2) rfl)
theorem wd3 {a0 : Array Value} {Z : State} (hw : Words a0 Z) : (Jvm.Cond.methodLink "ShrinkRelocatorL3" 9 ⟨"ShrinkRelocator", "<init>", "(III)V"⟩).before a0 Z = true := hw _ (List.mem_of_getElem? (i := 3) rfl)
theorem wd4 {a0 : Array Value} {Z : State} (hw : Words a0 Z) : (Jvm.Cond.instanceMethod ⟨"ShrinkRelocator", "<init>", "(III)V"⟩).before a0 Z = true := hw _ (List.mem_of_getElem? (i := 4) rfl)
theorem wd5 {a0 : Array Value} {Z : State} (hw : Words a0 Z) : (Jvm.Cond.code ⟨"ShrinkRelocator", "<init>", "(III)V"⟩ prog_1_method_1_code 4 none).before a0 Z = true := hw _ (List.mem_of_getElem? (i := 5) rfl)
theorem wd6 {a0 : Array Value} {Z : State} (hw : Words a0 Z) : (Jvm.Cond.methodLink "ShrinkRelocator" 1 Lib.objectInit).before a0 Z = true := hw _ (List.mem_of_getElem? (i := 6) rfl)
theorem wd7 {a0 : Array Value} {Z : State} (hw : Words a0 Z) : (Jvm.Cond.instanceMethod Lib.objectInit).before a0 Z = true := hw _ (List.mem_of_getElem? (i := 7) rfl)
theorem wd8 {a0 : Array Value} {Z : State} (hw : Words a0 Z) : (Jvm.Cond.code Lib.objectInit ⟨#[0xb1]⟩ 1 none).before a0 Z = true := hw _ (List.mem_of_getElem? (i := 8) rfl)
theorem wd9 {a0 : Array Value} {Z : State} (hw : Words a0 Z) : (Jvm.Cond.fieldLink "ShrinkRelocator" 7 "ShrinkRelocator" "blockCap" "I").before a0 Z = true := hw _ (List.mem_of_getElem? (i := 9) rfl)
theorem wd10 {a0 : Array Value} {Z : State} (hw : Words a0 Z) : (Jvm.Cond.laysFinal "ShrinkRelocator" "ShrinkRelocator" "blockCap" "I").before a0 Z = true := hw _ (List.mem_of_getElem? (i := 10) rfl)
theorem wd11 {a0 : Array Value} {Z : State} (hw : Words a0 Z) : (Jvm.Cond.fieldLink "ShrinkRelocator" 13 "ShrinkRelocator" "byteCap" "I").before a0 Z = true := hw _ (List.mem_of_getElem? (i := 11) rfl)
theorem wd12 {a0 : Array Value} {Z : State} (hw : Words a0 Z) : (Jvm.Cond.laysFinal "ShrinkRelocator" "ShrinkRelocator" "byteCap" "I").before a0 Z = true := hw _ (List.mem_of_getElem? (i := 12) rfl)
theorem wd13 {a0 : Array Value} {Z : State} (hw : Words a0 Z) : (Jvm.Cond.fieldLink "ShrinkRelocator" 16 "ShrinkRelocator" "fileCap" "I").before a0 Z = true := hw _ (List.mem_of_getElem? (i := 13) rfl)
theorem wd14 {a0 : Array Value} {Z : State} (hw : Words a0 Z) : (Jvm.Cond.laysFinal "ShrinkRelocator" "ShrinkRelocator" "fileCap" "I").before a0 Z = true := hw _ (List.mem_of_getElem? (i := 14) rfl)
theorem wd15 {a0 : Array Value} {Z : State} (hw : Words a0 Z) : (Jvm.Cond.fieldLink "ShrinkRelocator" 19 "ShrinkRelocator" "none" "I").before a0 Z = true := hw _ (List.mem_of_getElem? (i := 15) rfl)
theorem wd16 {a0 : Array Value} {Z : State} (hw : Words a0 Z) : (Jvm.Cond.laysFinal "ShrinkRelocator" "ShrinkRelocator" "none" "I").before a0 Z = true := hw _ (List.mem_of_getElem? (i := 16) rfl)
theorem wd17 {a0 : Array Value} {Z : State} (hw : Words a0 Z) : (Jvm.Cond.arrayClass .boolean).before a0 Z = true := hw _ (List.mem_of_getElem? (i := 17) rfl)
theorem wd18 {a0 : Array Value} {Z : State} (hw : Words a0 Z) : (Jvm.Cond.fieldLink "ShrinkRelocator" 22 "ShrinkRelocator" "slotUsed" "[Z").before a0 Z = true := hw _ (List.mem_of_getElem? (i := 18) rfl)
theorem wd19 {a0 : Array Value} {Z : State} (hw : Words a0 Z) : (Jvm.Cond.laysFinal "ShrinkRelocator" "ShrinkRelocator" "slotUsed" "[Z").before a0 Z = true := hw _ (List.mem_of_getElem? (i := 19) rfl)
theorem wd20 {a0 : Array Value} {Z : State} (hw : Words a0 Z) : (Jvm.Cond.arrayClass .int).before a0 Z = true := hw _ (List.mem_of_getElem? (i := 20) rfl)
theorem wd21 {a0 : Array Value} {Z : State} (hw : Words a0 Z) : (Jvm.Cond.fieldLink "ShrinkRelocator" 26 "ShrinkRelocator" "fileSize" "[I").before a0 Z = true := hw _ (List.mem_of_getElem? (i := 21) rfl)
theorem wd22 {a0 : Array Value} {Z : State} (hw : Words a0 Z) : (Jvm.Cond.laysFinal "ShrinkRelocator" "ShrinkRelocator" "fileSize" "[I").before a0 Z = true := hw _ (List.mem_of_getElem? (i := 22) rfl)
theorem wd23 {a0 : Array Value} {Z : State} (hw : Words a0 Z) : (Jvm.Cond.fieldLink "ShrinkRelocator" 30 "ShrinkRelocator" "fileMap" "[I").before a0 Z = true := hw _ (List.mem_of_getElem? (i := 23) rfl)
theorem wd24 {a0 : Array Value} {Z : State} (hw : Words a0 Z) : (Jvm.Cond.laysFinal "ShrinkRelocator" "ShrinkRelocator" "fileMap" "[I").before a0 Z = true := hw _ (List.mem_of_getElem? (i := 24) rfl)
theorem wd25 {a0 : Array Value} {Z : State} (hw : Words a0 Z) : (Jvm.Cond.fieldLink "ShrinkRelocator" 33 "ShrinkRelocator" "ownerFile" "[I").before a0 Z = true := hw _ (List.mem_of_getElem? (i := 25) rfl)
theorem wd26 {a0 : Array Value} {Z : State} (hw : Words a0 Z) : (Jvm.Cond.laysFinal "ShrinkRelocator" "ShrinkRelocator" "ownerFile" "[I").before a0 Z = true := hw _ (List.mem_of_getElem? (i := 26) rfl)
theorem wd27 {a0 : Array Value} {Z : State} (hw : Words a0 Z) : (Jvm.Cond.fieldLink "ShrinkRelocator" 36 "ShrinkRelocator" "ownerIndex" "[I").before a0 Z = true := hw _ (List.mem_of_getElem? (i := 27) rfl)
theorem wd28 {a0 : Array Value} {Z : State} (hw : Words a0 Z) : (Jvm.Cond.laysFinal "ShrinkRelocator" "ShrinkRelocator" "ownerIndex" "[I").before a0 Z = true := hw _ (List.mem_of_getElem? (i := 28) rfl)
theorem wd29 {a0 : Array Value} {Z : State} (hw : Words a0 Z) : (Jvm.Cond.fieldLink "ShrinkRelocator" 39 "ShrinkRelocator" "bytes" "[I").before a0 Z = true := hw _ (List.mem_of_getElem? (i := 29) rfl)
theorem wd30 {a0 : Array Value} {Z : State} (hw : Words a0 Z) : (Jvm.Cond.laysFinal "ShrinkRelocator" "ShrinkRelocator" "bytes" "[I").before a0 Z = true := hw _ (List.mem_of_getElem? (i := 30) rfl)
theorem wd31 {a0 : Array Value} {Z : State} (hw : Words a0 Z) : (Jvm.Cond.methodLink "ShrinkRelocator" 42 ⟨"ShrinkRelocator", "clamp", "(III)I"⟩).before a0 Z = true := hw _ (List.mem_of_getElem? (i := 31) rfl)
theorem wd32 {a0 : Array Value} {Z : State} (hw : Words a0 Z) : (Jvm.Cond.instanceMethod ⟨"ShrinkRelocator", "clamp", "(III)I"⟩).before a0 Z = true := hw _ (List.mem_of_getElem? (i := 32) rfl)
theorem wd33 {a0 : Array Value} {Z : State} (hw : Words a0 Z) : (Jvm.Cond.privateMethod ⟨"ShrinkRelocator", "clamp", "(III)I"⟩).before a0 Z = true := hw _ (List.mem_of_getElem? (i := 33) rfl)
theorem wd34 {a0 : Array Value} {Z : State} (hw : Words a0 Z) : (Jvm.Cond.code ⟨"ShrinkRelocator", "clamp", "(III)I"⟩ prog_1_method_18_code 4 (some .int)).before a0 Z = true := hw _ (List.mem_of_getElem? (i := 34) rfl)
theorem wd35 {a0 : Array Value} {Z : State} (hw : Words a0 Z) : (Jvm.Cond.fieldLink "ShrinkRelocator" 46 "ShrinkRelocator" "volBlocks" "I").before a0 Z = true := hw _ (List.mem_of_getElem? (i := 35) rfl)
theorem wd36 {a0 : Array Value} {Z : State} (hw : Words a0 Z) : (Jvm.Cond.lays "ShrinkRelocator" "ShrinkRelocator" "volBlocks" "I").before a0 Z = true := hw _ (List.mem_of_getElem? (i := 36) rfl)
theorem wd37 {a0 : Array Value} {Z : State} (hw : Words a0 Z) : (Jvm.Cond.fieldLink "ShrinkRelocator" 49 "ShrinkRelocator" "blockSize" "I").before a0 Z = true := hw _ (List.mem_of_getElem? (i := 37) rfl)
theorem wd38 {a0 : Array Value} {Z : State} (hw : Words a0 Z) : (Jvm.Cond.lays "ShrinkRelocator" "ShrinkRelocator" "blockSize" "I").before a0 Z = true := hw _ (List.mem_of_getElem? (i := 38) rfl)
theorem wd39 {a0 : Array Value} {Z : State} (hw : Words a0 Z) : (Jvm.Cond.fieldLink "ShrinkRelocator" 52 "ShrinkRelocator" "fileSlots" "I").before a0 Z = true := hw _ (List.mem_of_getElem? (i := 39) rfl)
theorem wd40 {a0 : Array Value} {Z : State} (hw : Words a0 Z) : (Jvm.Cond.lays "ShrinkRelocator" "ShrinkRelocator" "fileSlots" "I").before a0 Z = true := hw _ (List.mem_of_getElem? (i := 40) rfl)
theorem wd41 {a0 : Array Value} {Z : State} (hw : Words a0 Z) : (Jvm.Cond.fieldLink "ShrinkRelocator" 55 "ShrinkRelocator" "shrinking" "Z").before a0 Z = true := hw _ (List.mem_of_getElem? (i := 41) rfl)
theorem wd42 {a0 : Array Value} {Z : State} (hw : Words a0 Z) : (Jvm.Cond.lays "ShrinkRelocator" "ShrinkRelocator" "shrinking" "Z").before a0 Z = true := hw _ (List.mem_of_getElem? (i := 42) rfl)
theorem wd43 {a0 : Array Value} {Z : State} (hw : Words a0 Z) : (Jvm.Cond.fieldLink "ShrinkRelocator" 59 "ShrinkRelocator" "shrinkTarget" "I").before a0 Z = true := hw _ (List.mem_of_getElem? (i := 43) rfl)
theorem wd44 {a0 : Array Value} {Z : State} (hw : Words a0 Z) : (Jvm.Cond.lays "ShrinkRelocator" "ShrinkRelocator" "shrinkTarget" "I").before a0 Z = true := hw _ (List.mem_of_getElem? (i := 44) rfl)
theorem wd45 {a0 : Array Value} {Z : State} (hw : Words a0 Z) : (Jvm.Cond.fieldLink "ShrinkRelocator" 62 "ShrinkRelocator" "allocMask" "I").before a0 Z = true := hw _ (List.mem_of_getElem? (i := 45) rfl)
theorem wd46 {a0 : Array Value} {Z : State} (hw : Words a0 Z) : (Jvm.Cond.lays "ShrinkRelocator" "ShrinkRelocator" "allocMask" "I").before a0 Z = true := hw _ (List.mem_of_getElem? (i := 46) rfl)
theorem wd47 {a0 : Array Value} {Z : State} (hw : Words a0 Z) : (Jvm.Cond.methodLink "ShrinkRelocator" 65 ⟨"ShrinkRelocator", "resetBlockTables", "()V"⟩).before a0 Z = true := hw _ (List.mem_of_getElem? (i := 47) rfl)
theorem wd48 {a0 : Array Value} {Z : State} (hw : Words a0 Z) : (Jvm.Cond.instanceMethod ⟨"ShrinkRelocator", "resetBlockTables", "()V"⟩).before a0 Z = true := hw _ (List.mem_of_getElem? (i := 48) rfl)
theorem wd49 {a0 : Array Value} {Z : State} (hw : Words a0 Z) : (Jvm.Cond.privateMethod ⟨"ShrinkRelocator", "resetBlockTables", "()V"⟩).before a0 Z = true := hw _ (List.mem_of_getElem? (i := 49) rfl)
theorem wd50 {a0 : Array Value} {Z : State} (hw : Words a0 Z) : (Jvm.Cond.code ⟨"ShrinkRelocator", "resetBlockTables", "()V"⟩ prog_1_method_19_code 2 none).before a0 Z = true := hw _ (List.mem_of_getElem? (i := 50) rfl)
theorem wd51 {a0 : Array Value} {Z : State} (hw : Words a0 Z) : (Jvm.Cond.methodLink "ShrinkRelocator" 68 ⟨"ShrinkRelocator", "resetFileTables", "()V"⟩).before a0 Z = true := hw _ (List.mem_of_getElem? (i := 51) rfl)
theorem wd52 {a0 : Array Value} {Z : State} (hw : Words a0 Z) : (Jvm.Cond.instanceMethod ⟨"ShrinkRelocator", "resetFileTables", "()V"⟩).before a0 Z = true := hw _ (List.mem_of_getElem? (i := 52) rfl)
theorem wd53 {a0 : Array Value} {Z : State} (hw : Words a0 Z) : (Jvm.Cond.privateMethod ⟨"ShrinkRelocator", "resetFileTables", "()V"⟩).before a0 Z = true := hw _ (List.mem_of_getElem? (i := 53) rfl)
theorem wd54 {a0 : Array Value} {Z : State} (hw : Words a0 Z) : (Jvm.Cond.code ⟨"ShrinkRelocator", "resetFileTables", "()V"⟩ prog_1_method_20_code 2 none).before a0 Z = true := hw _ (List.mem_of_getElem? (i := 54) rfl)
theorem wd55 {a0 : Array Value} {Z : State} (hw : Words a0 Z) : (Jvm.Cond.methodLink "ShrinkRelocator" 71 ⟨"ShrinkRelocator", "clearMapRow", "(I)V"⟩).before a0 Z = true := hw _ (List.mem_of_getElem? (i := 55) rfl)
theorem wd56 {a0 : Array Value} {Z : State} (hw : Words a0 Z) : (Jvm.Cond.instanceMethod ⟨"ShrinkRelocator", "clearMapRow", "(I)V"⟩).before a0 Z = true := hw _ (List.mem_of_getElem? (i := 56) rfl)
theorem wd57 {a0 : Array Value} {Z : State} (hw : Words a0 Z) : (Jvm.Cond.privateMethod ⟨"ShrinkRelocator", "clearMapRow", "(I)V"⟩).before a0 Z = true := hw _ (List.mem_of_getElem? (i := 57) rfl)
theorem wd58 {a0 : Array Value} {Z : State} (hw : Words a0 Z) : (Jvm.Cond.code ⟨"ShrinkRelocator", "clearMapRow", "(I)V"⟩ prog_1_method_21_code 3 none).before a0 Z = true := hw _ (List.mem_of_getElem? (i := 58) rfl)
theorem wd59 {a0 : Array Value} {Z : State} (hw : Words a0 Z) : (Jvm.Cond.methodLink "ShrinkRelocatorL3" 12 ⟨"ShrinkRelocator", "create", "()I"⟩).before a0 Z = true := hw _ (List.mem_of_getElem? (i := 59) rfl)
theorem wd60 {a0 : Array Value} {Z : State} (hw : Words a0 Z) : (Jvm.Cond.declares ⟨"ShrinkRelocator", "create", "()I"⟩).before a0 Z = true := hw _ (List.mem_of_getElem? (i := 60) rfl)
theorem wd61 {a0 : Array Value} {Z : State} (hw : Words a0 Z) : (Jvm.Cond.instanceMethod ⟨"ShrinkRelocator", "create", "()I"⟩).before a0 Z = true := hw _ (List.mem_of_getElem? (i := 61) rfl)
theorem wd62 {a0 : Array Value} {Z : State} (hw : Words a0 Z) : (Jvm.Cond.selects "ShrinkRelocator" ⟨"ShrinkRelocator", "create", "()I"⟩ ⟨"ShrinkRelocator", "create", "()I"⟩).before a0 Z = true := hw _ (List.mem_of_getElem? (i := 62) rfl)
theorem wd63 {a0 : Array Value} {Z : State} (hw : Words a0 Z) : (Jvm.Cond.code ⟨"ShrinkRelocator", "create", "()I"⟩ prog_1_method_2_code 2 (some .int)).before a0 Z = true := hw _ (List.mem_of_getElem? (i := 63) rfl)
theorem wd64 {a0 : Array Value} {Z : State} (hw : Words a0 Z) : (Jvm.Cond.methodLink "ShrinkRelocatorL3" 16 ⟨"ShrinkRelocator", "write", "(III)I"⟩).before a0 Z = true := hw _ (List.mem_of_getElem? (i := 64) rfl)
theorem wd65 {a0 : Array Value} {Z : State} (hw : Words a0 Z) : (Jvm.Cond.declares ⟨"ShrinkRelocator", "write", "(III)I"⟩).before a0 Z = true := hw _ (List.mem_of_getElem? (i := 65) rfl)
theorem wd66 {a0 : Array Value} {Z : State} (hw : Words a0 Z) : (Jvm.Cond.instanceMethod ⟨"ShrinkRelocator", "write", "(III)I"⟩).before a0 Z = true := hw _ (List.mem_of_getElem? (i := 66) rfl)
theorem wd67 {a0 : Array Value} {Z : State} (hw : Words a0 Z) : (Jvm.Cond.selects "ShrinkRelocator" ⟨"ShrinkRelocator", "write", "(III)I"⟩ ⟨"ShrinkRelocator", "write", "(III)I"⟩).before a0 Z = true := hw _ (List.mem_of_getElem? (i := 67) rfl)
theorem wd68 {a0 : Array Value} {Z : State} (hw : Words a0 Z) : (Jvm.Cond.code ⟨"ShrinkRelocator", "write", "(III)I"⟩ prog_1_method_4_code 6 (some .int)).before a0 Z = true := hw _ (List.mem_of_getElem? (i := 68) rfl)
theorem wd69 {a0 : Array Value} {Z : State} (hw : Words a0 Z) : (Jvm.Cond.methodLink "ShrinkRelocator" 75 ⟨"ShrinkRelocator", "isValidFile", "(I)Z"⟩).before a0 Z = true := hw _ (List.mem_of_getElem? (i := 69) rfl)
theorem wd70 {a0 : Array Value} {Z : State} (hw : Words a0 Z) : (Jvm.Cond.instanceMethod ⟨"ShrinkRelocator", "isValidFile", "(I)Z"⟩).before a0 Z = true := hw _ (List.mem_of_getElem? (i := 70) rfl)
theorem wd71 {a0 : Array Value} {Z : State} (hw : Words a0 Z) : (Jvm.Cond.privateMethod ⟨"ShrinkRelocator", "isValidFile", "(I)Z"⟩).before a0 Z = true := hw _ (List.mem_of_getElem? (i := 71) rfl)
theorem wd72 {a0 : Array Value} {Z : State} (hw : Words a0 Z) : (Jvm.Cond.code ⟨"ShrinkRelocator", "isValidFile", "(I)Z"⟩ prog_1_method_22_code 2 (some .boolean)).before a0 Z = true := hw _ (List.mem_of_getElem? (i := 72) rfl)
theorem wd73 {a0 : Array Value} {Z : State} (hw : Words a0 Z) : (Jvm.Cond.methodLink "ShrinkRelocator" 83 ⟨"ShrinkRelocator", "needsNewBlock", "(II)Z"⟩).before a0 Z = true := hw _ (List.mem_of_getElem? (i := 73) rfl)
theorem wd74 {a0 : Array Value} {Z : State} (hw : Words a0 Z) : (Jvm.Cond.instanceMethod ⟨"ShrinkRelocator", "needsNewBlock", "(II)Z"⟩).before a0 Z = true := hw _ (List.mem_of_getElem? (i := 74) rfl)
theorem wd75 {a0 : Array Value} {Z : State} (hw : Words a0 Z) : (Jvm.Cond.privateMethod ⟨"ShrinkRelocator", "needsNewBlock", "(II)Z"⟩).before a0 Z = true := hw _ (List.mem_of_getElem? (i := 75) rfl)
theorem wd76 {a0 : Array Value} {Z : State} (hw : Words a0 Z) : (Jvm.Cond.code ⟨"ShrinkRelocator", "needsNewBlock", "(II)Z"⟩ prog_1_method_25_code 3 (some .boolean)).before a0 Z = true := hw _ (List.mem_of_getElem? (i := 76) rfl)
theorem wd77 {a0 : Array Value} {Z : State} (hw : Words a0 Z) : (Jvm.Cond.methodLink "ShrinkRelocator" 87 ⟨"ShrinkRelocator", "growByOneBlock", "(I)I"⟩).before a0 Z = true := hw _ (List.mem_of_getElem? (i := 77) rfl)
theorem wd78 {a0 : Array Value} {Z : State} (hw : Words a0 Z) : (Jvm.Cond.instanceMethod ⟨"ShrinkRelocator", "growByOneBlock", "(I)I"⟩).before a0 Z = true := hw _ (List.mem_of_getElem? (i := 78) rfl)
theorem wd79 {a0 : Array Value} {Z : State} (hw : Words a0 Z) : (Jvm.Cond.privateMethod ⟨"ShrinkRelocator", "growByOneBlock", "(I)I"⟩).before a0 Z = true := hw _ (List.mem_of_getElem? (i := 79) rfl)
theorem wd80 {a0 : Array Value} {Z : State} (hw : Words a0 Z) : (Jvm.Cond.code ⟨"ShrinkRelocator", "growByOneBlock", "(I)I"⟩ prog_1_method_27_code 4 (some .int)).before a0 Z = true := hw _ (List.mem_of_getElem? (i := 80) rfl)
theorem wd81 {a0 : Array Value} {Z : State} (hw : Words a0 Z) : (Jvm.Cond.methodLink "ShrinkRelocator" 95 ⟨"ShrinkRelocator", "blocksFor", "(I)I"⟩).before a0 Z = true := hw _ (List.mem_of_getElem? (i := 81) rfl)
theorem wd82 {a0 : Array Value} {Z : State} (hw : Words a0 Z) : (Jvm.Cond.instanceMethod ⟨"ShrinkRelocator", "blocksFor", "(I)I"⟩).before a0 Z = true := hw _ (List.mem_of_getElem? (i := 82) rfl)
theorem wd83 {a0 : Array Value} {Z : State} (hw : Words a0 Z) : (Jvm.Cond.privateMethod ⟨"ShrinkRelocator", "blocksFor", "(I)I"⟩).before a0 Z = true := hw _ (List.mem_of_getElem? (i := 83) rfl)
theorem wd84 {a0 : Array Value} {Z : State} (hw : Words a0 Z) : (Jvm.Cond.code ⟨"ShrinkRelocator", "blocksFor", "(I)I"⟩ prog_1_method_23_code 2 (some .int)).before a0 Z = true := hw _ (List.mem_of_getElem? (i := 84) rfl)
theorem wd85 {a0 : Array Value} {Z : State} (hw : Words a0 Z) : (Jvm.Cond.methodLink "ShrinkRelocator" 125 ⟨"ShrinkRelocator", "allocateBlock", "()I"⟩).before a0 Z = true := hw _ (List.mem_of_getElem? (i := 85) rfl)
theorem wd86 {a0 : Array Value} {Z : State} (hw : Words a0 Z) : (Jvm.Cond.instanceMethod ⟨"ShrinkRelocator", "allocateBlock", "()I"⟩).before a0 Z = true := hw _ (List.mem_of_getElem? (i := 86) rfl)
theorem wd87 {a0 : Array Value} {Z : State} (hw : Words a0 Z) : (Jvm.Cond.privateMethod ⟨"ShrinkRelocator", "allocateBlock", "()I"⟩).before a0 Z = true := hw _ (List.mem_of_getElem? (i := 87) rfl)
theorem wd88 {a0 : Array Value} {Z : State} (hw : Words a0 Z) : (Jvm.Cond.code ⟨"ShrinkRelocator", "allocateBlock", "()I"⟩ prog_1_method_42_code 3 (some .int)).before a0 Z = true := hw _ (List.mem_of_getElem? (i := 88) rfl)
theorem wd89 {a0 : Array Value} {Z : State} (hw : Words a0 Z) : (Jvm.Cond.methodLink "ShrinkRelocator" 151 ⟨"ShrinkRelocator", "freeBelow", "(I)I"⟩).before a0 Z = true := hw _ (List.mem_of_getElem? (i := 89) rfl)
theorem wd90 {a0 : Array Value} {Z : State} (hw : Words a0 Z) : (Jvm.Cond.instanceMethod ⟨"ShrinkRelocator", "freeBelow", "(I)I"⟩).before a0 Z = true := hw _ (List.mem_of_getElem? (i := 90) rfl)
theorem wd91 {a0 : Array Value} {Z : State} (hw : Words a0 Z) : (Jvm.Cond.privateMethod ⟨"ShrinkRelocator", "freeBelow", "(I)I"⟩).before a0 Z = true := hw _ (List.mem_of_getElem? (i := 91) rfl)
theorem wd92 {a0 : Array Value} {Z : State} (hw : Words a0 Z) : (Jvm.Cond.code ⟨"ShrinkRelocator", "freeBelow", "(I)I"⟩ prog_1_method_40_code 2 (some .int)).before a0 Z = true := hw _ (List.mem_of_getElem? (i := 92) rfl)
theorem wd93 {a0 : Array Value} {Z : State} (hw : Words a0 Z) : (Jvm.Cond.methodLink "ShrinkRelocator" 148 ⟨"ShrinkRelocator", "lowMask", "(I)I"⟩).before a0 Z = true := hw _ (List.mem_of_getElem? (i := 93) rfl)
theorem wd94 {a0 : Array Value} {Z : State} (hw : Words a0 Z) : (Jvm.Cond.instanceMethod ⟨"ShrinkRelocator", "lowMask", "(I)I"⟩).before a0 Z = true := hw _ (List.mem_of_getElem? (i := 94) rfl)
theorem wd95 {a0 : Array Value} {Z : State} (hw : Words a0 Z) : (Jvm.Cond.privateMethod ⟨"ShrinkRelocator", "lowMask", "(I)I"⟩).before a0 Z = true := hw _ (List.mem_of_getElem? (i := 95) rfl)
theorem wd96 {a0 : Array Value} {Z : State} (hw : Words a0 Z) : (Jvm.Cond.code ⟨"ShrinkRelocator", "lowMask", "(I)I"⟩ prog_1_method_37_code 2 (some .int)).before a0 Z = true := hw _ (List.mem_of_getElem? (i := 96) rfl)
theorem wd97 {a0 : Array Value} {Z : State} (hw : Words a0 Z) : (Jvm.Cond.methodLink "ShrinkRelocator" 154 ⟨"ShrinkRelocator", "lowestBit", "(I)I"⟩).before a0 Z = true := hw _ (List.mem_of_getElem? (i := 97) rfl)
theorem wd98 {a0 : Array Value} {Z : State} (hw : Words a0 Z) : (Jvm.Cond.instanceMethod ⟨"ShrinkRelocator", "lowestBit", "(I)I"⟩).before a0 Z = true := hw _ (List.mem_of_getElem? (i := 98) rfl)
theorem wd99 {a0 : Array Value} {Z : State} (hw : Words a0 Z) : (Jvm.Cond.privateMethod ⟨"ShrinkRelocator", "lowestBit", "(I)I"⟩).before a0 Z = true := hw _ (List.mem_of_getElem? (i := 99) rfl)
theorem wd100 {a0 : Array Value} {Z : State} (hw : Words a0 Z) : (Jvm.Cond.code ⟨"ShrinkRelocator", "lowestBit", "(I)I"⟩ prog_1_method_38_code 4 (some .int)).before a0 Z = true := hw _ (List.mem_of_getElem? (i := 100) rfl)
theorem wd101 {a0 : Array Value} {Z : State} (hw : Words a0 Z) : (Jvm.Cond.constant "ShrinkRelocator" 143 65535).before a0 Z = true := hw _ (List.mem_of_getElem? (i := 101) rfl)
theorem wd102 {a0 : Array Value} {Z : State} (hw : Words a0 Z) : (Jvm.Cond.methodLink "ShrinkRelocator" 128 ⟨"ShrinkRelocator", "attach", "(III)V"⟩).before a0 Z = true := hw _ (List.mem_of_getElem? (i := 102) rfl)
theorem wd103 {a0 : Array Value} {Z : State} (hw : Words a0 Z) : (Jvm.Cond.instanceMethod ⟨"ShrinkRelocator", "attach", "(III)V"⟩).before a0 Z = true := hw _ (List.mem_of_getElem? (i := 103) rfl)
theorem wd104 {a0 : Array Value} {Z : State} (hw : Words a0 Z) : (Jvm.Cond.privateMethod ⟨"ShrinkRelocator", "attach", "(III)V"⟩).before a0 Z = true := hw _ (List.mem_of_getElem? (i := 104) rfl)
theorem wd105 {a0 : Array Value} {Z : State} (hw : Words a0 Z) : (Jvm.Cond.code ⟨"ShrinkRelocator", "attach", "(III)V"⟩ prog_1_method_29_code 4 none).before a0 Z = true := hw _ (List.mem_of_getElem? (i := 105) rfl)
theorem wd106 {a0 : Array Value} {Z : State} (hw : Words a0 Z) : (Jvm.Cond.methodLink "ShrinkRelocator" 119 ⟨"ShrinkRelocator", "mapSlot", "(II)I"⟩).before a0 Z = true := hw _ (List.mem_of_getElem? (i := 106) rfl)
theorem wd107 {a0 : Array Value} {Z : State} (hw : Words a0 Z) : (Jvm.Cond.instanceMethod ⟨"ShrinkRelocator", "mapSlot", "(II)I"⟩).before a0 Z = true := hw _ (List.mem_of_getElem? (i := 107) rfl)
theorem wd108 {a0 : Array Value} {Z : State} (hw : Words a0 Z) : (Jvm.Cond.privateMethod ⟨"ShrinkRelocator", "mapSlot", "(II)I"⟩).before a0 Z = true := hw _ (List.mem_of_getElem? (i := 108) rfl)
theorem wd109 {a0 : Array Value} {Z : State} (hw : Words a0 Z) : (Jvm.Cond.code ⟨"ShrinkRelocator", "mapSlot", "(II)I"⟩ prog_1_method_24_code 3 (some .int)).before a0 Z = true := hw _ (List.mem_of_getElem? (i := 109) rfl)
theorem wd110 {a0 : Array Value} {Z : State} (hw : Words a0 Z) : (Jvm.Cond.methodLink "ShrinkRelocator" 134 ⟨"ShrinkRelocator", "markAllocated", "(III)V"⟩).before a0 Z = true := hw _ (List.mem_of_getElem? (i := 110) rfl)
theorem wd111 {a0 : Array Value} {Z : State} (hw : Words a0 Z) : (Jvm.Cond.instanceMethod ⟨"ShrinkRelocator", "markAllocated", "(III)V"⟩).before a0 Z = true := hw _ (List.mem_of_getElem? (i := 111) rfl)
theorem wd112 {a0 : Array Value} {Z : State} (hw : Words a0 Z) : (Jvm.Cond.privateMethod ⟨"ShrinkRelocator", "markAllocated", "(III)V"⟩).before a0 Z = true := hw _ (List.mem_of_getElem? (i := 112) rfl)
theorem wd113 {a0 : Array Value} {Z : State} (hw : Words a0 Z) : (Jvm.Cond.code ⟨"ShrinkRelocator", "markAllocated", "(III)V"⟩ prog_1_method_34_code 4 none).before a0 Z = true := hw _ (List.mem_of_getElem? (i := 113) rfl)
theorem wd114 {a0 : Array Value} {Z : State} (hw : Words a0 Z) : (Jvm.Cond.methodLink "ShrinkRelocator" 91 ⟨"ShrinkRelocator", "storeAt", "(III)V"⟩).before a0 Z = true := hw _ (List.mem_of_getElem? (i := 114) rfl)
theorem wd115 {a0 : Array Value} {Z : State} (hw : Words a0 Z) : (Jvm.Cond.instanceMethod ⟨"ShrinkRelocator", "storeAt", "(III)V"⟩).before a0 Z = true := hw _ (List.mem_of_getElem? (i := 115) rfl)
theorem wd116 {a0 : Array Value} {Z : State} (hw : Words a0 Z) : (Jvm.Cond.privateMethod ⟨"ShrinkRelocator", "storeAt", "(III)V"⟩).before a0 Z = true := hw _ (List.mem_of_getElem? (i := 116) rfl)
theorem wd117 {a0 : Array Value} {Z : State} (hw : Words a0 Z) : (Jvm.Cond.code ⟨"ShrinkRelocator", "storeAt", "(III)V"⟩ prog_1_method_30_code 7 none).before a0 Z = true := hw _ (List.mem_of_getElem? (i := 117) rfl)
theorem wd118 {a0 : Array Value} {Z : State} (hw : Words a0 Z) : (Jvm.Cond.methodLink "ShrinkRelocator" 137 ⟨"ShrinkRelocator", "byteSlot", "(II)I"⟩).before a0 Z = true := hw _ (List.mem_of_getElem? (i := 118) rfl)
theorem wd119 {a0 : Array Value} {Z : State} (hw : Words a0 Z) : (Jvm.Cond.instanceMethod ⟨"ShrinkRelocator", "byteSlot", "(II)I"⟩).before a0 Z = true := hw _ (List.mem_of_getElem? (i := 119) rfl)
theorem wd120 {a0 : Array Value} {Z : State} (hw : Words a0 Z) : (Jvm.Cond.privateMethod ⟨"ShrinkRelocator", "byteSlot", "(II)I"⟩).before a0 Z = true := hw _ (List.mem_of_getElem? (i := 120) rfl)
theorem wd121 {a0 : Array Value} {Z : State} (hw : Words a0 Z) : (Jvm.Cond.code ⟨"ShrinkRelocator", "byteSlot", "(II)I"⟩ prog_1_method_32_code 3 (some .int)).before a0 Z = true := hw _ (List.mem_of_getElem? (i := 121) rfl)
theorem wd122 {a0 : Array Value} {Z : State} (hw : Words a0 Z) : (Jvm.Cond.methodLink "ShrinkRelocatorL3" 20 ⟨"ShrinkRelocator", "physOf", "(II)I"⟩).before a0 Z = true := hw _ (List.mem_of_getElem? (i := 122) rfl)
theorem wd123 {a0 : Array Value} {Z : State} (hw : Words a0 Z) : (Jvm.Cond.declares ⟨"ShrinkRelocator", "physOf", "(II)I"⟩).before a0 Z = true := hw _ (List.mem_of_getElem? (i := 123) rfl)
theorem wd124 {a0 : Array Value} {Z : State} (hw : Words a0 Z) : (Jvm.Cond.instanceMethod ⟨"ShrinkRelocator", "physOf", "(II)I"⟩).before a0 Z = true := hw _ (List.mem_of_getElem? (i := 124) rfl)
theorem wd125 {a0 : Array Value} {Z : State} (hw : Words a0 Z) : (Jvm.Cond.selects "ShrinkRelocator" ⟨"ShrinkRelocator", "physOf", "(II)I"⟩ ⟨"ShrinkRelocator", "physOf", "(II)I"⟩).before a0 Z = true := hw _ (List.mem_of_getElem? (i := 125) rfl)
theorem wd126 {a0 : Array Value} {Z : State} (hw : Words a0 Z) : (Jvm.Cond.code ⟨"ShrinkRelocator", "physOf", "(II)I"⟩ prog_1_method_15_code 4 (some .int)).before a0 Z = true := hw _ (List.mem_of_getElem? (i := 126) rfl)
theorem wd127 {a0 : Array Value} {Z : State} (hw : Words a0 Z) : (Jvm.Cond.methodLink "ShrinkRelocatorL3" 24 ⟨"ShrinkRelocator", "delete", "(I)I"⟩).before a0 Z = true := hw _ (List.mem_of_getElem? (i := 127) rfl)
theorem wd128 {a0 : Array Value} {Z : State} (hw : Words a0 Z) : (Jvm.Cond.declares ⟨"ShrinkRelocator", "delete", "(I)I"⟩).before a0 Z = true := hw _ (List.mem_of_getElem? (i := 128) rfl)
theorem wd129 {a0 : Array Value} {Z : State} (hw : Words a0 Z) : (Jvm.Cond.instanceMethod ⟨"ShrinkRelocator", "delete", "(I)I"⟩).before a0 Z = true := hw _ (List.mem_of_getElem? (i := 129) rfl)
theorem wd130 {a0 : Array Value} {Z : State} (hw : Words a0 Z) : (Jvm.Cond.selects "ShrinkRelocator" ⟨"ShrinkRelocator", "delete", "(I)I"⟩ ⟨"ShrinkRelocator", "delete", "(I)I"⟩).before a0 Z = true := hw _ (List.mem_of_getElem? (i := 130) rfl)
theorem wd131 {a0 : Array Value} {Z : State} (hw : Words a0 Z) : (Jvm.Cond.code ⟨"ShrinkRelocator", "delete", "(I)I"⟩ prog_1_method_3_code 2 (some .int)).before a0 Z = true := hw _ (List.mem_of_getElem? (i := 131) rfl)
theorem wd132 {a0 : Array Value} {Z : State} (hw : Words a0 Z) : (Jvm.Cond.methodLink "ShrinkRelocator" 79 ⟨"ShrinkRelocator", "releaseFrom", "(II)V"⟩).before a0 Z = true := hw _ (List.mem_of_getElem? (i := 132) rfl)
theorem wd133 {a0 : Array Value} {Z : State} (hw : Words a0 Z) : (Jvm.Cond.instanceMethod ⟨"ShrinkRelocator", "releaseFrom", "(II)V"⟩).before a0 Z = true := hw _ (List.mem_of_getElem? (i := 133) rfl)
theorem wd134 {a0 : Array Value} {Z : State} (hw : Words a0 Z) : (Jvm.Cond.privateMethod ⟨"ShrinkRelocator", "releaseFrom", "(II)V"⟩).before a0 Z = true := hw _ (List.mem_of_getElem? (i := 134) rfl)
theorem wd135 {a0 : Array Value} {Z : State} (hw : Words a0 Z) : (Jvm.Cond.code ⟨"ShrinkRelocator", "releaseFrom", "(II)V"⟩ prog_1_method_28_code 8 none).before a0 Z = true := hw _ (List.mem_of_getElem? (i := 135) rfl)
theorem wd136 {a0 : Array Value} {Z : State} (hw : Words a0 Z) : (Jvm.Cond.methodLink "ShrinkRelocator" 131 ⟨"ShrinkRelocator", "markFree", "(I)V"⟩).before a0 Z = true := hw _ (List.mem_of_getElem? (i := 136) rfl)
theorem wd137 {a0 : Array Value} {Z : State} (hw : Words a0 Z) : (Jvm.Cond.instanceMethod ⟨"ShrinkRelocator", "markFree", "(I)V"⟩).before a0 Z = true := hw _ (List.mem_of_getElem? (i := 137) rfl)
theorem wd138 {a0 : Array Value} {Z : State} (hw : Words a0 Z) : (Jvm.Cond.privateMethod ⟨"ShrinkRelocator", "markFree", "(I)V"⟩).before a0 Z = true := hw _ (List.mem_of_getElem? (i := 138) rfl)
theorem wd139 {a0 : Array Value} {Z : State} (hw : Words a0 Z) : (Jvm.Cond.code ⟨"ShrinkRelocator", "markFree", "(I)V"⟩ prog_1_method_35_code 2 none).before a0 Z = true := hw _ (List.mem_of_getElem? (i := 139) rfl)
theorem wd140 {a0 : Array Value} {Z : State} (hw : Words a0 Z) : (Jvm.Cond.methodLink "ShrinkRelocatorL3" 28 ⟨"ShrinkRelocator", "shrink", "(I)I"⟩).before a0 Z = true := hw _ (List.mem_of_getElem? (i := 140) rfl)
theorem wd141 {a0 : Array Value} {Z : State} (hw : Words a0 Z) : (Jvm.Cond.declares ⟨"ShrinkRelocator", "shrink", "(I)I"⟩).before a0 Z = true := hw _ (List.mem_of_getElem? (i := 141) rfl)
theorem wd142 {a0 : Array Value} {Z : State} (hw : Words a0 Z) : (Jvm.Cond.instanceMethod ⟨"ShrinkRelocator", "shrink", "(I)I"⟩).before a0 Z = true := hw _ (List.mem_of_getElem? (i := 142) rfl)
theorem wd143 {a0 : Array Value} {Z : State} (hw : Words a0 Z) : (Jvm.Cond.selects "ShrinkRelocator" ⟨"ShrinkRelocator", "shrink", "(I)I"⟩ ⟨"ShrinkRelocator", "shrink", "(I)I"⟩).before a0 Z = true := hw _ (List.mem_of_getElem? (i := 143) rfl)
theorem wd144 {a0 : Array Value} {Z : State} (hw : Words a0 Z) : (Jvm.Cond.code ⟨"ShrinkRelocator", "shrink", "(I)I"⟩ prog_1_method_8_code 2 (some .int)).before a0 Z = true := hw _ (List.mem_of_getElem? (i := 144) rfl)
theorem wd145 {a0 : Array Value} {Z : State} (hw : Words a0 Z) : (Jvm.Cond.methodLink "ShrinkRelocator" 102 ⟨"ShrinkRelocator", "allocatedCount", "()I"⟩).before a0 Z = true := hw _ (List.mem_of_getElem? (i := 145) rfl)
theorem wd146 {a0 : Array Value} {Z : State} (hw : Words a0 Z) : (Jvm.Cond.instanceMethod ⟨"ShrinkRelocator", "allocatedCount", "()I"⟩).before a0 Z = true := hw _ (List.mem_of_getElem? (i := 146) rfl)
theorem wd147 {a0 : Array Value} {Z : State} (hw : Words a0 Z) : (Jvm.Cond.privateMethod ⟨"ShrinkRelocator", "allocatedCount", "()I"⟩).before a0 Z = true := hw _ (List.mem_of_getElem? (i := 147) rfl)
theorem wd148 {a0 : Array Value} {Z : State} (hw : Words a0 Z) : (Jvm.Cond.code ⟨"ShrinkRelocator", "allocatedCount", "()I"⟩ prog_1_method_36_code 1 (some .int)).before a0 Z = true := hw _ (List.mem_of_getElem? (i := 148) rfl)
theorem wd149 {a0 : Array Value} {Z : State} (hw : Words a0 Z) : (Jvm.Cond.methodLink "ShrinkRelocator" 140 ⟨"ShrinkRelocator", "bitCount", "(I)I"⟩).before a0 Z = true := hw _ (List.mem_of_getElem? (i := 149) rfl)
theorem wd150 {a0 : Array Value} {Z : State} (hw : Words a0 Z) : (Jvm.Cond.instanceMethod ⟨"ShrinkRelocator", "bitCount", "(I)I"⟩).before a0 Z = true := hw _ (List.mem_of_getElem? (i := 150) rfl)
theorem wd151 {a0 : Array Value} {Z : State} (hw : Words a0 Z) : (Jvm.Cond.privateMethod ⟨"ShrinkRelocator", "bitCount", "(I)I"⟩).before a0 Z = true := hw _ (List.mem_of_getElem? (i := 151) rfl)
theorem wd152 {a0 : Array Value} {Z : State} (hw : Words a0 Z) : (Jvm.Cond.code ⟨"ShrinkRelocator", "bitCount", "(I)I"⟩ prog_1_method_39_code 3 (some .int)).before a0 Z = true := hw _ (List.mem_of_getElem? (i := 152) rfl)
theorem wd153 {a0 : Array Value} {Z : State} (hw : Words a0 Z) : (Jvm.Cond.constant "ShrinkRelocator" 144 1431655765).before a0 Z = true := hw _ (List.mem_of_getElem? (i := 153) rfl)
theorem wd154 {a0 : Array Value} {Z : State} (hw : Words a0 Z) : (Jvm.Cond.constant "ShrinkRelocator" 145 858993459).before a0 Z = true := hw _ (List.mem_of_getElem? (i := 154) rfl)
theorem wd155 {a0 : Array Value} {Z : State} (hw : Words a0 Z) : (Jvm.Cond.constant "ShrinkRelocator" 146 252645135).before a0 Z = true := hw _ (List.mem_of_getElem? (i := 155) rfl)
theorem wd156 {a0 : Array Value} {Z : State} (hw : Words a0 Z) : (Jvm.Cond.constant "ShrinkRelocator" 147 16843009).before a0 Z = true := hw _ (List.mem_of_getElem? (i := 156) rfl)
theorem wd157 {a0 : Array Value} {Z : State} (hw : Words a0 Z) : (Jvm.Cond.methodLink "ShrinkRelocatorL3" 31 ⟨"ShrinkRelocator", "pendingMoves", "()I"⟩).before a0 Z = true := hw _ (List.mem_of_getElem? (i := 157) rfl)
theorem wd158 {a0 : Array Value} {Z : State} (hw : Words a0 Z) : (Jvm.Cond.declares ⟨"ShrinkRelocator", "pendingMoves", "()I"⟩).before a0 Z = true := hw _ (List.mem_of_getElem? (i := 158) rfl)
theorem wd159 {a0 : Array Value} {Z : State} (hw : Words a0 Z) : (Jvm.Cond.instanceMethod ⟨"ShrinkRelocator", "pendingMoves", "()I"⟩).before a0 Z = true := hw _ (List.mem_of_getElem? (i := 159) rfl)
theorem wd160 {a0 : Array Value} {Z : State} (hw : Words a0 Z) : (Jvm.Cond.selects "ShrinkRelocator" ⟨"ShrinkRelocator", "pendingMoves", "()I"⟩ ⟨"ShrinkRelocator", "pendingMoves", "()I"⟩).before a0 Z = true := hw _ (List.mem_of_getElem? (i := 160) rfl)
theorem wd161 {a0 : Array Value} {Z : State} (hw : Words a0 Z) : (Jvm.Cond.code ⟨"ShrinkRelocator", "pendingMoves", "()I"⟩ prog_1_method_17_code 1 (some .int)).before a0 Z = true := hw _ (List.mem_of_getElem? (i := 161) rfl)
theorem wd162 {a0 : Array Value} {Z : State} (hw : Words a0 Z) : (Jvm.Cond.methodLink "ShrinkRelocator" 106 ⟨"ShrinkRelocator", "pendingCount", "()I"⟩).before a0 Z = true := hw _ (List.mem_of_getElem? (i := 162) rfl)
theorem wd163 {a0 : Array Value} {Z : State} (hw : Words a0 Z) : (Jvm.Cond.instanceMethod ⟨"ShrinkRelocator", "pendingCount", "()I"⟩).before a0 Z = true := hw _ (List.mem_of_getElem? (i := 163) rfl)
theorem wd164 {a0 : Array Value} {Z : State} (hw : Words a0 Z) : (Jvm.Cond.privateMethod ⟨"ShrinkRelocator", "pendingCount", "()I"⟩).before a0 Z = true := hw _ (List.mem_of_getElem? (i := 164) rfl)
theorem wd165 {a0 : Array Value} {Z : State} (hw : Words a0 Z) : (Jvm.Cond.code ⟨"ShrinkRelocator", "pendingCount", "()I"⟩ prog_1_method_43_code 2 (some .int)).before a0 Z = true := hw _ (List.mem_of_getElem? (i := 165) rfl)
theorem wd166 {a0 : Array Value} {Z : State} (hw : Words a0 Z) : (Jvm.Cond.methodLink "ShrinkRelocator" 157 ⟨"ShrinkRelocator", "usedFrom", "(I)I"⟩).before a0 Z = true := hw _ (List.mem_of_getElem? (i := 166) rfl)
theorem wd167 {a0 : Array Value} {Z : State} (hw : Words a0 Z) : (Jvm.Cond.instanceMethod ⟨"ShrinkRelocator", "usedFrom", "(I)I"⟩).before a0 Z = true := hw _ (List.mem_of_getElem? (i := 167) rfl)
theorem wd168 {a0 : Array Value} {Z : State} (hw : Words a0 Z) : (Jvm.Cond.privateMethod ⟨"ShrinkRelocator", "usedFrom", "(I)I"⟩).before a0 Z = true := hw _ (List.mem_of_getElem? (i := 168) rfl)
theorem wd169 {a0 : Array Value} {Z : State} (hw : Words a0 Z) : (Jvm.Cond.code ⟨"ShrinkRelocator", "usedFrom", "(I)I"⟩ prog_1_method_41_code 2 (some .int)).before a0 Z = true := hw _ (List.mem_of_getElem? (i := 169) rfl)
theorem wd170 {a0 : Array Value} {Z : State} (hw : Words a0 Z) : (Jvm.Cond.methodLink "ShrinkRelocatorL3" 34 ⟨"ShrinkRelocator", "step", "(I)I"⟩).before a0 Z = true := hw _ (List.mem_of_getElem? (i := 170) rfl)
theorem wd171 {a0 : Array Value} {Z : State} (hw : Words a0 Z) : (Jvm.Cond.declares ⟨"ShrinkRelocator", "step", "(I)I"⟩).before a0 Z = true := hw _ (List.mem_of_getElem? (i := 171) rfl)
theorem wd172 {a0 : Array Value} {Z : State} (hw : Words a0 Z) : (Jvm.Cond.instanceMethod ⟨"ShrinkRelocator", "step", "(I)I"⟩).before a0 Z = true := hw _ (List.mem_of_getElem? (i := 172) rfl)
theorem wd173 {a0 : Array Value} {Z : State} (hw : Words a0 Z) : (Jvm.Cond.selects "ShrinkRelocator" ⟨"ShrinkRelocator", "step", "(I)I"⟩ ⟨"ShrinkRelocator", "step", "(I)I"⟩).before a0 Z = true := hw _ (List.mem_of_getElem? (i := 173) rfl)
theorem wd174 {a0 : Array Value} {Z : State} (hw : Words a0 Z) : (Jvm.Cond.code ⟨"ShrinkRelocator", "step", "(I)I"⟩ prog_1_method_9_code 5 (some .int)).before a0 Z = true := hw _ (List.mem_of_getElem? (i := 174) rfl)
theorem wd175 {a0 : Array Value} {Z : State} (hw : Words a0 Z) : (Jvm.Cond.methodLink "ShrinkRelocator" 112 ⟨"ShrinkRelocator", "moveOne", "()Z"⟩).before a0 Z = true := hw _ (List.mem_of_getElem? (i := 175) rfl)
theorem wd176 {a0 : Array Value} {Z : State} (hw : Words a0 Z) : (Jvm.Cond.instanceMethod ⟨"ShrinkRelocator", "moveOne", "()Z"⟩).before a0 Z = true := hw _ (List.mem_of_getElem? (i := 176) rfl)
theorem wd177 {a0 : Array Value} {Z : State} (hw : Words a0 Z) : (Jvm.Cond.privateMethod ⟨"ShrinkRelocator", "moveOne", "()Z"⟩).before a0 Z = true := hw _ (List.mem_of_getElem? (i := 177) rfl)
theorem wd178 {a0 : Array Value} {Z : State} (hw : Words a0 Z) : (Jvm.Cond.code ⟨"ShrinkRelocator", "moveOne", "()Z"⟩ prog_1_method_45_code 7 (some .boolean)).before a0 Z = true := hw _ (List.mem_of_getElem? (i := 178) rfl)
theorem wd179 {a0 : Array Value} {Z : State} (hw : Words a0 Z) : (Jvm.Cond.methodLink "ShrinkRelocator" 160 ⟨"ShrinkRelocator", "copyBlock", "(II)V"⟩).before a0 Z = true := hw _ (List.mem_of_getElem? (i := 179) rfl)
theorem wd180 {a0 : Array Value} {Z : State} (hw : Words a0 Z) : (Jvm.Cond.instanceMethod ⟨"ShrinkRelocator", "copyBlock", "(II)V"⟩).before a0 Z = true := hw _ (List.mem_of_getElem? (i := 180) rfl)
theorem wd181 {a0 : Array Value} {Z : State} (hw : Words a0 Z) : (Jvm.Cond.privateMethod ⟨"ShrinkRelocator", "copyBlock", "(II)V"⟩).before a0 Z = true := hw _ (List.mem_of_getElem? (i := 181) rfl)
theorem wd182 {a0 : Array Value} {Z : State} (hw : Words a0 Z) : (Jvm.Cond.code ⟨"ShrinkRelocator", "copyBlock", "(II)V"⟩ prog_1_method_46_code 6 none).before a0 Z = true := hw _ (List.mem_of_getElem? (i := 182) rfl)
theorem wd183 {a0 : Array Value} {Z : State} (hw : Words a0 Z) : (Jvm.Cond.methodLink "ShrinkRelocator" 109 ⟨"ShrinkRelocator", "completeShrink", "()V"⟩).before a0 Z = true := hw _ (List.mem_of_getElem? (i := 183) rfl)
theorem wd184 {a0 : Array Value} {Z : State} (hw : Words a0 Z) : (Jvm.Cond.instanceMethod ⟨"ShrinkRelocator", "completeShrink", "()V"⟩).before a0 Z = true := hw _ (List.mem_of_getElem? (i := 184) rfl)
theorem wd185 {a0 : Array Value} {Z : State} (hw : Words a0 Z) : (Jvm.Cond.privateMethod ⟨"ShrinkRelocator", "completeShrink", "()V"⟩).before a0 Z = true := hw _ (List.mem_of_getElem? (i := 185) rfl)
theorem wd186 {a0 : Array Value} {Z : State} (hw : Words a0 Z) : (Jvm.Cond.code ⟨"ShrinkRelocator", "completeShrink", "()V"⟩ prog_1_method_44_code 1 none).before a0 Z = true := hw _ (List.mem_of_getElem? (i := 186) rfl)
theorem wd187 {a0 : Array Value} {Z : State} (hw : Words a0 Z) : (Jvm.Cond.methodLink "ShrinkRelocatorL3" 37 ⟨"ShrinkRelocator", "volumeBlocks", "()I"⟩).before a0 Z = true := hw _ (List.mem_of_getElem? (i := 187) rfl)
theorem wd188 {a0 : Array Value} {Z : State} (hw : Words a0 Z) : (Jvm.Cond.declares ⟨"ShrinkRelocator", "volumeBlocks", "()I"⟩).before a0 Z = true := hw _ (List.mem_of_getElem? (i := 188) rfl)
theorem wd189 {a0 : Array Value} {Z : State} (hw : Words a0 Z) : (Jvm.Cond.instanceMethod ⟨"ShrinkRelocator", "volumeBlocks", "()I"⟩).before a0 Z = true := hw _ (List.mem_of_getElem? (i := 189) rfl)
theorem wd190 {a0 : Array Value} {Z : State} (hw : Words a0 Z) : (Jvm.Cond.selects "ShrinkRelocator" ⟨"ShrinkRelocator", "volumeBlocks", "()I"⟩ ⟨"ShrinkRelocator", "volumeBlocks", "()I"⟩).before a0 Z = true := hw _ (List.mem_of_getElem? (i := 190) rfl)
theorem wd191 {a0 : Array Value} {Z : State} (hw : Words a0 Z) : (Jvm.Cond.code ⟨"ShrinkRelocator", "volumeBlocks", "()I"⟩ prog_1_method_11_code 1 (some .int)).before a0 Z = true := hw _ (List.mem_of_getElem? (i := 191) rfl)
theorem wd192 {a0 : Array Value} {Z : State} (hw : Words a0 Z) : (Jvm.Cond.methodLink "ShrinkRelocatorL3" 40 ⟨"ShrinkRelocator", "target", "()I"⟩).before a0 Z = true := hw _ (List.mem_of_getElem? (i := 192) rfl)
theorem wd193 {a0 : Array Value} {Z : State} (hw : Words a0 Z) : (Jvm.Cond.declares ⟨"ShrinkRelocator", "target", "()I"⟩).before a0 Z = true := hw _ (List.mem_of_getElem? (i := 193) rfl)
theorem wd194 {a0 : Array Value} {Z : State} (hw : Words a0 Z) : (Jvm.Cond.instanceMethod ⟨"ShrinkRelocator", "target", "()I"⟩).before a0 Z = true := hw _ (List.mem_of_getElem? (i := 194) rfl)
theorem wd195 {a0 : Array Value} {Z : State} (hw : Words a0 Z) : (Jvm.Cond.selects "ShrinkRelocator" ⟨"ShrinkRelocator", "target", "()I"⟩ ⟨"ShrinkRelocator", "target", "()I"⟩).before a0 Z = true := hw _ (List.mem_of_getElem? (i := 195) rfl)
theorem wd196 {a0 : Array Value} {Z : State} (hw : Words a0 Z) : (Jvm.Cond.code ⟨"ShrinkRelocator", "target", "()I"⟩ prog_1_method_12_code 1 (some .int)).before a0 Z = true := hw _ (List.mem_of_getElem? (i := 196) rfl)
theorem wd197 {a0 : Array Value} {Z : State} (hw : Words a0 Z) : (Jvm.Cond.methodLink "ShrinkRelocatorL3" 43 ⟨"ShrinkRelocator", "read", "(II)I"⟩).before a0 Z = true := hw _ (List.mem_of_getElem? (i := 197) rfl)
theorem wd198 {a0 : Array Value} {Z : State} (hw : Words a0 Z) : (Jvm.Cond.declares ⟨"ShrinkRelocator", "read", "(II)I"⟩).before a0 Z = true := hw _ (List.mem_of_getElem? (i := 198) rfl)
theorem wd199 {a0 : Array Value} {Z : State} (hw : Words a0 Z) : (Jvm.Cond.instanceMethod ⟨"ShrinkRelocator", "read", "(II)I"⟩).before a0 Z = true := hw _ (List.mem_of_getElem? (i := 199) rfl)
theorem wd200 {a0 : Array Value} {Z : State} (hw : Words a0 Z) : (Jvm.Cond.selects "ShrinkRelocator" ⟨"ShrinkRelocator", "read", "(II)I"⟩ ⟨"ShrinkRelocator", "read", "(II)I"⟩).before a0 Z = true := hw _ (List.mem_of_getElem? (i := 200) rfl)
theorem wd201 {a0 : Array Value} {Z : State} (hw : Words a0 Z) : (Jvm.Cond.code ⟨"ShrinkRelocator", "read", "(II)I"⟩ prog_1_method_6_code 3 (some .int)).before a0 Z = true := hw _ (List.mem_of_getElem? (i := 201) rfl)
theorem wd202 {a0 : Array Value} {Z : State} (hw : Words a0 Z) : (Jvm.Cond.methodLink "ShrinkRelocator" 98 ⟨"ShrinkRelocator", "loadAt", "(II)I"⟩).before a0 Z = true := hw _ (List.mem_of_getElem? (i := 202) rfl)
theorem wd203 {a0 : Array Value} {Z : State} (hw : Words a0 Z) : (Jvm.Cond.instanceMethod ⟨"ShrinkRelocator", "loadAt", "(II)I"⟩).before a0 Z = true := hw _ (List.mem_of_getElem? (i := 203) rfl)
theorem wd204 {a0 : Array Value} {Z : State} (hw : Words a0 Z) : (Jvm.Cond.privateMethod ⟨"ShrinkRelocator", "loadAt", "(II)I"⟩).before a0 Z = true := hw _ (List.mem_of_getElem? (i := 204) rfl)
theorem wd205 {a0 : Array Value} {Z : State} (hw : Words a0 Z) : (Jvm.Cond.code ⟨"ShrinkRelocator", "loadAt", "(II)I"⟩ prog_1_method_31_code 6 (some .int)).before a0 Z = true := hw _ (List.mem_of_getElem? (i := 205) rfl)
theorem wd206 {a0 : Array Value} {Z : State} (hw : Words a0 Z) : (Jvm.Cond.methodLink "ShrinkRelocatorL3" 46 ⟨"ShrinkRelocator", "size", "(I)I"⟩).before a0 Z = true := hw _ (List.mem_of_getElem? (i := 206) rfl)
theorem wd207 {a0 : Array Value} {Z : State} (hw : Words a0 Z) : (Jvm.Cond.declares ⟨"ShrinkRelocator", "size", "(I)I"⟩).before a0 Z = true := hw _ (List.mem_of_getElem? (i := 207) rfl)
theorem wd208 {a0 : Array Value} {Z : State} (hw : Words a0 Z) : (Jvm.Cond.instanceMethod ⟨"ShrinkRelocator", "size", "(I)I"⟩).before a0 Z = true := hw _ (List.mem_of_getElem? (i := 208) rfl)
theorem wd209 {a0 : Array Value} {Z : State} (hw : Words a0 Z) : (Jvm.Cond.selects "ShrinkRelocator" ⟨"ShrinkRelocator", "size", "(I)I"⟩ ⟨"ShrinkRelocator", "size", "(I)I"⟩).before a0 Z = true := hw _ (List.mem_of_getElem? (i := 209) rfl)
theorem wd210 {a0 : Array Value} {Z : State} (hw : Words a0 Z) : (Jvm.Cond.code ⟨"ShrinkRelocator", "size", "(I)I"⟩ prog_1_method_7_code 2 (some .int)).before a0 Z = true := hw _ (List.mem_of_getElem? (i := 210) rfl)
theorem wd211 {a0 : Array Value} {Z : State} (hw : Words a0 Z) : (Jvm.Cond.methodLink "ShrinkRelocatorL3" 49 ⟨"ShrinkRelocator", "extentCount", "(I)I"⟩).before a0 Z = true := hw _ (List.mem_of_getElem? (i := 211) rfl)
theorem wd212 {a0 : Array Value} {Z : State} (hw : Words a0 Z) : (Jvm.Cond.declares ⟨"ShrinkRelocator", "extentCount", "(I)I"⟩).before a0 Z = true := hw _ (List.mem_of_getElem? (i := 212) rfl)
theorem wd213 {a0 : Array Value} {Z : State} (hw : Words a0 Z) : (Jvm.Cond.instanceMethod ⟨"ShrinkRelocator", "extentCount", "(I)I"⟩).before a0 Z = true := hw _ (List.mem_of_getElem? (i := 213) rfl)
theorem wd214 {a0 : Array Value} {Z : State} (hw : Words a0 Z) : (Jvm.Cond.selects "ShrinkRelocator" ⟨"ShrinkRelocator", "extentCount", "(I)I"⟩ ⟨"ShrinkRelocator", "extentCount", "(I)I"⟩).before a0 Z = true := hw _ (List.mem_of_getElem? (i := 214) rfl)
theorem wd215 {a0 : Array Value} {Z : State} (hw : Words a0 Z) : (Jvm.Cond.code ⟨"ShrinkRelocator", "extentCount", "(I)I"⟩ prog_1_method_16_code 2 (some .int)).before a0 Z = true := hw _ (List.mem_of_getElem? (i := 215) rfl)
theorem wd216 {a0 : Array Value} {Z : State} (hw : Words a0 Z) : (Jvm.Cond.methodLink "ShrinkRelocator" 122 ⟨"ShrinkRelocator", "countExtents", "(I)I"⟩).before a0 Z = true := hw _ (List.mem_of_getElem? (i := 216) rfl)
theorem wd217 {a0 : Array Value} {Z : State} (hw : Words a0 Z) : (Jvm.Cond.instanceMethod ⟨"ShrinkRelocator", "countExtents", "(I)I"⟩).before a0 Z = true := hw _ (List.mem_of_getElem? (i := 217) rfl)
theorem wd218 {a0 : Array Value} {Z : State} (hw : Words a0 Z) : (Jvm.Cond.privateMethod ⟨"ShrinkRelocator", "countExtents", "(I)I"⟩).before a0 Z = true := hw _ (List.mem_of_getElem? (i := 218) rfl)
theorem wd219 {a0 : Array Value} {Z : State} (hw : Words a0 Z) : (Jvm.Cond.code ⟨"ShrinkRelocator", "countExtents", "(I)I"⟩ prog_1_method_26_code 6 (some .int)).before a0 Z = true := hw _ (List.mem_of_getElem? (i := 219) rfl)
theorem wd220 {a0 : Array Value} {Z : State} (hw : Words a0 Z) : (Jvm.Cond.methodLink "ShrinkRelocatorL3" 52 ⟨"ShrinkRelocator", "freeBlocks", "()I"⟩).before a0 Z = true := hw _ (List.mem_of_getElem? (i := 220) rfl)
theorem wd221 {a0 : Array Value} {Z : State} (hw : Words a0 Z) : (Jvm.Cond.declares ⟨"ShrinkRelocator", "freeBlocks", "()I"⟩).before a0 Z = true := hw _ (List.mem_of_getElem? (i := 221) rfl)
theorem wd222 {a0 : Array Value} {Z : State} (hw : Words a0 Z) : (Jvm.Cond.instanceMethod ⟨"ShrinkRelocator", "freeBlocks", "()I"⟩).before a0 Z = true := hw _ (List.mem_of_getElem? (i := 222) rfl)
theorem wd223 {a0 : Array Value} {Z : State} (hw : Words a0 Z) : (Jvm.Cond.selects "ShrinkRelocator" ⟨"ShrinkRelocator", "freeBlocks", "()I"⟩ ⟨"ShrinkRelocator", "freeBlocks", "()I"⟩).before a0 Z = true := hw _ (List.mem_of_getElem? (i := 223) rfl)
theorem wd224 {a0 : Array Value} {Z : State} (hw : Words a0 Z) : (Jvm.Cond.code ⟨"ShrinkRelocator", "freeBlocks", "()I"⟩ prog_1_method_13_code 1 (some .int)).before a0 Z = true := hw _ (List.mem_of_getElem? (i := 224) rfl)
theorem wd225 {a0 : Array Value} {Z : State} (hw : Words a0 Z) : (Jvm.Cond.methodLink "ShrinkRelocatorL3" 55 ⟨"ShrinkRelocator", "blockOwner", "(I)I"⟩).before a0 Z = true := hw _ (List.mem_of_getElem? (i := 225) rfl)
theorem wd226 {a0 : Array Value} {Z : State} (hw : Words a0 Z) : (Jvm.Cond.declares ⟨"ShrinkRelocator", "blockOwner", "(I)I"⟩).before a0 Z = true := hw _ (List.mem_of_getElem? (i := 226) rfl)
theorem wd227 {a0 : Array Value} {Z : State} (hw : Words a0 Z) : (Jvm.Cond.instanceMethod ⟨"ShrinkRelocator", "blockOwner", "(I)I"⟩).before a0 Z = true := hw _ (List.mem_of_getElem? (i := 227) rfl)
theorem wd228 {a0 : Array Value} {Z : State} (hw : Words a0 Z) : (Jvm.Cond.selects "ShrinkRelocator" ⟨"ShrinkRelocator", "blockOwner", "(I)I"⟩ ⟨"ShrinkRelocator", "blockOwner", "(I)I"⟩).before a0 Z = true := hw _ (List.mem_of_getElem? (i := 228) rfl)
theorem wd229 {a0 : Array Value} {Z : State} (hw : Words a0 Z) : (Jvm.Cond.code ⟨"ShrinkRelocator", "blockOwner", "(I)I"⟩ prog_1_method_14_code 2 (some .int)).before a0 Z = true := hw _ (List.mem_of_getElem? (i := 229) rfl)
theorem wd230 {a0 : Array Value} {Z : State} (hw : Words a0 Z) : (Jvm.Cond.methodLink "ShrinkRelocator" 116 ⟨"ShrinkRelocator", "isAllocated", "(I)Z"⟩).before a0 Z = true := hw _ (List.mem_of_getElem? (i := 230) rfl)
theorem wd231 {a0 : Array Value} {Z : State} (hw : Words a0 Z) : (Jvm.Cond.instanceMethod ⟨"ShrinkRelocator", "isAllocated", "(I)Z"⟩).before a0 Z = true := hw _ (List.mem_of_getElem? (i := 231) rfl)
theorem wd232 {a0 : Array Value} {Z : State} (hw : Words a0 Z) : (Jvm.Cond.privateMethod ⟨"ShrinkRelocator", "isAllocated", "(I)Z"⟩).before a0 Z = true := hw _ (List.mem_of_getElem? (i := 232) rfl)
theorem wd233 {a0 : Array Value} {Z : State} (hw : Words a0 Z) : (Jvm.Cond.code ⟨"ShrinkRelocator", "isAllocated", "(I)Z"⟩ prog_1_method_33_code 2 (some .boolean)).before a0 Z = true := hw _ (List.mem_of_getElem? (i := 233) rfl)
theorem pnC : plainName CN = true := by first | (simp [CN, plainName, overriddenIn]; done) | decide +kernel
theorem pnL : plainName x.cls = true := by first | (simp [x, plainName, overriddenIn]; done) | decide +kernel
set_option maxRecDepth 65536 in
theorem ca_1 {a0 : Array Value} {Z : State} (hw : Words a0 Z) : CA a0 Z CN nI FF := by
  refine ⟨fun k e hk => ?_, distF_ok (by decide +kernel), (wd1 hw)⟩
  match k, hk with
  | 0, hk => have q : e = ("blockCap", "I", .int, 0) := (Option.some.inj (Option.some.inj hk)).symm; subst q; exact ⟨Or.inr (wd10 hw), rfl, by decide +kernel⟩
  | 1, hk => have q : e = ("byteCap", "I", .int, 0) := (Option.some.inj (Option.some.inj hk)).symm; subst q; exact ⟨Or.inr (wd12 hw), rfl, by decide +kernel⟩
  | 2, hk => have q : e = ("fileCap", "I", .int, 0) := (Option.some.inj (Option.some.inj hk)).symm; subst q; exact ⟨Or.inr (wd14 hw), rfl, by decide +kernel⟩
  | 3, hk => have q : e = ("none", "I", .int, 0) := (Option.some.inj (Option.some.inj hk)).symm; subst q; exact ⟨Or.inr (wd16 hw), rfl, by decide +kernel⟩
  | 4, hk => have q : e = ("volBlocks", "I", .int, 0) := (Option.some.inj (Option.some.inj hk)).symm; subst q; exact ⟨Or.inl (wd36 hw), rfl, by decide +kernel⟩
  | 5, hk => have q : e = ("blockSize", "I", .int, 0) := (Option.some.inj (Option.some.inj hk)).symm; subst q; exact ⟨Or.inl (wd38 hw), rfl, by decide +kernel⟩
  | 6, hk => have q : e = ("fileSlots", "I", .int, 0) := (Option.some.inj (Option.some.inj hk)).symm; subst q; exact ⟨Or.inl (wd40 hw), rfl, by decide +kernel⟩
  | 7, hk => have q : e = ("shrinking", "Z", .boolean, 0) := (Option.some.inj (Option.some.inj hk)).symm; subst q; exact ⟨Or.inl (wd42 hw), rfl, by decide +kernel⟩
  | 8, hk => have q : e = ("shrinkTarget", "I", .int, 0) := (Option.some.inj (Option.some.inj hk)).symm; subst q; exact ⟨Or.inl (wd44 hw), rfl, by decide +kernel⟩
  | 9, hk => have q : e = ("allocMask", "I", .int, 0) := (Option.some.inj (Option.some.inj hk)).symm; subst q; exact ⟨Or.inl (wd46 hw), rfl, by decide +kernel⟩
  | 10, hk => have q : e = ("slotUsed", "[Z", .boolean, 8) := (Option.some.inj (Option.some.inj hk)).symm; subst q; exact ⟨Or.inr (wd19 hw), rfl, by decide +kernel⟩
  | 11, hk => have q : e = ("fileSize", "[I", .int, 8) := (Option.some.inj (Option.some.inj hk)).symm; subst q; exact ⟨Or.inr (wd22 hw), rfl, by decide +kernel⟩
  | 12, hk => have q : e = ("fileMap", "[I", .int, 256) := (Option.some.inj (Option.some.inj hk)).symm; subst q; exact ⟨Or.inr (wd24 hw), rfl, by decide +kernel⟩
  | 13, hk => have q : e = ("ownerFile", "[I", .int, 32) := (Option.some.inj (Option.some.inj hk)).symm; subst q; exact ⟨Or.inr (wd26 hw), rfl, by decide +kernel⟩
  | 14, hk => have q : e = ("ownerIndex", "[I", .int, 32) := (Option.some.inj (Option.some.inj hk)).symm; subst q; exact ⟨Or.inr (wd28 hw), rfl, by decide +kernel⟩
  | 15, hk => have q : e = ("bytes", "[I", .int, 256) := (Option.some.inj (Option.some.inj hk)).symm; subst q; exact ⟨Or.inr (wd30 hw), rfl, by decide +kernel⟩
  | j + 16, hk => exact nomatch hk
theorem kb_1 {a0 : Array Value} {Z : State} (hw : Words a0 Z) : KB a0 Z CN nI FF (posF PP) nA := ⟨ca_1 hw, posF_lt (by decide +kernel) (by decide), seqF_inj (by decide +kernel)⟩
def clamp_I : Mi := (⟨"ShrinkRelocator", "clamp", "(III)I"⟩, prog_1_method_18_code, 4, (some .int), 0, 0)
theorem clamp_d0 : decode clamp_I.2.1 0 = .ok (.iload_n 1, 1) := by decide +kernel
theorem clamp_d1 : decode clamp_I.2.1 1 = .ok (.iload_n 2, 1) := by decide +kernel
theorem clamp_d2 : decode clamp_I.2.1 2 = .ok (.if_icmp .ge 5, 3) := by decide +kernel
theorem clamp_d5 : decode clamp_I.2.1 5 = .ok (.iload_n 2, 1) := by decide +kernel
theorem clamp_d6 : decode clamp_I.2.1 6 = .ok (.ireturn, 1) := by decide +kernel
theorem clamp_d7 : decode clamp_I.2.1 7 = .ok (.iload_n 1, 1) := by decide +kernel
theorem clamp_d8 : decode clamp_I.2.1 8 = .ok (.iload_n 3, 1) := by decide +kernel
theorem clamp_d9 : decode clamp_I.2.1 9 = .ok (.if_icmp .le 5, 3) := by decide +kernel
theorem clamp_d12 : decode clamp_I.2.1 12 = .ok (.iload_n 3, 1) := by decide +kernel
theorem clamp_d13 : decode clamp_I.2.1 13 = .ok (.ireturn, 1) := by decide +kernel
theorem clamp_d14 : decode clamp_I.2.1 14 = .ok (.iload_n 1, 1) := by decide +kernel
theorem clamp_d15 : decode clamp_I.2.1 15 = .ok (.ireturn, 1) := by decide +kernel
theorem clamp_p : parseMethodDescriptor clamp_I.1.desc = some ⟨[.int, .int, .int], (some .int)⟩ := by decide +kernel
theorem clamp_K {a0 : Array Value} {Z : State} {M : Mi} (hw : Words a0 Z) (h : clamp_I.2.2.2.2.1 + 1 ≤ M.2.2.2.2.1) : Callee a0 Z M clamp_I 3 := ⟨pnC, (wd34 hw), (wd2 hw), h, by decide, fun sig q => by cases clamp_p.symm.trans q; rfl⟩
set_option maxRecDepth 65536 in
set_option maxHeartbeats 4000000 in
theorem clamp_M_ok {l : Launch} {Z : State} {a0 : Array Value} {n0 : Nat} {cv : Nat → Nat} {h0 : Heap} (hw : Words a0 Z) (K : KA a0 Z n0 CN nI FF cv) (x1 : Int) (x2 : Int) (x3 : Int) (s : Obj) : GQ (XA l Z n0 CN FF cv h0) clamp_I 0 0 0 (entry [Rf 0, I x1, I x2, I x3] clamp_I.2.2.1) [] s (clamp_M x1 x2 x3 s) := by
  show GQ _ _ _ _ 0 [some (Rf 0), some (I x1), some (I x2), some (I x3)] [] _ _
  unfold clamp_M
  refine GQ.iloadN (pc' := 1) clamp_d0 rfl rfl ?_
  refine GQ.iloadN (pc' := 2) clamp_d1 rfl rfl ?_
  refine GQ.icmpF (pcT := 7) (pcF := 5) h_ge clamp_d2 rfl rfl rfl ?_ ?_
  · refine GQ.iloadN (pc' := 8) clamp_d7 rfl rfl ?_
    refine GQ.iloadN (pc' := 9) clamp_d8 rfl rfl ?_
    refine GQ.icmpF (pcT := 14) (pcF := 12) h_le clamp_d9 rfl rfl rfl ?_ ?_
    · refine GQ.iloadN (pc' := 15) clamp_d14 rfl rfl ?_
      exact GQ.iret rfl clamp_d15
    refine GQ.iloadN (pc' := 13) clamp_d12 rfl rfl ?_
    exact GQ.iret rfl clamp_d13
  refine GQ.iloadN (pc' := 6) clamp_d5 rfl rfl ?_
  exact GQ.iret rfl clamp_d6
def resetBlockTables_I : Mi := (⟨"ShrinkRelocator", "resetBlockTables", "()V"⟩, prog_1_method_19_code, 2, none, 0, 0)
theorem resetBlockTables_d0 : decode resetBlockTables_I.2.1 0 = .ok (.iconst 0, 1) := by decide +kernel
theorem resetBlockTables_d1 : decode resetBlockTables_I.2.1 1 = .ok (.istore_n 1, 1) := by decide +kernel
theorem resetBlockTables_d2 : decode resetBlockTables_I.2.1 2 = .ok (.iload_n 1, 1) := by decide +kernel
theorem resetBlockTables_d3 : decode resetBlockTables_I.2.1 3 = .ok (.bipush 32, 2) := by decide +kernel
theorem resetBlockTables_d5 : decode resetBlockTables_I.2.1 5 = .ok (.if_icmp .ge 23, 3) := by decide +kernel
theorem resetBlockTables_d8 : decode resetBlockTables_I.2.1 8 = .ok (.aload_n 0, 1) := by decide +kernel
theorem resetBlockTables_d9 : decode resetBlockTables_I.2.1 9 = .ok (.getfield 33, 3) := by decide +kernel
theorem resetBlockTables_d12 : decode resetBlockTables_I.2.1 12 = .ok (.iload_n 1, 1) := by decide +kernel
theorem resetBlockTables_d13 : decode resetBlockTables_I.2.1 13 = .ok (.iconst (-1), 1) := by decide +kernel
theorem resetBlockTables_d14 : decode resetBlockTables_I.2.1 14 = .ok (.iastore, 1) := by decide +kernel
theorem resetBlockTables_d15 : decode resetBlockTables_I.2.1 15 = .ok (.aload_n 0, 1) := by decide +kernel
theorem resetBlockTables_d16 : decode resetBlockTables_I.2.1 16 = .ok (.getfield 36, 3) := by decide +kernel
theorem resetBlockTables_d19 : decode resetBlockTables_I.2.1 19 = .ok (.iload_n 1, 1) := by decide +kernel
theorem resetBlockTables_d20 : decode resetBlockTables_I.2.1 20 = .ok (.iconst (-1), 1) := by decide +kernel
theorem resetBlockTables_d21 : decode resetBlockTables_I.2.1 21 = .ok (.iastore, 1) := by decide +kernel
theorem resetBlockTables_d22 : decode resetBlockTables_I.2.1 22 = .ok (.iinc 1 1, 3) := by decide +kernel
theorem resetBlockTables_d25 : decode resetBlockTables_I.2.1 25 = .ok (.goto (-23), 3) := by decide +kernel
theorem resetBlockTables_d28 : decode resetBlockTables_I.2.1 28 = .ok (.iconst 0, 1) := by decide +kernel
theorem resetBlockTables_d29 : decode resetBlockTables_I.2.1 29 = .ok (.istore_n 1, 1) := by decide +kernel
theorem resetBlockTables_d30 : decode resetBlockTables_I.2.1 30 = .ok (.iload_n 1, 1) := by decide +kernel
theorem resetBlockTables_d31 : decode resetBlockTables_I.2.1 31 = .ok (.sipush 256, 3) := by decide +kernel
theorem resetBlockTables_d34 : decode resetBlockTables_I.2.1 34 = .ok (.if_icmp .ge 16, 3) := by decide +kernel
theorem resetBlockTables_d37 : decode resetBlockTables_I.2.1 37 = .ok (.aload_n 0, 1) := by decide +kernel
theorem resetBlockTables_d38 : decode resetBlockTables_I.2.1 38 = .ok (.getfield 39, 3) := by decide +kernel
theorem resetBlockTables_d41 : decode resetBlockTables_I.2.1 41 = .ok (.iload_n 1, 1) := by decide +kernel
theorem resetBlockTables_d42 : decode resetBlockTables_I.2.1 42 = .ok (.iconst 0, 1) := by decide +kernel
theorem resetBlockTables_d43 : decode resetBlockTables_I.2.1 43 = .ok (.iastore, 1) := by decide +kernel
theorem resetBlockTables_d44 : decode resetBlockTables_I.2.1 44 = .ok (.iinc 1 1, 3) := by decide +kernel
theorem resetBlockTables_d47 : decode resetBlockTables_I.2.1 47 = .ok (.goto (-17), 3) := by decide +kernel
theorem resetBlockTables_d50 : decode resetBlockTables_I.2.1 50 = .ok (.return_, 1) := by decide +kernel
theorem resetBlockTables_p : parseMethodDescriptor resetBlockTables_I.1.desc = some ⟨[], none⟩ := by decide +kernel
theorem resetBlockTables_K {a0 : Array Value} {Z : State} {M : Mi} (hw : Words a0 Z) (h : resetBlockTables_I.2.2.2.2.1 + 1 ≤ M.2.2.2.2.1) : Callee a0 Z M resetBlockTables_I 0 := ⟨pnC, (wd50 hw), (wd2 hw), h, by decide, fun sig q => by cases resetBlockTables_p.symm.trans q; rfl⟩
set_option maxRecDepth 65536 in
set_option maxHeartbeats 4000000 in
theorem resetBlockTables_l2b_ok {l : Launch} {Z : State} {a0 : Array Value} {n0 : Nat} {cv : Nat → Nat} {h0 : Heap} (hw : Words a0 Z) (K : KA a0 Z n0 CN nI FF cv) {k28 : Obj → Option (Int × Obj)} (hk28 : ∀  (s : Obj), GQ (XA l Z n0 CN FF cv h0) resetBlockTables_I 0 0 28 [some (Rf 0), none] [] s (k28 s)) {rec : Int → Obj → Option (Int × Obj)} (hrec : ∀ (x1 : Int) (s : Obj), GQ (XA l Z n0 CN FF cv h0) resetBlockTables_I 0 0 2 [some (Rf 0), some (I x1)] [] s (rec x1 s)) (x1 : Int) (s : Obj) : GQ (XA l Z n0 CN FF cv h0) resetBlockTables_I 0 0 2 [some (Rf 0), some (I x1)] [] s (resetBlockTables_l2b k28 rec x1 s) := by
  unfold resetBlockTables_l2b
  refine GQ.iloadN (pc' := 3) resetBlockTables_d2 rfl rfl ?_
  refine GQ.bipush (pc' := 5) resetBlockTables_d3 rfl rfl ?_
  refine GQ.icmpF (pcT := 28) (pcF := 8) h_ge resetBlockTables_d5 rfl rfl rfl ?_ ?_
  · refine GQ.weak (L' := [some (Rf 0), none]) (Sub.keep (Sub.drop Sub.nil)) ?_
    exact hk28 s
  refine GQ.aloadN (pc' := 9) resetBlockTables_d8 rfl rfl ?_
  refine GQ.getA (M := resetBlockTables_I) (k := 13) (pc' := 12) rfl (by decide) (wd25 hw) resetBlockTables_d9 rfl ?_
  refine GQ.iloadN (pc' := 13) resetBlockTables_d12 rfl rfl ?_
  refine GQ.iconst (pc' := 14) resetBlockTables_d13 rfl rfl ?_
  refine GQ.wr (k := 13) (ins := .iastore) (pc' := 15) K rfl (by decide) (Or.inl ⟨rfl, rfl⟩) resetBlockTables_d14 rfl (fun s14 => ?_)
  refine GQ.aloadN (pc' := 16) resetBlockTables_d15 rfl rfl ?_
  refine GQ.getA (M := resetBlockTables_I) (k := 14) (pc' := 19) rfl (by decide) (wd27 hw) resetBlockTables_d16 rfl ?_
  refine GQ.iloadN (pc' := 20) resetBlockTables_d19 rfl rfl ?_
  refine GQ.iconst (pc' := 21) resetBlockTables_d20 rfl rfl ?_
  refine GQ.wr (k := 14) (ins := .iastore) (pc' := 22) K rfl (by decide) (Or.inl ⟨rfl, rfl⟩) resetBlockTables_d21 rfl (fun s21 => ?_)
  refine GQ.iinc (L' := [some (Rf 0), some (I (aAdd x1 1))]) (pc' := 25) resetBlockTables_d22 rfl rfl rfl rfl ?_
  refine GQ.goto (pc' := 2) resetBlockTables_d25 rfl rfl ?_
  exact hrec (aAdd x1 1) s21
set_option maxRecDepth 65536 in
set_option maxHeartbeats 4000000 in
theorem resetBlockTables_l2_ok {l : Launch} {Z : State} {a0 : Array Value} {n0 : Nat} {cv : Nat → Nat} {h0 : Heap} (hw : Words a0 Z) (K : KA a0 Z n0 CN nI FF cv) {k28 : Obj → Option (Int × Obj)} (hk28 : ∀  (s : Obj), GQ (XA l Z n0 CN FF cv h0) resetBlockTables_I 0 0 28 [some (Rf 0), none] [] s (k28 s)) : ∀ (fu : Nat) (x1 : Int) (s : Obj), GQ (XA l Z n0 CN FF cv h0) resetBlockTables_I 0 0 2 [some (Rf 0), some (I x1)] [] s (resetBlockTables_l2 k28 fu x1 s)
  | 0 => fun _ _ => GQ.no
  | fu + 1 => resetBlockTables_l2b_ok hw K hk28 (resetBlockTables_l2_ok hw K hk28 fu)
set_option maxRecDepth 65536 in
set_option maxHeartbeats 4000000 in
theorem resetBlockTables_l30b_ok {l : Launch} {Z : State} {a0 : Array Value} {n0 : Nat} {cv : Nat → Nat} {h0 : Heap} (hw : Words a0 Z) (K : KA a0 Z n0 CN nI FF cv) {rec : Int → Obj → Option (Int × Obj)} (hrec : ∀ (x1 : Int) (s : Obj), GQ (XA l Z n0 CN FF cv h0) resetBlockTables_I 0 0 30 [some (Rf 0), some (I x1)] [] s (rec x1 s)) (x1 : Int) (s : Obj) : GQ (XA l Z n0 CN FF cv h0) resetBlockTables_I 0 0 30 [some (Rf 0), some (I x1)] [] s (resetBlockTables_l30b rec x1 s) := by
  unfold resetBlockTables_l30b
  refine GQ.iloadN (pc' := 31) resetBlockTables_d30 rfl rfl ?_
  refine GQ.sipush (pc' := 34) resetBlockTables_d31 rfl rfl ?_
  refine GQ.icmpF (pcT := 50) (pcF := 37) h_ge resetBlockTables_d34 rfl rfl rfl ?_ ?_
  · exact GQ.ret rfl resetBlockTables_d50
  refine GQ.aloadN (pc' := 38) resetBlockTables_d37 rfl rfl ?_
  refine GQ.getA (M := resetBlockTables_I) (k := 15) (pc' := 41) rfl (by decide) (wd29 hw) resetBlockTables_d38 rfl ?_
  refine GQ.iloadN (pc' := 42) resetBlockTables_d41 rfl rfl ?_
  refine GQ.iconst (pc' := 43) resetBlockTables_d42 rfl rfl ?_
  refine GQ.wr (k := 15) (ins := .iastore) (pc' := 44) K rfl (by decide) (Or.inl ⟨rfl, rfl⟩) resetBlockTables_d43 rfl (fun s43 => ?_)
  refine GQ.iinc (L' := [some (Rf 0), some (I (aAdd x1 1))]) (pc' := 47) resetBlockTables_d44 rfl rfl rfl rfl ?_
  refine GQ.goto (pc' := 30) resetBlockTables_d47 rfl rfl ?_
  exact hrec (aAdd x1 1) s43
set_option maxRecDepth 65536 in
set_option maxHeartbeats 4000000 in
theorem resetBlockTables_l30_ok {l : Launch} {Z : State} {a0 : Array Value} {n0 : Nat} {cv : Nat → Nat} {h0 : Heap} (hw : Words a0 Z) (K : KA a0 Z n0 CN nI FF cv) : ∀ (fu : Nat) (x1 : Int) (s : Obj), GQ (XA l Z n0 CN FF cv h0) resetBlockTables_I 0 0 30 [some (Rf 0), some (I x1)] [] s (resetBlockTables_l30 fu x1 s)
  | 0 => fun _ _ => GQ.no
  | fu + 1 => resetBlockTables_l30b_ok hw K (resetBlockTables_l30_ok hw K fu)
set_option maxRecDepth 65536 in
set_option maxHeartbeats 4000000 in
theorem resetBlockTables_M_ok {l : Launch} {Z : State} {a0 : Array Value} {n0 : Nat} {cv : Nat → Nat} {h0 : Heap} (hw : Words a0 Z) (K : KA a0 Z n0 CN nI FF cv) (s : Obj) : GQ (XA l Z n0 CN FF cv h0) resetBlockTables_I 0 0 0 (entry [Rf 0] resetBlockTables_I.2.2.1) [] s (resetBlockTables_M s) := by
  show GQ _ _ _ _ 0 [some (Rf 0), none] [] _ _
  unfold resetBlockTables_M
  refine GQ.iconst (pc' := 1) resetBlockTables_d0 rfl rfl ?_
  refine GQ.istoreN (L' := [some (Rf 0), some (I 0)]) (pc' := 2) resetBlockTables_d1 rfl rfl rfl ?_
  refine resetBlockTables_l2_ok hw K  (fun s28 => ?_) FU 0 s
  refine GQ.iconst (pc' := 29) resetBlockTables_d28 rfl rfl ?_
  refine GQ.istoreN (L' := [some (Rf 0), some (I 0)]) (pc' := 30) resetBlockTables_d29 rfl rfl rfl ?_
  exact resetBlockTables_l30_ok hw K  FU 0 s28
def clearMapRow_I : Mi := (⟨"ShrinkRelocator", "clearMapRow", "(I)V"⟩, prog_1_method_21_code, 3, none, 0, 0)
theorem clearMapRow_d0 : decode clearMapRow_I.2.1 0 = .ok (.iload_n 1, 1) := by decide +kernel
theorem clearMapRow_d1 : decode clearMapRow_I.2.1 1 = .ok (.ifCond .lt 9, 3) := by decide +kernel
theorem clearMapRow_d4 : decode clearMapRow_I.2.1 4 = .ok (.iload_n 1, 1) := by decide +kernel
theorem clearMapRow_d5 : decode clearMapRow_I.2.1 5 = .ok (.bipush 8, 2) := by decide +kernel
theorem clearMapRow_d7 : decode clearMapRow_I.2.1 7 = .ok (.if_icmp .lt 4, 3) := by decide +kernel
theorem clearMapRow_d10 : decode clearMapRow_I.2.1 10 = .ok (.return_, 1) := by decide +kernel
theorem clearMapRow_d11 : decode clearMapRow_I.2.1 11 = .ok (.iconst 0, 1) := by decide +kernel
theorem clearMapRow_d12 : decode clearMapRow_I.2.1 12 = .ok (.istore_n 2, 1) := by decide +kernel
theorem clearMapRow_d13 : decode clearMapRow_I.2.1 13 = .ok (.iload_n 2, 1) := by decide +kernel
theorem clearMapRow_d14 : decode clearMapRow_I.2.1 14 = .ok (.bipush 32, 2) := by decide +kernel
theorem clearMapRow_d16 : decode clearMapRow_I.2.1 16 = .ok (.if_icmp .ge 21, 3) := by decide +kernel
theorem clearMapRow_d19 : decode clearMapRow_I.2.1 19 = .ok (.aload_n 0, 1) := by decide +kernel
theorem clearMapRow_d20 : decode clearMapRow_I.2.1 20 = .ok (.getfield 30, 3) := by decide +kernel
theorem clearMapRow_d23 : decode clearMapRow_I.2.1 23 = .ok (.iload_n 1, 1) := by decide +kernel
theorem clearMapRow_d24 : decode clearMapRow_I.2.1 24 = .ok (.bipush 32, 2) := by decide +kernel
theorem clearMapRow_d26 : decode clearMapRow_I.2.1 26 = .ok (.imul, 1) := by decide +kernel
theorem clearMapRow_d27 : decode clearMapRow_I.2.1 27 = .ok (.iload_n 2, 1) := by decide +kernel
theorem clearMapRow_d28 : decode clearMapRow_I.2.1 28 = .ok (.iadd, 1) := by decide +kernel
theorem clearMapRow_d29 : decode clearMapRow_I.2.1 29 = .ok (.iconst (-1), 1) := by decide +kernel
theorem clearMapRow_d30 : decode clearMapRow_I.2.1 30 = .ok (.iastore, 1) := by decide +kernel
theorem clearMapRow_d31 : decode clearMapRow_I.2.1 31 = .ok (.iinc 2 1, 3) := by decide +kernel
theorem clearMapRow_d34 : decode clearMapRow_I.2.1 34 = .ok (.goto (-21), 3) := by decide +kernel
theorem clearMapRow_d37 : decode clearMapRow_I.2.1 37 = .ok (.return_, 1) := by decide +kernel
theorem clearMapRow_p : parseMethodDescriptor clearMapRow_I.1.desc = some ⟨[.int], none⟩ := by decide +kernel
theorem clearMapRow_K {a0 : Array Value} {Z : State} {M : Mi} (hw : Words a0 Z) (h : clearMapRow_I.2.2.2.2.1 + 1 ≤ M.2.2.2.2.1) : Callee a0 Z M clearMapRow_I 1 := ⟨pnC, (wd58 hw), (wd2 hw), h, by decide, fun sig q => by cases clearMapRow_p.symm.trans q; rfl⟩
set_option maxRecDepth 65536 in
set_option maxHeartbeats 4000000 in
theorem clearMapRow_l13b_ok {l : Launch} {Z : State} {a0 : Array Value} {n0 : Nat} {cv : Nat → Nat} {h0 : Heap} (hw : Words a0 Z) (K : KA a0 Z n0 CN nI FF cv) (x1 : Int) {rec : Int → Obj → Option (Int × Obj)} (hrec : ∀ (x2 : Int) (s : Obj), GQ (XA l Z n0 CN FF cv h0) clearMapRow_I 0 0 13 [some (Rf 0), some (I x1), some (I x2)] [] s (rec x2 s)) (x2 : Int) (s : Obj) : GQ (XA l Z n0 CN FF cv h0) clearMapRow_I 0 0 13 [some (Rf 0), some (I x1), some (I x2)] [] s (clearMapRow_l13b x1 rec x2 s) := by
  unfold clearMapRow_l13b
  refine GQ.iloadN (pc' := 14) clearMapRow_d13 rfl rfl ?_
  refine GQ.bipush (pc' := 16) clearMapRow_d14 rfl rfl ?_
  refine GQ.icmpF (pcT := 37) (pcF := 19) h_ge clearMapRow_d16 rfl rfl rfl ?_ ?_
  · exact GQ.ret rfl clearMapRow_d37
  refine GQ.aloadN (pc' := 20) clearMapRow_d19 rfl rfl ?_
  refine GQ.getA (M := clearMapRow_I) (k := 12) (pc' := 23) rfl (by decide) (wd23 hw) clearMapRow_d20 rfl ?_
  refine GQ.iloadN (pc' := 24) clearMapRow_d23 rfl rfl ?_
  refine GQ.bipush (pc' := 26) clearMapRow_d24 rfl rfl ?_
  refine GQ.imul (pc' := 27) clearMapRow_d26 rfl ?_
  refine GQ.iloadN (pc' := 28) clearMapRow_d27 rfl rfl ?_
  refine GQ.iadd (pc' := 29) clearMapRow_d28 rfl ?_
  refine GQ.iconst (pc' := 30) clearMapRow_d29 rfl rfl ?_
  refine GQ.wr (k := 12) (ins := .iastore) (pc' := 31) K rfl (by decide) (Or.inl ⟨rfl, rfl⟩) clearMapRow_d30 rfl (fun s30 => ?_)
  refine GQ.iinc (L' := [some (Rf 0), some (I x1), some (I (aAdd x2 1))]) (pc' := 34) clearMapRow_d31 rfl rfl rfl rfl ?_
  refine GQ.goto (pc' := 13) clearMapRow_d34 rfl rfl ?_
  exact hrec (aAdd x2 1) s30
set_option maxRecDepth 65536 in
set_option maxHeartbeats 4000000 in
theorem clearMapRow_l13_ok {l : Launch} {Z : State} {a0 : Array Value} {n0 : Nat} {cv : Nat → Nat} {h0 : Heap} (hw : Words a0 Z) (K : KA a0 Z n0 CN nI FF cv) (x1 : Int) : ∀ (fu : Nat) (x2 : Int) (s : Obj), GQ (XA l Z n0 CN FF cv h0) clearMapRow_I 0 0 13 [some (Rf 0), some (I x1), some (I x2)] [] s (clearMapRow_l13 x1 fu x2 s)
  | 0 => fun _ _ => GQ.no
  | fu + 1 => clearMapRow_l13b_ok hw K x1 (clearMapRow_l13_ok hw K x1 fu)
set_option maxRecDepth 65536 in
set_option maxHeartbeats 4000000 in
theorem clearMapRow_M_ok {l : Launch} {Z : State} {a0 : Array Value} {n0 : Nat} {cv : Nat → Nat} {h0 : Heap} (hw : Words a0 Z) (K : KA a0 Z n0 CN nI FF cv) (x1 : Int) (s : Obj) : GQ (XA l Z n0 CN FF cv h0) clearMapRow_I 0 0 0 (entry [Rf 0, I x1] clearMapRow_I.2.2.1) [] s (clearMapRow_M x1 s) := by
  show GQ _ _ _ _ 0 [some (Rf 0), some (I x1), none] [] _ _
  unfold clearMapRow_M
  refine GQ.iloadN (pc' := 1) clearMapRow_d0 rfl rfl ?_
  refine GQ.ifT (pcT := 10) (pcF := 4) h_lt clearMapRow_d1 rfl rfl rfl ?_ ?_
  · exact GQ.ret rfl clearMapRow_d10
  refine GQ.iloadN (pc' := 5) clearMapRow_d4 rfl rfl ?_
  refine GQ.bipush (pc' := 7) clearMapRow_d5 rfl rfl ?_
  refine GQ.icmpT (pcT := 11) (pcF := 10) h_lt clearMapRow_d7 rfl rfl rfl ?_ ?_
  · refine GQ.iconst (pc' := 12) clearMapRow_d11 rfl rfl ?_
    refine GQ.istoreN (L' := [some (Rf 0), some (I x1), some (I 0)]) (pc' := 13) clearMapRow_d12 rfl rfl rfl ?_
    exact clearMapRow_l13_ok hw K x1 FU 0 s
  exact GQ.ret rfl clearMapRow_d10
def resetFileTables_I : Mi := (⟨"ShrinkRelocator", "resetFileTables", "()V"⟩, prog_1_method_20_code, 2, none, 1, 14)
theorem resetFileTables_d0 : decode resetFileTables_I.2.1 0 = .ok (.iconst 0, 1) := by decide +kernel
theorem resetFileTables_d1 : decode resetFileTables_I.2.1 1 = .ok (.istore_n 1, 1) := by decide +kernel
theorem resetFileTables_d2 : decode resetFileTables_I.2.1 2 = .ok (.iload_n 1, 1) := by decide +kernel
theorem resetFileTables_d3 : decode resetFileTables_I.2.1 3 = .ok (.bipush 8, 2) := by decide +kernel
theorem resetFileTables_d5 : decode resetFileTables_I.2.1 5 = .ok (.if_icmp .ge 28, 3) := by decide +kernel
theorem resetFileTables_d8 : decode resetFileTables_I.2.1 8 = .ok (.aload_n 0, 1) := by decide +kernel
theorem resetFileTables_d9 : decode resetFileTables_I.2.1 9 = .ok (.getfield 22, 3) := by decide +kernel
theorem resetFileTables_d12 : decode resetFileTables_I.2.1 12 = .ok (.iload_n 1, 1) := by decide +kernel
theorem resetFileTables_d13 : decode resetFileTables_I.2.1 13 = .ok (.iconst 0, 1) := by decide +kernel
theorem resetFileTables_d14 : decode resetFileTables_I.2.1 14 = .ok (.bastore, 1) := by decide +kernel
theorem resetFileTables_d15 : decode resetFileTables_I.2.1 15 = .ok (.aload_n 0, 1) := by decide +kernel
theorem resetFileTables_d16 : decode resetFileTables_I.2.1 16 = .ok (.getfield 26, 3) := by decide +kernel
theorem resetFileTables_d19 : decode resetFileTables_I.2.1 19 = .ok (.iload_n 1, 1) := by decide +kernel
theorem resetFileTables_d20 : decode resetFileTables_I.2.1 20 = .ok (.iconst 0, 1) := by decide +kernel
theorem resetFileTables_d21 : decode resetFileTables_I.2.1 21 = .ok (.iastore, 1) := by decide +kernel
theorem resetFileTables_d22 : decode resetFileTables_I.2.1 22 = .ok (.aload_n 0, 1) := by decide +kernel
theorem resetFileTables_d23 : decode resetFileTables_I.2.1 23 = .ok (.iload_n 1, 1) := by decide +kernel
theorem resetFileTables_d24 : decode resetFileTables_I.2.1 24 = .ok (.invokevirtual 71, 3) := by decide +kernel
theorem resetFileTables_d27 : decode resetFileTables_I.2.1 27 = .ok (.iinc 1 1, 3) := by decide +kernel
theorem resetFileTables_d30 : decode resetFileTables_I.2.1 30 = .ok (.goto (-28), 3) := by decide +kernel
theorem resetFileTables_d33 : decode resetFileTables_I.2.1 33 = .ok (.return_, 1) := by decide +kernel
theorem resetFileTables_p : parseMethodDescriptor resetFileTables_I.1.desc = some ⟨[], none⟩ := by decide +kernel
theorem resetFileTables_K {a0 : Array Value} {Z : State} {M : Mi} (hw : Words a0 Z) (h : resetFileTables_I.2.2.2.2.1 + 1 ≤ M.2.2.2.2.1) : Callee a0 Z M resetFileTables_I 0 := ⟨pnC, (wd54 hw), (wd2 hw), h, by decide, fun sig q => by cases resetFileTables_p.symm.trans q; rfl⟩
set_option maxRecDepth 65536 in
set_option maxHeartbeats 4000000 in
theorem resetFileTables_l2b_ok {l : Launch} {Z : State} {a0 : Array Value} {n0 : Nat} {cv : Nat → Nat} {h0 : Heap} (hw : Words a0 Z) (K : KA a0 Z n0 CN nI FF cv) {rec : Int → Obj → Option (Int × Obj)} (hrec : ∀ (x1 : Int) (s : Obj), GQ (XA l Z n0 CN FF cv h0) resetFileTables_I 0 0 2 [some (Rf 0), some (I x1)] [] s (rec x1 s)) (x1 : Int) (s : Obj) : GQ (XA l Z n0 CN FF cv h0) resetFileTables_I 0 0 2 [some (Rf 0), some (I x1)] [] s (resetFileTables_l2b rec x1 s) := by
  unfold resetFileTables_l2b
  refine GQ.iloadN (pc' := 3) resetFileTables_d2 rfl rfl ?_
  refine GQ.bipush (pc' := 5) resetFileTables_d3 rfl rfl ?_
  refine GQ.icmpF (pcT := 33) (pcF := 8) h_ge resetFileTables_d5 rfl rfl rfl ?_ ?_
  · exact GQ.ret rfl resetFileTables_d33
  refine GQ.aloadN (pc' := 9) resetFileTables_d8 rfl rfl ?_
  refine GQ.getA (M := resetFileTables_I) (k := 10) (pc' := 12) rfl (by decide) (wd18 hw) resetFileTables_d9 rfl ?_
  refine GQ.iloadN (pc' := 13) resetFileTables_d12 rfl rfl ?_
  refine GQ.iconst (pc' := 14) resetFileTables_d13 rfl rfl ?_
  refine GQ.wr (k := 10) (ins := .bastore) (pc' := 15) K rfl (by decide) (Or.inr (Or.inr (Or.inl ⟨rfl, rfl⟩))) resetFileTables_d14 rfl (fun s14 => ?_)
  refine GQ.aloadN (pc' := 16) resetFileTables_d15 rfl rfl ?_
  refine GQ.getA (M := resetFileTables_I) (k := 11) (pc' := 19) rfl (by decide) (wd21 hw) resetFileTables_d16 rfl ?_
  refine GQ.iloadN (pc' := 20) resetFileTables_d19 rfl rfl ?_
  refine GQ.iconst (pc' := 21) resetFileTables_d20 rfl rfl ?_
  refine GQ.wr (k := 11) (ins := .iastore) (pc' := 22) K rfl (by decide) (Or.inl ⟨rfl, rfl⟩) resetFileTables_d21 rfl (fun s21 => ?_)
  refine GQ.aloadN (pc' := 23) resetFileTables_d22 rfl rfl ?_
  refine GQ.iloadN (pc' := 24) resetFileTables_d23 rfl rfl ?_
  refine GQ.callP (Mc := clearMapRow_I) (args0 := [I x1]) (S := []) (r := 0) (pc' := 27) (clearMapRow_K hw (by decide)) rfl resetFileTables_d24 rfl (wd55 hw) (wd56 hw) (wd57 hw) (wd1 hw) XA.recv rfl (clearMapRow_M_ok hw K x1 s21) rfl (fun _ s24 => ?_)
  show GQ (XA l Z n0 CN FF cv h0) resetFileTables_I _ _ 27 [some (Rf 0), some (I x1)] [] s24 _
  refine GQ.iinc (L' := [some (Rf 0), some (I (aAdd x1 1))]) (pc' := 30) resetFileTables_d27 rfl rfl rfl rfl ?_
  refine GQ.goto (pc' := 2) resetFileTables_d30 rfl rfl ?_
  exact hrec (aAdd x1 1) s24
set_option maxRecDepth 65536 in
set_option maxHeartbeats 4000000 in
theorem resetFileTables_l2_ok {l : Launch} {Z : State} {a0 : Array Value} {n0 : Nat} {cv : Nat → Nat} {h0 : Heap} (hw : Words a0 Z) (K : KA a0 Z n0 CN nI FF cv) : ∀ (fu : Nat) (x1 : Int) (s : Obj), GQ (XA l Z n0 CN FF cv h0) resetFileTables_I 0 0 2 [some (Rf 0), some (I x1)] [] s (resetFileTables_l2 fu x1 s)
  | 0 => fun _ _ => GQ.no
  | fu + 1 => resetFileTables_l2b_ok hw K (resetFileTables_l2_ok hw K fu)
set_option maxRecDepth 65536 in
set_option maxHeartbeats 4000000 in
theorem resetFileTables_M_ok {l : Launch} {Z : State} {a0 : Array Value} {n0 : Nat} {cv : Nat → Nat} {h0 : Heap} (hw : Words a0 Z) (K : KA a0 Z n0 CN nI FF cv) (s : Obj) : GQ (XA l Z n0 CN FF cv h0) resetFileTables_I 0 0 0 (entry [Rf 0] resetFileTables_I.2.2.1) [] s (resetFileTables_M s) := by
  show GQ _ _ _ _ 0 [some (Rf 0), none] [] _ _
  unfold resetFileTables_M
  refine GQ.iconst (pc' := 1) resetFileTables_d0 rfl rfl ?_
  refine GQ.istoreN (L' := [some (Rf 0), some (I 0)]) (pc' := 2) resetFileTables_d1 rfl rfl rfl ?_
  exact resetFileTables_l2_ok hw K  FU 0 s
def ctor_I : Mi := (⟨"ShrinkRelocator", "<init>", "(III)V"⟩, prog_1_method_1_code, 4, none, 2, 27)
theorem ctor_d0 : decode ctor_I.2.1 0 = .ok (.aload_n 0, 1) := by decide +kernel
theorem ctor_d1 : decode ctor_I.2.1 1 = .ok (.invokespecial 1, 3) := by decide +kernel
theorem ctor_d4 : decode ctor_I.2.1 4 = .ok (.aload_n 0, 1) := by decide +kernel
theorem ctor_d5 : decode ctor_I.2.1 5 = .ok (.bipush 32, 2) := by decide +kernel
theorem ctor_d7 : decode ctor_I.2.1 7 = .ok (.putfield 7, 3) := by decide +kernel
theorem ctor_d10 : decode ctor_I.2.1 10 = .ok (.aload_n 0, 1) := by decide +kernel
theorem ctor_d11 : decode ctor_I.2.1 11 = .ok (.bipush 8, 2) := by decide +kernel
theorem ctor_d13 : decode ctor_I.2.1 13 = .ok (.putfield 13, 3) := by decide +kernel
theorem ctor_d16 : decode ctor_I.2.1 16 = .ok (.aload_n 0, 1) := by decide +kernel
theorem ctor_d17 : decode ctor_I.2.1 17 = .ok (.bipush 8, 2) := by decide +kernel
theorem ctor_d19 : decode ctor_I.2.1 19 = .ok (.putfield 16, 3) := by decide +kernel
theorem ctor_d22 : decode ctor_I.2.1 22 = .ok (.aload_n 0, 1) := by decide +kernel
theorem ctor_d23 : decode ctor_I.2.1 23 = .ok (.iconst (-1), 1) := by decide +kernel
theorem ctor_d24 : decode ctor_I.2.1 24 = .ok (.putfield 19, 3) := by decide +kernel
theorem ctor_d27 : decode ctor_I.2.1 27 = .ok (.aload_n 0, 1) := by decide +kernel
theorem ctor_d28 : decode ctor_I.2.1 28 = .ok (.bipush 8, 2) := by decide +kernel
theorem ctor_d30 : decode ctor_I.2.1 30 = .ok (.newarray .boolean, 2) := by decide +kernel
theorem ctor_d32 : decode ctor_I.2.1 32 = .ok (.putfield 22, 3) := by decide +kernel
theorem ctor_d35 : decode ctor_I.2.1 35 = .ok (.aload_n 0, 1) := by decide +kernel
theorem ctor_d36 : decode ctor_I.2.1 36 = .ok (.bipush 8, 2) := by decide +kernel
theorem ctor_d38 : decode ctor_I.2.1 38 = .ok (.newarray .int, 2) := by decide +kernel
theorem ctor_d40 : decode ctor_I.2.1 40 = .ok (.putfield 26, 3) := by decide +kernel
theorem ctor_d43 : decode ctor_I.2.1 43 = .ok (.aload_n 0, 1) := by decide +kernel
theorem ctor_d44 : decode ctor_I.2.1 44 = .ok (.sipush 256, 3) := by decide +kernel
theorem ctor_d47 : decode ctor_I.2.1 47 = .ok (.newarray .int, 2) := by decide +kernel
theorem ctor_d49 : decode ctor_I.2.1 49 = .ok (.putfield 30, 3) := by decide +kernel
theorem ctor_d52 : decode ctor_I.2.1 52 = .ok (.aload_n 0, 1) := by decide +kernel
theorem ctor_d53 : decode ctor_I.2.1 53 = .ok (.bipush 32, 2) := by decide +kernel
theorem ctor_d55 : decode ctor_I.2.1 55 = .ok (.newarray .int, 2) := by decide +kernel
theorem ctor_d57 : decode ctor_I.2.1 57 = .ok (.putfield 33, 3) := by decide +kernel
theorem ctor_d60 : decode ctor_I.2.1 60 = .ok (.aload_n 0, 1) := by decide +kernel
theorem ctor_d61 : decode ctor_I.2.1 61 = .ok (.bipush 32, 2) := by decide +kernel
theorem ctor_d63 : decode ctor_I.2.1 63 = .ok (.newarray .int, 2) := by decide +kernel
theorem ctor_d65 : decode ctor_I.2.1 65 = .ok (.putfield 36, 3) := by decide +kernel
theorem ctor_d68 : decode ctor_I.2.1 68 = .ok (.aload_n 0, 1) := by decide +kernel
theorem ctor_d69 : decode ctor_I.2.1 69 = .ok (.sipush 256, 3) := by decide +kernel
theorem ctor_d72 : decode ctor_I.2.1 72 = .ok (.newarray .int, 2) := by decide +kernel
theorem ctor_d74 : decode ctor_I.2.1 74 = .ok (.putfield 39, 3) := by decide +kernel
theorem ctor_d77 : decode ctor_I.2.1 77 = .ok (.aload_n 0, 1) := by decide +kernel
theorem ctor_d78 : decode ctor_I.2.1 78 = .ok (.aload_n 0, 1) := by decide +kernel
theorem ctor_d79 : decode ctor_I.2.1 79 = .ok (.iload_n 1, 1) := by decide +kernel
theorem ctor_d80 : decode ctor_I.2.1 80 = .ok (.bipush 8, 2) := by decide +kernel
theorem ctor_d82 : decode ctor_I.2.1 82 = .ok (.bipush 32, 2) := by decide +kernel
theorem ctor_d84 : decode ctor_I.2.1 84 = .ok (.invokevirtual 42, 3) := by decide +kernel
theorem ctor_d87 : decode ctor_I.2.1 87 = .ok (.putfield 46, 3) := by decide +kernel
theorem ctor_d90 : decode ctor_I.2.1 90 = .ok (.aload_n 0, 1) := by decide +kernel
theorem ctor_d91 : decode ctor_I.2.1 91 = .ok (.aload_n 0, 1) := by decide +kernel
theorem ctor_d92 : decode ctor_I.2.1 92 = .ok (.iload_n 2, 1) := by decide +kernel
theorem ctor_d93 : decode ctor_I.2.1 93 = .ok (.iconst 1, 1) := by decide +kernel
theorem ctor_d94 : decode ctor_I.2.1 94 = .ok (.bipush 8, 2) := by decide +kernel
theorem ctor_d96 : decode ctor_I.2.1 96 = .ok (.invokevirtual 42, 3) := by decide +kernel
theorem ctor_d99 : decode ctor_I.2.1 99 = .ok (.putfield 49, 3) := by decide +kernel
theorem ctor_d102 : decode ctor_I.2.1 102 = .ok (.aload_n 0, 1) := by decide +kernel
theorem ctor_d103 : decode ctor_I.2.1 103 = .ok (.aload_n 0, 1) := by decide +kernel
theorem ctor_d104 : decode ctor_I.2.1 104 = .ok (.iload_n 3, 1) := by decide +kernel
theorem ctor_d105 : decode ctor_I.2.1 105 = .ok (.iconst 1, 1) := by decide +kernel
theorem ctor_d106 : decode ctor_I.2.1 106 = .ok (.bipush 8, 2) := by decide +kernel
theorem ctor_d108 : decode ctor_I.2.1 108 = .ok (.invokevirtual 42, 3) := by decide +kernel
theorem ctor_d111 : decode ctor_I.2.1 111 = .ok (.putfield 52, 3) := by decide +kernel
theorem ctor_d114 : decode ctor_I.2.1 114 = .ok (.aload_n 0, 1) := by decide +kernel
theorem ctor_d115 : decode ctor_I.2.1 115 = .ok (.iconst 0, 1) := by decide +kernel
theorem ctor_d116 : decode ctor_I.2.1 116 = .ok (.putfield 55, 3) := by decide +kernel
theorem ctor_d119 : decode ctor_I.2.1 119 = .ok (.aload_n 0, 1) := by decide +kernel
theorem ctor_d120 : decode ctor_I.2.1 120 = .ok (.iconst 0, 1) := by decide +kernel
theorem ctor_d121 : decode ctor_I.2.1 121 = .ok (.putfield 59, 3) := by decide +kernel
theorem ctor_d124 : decode ctor_I.2.1 124 = .ok (.aload_n 0, 1) := by decide +kernel
theorem ctor_d125 : decode ctor_I.2.1 125 = .ok (.iconst 0, 1) := by decide +kernel
theorem ctor_d126 : decode ctor_I.2.1 126 = .ok (.putfield 62, 3) := by decide +kernel
theorem ctor_d129 : decode ctor_I.2.1 129 = .ok (.aload_n 0, 1) := by decide +kernel
theorem ctor_d130 : decode ctor_I.2.1 130 = .ok (.invokevirtual 65, 3) := by decide +kernel
theorem ctor_d133 : decode ctor_I.2.1 133 = .ok (.aload_n 0, 1) := by decide +kernel
theorem ctor_d134 : decode ctor_I.2.1 134 = .ok (.invokevirtual 68, 3) := by decide +kernel
theorem ctor_d137 : decode ctor_I.2.1 137 = .ok (.return_, 1) := by decide +kernel
theorem ctor_p : parseMethodDescriptor ctor_I.1.desc = some ⟨[.int, .int, .int], none⟩ := by decide +kernel
theorem ctor_K {a0 : Array Value} {Z : State} {M : Mi} (hw : Words a0 Z) (h : ctor_I.2.2.2.2.1 + 1 ≤ M.2.2.2.2.1) : Callee a0 Z M ctor_I 3 := ⟨pnC, (wd5 hw), (wd2 hw), h, by decide, fun sig q => by cases ctor_p.symm.trans q; rfl⟩
set_option maxRecDepth 65536 in
set_option maxHeartbeats 4000000 in
theorem ctor_B_ok {l : Launch} {Z : State} {a0 : Array Value} {n0 : Nat} {cv : Nat → Nat} {h0 : Heap} (hw : Words a0 Z) (K : KA a0 Z n0 CN nI FF cv) (x1 : Int) (x2 : Int) (x3 : Int) (s : Obj) : GQ (XA l Z n0 CN FF cv h0) ctor_I 0 0 77 [some (Rf 0), some (I x1), some (I x2), some (I x3)] [] s (ctor_B x1 x2 x3 s) := by
  unfold ctor_B
  refine GQ.aloadN (pc' := 78) ctor_d77 rfl rfl ?_
  refine GQ.aloadN (pc' := 79) ctor_d78 rfl rfl ?_
  refine GQ.iloadN (pc' := 80) ctor_d79 rfl rfl ?_
  refine GQ.bipush (pc' := 82) ctor_d80 rfl rfl ?_
  refine GQ.bipush (pc' := 84) ctor_d82 rfl rfl ?_
  refine GQ.callP (Mc := clamp_I) (args0 := [I x1, I 8, I 32]) (S := [Rf 0]) (r := 0) (pc' := 87) (clamp_K hw (by decide)) rfl ctor_d84 rfl (wd31 hw) (wd32 hw) (wd33 hw) (wd1 hw) XA.recv rfl (clamp_M_ok hw K x1 8 32 s) rfl (fun z84 s84 => ?_)
  show GQ (XA l Z n0 CN FF cv h0) ctor_I _ _ 87 [some (Rf 0), some (I x1), some (I x2), some (I x3)] [I z84, Rf 0] s84 _
  refine GQ.putI (M := ctor_I) (k := 4) (pc' := 90) K rfl (wd35 hw) (wd36 hw) ctor_d87 rfl ?_
  refine GQ.letM (fun s87 => ?_)
  refine GQ.aloadN (pc' := 91) ctor_d90 rfl rfl ?_
  refine GQ.aloadN (pc' := 92) ctor_d91 rfl rfl ?_
  refine GQ.iloadN (pc' := 93) ctor_d92 rfl rfl ?_
  refine GQ.iconst (pc' := 94) ctor_d93 rfl rfl ?_
  refine GQ.bipush (pc' := 96) ctor_d94 rfl rfl ?_
  refine GQ.callP (Mc := clamp_I) (args0 := [I x2, I 1, I 8]) (S := [Rf 0]) (r := 0) (pc' := 99) (clamp_K hw (by decide)) rfl ctor_d96 rfl (wd31 hw) (wd32 hw) (wd33 hw) (wd1 hw) XA.recv rfl (clamp_M_ok hw K x2 1 8 s87) rfl (fun z96 s96 => ?_)
  show GQ (XA l Z n0 CN FF cv h0) ctor_I _ _ 99 [some (Rf 0), some (I x1), some (I x2), some (I x3)] [I z96, Rf 0] s96 _
  refine GQ.putI (M := ctor_I) (k := 5) (pc' := 102) K rfl (wd37 hw) (wd38 hw) ctor_d99 rfl ?_
  refine GQ.letM (fun s99 => ?_)
  refine GQ.aloadN (pc' := 103) ctor_d102 rfl rfl ?_
  refine GQ.aloadN (pc' := 104) ctor_d103 rfl rfl ?_
  refine GQ.iloadN (pc' := 105) ctor_d104 rfl rfl ?_
  refine GQ.iconst (pc' := 106) ctor_d105 rfl rfl ?_
  refine GQ.bipush (pc' := 108) ctor_d106 rfl rfl ?_
  refine GQ.callP (Mc := clamp_I) (args0 := [I x3, I 1, I 8]) (S := [Rf 0]) (r := 0) (pc' := 111) (clamp_K hw (by decide)) rfl ctor_d108 rfl (wd31 hw) (wd32 hw) (wd33 hw) (wd1 hw) XA.recv rfl (clamp_M_ok hw K x3 1 8 s99) rfl (fun z108 s108 => ?_)
  show GQ (XA l Z n0 CN FF cv h0) ctor_I _ _ 111 [some (Rf 0), some (I x1), some (I x2), some (I x3)] [I z108, Rf 0] s108 _
  refine GQ.putI (M := ctor_I) (k := 6) (pc' := 114) K rfl (wd39 hw) (wd40 hw) ctor_d111 rfl ?_
  refine GQ.letM (fun s111 => ?_)
  refine GQ.aloadN (pc' := 115) ctor_d114 rfl rfl ?_
  refine GQ.iconst (pc' := 116) ctor_d115 rfl rfl ?_
  refine GQ.putI (M := ctor_I) (k := 7) (pc' := 119) K rfl (wd41 hw) (wd42 hw) ctor_d116 rfl ?_
  refine GQ.letM (fun s116 => ?_)
  refine GQ.aloadN (pc' := 120) ctor_d119 rfl rfl ?_
  refine GQ.iconst (pc' := 121) ctor_d120 rfl rfl ?_
  refine GQ.putI (M := ctor_I) (k := 8) (pc' := 124) K rfl (wd43 hw) (wd44 hw) ctor_d121 rfl ?_
  refine GQ.letM (fun s121 => ?_)
  refine GQ.aloadN (pc' := 125) ctor_d124 rfl rfl ?_
  refine GQ.iconst (pc' := 126) ctor_d125 rfl rfl ?_
  refine GQ.putI (M := ctor_I) (k := 9) (pc' := 129) K rfl (wd45 hw) (wd46 hw) ctor_d126 rfl ?_
  refine GQ.letM (fun s126 => ?_)
  refine GQ.aloadN (pc' := 130) ctor_d129 rfl rfl ?_
  refine GQ.callP (Mc := resetBlockTables_I) (args0 := []) (S := []) (r := 0) (pc' := 133) (resetBlockTables_K hw (by decide)) rfl ctor_d130 rfl (wd47 hw) (wd48 hw) (wd49 hw) (wd1 hw) XA.recv rfl (resetBlockTables_M_ok hw K s126) rfl (fun _ s130 => ?_)
  show GQ (XA l Z n0 CN FF cv h0) ctor_I _ _ 133 [some (Rf 0), some (I x1), some (I x2), some (I x3)] [] s130 _
  refine GQ.aloadN (pc' := 134) ctor_d133 rfl rfl ?_
  refine GQ.callP (Mc := resetFileTables_I) (args0 := []) (S := []) (r := 0) (pc' := 137) (resetFileTables_K hw (by decide)) rfl ctor_d134 rfl (wd51 hw) (wd52 hw) (wd53 hw) (wd1 hw) XA.recv rfl (resetFileTables_M_ok hw K s130) rfl (fun _ s134 => ?_)
  show GQ (XA l Z n0 CN FF cv h0) ctor_I _ _ 137 [some (Rf 0), some (I x1), some (I x2), some (I x3)] [] s134 _
  exact GQ.ret rfl ctor_d137
set_option maxRecDepth 65536 in
set_option maxHeartbeats 4000000 in
theorem ctor_M_ok {l : Launch} {Z : State} {a0 : Array Value} {n0 : Nat} (hw : Words a0 Z) (K : KB a0 Z CN nI FF (posF PP) nA) {a : Nat} {h0 : Heap} (ha : n0 ≤ a) (hh : h0.size = a + 1) (x1 : Int) (x2 : Int) (x3 : Int) : GQ (XP l Z n0 CN FF (posF PP) a h0 nA) ctor_I nA 592 0 (entry [Rf 0, I x1, I x2, I x3] ctor_I.2.2.1) [] (.inl (fun _ => 0, fun _ => false, 0)) (emb (ctor_M x1 x2 x3)) := by
  show GQ _ _ _ _ 0 [some (Rf 0), some (I x1), some (I x2), some (I x3)] [] (Sum.inl (fun _ => 0, fun _ => false, 0)) _
  refine GQ.aloadN (pc' := 1) ctor_d0 rfl rfl ?_
  refine GQ.init0 (M := ctor_I) (pc' := 4) (wd6 hw) (wd7 hw) (wd8 hw) (by decide) (by decide) ctor_d1 rfl ?_
  refine GQ.aloadN (pc' := 5) ctor_d4 rfl rfl ?_
  refine GQ.bipush (pc' := 7) ctor_d5 rfl rfl ?_
  refine GQ.ini (M := ctor_I) (q := ((fun _ => 0), (fun _ => false), 0)) (k := 0) (pc' := 10) K.1 ha rfl (wd9 hw) (Or.inr ⟨(wd10 hw), rfl, rfl⟩) ctor_d7 rfl ?_
  refine GQ.aloadN (pc' := 11) ctor_d10 rfl rfl ?_
  refine GQ.bipush (pc' := 13) ctor_d11 rfl rfl ?_
  refine GQ.ini (M := ctor_I) (q := ((@upd Int (fun _ => 0) 0 32), (fun _ => false), 0)) (k := 1) (pc' := 16) K.1 ha rfl (wd11 hw) (Or.inr ⟨(wd12 hw), rfl, rfl⟩) ctor_d13 rfl ?_
  refine GQ.aloadN (pc' := 17) ctor_d16 rfl rfl ?_
  refine GQ.bipush (pc' := 19) ctor_d17 rfl rfl ?_
  refine GQ.ini (M := ctor_I) (q := ((@upd Int (@upd Int (fun _ => 0) 0 32) 1 8), (fun _ => false), 0)) (k := 2) (pc' := 22) K.1 ha rfl (wd13 hw) (Or.inr ⟨(wd14 hw), rfl, rfl⟩) ctor_d19 rfl ?_
  refine GQ.aloadN (pc' := 23) ctor_d22 rfl rfl ?_
  refine GQ.iconst (pc' := 24) ctor_d23 rfl rfl ?_
  refine GQ.ini (M := ctor_I) (q := ((@upd Int (@upd Int (@upd Int (fun _ => 0) 0 32) 1 8) 2 8), (fun _ => false), 0)) (k := 3) (pc' := 27) K.1 ha rfl (wd15 hw) (Or.inr ⟨(wd16 hw), rfl, rfl⟩) ctor_d24 rfl ?_
  refine GQ.aloadN (pc' := 28) ctor_d27 rfl rfl ?_
  refine GQ.bipush (pc' := 30) ctor_d28 rfl rfl ?_
  refine GQ.newA (M := ctor_I) (q := ((@upd Int (@upd Int (@upd Int (@upd Int (fun _ => 0) 0 32) 1 8) 2 8) 3 (-1)), (fun _ => false), 0)) (aty := .boolean) (k := 10) (x := 8) (kc := 5) (ks := 584) (pc' := 35) K.1 ha rfl rfl rfl hh rfl (wd17 hw) (wd18 hw) (Or.inr ⟨(wd19 hw), rfl, rfl⟩) ctor_d30 rfl ctor_d32 rfl ?_
  refine GQ.aloadN (pc' := 36) ctor_d35 rfl rfl ?_
  refine GQ.bipush (pc' := 38) ctor_d36 rfl rfl ?_
  refine GQ.newA (M := ctor_I) (q := ((@upd Int (@upd Int (@upd Int (@upd Int (fun _ => 0) 0 32) 1 8) 2 8) 3 (-1)), (@upd Bool (fun _ => false) 10 true), 1)) (aty := .int) (k := 11) (x := 8) (kc := 4) (ks := 576) (pc' := 43) K.1 ha rfl rfl rfl hh rfl (wd20 hw) (wd21 hw) (Or.inr ⟨(wd22 hw), rfl, rfl⟩) ctor_d38 rfl ctor_d40 rfl ?_
  refine GQ.aloadN (pc' := 44) ctor_d43 rfl rfl ?_
  refine GQ.sipush (pc' := 47) ctor_d44 rfl rfl ?_
  refine GQ.newA (M := ctor_I) (q := ((@upd Int (@upd Int (@upd Int (@upd Int (fun _ => 0) 0 32) 1 8) 2 8) 3 (-1)), (@upd Bool (@upd Bool (fun _ => false) 10 true) 11 true), 2)) (aty := .int) (k := 12) (x := 256) (kc := 3) (ks := 320) (pc' := 52) K.1 ha rfl rfl rfl hh rfl (wd20 hw) (wd23 hw) (Or.inr ⟨(wd24 hw), rfl, rfl⟩) ctor_d47 rfl ctor_d49 rfl ?_
  refine GQ.aloadN (pc' := 53) ctor_d52 rfl rfl ?_
  refine GQ.bipush (pc' := 55) ctor_d53 rfl rfl ?_
  refine GQ.newA (M := ctor_I) (q := ((@upd Int (@upd Int (@upd Int (@upd Int (fun _ => 0) 0 32) 1 8) 2 8) 3 (-1)), (@upd Bool (@upd Bool (@upd Bool (fun _ => false) 10 true) 11 true) 12 true), 3)) (aty := .int) (k := 13) (x := 32) (kc := 2) (ks := 288) (pc' := 60) K.1 ha rfl rfl rfl hh rfl (wd20 hw) (wd25 hw) (Or.inr ⟨(wd26 hw), rfl, rfl⟩) ctor_d55 rfl ctor_d57 rfl ?_
  refine GQ.aloadN (pc' := 61) ctor_d60 rfl rfl ?_
  refine GQ.bipush (pc' := 63) ctor_d61 rfl rfl ?_
  refine GQ.newA (M := ctor_I) (q := ((@upd Int (@upd Int (@upd Int (@upd Int (fun _ => 0) 0 32) 1 8) 2 8) 3 (-1)), (@upd Bool (@upd Bool (@upd Bool (@upd Bool (fun _ => false) 10 true) 11 true) 12 true) 13 true), 4)) (aty := .int) (k := 14) (x := 32) (kc := 1) (ks := 256) (pc' := 68) K.1 ha rfl rfl rfl hh rfl (wd20 hw) (wd27 hw) (Or.inr ⟨(wd28 hw), rfl, rfl⟩) ctor_d63 rfl ctor_d65 rfl ?_
  refine GQ.aloadN (pc' := 69) ctor_d68 rfl rfl ?_
  refine GQ.sipush (pc' := 72) ctor_d69 rfl rfl ?_
  refine GQ.newA (M := ctor_I) (q := ((@upd Int (@upd Int (@upd Int (@upd Int (fun _ => 0) 0 32) 1 8) 2 8) 3 (-1)), (@upd Bool (@upd Bool (@upd Bool (@upd Bool (@upd Bool (fun _ => false) 10 true) 11 true) 12 true) 13 true) 14 true), 5)) (aty := .int) (k := 15) (x := 256) (kc := 0) (ks := 0) (pc' := 77) K.1 ha rfl rfl rfl hh rfl (wd20 hw) (wd29 hw) (Or.inr ⟨(wd30 hw), rfl, rfl⟩) ctor_d72 rfl ctor_d74 rfl ?_
  exact GQ.body (q := ((@upd Int (@upd Int (@upd Int (@upd Int (fun _ => 0) 0 32) 1 8) 2 8) 3 (-1)), (@upd Bool (@upd Bool (@upd Bool (@upd Bool (@upd Bool (@upd Bool (fun _ => false) 10 true) 11 true) 12 true) 13 true) 14 true) 15 true), 6)) (fun k e h1 h2 => by have q := alF_ok (al := (@upd Bool (@upd Bool (@upd Bool (@upd Bool (@upd Bool (@upd Bool (fun _ => false) 10 true) 11 true) 12 true) 13 true) 14 true) 15 true)) (F := FF) (j := 0) rfl k e h1 h2; rwa [Nat.zero_add] at q) rfl hh (fun h1 => ctor_B_ok hw ⟨K.1, K.inj a, fun j => Nat.le_trans ha (cvO_ge _ _ j)⟩ x1 x2 x3 _)
def create_I : Mi := (⟨"ShrinkRelocator", "create", "()I"⟩, prog_1_method_2_code, 2, (some .int), 1, 14)
theorem create_d0 : decode create_I.2.1 0 = .ok (.iconst 0, 1) := by decide +kernel
theorem create_d1 : decode create_I.2.1 1 = .ok (.istore_n 1, 1) := by decide +kernel
theorem create_d2 : decode create_I.2.1 2 = .ok (.iload_n 1, 1) := by decide +kernel
theorem create_d3 : decode create_I.2.1 3 = .ok (.aload_n 0, 1) := by decide +kernel
theorem create_d4 : decode create_I.2.1 4 = .ok (.getfield 52, 3) := by decide +kernel
theorem create_d7 : decode create_I.2.1 7 = .ok (.if_icmp .ge 45, 3) := by decide +kernel
theorem create_d10 : decode create_I.2.1 10 = .ok (.iload_n 1, 1) := by decide +kernel
theorem create_d11 : decode create_I.2.1 11 = .ok (.bipush 8, 2) := by decide +kernel
theorem create_d13 : decode create_I.2.1 13 = .ok (.if_icmp .ge 39, 3) := by decide +kernel
theorem create_d16 : decode create_I.2.1 16 = .ok (.aload_n 0, 1) := by decide +kernel
theorem create_d17 : decode create_I.2.1 17 = .ok (.getfield 22, 3) := by decide +kernel
theorem create_d20 : decode create_I.2.1 20 = .ok (.iload_n 1, 1) := by decide +kernel
theorem create_d21 : decode create_I.2.1 21 = .ok (.baload, 1) := by decide +kernel
theorem create_d22 : decode create_I.2.1 22 = .ok (.ifCond .ne 24, 3) := by decide +kernel
theorem create_d25 : decode create_I.2.1 25 = .ok (.aload_n 0, 1) := by decide +kernel
theorem create_d26 : decode create_I.2.1 26 = .ok (.getfield 22, 3) := by decide +kernel
theorem create_d29 : decode create_I.2.1 29 = .ok (.iload_n 1, 1) := by decide +kernel
theorem create_d30 : decode create_I.2.1 30 = .ok (.iconst 1, 1) := by decide +kernel
theorem create_d31 : decode create_I.2.1 31 = .ok (.bastore, 1) := by decide +kernel
theorem create_d32 : decode create_I.2.1 32 = .ok (.aload_n 0, 1) := by decide +kernel
theorem create_d33 : decode create_I.2.1 33 = .ok (.getfield 26, 3) := by decide +kernel
theorem create_d36 : decode create_I.2.1 36 = .ok (.iload_n 1, 1) := by decide +kernel
theorem create_d37 : decode create_I.2.1 37 = .ok (.iconst 0, 1) := by decide +kernel
theorem create_d38 : decode create_I.2.1 38 = .ok (.iastore, 1) := by decide +kernel
theorem create_d39 : decode create_I.2.1 39 = .ok (.aload_n 0, 1) := by decide +kernel
theorem create_d40 : decode create_I.2.1 40 = .ok (.iload_n 1, 1) := by decide +kernel
theorem create_d41 : decode create_I.2.1 41 = .ok (.invokevirtual 71, 3) := by decide +kernel
theorem create_d44 : decode create_I.2.1 44 = .ok (.iload_n 1, 1) := by decide +kernel
theorem create_d45 : decode create_I.2.1 45 = .ok (.ireturn, 1) := by decide +kernel
theorem create_d46 : decode create_I.2.1 46 = .ok (.iinc 1 1, 3) := by decide +kernel
theorem create_d49 : decode create_I.2.1 49 = .ok (.goto (-47), 3) := by decide +kernel
theorem create_d52 : decode create_I.2.1 52 = .ok (.bipush (-6), 2) := by decide +kernel
theorem create_d54 : decode create_I.2.1 54 = .ok (.ireturn, 1) := by decide +kernel
theorem create_p : parseMethodDescriptor create_I.1.desc = some ⟨[], (some .int)⟩ := by decide +kernel
theorem create_K {a0 : Array Value} {Z : State} {M : Mi} (hw : Words a0 Z) (h : create_I.2.2.2.2.1 + 1 ≤ M.2.2.2.2.1) : Callee a0 Z M create_I 0 := ⟨pnC, (wd63 hw), (wd2 hw), h, by decide, fun sig q => by cases create_p.symm.trans q; rfl⟩
set_option maxRecDepth 65536 in
set_option maxHeartbeats 4000000 in
theorem create_l2b_ok {l : Launch} {Z : State} {a0 : Array Value} {n0 : Nat} {cv : Nat → Nat} {h0 : Heap} (hw : Words a0 Z) (K : KA a0 Z n0 CN nI FF cv) {k25 : Int → Obj → Option (Int × Obj)} (hk25 : ∀ (x1 : Int) (s : Obj), GQ (XA l Z n0 CN FF cv h0) create_I 0 0 25 [some (Rf 0), some (I x1)] [] s (k25 x1 s)) {rec : Int → Obj → Option (Int × Obj)} (hrec : ∀ (x1 : Int) (s : Obj), GQ (XA l Z n0 CN FF cv h0) create_I 0 0 2 [some (Rf 0), some (I x1)] [] s (rec x1 s)) (x1 : Int) (s : Obj) : GQ (XA l Z n0 CN FF cv h0) create_I 0 0 2 [some (Rf 0), some (I x1)] [] s (create_l2b k25 rec x1 s) := by
  unfold create_l2b
  refine GQ.iloadN (pc' := 3) create_d2 rfl rfl ?_
  refine GQ.aloadN (pc' := 4) create_d3 rfl rfl ?_
  refine GQ.getI (M := create_I) (k := 6) (pc' := 7) rfl (wd39 hw) create_d4 rfl ?_
  refine GQ.icmpF (pcT := 52) (pcF := 10) h_ge create_d7 rfl rfl rfl ?_ ?_
  · refine GQ.bipush (pc' := 54) create_d52 rfl rfl ?_
    exact GQ.iret rfl create_d54
  refine GQ.iloadN (pc' := 11) create_d10 rfl rfl ?_
  refine GQ.bipush (pc' := 13) create_d11 rfl rfl ?_
  refine GQ.icmpF (pcT := 52) (pcF := 16) h_ge create_d13 rfl rfl rfl ?_ ?_
  · refine GQ.bipush (pc' := 54) create_d52 rfl rfl ?_
    exact GQ.iret rfl create_d54
  refine GQ.aloadN (pc' := 17) create_d16 rfl rfl ?_
  refine GQ.getA (M := create_I) (k := 10) (pc' := 20) rfl (by decide) (wd18 hw) create_d17 rfl ?_
  refine GQ.iloadN (pc' := 21) create_d20 rfl rfl ?_
  refine GQ.rd (k := 10) (ins := .baload) (pc' := 22) rfl (by decide) (Or.inr (Or.inr (Or.inl ⟨rfl, rfl⟩))) create_d21 rfl (fun z21 => ?_)
  refine GQ.ifF (pcT := 46) (pcF := 25) h_ne create_d22 rfl rfl rfl ?_ ?_
  · refine GQ.iinc (L' := [some (Rf 0), some (I (aAdd x1 1))]) (pc' := 49) create_d46 rfl rfl rfl rfl ?_
    refine GQ.goto (pc' := 2) create_d49 rfl rfl ?_
    exact hrec (aAdd x1 1) s
  exact hk25 x1 s
set_option maxRecDepth 65536 in
set_option maxHeartbeats 4000000 in
theorem create_l2_ok {l : Launch} {Z : State} {a0 : Array Value} {n0 : Nat} {cv : Nat → Nat} {h0 : Heap} (hw : Words a0 Z) (K : KA a0 Z n0 CN nI FF cv) {k25 : Int → Obj → Option (Int × Obj)} (hk25 : ∀ (x1 : Int) (s : Obj), GQ (XA l Z n0 CN FF cv h0) create_I 0 0 25 [some (Rf 0), some (I x1)] [] s (k25 x1 s)) : ∀ (fu : Nat) (x1 : Int) (s : Obj), GQ (XA l Z n0 CN FF cv h0) create_I 0 0 2 [some (Rf 0), some (I x1)] [] s (create_l2 k25 fu x1 s)
  | 0 => fun _ _ => GQ.no
  | fu + 1 => create_l2b_ok hw K hk25 (create_l2_ok hw K hk25 fu)
set_option maxRecDepth 65536 in
set_option maxHeartbeats 4000000 in
theorem create_M_ok {l : Launch} {Z : State} {a0 : Array Value} {n0 : Nat} {cv : Nat → Nat} {h0 : Heap} (hw : Words a0 Z) (K : KA a0 Z n0 CN nI FF cv) (s : Obj) : GQ (XA l Z n0 CN FF cv h0) create_I 0 0 0 (entry [Rf 0] create_I.2.2.1) [] s (create_M s) := by
  show GQ _ _ _ _ 0 [some (Rf 0), none] [] _ _
  unfold create_M
  refine GQ.iconst (pc' := 1) create_d0 rfl rfl ?_
  refine GQ.istoreN (L' := [some (Rf 0), some (I 0)]) (pc' := 2) create_d1 rfl rfl rfl ?_
  refine create_l2_ok hw K  (fun x1_25 s25 => ?_) FU 0 s
  refine GQ.aloadN (pc' := 26) create_d25 rfl rfl ?_
  refine GQ.getA (M := create_I) (k := 10) (pc' := 29) rfl (by decide) (wd18 hw) create_d26 rfl ?_
  refine GQ.iloadN (pc' := 30) create_d29 rfl rfl ?_
  refine GQ.iconst (pc' := 31) create_d30 rfl rfl ?_
  refine GQ.wr (k := 10) (ins := .bastore) (pc' := 32) K rfl (by decide) (Or.inr (Or.inr (Or.inl ⟨rfl, rfl⟩))) create_d31 rfl (fun s31 => ?_)
  refine GQ.aloadN (pc' := 33) create_d32 rfl rfl ?_
  refine GQ.getA (M := create_I) (k := 11) (pc' := 36) rfl (by decide) (wd21 hw) create_d33 rfl ?_
  refine GQ.iloadN (pc' := 37) create_d36 rfl rfl ?_
  refine GQ.iconst (pc' := 38) create_d37 rfl rfl ?_
  refine GQ.wr (k := 11) (ins := .iastore) (pc' := 39) K rfl (by decide) (Or.inl ⟨rfl, rfl⟩) create_d38 rfl (fun s38 => ?_)
  refine GQ.aloadN (pc' := 40) create_d39 rfl rfl ?_
  refine GQ.iloadN (pc' := 41) create_d40 rfl rfl ?_
  refine GQ.callP (Mc := clearMapRow_I) (args0 := [I x1_25]) (S := []) (r := 0) (pc' := 44) (clearMapRow_K hw (by decide)) rfl create_d41 rfl (wd55 hw) (wd56 hw) (wd57 hw) (wd1 hw) XA.recv rfl (clearMapRow_M_ok hw K x1_25 s38) rfl (fun _ s41 => ?_)
  show GQ (XA l Z n0 CN FF cv h0) create_I _ _ 44 [some (Rf 0), some (I x1_25)] [] s41 _
  refine GQ.iloadN (pc' := 45) create_d44 rfl rfl ?_
  exact GQ.iret rfl create_d45
def isValidFile_I : Mi := (⟨"ShrinkRelocator", "isValidFile", "(I)Z"⟩, prog_1_method_22_code, 2, (some .boolean), 0, 0)
theorem isValidFile_d0 : decode isValidFile_I.2.1 0 = .ok (.iload_n 1, 1) := by decide +kernel
theorem isValidFile_d1 : decode isValidFile_I.2.1 1 = .ok (.ifCond .lt 17, 3) := by decide +kernel
theorem isValidFile_d4 : decode isValidFile_I.2.1 4 = .ok (.iload_n 1, 1) := by decide +kernel
theorem isValidFile_d5 : decode isValidFile_I.2.1 5 = .ok (.aload_n 0, 1) := by decide +kernel
theorem isValidFile_d6 : decode isValidFile_I.2.1 6 = .ok (.getfield 52, 3) := by decide +kernel
theorem isValidFile_d9 : decode isValidFile_I.2.1 9 = .ok (.if_icmp .ge 9, 3) := by decide +kernel
theorem isValidFile_d12 : decode isValidFile_I.2.1 12 = .ok (.iload_n 1, 1) := by decide +kernel
theorem isValidFile_d13 : decode isValidFile_I.2.1 13 = .ok (.bipush 8, 2) := by decide +kernel
theorem isValidFile_d15 : decode isValidFile_I.2.1 15 = .ok (.if_icmp .lt 5, 3) := by decide +kernel
theorem isValidFile_d18 : decode isValidFile_I.2.1 18 = .ok (.iconst 0, 1) := by decide +kernel
theorem isValidFile_d19 : decode isValidFile_I.2.1 19 = .ok (.ireturn, 1) := by decide +kernel
theorem isValidFile_d20 : decode isValidFile_I.2.1 20 = .ok (.aload_n 0, 1) := by decide +kernel
theorem isValidFile_d21 : decode isValidFile_I.2.1 21 = .ok (.getfield 22, 3) := by decide +kernel
theorem isValidFile_d24 : decode isValidFile_I.2.1 24 = .ok (.iload_n 1, 1) := by decide +kernel
theorem isValidFile_d25 : decode isValidFile_I.2.1 25 = .ok (.baload, 1) := by decide +kernel
theorem isValidFile_d26 : decode isValidFile_I.2.1 26 = .ok (.ireturn, 1) := by decide +kernel
theorem isValidFile_p : parseMethodDescriptor isValidFile_I.1.desc = some ⟨[.int], (some .boolean)⟩ := by decide +kernel
theorem isValidFile_K {a0 : Array Value} {Z : State} {M : Mi} (hw : Words a0 Z) (h : isValidFile_I.2.2.2.2.1 + 1 ≤ M.2.2.2.2.1) : Callee a0 Z M isValidFile_I 1 := ⟨pnC, (wd72 hw), (wd2 hw), h, by decide, fun sig q => by cases isValidFile_p.symm.trans q; rfl⟩
set_option maxRecDepth 65536 in
set_option maxHeartbeats 4000000 in
theorem isValidFile_M_ok {l : Launch} {Z : State} {a0 : Array Value} {n0 : Nat} {cv : Nat → Nat} {h0 : Heap} (hw : Words a0 Z) (K : KA a0 Z n0 CN nI FF cv) (x1 : Int) (s : Obj) : GQ (XA l Z n0 CN FF cv h0) isValidFile_I 0 0 0 (entry [Rf 0, I x1] isValidFile_I.2.2.1) [] s (isValidFile_M x1 s) := by
  show GQ _ _ _ _ 0 [some (Rf 0), some (I x1)] [] _ _
  unfold isValidFile_M
  refine GQ.iloadN (pc' := 1) isValidFile_d0 rfl rfl ?_
  refine GQ.ifT (pcT := 18) (pcF := 4) h_lt isValidFile_d1 rfl rfl rfl ?_ ?_
  · refine GQ.iconst (pc' := 19) isValidFile_d18 rfl rfl ?_
    exact GQ.zret rfl isValidFile_d19
  refine GQ.iloadN (pc' := 5) isValidFile_d4 rfl rfl ?_
  refine GQ.aloadN (pc' := 6) isValidFile_d5 rfl rfl ?_
  refine GQ.getI (M := isValidFile_I) (k := 6) (pc' := 9) rfl (wd39 hw) isValidFile_d6 rfl ?_
  refine GQ.icmpF (pcT := 18) (pcF := 12) h_ge isValidFile_d9 rfl rfl rfl ?_ ?_
  · refine GQ.iconst (pc' := 19) isValidFile_d18 rfl rfl ?_
    exact GQ.zret rfl isValidFile_d19
  refine GQ.iloadN (pc' := 13) isValidFile_d12 rfl rfl ?_
  refine GQ.bipush (pc' := 15) isValidFile_d13 rfl rfl ?_
  refine GQ.icmpT (pcT := 20) (pcF := 18) h_lt isValidFile_d15 rfl rfl rfl ?_ ?_
  · refine GQ.aloadN (pc' := 21) isValidFile_d20 rfl rfl ?_
    refine GQ.getA (M := isValidFile_I) (k := 10) (pc' := 24) rfl (by decide) (wd18 hw) isValidFile_d21 rfl ?_
    refine GQ.iloadN (pc' := 25) isValidFile_d24 rfl rfl ?_
    refine GQ.rd (k := 10) (ins := .baload) (pc' := 26) rfl (by decide) (Or.inr (Or.inr (Or.inl ⟨rfl, rfl⟩))) isValidFile_d25 rfl (fun z25 => ?_)
    exact GQ.zret rfl isValidFile_d26
  refine GQ.iconst (pc' := 19) isValidFile_d18 rfl rfl ?_
  exact GQ.zret rfl isValidFile_d19
def needsNewBlock_I : Mi := (⟨"ShrinkRelocator", "needsNewBlock", "(II)Z"⟩, prog_1_method_25_code, 3, (some .boolean), 0, 0)
theorem needsNewBlock_d0 : decode needsNewBlock_I.2.1 0 = .ok (.iload_n 2, 1) := by decide +kernel
theorem needsNewBlock_d1 : decode needsNewBlock_I.2.1 1 = .ok (.iload_n 1, 1) := by decide +kernel
theorem needsNewBlock_d2 : decode needsNewBlock_I.2.1 2 = .ok (.if_icmp .ne 16, 3) := by decide +kernel
theorem needsNewBlock_d5 : decode needsNewBlock_I.2.1 5 = .ok (.iload_n 1, 1) := by decide +kernel
theorem needsNewBlock_d6 : decode needsNewBlock_I.2.1 6 = .ok (.aload_n 0, 1) := by decide +kernel
theorem needsNewBlock_d7 : decode needsNewBlock_I.2.1 7 = .ok (.getfield 49, 3) := by decide +kernel
theorem needsNewBlock_d10 : decode needsNewBlock_I.2.1 10 = .ok (.irem, 1) := by decide +kernel
theorem needsNewBlock_d11 : decode needsNewBlock_I.2.1 11 = .ok (.ifCond .ne 7, 3) := by decide +kernel
theorem needsNewBlock_d14 : decode needsNewBlock_I.2.1 14 = .ok (.iconst 1, 1) := by decide +kernel
theorem needsNewBlock_d15 : decode needsNewBlock_I.2.1 15 = .ok (.goto 4, 3) := by decide +kernel
theorem needsNewBlock_d18 : decode needsNewBlock_I.2.1 18 = .ok (.iconst 0, 1) := by decide +kernel
theorem needsNewBlock_d19 : decode needsNewBlock_I.2.1 19 = .ok (.ireturn, 1) := by decide +kernel
theorem needsNewBlock_p : parseMethodDescriptor needsNewBlock_I.1.desc = some ⟨[.int, .int], (some .boolean)⟩ := by decide +kernel
theorem needsNewBlock_K {a0 : Array Value} {Z : State} {M : Mi} (hw : Words a0 Z) (h : needsNewBlock_I.2.2.2.2.1 + 1 ≤ M.2.2.2.2.1) : Callee a0 Z M needsNewBlock_I 2 := ⟨pnC, (wd76 hw), (wd2 hw), h, by decide, fun sig q => by cases needsNewBlock_p.symm.trans q; rfl⟩
set_option maxRecDepth 65536 in
set_option maxHeartbeats 4000000 in
theorem needsNewBlock_M_ok {l : Launch} {Z : State} {a0 : Array Value} {n0 : Nat} {cv : Nat → Nat} {h0 : Heap} (hw : Words a0 Z) (K : KA a0 Z n0 CN nI FF cv) (x1 : Int) (x2 : Int) (s : Obj) : GQ (XA l Z n0 CN FF cv h0) needsNewBlock_I 0 0 0 (entry [Rf 0, I x1, I x2] needsNewBlock_I.2.2.1) [] s (needsNewBlock_M x1 x2 s) := by
  show GQ _ _ _ _ 0 [some (Rf 0), some (I x1), some (I x2)] [] _ _
  unfold needsNewBlock_M
  refine GQ.iloadN (pc' := 1) needsNewBlock_d0 rfl rfl ?_
  refine GQ.iloadN (pc' := 2) needsNewBlock_d1 rfl rfl ?_
  refine GQ.icmpF (pcT := 18) (pcF := 5) h_ne needsNewBlock_d2 rfl rfl rfl ?_ ?_
  · refine GQ.iconst (pc' := 19) needsNewBlock_d18 rfl rfl ?_
    exact GQ.zret rfl needsNewBlock_d19
  refine GQ.iloadN (pc' := 6) needsNewBlock_d5 rfl rfl ?_
  refine GQ.aloadN (pc' := 7) needsNewBlock_d6 rfl rfl ?_
  refine GQ.getI (M := needsNewBlock_I) (k := 5) (pc' := 10) rfl (wd37 hw) needsNewBlock_d7 rfl ?_
  refine GQ.irem (pc' := 11) needsNewBlock_d10 rfl ?_
  refine GQ.ifF (pcT := 18) (pcF := 14) h_ne needsNewBlock_d11 rfl rfl rfl ?_ ?_
  · refine GQ.iconst (pc' := 19) needsNewBlock_d18 rfl rfl ?_
    exact GQ.zret rfl needsNewBlock_d19
  refine GQ.iconst (pc' := 15) needsNewBlock_d14 rfl rfl ?_
  refine GQ.goto (pc' := 19) needsNewBlock_d15 rfl rfl ?_
  exact GQ.zret rfl needsNewBlock_d19
def blocksFor_I : Mi := (⟨"ShrinkRelocator", "blocksFor", "(I)I"⟩, prog_1_method_23_code, 2, (some .int), 0, 0)
theorem blocksFor_d0 : decode blocksFor_I.2.1 0 = .ok (.iload_n 1, 1) := by decide +kernel
theorem blocksFor_d1 : decode blocksFor_I.2.1 1 = .ok (.ifCond .gt 5, 3) := by decide +kernel
theorem blocksFor_d4 : decode blocksFor_I.2.1 4 = .ok (.iconst 0, 1) := by decide +kernel
theorem blocksFor_d5 : decode blocksFor_I.2.1 5 = .ok (.ireturn, 1) := by decide +kernel
theorem blocksFor_d6 : decode blocksFor_I.2.1 6 = .ok (.iload_n 1, 1) := by decide +kernel
theorem blocksFor_d7 : decode blocksFor_I.2.1 7 = .ok (.aload_n 0, 1) := by decide +kernel
theorem blocksFor_d8 : decode blocksFor_I.2.1 8 = .ok (.getfield 49, 3) := by decide +kernel
theorem blocksFor_d11 : decode blocksFor_I.2.1 11 = .ok (.iadd, 1) := by decide +kernel
theorem blocksFor_d12 : decode blocksFor_I.2.1 12 = .ok (.iconst 1, 1) := by decide +kernel
theorem blocksFor_d13 : decode blocksFor_I.2.1 13 = .ok (.isub, 1) := by decide +kernel
theorem blocksFor_d14 : decode blocksFor_I.2.1 14 = .ok (.aload_n 0, 1) := by decide +kernel
theorem blocksFor_d15 : decode blocksFor_I.2.1 15 = .ok (.getfield 49, 3) := by decide +kernel
theorem blocksFor_d18 : decode blocksFor_I.2.1 18 = .ok (.idiv, 1) := by decide +kernel
theorem blocksFor_d19 : decode blocksFor_I.2.1 19 = .ok (.ireturn, 1) := by decide +kernel
theorem blocksFor_p : parseMethodDescriptor blocksFor_I.1.desc = some ⟨[.int], (some .int)⟩ := by decide +kernel
theorem blocksFor_K {a0 : Array Value} {Z : State} {M : Mi} (hw : Words a0 Z) (h : blocksFor_I.2.2.2.2.1 + 1 ≤ M.2.2.2.2.1) : Callee a0 Z M blocksFor_I 1 := ⟨pnC, (wd84 hw), (wd2 hw), h, by decide, fun sig q => by cases blocksFor_p.symm.trans q; rfl⟩
set_option maxRecDepth 65536 in
set_option maxHeartbeats 4000000 in
theorem blocksFor_M_ok {l : Launch} {Z : State} {a0 : Array Value} {n0 : Nat} {cv : Nat → Nat} {h0 : Heap} (hw : Words a0 Z) (K : KA a0 Z n0 CN nI FF cv) (x1 : Int) (s : Obj) : GQ (XA l Z n0 CN FF cv h0) blocksFor_I 0 0 0 (entry [Rf 0, I x1] blocksFor_I.2.2.1) [] s (blocksFor_M x1 s) := by
  show GQ _ _ _ _ 0 [some (Rf 0), some (I x1)] [] _ _
  unfold blocksFor_M
  refine GQ.iloadN (pc' := 1) blocksFor_d0 rfl rfl ?_
  refine GQ.ifT (pcT := 6) (pcF := 4) h_gt blocksFor_d1 rfl rfl rfl ?_ ?_
  · refine GQ.iloadN (pc' := 7) blocksFor_d6 rfl rfl ?_
    refine GQ.aloadN (pc' := 8) blocksFor_d7 rfl rfl ?_
    refine GQ.getI (M := blocksFor_I) (k := 5) (pc' := 11) rfl (wd37 hw) blocksFor_d8 rfl ?_
    refine GQ.iadd (pc' := 12) blocksFor_d11 rfl ?_
    refine GQ.iconst (pc' := 13) blocksFor_d12 rfl rfl ?_
    refine GQ.isub (pc' := 14) blocksFor_d13 rfl ?_
    refine GQ.aloadN (pc' := 15) blocksFor_d14 rfl rfl ?_
    refine GQ.getI (M := blocksFor_I) (k := 5) (pc' := 18) rfl (wd37 hw) blocksFor_d15 rfl ?_
    refine GQ.idiv (pc' := 19) blocksFor_d18 rfl ?_
    exact GQ.iret rfl blocksFor_d19
  refine GQ.iconst (pc' := 5) blocksFor_d4 rfl rfl ?_
  exact GQ.iret rfl blocksFor_d5
def bitCount_I : Mi := (⟨"ShrinkRelocator", "bitCount", "(I)I"⟩, prog_1_method_39_code, 3, (some .int), 0, 0)
theorem bitCount_d0 : decode bitCount_I.2.1 0 = .ok (.iload_n 1, 1) := by decide +kernel
theorem bitCount_d1 : decode bitCount_I.2.1 1 = .ok (.iload_n 1, 1) := by decide +kernel
theorem bitCount_d2 : decode bitCount_I.2.1 2 = .ok (.iconst 1, 1) := by decide +kernel
theorem bitCount_d3 : decode bitCount_I.2.1 3 = .ok (.iushr, 1) := by decide +kernel
theorem bitCount_d4 : decode bitCount_I.2.1 4 = .ok (.ldc 144, 2) := by decide +kernel
theorem bitCount_d6 : decode bitCount_I.2.1 6 = .ok (.iand, 1) := by decide +kernel
theorem bitCount_d7 : decode bitCount_I.2.1 7 = .ok (.isub, 1) := by decide +kernel
theorem bitCount_d8 : decode bitCount_I.2.1 8 = .ok (.istore_n 2, 1) := by decide +kernel
theorem bitCount_d9 : decode bitCount_I.2.1 9 = .ok (.iload_n 2, 1) := by decide +kernel
theorem bitCount_d10 : decode bitCount_I.2.1 10 = .ok (.ldc 145, 2) := by decide +kernel
theorem bitCount_d12 : decode bitCount_I.2.1 12 = .ok (.iand, 1) := by decide +kernel
theorem bitCount_d13 : decode bitCount_I.2.1 13 = .ok (.iload_n 2, 1) := by decide +kernel
theorem bitCount_d14 : decode bitCount_I.2.1 14 = .ok (.iconst 2, 1) := by decide +kernel
theorem bitCount_d15 : decode bitCount_I.2.1 15 = .ok (.iushr, 1) := by decide +kernel
theorem bitCount_d16 : decode bitCount_I.2.1 16 = .ok (.ldc 145, 2) := by decide +kernel
theorem bitCount_d18 : decode bitCount_I.2.1 18 = .ok (.iand, 1) := by decide +kernel
theorem bitCount_d19 : decode bitCount_I.2.1 19 = .ok (.iadd, 1) := by decide +kernel
theorem bitCount_d20 : decode bitCount_I.2.1 20 = .ok (.istore_n 2, 1) := by decide +kernel
theorem bitCount_d21 : decode bitCount_I.2.1 21 = .ok (.iload_n 2, 1) := by decide +kernel
theorem bitCount_d22 : decode bitCount_I.2.1 22 = .ok (.iload_n 2, 1) := by decide +kernel
theorem bitCount_d23 : decode bitCount_I.2.1 23 = .ok (.iconst 4, 1) := by decide +kernel
theorem bitCount_d24 : decode bitCount_I.2.1 24 = .ok (.iushr, 1) := by decide +kernel
theorem bitCount_d25 : decode bitCount_I.2.1 25 = .ok (.iadd, 1) := by decide +kernel
theorem bitCount_d26 : decode bitCount_I.2.1 26 = .ok (.ldc 146, 2) := by decide +kernel
theorem bitCount_d28 : decode bitCount_I.2.1 28 = .ok (.iand, 1) := by decide +kernel
theorem bitCount_d29 : decode bitCount_I.2.1 29 = .ok (.istore_n 2, 1) := by decide +kernel
theorem bitCount_d30 : decode bitCount_I.2.1 30 = .ok (.iload_n 2, 1) := by decide +kernel
theorem bitCount_d31 : decode bitCount_I.2.1 31 = .ok (.ldc 147, 2) := by decide +kernel
theorem bitCount_d33 : decode bitCount_I.2.1 33 = .ok (.imul, 1) := by decide +kernel
theorem bitCount_d34 : decode bitCount_I.2.1 34 = .ok (.bipush 24, 2) := by decide +kernel
theorem bitCount_d36 : decode bitCount_I.2.1 36 = .ok (.iushr, 1) := by decide +kernel
theorem bitCount_d37 : decode bitCount_I.2.1 37 = .ok (.ireturn, 1) := by decide +kernel
theorem bitCount_p : parseMethodDescriptor bitCount_I.1.desc = some ⟨[.int], (some .int)⟩ := by decide +kernel
theorem bitCount_K {a0 : Array Value} {Z : State} {M : Mi} (hw : Words a0 Z) (h : bitCount_I.2.2.2.2.1 + 1 ≤ M.2.2.2.2.1) : Callee a0 Z M bitCount_I 1 := ⟨pnC, (wd152 hw), (wd2 hw), h, by decide, fun sig q => by cases bitCount_p.symm.trans q; rfl⟩
set_option maxRecDepth 65536 in
set_option maxHeartbeats 4000000 in
theorem bitCount_M_ok {l : Launch} {Z : State} {a0 : Array Value} {n0 : Nat} {cv : Nat → Nat} {h0 : Heap} (hw : Words a0 Z) (K : KA a0 Z n0 CN nI FF cv) (x1 : Int) (s : Obj) : GQ (XA l Z n0 CN FF cv h0) bitCount_I 0 0 0 (entry [Rf 0, I x1] bitCount_I.2.2.1) [] s (bitCount_M x1 s) := by
  show GQ _ _ _ _ 0 [some (Rf 0), some (I x1), none] [] _ _
  unfold bitCount_M
  refine GQ.iloadN (pc' := 1) bitCount_d0 rfl rfl ?_
  refine GQ.iloadN (pc' := 2) bitCount_d1 rfl rfl ?_
  refine GQ.iconst (pc' := 3) bitCount_d2 rfl rfl ?_
  refine GQ.iushr (pc' := 4) bitCount_d3 rfl ?_
  refine GQ.ldc (i := 1431655765) (pc' := 6) bitCount_d4 (wd153 hw) rfl rfl ?_
  refine GQ.iand (pc' := 7) bitCount_d6 rfl ?_
  refine GQ.isub (pc' := 8) bitCount_d7 rfl ?_
  refine GQ.letI (fun x2_8 => ?_)
  refine GQ.istoreN (L' := [some (Rf 0), some (I x1), some (I x2_8)]) (pc' := 9) bitCount_d8 rfl rfl rfl ?_
  refine GQ.iloadN (pc' := 10) bitCount_d9 rfl rfl ?_
  refine GQ.ldc (i := 858993459) (pc' := 12) bitCount_d10 (wd154 hw) rfl rfl ?_
  refine GQ.iand (pc' := 13) bitCount_d12 rfl ?_
  refine GQ.iloadN (pc' := 14) bitCount_d13 rfl rfl ?_
  refine GQ.iconst (pc' := 15) bitCount_d14 rfl rfl ?_
  refine GQ.iushr (pc' := 16) bitCount_d15 rfl ?_
  refine GQ.ldc (i := 858993459) (pc' := 18) bitCount_d16 (wd154 hw) rfl rfl ?_
  refine GQ.iand (pc' := 19) bitCount_d18 rfl ?_
  refine GQ.iadd (pc' := 20) bitCount_d19 rfl ?_
  refine GQ.letI (fun x2_20 => ?_)
  refine GQ.istoreN (L' := [some (Rf 0), some (I x1), some (I x2_20)]) (pc' := 21) bitCount_d20 rfl rfl rfl ?_
  refine GQ.iloadN (pc' := 22) bitCount_d21 rfl rfl ?_
  refine GQ.iloadN (pc' := 23) bitCount_d22 rfl rfl ?_
  refine GQ.iconst (pc' := 24) bitCount_d23 rfl rfl ?_
  refine GQ.iushr (pc' := 25) bitCount_d24 rfl ?_
  refine GQ.iadd (pc' := 26) bitCount_d25 rfl ?_
  refine GQ.ldc (i := 252645135) (pc' := 28) bitCount_d26 (wd155 hw) rfl rfl ?_
  refine GQ.iand (pc' := 29) bitCount_d28 rfl ?_
  refine GQ.letI (fun x2_29 => ?_)
  refine GQ.istoreN (L' := [some (Rf 0), some (I x1), some (I x2_29)]) (pc' := 30) bitCount_d29 rfl rfl rfl ?_
  refine GQ.iloadN (pc' := 31) bitCount_d30 rfl rfl ?_
  refine GQ.ldc (i := 16843009) (pc' := 33) bitCount_d31 (wd156 hw) rfl rfl ?_
  refine GQ.imul (pc' := 34) bitCount_d33 rfl ?_
  refine GQ.bipush (pc' := 36) bitCount_d34 rfl rfl ?_
  refine GQ.iushr (pc' := 37) bitCount_d36 rfl ?_
  exact GQ.iret rfl bitCount_d37
def allocatedCount_I : Mi := (⟨"ShrinkRelocator", "allocatedCount", "()I"⟩, prog_1_method_36_code, 1, (some .int), 1, 14)
theorem allocatedCount_d0 : decode allocatedCount_I.2.1 0 = .ok (.aload_n 0, 1) := by decide +kernel
theorem allocatedCount_d1 : decode allocatedCount_I.2.1 1 = .ok (.aload_n 0, 1) := by decide +kernel
theorem allocatedCount_d2 : decode allocatedCount_I.2.1 2 = .ok (.getfield 62, 3) := by decide +kernel
theorem allocatedCount_d5 : decode allocatedCount_I.2.1 5 = .ok (.invokevirtual 140, 3) := by decide +kernel
theorem allocatedCount_d8 : decode allocatedCount_I.2.1 8 = .ok (.ireturn, 1) := by decide +kernel
theorem allocatedCount_p : parseMethodDescriptor allocatedCount_I.1.desc = some ⟨[], (some .int)⟩ := by decide +kernel
theorem allocatedCount_K {a0 : Array Value} {Z : State} {M : Mi} (hw : Words a0 Z) (h : allocatedCount_I.2.2.2.2.1 + 1 ≤ M.2.2.2.2.1) : Callee a0 Z M allocatedCount_I 0 := ⟨pnC, (wd148 hw), (wd2 hw), h, by decide, fun sig q => by cases allocatedCount_p.symm.trans q; rfl⟩
set_option maxRecDepth 65536 in
set_option maxHeartbeats 4000000 in
theorem allocatedCount_M_ok {l : Launch} {Z : State} {a0 : Array Value} {n0 : Nat} {cv : Nat → Nat} {h0 : Heap} (hw : Words a0 Z) (K : KA a0 Z n0 CN nI FF cv) (s : Obj) : GQ (XA l Z n0 CN FF cv h0) allocatedCount_I 0 0 0 (entry [Rf 0] allocatedCount_I.2.2.1) [] s (allocatedCount_M s) := by
  show GQ _ _ _ _ 0 [some (Rf 0)] [] _ _
  unfold allocatedCount_M
  refine GQ.aloadN (pc' := 1) allocatedCount_d0 rfl rfl ?_
  refine GQ.aloadN (pc' := 2) allocatedCount_d1 rfl rfl ?_
  refine GQ.getI (M := allocatedCount_I) (k := 9) (pc' := 5) rfl (wd45 hw) allocatedCount_d2 rfl ?_
  refine GQ.callP (Mc := bitCount_I) (args0 := [I (s.1 9)]) (S := []) (r := 0) (pc' := 8) (bitCount_K hw (by decide)) rfl allocatedCount_d5 rfl (wd149 hw) (wd150 hw) (wd151 hw) (wd1 hw) XA.recv rfl (bitCount_M_ok hw K (s.1 9) s) rfl (fun z5 s5 => ?_)
  show GQ (XA l Z n0 CN FF cv h0) allocatedCount_I _ _ 8 [some (Rf 0)] [I z5] s5 _
  exact GQ.iret rfl allocatedCount_d8
def lowMask_I : Mi := (⟨"ShrinkRelocator", "lowMask", "(I)I"⟩, prog_1_method_37_code, 2, (some .int), 0, 0)
theorem lowMask_d0 : decode lowMask_I.2.1 0 = .ok (.iload_n 1, 1) := by decide +kernel
theorem lowMask_d1 : decode lowMask_I.2.1 1 = .ok (.ifCond .gt 5, 3) := by decide +kernel
theorem lowMask_d4 : decode lowMask_I.2.1 4 = .ok (.iconst 0, 1) := by decide +kernel
theorem lowMask_d5 : decode lowMask_I.2.1 5 = .ok (.ireturn, 1) := by decide +kernel
theorem lowMask_d6 : decode lowMask_I.2.1 6 = .ok (.iload_n 1, 1) := by decide +kernel
theorem lowMask_d7 : decode lowMask_I.2.1 7 = .ok (.bipush 32, 2) := by decide +kernel
theorem lowMask_d9 : decode lowMask_I.2.1 9 = .ok (.if_icmp .lt 5, 3) := by decide +kernel
theorem lowMask_d12 : decode lowMask_I.2.1 12 = .ok (.iconst (-1), 1) := by decide +kernel
theorem lowMask_d13 : decode lowMask_I.2.1 13 = .ok (.ireturn, 1) := by decide +kernel
theorem lowMask_d14 : decode lowMask_I.2.1 14 = .ok (.iconst 1, 1) := by decide +kernel
theorem lowMask_d15 : decode lowMask_I.2.1 15 = .ok (.iload_n 1, 1) := by decide +kernel
theorem lowMask_d16 : decode lowMask_I.2.1 16 = .ok (.ishl, 1) := by decide +kernel
theorem lowMask_d17 : decode lowMask_I.2.1 17 = .ok (.iconst 1, 1) := by decide +kernel
theorem lowMask_d18 : decode lowMask_I.2.1 18 = .ok (.isub, 1) := by decide +kernel
theorem lowMask_d19 : decode lowMask_I.2.1 19 = .ok (.ireturn, 1) := by decide +kernel
theorem lowMask_p : parseMethodDescriptor lowMask_I.1.desc = some ⟨[.int], (some .int)⟩ := by decide +kernel
theorem lowMask_K {a0 : Array Value} {Z : State} {M : Mi} (hw : Words a0 Z) (h : lowMask_I.2.2.2.2.1 + 1 ≤ M.2.2.2.2.1) : Callee a0 Z M lowMask_I 1 := ⟨pnC, (wd96 hw), (wd2 hw), h, by decide, fun sig q => by cases lowMask_p.symm.trans q; rfl⟩
set_option maxRecDepth 65536 in
set_option maxHeartbeats 4000000 in
theorem lowMask_M_ok {l : Launch} {Z : State} {a0 : Array Value} {n0 : Nat} {cv : Nat → Nat} {h0 : Heap} (hw : Words a0 Z) (K : KA a0 Z n0 CN nI FF cv) (x1 : Int) (s : Obj) : GQ (XA l Z n0 CN FF cv h0) lowMask_I 0 0 0 (entry [Rf 0, I x1] lowMask_I.2.2.1) [] s (lowMask_M x1 s) := by
  show GQ _ _ _ _ 0 [some (Rf 0), some (I x1)] [] _ _
  unfold lowMask_M
  refine GQ.iloadN (pc' := 1) lowMask_d0 rfl rfl ?_
  refine GQ.ifT (pcT := 6) (pcF := 4) h_gt lowMask_d1 rfl rfl rfl ?_ ?_
  · refine GQ.iloadN (pc' := 7) lowMask_d6 rfl rfl ?_
    refine GQ.bipush (pc' := 9) lowMask_d7 rfl rfl ?_
    refine GQ.icmpT (pcT := 14) (pcF := 12) h_lt lowMask_d9 rfl rfl rfl ?_ ?_
    · refine GQ.iconst (pc' := 15) lowMask_d14 rfl rfl ?_
      refine GQ.iloadN (pc' := 16) lowMask_d15 rfl rfl ?_
      refine GQ.ishl (pc' := 17) lowMask_d16 rfl ?_
      refine GQ.iconst (pc' := 18) lowMask_d17 rfl rfl ?_
      refine GQ.isub (pc' := 19) lowMask_d18 rfl ?_
      exact GQ.iret rfl lowMask_d19
    refine GQ.iconst (pc' := 13) lowMask_d12 rfl rfl ?_
    exact GQ.iret rfl lowMask_d13
  refine GQ.iconst (pc' := 5) lowMask_d4 rfl rfl ?_
  exact GQ.iret rfl lowMask_d5
def freeBelow_I : Mi := (⟨"ShrinkRelocator", "freeBelow", "(I)I"⟩, prog_1_method_40_code, 2, (some .int), 1, 14)
theorem freeBelow_d0 : decode freeBelow_I.2.1 0 = .ok (.aload_n 0, 1) := by decide +kernel
theorem freeBelow_d1 : decode freeBelow_I.2.1 1 = .ok (.getfield 62, 3) := by decide +kernel
theorem freeBelow_d4 : decode freeBelow_I.2.1 4 = .ok (.iconst (-1), 1) := by decide +kernel
theorem freeBelow_d5 : decode freeBelow_I.2.1 5 = .ok (.ixor, 1) := by decide +kernel
theorem freeBelow_d6 : decode freeBelow_I.2.1 6 = .ok (.aload_n 0, 1) := by decide +kernel
theorem freeBelow_d7 : decode freeBelow_I.2.1 7 = .ok (.iload_n 1, 1) := by decide +kernel
theorem freeBelow_d8 : decode freeBelow_I.2.1 8 = .ok (.invokevirtual 148, 3) := by decide +kernel
theorem freeBelow_d11 : decode freeBelow_I.2.1 11 = .ok (.iand, 1) := by decide +kernel
theorem freeBelow_d12 : decode freeBelow_I.2.1 12 = .ok (.ireturn, 1) := by decide +kernel
theorem freeBelow_p : parseMethodDescriptor freeBelow_I.1.desc = some ⟨[.int], (some .int)⟩ := by decide +kernel
theorem freeBelow_K {a0 : Array Value} {Z : State} {M : Mi} (hw : Words a0 Z) (h : freeBelow_I.2.2.2.2.1 + 1 ≤ M.2.2.2.2.1) : Callee a0 Z M freeBelow_I 1 := ⟨pnC, (wd92 hw), (wd2 hw), h, by decide, fun sig q => by cases freeBelow_p.symm.trans q; rfl⟩
set_option maxRecDepth 65536 in
set_option maxHeartbeats 4000000 in
theorem freeBelow_M_ok {l : Launch} {Z : State} {a0 : Array Value} {n0 : Nat} {cv : Nat → Nat} {h0 : Heap} (hw : Words a0 Z) (K : KA a0 Z n0 CN nI FF cv) (x1 : Int) (s : Obj) : GQ (XA l Z n0 CN FF cv h0) freeBelow_I 0 0 0 (entry [Rf 0, I x1] freeBelow_I.2.2.1) [] s (freeBelow_M x1 s) := by
  show GQ _ _ _ _ 0 [some (Rf 0), some (I x1)] [] _ _
  unfold freeBelow_M
  refine GQ.aloadN (pc' := 1) freeBelow_d0 rfl rfl ?_
  refine GQ.getI (M := freeBelow_I) (k := 9) (pc' := 4) rfl (wd45 hw) freeBelow_d1 rfl ?_
  refine GQ.iconst (pc' := 5) freeBelow_d4 rfl rfl ?_
  refine GQ.ixor (pc' := 6) freeBelow_d5 rfl ?_
  refine GQ.aloadN (pc' := 7) freeBelow_d6 rfl rfl ?_
  refine GQ.iloadN (pc' := 8) freeBelow_d7 rfl rfl ?_
  refine GQ.callP (Mc := lowMask_I) (args0 := [I x1]) (S := [I (aXor (s.1 9) (-1))]) (r := 0) (pc' := 11) (lowMask_K hw (by decide)) rfl freeBelow_d8 rfl (wd93 hw) (wd94 hw) (wd95 hw) (wd1 hw) XA.recv rfl (lowMask_M_ok hw K x1 s) rfl (fun z8 s8 => ?_)
  show GQ (XA l Z n0 CN FF cv h0) freeBelow_I _ _ 11 [some (Rf 0), some (I x1)] [I z8, I (aXor (s.1 9) (-1))] s8 _
  refine GQ.iand (pc' := 12) freeBelow_d11 rfl ?_
  exact GQ.iret rfl freeBelow_d12
def lowestBit_I : Mi := (⟨"ShrinkRelocator", "lowestBit", "(I)I"⟩, prog_1_method_38_code, 4, (some .int), 0, 0)
theorem lowestBit_d0 : decode lowestBit_I.2.1 0 = .ok (.iload_n 1, 1) := by decide +kernel
theorem lowestBit_d1 : decode lowestBit_I.2.1 1 = .ok (.ifCond .ne 5, 3) := by decide +kernel
theorem lowestBit_d4 : decode lowestBit_I.2.1 4 = .ok (.iconst (-1), 1) := by decide +kernel
theorem lowestBit_d5 : decode lowestBit_I.2.1 5 = .ok (.ireturn, 1) := by decide +kernel
theorem lowestBit_d6 : decode lowestBit_I.2.1 6 = .ok (.iload_n 1, 1) := by decide +kernel
theorem lowestBit_d7 : decode lowestBit_I.2.1 7 = .ok (.iload_n 1, 1) := by decide +kernel
theorem lowestBit_d8 : decode lowestBit_I.2.1 8 = .ok (.ineg, 1) := by decide +kernel
theorem lowestBit_d9 : decode lowestBit_I.2.1 9 = .ok (.iand, 1) := by decide +kernel
theorem lowestBit_d10 : decode lowestBit_I.2.1 10 = .ok (.istore_n 2, 1) := by decide +kernel
theorem lowestBit_d11 : decode lowestBit_I.2.1 11 = .ok (.iconst 0, 1) := by decide +kernel
theorem lowestBit_d12 : decode lowestBit_I.2.1 12 = .ok (.istore_n 3, 1) := by decide +kernel
theorem lowestBit_d13 : decode lowestBit_I.2.1 13 = .ok (.iload_n 2, 1) := by decide +kernel
theorem lowestBit_d14 : decode lowestBit_I.2.1 14 = .ok (.ldc 143, 2) := by decide +kernel
theorem lowestBit_d16 : decode lowestBit_I.2.1 16 = .ok (.iand, 1) := by decide +kernel
theorem lowestBit_d17 : decode lowestBit_I.2.1 17 = .ok (.ifCond .ne 11, 3) := by decide +kernel
theorem lowestBit_d20 : decode lowestBit_I.2.1 20 = .ok (.iinc 3 16, 3) := by decide +kernel
theorem lowestBit_d23 : decode lowestBit_I.2.1 23 = .ok (.iload_n 2, 1) := by decide +kernel
theorem lowestBit_d24 : decode lowestBit_I.2.1 24 = .ok (.bipush 16, 2) := by decide +kernel
theorem lowestBit_d26 : decode lowestBit_I.2.1 26 = .ok (.iushr, 1) := by decide +kernel
theorem lowestBit_d27 : decode lowestBit_I.2.1 27 = .ok (.istore_n 2, 1) := by decide +kernel
theorem lowestBit_d28 : decode lowestBit_I.2.1 28 = .ok (.iload_n 2, 1) := by decide +kernel
theorem lowestBit_d29 : decode lowestBit_I.2.1 29 = .ok (.sipush 255, 3) := by decide +kernel
theorem lowestBit_d32 : decode lowestBit_I.2.1 32 = .ok (.iand, 1) := by decide +kernel
theorem lowestBit_d33 : decode lowestBit_I.2.1 33 = .ok (.ifCond .ne 11, 3) := by decide +kernel
theorem lowestBit_d36 : decode lowestBit_I.2.1 36 = .ok (.iinc 3 8, 3) := by decide +kernel
theorem lowestBit_d39 : decode lowestBit_I.2.1 39 = .ok (.iload_n 2, 1) := by decide +kernel
theorem lowestBit_d40 : decode lowestBit_I.2.1 40 = .ok (.bipush 8, 2) := by decide +kernel
theorem lowestBit_d42 : decode lowestBit_I.2.1 42 = .ok (.iushr, 1) := by decide +kernel
theorem lowestBit_d43 : decode lowestBit_I.2.1 43 = .ok (.istore_n 2, 1) := by decide +kernel
theorem lowestBit_d44 : decode lowestBit_I.2.1 44 = .ok (.iload_n 2, 1) := by decide +kernel
theorem lowestBit_d45 : decode lowestBit_I.2.1 45 = .ok (.bipush 15, 2) := by decide +kernel
theorem lowestBit_d47 : decode lowestBit_I.2.1 47 = .ok (.iand, 1) := by decide +kernel
theorem lowestBit_d48 : decode lowestBit_I.2.1 48 = .ok (.ifCond .ne 10, 3) := by decide +kernel
theorem lowestBit_d51 : decode lowestBit_I.2.1 51 = .ok (.iinc 3 4, 3) := by decide +kernel
theorem lowestBit_d54 : decode lowestBit_I.2.1 54 = .ok (.iload_n 2, 1) := by decide +kernel
theorem lowestBit_d55 : decode lowestBit_I.2.1 55 = .ok (.iconst 4, 1) := by decide +kernel
theorem lowestBit_d56 : decode lowestBit_I.2.1 56 = .ok (.iushr, 1) := by decide +kernel
theorem lowestBit_d57 : decode lowestBit_I.2.1 57 = .ok (.istore_n 2, 1) := by decide +kernel
theorem lowestBit_d58 : decode lowestBit_I.2.1 58 = .ok (.iload_n 2, 1) := by decide +kernel
theorem lowestBit_d59 : decode lowestBit_I.2.1 59 = .ok (.iconst 3, 1) := by decide +kernel
theorem lowestBit_d60 : decode lowestBit_I.2.1 60 = .ok (.iand, 1) := by decide +kernel
theorem lowestBit_d61 : decode lowestBit_I.2.1 61 = .ok (.ifCond .ne 10, 3) := by decide +kernel
theorem lowestBit_d64 : decode lowestBit_I.2.1 64 = .ok (.iinc 3 2, 3) := by decide +kernel
theorem lowestBit_d67 : decode lowestBit_I.2.1 67 = .ok (.iload_n 2, 1) := by decide +kernel
theorem lowestBit_d68 : decode lowestBit_I.2.1 68 = .ok (.iconst 2, 1) := by decide +kernel
theorem lowestBit_d69 : decode lowestBit_I.2.1 69 = .ok (.iushr, 1) := by decide +kernel
theorem lowestBit_d70 : decode lowestBit_I.2.1 70 = .ok (.istore_n 2, 1) := by decide +kernel
theorem lowestBit_d71 : decode lowestBit_I.2.1 71 = .ok (.iload_n 2, 1) := by decide +kernel
theorem lowestBit_d72 : decode lowestBit_I.2.1 72 = .ok (.iconst 1, 1) := by decide +kernel
theorem lowestBit_d73 : decode lowestBit_I.2.1 73 = .ok (.iand, 1) := by decide +kernel
theorem lowestBit_d74 : decode lowestBit_I.2.1 74 = .ok (.ifCond .ne 6, 3) := by decide +kernel
theorem lowestBit_d77 : decode lowestBit_I.2.1 77 = .ok (.iinc 3 1, 3) := by decide +kernel
theorem lowestBit_d80 : decode lowestBit_I.2.1 80 = .ok (.iload_n 3, 1) := by decide +kernel
theorem lowestBit_d81 : decode lowestBit_I.2.1 81 = .ok (.ireturn, 1) := by decide +kernel
theorem lowestBit_p : parseMethodDescriptor lowestBit_I.1.desc = some ⟨[.int], (some .int)⟩ := by decide +kernel
theorem lowestBit_K {a0 : Array Value} {Z : State} {M : Mi} (hw : Words a0 Z) (h : lowestBit_I.2.2.2.2.1 + 1 ≤ M.2.2.2.2.1) : Callee a0 Z M lowestBit_I 1 := ⟨pnC, (wd100 hw), (wd2 hw), h, by decide, fun sig q => by cases lowestBit_p.symm.trans q; rfl⟩
set_option maxRecDepth 65536 in
set_option maxHeartbeats 4000000 in
theorem lowestBit_j71_ok {l : Launch} {Z : State} {a0 : Array Value} {n0 : Nat} {cv : Nat → Nat} {h0 : Heap} (hw : Words a0 Z) (K : KA a0 Z n0 CN nI FF cv) (x2 : Int) (x3 : Int) (s : Obj) : GQ (XA l Z n0 CN FF cv h0) lowestBit_I 0 0 71 [none, none, some (I x2), some (I x3)] [] s (lowestBit_j71 x2 x3 s) := by
  unfold lowestBit_j71
  refine GQ.iloadN (pc' := 72) lowestBit_d71 rfl rfl ?_
  refine GQ.iconst (pc' := 73) lowestBit_d72 rfl rfl ?_
  refine GQ.iand (pc' := 74) lowestBit_d73 rfl ?_
  refine GQ.ifF (pcT := 80) (pcF := 77) h_ne lowestBit_d74 rfl rfl rfl ?_ ?_
  · refine GQ.iloadN (pc' := 81) lowestBit_d80 rfl rfl ?_
    exact GQ.iret rfl lowestBit_d81
  refine GQ.iinc (L' := [none, none, some (I x2), some (I (aAdd x3 1))]) (pc' := 80) lowestBit_d77 rfl rfl rfl rfl ?_
  refine GQ.iloadN (pc' := 81) lowestBit_d80 rfl rfl ?_
  exact GQ.iret rfl lowestBit_d81
set_option maxRecDepth 65536 in
set_option maxHeartbeats 4000000 in
theorem lowestBit_j58_ok {l : Launch} {Z : State} {a0 : Array Value} {n0 : Nat} {cv : Nat → Nat} {h0 : Heap} (hw : Words a0 Z) (K : KA a0 Z n0 CN nI FF cv) (x2 : Int) (x3 : Int) (s : Obj) : GQ (XA l Z n0 CN FF cv h0) lowestBit_I 0 0 58 [none, none, some (I x2), some (I x3)] [] s (lowestBit_j58 x2 x3 s) := by
  unfold lowestBit_j58
  refine GQ.iloadN (pc' := 59) lowestBit_d58 rfl rfl ?_
  refine GQ.iconst (pc' := 60) lowestBit_d59 rfl rfl ?_
  refine GQ.iand (pc' := 61) lowestBit_d60 rfl ?_
  refine GQ.ifF (pcT := 71) (pcF := 64) h_ne lowestBit_d61 rfl rfl rfl ?_ ?_
  · exact lowestBit_j71_ok hw K x2 x3 s
  refine GQ.iinc (L' := [none, none, some (I x2), some (I (aAdd x3 2))]) (pc' := 67) lowestBit_d64 rfl rfl rfl rfl ?_
  refine GQ.iloadN (pc' := 68) lowestBit_d67 rfl rfl ?_
  refine GQ.iconst (pc' := 69) lowestBit_d68 rfl rfl ?_
  refine GQ.iushr (pc' := 70) lowestBit_d69 rfl ?_
  refine GQ.letI (fun x2_70 => ?_)
  refine GQ.istoreN (L' := [none, none, some (I x2_70), some (I (aAdd x3 2))]) (pc' := 71) lowestBit_d70 rfl rfl rfl ?_
  exact lowestBit_j71_ok hw K x2_70 (aAdd x3 2) s
set_option maxRecDepth 65536 in
set_option maxHeartbeats 4000000 in
theorem lowestBit_j44_ok {l : Launch} {Z : State} {a0 : Array Value} {n0 : Nat} {cv : Nat → Nat} {h0 : Heap} (hw : Words a0 Z) (K : KA a0 Z n0 CN nI FF cv) (x2 : Int) (x3 : Int) (s : Obj) : GQ (XA l Z n0 CN FF cv h0) lowestBit_I 0 0 44 [none, none, some (I x2), some (I x3)] [] s (lowestBit_j44 x2 x3 s) := by
  unfold lowestBit_j44
  refine GQ.iloadN (pc' := 45) lowestBit_d44 rfl rfl ?_
  refine GQ.bipush (pc' := 47) lowestBit_d45 rfl rfl ?_
  refine GQ.iand (pc' := 48) lowestBit_d47 rfl ?_
  refine GQ.ifF (pcT := 58) (pcF := 51) h_ne lowestBit_d48 rfl rfl rfl ?_ ?_
  · exact lowestBit_j58_ok hw K x2 x3 s
  refine GQ.iinc (L' := [none, none, some (I x2), some (I (aAdd x3 4))]) (pc' := 54) lowestBit_d51 rfl rfl rfl rfl ?_
  refine GQ.iloadN (pc' := 55) lowestBit_d54 rfl rfl ?_
  refine GQ.iconst (pc' := 56) lowestBit_d55 rfl rfl ?_
  refine GQ.iushr (pc' := 57) lowestBit_d56 rfl ?_
  refine GQ.letI (fun x2_57 => ?_)
  refine GQ.istoreN (L' := [none, none, some (I x2_57), some (I (aAdd x3 4))]) (pc' := 58) lowestBit_d57 rfl rfl rfl ?_
  exact lowestBit_j58_ok hw K x2_57 (aAdd x3 4) s
set_option maxRecDepth 65536 in
set_option maxHeartbeats 4000000 in
theorem lowestBit_j28_ok {l : Launch} {Z : State} {a0 : Array Value} {n0 : Nat} {cv : Nat → Nat} {h0 : Heap} (hw : Words a0 Z) (K : KA a0 Z n0 CN nI FF cv) (x2 : Int) (x3 : Int) (s : Obj) : GQ (XA l Z n0 CN FF cv h0) lowestBit_I 0 0 28 [none, none, some (I x2), some (I x3)] [] s (lowestBit_j28 x2 x3 s) := by
  unfold lowestBit_j28
  refine GQ.iloadN (pc' := 29) lowestBit_d28 rfl rfl ?_
  refine GQ.sipush (pc' := 32) lowestBit_d29 rfl rfl ?_
  refine GQ.iand (pc' := 33) lowestBit_d32 rfl ?_
  refine GQ.ifF (pcT := 44) (pcF := 36) h_ne lowestBit_d33 rfl rfl rfl ?_ ?_
  · exact lowestBit_j44_ok hw K x2 x3 s
  refine GQ.iinc (L' := [none, none, some (I x2), some (I (aAdd x3 8))]) (pc' := 39) lowestBit_d36 rfl rfl rfl rfl ?_
  refine GQ.iloadN (pc' := 40) lowestBit_d39 rfl rfl ?_
  refine GQ.bipush (pc' := 42) lowestBit_d40 rfl rfl ?_
  refine GQ.iushr (pc' := 43) lowestBit_d42 rfl ?_
  refine GQ.letI (fun x2_43 => ?_)
  refine GQ.istoreN (L' := [none, none, some (I x2_43), some (I (aAdd x3 8))]) (pc' := 44) lowestBit_d43 rfl rfl rfl ?_
  exact lowestBit_j44_ok hw K x2_43 (aAdd x3 8) s
set_option maxRecDepth 65536 in
set_option maxHeartbeats 4000000 in
theorem lowestBit_M_ok {l : Launch} {Z : State} {a0 : Array Value} {n0 : Nat} {cv : Nat → Nat} {h0 : Heap} (hw : Words a0 Z) (K : KA a0 Z n0 CN nI FF cv) (x1 : Int) (s : Obj) : GQ (XA l Z n0 CN FF cv h0) lowestBit_I 0 0 0 (entry [Rf 0, I x1] lowestBit_I.2.2.1) [] s (lowestBit_M x1 s) := by
  show GQ _ _ _ _ 0 [some (Rf 0), some (I x1), none, none] [] _ _
  unfold lowestBit_M
  refine GQ.iloadN (pc' := 1) lowestBit_d0 rfl rfl ?_
  refine GQ.ifF (pcT := 6) (pcF := 4) h_ne lowestBit_d1 rfl rfl rfl ?_ ?_
  · refine GQ.iloadN (pc' := 7) lowestBit_d6 rfl rfl ?_
    refine GQ.iloadN (pc' := 8) lowestBit_d7 rfl rfl ?_
    refine GQ.ineg (pc' := 9) lowestBit_d8 rfl ?_
    refine GQ.iand (pc' := 10) lowestBit_d9 rfl ?_
    refine GQ.letI (fun x2_10 => ?_)
    refine GQ.istoreN (L' := [some (Rf 0), some (I x1), some (I x2_10), none]) (pc' := 11) lowestBit_d10 rfl rfl rfl ?_
    refine GQ.iconst (pc' := 12) lowestBit_d11 rfl rfl ?_
    refine GQ.istoreN (L' := [some (Rf 0), some (I x1), some (I x2_10), some (I 0)]) (pc' := 13) lowestBit_d12 rfl rfl rfl ?_
    refine GQ.iloadN (pc' := 14) lowestBit_d13 rfl rfl ?_
    refine GQ.ldc (i := 65535) (pc' := 16) lowestBit_d14 (wd101 hw) rfl rfl ?_
    refine GQ.iand (pc' := 17) lowestBit_d16 rfl ?_
    refine GQ.ifF (pcT := 28) (pcF := 20) h_ne lowestBit_d17 rfl rfl rfl ?_ ?_
    · refine GQ.weak (L' := [none, none, some (I x2_10), some (I 0)]) (Sub.drop (Sub.drop (Sub.keep (Sub.keep Sub.nil)))) ?_
      exact lowestBit_j28_ok hw K x2_10 0 s
    refine GQ.iinc (L' := [some (Rf 0), some (I x1), some (I x2_10), some (I (aAdd 0 16))]) (pc' := 23) lowestBit_d20 rfl rfl rfl rfl ?_
    refine GQ.iloadN (pc' := 24) lowestBit_d23 rfl rfl ?_
    refine GQ.bipush (pc' := 26) lowestBit_d24 rfl rfl ?_
    refine GQ.iushr (pc' := 27) lowestBit_d26 rfl ?_
    refine GQ.letI (fun x2_27 => ?_)
    refine GQ.istoreN (L' := [some (Rf 0), some (I x1), some (I x2_27), some (I (aAdd 0 16))]) (pc' := 28) lowestBit_d27 rfl rfl rfl ?_
    refine GQ.weak (L' := [none, none, some (I x2_27), some (I (aAdd 0 16))]) (Sub.drop (Sub.drop (Sub.keep (Sub.keep Sub.nil)))) ?_
    exact lowestBit_j28_ok hw K x2_27 (aAdd 0 16) s
  refine GQ.iconst (pc' := 5) lowestBit_d4 rfl rfl ?_
  exact GQ.iret rfl lowestBit_d5
def allocateBlock_I : Mi := (⟨"ShrinkRelocator", "allocateBlock", "()I"⟩, prog_1_method_42_code, 3, (some .int), 2, 27)
theorem allocateBlock_d0 : decode allocateBlock_I.2.1 0 = .ok (.aload_n 0, 1) := by decide +kernel
theorem allocateBlock_d1 : decode allocateBlock_I.2.1 1 = .ok (.getfield 46, 3) := by decide +kernel
theorem allocateBlock_d4 : decode allocateBlock_I.2.1 4 = .ok (.istore_n 1, 1) := by decide +kernel
theorem allocateBlock_d5 : decode allocateBlock_I.2.1 5 = .ok (.aload_n 0, 1) := by decide +kernel
theorem allocateBlock_d6 : decode allocateBlock_I.2.1 6 = .ok (.getfield 55, 3) := by decide +kernel
theorem allocateBlock_d9 : decode allocateBlock_I.2.1 9 = .ok (.ifCond .eq 21, 3) := by decide +kernel
theorem allocateBlock_d12 : decode allocateBlock_I.2.1 12 = .ok (.aload_n 0, 1) := by decide +kernel
theorem allocateBlock_d13 : decode allocateBlock_I.2.1 13 = .ok (.invokevirtual 102, 3) := by decide +kernel
theorem allocateBlock_d16 : decode allocateBlock_I.2.1 16 = .ok (.aload_n 0, 1) := by decide +kernel
theorem allocateBlock_d17 : decode allocateBlock_I.2.1 17 = .ok (.getfield 59, 3) := by decide +kernel
theorem allocateBlock_d20 : decode allocateBlock_I.2.1 20 = .ok (.if_icmp .lt 5, 3) := by decide +kernel
theorem allocateBlock_d23 : decode allocateBlock_I.2.1 23 = .ok (.iconst (-1), 1) := by decide +kernel
theorem allocateBlock_d24 : decode allocateBlock_I.2.1 24 = .ok (.ireturn, 1) := by decide +kernel
theorem allocateBlock_d25 : decode allocateBlock_I.2.1 25 = .ok (.aload_n 0, 1) := by decide +kernel
theorem allocateBlock_d26 : decode allocateBlock_I.2.1 26 = .ok (.getfield 59, 3) := by decide +kernel
theorem allocateBlock_d29 : decode allocateBlock_I.2.1 29 = .ok (.istore_n 1, 1) := by decide +kernel
theorem allocateBlock_d30 : decode allocateBlock_I.2.1 30 = .ok (.aload_n 0, 1) := by decide +kernel
theorem allocateBlock_d31 : decode allocateBlock_I.2.1 31 = .ok (.iload_n 1, 1) := by decide +kernel
theorem allocateBlock_d32 : decode allocateBlock_I.2.1 32 = .ok (.invokevirtual 151, 3) := by decide +kernel
theorem allocateBlock_d35 : decode allocateBlock_I.2.1 35 = .ok (.istore_n 2, 1) := by decide +kernel
theorem allocateBlock_d36 : decode allocateBlock_I.2.1 36 = .ok (.aload_n 0, 1) := by decide +kernel
theorem allocateBlock_d37 : decode allocateBlock_I.2.1 37 = .ok (.iload_n 2, 1) := by decide +kernel
theorem allocateBlock_d38 : decode allocateBlock_I.2.1 38 = .ok (.invokevirtual 154, 3) := by decide +kernel
theorem allocateBlock_d41 : decode allocateBlock_I.2.1 41 = .ok (.ireturn, 1) := by decide +kernel
theorem allocateBlock_p : parseMethodDescriptor allocateBlock_I.1.desc = some ⟨[], (some .int)⟩ := by decide +kernel
theorem allocateBlock_K {a0 : Array Value} {Z : State} {M : Mi} (hw : Words a0 Z) (h : allocateBlock_I.2.2.2.2.1 + 1 ≤ M.2.2.2.2.1) : Callee a0 Z M allocateBlock_I 0 := ⟨pnC, (wd88 hw), (wd2 hw), h, by decide, fun sig q => by cases allocateBlock_p.symm.trans q; rfl⟩
set_option maxRecDepth 65536 in
set_option maxHeartbeats 4000000 in
theorem allocateBlock_j30_ok {l : Launch} {Z : State} {a0 : Array Value} {n0 : Nat} {cv : Nat → Nat} {h0 : Heap} (hw : Words a0 Z) (K : KA a0 Z n0 CN nI FF cv) (x1 : Int) (s : Obj) : GQ (XA l Z n0 CN FF cv h0) allocateBlock_I 0 0 30 [some (Rf 0), some (I x1), none] [] s (allocateBlock_j30 x1 s) := by
  unfold allocateBlock_j30
  refine GQ.aloadN (pc' := 31) allocateBlock_d30 rfl rfl ?_
  refine GQ.iloadN (pc' := 32) allocateBlock_d31 rfl rfl ?_
  refine GQ.callP (Mc := freeBelow_I) (args0 := [I x1]) (S := []) (r := 0) (pc' := 35) (freeBelow_K hw (by decide)) rfl allocateBlock_d32 rfl (wd89 hw) (wd90 hw) (wd91 hw) (wd1 hw) XA.recv rfl (freeBelow_M_ok hw K x1 s) rfl (fun z32 s32 => ?_)
  show GQ (XA l Z n0 CN FF cv h0) allocateBlock_I _ _ 35 [some (Rf 0), some (I x1), none] [I z32] s32 _
  refine GQ.istoreN (L' := [some (Rf 0), some (I x1), some (I z32)]) (pc' := 36) allocateBlock_d35 rfl rfl rfl ?_
  refine GQ.aloadN (pc' := 37) allocateBlock_d36 rfl rfl ?_
  refine GQ.iloadN (pc' := 38) allocateBlock_d37 rfl rfl ?_
  refine GQ.callP (Mc := lowestBit_I) (args0 := [I z32]) (S := []) (r := 0) (pc' := 41) (lowestBit_K hw (by decide)) rfl allocateBlock_d38 rfl (wd97 hw) (wd98 hw) (wd99 hw) (wd1 hw) XA.recv rfl (lowestBit_M_ok hw K z32 s32) rfl (fun z38 s38 => ?_)
  show GQ (XA l Z n0 CN FF cv h0) allocateBlock_I _ _ 41 [some (Rf 0), some (I x1), some (I z32)] [I z38] s38 _
  exact GQ.iret rfl allocateBlock_d41
set_option maxRecDepth 65536 in
set_option maxHeartbeats 4000000 in
theorem allocateBlock_M_ok {l : Launch} {Z : State} {a0 : Array Value} {n0 : Nat} {cv : Nat → Nat} {h0 : Heap} (hw : Words a0 Z) (K : KA a0 Z n0 CN nI FF cv) (s : Obj) : GQ (XA l Z n0 CN FF cv h0) allocateBlock_I 0 0 0 (entry [Rf 0] allocateBlock_I.2.2.1) [] s (allocateBlock_M s) := by
  show GQ _ _ _ _ 0 [some (Rf 0), none, none] [] _ _
  unfold allocateBlock_M
  refine GQ.aloadN (pc' := 1) allocateBlock_d0 rfl rfl ?_
  refine GQ.getI (M := allocateBlock_I) (k := 4) (pc' := 4) rfl (wd35 hw) allocateBlock_d1 rfl ?_
  refine GQ.letI (fun x1_4 => ?_)
  refine GQ.istoreN (L' := [some (Rf 0), some (I x1_4), none]) (pc' := 5) allocateBlock_d4 rfl rfl rfl ?_
  refine GQ.aloadN (pc' := 6) allocateBlock_d5 rfl rfl ?_
  refine GQ.getI (M := allocateBlock_I) (k := 7) (pc' := 9) rfl (wd41 hw) allocateBlock_d6 rfl ?_
  refine GQ.ifT (pcT := 30) (pcF := 12) h_eq allocateBlock_d9 rfl rfl rfl ?_ ?_
  · exact allocateBlock_j30_ok hw K x1_4 s
  refine GQ.aloadN (pc' := 13) allocateBlock_d12 rfl rfl ?_
  refine GQ.callP (Mc := allocatedCount_I) (args0 := []) (S := []) (r := 0) (pc' := 16) (allocatedCount_K hw (by decide)) rfl allocateBlock_d13 rfl (wd145 hw) (wd146 hw) (wd147 hw) (wd1 hw) XA.recv rfl (allocatedCount_M_ok hw K s) rfl (fun z13 s13 => ?_)
  show GQ (XA l Z n0 CN FF cv h0) allocateBlock_I _ _ 16 [some (Rf 0), some (I x1_4), none] [I z13] s13 _
  refine GQ.aloadN (pc' := 17) allocateBlock_d16 rfl rfl ?_
  refine GQ.getI (M := allocateBlock_I) (k := 8) (pc' := 20) rfl (wd43 hw) allocateBlock_d17 rfl ?_
  refine GQ.icmpT (pcT := 25) (pcF := 23) h_lt allocateBlock_d20 rfl rfl rfl ?_ ?_
  · refine GQ.aloadN (pc' := 26) allocateBlock_d25 rfl rfl ?_
    refine GQ.getI (M := allocateBlock_I) (k := 8) (pc' := 29) rfl (wd43 hw) allocateBlock_d26 rfl ?_
    refine GQ.letI (fun x1_29 => ?_)
    refine GQ.istoreN (L' := [some (Rf 0), some (I x1_29), none]) (pc' := 30) allocateBlock_d29 rfl rfl rfl ?_
    exact allocateBlock_j30_ok hw K x1_29 s13
  refine GQ.iconst (pc' := 24) allocateBlock_d23 rfl rfl ?_
  exact GQ.iret rfl allocateBlock_d24
def mapSlot_I : Mi := (⟨"ShrinkRelocator", "mapSlot", "(II)I"⟩, prog_1_method_24_code, 3, (some .int), 0, 0)
theorem mapSlot_d0 : decode mapSlot_I.2.1 0 = .ok (.iload_n 1, 1) := by decide +kernel
theorem mapSlot_d1 : decode mapSlot_I.2.1 1 = .ok (.bipush 32, 2) := by decide +kernel
theorem mapSlot_d3 : decode mapSlot_I.2.1 3 = .ok (.imul, 1) := by decide +kernel
theorem mapSlot_d4 : decode mapSlot_I.2.1 4 = .ok (.iload_n 2, 1) := by decide +kernel
theorem mapSlot_d5 : decode mapSlot_I.2.1 5 = .ok (.iadd, 1) := by decide +kernel
theorem mapSlot_d6 : decode mapSlot_I.2.1 6 = .ok (.ireturn, 1) := by decide +kernel
theorem mapSlot_p : parseMethodDescriptor mapSlot_I.1.desc = some ⟨[.int, .int], (some .int)⟩ := by decide +kernel
theorem mapSlot_K {a0 : Array Value} {Z : State} {M : Mi} (hw : Words a0 Z) (h : mapSlot_I.2.2.2.2.1 + 1 ≤ M.2.2.2.2.1) : Callee a0 Z M mapSlot_I 2 := ⟨pnC, (wd109 hw), (wd2 hw), h, by decide, fun sig q => by cases mapSlot_p.symm.trans q; rfl⟩
set_option maxRecDepth 65536 in
set_option maxHeartbeats 4000000 in
theorem mapSlot_M_ok {l : Launch} {Z : State} {a0 : Array Value} {n0 : Nat} {cv : Nat → Nat} {h0 : Heap} (hw : Words a0 Z) (K : KA a0 Z n0 CN nI FF cv) (x1 : Int) (x2 : Int) (s : Obj) : GQ (XA l Z n0 CN FF cv h0) mapSlot_I 0 0 0 (entry [Rf 0, I x1, I x2] mapSlot_I.2.2.1) [] s (mapSlot_M x1 x2 s) := by
  show GQ _ _ _ _ 0 [some (Rf 0), some (I x1), some (I x2)] [] _ _
  unfold mapSlot_M
  refine GQ.iloadN (pc' := 1) mapSlot_d0 rfl rfl ?_
  refine GQ.bipush (pc' := 3) mapSlot_d1 rfl rfl ?_
  refine GQ.imul (pc' := 4) mapSlot_d3 rfl ?_
  refine GQ.iloadN (pc' := 5) mapSlot_d4 rfl rfl ?_
  refine GQ.iadd (pc' := 6) mapSlot_d5 rfl ?_
  exact GQ.iret rfl mapSlot_d6
def markAllocated_I : Mi := (⟨"ShrinkRelocator", "markAllocated", "(III)V"⟩, prog_1_method_34_code, 4, none, 0, 0)
theorem markAllocated_d0 : decode markAllocated_I.2.1 0 = .ok (.iload_n 1, 1) := by decide +kernel
theorem markAllocated_d1 : decode markAllocated_I.2.1 1 = .ok (.ifCond .lt 9, 3) := by decide +kernel
theorem markAllocated_d4 : decode markAllocated_I.2.1 4 = .ok (.iload_n 1, 1) := by decide +kernel
theorem markAllocated_d5 : decode markAllocated_I.2.1 5 = .ok (.bipush 32, 2) := by decide +kernel
theorem markAllocated_d7 : decode markAllocated_I.2.1 7 = .ok (.if_icmp .lt 4, 3) := by decide +kernel
theorem markAllocated_d10 : decode markAllocated_I.2.1 10 = .ok (.return_, 1) := by decide +kernel
theorem markAllocated_d11 : decode markAllocated_I.2.1 11 = .ok (.aload_n 0, 1) := by decide +kernel
theorem markAllocated_d12 : decode markAllocated_I.2.1 12 = .ok (.aload_n 0, 1) := by decide +kernel
theorem markAllocated_d13 : decode markAllocated_I.2.1 13 = .ok (.getfield 62, 3) := by decide +kernel
theorem markAllocated_d16 : decode markAllocated_I.2.1 16 = .ok (.iconst 1, 1) := by decide +kernel
theorem markAllocated_d17 : decode markAllocated_I.2.1 17 = .ok (.iload_n 1, 1) := by decide +kernel
theorem markAllocated_d18 : decode markAllocated_I.2.1 18 = .ok (.ishl, 1) := by decide +kernel
theorem markAllocated_d19 : decode markAllocated_I.2.1 19 = .ok (.ior, 1) := by decide +kernel
theorem markAllocated_d20 : decode markAllocated_I.2.1 20 = .ok (.putfield 62, 3) := by decide +kernel
theorem markAllocated_d23 : decode markAllocated_I.2.1 23 = .ok (.aload_n 0, 1) := by decide +kernel
theorem markAllocated_d24 : decode markAllocated_I.2.1 24 = .ok (.getfield 33, 3) := by decide +kernel
theorem markAllocated_d27 : decode markAllocated_I.2.1 27 = .ok (.iload_n 1, 1) := by decide +kernel
theorem markAllocated_d28 : decode markAllocated_I.2.1 28 = .ok (.iload_n 2, 1) := by decide +kernel
theorem markAllocated_d29 : decode markAllocated_I.2.1 29 = .ok (.iastore, 1) := by decide +kernel
theorem markAllocated_d30 : decode markAllocated_I.2.1 30 = .ok (.aload_n 0, 1) := by decide +kernel
theorem markAllocated_d31 : decode markAllocated_I.2.1 31 = .ok (.getfield 36, 3) := by decide +kernel
theorem markAllocated_d34 : decode markAllocated_I.2.1 34 = .ok (.iload_n 1, 1) := by decide +kernel
theorem markAllocated_d35 : decode markAllocated_I.2.1 35 = .ok (.iload_n 3, 1) := by decide +kernel
theorem markAllocated_d36 : decode markAllocated_I.2.1 36 = .ok (.iastore, 1) := by decide +kernel
theorem markAllocated_d37 : decode markAllocated_I.2.1 37 = .ok (.return_, 1) := by decide +kernel
theorem markAllocated_p : parseMethodDescriptor markAllocated_I.1.desc = some ⟨[.int, .int, .int], none⟩ := by decide +kernel
theorem markAllocated_K {a0 : Array Value} {Z : State} {M : Mi} (hw : Words a0 Z) (h : markAllocated_I.2.2.2.2.1 + 1 ≤ M.2.2.2.2.1) : Callee a0 Z M markAllocated_I 3 := ⟨pnC, (wd113 hw), (wd2 hw), h, by decide, fun sig q => by cases markAllocated_p.symm.trans q; rfl⟩
set_option maxRecDepth 65536 in
set_option maxHeartbeats 4000000 in
theorem markAllocated_M_ok {l : Launch} {Z : State} {a0 : Array Value} {n0 : Nat} {cv : Nat → Nat} {h0 : Heap} (hw : Words a0 Z) (K : KA a0 Z n0 CN nI FF cv) (x1 : Int) (x2 : Int) (x3 : Int) (s : Obj) : GQ (XA l Z n0 CN FF cv h0) markAllocated_I 0 0 0 (entry [Rf 0, I x1, I x2, I x3] markAllocated_I.2.2.1) [] s (markAllocated_M x1 x2 x3 s) := by
  show GQ _ _ _ _ 0 [some (Rf 0), some (I x1), some (I x2), some (I x3)] [] _ _
  unfold markAllocated_M
  refine GQ.iloadN (pc' := 1) markAllocated_d0 rfl rfl ?_
  refine GQ.ifT (pcT := 10) (pcF := 4) h_lt markAllocated_d1 rfl rfl rfl ?_ ?_
  · exact GQ.ret rfl markAllocated_d10
  refine GQ.iloadN (pc' := 5) markAllocated_d4 rfl rfl ?_
  refine GQ.bipush (pc' := 7) markAllocated_d5 rfl rfl ?_
  refine GQ.icmpT (pcT := 11) (pcF := 10) h_lt markAllocated_d7 rfl rfl rfl ?_ ?_
  · refine GQ.aloadN (pc' := 12) markAllocated_d11 rfl rfl ?_
    refine GQ.aloadN (pc' := 13) markAllocated_d12 rfl rfl ?_
    refine GQ.getI (M := markAllocated_I) (k := 9) (pc' := 16) rfl (wd45 hw) markAllocated_d13 rfl ?_
    refine GQ.iconst (pc' := 17) markAllocated_d16 rfl rfl ?_
    refine GQ.iloadN (pc' := 18) markAllocated_d17 rfl rfl ?_
    refine GQ.ishl (pc' := 19) markAllocated_d18 rfl ?_
    refine GQ.ior (pc' := 20) markAllocated_d19 rfl ?_
    refine GQ.putI (M := markAllocated_I) (k := 9) (pc' := 23) K rfl (wd45 hw) (wd46 hw) markAllocated_d20 rfl ?_
    refine GQ.letM (fun s20 => ?_)
    refine GQ.aloadN (pc' := 24) markAllocated_d23 rfl rfl ?_
    refine GQ.getA (M := markAllocated_I) (k := 13) (pc' := 27) rfl (by decide) (wd25 hw) markAllocated_d24 rfl ?_
    refine GQ.iloadN (pc' := 28) markAllocated_d27 rfl rfl ?_
    refine GQ.iloadN (pc' := 29) markAllocated_d28 rfl rfl ?_
    refine GQ.wr (k := 13) (ins := .iastore) (pc' := 30) K rfl (by decide) (Or.inl ⟨rfl, rfl⟩) markAllocated_d29 rfl (fun s29 => ?_)
    refine GQ.aloadN (pc' := 31) markAllocated_d30 rfl rfl ?_
    refine GQ.getA (M := markAllocated_I) (k := 14) (pc' := 34) rfl (by decide) (wd27 hw) markAllocated_d31 rfl ?_
    refine GQ.iloadN (pc' := 35) markAllocated_d34 rfl rfl ?_
    refine GQ.iloadN (pc' := 36) markAllocated_d35 rfl rfl ?_
    refine GQ.wr (k := 14) (ins := .iastore) (pc' := 37) K rfl (by decide) (Or.inl ⟨rfl, rfl⟩) markAllocated_d36 rfl (fun s36 => ?_)
    exact GQ.ret rfl markAllocated_d37
  exact GQ.ret rfl markAllocated_d10
def attach_I : Mi := (⟨"ShrinkRelocator", "attach", "(III)V"⟩, prog_1_method_29_code, 4, none, 1, 15)
theorem attach_d0 : decode attach_I.2.1 0 = .ok (.iload_n 3, 1) := by decide +kernel
theorem attach_d1 : decode attach_I.2.1 1 = .ok (.ifCond .lt 19, 3) := by decide +kernel
theorem attach_d4 : decode attach_I.2.1 4 = .ok (.iload_n 3, 1) := by decide +kernel
theorem attach_d5 : decode attach_I.2.1 5 = .ok (.bipush 32, 2) := by decide +kernel
theorem attach_d7 : decode attach_I.2.1 7 = .ok (.if_icmp .ge 13, 3) := by decide +kernel
theorem attach_d10 : decode attach_I.2.1 10 = .ok (.iload_n 2, 1) := by decide +kernel
theorem attach_d11 : decode attach_I.2.1 11 = .ok (.ifCond .lt 9, 3) := by decide +kernel
theorem attach_d14 : decode attach_I.2.1 14 = .ok (.iload_n 2, 1) := by decide +kernel
theorem attach_d15 : decode attach_I.2.1 15 = .ok (.bipush 32, 2) := by decide +kernel
theorem attach_d17 : decode attach_I.2.1 17 = .ok (.if_icmp .lt 4, 3) := by decide +kernel
theorem attach_d20 : decode attach_I.2.1 20 = .ok (.return_, 1) := by decide +kernel
theorem attach_d21 : decode attach_I.2.1 21 = .ok (.aload_n 0, 1) := by decide +kernel
theorem attach_d22 : decode attach_I.2.1 22 = .ok (.getfield 30, 3) := by decide +kernel
theorem attach_d25 : decode attach_I.2.1 25 = .ok (.aload_n 0, 1) := by decide +kernel
theorem attach_d26 : decode attach_I.2.1 26 = .ok (.iload_n 1, 1) := by decide +kernel
theorem attach_d27 : decode attach_I.2.1 27 = .ok (.iload_n 2, 1) := by decide +kernel
theorem attach_d28 : decode attach_I.2.1 28 = .ok (.invokevirtual 119, 3) := by decide +kernel
theorem attach_d31 : decode attach_I.2.1 31 = .ok (.iload_n 3, 1) := by decide +kernel
theorem attach_d32 : decode attach_I.2.1 32 = .ok (.iastore, 1) := by decide +kernel
theorem attach_d33 : decode attach_I.2.1 33 = .ok (.aload_n 0, 1) := by decide +kernel
theorem attach_d34 : decode attach_I.2.1 34 = .ok (.iload_n 3, 1) := by decide +kernel
theorem attach_d35 : decode attach_I.2.1 35 = .ok (.iload_n 1, 1) := by decide +kernel
theorem attach_d36 : decode attach_I.2.1 36 = .ok (.iload_n 2, 1) := by decide +kernel
theorem attach_d37 : decode attach_I.2.1 37 = .ok (.invokevirtual 134, 3) := by decide +kernel
theorem attach_d40 : decode attach_I.2.1 40 = .ok (.return_, 1) := by decide +kernel
theorem attach_p : parseMethodDescriptor attach_I.1.desc = some ⟨[.int, .int, .int], none⟩ := by decide +kernel
theorem attach_K {a0 : Array Value} {Z : State} {M : Mi} (hw : Words a0 Z) (h : attach_I.2.2.2.2.1 + 1 ≤ M.2.2.2.2.1) : Callee a0 Z M attach_I 3 := ⟨pnC, (wd105 hw), (wd2 hw), h, by decide, fun sig q => by cases attach_p.symm.trans q; rfl⟩
set_option maxRecDepth 65536 in
set_option maxHeartbeats 4000000 in
theorem attach_M_ok {l : Launch} {Z : State} {a0 : Array Value} {n0 : Nat} {cv : Nat → Nat} {h0 : Heap} (hw : Words a0 Z) (K : KA a0 Z n0 CN nI FF cv) (x1 : Int) (x2 : Int) (x3 : Int) (s : Obj) : GQ (XA l Z n0 CN FF cv h0) attach_I 0 0 0 (entry [Rf 0, I x1, I x2, I x3] attach_I.2.2.1) [] s (attach_M x1 x2 x3 s) := by
  show GQ _ _ _ _ 0 [some (Rf 0), some (I x1), some (I x2), some (I x3)] [] _ _
  unfold attach_M
  refine GQ.iloadN (pc' := 1) attach_d0 rfl rfl ?_
  refine GQ.ifT (pcT := 20) (pcF := 4) h_lt attach_d1 rfl rfl rfl ?_ ?_
  · exact GQ.ret rfl attach_d20
  refine GQ.iloadN (pc' := 5) attach_d4 rfl rfl ?_
  refine GQ.bipush (pc' := 7) attach_d5 rfl rfl ?_
  refine GQ.icmpF (pcT := 20) (pcF := 10) h_ge attach_d7 rfl rfl rfl ?_ ?_
  · exact GQ.ret rfl attach_d20
  refine GQ.iloadN (pc' := 11) attach_d10 rfl rfl ?_
  refine GQ.ifT (pcT := 20) (pcF := 14) h_lt attach_d11 rfl rfl rfl ?_ ?_
  · exact GQ.ret rfl attach_d20
  refine GQ.iloadN (pc' := 15) attach_d14 rfl rfl ?_
  refine GQ.bipush (pc' := 17) attach_d15 rfl rfl ?_
  refine GQ.icmpT (pcT := 21) (pcF := 20) h_lt attach_d17 rfl rfl rfl ?_ ?_
  · refine GQ.aloadN (pc' := 22) attach_d21 rfl rfl ?_
    refine GQ.getA (M := attach_I) (k := 12) (pc' := 25) rfl (by decide) (wd23 hw) attach_d22 rfl ?_
    refine GQ.aloadN (pc' := 26) attach_d25 rfl rfl ?_
    refine GQ.iloadN (pc' := 27) attach_d26 rfl rfl ?_
    refine GQ.iloadN (pc' := 28) attach_d27 rfl rfl ?_
    refine GQ.callP (Mc := mapSlot_I) (args0 := [I x1, I x2]) (S := [Rf 13]) (r := 0) (pc' := 31) (mapSlot_K hw (by decide)) rfl attach_d28 rfl (wd106 hw) (wd107 hw) (wd108 hw) (wd1 hw) XA.recv rfl (mapSlot_M_ok hw K x1 x2 s) rfl (fun z28 s28 => ?_)
    show GQ (XA l Z n0 CN FF cv h0) attach_I _ _ 31 [some (Rf 0), some (I x1), some (I x2), some (I x3)] [I z28, Rf 13] s28 _
    refine GQ.iloadN (pc' := 32) attach_d31 rfl rfl ?_
    refine GQ.wr (k := 12) (ins := .iastore) (pc' := 33) K rfl (by decide) (Or.inl ⟨rfl, rfl⟩) attach_d32 rfl (fun s32 => ?_)
    refine GQ.aloadN (pc' := 34) attach_d33 rfl rfl ?_
    refine GQ.iloadN (pc' := 35) attach_d34 rfl rfl ?_
    refine GQ.iloadN (pc' := 36) attach_d35 rfl rfl ?_
    refine GQ.iloadN (pc' := 37) attach_d36 rfl rfl ?_
    refine GQ.callP (Mc := markAllocated_I) (args0 := [I x3, I x1, I x2]) (S := []) (r := 0) (pc' := 40) (markAllocated_K hw (by decide)) rfl attach_d37 rfl (wd110 hw) (wd111 hw) (wd112 hw) (wd1 hw) XA.recv rfl (markAllocated_M_ok hw K x3 x1 x2 s32) rfl (fun _ s37 => ?_)
    show GQ (XA l Z n0 CN FF cv h0) attach_I _ _ 40 [some (Rf 0), some (I x1), some (I x2), some (I x3)] [] s37 _
    exact GQ.ret rfl attach_d40
  exact GQ.ret rfl attach_d20
def growByOneBlock_I : Mi := (⟨"ShrinkRelocator", "growByOneBlock", "(I)I"⟩, prog_1_method_27_code, 4, (some .int), 3, 41)
theorem growByOneBlock_d0 : decode growByOneBlock_I.2.1 0 = .ok (.aload_n 0, 1) := by decide +kernel
theorem growByOneBlock_d1 : decode growByOneBlock_I.2.1 1 = .ok (.aload_n 0, 1) := by decide +kernel
theorem growByOneBlock_d2 : decode growByOneBlock_I.2.1 2 = .ok (.getfield 26, 3) := by decide +kernel
theorem growByOneBlock_d5 : decode growByOneBlock_I.2.1 5 = .ok (.iload_n 1, 1) := by decide +kernel
theorem growByOneBlock_d6 : decode growByOneBlock_I.2.1 6 = .ok (.iaload, 1) := by decide +kernel
theorem growByOneBlock_d7 : decode growByOneBlock_I.2.1 7 = .ok (.invokevirtual 95, 3) := by decide +kernel
theorem growByOneBlock_d10 : decode growByOneBlock_I.2.1 10 = .ok (.istore_n 2, 1) := by decide +kernel
theorem growByOneBlock_d11 : decode growByOneBlock_I.2.1 11 = .ok (.iload_n 2, 1) := by decide +kernel
theorem growByOneBlock_d12 : decode growByOneBlock_I.2.1 12 = .ok (.ifCond .lt 9, 3) := by decide +kernel
theorem growByOneBlock_d15 : decode growByOneBlock_I.2.1 15 = .ok (.iload_n 2, 1) := by decide +kernel
theorem growByOneBlock_d16 : decode growByOneBlock_I.2.1 16 = .ok (.bipush 32, 2) := by decide +kernel
theorem growByOneBlock_d18 : decode growByOneBlock_I.2.1 18 = .ok (.if_icmp .lt 6, 3) := by decide +kernel
theorem growByOneBlock_d21 : decode growByOneBlock_I.2.1 21 = .ok (.bipush (-3), 2) := by decide +kernel
theorem growByOneBlock_d23 : decode growByOneBlock_I.2.1 23 = .ok (.ireturn, 1) := by decide +kernel
theorem growByOneBlock_d24 : decode growByOneBlock_I.2.1 24 = .ok (.aload_n 0, 1) := by decide +kernel
theorem growByOneBlock_d25 : decode growByOneBlock_I.2.1 25 = .ok (.invokevirtual 125, 3) := by decide +kernel
theorem growByOneBlock_d28 : decode growByOneBlock_I.2.1 28 = .ok (.istore_n 3, 1) := by decide +kernel
theorem growByOneBlock_d29 : decode growByOneBlock_I.2.1 29 = .ok (.iload_n 3, 1) := by decide +kernel
theorem growByOneBlock_d30 : decode growByOneBlock_I.2.1 30 = .ok (.ifCond .ge 6, 3) := by decide +kernel
theorem growByOneBlock_d33 : decode growByOneBlock_I.2.1 33 = .ok (.bipush (-3), 2) := by decide +kernel
theorem growByOneBlock_d35 : decode growByOneBlock_I.2.1 35 = .ok (.ireturn, 1) := by decide +kernel
theorem growByOneBlock_d36 : decode growByOneBlock_I.2.1 36 = .ok (.aload_n 0, 1) := by decide +kernel
theorem growByOneBlock_d37 : decode growByOneBlock_I.2.1 37 = .ok (.iload_n 1, 1) := by decide +kernel
theorem growByOneBlock_d38 : decode growByOneBlock_I.2.1 38 = .ok (.iload_n 2, 1) := by decide +kernel
theorem growByOneBlock_d39 : decode growByOneBlock_I.2.1 39 = .ok (.iload_n 3, 1) := by decide +kernel
theorem growByOneBlock_d40 : decode growByOneBlock_I.2.1 40 = .ok (.invokevirtual 128, 3) := by decide +kernel
theorem growByOneBlock_d43 : decode growByOneBlock_I.2.1 43 = .ok (.iconst 0, 1) := by decide +kernel
theorem growByOneBlock_d44 : decode growByOneBlock_I.2.1 44 = .ok (.ireturn, 1) := by decide +kernel
theorem growByOneBlock_p : parseMethodDescriptor growByOneBlock_I.1.desc = some ⟨[.int], (some .int)⟩ := by decide +kernel
theorem growByOneBlock_K {a0 : Array Value} {Z : State} {M : Mi} (hw : Words a0 Z) (h : growByOneBlock_I.2.2.2.2.1 + 1 ≤ M.2.2.2.2.1) : Callee a0 Z M growByOneBlock_I 1 := ⟨pnC, (wd80 hw), (wd2 hw), h, by decide, fun sig q => by cases growByOneBlock_p.symm.trans q; rfl⟩
set_option maxRecDepth 65536 in
set_option maxHeartbeats 4000000 in
theorem growByOneBlock_M_ok {l : Launch} {Z : State} {a0 : Array Value} {n0 : Nat} {cv : Nat → Nat} {h0 : Heap} (hw : Words a0 Z) (K : KA a0 Z n0 CN nI FF cv) (x1 : Int) (s : Obj) : GQ (XA l Z n0 CN FF cv h0) growByOneBlock_I 0 0 0 (entry [Rf 0, I x1] growByOneBlock_I.2.2.1) [] s (growByOneBlock_M x1 s) := by
  show GQ _ _ _ _ 0 [some (Rf 0), some (I x1), none, none] [] _ _
  unfold growByOneBlock_M
  refine GQ.aloadN (pc' := 1) growByOneBlock_d0 rfl rfl ?_
  refine GQ.aloadN (pc' := 2) growByOneBlock_d1 rfl rfl ?_
  refine GQ.getA (M := growByOneBlock_I) (k := 11) (pc' := 5) rfl (by decide) (wd21 hw) growByOneBlock_d2 rfl ?_
  refine GQ.iloadN (pc' := 6) growByOneBlock_d5 rfl rfl ?_
  refine GQ.rd (k := 11) (ins := .iaload) (pc' := 7) rfl (by decide) (Or.inl ⟨rfl, rfl⟩) growByOneBlock_d6 rfl (fun z6 => ?_)
  refine GQ.callP (Mc := blocksFor_I) (args0 := [I z6]) (S := []) (r := 0) (pc' := 10) (blocksFor_K hw (by decide)) rfl growByOneBlock_d7 rfl (wd81 hw) (wd82 hw) (wd83 hw) (wd1 hw) XA.recv rfl (blocksFor_M_ok hw K z6 s) rfl (fun z7 s7 => ?_)
  show GQ (XA l Z n0 CN FF cv h0) growByOneBlock_I _ _ 10 [some (Rf 0), some (I x1), none, none] [I z7] s7 _
  refine GQ.istoreN (L' := [some (Rf 0), some (I x1), some (I z7), none]) (pc' := 11) growByOneBlock_d10 rfl rfl rfl ?_
  refine GQ.iloadN (pc' := 12) growByOneBlock_d11 rfl rfl ?_
  refine GQ.ifT (pcT := 21) (pcF := 15) h_lt growByOneBlock_d12 rfl rfl rfl ?_ ?_
  · refine GQ.bipush (pc' := 23) growByOneBlock_d21 rfl rfl ?_
    exact GQ.iret rfl growByOneBlock_d23
  refine GQ.iloadN (pc' := 16) growByOneBlock_d15 rfl rfl ?_
  refine GQ.bipush (pc' := 18) growByOneBlock_d16 rfl rfl ?_
  refine GQ.icmpT (pcT := 24) (pcF := 21) h_lt growByOneBlock_d18 rfl rfl rfl ?_ ?_
  · refine GQ.aloadN (pc' := 25) growByOneBlock_d24 rfl rfl ?_
    refine GQ.callP (Mc := allocateBlock_I) (args0 := []) (S := []) (r := 0) (pc' := 28) (allocateBlock_K hw (by decide)) rfl growByOneBlock_d25 rfl (wd85 hw) (wd86 hw) (wd87 hw) (wd1 hw) XA.recv rfl (allocateBlock_M_ok hw K s7) rfl (fun z25 s25 => ?_)
    show GQ (XA l Z n0 CN FF cv h0) growByOneBlock_I _ _ 28 [some (Rf 0), some (I x1), some (I z7), none] [I z25] s25 _
    refine GQ.istoreN (L' := [some (Rf 0), some (I x1), some (I z7), some (I z25)]) (pc' := 29) growByOneBlock_d28 rfl rfl rfl ?_
    refine GQ.iloadN (pc' := 30) growByOneBlock_d29 rfl rfl ?_
    refine GQ.ifF (pcT := 36) (pcF := 33) h_ge growByOneBlock_d30 rfl rfl rfl ?_ ?_
    · refine GQ.aloadN (pc' := 37) growByOneBlock_d36 rfl rfl ?_
      refine GQ.iloadN (pc' := 38) growByOneBlock_d37 rfl rfl ?_
      refine GQ.iloadN (pc' := 39) growByOneBlock_d38 rfl rfl ?_
      refine GQ.iloadN (pc' := 40) growByOneBlock_d39 rfl rfl ?_
      refine GQ.callP (Mc := attach_I) (args0 := [I x1, I z7, I z25]) (S := []) (r := 0) (pc' := 43) (attach_K hw (by decide)) rfl growByOneBlock_d40 rfl (wd102 hw) (wd103 hw) (wd104 hw) (wd1 hw) XA.recv rfl (attach_M_ok hw K x1 z7 z25 s25) rfl (fun _ s40 => ?_)
      show GQ (XA l Z n0 CN FF cv h0) growByOneBlock_I _ _ 43 [some (Rf 0), some (I x1), some (I z7), some (I z25)] [] s40 _
      refine GQ.iconst (pc' := 44) growByOneBlock_d43 rfl rfl ?_
      exact GQ.iret rfl growByOneBlock_d44
    refine GQ.bipush (pc' := 35) growByOneBlock_d33 rfl rfl ?_
    exact GQ.iret rfl growByOneBlock_d35
  refine GQ.bipush (pc' := 23) growByOneBlock_d21 rfl rfl ?_
  exact GQ.iret rfl growByOneBlock_d23
def byteSlot_I : Mi := (⟨"ShrinkRelocator", "byteSlot", "(II)I"⟩, prog_1_method_32_code, 3, (some .int), 0, 0)
theorem byteSlot_d0 : decode byteSlot_I.2.1 0 = .ok (.iload_n 1, 1) := by decide +kernel
theorem byteSlot_d1 : decode byteSlot_I.2.1 1 = .ok (.ifCond .lt 19, 3) := by decide +kernel
theorem byteSlot_d4 : decode byteSlot_I.2.1 4 = .ok (.iload_n 1, 1) := by decide +kernel
theorem byteSlot_d5 : decode byteSlot_I.2.1 5 = .ok (.bipush 32, 2) := by decide +kernel
theorem byteSlot_d7 : decode byteSlot_I.2.1 7 = .ok (.if_icmp .ge 13, 3) := by decide +kernel
theorem byteSlot_d10 : decode byteSlot_I.2.1 10 = .ok (.iload_n 2, 1) := by decide +kernel
theorem byteSlot_d11 : decode byteSlot_I.2.1 11 = .ok (.ifCond .lt 9, 3) := by decide +kernel
theorem byteSlot_d14 : decode byteSlot_I.2.1 14 = .ok (.iload_n 2, 1) := by decide +kernel
theorem byteSlot_d15 : decode byteSlot_I.2.1 15 = .ok (.bipush 8, 2) := by decide +kernel
theorem byteSlot_d17 : decode byteSlot_I.2.1 17 = .ok (.if_icmp .lt 5, 3) := by decide +kernel
theorem byteSlot_d20 : decode byteSlot_I.2.1 20 = .ok (.iconst (-1), 1) := by decide +kernel
theorem byteSlot_d21 : decode byteSlot_I.2.1 21 = .ok (.ireturn, 1) := by decide +kernel
theorem byteSlot_d22 : decode byteSlot_I.2.1 22 = .ok (.iload_n 1, 1) := by decide +kernel
theorem byteSlot_d23 : decode byteSlot_I.2.1 23 = .ok (.bipush 8, 2) := by decide +kernel
theorem byteSlot_d25 : decode byteSlot_I.2.1 25 = .ok (.imul, 1) := by decide +kernel
theorem byteSlot_d26 : decode byteSlot_I.2.1 26 = .ok (.iload_n 2, 1) := by decide +kernel
theorem byteSlot_d27 : decode byteSlot_I.2.1 27 = .ok (.iadd, 1) := by decide +kernel
theorem byteSlot_d28 : decode byteSlot_I.2.1 28 = .ok (.ireturn, 1) := by decide +kernel
theorem byteSlot_p : parseMethodDescriptor byteSlot_I.1.desc = some ⟨[.int, .int], (some .int)⟩ := by decide +kernel
theorem byteSlot_K {a0 : Array Value} {Z : State} {M : Mi} (hw : Words a0 Z) (h : byteSlot_I.2.2.2.2.1 + 1 ≤ M.2.2.2.2.1) : Callee a0 Z M byteSlot_I 2 := ⟨pnC, (wd121 hw), (wd2 hw), h, by decide, fun sig q => by cases byteSlot_p.symm.trans q; rfl⟩
set_option maxRecDepth 65536 in
set_option maxHeartbeats 4000000 in
theorem byteSlot_M_ok {l : Launch} {Z : State} {a0 : Array Value} {n0 : Nat} {cv : Nat → Nat} {h0 : Heap} (hw : Words a0 Z) (K : KA a0 Z n0 CN nI FF cv) (x1 : Int) (x2 : Int) (s : Obj) : GQ (XA l Z n0 CN FF cv h0) byteSlot_I 0 0 0 (entry [Rf 0, I x1, I x2] byteSlot_I.2.2.1) [] s (byteSlot_M x1 x2 s) := by
  show GQ _ _ _ _ 0 [some (Rf 0), some (I x1), some (I x2)] [] _ _
  unfold byteSlot_M
  refine GQ.iloadN (pc' := 1) byteSlot_d0 rfl rfl ?_
  refine GQ.ifT (pcT := 20) (pcF := 4) h_lt byteSlot_d1 rfl rfl rfl ?_ ?_
  · refine GQ.iconst (pc' := 21) byteSlot_d20 rfl rfl ?_
    exact GQ.iret rfl byteSlot_d21
  refine GQ.iloadN (pc' := 5) byteSlot_d4 rfl rfl ?_
  refine GQ.bipush (pc' := 7) byteSlot_d5 rfl rfl ?_
  refine GQ.icmpF (pcT := 20) (pcF := 10) h_ge byteSlot_d7 rfl rfl rfl ?_ ?_
  · refine GQ.iconst (pc' := 21) byteSlot_d20 rfl rfl ?_
    exact GQ.iret rfl byteSlot_d21
  refine GQ.iloadN (pc' := 11) byteSlot_d10 rfl rfl ?_
  refine GQ.ifT (pcT := 20) (pcF := 14) h_lt byteSlot_d11 rfl rfl rfl ?_ ?_
  · refine GQ.iconst (pc' := 21) byteSlot_d20 rfl rfl ?_
    exact GQ.iret rfl byteSlot_d21
  refine GQ.iloadN (pc' := 15) byteSlot_d14 rfl rfl ?_
  refine GQ.bipush (pc' := 17) byteSlot_d15 rfl rfl ?_
  refine GQ.icmpT (pcT := 22) (pcF := 20) h_lt byteSlot_d17 rfl rfl rfl ?_ ?_
  · refine GQ.iloadN (pc' := 23) byteSlot_d22 rfl rfl ?_
    refine GQ.bipush (pc' := 25) byteSlot_d23 rfl rfl ?_
    refine GQ.imul (pc' := 26) byteSlot_d25 rfl ?_
    refine GQ.iloadN (pc' := 27) byteSlot_d26 rfl rfl ?_
    refine GQ.iadd (pc' := 28) byteSlot_d27 rfl ?_
    exact GQ.iret rfl byteSlot_d28
  refine GQ.iconst (pc' := 21) byteSlot_d20 rfl rfl ?_
  exact GQ.iret rfl byteSlot_d21
def storeAt_I : Mi := (⟨"ShrinkRelocator", "storeAt", "(III)V"⟩, prog_1_method_30_code, 7, none, 1, 15)
theorem storeAt_d0 : decode storeAt_I.2.1 0 = .ok (.iload_n 2, 1) := by decide +kernel
theorem storeAt_d1 : decode storeAt_I.2.1 1 = .ok (.aload_n 0, 1) := by decide +kernel
theorem storeAt_d2 : decode storeAt_I.2.1 2 = .ok (.getfield 49, 3) := by decide +kernel
theorem storeAt_d5 : decode storeAt_I.2.1 5 = .ok (.idiv, 1) := by decide +kernel
theorem storeAt_d6 : decode storeAt_I.2.1 6 = .ok (.istore 4, 2) := by decide +kernel
theorem storeAt_d8 : decode storeAt_I.2.1 8 = .ok (.iload 4, 2) := by decide +kernel
theorem storeAt_d10 : decode storeAt_I.2.1 10 = .ok (.ifCond .lt 10, 3) := by decide +kernel
theorem storeAt_d13 : decode storeAt_I.2.1 13 = .ok (.iload 4, 2) := by decide +kernel
theorem storeAt_d15 : decode storeAt_I.2.1 15 = .ok (.bipush 32, 2) := by decide +kernel
theorem storeAt_d17 : decode storeAt_I.2.1 17 = .ok (.if_icmp .lt 4, 3) := by decide +kernel
theorem storeAt_d20 : decode storeAt_I.2.1 20 = .ok (.return_, 1) := by decide +kernel
theorem storeAt_d21 : decode storeAt_I.2.1 21 = .ok (.aload_n 0, 1) := by decide +kernel
theorem storeAt_d22 : decode storeAt_I.2.1 22 = .ok (.getfield 30, 3) := by decide +kernel
theorem storeAt_d25 : decode storeAt_I.2.1 25 = .ok (.aload_n 0, 1) := by decide +kernel
theorem storeAt_d26 : decode storeAt_I.2.1 26 = .ok (.iload_n 1, 1) := by decide +kernel
theorem storeAt_d27 : decode storeAt_I.2.1 27 = .ok (.iload 4, 2) := by decide +kernel
theorem storeAt_d29 : decode storeAt_I.2.1 29 = .ok (.invokevirtual 119, 3) := by decide +kernel
theorem storeAt_d32 : decode storeAt_I.2.1 32 = .ok (.iaload, 1) := by decide +kernel
theorem storeAt_d33 : decode storeAt_I.2.1 33 = .ok (.istore 5, 2) := by decide +kernel
theorem storeAt_d35 : decode storeAt_I.2.1 35 = .ok (.aload_n 0, 1) := by decide +kernel
theorem storeAt_d36 : decode storeAt_I.2.1 36 = .ok (.iload 5, 2) := by decide +kernel
theorem storeAt_d38 : decode storeAt_I.2.1 38 = .ok (.iload_n 2, 1) := by decide +kernel
theorem storeAt_d39 : decode storeAt_I.2.1 39 = .ok (.aload_n 0, 1) := by decide +kernel
theorem storeAt_d40 : decode storeAt_I.2.1 40 = .ok (.getfield 49, 3) := by decide +kernel
theorem storeAt_d43 : decode storeAt_I.2.1 43 = .ok (.irem, 1) := by decide +kernel
theorem storeAt_d44 : decode storeAt_I.2.1 44 = .ok (.invokevirtual 137, 3) := by decide +kernel
theorem storeAt_d47 : decode storeAt_I.2.1 47 = .ok (.istore 6, 2) := by decide +kernel
theorem storeAt_d49 : decode storeAt_I.2.1 49 = .ok (.iload 6, 2) := by decide +kernel
theorem storeAt_d51 : decode storeAt_I.2.1 51 = .ok (.ifCond .ge 4, 3) := by decide +kernel
theorem storeAt_d54 : decode storeAt_I.2.1 54 = .ok (.return_, 1) := by decide +kernel
theorem storeAt_d55 : decode storeAt_I.2.1 55 = .ok (.aload_n 0, 1) := by decide +kernel
theorem storeAt_d56 : decode storeAt_I.2.1 56 = .ok (.getfield 39, 3) := by decide +kernel
theorem storeAt_d59 : decode storeAt_I.2.1 59 = .ok (.iload 6, 2) := by decide +kernel
theorem storeAt_d61 : decode storeAt_I.2.1 61 = .ok (.iload_n 3, 1) := by decide +kernel
theorem storeAt_d62 : decode storeAt_I.2.1 62 = .ok (.sipush 255, 3) := by decide +kernel
theorem storeAt_d65 : decode storeAt_I.2.1 65 = .ok (.iand, 1) := by decide +kernel
theorem storeAt_d66 : decode storeAt_I.2.1 66 = .ok (.iastore, 1) := by decide +kernel
theorem storeAt_d67 : decode storeAt_I.2.1 67 = .ok (.return_, 1) := by decide +kernel
theorem storeAt_p : parseMethodDescriptor storeAt_I.1.desc = some ⟨[.int, .int, .int], none⟩ := by decide +kernel
theorem storeAt_K {a0 : Array Value} {Z : State} {M : Mi} (hw : Words a0 Z) (h : storeAt_I.2.2.2.2.1 + 1 ≤ M.2.2.2.2.1) : Callee a0 Z M storeAt_I 3 := ⟨pnC, (wd117 hw), (wd2 hw), h, by decide, fun sig q => by cases storeAt_p.symm.trans q; rfl⟩
set_option maxRecDepth 65536 in
set_option maxHeartbeats 4000000 in
theorem storeAt_M_ok {l : Launch} {Z : State} {a0 : Array Value} {n0 : Nat} {cv : Nat → Nat} {h0 : Heap} (hw : Words a0 Z) (K : KA a0 Z n0 CN nI FF cv) (x1 : Int) (x2 : Int) (x3 : Int) (s : Obj) : GQ (XA l Z n0 CN FF cv h0) storeAt_I 0 0 0 (entry [Rf 0, I x1, I x2, I x3] storeAt_I.2.2.1) [] s (storeAt_M x1 x2 x3 s) := by
  show GQ _ _ _ _ 0 [some (Rf 0), some (I x1), some (I x2), some (I x3), none, none, none] [] _ _
  unfold storeAt_M
  refine GQ.iloadN (pc' := 1) storeAt_d0 rfl rfl ?_
  refine GQ.aloadN (pc' := 2) storeAt_d1 rfl rfl ?_
  refine GQ.getI (M := storeAt_I) (k := 5) (pc' := 5) rfl (wd37 hw) storeAt_d2 rfl ?_
  refine GQ.idiv (pc' := 6) storeAt_d5 rfl ?_
  refine GQ.letI (fun x4_6 => ?_)
  refine GQ.istore (L' := [some (Rf 0), some (I x1), some (I x2), some (I x3), some (I x4_6), none, none]) (pc' := 8) storeAt_d6 rfl rfl rfl ?_
  refine GQ.iload (pc' := 10) storeAt_d8 rfl rfl ?_
  refine GQ.ifT (pcT := 20) (pcF := 13) h_lt storeAt_d10 rfl rfl rfl ?_ ?_
  · exact GQ.ret rfl storeAt_d20
  refine GQ.iload (pc' := 15) storeAt_d13 rfl rfl ?_
  refine GQ.bipush (pc' := 17) storeAt_d15 rfl rfl ?_
  refine GQ.icmpT (pcT := 21) (pcF := 20) h_lt storeAt_d17 rfl rfl rfl ?_ ?_
  · refine GQ.aloadN (pc' := 22) storeAt_d21 rfl rfl ?_
    refine GQ.getA (M := storeAt_I) (k := 12) (pc' := 25) rfl (by decide) (wd23 hw) storeAt_d22 rfl ?_
    refine GQ.aloadN (pc' := 26) storeAt_d25 rfl rfl ?_
    refine GQ.iloadN (pc' := 27) storeAt_d26 rfl rfl ?_
    refine GQ.iload (pc' := 29) storeAt_d27 rfl rfl ?_
    refine GQ.callP (Mc := mapSlot_I) (args0 := [I x1, I x4_6]) (S := [Rf 13]) (r := 0) (pc' := 32) (mapSlot_K hw (by decide)) rfl storeAt_d29 rfl (wd106 hw) (wd107 hw) (wd108 hw) (wd1 hw) XA.recv rfl (mapSlot_M_ok hw K x1 x4_6 s) rfl (fun z29 s29 => ?_)
    show GQ (XA l Z n0 CN FF cv h0) storeAt_I _ _ 32 [some (Rf 0), some (I x1), some (I x2), some (I x3), some (I x4_6), none, none] [I z29, Rf 13] s29 _
    refine GQ.rd (k := 12) (ins := .iaload) (pc' := 33) rfl (by decide) (Or.inl ⟨rfl, rfl⟩) storeAt_d32 rfl (fun z32 => ?_)
    refine GQ.istore (L' := [some (Rf 0), some (I x1), some (I x2), some (I x3), some (I x4_6), some (I z32), none]) (pc' := 35) storeAt_d33 rfl rfl rfl ?_
    refine GQ.aloadN (pc' := 36) storeAt_d35 rfl rfl ?_
    refine GQ.iload (pc' := 38) storeAt_d36 rfl rfl ?_
    refine GQ.iloadN (pc' := 39) storeAt_d38 rfl rfl ?_
    refine GQ.aloadN (pc' := 40) storeAt_d39 rfl rfl ?_
    refine GQ.getI (M := storeAt_I) (k := 5) (pc' := 43) rfl (wd37 hw) storeAt_d40 rfl ?_
    refine GQ.irem (pc' := 44) storeAt_d43 rfl ?_
    refine GQ.callP (Mc := byteSlot_I) (args0 := [I z32, I (aRem x2 (s29.1 5))]) (S := []) (r := 0) (pc' := 47) (byteSlot_K hw (by decide)) rfl storeAt_d44 rfl (wd118 hw) (wd119 hw) (wd120 hw) (wd1 hw) XA.recv rfl (byteSlot_M_ok hw K z32 (aRem x2 (s29.1 5)) s29) rfl (fun z44 s44 => ?_)
    show GQ (XA l Z n0 CN FF cv h0) storeAt_I _ _ 47 [some (Rf 0), some (I x1), some (I x2), some (I x3), some (I x4_6), some (I z32), none] [I z44] s44 _
    refine GQ.istore (L' := [some (Rf 0), some (I x1), some (I x2), some (I x3), some (I x4_6), some (I z32), some (I z44)]) (pc' := 49) storeAt_d47 rfl rfl rfl ?_
    refine GQ.iload (pc' := 51) storeAt_d49 rfl rfl ?_
    refine GQ.ifF (pcT := 55) (pcF := 54) h_ge storeAt_d51 rfl rfl rfl ?_ ?_
    · refine GQ.aloadN (pc' := 56) storeAt_d55 rfl rfl ?_
      refine GQ.getA (M := storeAt_I) (k := 15) (pc' := 59) rfl (by decide) (wd29 hw) storeAt_d56 rfl ?_
      refine GQ.iload (pc' := 61) storeAt_d59 rfl rfl ?_
      refine GQ.iloadN (pc' := 62) storeAt_d61 rfl rfl ?_
      refine GQ.sipush (pc' := 65) storeAt_d62 rfl rfl ?_
      refine GQ.iand (pc' := 66) storeAt_d65 rfl ?_
      refine GQ.wr (k := 15) (ins := .iastore) (pc' := 67) K rfl (by decide) (Or.inl ⟨rfl, rfl⟩) storeAt_d66 rfl (fun s66 => ?_)
      exact GQ.ret rfl storeAt_d67
    exact GQ.ret rfl storeAt_d54
  exact GQ.ret rfl storeAt_d20
def write_I : Mi := (⟨"ShrinkRelocator", "write", "(III)I"⟩, prog_1_method_4_code, 6, (some .int), 4, 56)
theorem write_d0 : decode write_I.2.1 0 = .ok (.aload_n 0, 1) := by decide +kernel
theorem write_d1 : decode write_I.2.1 1 = .ok (.iload_n 1, 1) := by decide +kernel
theorem write_d2 : decode write_I.2.1 2 = .ok (.invokevirtual 75, 3) := by decide +kernel
theorem write_d5 : decode write_I.2.1 5 = .ok (.ifCond .ne 5, 3) := by decide +kernel
theorem write_d8 : decode write_I.2.1 8 = .ok (.iconst (-1), 1) := by decide +kernel
theorem write_d9 : decode write_I.2.1 9 = .ok (.ireturn, 1) := by decide +kernel
theorem write_d10 : decode write_I.2.1 10 = .ok (.aload_n 0, 1) := by decide +kernel
theorem write_d11 : decode write_I.2.1 11 = .ok (.getfield 26, 3) := by decide +kernel
theorem write_d14 : decode write_I.2.1 14 = .ok (.iload_n 1, 1) := by decide +kernel
theorem write_d15 : decode write_I.2.1 15 = .ok (.iaload, 1) := by decide +kernel
theorem write_d16 : decode write_I.2.1 16 = .ok (.istore 4, 2) := by decide +kernel
theorem write_d18 : decode write_I.2.1 18 = .ok (.iload_n 2, 1) := by decide +kernel
theorem write_d19 : decode write_I.2.1 19 = .ok (.ifCond .lt 9, 3) := by decide +kernel
theorem write_d22 : decode write_I.2.1 22 = .ok (.iload_n 2, 1) := by decide +kernel
theorem write_d23 : decode write_I.2.1 23 = .ok (.iload 4, 2) := by decide +kernel
theorem write_d25 : decode write_I.2.1 25 = .ok (.if_icmp .le 6, 3) := by decide +kernel
theorem write_d28 : decode write_I.2.1 28 = .ok (.bipush (-2), 2) := by decide +kernel
theorem write_d30 : decode write_I.2.1 30 = .ok (.ireturn, 1) := by decide +kernel
theorem write_d31 : decode write_I.2.1 31 = .ok (.aload_n 0, 1) := by decide +kernel
theorem write_d32 : decode write_I.2.1 32 = .ok (.iload 4, 2) := by decide +kernel
theorem write_d34 : decode write_I.2.1 34 = .ok (.iload_n 2, 1) := by decide +kernel
theorem write_d35 : decode write_I.2.1 35 = .ok (.invokevirtual 83, 3) := by decide +kernel
theorem write_d38 : decode write_I.2.1 38 = .ok (.ifCond .eq 18, 3) := by decide +kernel
theorem write_d41 : decode write_I.2.1 41 = .ok (.aload_n 0, 1) := by decide +kernel
theorem write_d42 : decode write_I.2.1 42 = .ok (.iload_n 1, 1) := by decide +kernel
theorem write_d43 : decode write_I.2.1 43 = .ok (.invokevirtual 87, 3) := by decide +kernel
theorem write_d46 : decode write_I.2.1 46 = .ok (.istore 5, 2) := by decide +kernel
theorem write_d48 : decode write_I.2.1 48 = .ok (.iload 5, 2) := by decide +kernel
theorem write_d50 : decode write_I.2.1 50 = .ok (.ifCond .eq 6, 3) := by decide +kernel
theorem write_d53 : decode write_I.2.1 53 = .ok (.iload 5, 2) := by decide +kernel
theorem write_d55 : decode write_I.2.1 55 = .ok (.ireturn, 1) := by decide +kernel
theorem write_d56 : decode write_I.2.1 56 = .ok (.aload_n 0, 1) := by decide +kernel
theorem write_d57 : decode write_I.2.1 57 = .ok (.iload_n 1, 1) := by decide +kernel
theorem write_d58 : decode write_I.2.1 58 = .ok (.iload_n 2, 1) := by decide +kernel
theorem write_d59 : decode write_I.2.1 59 = .ok (.iload_n 3, 1) := by decide +kernel
theorem write_d60 : decode write_I.2.1 60 = .ok (.invokevirtual 91, 3) := by decide +kernel
theorem write_d63 : decode write_I.2.1 63 = .ok (.iload_n 2, 1) := by decide +kernel
theorem write_d64 : decode write_I.2.1 64 = .ok (.iload 4, 2) := by decide +kernel
theorem write_d66 : decode write_I.2.1 66 = .ok (.if_icmp .ne 13, 3) := by decide +kernel
theorem write_d69 : decode write_I.2.1 69 = .ok (.aload_n 0, 1) := by decide +kernel
theorem write_d70 : decode write_I.2.1 70 = .ok (.getfield 26, 3) := by decide +kernel
theorem write_d73 : decode write_I.2.1 73 = .ok (.iload_n 1, 1) := by decide +kernel
theorem write_d74 : decode write_I.2.1 74 = .ok (.iload 4, 2) := by decide +kernel
theorem write_d76 : decode write_I.2.1 76 = .ok (.iconst 1, 1) := by decide +kernel
theorem write_d77 : decode write_I.2.1 77 = .ok (.iadd, 1) := by decide +kernel
theorem write_d78 : decode write_I.2.1 78 = .ok (.iastore, 1) := by decide +kernel
theorem write_d79 : decode write_I.2.1 79 = .ok (.iconst 0, 1) := by decide +kernel
theorem write_d80 : decode write_I.2.1 80 = .ok (.ireturn, 1) := by decide +kernel
theorem write_p : parseMethodDescriptor write_I.1.desc = some ⟨[.int, .int, .int], (some .int)⟩ := by decide +kernel
theorem write_K {a0 : Array Value} {Z : State} {M : Mi} (hw : Words a0 Z) (h : write_I.2.2.2.2.1 + 1 ≤ M.2.2.2.2.1) : Callee a0 Z M write_I 3 := ⟨pnC, (wd68 hw), (wd2 hw), h, by decide, fun sig q => by cases write_p.symm.trans q; rfl⟩
set_option maxRecDepth 65536 in
set_option maxHeartbeats 4000000 in
theorem write_j56_ok {l : Launch} {Z : State} {a0 : Array Value} {n0 : Nat} {cv : Nat → Nat} {h0 : Heap} (hw : Words a0 Z) (K : KA a0 Z n0 CN nI FF cv) (x1 : Int) (x2 : Int) (x3 : Int) (x4 : Int) (s : Obj) : GQ (XA l Z n0 CN FF cv h0) write_I 0 0 56 [some (Rf 0), some (I x1), some (I x2), some (I x3), some (I x4), none] [] s (write_j56 x1 x2 x3 x4 s) := by
  unfold write_j56
  refine GQ.aloadN (pc' := 57) write_d56 rfl rfl ?_
  refine GQ.iloadN (pc' := 58) write_d57 rfl rfl ?_
  refine GQ.iloadN (pc' := 59) write_d58 rfl rfl ?_
  refine GQ.iloadN (pc' := 60) write_d59 rfl rfl ?_
  refine GQ.callP (Mc := storeAt_I) (args0 := [I x1, I x2, I x3]) (S := []) (r := 0) (pc' := 63) (storeAt_K hw (by decide)) rfl write_d60 rfl (wd114 hw) (wd115 hw) (wd116 hw) (wd1 hw) XA.recv rfl (storeAt_M_ok hw K x1 x2 x3 s) rfl (fun _ s60 => ?_)
  show GQ (XA l Z n0 CN FF cv h0) write_I _ _ 63 [some (Rf 0), some (I x1), some (I x2), some (I x3), some (I x4), none] [] s60 _
  refine GQ.iloadN (pc' := 64) write_d63 rfl rfl ?_
  refine GQ.iload (pc' := 66) write_d64 rfl rfl ?_
  refine GQ.icmpF (pcT := 79) (pcF := 69) h_ne write_d66 rfl rfl rfl ?_ ?_
  · refine GQ.iconst (pc' := 80) write_d79 rfl rfl ?_
    exact GQ.iret rfl write_d80
  refine GQ.aloadN (pc' := 70) write_d69 rfl rfl ?_
  refine GQ.getA (M := write_I) (k := 11) (pc' := 73) rfl (by decide) (wd21 hw) write_d70 rfl ?_
  refine GQ.iloadN (pc' := 74) write_d73 rfl rfl ?_
  refine GQ.iload (pc' := 76) write_d74 rfl rfl ?_
  refine GQ.iconst (pc' := 77) write_d76 rfl rfl ?_
  refine GQ.iadd (pc' := 78) write_d77 rfl ?_
  refine GQ.wr (k := 11) (ins := .iastore) (pc' := 79) K rfl (by decide) (Or.inl ⟨rfl, rfl⟩) write_d78 rfl (fun s78 => ?_)
  refine GQ.iconst (pc' := 80) write_d79 rfl rfl ?_
  exact GQ.iret rfl write_d80
set_option maxRecDepth 65536 in
set_option maxHeartbeats 4000000 in
theorem write_M_ok {l : Launch} {Z : State} {a0 : Array Value} {n0 : Nat} {cv : Nat → Nat} {h0 : Heap} (hw : Words a0 Z) (K : KA a0 Z n0 CN nI FF cv) (x1 : Int) (x2 : Int) (x3 : Int) (s : Obj) : GQ (XA l Z n0 CN FF cv h0) write_I 0 0 0 (entry [Rf 0, I x1, I x2, I x3] write_I.2.2.1) [] s (write_M x1 x2 x3 s) := by
  show GQ _ _ _ _ 0 [some (Rf 0), some (I x1), some (I x2), some (I x3), none, none] [] _ _
  unfold write_M
  refine GQ.aloadN (pc' := 1) write_d0 rfl rfl ?_
  refine GQ.iloadN (pc' := 2) write_d1 rfl rfl ?_
  refine GQ.callP (Mc := isValidFile_I) (args0 := [I x1]) (S := []) (r := 0) (pc' := 5) (isValidFile_K hw (by decide)) rfl write_d2 rfl (wd69 hw) (wd70 hw) (wd71 hw) (wd1 hw) XA.recv rfl (isValidFile_M_ok hw K x1 s) rfl (fun z2 s2 => ?_)
  show GQ (XA l Z n0 CN FF cv h0) write_I _ _ 5 [some (Rf 0), some (I x1), some (I x2), some (I x3), none, none] [I z2] s2 _
  refine GQ.ifF (pcT := 10) (pcF := 8) h_ne write_d5 rfl rfl rfl ?_ ?_
  · refine GQ.aloadN (pc' := 11) write_d10 rfl rfl ?_
    refine GQ.getA (M := write_I) (k := 11) (pc' := 14) rfl (by decide) (wd21 hw) write_d11 rfl ?_
    refine GQ.iloadN (pc' := 15) write_d14 rfl rfl ?_
    refine GQ.rd (k := 11) (ins := .iaload) (pc' := 16) rfl (by decide) (Or.inl ⟨rfl, rfl⟩) write_d15 rfl (fun z15 => ?_)
    refine GQ.istore (L' := [some (Rf 0), some (I x1), some (I x2), some (I x3), some (I z15), none]) (pc' := 18) write_d16 rfl rfl rfl ?_
    refine GQ.iloadN (pc' := 19) write_d18 rfl rfl ?_
    refine GQ.ifT (pcT := 28) (pcF := 22) h_lt write_d19 rfl rfl rfl ?_ ?_
    · refine GQ.bipush (pc' := 30) write_d28 rfl rfl ?_
      exact GQ.iret rfl write_d30
    refine GQ.iloadN (pc' := 23) write_d22 rfl rfl ?_
    refine GQ.iload (pc' := 25) write_d23 rfl rfl ?_
    refine GQ.icmpF (pcT := 31) (pcF := 28) h_le write_d25 rfl rfl rfl ?_ ?_
    · refine GQ.aloadN (pc' := 32) write_d31 rfl rfl ?_
      refine GQ.iload (pc' := 34) write_d32 rfl rfl ?_
      refine GQ.iloadN (pc' := 35) write_d34 rfl rfl ?_
      refine GQ.callP (Mc := needsNewBlock_I) (args0 := [I z15, I x2]) (S := []) (r := 0) (pc' := 38) (needsNewBlock_K hw (by decide)) rfl write_d35 rfl (wd73 hw) (wd74 hw) (wd75 hw) (wd1 hw) XA.recv rfl (needsNewBlock_M_ok hw K z15 x2 s2) rfl (fun z35 s35 => ?_)
      show GQ (XA l Z n0 CN FF cv h0) write_I _ _ 38 [some (Rf 0), some (I x1), some (I x2), some (I x3), some (I z15), none] [I z35] s35 _
      refine GQ.ifT (pcT := 56) (pcF := 41) h_eq write_d38 rfl rfl rfl ?_ ?_
      · exact write_j56_ok hw K x1 x2 x3 z15 s35
      refine GQ.aloadN (pc' := 42) write_d41 rfl rfl ?_
      refine GQ.iloadN (pc' := 43) write_d42 rfl rfl ?_
      refine GQ.callP (Mc := growByOneBlock_I) (args0 := [I x1]) (S := []) (r := 0) (pc' := 46) (growByOneBlock_K hw (by decide)) rfl write_d43 rfl (wd77 hw) (wd78 hw) (wd79 hw) (wd1 hw) XA.recv rfl (growByOneBlock_M_ok hw K x1 s35) rfl (fun z43 s43 => ?_)
      show GQ (XA l Z n0 CN FF cv h0) write_I _ _ 46 [some (Rf 0), some (I x1), some (I x2), some (I x3), some (I z15), none] [I z43] s43 _
      refine GQ.istore (L' := [some (Rf 0), some (I x1), some (I x2), some (I x3), some (I z15), some (I z43)]) (pc' := 48) write_d46 rfl rfl rfl ?_
      refine GQ.iload (pc' := 50) write_d48 rfl rfl ?_
      refine GQ.ifT (pcT := 56) (pcF := 53) h_eq write_d50 rfl rfl rfl ?_ ?_
      · refine GQ.weak (L' := [some (Rf 0), some (I x1), some (I x2), some (I x3), some (I z15), none]) (Sub.keep (Sub.keep (Sub.keep (Sub.keep (Sub.keep (Sub.drop Sub.nil)))))) ?_
        exact write_j56_ok hw K x1 x2 x3 z15 s43
      refine GQ.iload (pc' := 55) write_d53 rfl rfl ?_
      exact GQ.iret rfl write_d55
    refine GQ.bipush (pc' := 30) write_d28 rfl rfl ?_
    exact GQ.iret rfl write_d30
  refine GQ.iconst (pc' := 9) write_d8 rfl rfl ?_
  exact GQ.iret rfl write_d9
def physOf_I : Mi := (⟨"ShrinkRelocator", "physOf", "(II)I"⟩, prog_1_method_15_code, 4, (some .int), 1, 15)
theorem physOf_d0 : decode physOf_I.2.1 0 = .ok (.aload_n 0, 1) := by decide +kernel
theorem physOf_d1 : decode physOf_I.2.1 1 = .ok (.iload_n 1, 1) := by decide +kernel
theorem physOf_d2 : decode physOf_I.2.1 2 = .ok (.invokevirtual 75, 3) := by decide +kernel
theorem physOf_d5 : decode physOf_I.2.1 5 = .ok (.ifCond .ne 5, 3) := by decide +kernel
theorem physOf_d8 : decode physOf_I.2.1 8 = .ok (.iconst (-1), 1) := by decide +kernel
theorem physOf_d9 : decode physOf_I.2.1 9 = .ok (.ireturn, 1) := by decide +kernel
theorem physOf_d10 : decode physOf_I.2.1 10 = .ok (.aload_n 0, 1) := by decide +kernel
theorem physOf_d11 : decode physOf_I.2.1 11 = .ok (.aload_n 0, 1) := by decide +kernel
theorem physOf_d12 : decode physOf_I.2.1 12 = .ok (.getfield 26, 3) := by decide +kernel
theorem physOf_d15 : decode physOf_I.2.1 15 = .ok (.iload_n 1, 1) := by decide +kernel
theorem physOf_d16 : decode physOf_I.2.1 16 = .ok (.iaload, 1) := by decide +kernel
theorem physOf_d17 : decode physOf_I.2.1 17 = .ok (.invokevirtual 95, 3) := by decide +kernel
theorem physOf_d20 : decode physOf_I.2.1 20 = .ok (.istore_n 3, 1) := by decide +kernel
theorem physOf_d21 : decode physOf_I.2.1 21 = .ok (.iload_n 2, 1) := by decide +kernel
theorem physOf_d22 : decode physOf_I.2.1 22 = .ok (.ifCond .lt 14, 3) := by decide +kernel
theorem physOf_d25 : decode physOf_I.2.1 25 = .ok (.iload_n 2, 1) := by decide +kernel
theorem physOf_d26 : decode physOf_I.2.1 26 = .ok (.iload_n 3, 1) := by decide +kernel
theorem physOf_d27 : decode physOf_I.2.1 27 = .ok (.if_icmp .ge 9, 3) := by decide +kernel
theorem physOf_d30 : decode physOf_I.2.1 30 = .ok (.iload_n 2, 1) := by decide +kernel
theorem physOf_d31 : decode physOf_I.2.1 31 = .ok (.bipush 32, 2) := by decide +kernel
theorem physOf_d33 : decode physOf_I.2.1 33 = .ok (.if_icmp .lt 6, 3) := by decide +kernel
theorem physOf_d36 : decode physOf_I.2.1 36 = .ok (.bipush (-2), 2) := by decide +kernel
theorem physOf_d38 : decode physOf_I.2.1 38 = .ok (.ireturn, 1) := by decide +kernel
theorem physOf_d39 : decode physOf_I.2.1 39 = .ok (.aload_n 0, 1) := by decide +kernel
theorem physOf_d40 : decode physOf_I.2.1 40 = .ok (.getfield 30, 3) := by decide +kernel
theorem physOf_d43 : decode physOf_I.2.1 43 = .ok (.aload_n 0, 1) := by decide +kernel
theorem physOf_d44 : decode physOf_I.2.1 44 = .ok (.iload_n 1, 1) := by decide +kernel
theorem physOf_d45 : decode physOf_I.2.1 45 = .ok (.iload_n 2, 1) := by decide +kernel
theorem physOf_d46 : decode physOf_I.2.1 46 = .ok (.invokevirtual 119, 3) := by decide +kernel
theorem physOf_d49 : decode physOf_I.2.1 49 = .ok (.iaload, 1) := by decide +kernel
theorem physOf_d50 : decode physOf_I.2.1 50 = .ok (.ireturn, 1) := by decide +kernel
theorem physOf_p : parseMethodDescriptor physOf_I.1.desc = some ⟨[.int, .int], (some .int)⟩ := by decide +kernel
theorem physOf_K {a0 : Array Value} {Z : State} {M : Mi} (hw : Words a0 Z) (h : physOf_I.2.2.2.2.1 + 1 ≤ M.2.2.2.2.1) : Callee a0 Z M physOf_I 2 := ⟨pnC, (wd126 hw), (wd2 hw), h, by decide, fun sig q => by cases physOf_p.symm.trans q; rfl⟩
set_option maxRecDepth 65536 in
set_option maxHeartbeats 4000000 in
theorem physOf_M_ok {l : Launch} {Z : State} {a0 : Array Value} {n0 : Nat} {cv : Nat → Nat} {h0 : Heap} (hw : Words a0 Z) (K : KA a0 Z n0 CN nI FF cv) (x1 : Int) (x2 : Int) (s : Obj) : GQ (XA l Z n0 CN FF cv h0) physOf_I 0 0 0 (entry [Rf 0, I x1, I x2] physOf_I.2.2.1) [] s (physOf_M x1 x2 s) := by
  show GQ _ _ _ _ 0 [some (Rf 0), some (I x1), some (I x2), none] [] _ _
  unfold physOf_M
  refine GQ.aloadN (pc' := 1) physOf_d0 rfl rfl ?_
  refine GQ.iloadN (pc' := 2) physOf_d1 rfl rfl ?_
  refine GQ.callP (Mc := isValidFile_I) (args0 := [I x1]) (S := []) (r := 0) (pc' := 5) (isValidFile_K hw (by decide)) rfl physOf_d2 rfl (wd69 hw) (wd70 hw) (wd71 hw) (wd1 hw) XA.recv rfl (isValidFile_M_ok hw K x1 s) rfl (fun z2 s2 => ?_)
  show GQ (XA l Z n0 CN FF cv h0) physOf_I _ _ 5 [some (Rf 0), some (I x1), some (I x2), none] [I z2] s2 _
  refine GQ.ifF (pcT := 10) (pcF := 8) h_ne physOf_d5 rfl rfl rfl ?_ ?_
  · refine GQ.aloadN (pc' := 11) physOf_d10 rfl rfl ?_
    refine GQ.aloadN (pc' := 12) physOf_d11 rfl rfl ?_
    refine GQ.getA (M := physOf_I) (k := 11) (pc' := 15) rfl (by decide) (wd21 hw) physOf_d12 rfl ?_
    refine GQ.iloadN (pc' := 16) physOf_d15 rfl rfl ?_
    refine GQ.rd (k := 11) (ins := .iaload) (pc' := 17) rfl (by decide) (Or.inl ⟨rfl, rfl⟩) physOf_d16 rfl (fun z16 => ?_)
    refine GQ.callP (Mc := blocksFor_I) (args0 := [I z16]) (S := []) (r := 0) (pc' := 20) (blocksFor_K hw (by decide)) rfl physOf_d17 rfl (wd81 hw) (wd82 hw) (wd83 hw) (wd1 hw) XA.recv rfl (blocksFor_M_ok hw K z16 s2) rfl (fun z17 s17 => ?_)
    show GQ (XA l Z n0 CN FF cv h0) physOf_I _ _ 20 [some (Rf 0), some (I x1), some (I x2), none] [I z17] s17 _
    refine GQ.istoreN (L' := [some (Rf 0), some (I x1), some (I x2), some (I z17)]) (pc' := 21) physOf_d20 rfl rfl rfl ?_
    refine GQ.iloadN (pc' := 22) physOf_d21 rfl rfl ?_
    refine GQ.ifT (pcT := 36) (pcF := 25) h_lt physOf_d22 rfl rfl rfl ?_ ?_
    · refine GQ.bipush (pc' := 38) physOf_d36 rfl rfl ?_
      exact GQ.iret rfl physOf_d38
    refine GQ.iloadN (pc' := 26) physOf_d25 rfl rfl ?_
    refine GQ.iloadN (pc' := 27) physOf_d26 rfl rfl ?_
    refine GQ.icmpF (pcT := 36) (pcF := 30) h_ge physOf_d27 rfl rfl rfl ?_ ?_
    · refine GQ.bipush (pc' := 38) physOf_d36 rfl rfl ?_
      exact GQ.iret rfl physOf_d38
    refine GQ.iloadN (pc' := 31) physOf_d30 rfl rfl ?_
    refine GQ.bipush (pc' := 33) physOf_d31 rfl rfl ?_
    refine GQ.icmpT (pcT := 39) (pcF := 36) h_lt physOf_d33 rfl rfl rfl ?_ ?_
    · refine GQ.aloadN (pc' := 40) physOf_d39 rfl rfl ?_
      refine GQ.getA (M := physOf_I) (k := 12) (pc' := 43) rfl (by decide) (wd23 hw) physOf_d40 rfl ?_
      refine GQ.aloadN (pc' := 44) physOf_d43 rfl rfl ?_
      refine GQ.iloadN (pc' := 45) physOf_d44 rfl rfl ?_
      refine GQ.iloadN (pc' := 46) physOf_d45 rfl rfl ?_
      refine GQ.callP (Mc := mapSlot_I) (args0 := [I x1, I x2]) (S := [Rf 13]) (r := 0) (pc' := 49) (mapSlot_K hw (by decide)) rfl physOf_d46 rfl (wd106 hw) (wd107 hw) (wd108 hw) (wd1 hw) XA.recv rfl (mapSlot_M_ok hw K x1 x2 s17) rfl (fun z46 s46 => ?_)
      show GQ (XA l Z n0 CN FF cv h0) physOf_I _ _ 49 [some (Rf 0), some (I x1), some (I x2), some (I z17)] [I z46, Rf 13] s46 _
      refine GQ.rd (k := 12) (ins := .iaload) (pc' := 50) rfl (by decide) (Or.inl ⟨rfl, rfl⟩) physOf_d49 rfl (fun z49 => ?_)
      exact GQ.iret rfl physOf_d50
    refine GQ.bipush (pc' := 38) physOf_d36 rfl rfl ?_
    exact GQ.iret rfl physOf_d38
  refine GQ.iconst (pc' := 9) physOf_d8 rfl rfl ?_
  exact GQ.iret rfl physOf_d9
def markFree_I : Mi := (⟨"ShrinkRelocator", "markFree", "(I)V"⟩, prog_1_method_35_code, 2, none, 0, 0)
theorem markFree_d0 : decode markFree_I.2.1 0 = .ok (.iload_n 1, 1) := by decide +kernel
theorem markFree_d1 : decode markFree_I.2.1 1 = .ok (.ifCond .lt 9, 3) := by decide +kernel
theorem markFree_d4 : decode markFree_I.2.1 4 = .ok (.iload_n 1, 1) := by decide +kernel
theorem markFree_d5 : decode markFree_I.2.1 5 = .ok (.bipush 32, 2) := by decide +kernel
theorem markFree_d7 : decode markFree_I.2.1 7 = .ok (.if_icmp .lt 4, 3) := by decide +kernel
theorem markFree_d10 : decode markFree_I.2.1 10 = .ok (.return_, 1) := by decide +kernel
theorem markFree_d11 : decode markFree_I.2.1 11 = .ok (.aload_n 0, 1) := by decide +kernel
theorem markFree_d12 : decode markFree_I.2.1 12 = .ok (.aload_n 0, 1) := by decide +kernel
theorem markFree_d13 : decode markFree_I.2.1 13 = .ok (.getfield 62, 3) := by decide +kernel
theorem markFree_d16 : decode markFree_I.2.1 16 = .ok (.iconst 1, 1) := by decide +kernel
theorem markFree_d17 : decode markFree_I.2.1 17 = .ok (.iload_n 1, 1) := by decide +kernel
theorem markFree_d18 : decode markFree_I.2.1 18 = .ok (.ishl, 1) := by decide +kernel
theorem markFree_d19 : decode markFree_I.2.1 19 = .ok (.iconst (-1), 1) := by decide +kernel
theorem markFree_d20 : decode markFree_I.2.1 20 = .ok (.ixor, 1) := by decide +kernel
theorem markFree_d21 : decode markFree_I.2.1 21 = .ok (.iand, 1) := by decide +kernel
theorem markFree_d22 : decode markFree_I.2.1 22 = .ok (.putfield 62, 3) := by decide +kernel
theorem markFree_d25 : decode markFree_I.2.1 25 = .ok (.aload_n 0, 1) := by decide +kernel
theorem markFree_d26 : decode markFree_I.2.1 26 = .ok (.getfield 33, 3) := by decide +kernel
theorem markFree_d29 : decode markFree_I.2.1 29 = .ok (.iload_n 1, 1) := by decide +kernel
theorem markFree_d30 : decode markFree_I.2.1 30 = .ok (.iconst (-1), 1) := by decide +kernel
theorem markFree_d31 : decode markFree_I.2.1 31 = .ok (.iastore, 1) := by decide +kernel
theorem markFree_d32 : decode markFree_I.2.1 32 = .ok (.aload_n 0, 1) := by decide +kernel
theorem markFree_d33 : decode markFree_I.2.1 33 = .ok (.getfield 36, 3) := by decide +kernel
theorem markFree_d36 : decode markFree_I.2.1 36 = .ok (.iload_n 1, 1) := by decide +kernel
theorem markFree_d37 : decode markFree_I.2.1 37 = .ok (.iconst (-1), 1) := by decide +kernel
theorem markFree_d38 : decode markFree_I.2.1 38 = .ok (.iastore, 1) := by decide +kernel
theorem markFree_d39 : decode markFree_I.2.1 39 = .ok (.return_, 1) := by decide +kernel
theorem markFree_p : parseMethodDescriptor markFree_I.1.desc = some ⟨[.int], none⟩ := by decide +kernel
theorem markFree_K {a0 : Array Value} {Z : State} {M : Mi} (hw : Words a0 Z) (h : markFree_I.2.2.2.2.1 + 1 ≤ M.2.2.2.2.1) : Callee a0 Z M markFree_I 1 := ⟨pnC, (wd139 hw), (wd2 hw), h, by decide, fun sig q => by cases markFree_p.symm.trans q; rfl⟩
set_option maxRecDepth 65536 in
set_option maxHeartbeats 4000000 in
theorem markFree_M_ok {l : Launch} {Z : State} {a0 : Array Value} {n0 : Nat} {cv : Nat → Nat} {h0 : Heap} (hw : Words a0 Z) (K : KA a0 Z n0 CN nI FF cv) (x1 : Int) (s : Obj) : GQ (XA l Z n0 CN FF cv h0) markFree_I 0 0 0 (entry [Rf 0, I x1] markFree_I.2.2.1) [] s (markFree_M x1 s) := by
  show GQ _ _ _ _ 0 [some (Rf 0), some (I x1)] [] _ _
  unfold markFree_M
  refine GQ.iloadN (pc' := 1) markFree_d0 rfl rfl ?_
  refine GQ.ifT (pcT := 10) (pcF := 4) h_lt markFree_d1 rfl rfl rfl ?_ ?_
  · exact GQ.ret rfl markFree_d10
  refine GQ.iloadN (pc' := 5) markFree_d4 rfl rfl ?_
  refine GQ.bipush (pc' := 7) markFree_d5 rfl rfl ?_
  refine GQ.icmpT (pcT := 11) (pcF := 10) h_lt markFree_d7 rfl rfl rfl ?_ ?_
  · refine GQ.aloadN (pc' := 12) markFree_d11 rfl rfl ?_
    refine GQ.aloadN (pc' := 13) markFree_d12 rfl rfl ?_
    refine GQ.getI (M := markFree_I) (k := 9) (pc' := 16) rfl (wd45 hw) markFree_d13 rfl ?_
    refine GQ.iconst (pc' := 17) markFree_d16 rfl rfl ?_
    refine GQ.iloadN (pc' := 18) markFree_d17 rfl rfl ?_
    refine GQ.ishl (pc' := 19) markFree_d18 rfl ?_
    refine GQ.iconst (pc' := 20) markFree_d19 rfl rfl ?_
    refine GQ.ixor (pc' := 21) markFree_d20 rfl ?_
    refine GQ.iand (pc' := 22) markFree_d21 rfl ?_
    refine GQ.putI (M := markFree_I) (k := 9) (pc' := 25) K rfl (wd45 hw) (wd46 hw) markFree_d22 rfl ?_
    refine GQ.letM (fun s22 => ?_)
    refine GQ.aloadN (pc' := 26) markFree_d25 rfl rfl ?_
    refine GQ.getA (M := markFree_I) (k := 13) (pc' := 29) rfl (by decide) (wd25 hw) markFree_d26 rfl ?_
    refine GQ.iloadN (pc' := 30) markFree_d29 rfl rfl ?_
    refine GQ.iconst (pc' := 31) markFree_d30 rfl rfl ?_
    refine GQ.wr (k := 13) (ins := .iastore) (pc' := 32) K rfl (by decide) (Or.inl ⟨rfl, rfl⟩) markFree_d31 rfl (fun s31 => ?_)
    refine GQ.aloadN (pc' := 33) markFree_d32 rfl rfl ?_
    refine GQ.getA (M := markFree_I) (k := 14) (pc' := 36) rfl (by decide) (wd27 hw) markFree_d33 rfl ?_
    refine GQ.iloadN (pc' := 37) markFree_d36 rfl rfl ?_
    refine GQ.iconst (pc' := 38) markFree_d37 rfl rfl ?_
    refine GQ.wr (k := 14) (ins := .iastore) (pc' := 39) K rfl (by decide) (Or.inl ⟨rfl, rfl⟩) markFree_d38 rfl (fun s38 => ?_)
    exact GQ.ret rfl markFree_d39
  exact GQ.ret rfl markFree_d10
def releaseFrom_I : Mi := (⟨"ShrinkRelocator", "releaseFrom", "(II)V"⟩, prog_1_method_28_code, 8, none, 1, 14)
theorem releaseFrom_d0 : decode releaseFrom_I.2.1 0 = .ok (.aload_n 0, 1) := by decide +kernel
theorem releaseFrom_d1 : decode releaseFrom_I.2.1 1 = .ok (.aload_n 0, 1) := by decide +kernel
theorem releaseFrom_d2 : decode releaseFrom_I.2.1 2 = .ok (.getfield 26, 3) := by decide +kernel
theorem releaseFrom_d5 : decode releaseFrom_I.2.1 5 = .ok (.iload_n 1, 1) := by decide +kernel
theorem releaseFrom_d6 : decode releaseFrom_I.2.1 6 = .ok (.iaload, 1) := by decide +kernel
theorem releaseFrom_d7 : decode releaseFrom_I.2.1 7 = .ok (.invokevirtual 95, 3) := by decide +kernel
theorem releaseFrom_d10 : decode releaseFrom_I.2.1 10 = .ok (.istore_n 3, 1) := by decide +kernel
theorem releaseFrom_d11 : decode releaseFrom_I.2.1 11 = .ok (.iload_n 2, 1) := by decide +kernel
theorem releaseFrom_d12 : decode releaseFrom_I.2.1 12 = .ok (.ifCond .ge 7, 3) := by decide +kernel
theorem releaseFrom_d15 : decode releaseFrom_I.2.1 15 = .ok (.iconst 0, 1) := by decide +kernel
theorem releaseFrom_d16 : decode releaseFrom_I.2.1 16 = .ok (.goto 4, 3) := by decide +kernel
theorem releaseFrom_d19 : decode releaseFrom_I.2.1 19 = .ok (.iload_n 2, 1) := by decide +kernel
theorem releaseFrom_d20 : decode releaseFrom_I.2.1 20 = .ok (.istore 4, 2) := by decide +kernel
theorem releaseFrom_d22 : decode releaseFrom_I.2.1 22 = .ok (.iload 4, 2) := by decide +kernel
theorem releaseFrom_d24 : decode releaseFrom_I.2.1 24 = .ok (.istore 5, 2) := by decide +kernel
theorem releaseFrom_d26 : decode releaseFrom_I.2.1 26 = .ok (.iload 5, 2) := by decide +kernel
theorem releaseFrom_d28 : decode releaseFrom_I.2.1 28 = .ok (.iload_n 3, 1) := by decide +kernel
theorem releaseFrom_d29 : decode releaseFrom_I.2.1 29 = .ok (.if_icmp .ge 48, 3) := by decide +kernel
theorem releaseFrom_d32 : decode releaseFrom_I.2.1 32 = .ok (.iload 5, 2) := by decide +kernel
theorem releaseFrom_d34 : decode releaseFrom_I.2.1 34 = .ok (.bipush 32, 2) := by decide +kernel
theorem releaseFrom_d36 : decode releaseFrom_I.2.1 36 = .ok (.if_icmp .ge 41, 3) := by decide +kernel
theorem releaseFrom_d39 : decode releaseFrom_I.2.1 39 = .ok (.aload_n 0, 1) := by decide +kernel
theorem releaseFrom_d40 : decode releaseFrom_I.2.1 40 = .ok (.iload_n 1, 1) := by decide +kernel
theorem releaseFrom_d41 : decode releaseFrom_I.2.1 41 = .ok (.iload 5, 2) := by decide +kernel
theorem releaseFrom_d43 : decode releaseFrom_I.2.1 43 = .ok (.invokevirtual 119, 3) := by decide +kernel
theorem releaseFrom_d46 : decode releaseFrom_I.2.1 46 = .ok (.istore 6, 2) := by decide +kernel
theorem releaseFrom_d48 : decode releaseFrom_I.2.1 48 = .ok (.aload_n 0, 1) := by decide +kernel
theorem releaseFrom_d49 : decode releaseFrom_I.2.1 49 = .ok (.getfield 30, 3) := by decide +kernel
theorem releaseFrom_d52 : decode releaseFrom_I.2.1 52 = .ok (.iload 6, 2) := by decide +kernel
theorem releaseFrom_d54 : decode releaseFrom_I.2.1 54 = .ok (.iaload, 1) := by decide +kernel
theorem releaseFrom_d55 : decode releaseFrom_I.2.1 55 = .ok (.istore 7, 2) := by decide +kernel
theorem releaseFrom_d57 : decode releaseFrom_I.2.1 57 = .ok (.aload_n 0, 1) := by decide +kernel
theorem releaseFrom_d58 : decode releaseFrom_I.2.1 58 = .ok (.iload 7, 2) := by decide +kernel
theorem releaseFrom_d60 : decode releaseFrom_I.2.1 60 = .ok (.invokevirtual 131, 3) := by decide +kernel
theorem releaseFrom_d63 : decode releaseFrom_I.2.1 63 = .ok (.aload_n 0, 1) := by decide +kernel
theorem releaseFrom_d64 : decode releaseFrom_I.2.1 64 = .ok (.getfield 30, 3) := by decide +kernel
theorem releaseFrom_d67 : decode releaseFrom_I.2.1 67 = .ok (.iload 6, 2) := by decide +kernel
theorem releaseFrom_d69 : decode releaseFrom_I.2.1 69 = .ok (.iconst (-1), 1) := by decide +kernel
theorem releaseFrom_d70 : decode releaseFrom_I.2.1 70 = .ok (.iastore, 1) := by decide +kernel
theorem releaseFrom_d71 : decode releaseFrom_I.2.1 71 = .ok (.iinc 5 1, 3) := by decide +kernel
theorem releaseFrom_d74 : decode releaseFrom_I.2.1 74 = .ok (.goto (-48), 3) := by decide +kernel
theorem releaseFrom_d77 : decode releaseFrom_I.2.1 77 = .ok (.return_, 1) := by decide +kernel
theorem releaseFrom_p : parseMethodDescriptor releaseFrom_I.1.desc = some ⟨[.int, .int], none⟩ := by decide +kernel
theorem releaseFrom_K {a0 : Array Value} {Z : State} {M : Mi} (hw : Words a0 Z) (h : releaseFrom_I.2.2.2.2.1 + 1 ≤ M.2.2.2.2.1) : Callee a0 Z M releaseFrom_I 2 := ⟨pnC, (wd135 hw), (wd2 hw), h, by decide, fun sig q => by cases releaseFrom_p.symm.trans q; rfl⟩
set_option maxRecDepth 65536 in
set_option maxHeartbeats 4000000 in
theorem releaseFrom_l26b_ok {l : Launch} {Z : State} {a0 : Array Value} {n0 : Nat} {cv : Nat → Nat} {h0 : Heap} (hw : Words a0 Z) (K : KA a0 Z n0 CN nI FF cv) (x1 : Int) (x3 : Int) {rec : Int → Obj → Option (Int × Obj)} (hrec : ∀ (x5 : Int) (s : Obj), GQ (XA l Z n0 CN FF cv h0) releaseFrom_I 0 0 26 [some (Rf 0), some (I x1), none, some (I x3), none, some (I x5), none, none] [] s (rec x5 s)) (x5 : Int) (s : Obj) : GQ (XA l Z n0 CN FF cv h0) releaseFrom_I 0 0 26 [some (Rf 0), some (I x1), none, some (I x3), none, some (I x5), none, none] [] s (releaseFrom_l26b x1 x3 rec x5 s) := by
  unfold releaseFrom_l26b
  refine GQ.iload (pc' := 28) releaseFrom_d26 rfl rfl ?_
  refine GQ.iloadN (pc' := 29) releaseFrom_d28 rfl rfl ?_
  refine GQ.icmpF (pcT := 77) (pcF := 32) h_ge releaseFrom_d29 rfl rfl rfl ?_ ?_
  · exact GQ.ret rfl releaseFrom_d77
  refine GQ.iload (pc' := 34) releaseFrom_d32 rfl rfl ?_
  refine GQ.bipush (pc' := 36) releaseFrom_d34 rfl rfl ?_
  refine GQ.icmpF (pcT := 77) (pcF := 39) h_ge releaseFrom_d36 rfl rfl rfl ?_ ?_
  · exact GQ.ret rfl releaseFrom_d77
  refine GQ.aloadN (pc' := 40) releaseFrom_d39 rfl rfl ?_
  refine GQ.iloadN (pc' := 41) releaseFrom_d40 rfl rfl ?_
  refine GQ.iload (pc' := 43) releaseFrom_d41 rfl rfl ?_
  refine GQ.callP (Mc := mapSlot_I) (args0 := [I x1, I x5]) (S := []) (r := 0) (pc' := 46) (mapSlot_K hw (by decide)) rfl releaseFrom_d43 rfl (wd106 hw) (wd107 hw) (wd108 hw) (wd1 hw) XA.recv rfl (mapSlot_M_ok hw K x1 x5 s) rfl (fun z43 s43 => ?_)
  show GQ (XA l Z n0 CN FF cv h0) releaseFrom_I _ _ 46 [some (Rf 0), some (I x1), none, some (I x3), none, some (I x5), none, none] [I z43] s43 _
  refine GQ.istore (L' := [some (Rf 0), some (I x1), none, some (I x3), none, some (I x5), some (I z43), none]) (pc' := 48) releaseFrom_d46 rfl rfl rfl ?_
  refine GQ.aloadN (pc' := 49) releaseFrom_d48 rfl rfl ?_
  refine GQ.getA (M := releaseFrom_I) (k := 12) (pc' := 52) rfl (by decide) (wd23 hw) releaseFrom_d49 rfl ?_
  refine GQ.iload (pc' := 54) releaseFrom_d52 rfl rfl ?_
  refine GQ.rd (k := 12) (ins := .iaload) (pc' := 55) rfl (by decide) (Or.inl ⟨rfl, rfl⟩) releaseFrom_d54 rfl (fun z54 => ?_)
  refine GQ.istore (L' := [some (Rf 0), some (I x1), none, some (I x3), none, some (I x5), some (I z43), some (I z54)]) (pc' := 57) releaseFrom_d55 rfl rfl rfl ?_
  refine GQ.aloadN (pc' := 58) releaseFrom_d57 rfl rfl ?_
  refine GQ.iload (pc' := 60) releaseFrom_d58 rfl rfl ?_
  refine GQ.callP (Mc := markFree_I) (args0 := [I z54]) (S := []) (r := 0) (pc' := 63) (markFree_K hw (by decide)) rfl releaseFrom_d60 rfl (wd136 hw) (wd137 hw) (wd138 hw) (wd1 hw) XA.recv rfl (markFree_M_ok hw K z54 s43) rfl (fun _ s60 => ?_)
  show GQ (XA l Z n0 CN FF cv h0) releaseFrom_I _ _ 63 [some (Rf 0), some (I x1), none, some (I x3), none, some (I x5), some (I z43), some (I z54)] [] s60 _
  refine GQ.aloadN (pc' := 64) releaseFrom_d63 rfl rfl ?_
  refine GQ.getA (M := releaseFrom_I) (k := 12) (pc' := 67) rfl (by decide) (wd23 hw) releaseFrom_d64 rfl ?_
  refine GQ.iload (pc' := 69) releaseFrom_d67 rfl rfl ?_
  refine GQ.iconst (pc' := 70) releaseFrom_d69 rfl rfl ?_
  refine GQ.wr (k := 12) (ins := .iastore) (pc' := 71) K rfl (by decide) (Or.inl ⟨rfl, rfl⟩) releaseFrom_d70 rfl (fun s70 => ?_)
  refine GQ.iinc (L' := [some (Rf 0), some (I x1), none, some (I x3), none, some (I (aAdd x5 1)), some (I z43), some (I z54)]) (pc' := 74) releaseFrom_d71 rfl rfl rfl rfl ?_
  refine GQ.goto (pc' := 26) releaseFrom_d74 rfl rfl ?_
  refine GQ.weak (L' := [some (Rf 0), some (I x1), none, some (I x3), none, some (I (aAdd x5 1)), none, none]) (Sub.keep (Sub.keep (Sub.keep (Sub.keep (Sub.keep (Sub.keep (Sub.drop (Sub.drop Sub.nil)))))))) ?_
  exact hrec (aAdd x5 1) s70
set_option maxRecDepth 65536 in
set_option maxHeartbeats 4000000 in
theorem releaseFrom_l26_ok {l : Launch} {Z : State} {a0 : Array Value} {n0 : Nat} {cv : Nat → Nat} {h0 : Heap} (hw : Words a0 Z) (K : KA a0 Z n0 CN nI FF cv) (x1 : Int) (x3 : Int) : ∀ (fu : Nat) (x5 : Int) (s : Obj), GQ (XA l Z n0 CN FF cv h0) releaseFrom_I 0 0 26 [some (Rf 0), some (I x1), none, some (I x3), none, some (I x5), none, none] [] s (releaseFrom_l26 x1 x3 fu x5 s)
  | 0 => fun _ _ => GQ.no
  | fu + 1 => releaseFrom_l26b_ok hw K x1 x3 (releaseFrom_l26_ok hw K x1 x3 fu)
set_option maxRecDepth 65536 in
set_option maxHeartbeats 4000000 in
theorem releaseFrom_j20_ok {l : Launch} {Z : State} {a0 : Array Value} {n0 : Nat} {cv : Nat → Nat} {h0 : Heap} (hw : Words a0 Z) (K : KA a0 Z n0 CN nI FF cv) (x1 : Int) (x3 : Int) (y0 : Int) (s : Obj) : GQ (XA l Z n0 CN FF cv h0) releaseFrom_I 0 0 20 [some (Rf 0), some (I x1), none, some (I x3), none, none, none, none] [I y0] s (releaseFrom_j20 x1 x3 y0 s) := by
  unfold releaseFrom_j20
  refine GQ.istore (L' := [some (Rf 0), some (I x1), none, some (I x3), some (I y0), none, none, none]) (pc' := 22) releaseFrom_d20 rfl rfl rfl ?_
  refine GQ.iload (pc' := 24) releaseFrom_d22 rfl rfl ?_
  refine GQ.istore (L' := [some (Rf 0), some (I x1), none, some (I x3), some (I y0), some (I y0), none, none]) (pc' := 26) releaseFrom_d24 rfl rfl rfl ?_
  refine GQ.weak (L' := [some (Rf 0), some (I x1), none, some (I x3), none, some (I y0), none, none]) (Sub.keep (Sub.keep (Sub.keep (Sub.keep (Sub.drop (Sub.keep (Sub.keep (Sub.keep Sub.nil)))))))) ?_
  exact releaseFrom_l26_ok hw K x1 x3 FU y0 s
set_option maxRecDepth 65536 in
set_option maxHeartbeats 4000000 in
theorem releaseFrom_M_ok {l : Launch} {Z : State} {a0 : Array Value} {n0 : Nat} {cv : Nat → Nat} {h0 : Heap} (hw : Words a0 Z) (K : KA a0 Z n0 CN nI FF cv) (x1 : Int) (x2 : Int) (s : Obj) : GQ (XA l Z n0 CN FF cv h0) releaseFrom_I 0 0 0 (entry [Rf 0, I x1, I x2] releaseFrom_I.2.2.1) [] s (releaseFrom_M x1 x2 s) := by
  show GQ _ _ _ _ 0 [some (Rf 0), some (I x1), some (I x2), none, none, none, none, none] [] _ _
  unfold releaseFrom_M
  refine GQ.aloadN (pc' := 1) releaseFrom_d0 rfl rfl ?_
  refine GQ.aloadN (pc' := 2) releaseFrom_d1 rfl rfl ?_
  refine GQ.getA (M := releaseFrom_I) (k := 11) (pc' := 5) rfl (by decide) (wd21 hw) releaseFrom_d2 rfl ?_
  refine GQ.iloadN (pc' := 6) releaseFrom_d5 rfl rfl ?_
  refine GQ.rd (k := 11) (ins := .iaload) (pc' := 7) rfl (by decide) (Or.inl ⟨rfl, rfl⟩) releaseFrom_d6 rfl (fun z6 => ?_)
  refine GQ.callP (Mc := blocksFor_I) (args0 := [I z6]) (S := []) (r := 0) (pc' := 10) (blocksFor_K hw (by decide)) rfl releaseFrom_d7 rfl (wd81 hw) (wd82 hw) (wd83 hw) (wd1 hw) XA.recv rfl (blocksFor_M_ok hw K z6 s) rfl (fun z7 s7 => ?_)
  show GQ (XA l Z n0 CN FF cv h0) releaseFrom_I _ _ 10 [some (Rf 0), some (I x1), some (I x2), none, none, none, none, none] [I z7] s7 _
  refine GQ.istoreN (L' := [some (Rf 0), some (I x1), some (I x2), some (I z7), none, none, none, none]) (pc' := 11) releaseFrom_d10 rfl rfl rfl ?_
  refine GQ.iloadN (pc' := 12) releaseFrom_d11 rfl rfl ?_
  refine GQ.ifF (pcT := 19) (pcF := 15) h_ge releaseFrom_d12 rfl rfl rfl ?_ ?_
  · refine GQ.iloadN (pc' := 20) releaseFrom_d19 rfl rfl ?_
    refine GQ.weak (L' := [some (Rf 0), some (I x1), none, some (I z7), none, none, none, none]) (Sub.keep (Sub.keep (Sub.drop (Sub.keep (Sub.keep (Sub.keep (Sub.keep (Sub.keep Sub.nil)))))))) ?_
    exact releaseFrom_j20_ok hw K x1 z7 x2 s7
  refine GQ.iconst (pc' := 16) releaseFrom_d15 rfl rfl ?_
  refine GQ.goto (pc' := 20) releaseFrom_d16 rfl rfl ?_
  refine GQ.weak (L' := [some (Rf 0), some (I x1), none, some (I z7), none, none, none, none]) (Sub.keep (Sub.keep (Sub.drop (Sub.keep (Sub.keep (Sub.keep (Sub.keep (Sub.keep Sub.nil)))))))) ?_
  exact releaseFrom_j20_ok hw K x1 z7 0 s7
def delete_I : Mi := (⟨"ShrinkRelocator", "delete", "(I)I"⟩, prog_1_method_3_code, 2, (some .int), 2, 33)
theorem delete_d0 : decode delete_I.2.1 0 = .ok (.aload_n 0, 1) := by decide +kernel
theorem delete_d1 : decode delete_I.2.1 1 = .ok (.iload_n 1, 1) := by decide +kernel
theorem delete_d2 : decode delete_I.2.1 2 = .ok (.invokevirtual 75, 3) := by decide +kernel
theorem delete_d5 : decode delete_I.2.1 5 = .ok (.ifCond .ne 5, 3) := by decide +kernel
theorem delete_d8 : decode delete_I.2.1 8 = .ok (.iconst (-1), 1) := by decide +kernel
theorem delete_d9 : decode delete_I.2.1 9 = .ok (.ireturn, 1) := by decide +kernel
theorem delete_d10 : decode delete_I.2.1 10 = .ok (.aload_n 0, 1) := by decide +kernel
theorem delete_d11 : decode delete_I.2.1 11 = .ok (.iload_n 1, 1) := by decide +kernel
theorem delete_d12 : decode delete_I.2.1 12 = .ok (.iconst 0, 1) := by decide +kernel
theorem delete_d13 : decode delete_I.2.1 13 = .ok (.invokevirtual 79, 3) := by decide +kernel
theorem delete_d16 : decode delete_I.2.1 16 = .ok (.aload_n 0, 1) := by decide +kernel
theorem delete_d17 : decode delete_I.2.1 17 = .ok (.getfield 26, 3) := by decide +kernel
theorem delete_d20 : decode delete_I.2.1 20 = .ok (.iload_n 1, 1) := by decide +kernel
theorem delete_d21 : decode delete_I.2.1 21 = .ok (.iconst 0, 1) := by decide +kernel
theorem delete_d22 : decode delete_I.2.1 22 = .ok (.iastore, 1) := by decide +kernel
theorem delete_d23 : decode delete_I.2.1 23 = .ok (.aload_n 0, 1) := by decide +kernel
theorem delete_d24 : decode delete_I.2.1 24 = .ok (.getfield 22, 3) := by decide +kernel
theorem delete_d27 : decode delete_I.2.1 27 = .ok (.iload_n 1, 1) := by decide +kernel
theorem delete_d28 : decode delete_I.2.1 28 = .ok (.iconst 0, 1) := by decide +kernel
theorem delete_d29 : decode delete_I.2.1 29 = .ok (.bastore, 1) := by decide +kernel
theorem delete_d30 : decode delete_I.2.1 30 = .ok (.iconst 0, 1) := by decide +kernel
theorem delete_d31 : decode delete_I.2.1 31 = .ok (.ireturn, 1) := by decide +kernel
theorem delete_p : parseMethodDescriptor delete_I.1.desc = some ⟨[.int], (some .int)⟩ := by decide +kernel
theorem delete_K {a0 : Array Value} {Z : State} {M : Mi} (hw : Words a0 Z) (h : delete_I.2.2.2.2.1 + 1 ≤ M.2.2.2.2.1) : Callee a0 Z M delete_I 1 := ⟨pnC, (wd131 hw), (wd2 hw), h, by decide, fun sig q => by cases delete_p.symm.trans q; rfl⟩
set_option maxRecDepth 65536 in
set_option maxHeartbeats 4000000 in
theorem delete_M_ok {l : Launch} {Z : State} {a0 : Array Value} {n0 : Nat} {cv : Nat → Nat} {h0 : Heap} (hw : Words a0 Z) (K : KA a0 Z n0 CN nI FF cv) (x1 : Int) (s : Obj) : GQ (XA l Z n0 CN FF cv h0) delete_I 0 0 0 (entry [Rf 0, I x1] delete_I.2.2.1) [] s (delete_M x1 s) := by
  show GQ _ _ _ _ 0 [some (Rf 0), some (I x1)] [] _ _
  unfold delete_M
  refine GQ.aloadN (pc' := 1) delete_d0 rfl rfl ?_
  refine GQ.iloadN (pc' := 2) delete_d1 rfl rfl ?_
  refine GQ.callP (Mc := isValidFile_I) (args0 := [I x1]) (S := []) (r := 0) (pc' := 5) (isValidFile_K hw (by decide)) rfl delete_d2 rfl (wd69 hw) (wd70 hw) (wd71 hw) (wd1 hw) XA.recv rfl (isValidFile_M_ok hw K x1 s) rfl (fun z2 s2 => ?_)
  show GQ (XA l Z n0 CN FF cv h0) delete_I _ _ 5 [some (Rf 0), some (I x1)] [I z2] s2 _
  refine GQ.ifF (pcT := 10) (pcF := 8) h_ne delete_d5 rfl rfl rfl ?_ ?_
  · refine GQ.aloadN (pc' := 11) delete_d10 rfl rfl ?_
    refine GQ.iloadN (pc' := 12) delete_d11 rfl rfl ?_
    refine GQ.iconst (pc' := 13) delete_d12 rfl rfl ?_
    refine GQ.callP (Mc := releaseFrom_I) (args0 := [I x1, I 0]) (S := []) (r := 0) (pc' := 16) (releaseFrom_K hw (by decide)) rfl delete_d13 rfl (wd132 hw) (wd133 hw) (wd134 hw) (wd1 hw) XA.recv rfl (releaseFrom_M_ok hw K x1 0 s2) rfl (fun _ s13 => ?_)
    show GQ (XA l Z n0 CN FF cv h0) delete_I _ _ 16 [some (Rf 0), some (I x1)] [] s13 _
    refine GQ.aloadN (pc' := 17) delete_d16 rfl rfl ?_
    refine GQ.getA (M := delete_I) (k := 11) (pc' := 20) rfl (by decide) (wd21 hw) delete_d17 rfl ?_
    refine GQ.iloadN (pc' := 21) delete_d20 rfl rfl ?_
    refine GQ.iconst (pc' := 22) delete_d21 rfl rfl ?_
    refine GQ.wr (k := 11) (ins := .iastore) (pc' := 23) K rfl (by decide) (Or.inl ⟨rfl, rfl⟩) delete_d22 rfl (fun s22 => ?_)
    refine GQ.aloadN (pc' := 24) delete_d23 rfl rfl ?_
    refine GQ.getA (M := delete_I) (k := 10) (pc' := 27) rfl (by decide) (wd18 hw) delete_d24 rfl ?_
    refine GQ.iloadN (pc' := 28) delete_d27 rfl rfl ?_
    refine GQ.iconst (pc' := 29) delete_d28 rfl rfl ?_
    refine GQ.wr (k := 10) (ins := .bastore) (pc' := 30) K rfl (by decide) (Or.inr (Or.inr (Or.inl ⟨rfl, rfl⟩))) delete_d29 rfl (fun s29 => ?_)
    refine GQ.iconst (pc' := 31) delete_d30 rfl rfl ?_
    exact GQ.iret rfl delete_d31
  refine GQ.iconst (pc' := 9) delete_d8 rfl rfl ?_
  exact GQ.iret rfl delete_d9
def shrink_I : Mi := (⟨"ShrinkRelocator", "shrink", "(I)I"⟩, prog_1_method_8_code, 2, (some .int), 2, 26)
theorem shrink_d0 : decode shrink_I.2.1 0 = .ok (.aload_n 0, 1) := by decide +kernel
theorem shrink_d1 : decode shrink_I.2.1 1 = .ok (.getfield 55, 3) := by decide +kernel
theorem shrink_d4 : decode shrink_I.2.1 4 = .ok (.ifCond .eq 6, 3) := by decide +kernel
theorem shrink_d7 : decode shrink_I.2.1 7 = .ok (.bipush (-4), 2) := by decide +kernel
theorem shrink_d9 : decode shrink_I.2.1 9 = .ok (.ireturn, 1) := by decide +kernel
theorem shrink_d10 : decode shrink_I.2.1 10 = .ok (.iload_n 1, 1) := by decide +kernel
theorem shrink_d11 : decode shrink_I.2.1 11 = .ok (.iconst 1, 1) := by decide +kernel
theorem shrink_d12 : decode shrink_I.2.1 12 = .ok (.if_icmp .lt 11, 3) := by decide +kernel
theorem shrink_d15 : decode shrink_I.2.1 15 = .ok (.iload_n 1, 1) := by decide +kernel
theorem shrink_d16 : decode shrink_I.2.1 16 = .ok (.aload_n 0, 1) := by decide +kernel
theorem shrink_d17 : decode shrink_I.2.1 17 = .ok (.getfield 46, 3) := by decide +kernel
theorem shrink_d20 : decode shrink_I.2.1 20 = .ok (.if_icmp .lt 6, 3) := by decide +kernel
theorem shrink_d23 : decode shrink_I.2.1 23 = .ok (.bipush (-2), 2) := by decide +kernel
theorem shrink_d25 : decode shrink_I.2.1 25 = .ok (.ireturn, 1) := by decide +kernel
theorem shrink_d26 : decode shrink_I.2.1 26 = .ok (.aload_n 0, 1) := by decide +kernel
theorem shrink_d27 : decode shrink_I.2.1 27 = .ok (.invokevirtual 102, 3) := by decide +kernel
theorem shrink_d30 : decode shrink_I.2.1 30 = .ok (.iload_n 1, 1) := by decide +kernel
theorem shrink_d31 : decode shrink_I.2.1 31 = .ok (.if_icmp .le 6, 3) := by decide +kernel
theorem shrink_d34 : decode shrink_I.2.1 34 = .ok (.bipush (-3), 2) := by decide +kernel
theorem shrink_d36 : decode shrink_I.2.1 36 = .ok (.ireturn, 1) := by decide +kernel
theorem shrink_d37 : decode shrink_I.2.1 37 = .ok (.aload_n 0, 1) := by decide +kernel
theorem shrink_d38 : decode shrink_I.2.1 38 = .ok (.iconst 1, 1) := by decide +kernel
theorem shrink_d39 : decode shrink_I.2.1 39 = .ok (.putfield 55, 3) := by decide +kernel
theorem shrink_d42 : decode shrink_I.2.1 42 = .ok (.aload_n 0, 1) := by decide +kernel
theorem shrink_d43 : decode shrink_I.2.1 43 = .ok (.iload_n 1, 1) := by decide +kernel
theorem shrink_d44 : decode shrink_I.2.1 44 = .ok (.putfield 59, 3) := by decide +kernel
theorem shrink_d47 : decode shrink_I.2.1 47 = .ok (.iconst 0, 1) := by decide +kernel
theorem shrink_d48 : decode shrink_I.2.1 48 = .ok (.ireturn, 1) := by decide +kernel
theorem shrink_p : parseMethodDescriptor shrink_I.1.desc = some ⟨[.int], (some .int)⟩ := by decide +kernel
theorem shrink_K {a0 : Array Value} {Z : State} {M : Mi} (hw : Words a0 Z) (h : shrink_I.2.2.2.2.1 + 1 ≤ M.2.2.2.2.1) : Callee a0 Z M shrink_I 1 := ⟨pnC, (wd144 hw), (wd2 hw), h, by decide, fun sig q => by cases shrink_p.symm.trans q; rfl⟩
set_option maxRecDepth 65536 in
set_option maxHeartbeats 4000000 in
theorem shrink_M_ok {l : Launch} {Z : State} {a0 : Array Value} {n0 : Nat} {cv : Nat → Nat} {h0 : Heap} (hw : Words a0 Z) (K : KA a0 Z n0 CN nI FF cv) (x1 : Int) (s : Obj) : GQ (XA l Z n0 CN FF cv h0) shrink_I 0 0 0 (entry [Rf 0, I x1] shrink_I.2.2.1) [] s (shrink_M x1 s) := by
  show GQ _ _ _ _ 0 [some (Rf 0), some (I x1)] [] _ _
  unfold shrink_M
  refine GQ.aloadN (pc' := 1) shrink_d0 rfl rfl ?_
  refine GQ.getI (M := shrink_I) (k := 7) (pc' := 4) rfl (wd41 hw) shrink_d1 rfl ?_
  refine GQ.ifT (pcT := 10) (pcF := 7) h_eq shrink_d4 rfl rfl rfl ?_ ?_
  · refine GQ.iloadN (pc' := 11) shrink_d10 rfl rfl ?_
    refine GQ.iconst (pc' := 12) shrink_d11 rfl rfl ?_
    refine GQ.icmpT (pcT := 23) (pcF := 15) h_lt shrink_d12 rfl rfl rfl ?_ ?_
    · refine GQ.bipush (pc' := 25) shrink_d23 rfl rfl ?_
      exact GQ.iret rfl shrink_d25
    refine GQ.iloadN (pc' := 16) shrink_d15 rfl rfl ?_
    refine GQ.aloadN (pc' := 17) shrink_d16 rfl rfl ?_
    refine GQ.getI (M := shrink_I) (k := 4) (pc' := 20) rfl (wd35 hw) shrink_d17 rfl ?_
    refine GQ.icmpT (pcT := 26) (pcF := 23) h_lt shrink_d20 rfl rfl rfl ?_ ?_
    · refine GQ.aloadN (pc' := 27) shrink_d26 rfl rfl ?_
      refine GQ.callP (Mc := allocatedCount_I) (args0 := []) (S := []) (r := 0) (pc' := 30) (allocatedCount_K hw (by decide)) rfl shrink_d27 rfl (wd145 hw) (wd146 hw) (wd147 hw) (wd1 hw) XA.recv rfl (allocatedCount_M_ok hw K s) rfl (fun z27 s27 => ?_)
      show GQ (XA l Z n0 CN FF cv h0) shrink_I _ _ 30 [some (Rf 0), some (I x1)] [I z27] s27 _
      refine GQ.iloadN (pc' := 31) shrink_d30 rfl rfl ?_
      refine GQ.icmpF (pcT := 37) (pcF := 34) h_le shrink_d31 rfl rfl rfl ?_ ?_
      · refine GQ.aloadN (pc' := 38) shrink_d37 rfl rfl ?_
        refine GQ.iconst (pc' := 39) shrink_d38 rfl rfl ?_
        refine GQ.putI (M := shrink_I) (k := 7) (pc' := 42) K rfl (wd41 hw) (wd42 hw) shrink_d39 rfl ?_
        refine GQ.letM (fun s39 => ?_)
        refine GQ.aloadN (pc' := 43) shrink_d42 rfl rfl ?_
        refine GQ.iloadN (pc' := 44) shrink_d43 rfl rfl ?_
        refine GQ.putI (M := shrink_I) (k := 8) (pc' := 47) K rfl (wd43 hw) (wd44 hw) shrink_d44 rfl ?_
        refine GQ.letM (fun s44 => ?_)
        refine GQ.iconst (pc' := 48) shrink_d47 rfl rfl ?_
        exact GQ.iret rfl shrink_d48
      refine GQ.bipush (pc' := 36) shrink_d34 rfl rfl ?_
      exact GQ.iret rfl shrink_d36
    refine GQ.bipush (pc' := 25) shrink_d23 rfl rfl ?_
    exact GQ.iret rfl shrink_d25
  refine GQ.bipush (pc' := 9) shrink_d7 rfl rfl ?_
  exact GQ.iret rfl shrink_d9
def usedFrom_I : Mi := (⟨"ShrinkRelocator", "usedFrom", "(I)I"⟩, prog_1_method_41_code, 2, (some .int), 1, 14)
theorem usedFrom_d0 : decode usedFrom_I.2.1 0 = .ok (.aload_n 0, 1) := by decide +kernel
theorem usedFrom_d1 : decode usedFrom_I.2.1 1 = .ok (.getfield 62, 3) := by decide +kernel
theorem usedFrom_d4 : decode usedFrom_I.2.1 4 = .ok (.aload_n 0, 1) := by decide +kernel
theorem usedFrom_d5 : decode usedFrom_I.2.1 5 = .ok (.iload_n 1, 1) := by decide +kernel
theorem usedFrom_d6 : decode usedFrom_I.2.1 6 = .ok (.invokevirtual 148, 3) := by decide +kernel
theorem usedFrom_d9 : decode usedFrom_I.2.1 9 = .ok (.iconst (-1), 1) := by decide +kernel
theorem usedFrom_d10 : decode usedFrom_I.2.1 10 = .ok (.ixor, 1) := by decide +kernel
theorem usedFrom_d11 : decode usedFrom_I.2.1 11 = .ok (.iand, 1) := by decide +kernel
theorem usedFrom_d12 : decode usedFrom_I.2.1 12 = .ok (.ireturn, 1) := by decide +kernel
theorem usedFrom_p : parseMethodDescriptor usedFrom_I.1.desc = some ⟨[.int], (some .int)⟩ := by decide +kernel
theorem usedFrom_K {a0 : Array Value} {Z : State} {M : Mi} (hw : Words a0 Z) (h : usedFrom_I.2.2.2.2.1 + 1 ≤ M.2.2.2.2.1) : Callee a0 Z M usedFrom_I 1 := ⟨pnC, (wd169 hw), (wd2 hw), h, by decide, fun sig q => by cases usedFrom_p.symm.trans q; rfl⟩
set_option maxRecDepth 65536 in
set_option maxHeartbeats 4000000 in
theorem usedFrom_M_ok {l : Launch} {Z : State} {a0 : Array Value} {n0 : Nat} {cv : Nat → Nat} {h0 : Heap} (hw : Words a0 Z) (K : KA a0 Z n0 CN nI FF cv) (x1 : Int) (s : Obj) : GQ (XA l Z n0 CN FF cv h0) usedFrom_I 0 0 0 (entry [Rf 0, I x1] usedFrom_I.2.2.1) [] s (usedFrom_M x1 s) := by
  show GQ _ _ _ _ 0 [some (Rf 0), some (I x1)] [] _ _
  unfold usedFrom_M
  refine GQ.aloadN (pc' := 1) usedFrom_d0 rfl rfl ?_
  refine GQ.getI (M := usedFrom_I) (k := 9) (pc' := 4) rfl (wd45 hw) usedFrom_d1 rfl ?_
  refine GQ.aloadN (pc' := 5) usedFrom_d4 rfl rfl ?_
  refine GQ.iloadN (pc' := 6) usedFrom_d5 rfl rfl ?_
  refine GQ.callP (Mc := lowMask_I) (args0 := [I x1]) (S := [I (s.1 9)]) (r := 0) (pc' := 9) (lowMask_K hw (by decide)) rfl usedFrom_d6 rfl (wd93 hw) (wd94 hw) (wd95 hw) (wd1 hw) XA.recv rfl (lowMask_M_ok hw K x1 s) rfl (fun z6 s6 => ?_)
  show GQ (XA l Z n0 CN FF cv h0) usedFrom_I _ _ 9 [some (Rf 0), some (I x1)] [I z6, I (s.1 9)] s6 _
  refine GQ.iconst (pc' := 10) usedFrom_d9 rfl rfl ?_
  refine GQ.ixor (pc' := 11) usedFrom_d10 rfl ?_
  refine GQ.iand (pc' := 12) usedFrom_d11 rfl ?_
  exact GQ.iret rfl usedFrom_d12
def pendingCount_I : Mi := (⟨"ShrinkRelocator", "pendingCount", "()I"⟩, prog_1_method_43_code, 2, (some .int), 2, 27)
theorem pendingCount_d0 : decode pendingCount_I.2.1 0 = .ok (.aload_n 0, 1) := by decide +kernel
theorem pendingCount_d1 : decode pendingCount_I.2.1 1 = .ok (.aload_n 0, 1) := by decide +kernel
theorem pendingCount_d2 : decode pendingCount_I.2.1 2 = .ok (.getfield 59, 3) := by decide +kernel
theorem pendingCount_d5 : decode pendingCount_I.2.1 5 = .ok (.invokevirtual 157, 3) := by decide +kernel
theorem pendingCount_d8 : decode pendingCount_I.2.1 8 = .ok (.istore_n 1, 1) := by decide +kernel
theorem pendingCount_d9 : decode pendingCount_I.2.1 9 = .ok (.aload_n 0, 1) := by decide +kernel
theorem pendingCount_d10 : decode pendingCount_I.2.1 10 = .ok (.iload_n 1, 1) := by decide +kernel
theorem pendingCount_d11 : decode pendingCount_I.2.1 11 = .ok (.invokevirtual 140, 3) := by decide +kernel
theorem pendingCount_d14 : decode pendingCount_I.2.1 14 = .ok (.ireturn, 1) := by decide +kernel
theorem pendingCount_p : parseMethodDescriptor pendingCount_I.1.desc = some ⟨[], (some .int)⟩ := by decide +kernel
theorem pendingCount_K {a0 : Array Value} {Z : State} {M : Mi} (hw : Words a0 Z) (h : pendingCount_I.2.2.2.2.1 + 1 ≤ M.2.2.2.2.1) : Callee a0 Z M pendingCount_I 0 := ⟨pnC, (wd165 hw), (wd2 hw), h, by decide, fun sig q => by cases pendingCount_p.symm.trans q; rfl⟩
set_option maxRecDepth 65536 in
set_option maxHeartbeats 4000000 in
theorem pendingCount_M_ok {l : Launch} {Z : State} {a0 : Array Value} {n0 : Nat} {cv : Nat → Nat} {h0 : Heap} (hw : Words a0 Z) (K : KA a0 Z n0 CN nI FF cv) (s : Obj) : GQ (XA l Z n0 CN FF cv h0) pendingCount_I 0 0 0 (entry [Rf 0] pendingCount_I.2.2.1) [] s (pendingCount_M s) := by
  show GQ _ _ _ _ 0 [some (Rf 0), none] [] _ _
  unfold pendingCount_M
  refine GQ.aloadN (pc' := 1) pendingCount_d0 rfl rfl ?_
  refine GQ.aloadN (pc' := 2) pendingCount_d1 rfl rfl ?_
  refine GQ.getI (M := pendingCount_I) (k := 8) (pc' := 5) rfl (wd43 hw) pendingCount_d2 rfl ?_
  refine GQ.callP (Mc := usedFrom_I) (args0 := [I (s.1 8)]) (S := []) (r := 0) (pc' := 8) (usedFrom_K hw (by decide)) rfl pendingCount_d5 rfl (wd166 hw) (wd167 hw) (wd168 hw) (wd1 hw) XA.recv rfl (usedFrom_M_ok hw K (s.1 8) s) rfl (fun z5 s5 => ?_)
  show GQ (XA l Z n0 CN FF cv h0) pendingCount_I _ _ 8 [some (Rf 0), none] [I z5] s5 _
  refine GQ.istoreN (L' := [some (Rf 0), some (I z5)]) (pc' := 9) pendingCount_d8 rfl rfl rfl ?_
  refine GQ.aloadN (pc' := 10) pendingCount_d9 rfl rfl ?_
  refine GQ.iloadN (pc' := 11) pendingCount_d10 rfl rfl ?_
  refine GQ.callP (Mc := bitCount_I) (args0 := [I z5]) (S := []) (r := 0) (pc' := 14) (bitCount_K hw (by decide)) rfl pendingCount_d11 rfl (wd149 hw) (wd150 hw) (wd151 hw) (wd1 hw) XA.recv rfl (bitCount_M_ok hw K z5 s5) rfl (fun z11 s11 => ?_)
  show GQ (XA l Z n0 CN FF cv h0) pendingCount_I _ _ 14 [some (Rf 0), some (I z5)] [I z11] s11 _
  exact GQ.iret rfl pendingCount_d14
def pendingMoves_I : Mi := (⟨"ShrinkRelocator", "pendingMoves", "()I"⟩, prog_1_method_17_code, 1, (some .int), 3, 40)
theorem pendingMoves_d0 : decode pendingMoves_I.2.1 0 = .ok (.aload_n 0, 1) := by decide +kernel
theorem pendingMoves_d1 : decode pendingMoves_I.2.1 1 = .ok (.getfield 55, 3) := by decide +kernel
theorem pendingMoves_d4 : decode pendingMoves_I.2.1 4 = .ok (.ifCond .ne 5, 3) := by decide +kernel
theorem pendingMoves_d7 : decode pendingMoves_I.2.1 7 = .ok (.iconst 0, 1) := by decide +kernel
theorem pendingMoves_d8 : decode pendingMoves_I.2.1 8 = .ok (.ireturn, 1) := by decide +kernel
theorem pendingMoves_d9 : decode pendingMoves_I.2.1 9 = .ok (.aload_n 0, 1) := by decide +kernel
theorem pendingMoves_d10 : decode pendingMoves_I.2.1 10 = .ok (.invokevirtual 106, 3) := by decide +kernel
theorem pendingMoves_d13 : decode pendingMoves_I.2.1 13 = .ok (.ireturn, 1) := by decide +kernel
theorem pendingMoves_p : parseMethodDescriptor pendingMoves_I.1.desc = some ⟨[], (some .int)⟩ := by decide +kernel
theorem pendingMoves_K {a0 : Array Value} {Z : State} {M : Mi} (hw : Words a0 Z) (h : pendingMoves_I.2.2.2.2.1 + 1 ≤ M.2.2.2.2.1) : Callee a0 Z M pendingMoves_I 0 := ⟨pnC, (wd161 hw), (wd2 hw), h, by decide, fun sig q => by cases pendingMoves_p.symm.trans q; rfl⟩
set_option maxRecDepth 65536 in
set_option maxHeartbeats 4000000 in
theorem pendingMoves_M_ok {l : Launch} {Z : State} {a0 : Array Value} {n0 : Nat} {cv : Nat → Nat} {h0 : Heap} (hw : Words a0 Z) (K : KA a0 Z n0 CN nI FF cv) (s : Obj) : GQ (XA l Z n0 CN FF cv h0) pendingMoves_I 0 0 0 (entry [Rf 0] pendingMoves_I.2.2.1) [] s (pendingMoves_M s) := by
  show GQ _ _ _ _ 0 [some (Rf 0)] [] _ _
  unfold pendingMoves_M
  refine GQ.aloadN (pc' := 1) pendingMoves_d0 rfl rfl ?_
  refine GQ.getI (M := pendingMoves_I) (k := 7) (pc' := 4) rfl (wd41 hw) pendingMoves_d1 rfl ?_
  refine GQ.ifF (pcT := 9) (pcF := 7) h_ne pendingMoves_d4 rfl rfl rfl ?_ ?_
  · refine GQ.aloadN (pc' := 10) pendingMoves_d9 rfl rfl ?_
    refine GQ.callP (Mc := pendingCount_I) (args0 := []) (S := []) (r := 0) (pc' := 13) (pendingCount_K hw (by decide)) rfl pendingMoves_d10 rfl (wd162 hw) (wd163 hw) (wd164 hw) (wd1 hw) XA.recv rfl (pendingCount_M_ok hw K s) rfl (fun z10 s10 => ?_)
    show GQ (XA l Z n0 CN FF cv h0) pendingMoves_I _ _ 13 [some (Rf 0)] [I z10] s10 _
    exact GQ.iret rfl pendingMoves_d13
  refine GQ.iconst (pc' := 8) pendingMoves_d7 rfl rfl ?_
  exact GQ.iret rfl pendingMoves_d8
def completeShrink_I : Mi := (⟨"ShrinkRelocator", "completeShrink", "()V"⟩, prog_1_method_44_code, 1, none, 0, 0)
theorem completeShrink_d0 : decode completeShrink_I.2.1 0 = .ok (.aload_n 0, 1) := by decide +kernel
theorem completeShrink_d1 : decode completeShrink_I.2.1 1 = .ok (.aload_n 0, 1) := by decide +kernel
theorem completeShrink_d2 : decode completeShrink_I.2.1 2 = .ok (.getfield 59, 3) := by decide +kernel
theorem completeShrink_d5 : decode completeShrink_I.2.1 5 = .ok (.putfield 46, 3) := by decide +kernel
theorem completeShrink_d8 : decode completeShrink_I.2.1 8 = .ok (.aload_n 0, 1) := by decide +kernel
theorem completeShrink_d9 : decode completeShrink_I.2.1 9 = .ok (.iconst 0, 1) := by decide +kernel
theorem completeShrink_d10 : decode completeShrink_I.2.1 10 = .ok (.putfield 55, 3) := by decide +kernel
theorem completeShrink_d13 : decode completeShrink_I.2.1 13 = .ok (.aload_n 0, 1) := by decide +kernel
theorem completeShrink_d14 : decode completeShrink_I.2.1 14 = .ok (.iconst 0, 1) := by decide +kernel
theorem completeShrink_d15 : decode completeShrink_I.2.1 15 = .ok (.putfield 59, 3) := by decide +kernel
theorem completeShrink_d18 : decode completeShrink_I.2.1 18 = .ok (.return_, 1) := by decide +kernel
theorem completeShrink_p : parseMethodDescriptor completeShrink_I.1.desc = some ⟨[], none⟩ := by decide +kernel
theorem completeShrink_K {a0 : Array Value} {Z : State} {M : Mi} (hw : Words a0 Z) (h : completeShrink_I.2.2.2.2.1 + 1 ≤ M.2.2.2.2.1) : Callee a0 Z M completeShrink_I 0 := ⟨pnC, (wd186 hw), (wd2 hw), h, by decide, fun sig q => by cases completeShrink_p.symm.trans q; rfl⟩
set_option maxRecDepth 65536 in
set_option maxHeartbeats 4000000 in
theorem completeShrink_M_ok {l : Launch} {Z : State} {a0 : Array Value} {n0 : Nat} {cv : Nat → Nat} {h0 : Heap} (hw : Words a0 Z) (K : KA a0 Z n0 CN nI FF cv) (s : Obj) : GQ (XA l Z n0 CN FF cv h0) completeShrink_I 0 0 0 (entry [Rf 0] completeShrink_I.2.2.1) [] s (completeShrink_M s) := by
  show GQ _ _ _ _ 0 [some (Rf 0)] [] _ _
  unfold completeShrink_M
  refine GQ.aloadN (pc' := 1) completeShrink_d0 rfl rfl ?_
  refine GQ.aloadN (pc' := 2) completeShrink_d1 rfl rfl ?_
  refine GQ.getI (M := completeShrink_I) (k := 8) (pc' := 5) rfl (wd43 hw) completeShrink_d2 rfl ?_
  refine GQ.putI (M := completeShrink_I) (k := 4) (pc' := 8) K rfl (wd35 hw) (wd36 hw) completeShrink_d5 rfl ?_
  refine GQ.letM (fun s5 => ?_)
  refine GQ.aloadN (pc' := 9) completeShrink_d8 rfl rfl ?_
  refine GQ.iconst (pc' := 10) completeShrink_d9 rfl rfl ?_
  refine GQ.putI (M := completeShrink_I) (k := 7) (pc' := 13) K rfl (wd41 hw) (wd42 hw) completeShrink_d10 rfl ?_
  refine GQ.letM (fun s10 => ?_)
  refine GQ.aloadN (pc' := 14) completeShrink_d13 rfl rfl ?_
  refine GQ.iconst (pc' := 15) completeShrink_d14 rfl rfl ?_
  refine GQ.putI (M := completeShrink_I) (k := 8) (pc' := 18) K rfl (wd43 hw) (wd44 hw) completeShrink_d15 rfl ?_
  refine GQ.letM (fun s15 => ?_)
  exact GQ.ret rfl completeShrink_d18
def copyBlock_I : Mi := (⟨"ShrinkRelocator", "copyBlock", "(II)V"⟩, prog_1_method_46_code, 6, none, 0, 0)
theorem copyBlock_d0 : decode copyBlock_I.2.1 0 = .ok (.iload_n 1, 1) := by decide +kernel
theorem copyBlock_d1 : decode copyBlock_I.2.1 1 = .ok (.ifCond .lt 19, 3) := by decide +kernel
theorem copyBlock_d4 : decode copyBlock_I.2.1 4 = .ok (.iload_n 1, 1) := by decide +kernel
theorem copyBlock_d5 : decode copyBlock_I.2.1 5 = .ok (.bipush 32, 2) := by decide +kernel
theorem copyBlock_d7 : decode copyBlock_I.2.1 7 = .ok (.if_icmp .ge 13, 3) := by decide +kernel
theorem copyBlock_d10 : decode copyBlock_I.2.1 10 = .ok (.iload_n 2, 1) := by decide +kernel
theorem copyBlock_d11 : decode copyBlock_I.2.1 11 = .ok (.ifCond .lt 9, 3) := by decide +kernel
theorem copyBlock_d14 : decode copyBlock_I.2.1 14 = .ok (.iload_n 2, 1) := by decide +kernel
theorem copyBlock_d15 : decode copyBlock_I.2.1 15 = .ok (.bipush 32, 2) := by decide +kernel
theorem copyBlock_d17 : decode copyBlock_I.2.1 17 = .ok (.if_icmp .lt 4, 3) := by decide +kernel
theorem copyBlock_d20 : decode copyBlock_I.2.1 20 = .ok (.return_, 1) := by decide +kernel
theorem copyBlock_d21 : decode copyBlock_I.2.1 21 = .ok (.iload_n 1, 1) := by decide +kernel
theorem copyBlock_d22 : decode copyBlock_I.2.1 22 = .ok (.bipush 8, 2) := by decide +kernel
theorem copyBlock_d24 : decode copyBlock_I.2.1 24 = .ok (.imul, 1) := by decide +kernel
theorem copyBlock_d25 : decode copyBlock_I.2.1 25 = .ok (.istore_n 3, 1) := by decide +kernel
theorem copyBlock_d26 : decode copyBlock_I.2.1 26 = .ok (.iload_n 2, 1) := by decide +kernel
theorem copyBlock_d27 : decode copyBlock_I.2.1 27 = .ok (.bipush 8, 2) := by decide +kernel
theorem copyBlock_d29 : decode copyBlock_I.2.1 29 = .ok (.imul, 1) := by decide +kernel
theorem copyBlock_d30 : decode copyBlock_I.2.1 30 = .ok (.istore 4, 2) := by decide +kernel
theorem copyBlock_d32 : decode copyBlock_I.2.1 32 = .ok (.iconst 0, 1) := by decide +kernel
theorem copyBlock_d33 : decode copyBlock_I.2.1 33 = .ok (.istore 5, 2) := by decide +kernel
theorem copyBlock_d35 : decode copyBlock_I.2.1 35 = .ok (.iload 5, 2) := by decide +kernel
theorem copyBlock_d37 : decode copyBlock_I.2.1 37 = .ok (.bipush 8, 2) := by decide +kernel
theorem copyBlock_d39 : decode copyBlock_I.2.1 39 = .ok (.if_icmp .ge 28, 3) := by decide +kernel
theorem copyBlock_d42 : decode copyBlock_I.2.1 42 = .ok (.aload_n 0, 1) := by decide +kernel
theorem copyBlock_d43 : decode copyBlock_I.2.1 43 = .ok (.getfield 39, 3) := by decide +kernel
theorem copyBlock_d46 : decode copyBlock_I.2.1 46 = .ok (.iload 4, 2) := by decide +kernel
theorem copyBlock_d48 : decode copyBlock_I.2.1 48 = .ok (.iload 5, 2) := by decide +kernel
theorem copyBlock_d50 : decode copyBlock_I.2.1 50 = .ok (.iadd, 1) := by decide +kernel
theorem copyBlock_d51 : decode copyBlock_I.2.1 51 = .ok (.aload_n 0, 1) := by decide +kernel
theorem copyBlock_d52 : decode copyBlock_I.2.1 52 = .ok (.getfield 39, 3) := by decide +kernel
theorem copyBlock_d55 : decode copyBlock_I.2.1 55 = .ok (.iload_n 3, 1) := by decide +kernel
theorem copyBlock_d56 : decode copyBlock_I.2.1 56 = .ok (.iload 5, 2) := by decide +kernel
theorem copyBlock_d58 : decode copyBlock_I.2.1 58 = .ok (.iadd, 1) := by decide +kernel
theorem copyBlock_d59 : decode copyBlock_I.2.1 59 = .ok (.iaload, 1) := by decide +kernel
theorem copyBlock_d60 : decode copyBlock_I.2.1 60 = .ok (.iastore, 1) := by decide +kernel
theorem copyBlock_d61 : decode copyBlock_I.2.1 61 = .ok (.iinc 5 1, 3) := by decide +kernel
theorem copyBlock_d64 : decode copyBlock_I.2.1 64 = .ok (.goto (-29), 3) := by decide +kernel
theorem copyBlock_d67 : decode copyBlock_I.2.1 67 = .ok (.return_, 1) := by decide +kernel
theorem copyBlock_p : parseMethodDescriptor copyBlock_I.1.desc = some ⟨[.int, .int], none⟩ := by decide +kernel
theorem copyBlock_K {a0 : Array Value} {Z : State} {M : Mi} (hw : Words a0 Z) (h : copyBlock_I.2.2.2.2.1 + 1 ≤ M.2.2.2.2.1) : Callee a0 Z M copyBlock_I 2 := ⟨pnC, (wd182 hw), (wd2 hw), h, by decide, fun sig q => by cases copyBlock_p.symm.trans q; rfl⟩
set_option maxRecDepth 65536 in
set_option maxHeartbeats 4000000 in
theorem copyBlock_l35b_ok {l : Launch} {Z : State} {a0 : Array Value} {n0 : Nat} {cv : Nat → Nat} {h0 : Heap} (hw : Words a0 Z) (K : KA a0 Z n0 CN nI FF cv) (x3 : Int) (x4 : Int) {rec : Int → Obj → Option (Int × Obj)} (hrec : ∀ (x5 : Int) (s : Obj), GQ (XA l Z n0 CN FF cv h0) copyBlock_I 0 0 35 [some (Rf 0), none, none, some (I x3), some (I x4), some (I x5)] [] s (rec x5 s)) (x5 : Int) (s : Obj) : GQ (XA l Z n0 CN FF cv h0) copyBlock_I 0 0 35 [some (Rf 0), none, none, some (I x3), some (I x4), some (I x5)] [] s (copyBlock_l35b x3 x4 rec x5 s) := by
  unfold copyBlock_l35b
  refine GQ.iload (pc' := 37) copyBlock_d35 rfl rfl ?_
  refine GQ.bipush (pc' := 39) copyBlock_d37 rfl rfl ?_
  refine GQ.icmpF (pcT := 67) (pcF := 42) h_ge copyBlock_d39 rfl rfl rfl ?_ ?_
  · exact GQ.ret rfl copyBlock_d67
  refine GQ.aloadN (pc' := 43) copyBlock_d42 rfl rfl ?_
  refine GQ.getA (M := copyBlock_I) (k := 15) (pc' := 46) rfl (by decide) (wd29 hw) copyBlock_d43 rfl ?_
  refine GQ.iload (pc' := 48) copyBlock_d46 rfl rfl ?_
  refine GQ.iload (pc' := 50) copyBlock_d48 rfl rfl ?_
  refine GQ.iadd (pc' := 51) copyBlock_d50 rfl ?_
  refine GQ.aloadN (pc' := 52) copyBlock_d51 rfl rfl ?_
  refine GQ.getA (M := copyBlock_I) (k := 15) (pc' := 55) rfl (by decide) (wd29 hw) copyBlock_d52 rfl ?_
  refine GQ.iloadN (pc' := 56) copyBlock_d55 rfl rfl ?_
  refine GQ.iload (pc' := 58) copyBlock_d56 rfl rfl ?_
  refine GQ.iadd (pc' := 59) copyBlock_d58 rfl ?_
  refine GQ.rd (k := 15) (ins := .iaload) (pc' := 60) rfl (by decide) (Or.inl ⟨rfl, rfl⟩) copyBlock_d59 rfl (fun z59 => ?_)
  refine GQ.wr (k := 15) (ins := .iastore) (pc' := 61) K rfl (by decide) (Or.inl ⟨rfl, rfl⟩) copyBlock_d60 rfl (fun s60 => ?_)
  refine GQ.iinc (L' := [some (Rf 0), none, none, some (I x3), some (I x4), some (I (aAdd x5 1))]) (pc' := 64) copyBlock_d61 rfl rfl rfl rfl ?_
  refine GQ.goto (pc' := 35) copyBlock_d64 rfl rfl ?_
  exact hrec (aAdd x5 1) s60
set_option maxRecDepth 65536 in
set_option maxHeartbeats 4000000 in
theorem copyBlock_l35_ok {l : Launch} {Z : State} {a0 : Array Value} {n0 : Nat} {cv : Nat → Nat} {h0 : Heap} (hw : Words a0 Z) (K : KA a0 Z n0 CN nI FF cv) (x3 : Int) (x4 : Int) : ∀ (fu : Nat) (x5 : Int) (s : Obj), GQ (XA l Z n0 CN FF cv h0) copyBlock_I 0 0 35 [some (Rf 0), none, none, some (I x3), some (I x4), some (I x5)] [] s (copyBlock_l35 x3 x4 fu x5 s)
  | 0 => fun _ _ => GQ.no
  | fu + 1 => copyBlock_l35b_ok hw K x3 x4 (copyBlock_l35_ok hw K x3 x4 fu)
set_option maxRecDepth 65536 in
set_option maxHeartbeats 4000000 in
theorem copyBlock_M_ok {l : Launch} {Z : State} {a0 : Array Value} {n0 : Nat} {cv : Nat → Nat} {h0 : Heap} (hw : Words a0 Z) (K : KA a0 Z n0 CN nI FF cv) (x1 : Int) (x2 : Int) (s : Obj) : GQ (XA l Z n0 CN FF cv h0) copyBlock_I 0 0 0 (entry [Rf 0, I x1, I x2] copyBlock_I.2.2.1) [] s (copyBlock_M x1 x2 s) := by
  show GQ _ _ _ _ 0 [some (Rf 0), some (I x1), some (I x2), none, none, none] [] _ _
  unfold copyBlock_M
  refine GQ.iloadN (pc' := 1) copyBlock_d0 rfl rfl ?_
  refine GQ.ifT (pcT := 20) (pcF := 4) h_lt copyBlock_d1 rfl rfl rfl ?_ ?_
  · exact GQ.ret rfl copyBlock_d20
  refine GQ.iloadN (pc' := 5) copyBlock_d4 rfl rfl ?_
  refine GQ.bipush (pc' := 7) copyBlock_d5 rfl rfl ?_
  refine GQ.icmpF (pcT := 20) (pcF := 10) h_ge copyBlock_d7 rfl rfl rfl ?_ ?_
  · exact GQ.ret rfl copyBlock_d20
  refine GQ.iloadN (pc' := 11) copyBlock_d10 rfl rfl ?_
  refine GQ.ifT (pcT := 20) (pcF := 14) h_lt copyBlock_d11 rfl rfl rfl ?_ ?_
  · exact GQ.ret rfl copyBlock_d20
  refine GQ.iloadN (pc' := 15) copyBlock_d14 rfl rfl ?_
  refine GQ.bipush (pc' := 17) copyBlock_d15 rfl rfl ?_
  refine GQ.icmpT (pcT := 21) (pcF := 20) h_lt copyBlock_d17 rfl rfl rfl ?_ ?_
  · refine GQ.iloadN (pc' := 22) copyBlock_d21 rfl rfl ?_
    refine GQ.bipush (pc' := 24) copyBlock_d22 rfl rfl ?_
    refine GQ.imul (pc' := 25) copyBlock_d24 rfl ?_
    refine GQ.letI (fun x3_25 => ?_)
    refine GQ.istoreN (L' := [some (Rf 0), some (I x1), some (I x2), some (I x3_25), none, none]) (pc' := 26) copyBlock_d25 rfl rfl rfl ?_
    refine GQ.iloadN (pc' := 27) copyBlock_d26 rfl rfl ?_
    refine GQ.bipush (pc' := 29) copyBlock_d27 rfl rfl ?_
    refine GQ.imul (pc' := 30) copyBlock_d29 rfl ?_
    refine GQ.letI (fun x4_30 => ?_)
    refine GQ.istore (L' := [some (Rf 0), some (I x1), some (I x2), some (I x3_25), some (I x4_30), none]) (pc' := 32) copyBlock_d30 rfl rfl rfl ?_
    refine GQ.iconst (pc' := 33) copyBlock_d32 rfl rfl ?_
    refine GQ.istore (L' := [some (Rf 0), some (I x1), some (I x2), some (I x3_25), some (I x4_30), some (I 0)]) (pc' := 35) copyBlock_d33 rfl rfl rfl ?_
    refine GQ.weak (L' := [some (Rf 0), none, none, some (I x3_25), some (I x4_30), some (I 0)]) (Sub.keep (Sub.drop (Sub.drop (Sub.keep (Sub.keep (Sub.keep Sub.nil)))))) ?_
    exact copyBlock_l35_ok hw K x3_25 x4_30 FU 0 s
  exact GQ.ret rfl copyBlock_d20
def moveOne_I : Mi := (⟨"ShrinkRelocator", "moveOne", "()Z"⟩, prog_1_method_45_code, 7, (some .boolean), 2, 27)
theorem moveOne_d0 : decode moveOne_I.2.1 0 = .ok (.aload_n 0, 1) := by decide +kernel
theorem moveOne_d1 : decode moveOne_I.2.1 1 = .ok (.aload_n 0, 1) := by decide +kernel
theorem moveOne_d2 : decode moveOne_I.2.1 2 = .ok (.getfield 59, 3) := by decide +kernel
theorem moveOne_d5 : decode moveOne_I.2.1 5 = .ok (.invokevirtual 157, 3) := by decide +kernel
theorem moveOne_d8 : decode moveOne_I.2.1 8 = .ok (.istore_n 1, 1) := by decide +kernel
theorem moveOne_d9 : decode moveOne_I.2.1 9 = .ok (.aload_n 0, 1) := by decide +kernel
theorem moveOne_d10 : decode moveOne_I.2.1 10 = .ok (.iload_n 1, 1) := by decide +kernel
theorem moveOne_d11 : decode moveOne_I.2.1 11 = .ok (.invokevirtual 154, 3) := by decide +kernel
theorem moveOne_d14 : decode moveOne_I.2.1 14 = .ok (.istore_n 2, 1) := by decide +kernel
theorem moveOne_d15 : decode moveOne_I.2.1 15 = .ok (.aload_n 0, 1) := by decide +kernel
theorem moveOne_d16 : decode moveOne_I.2.1 16 = .ok (.aload_n 0, 1) := by decide +kernel
theorem moveOne_d17 : decode moveOne_I.2.1 17 = .ok (.getfield 59, 3) := by decide +kernel
theorem moveOne_d20 : decode moveOne_I.2.1 20 = .ok (.invokevirtual 151, 3) := by decide +kernel
theorem moveOne_d23 : decode moveOne_I.2.1 23 = .ok (.istore_n 3, 1) := by decide +kernel
theorem moveOne_d24 : decode moveOne_I.2.1 24 = .ok (.aload_n 0, 1) := by decide +kernel
theorem moveOne_d25 : decode moveOne_I.2.1 25 = .ok (.iload_n 3, 1) := by decide +kernel
theorem moveOne_d26 : decode moveOne_I.2.1 26 = .ok (.invokevirtual 154, 3) := by decide +kernel
theorem moveOne_d29 : decode moveOne_I.2.1 29 = .ok (.istore 4, 2) := by decide +kernel
theorem moveOne_d31 : decode moveOne_I.2.1 31 = .ok (.iload_n 2, 1) := by decide +kernel
theorem moveOne_d32 : decode moveOne_I.2.1 32 = .ok (.ifCond .lt 8, 3) := by decide +kernel
theorem moveOne_d35 : decode moveOne_I.2.1 35 = .ok (.iload 4, 2) := by decide +kernel
theorem moveOne_d37 : decode moveOne_I.2.1 37 = .ok (.ifCond .ge 5, 3) := by decide +kernel
theorem moveOne_d40 : decode moveOne_I.2.1 40 = .ok (.iconst 0, 1) := by decide +kernel
theorem moveOne_d41 : decode moveOne_I.2.1 41 = .ok (.ireturn, 1) := by decide +kernel
theorem moveOne_d42 : decode moveOne_I.2.1 42 = .ok (.aload_n 0, 1) := by decide +kernel
theorem moveOne_d43 : decode moveOne_I.2.1 43 = .ok (.getfield 33, 3) := by decide +kernel
theorem moveOne_d46 : decode moveOne_I.2.1 46 = .ok (.iload_n 2, 1) := by decide +kernel
theorem moveOne_d47 : decode moveOne_I.2.1 47 = .ok (.iaload, 1) := by decide +kernel
theorem moveOne_d48 : decode moveOne_I.2.1 48 = .ok (.istore 5, 2) := by decide +kernel
theorem moveOne_d50 : decode moveOne_I.2.1 50 = .ok (.aload_n 0, 1) := by decide +kernel
theorem moveOne_d51 : decode moveOne_I.2.1 51 = .ok (.getfield 36, 3) := by decide +kernel
theorem moveOne_d54 : decode moveOne_I.2.1 54 = .ok (.iload_n 2, 1) := by decide +kernel
theorem moveOne_d55 : decode moveOne_I.2.1 55 = .ok (.iaload, 1) := by decide +kernel
theorem moveOne_d56 : decode moveOne_I.2.1 56 = .ok (.istore 6, 2) := by decide +kernel
theorem moveOne_d58 : decode moveOne_I.2.1 58 = .ok (.iload 5, 2) := by decide +kernel
theorem moveOne_d60 : decode moveOne_I.2.1 60 = .ok (.ifCond .lt 22, 3) := by decide +kernel
theorem moveOne_d63 : decode moveOne_I.2.1 63 = .ok (.iload 5, 2) := by decide +kernel
theorem moveOne_d65 : decode moveOne_I.2.1 65 = .ok (.bipush 8, 2) := by decide +kernel
theorem moveOne_d67 : decode moveOne_I.2.1 67 = .ok (.if_icmp .ge 15, 3) := by decide +kernel
theorem moveOne_d70 : decode moveOne_I.2.1 70 = .ok (.iload 6, 2) := by decide +kernel
theorem moveOne_d72 : decode moveOne_I.2.1 72 = .ok (.ifCond .lt 10, 3) := by decide +kernel
theorem moveOne_d75 : decode moveOne_I.2.1 75 = .ok (.iload 6, 2) := by decide +kernel
theorem moveOne_d77 : decode moveOne_I.2.1 77 = .ok (.bipush 32, 2) := by decide +kernel
theorem moveOne_d79 : decode moveOne_I.2.1 79 = .ok (.if_icmp .lt 5, 3) := by decide +kernel
theorem moveOne_d82 : decode moveOne_I.2.1 82 = .ok (.iconst 0, 1) := by decide +kernel
theorem moveOne_d83 : decode moveOne_I.2.1 83 = .ok (.ireturn, 1) := by decide +kernel
theorem moveOne_d84 : decode moveOne_I.2.1 84 = .ok (.aload_n 0, 1) := by decide +kernel
theorem moveOne_d85 : decode moveOne_I.2.1 85 = .ok (.iload_n 2, 1) := by decide +kernel
theorem moveOne_d86 : decode moveOne_I.2.1 86 = .ok (.iload 4, 2) := by decide +kernel
theorem moveOne_d88 : decode moveOne_I.2.1 88 = .ok (.invokevirtual 160, 3) := by decide +kernel
theorem moveOne_d91 : decode moveOne_I.2.1 91 = .ok (.aload_n 0, 1) := by decide +kernel
theorem moveOne_d92 : decode moveOne_I.2.1 92 = .ok (.getfield 30, 3) := by decide +kernel
theorem moveOne_d95 : decode moveOne_I.2.1 95 = .ok (.aload_n 0, 1) := by decide +kernel
theorem moveOne_d96 : decode moveOne_I.2.1 96 = .ok (.iload 5, 2) := by decide +kernel
theorem moveOne_d98 : decode moveOne_I.2.1 98 = .ok (.iload 6, 2) := by decide +kernel
theorem moveOne_d100 : decode moveOne_I.2.1 100 = .ok (.invokevirtual 119, 3) := by decide +kernel
theorem moveOne_d103 : decode moveOne_I.2.1 103 = .ok (.iload 4, 2) := by decide +kernel
theorem moveOne_d105 : decode moveOne_I.2.1 105 = .ok (.iastore, 1) := by decide +kernel
theorem moveOne_d106 : decode moveOne_I.2.1 106 = .ok (.aload_n 0, 1) := by decide +kernel
theorem moveOne_d107 : decode moveOne_I.2.1 107 = .ok (.iload 4, 2) := by decide +kernel
theorem moveOne_d109 : decode moveOne_I.2.1 109 = .ok (.iload 5, 2) := by decide +kernel
theorem moveOne_d111 : decode moveOne_I.2.1 111 = .ok (.iload 6, 2) := by decide +kernel
theorem moveOne_d113 : decode moveOne_I.2.1 113 = .ok (.invokevirtual 134, 3) := by decide +kernel
theorem moveOne_d116 : decode moveOne_I.2.1 116 = .ok (.aload_n 0, 1) := by decide +kernel
theorem moveOne_d117 : decode moveOne_I.2.1 117 = .ok (.iload_n 2, 1) := by decide +kernel
theorem moveOne_d118 : decode moveOne_I.2.1 118 = .ok (.invokevirtual 131, 3) := by decide +kernel
theorem moveOne_d121 : decode moveOne_I.2.1 121 = .ok (.iconst 1, 1) := by decide +kernel
theorem moveOne_d122 : decode moveOne_I.2.1 122 = .ok (.ireturn, 1) := by decide +kernel
theorem moveOne_p : parseMethodDescriptor moveOne_I.1.desc = some ⟨[], (some .boolean)⟩ := by decide +kernel
theorem moveOne_K {a0 : Array Value} {Z : State} {M : Mi} (hw : Words a0 Z) (h : moveOne_I.2.2.2.2.1 + 1 ≤ M.2.2.2.2.1) : Callee a0 Z M moveOne_I 0 := ⟨pnC, (wd178 hw), (wd2 hw), h, by decide, fun sig q => by cases moveOne_p.symm.trans q; rfl⟩
set_option maxRecDepth 65536 in
set_option maxHeartbeats 4000000 in
theorem moveOne_M_ok {l : Launch} {Z : State} {a0 : Array Value} {n0 : Nat} {cv : Nat → Nat} {h0 : Heap} (hw : Words a0 Z) (K : KA a0 Z n0 CN nI FF cv) (s : Obj) : GQ (XA l Z n0 CN FF cv h0) moveOne_I 0 0 0 (entry [Rf 0] moveOne_I.2.2.1) [] s (moveOne_M s) := by
  show GQ _ _ _ _ 0 [some (Rf 0), none, none, none, none, none, none] [] _ _
  unfold moveOne_M
  refine GQ.aloadN (pc' := 1) moveOne_d0 rfl rfl ?_
  refine GQ.aloadN (pc' := 2) moveOne_d1 rfl rfl ?_
  refine GQ.getI (M := moveOne_I) (k := 8) (pc' := 5) rfl (wd43 hw) moveOne_d2 rfl ?_
  refine GQ.callP (Mc := usedFrom_I) (args0 := [I (s.1 8)]) (S := []) (r := 0) (pc' := 8) (usedFrom_K hw (by decide)) rfl moveOne_d5 rfl (wd166 hw) (wd167 hw) (wd168 hw) (wd1 hw) XA.recv rfl (usedFrom_M_ok hw K (s.1 8) s) rfl (fun z5 s5 => ?_)
  show GQ (XA l Z n0 CN FF cv h0) moveOne_I _ _ 8 [some (Rf 0), none, none, none, none, none, none] [I z5] s5 _
  refine GQ.istoreN (L' := [some (Rf 0), some (I z5), none, none, none, none, none]) (pc' := 9) moveOne_d8 rfl rfl rfl ?_
  refine GQ.aloadN (pc' := 10) moveOne_d9 rfl rfl ?_
  refine GQ.iloadN (pc' := 11) moveOne_d10 rfl rfl ?_
  refine GQ.callP (Mc := lowestBit_I) (args0 := [I z5]) (S := []) (r := 0) (pc' := 14) (lowestBit_K hw (by decide)) rfl moveOne_d11 rfl (wd97 hw) (wd98 hw) (wd99 hw) (wd1 hw) XA.recv rfl (lowestBit_M_ok hw K z5 s5) rfl (fun z11 s11 => ?_)
  show GQ (XA l Z n0 CN FF cv h0) moveOne_I _ _ 14 [some (Rf 0), some (I z5), none, none, none, none, none] [I z11] s11 _
  refine GQ.istoreN (L' := [some (Rf 0), some (I z5), some (I z11), none, none, none, none]) (pc' := 15) moveOne_d14 rfl rfl rfl ?_
  refine GQ.aloadN (pc' := 16) moveOne_d15 rfl rfl ?_
  refine GQ.aloadN (pc' := 17) moveOne_d16 rfl rfl ?_
  refine GQ.getI (M := moveOne_I) (k := 8) (pc' := 20) rfl (wd43 hw) moveOne_d17 rfl ?_
  refine GQ.callP (Mc := freeBelow_I) (args0 := [I (s11.1 8)]) (S := []) (r := 0) (pc' := 23) (freeBelow_K hw (by decide)) rfl moveOne_d20 rfl (wd89 hw) (wd90 hw) (wd91 hw) (wd1 hw) XA.recv rfl (freeBelow_M_ok hw K (s11.1 8) s11) rfl (fun z20 s20 => ?_)
  show GQ (XA l Z n0 CN FF cv h0) moveOne_I _ _ 23 [some (Rf 0), some (I z5), some (I z11), none, none, none, none] [I z20] s20 _
  refine GQ.istoreN (L' := [some (Rf 0), some (I z5), some (I z11), some (I z20), none, none, none]) (pc' := 24) moveOne_d23 rfl rfl rfl ?_
  refine GQ.aloadN (pc' := 25) moveOne_d24 rfl rfl ?_
  refine GQ.iloadN (pc' := 26) moveOne_d25 rfl rfl ?_
  refine GQ.callP (Mc := lowestBit_I) (args0 := [I z20]) (S := []) (r := 0) (pc' := 29) (lowestBit_K hw (by decide)) rfl moveOne_d26 rfl (wd97 hw) (wd98 hw) (wd99 hw) (wd1 hw) XA.recv rfl (lowestBit_M_ok hw K z20 s20) rfl (fun z26 s26 => ?_)
  show GQ (XA l Z n0 CN FF cv h0) moveOne_I _ _ 29 [some (Rf 0), some (I z5), some (I z11), some (I z20), none, none, none] [I z26] s26 _
  refine GQ.istore (L' := [some (Rf 0), some (I z5), some (I z11), some (I z20), some (I z26), none, none]) (pc' := 31) moveOne_d29 rfl rfl rfl ?_
  refine GQ.iloadN (pc' := 32) moveOne_d31 rfl rfl ?_
  refine GQ.ifT (pcT := 40) (pcF := 35) h_lt moveOne_d32 rfl rfl rfl ?_ ?_
  · refine GQ.iconst (pc' := 41) moveOne_d40 rfl rfl ?_
    exact GQ.zret rfl moveOne_d41
  refine GQ.iload (pc' := 37) moveOne_d35 rfl rfl ?_
  refine GQ.ifF (pcT := 42) (pcF := 40) h_ge moveOne_d37 rfl rfl rfl ?_ ?_
  · refine GQ.aloadN (pc' := 43) moveOne_d42 rfl rfl ?_
    refine GQ.getA (M := moveOne_I) (k := 13) (pc' := 46) rfl (by decide) (wd25 hw) moveOne_d43 rfl ?_
    refine GQ.iloadN (pc' := 47) moveOne_d46 rfl rfl ?_
    refine GQ.rd (k := 13) (ins := .iaload) (pc' := 48) rfl (by decide) (Or.inl ⟨rfl, rfl⟩) moveOne_d47 rfl (fun z47 => ?_)
    refine GQ.istore (L' := [some (Rf 0), some (I z5), some (I z11), some (I z20), some (I z26), some (I z47), none]) (pc' := 50) moveOne_d48 rfl rfl rfl ?_
    refine GQ.aloadN (pc' := 51) moveOne_d50 rfl rfl ?_
    refine GQ.getA (M := moveOne_I) (k := 14) (pc' := 54) rfl (by decide) (wd27 hw) moveOne_d51 rfl ?_
    refine GQ.iloadN (pc' := 55) moveOne_d54 rfl rfl ?_
    refine GQ.rd (k := 14) (ins := .iaload) (pc' := 56) rfl (by decide) (Or.inl ⟨rfl, rfl⟩) moveOne_d55 rfl (fun z55 => ?_)
    refine GQ.istore (L' := [some (Rf 0), some (I z5), some (I z11), some (I z20), some (I z26), some (I z47), some (I z55)]) (pc' := 58) moveOne_d56 rfl rfl rfl ?_
    refine GQ.iload (pc' := 60) moveOne_d58 rfl rfl ?_
    refine GQ.ifT (pcT := 82) (pcF := 63) h_lt moveOne_d60 rfl rfl rfl ?_ ?_
    · refine GQ.iconst (pc' := 83) moveOne_d82 rfl rfl ?_
      exact GQ.zret rfl moveOne_d83
    refine GQ.iload (pc' := 65) moveOne_d63 rfl rfl ?_
    refine GQ.bipush (pc' := 67) moveOne_d65 rfl rfl ?_
    refine GQ.icmpF (pcT := 82) (pcF := 70) h_ge moveOne_d67 rfl rfl rfl ?_ ?_
    · refine GQ.iconst (pc' := 83) moveOne_d82 rfl rfl ?_
      exact GQ.zret rfl moveOne_d83
    refine GQ.iload (pc' := 72) moveOne_d70 rfl rfl ?_
    refine GQ.ifT (pcT := 82) (pcF := 75) h_lt moveOne_d72 rfl rfl rfl ?_ ?_
    · refine GQ.iconst (pc' := 83) moveOne_d82 rfl rfl ?_
      exact GQ.zret rfl moveOne_d83
    refine GQ.iload (pc' := 77) moveOne_d75 rfl rfl ?_
    refine GQ.bipush (pc' := 79) moveOne_d77 rfl rfl ?_
    refine GQ.icmpT (pcT := 84) (pcF := 82) h_lt moveOne_d79 rfl rfl rfl ?_ ?_
    · refine GQ.aloadN (pc' := 85) moveOne_d84 rfl rfl ?_
      refine GQ.iloadN (pc' := 86) moveOne_d85 rfl rfl ?_
      refine GQ.iload (pc' := 88) moveOne_d86 rfl rfl ?_
      refine GQ.callP (Mc := copyBlock_I) (args0 := [I z11, I z26]) (S := []) (r := 0) (pc' := 91) (copyBlock_K hw (by decide)) rfl moveOne_d88 rfl (wd179 hw) (wd180 hw) (wd181 hw) (wd1 hw) XA.recv rfl (copyBlock_M_ok hw K z11 z26 s26) rfl (fun _ s88 => ?_)
      show GQ (XA l Z n0 CN FF cv h0) moveOne_I _ _ 91 [some (Rf 0), some (I z5), some (I z11), some (I z20), some (I z26), some (I z47), some (I z55)] [] s88 _
      refine GQ.aloadN (pc' := 92) moveOne_d91 rfl rfl ?_
      refine GQ.getA (M := moveOne_I) (k := 12) (pc' := 95) rfl (by decide) (wd23 hw) moveOne_d92 rfl ?_
      refine GQ.aloadN (pc' := 96) moveOne_d95 rfl rfl ?_
      refine GQ.iload (pc' := 98) moveOne_d96 rfl rfl ?_
      refine GQ.iload (pc' := 100) moveOne_d98 rfl rfl ?_
      refine GQ.callP (Mc := mapSlot_I) (args0 := [I z47, I z55]) (S := [Rf 13]) (r := 0) (pc' := 103) (mapSlot_K hw (by decide)) rfl moveOne_d100 rfl (wd106 hw) (wd107 hw) (wd108 hw) (wd1 hw) XA.recv rfl (mapSlot_M_ok hw K z47 z55 s88) rfl (fun z100 s100 => ?_)
      show GQ (XA l Z n0 CN FF cv h0) moveOne_I _ _ 103 [some (Rf 0), some (I z5), some (I z11), some (I z20), some (I z26), some (I z47), some (I z55)] [I z100, Rf 13] s100 _
      refine GQ.iload (pc' := 105) moveOne_d103 rfl rfl ?_
      refine GQ.wr (k := 12) (ins := .iastore) (pc' := 106) K rfl (by decide) (Or.inl ⟨rfl, rfl⟩) moveOne_d105 rfl (fun s105 => ?_)
      refine GQ.aloadN (pc' := 107) moveOne_d106 rfl rfl ?_
      refine GQ.iload (pc' := 109) moveOne_d107 rfl rfl ?_
      refine GQ.iload (pc' := 111) moveOne_d109 rfl rfl ?_
      refine GQ.iload (pc' := 113) moveOne_d111 rfl rfl ?_
      refine GQ.callP (Mc := markAllocated_I) (args0 := [I z26, I z47, I z55]) (S := []) (r := 0) (pc' := 116) (markAllocated_K hw (by decide)) rfl moveOne_d113 rfl (wd110 hw) (wd111 hw) (wd112 hw) (wd1 hw) XA.recv rfl (markAllocated_M_ok hw K z26 z47 z55 s105) rfl (fun _ s113 => ?_)
      show GQ (XA l Z n0 CN FF cv h0) moveOne_I _ _ 116 [some (Rf 0), some (I z5), some (I z11), some (I z20), some (I z26), some (I z47), some (I z55)] [] s113 _
      refine GQ.aloadN (pc' := 117) moveOne_d116 rfl rfl ?_
      refine GQ.iloadN (pc' := 118) moveOne_d117 rfl rfl ?_
      refine GQ.callP (Mc := markFree_I) (args0 := [I z11]) (S := []) (r := 0) (pc' := 121) (markFree_K hw (by decide)) rfl moveOne_d118 rfl (wd136 hw) (wd137 hw) (wd138 hw) (wd1 hw) XA.recv rfl (markFree_M_ok hw K z11 s113) rfl (fun _ s118 => ?_)
      show GQ (XA l Z n0 CN FF cv h0) moveOne_I _ _ 121 [some (Rf 0), some (I z5), some (I z11), some (I z20), some (I z26), some (I z47), some (I z55)] [] s118 _
      refine GQ.iconst (pc' := 122) moveOne_d121 rfl rfl ?_
      exact GQ.zret rfl moveOne_d122
    refine GQ.iconst (pc' := 83) moveOne_d82 rfl rfl ?_
    exact GQ.zret rfl moveOne_d83
  refine GQ.iconst (pc' := 41) moveOne_d40 rfl rfl ?_
  exact GQ.zret rfl moveOne_d41
def step_I : Mi := (⟨"ShrinkRelocator", "step", "(I)I"⟩, prog_1_method_9_code, 5, (some .int), 3, 45)
theorem step_d0 : decode step_I.2.1 0 = .ok (.aload_n 0, 1) := by decide +kernel
theorem step_d1 : decode step_I.2.1 1 = .ok (.getfield 55, 3) := by decide +kernel
theorem step_d4 : decode step_I.2.1 4 = .ok (.ifCond .ne 6, 3) := by decide +kernel
theorem step_d7 : decode step_I.2.1 7 = .ok (.bipush (-5), 2) := by decide +kernel
theorem step_d9 : decode step_I.2.1 9 = .ok (.ireturn, 1) := by decide +kernel
theorem step_d10 : decode step_I.2.1 10 = .ok (.iload_n 1, 1) := by decide +kernel
theorem step_d11 : decode step_I.2.1 11 = .ok (.iconst 1, 1) := by decide +kernel
theorem step_d12 : decode step_I.2.1 12 = .ok (.if_icmp .ge 6, 3) := by decide +kernel
theorem step_d15 : decode step_I.2.1 15 = .ok (.bipush (-2), 2) := by decide +kernel
theorem step_d17 : decode step_I.2.1 17 = .ok (.ireturn, 1) := by decide +kernel
theorem step_d18 : decode step_I.2.1 18 = .ok (.iload_n 1, 1) := by decide +kernel
theorem step_d19 : decode step_I.2.1 19 = .ok (.bipush 64, 2) := by decide +kernel
theorem step_d21 : decode step_I.2.1 21 = .ok (.if_icmp .le 8, 3) := by decide +kernel
theorem step_d24 : decode step_I.2.1 24 = .ok (.bipush 64, 2) := by decide +kernel
theorem step_d26 : decode step_I.2.1 26 = .ok (.goto 4, 3) := by decide +kernel
theorem step_d29 : decode step_I.2.1 29 = .ok (.iload_n 1, 1) := by decide +kernel
theorem step_d30 : decode step_I.2.1 30 = .ok (.istore_n 2, 1) := by decide +kernel
theorem step_d31 : decode step_I.2.1 31 = .ok (.iconst 0, 1) := by decide +kernel
theorem step_d32 : decode step_I.2.1 32 = .ok (.istore_n 3, 1) := by decide +kernel
theorem step_d33 : decode step_I.2.1 33 = .ok (.iconst 0, 1) := by decide +kernel
theorem step_d34 : decode step_I.2.1 34 = .ok (.istore 4, 2) := by decide +kernel
theorem step_d36 : decode step_I.2.1 36 = .ok (.iload 4, 2) := by decide +kernel
theorem step_d38 : decode step_I.2.1 38 = .ok (.bipush 65, 2) := by decide +kernel
theorem step_d40 : decode step_I.2.1 40 = .ok (.if_icmp .gt 41, 3) := by decide +kernel
theorem step_d43 : decode step_I.2.1 43 = .ok (.aload_n 0, 1) := by decide +kernel
theorem step_d44 : decode step_I.2.1 44 = .ok (.invokevirtual 106, 3) := by decide +kernel
theorem step_d47 : decode step_I.2.1 47 = .ok (.ifCond .ne 9, 3) := by decide +kernel
theorem step_d50 : decode step_I.2.1 50 = .ok (.aload_n 0, 1) := by decide +kernel
theorem step_d51 : decode step_I.2.1 51 = .ok (.invokevirtual 109, 3) := by decide +kernel
theorem step_d54 : decode step_I.2.1 54 = .ok (.iload_n 3, 1) := by decide +kernel
theorem step_d55 : decode step_I.2.1 55 = .ok (.ireturn, 1) := by decide +kernel
theorem step_d56 : decode step_I.2.1 56 = .ok (.iload_n 3, 1) := by decide +kernel
theorem step_d57 : decode step_I.2.1 57 = .ok (.iload_n 2, 1) := by decide +kernel
theorem step_d58 : decode step_I.2.1 58 = .ok (.if_icmp .ne 5, 3) := by decide +kernel
theorem step_d61 : decode step_I.2.1 61 = .ok (.iload_n 3, 1) := by decide +kernel
theorem step_d62 : decode step_I.2.1 62 = .ok (.ireturn, 1) := by decide +kernel
theorem step_d63 : decode step_I.2.1 63 = .ok (.aload_n 0, 1) := by decide +kernel
theorem step_d64 : decode step_I.2.1 64 = .ok (.invokevirtual 112, 3) := by decide +kernel
theorem step_d67 : decode step_I.2.1 67 = .ok (.ifCond .ne 5, 3) := by decide +kernel
theorem step_d70 : decode step_I.2.1 70 = .ok (.iload_n 3, 1) := by decide +kernel
theorem step_d71 : decode step_I.2.1 71 = .ok (.ireturn, 1) := by decide +kernel
theorem step_d72 : decode step_I.2.1 72 = .ok (.iinc 3 1, 3) := by decide +kernel
theorem step_d75 : decode step_I.2.1 75 = .ok (.iinc 4 1, 3) := by decide +kernel
theorem step_d78 : decode step_I.2.1 78 = .ok (.goto (-42), 3) := by decide +kernel
theorem step_d81 : decode step_I.2.1 81 = .ok (.iload_n 3, 1) := by decide +kernel
theorem step_d82 : decode step_I.2.1 82 = .ok (.ireturn, 1) := by decide +kernel
theorem step_p : parseMethodDescriptor step_I.1.desc = some ⟨[.int], (some .int)⟩ := by decide +kernel
theorem step_K {a0 : Array Value} {Z : State} {M : Mi} (hw : Words a0 Z) (h : step_I.2.2.2.2.1 + 1 ≤ M.2.2.2.2.1) : Callee a0 Z M step_I 1 := ⟨pnC, (wd174 hw), (wd2 hw), h, by decide, fun sig q => by cases step_p.symm.trans q; rfl⟩
set_option maxRecDepth 65536 in
set_option maxHeartbeats 4000000 in
theorem step_l36b_ok {l : Launch} {Z : State} {a0 : Array Value} {n0 : Nat} {cv : Nat → Nat} {h0 : Heap} (hw : Words a0 Z) (K : KA a0 Z n0 CN nI FF cv) (x2 : Int) {k50 : Int → Obj → Option (Int × Obj)} (hk50 : ∀ (x3 : Int) (s : Obj), GQ (XA l Z n0 CN FF cv h0) step_I 0 0 50 [some (Rf 0), none, none, some (I x3), none] [] s (k50 x3 s)) {rec : Int → Int → Obj → Option (Int × Obj)} (hrec : ∀ (x3 : Int) (x4 : Int) (s : Obj), GQ (XA l Z n0 CN FF cv h0) step_I 0 0 36 [some (Rf 0), none, some (I x2), some (I x3), some (I x4)] [] s (rec x3 x4 s)) (x3 : Int) (x4 : Int) (s : Obj) : GQ (XA l Z n0 CN FF cv h0) step_I 0 0 36 [some (Rf 0), none, some (I x2), some (I x3), some (I x4)] [] s (step_l36b k50 x2 rec x3 x4 s) := by
  unfold step_l36b
  refine GQ.iload (pc' := 38) step_d36 rfl rfl ?_
  refine GQ.bipush (pc' := 40) step_d38 rfl rfl ?_
  refine GQ.icmpT (pcT := 81) (pcF := 43) h_gt step_d40 rfl rfl rfl ?_ ?_
  · refine GQ.iloadN (pc' := 82) step_d81 rfl rfl ?_
    exact GQ.iret rfl step_d82
  refine GQ.aloadN (pc' := 44) step_d43 rfl rfl ?_
  refine GQ.callP (Mc := pendingCount_I) (args0 := []) (S := []) (r := 0) (pc' := 47) (pendingCount_K hw (by decide)) rfl step_d44 rfl (wd162 hw) (wd163 hw) (wd164 hw) (wd1 hw) XA.recv rfl (pendingCount_M_ok hw K s) rfl (fun z44 s44 => ?_)
  show GQ (XA l Z n0 CN FF cv h0) step_I _ _ 47 [some (Rf 0), none, some (I x2), some (I x3), some (I x4)] [I z44] s44 _
  refine GQ.ifF (pcT := 56) (pcF := 50) h_ne step_d47 rfl rfl rfl ?_ ?_
  · refine GQ.iloadN (pc' := 57) step_d56 rfl rfl ?_
    refine GQ.iloadN (pc' := 58) step_d57 rfl rfl ?_
    refine GQ.icmpF (pcT := 63) (pcF := 61) h_ne step_d58 rfl rfl rfl ?_ ?_
    · refine GQ.aloadN (pc' := 64) step_d63 rfl rfl ?_
      refine GQ.callP (Mc := moveOne_I) (args0 := []) (S := []) (r := 0) (pc' := 67) (moveOne_K hw (by decide)) rfl step_d64 rfl (wd175 hw) (wd176 hw) (wd177 hw) (wd1 hw) XA.recv rfl (moveOne_M_ok hw K s44) rfl (fun z64 s64 => ?_)
      show GQ (XA l Z n0 CN FF cv h0) step_I _ _ 67 [some (Rf 0), none, some (I x2), some (I x3), some (I x4)] [I z64] s64 _
      refine GQ.ifF (pcT := 72) (pcF := 70) h_ne step_d67 rfl rfl rfl ?_ ?_
      · refine GQ.iinc (L' := [some (Rf 0), none, some (I x2), some (I (aAdd x3 1)), some (I x4)]) (pc' := 75) step_d72 rfl rfl rfl rfl ?_
        refine GQ.iinc (L' := [some (Rf 0), none, some (I x2), some (I (aAdd x3 1)), some (I (aAdd x4 1))]) (pc' := 78) step_d75 rfl rfl rfl rfl ?_
        refine GQ.goto (pc' := 36) step_d78 rfl rfl ?_
        exact hrec (aAdd x3 1) (aAdd x4 1) s64
      refine GQ.iloadN (pc' := 71) step_d70 rfl rfl ?_
      exact GQ.iret rfl step_d71
    refine GQ.iloadN (pc' := 62) step_d61 rfl rfl ?_
    exact GQ.iret rfl step_d62
  refine GQ.weak (L' := [some (Rf 0), none, none, some (I x3), none]) (Sub.keep (Sub.keep (Sub.drop (Sub.keep (Sub.drop Sub.nil))))) ?_
  exact hk50 x3 s44
set_option maxRecDepth 65536 in
set_option maxHeartbeats 4000000 in
theorem step_l36_ok {l : Launch} {Z : State} {a0 : Array Value} {n0 : Nat} {cv : Nat → Nat} {h0 : Heap} (hw : Words a0 Z) (K : KA a0 Z n0 CN nI FF cv) (x2 : Int) {k50 : Int → Obj → Option (Int × Obj)} (hk50 : ∀ (x3 : Int) (s : Obj), GQ (XA l Z n0 CN FF cv h0) step_I 0 0 50 [some (Rf 0), none, none, some (I x3), none] [] s (k50 x3 s)) : ∀ (fu : Nat) (x3 : Int) (x4 : Int) (s : Obj), GQ (XA l Z n0 CN FF cv h0) step_I 0 0 36 [some (Rf 0), none, some (I x2), some (I x3), some (I x4)] [] s (step_l36 k50 x2 fu x3 x4 s)
  | 0 => fun _ _ _ => GQ.no
  | fu + 1 => step_l36b_ok hw K x2 hk50 (step_l36_ok hw K x2 hk50 fu)
set_option maxRecDepth 65536 in
set_option maxHeartbeats 4000000 in
theorem step_j30_ok {l : Launch} {Z : State} {a0 : Array Value} {n0 : Nat} {cv : Nat → Nat} {h0 : Heap} (hw : Words a0 Z) (K : KA a0 Z n0 CN nI FF cv) (y0 : Int) (s : Obj) : GQ (XA l Z n0 CN FF cv h0) step_I 0 0 30 [some (Rf 0), none, none, none, none] [I y0] s (step_j30 y0 s) := by
  unfold step_j30
  refine GQ.istoreN (L' := [some (Rf 0), none, some (I y0), none, none]) (pc' := 31) step_d30 rfl rfl rfl ?_
  refine GQ.iconst (pc' := 32) step_d31 rfl rfl ?_
  refine GQ.istoreN (L' := [some (Rf 0), none, some (I y0), some (I 0), none]) (pc' := 33) step_d32 rfl rfl rfl ?_
  refine GQ.iconst (pc' := 34) step_d33 rfl rfl ?_
  refine GQ.istore (L' := [some (Rf 0), none, some (I y0), some (I 0), some (I 0)]) (pc' := 36) step_d34 rfl rfl rfl ?_
  refine step_l36_ok hw K y0 (fun x3_50 s50 => ?_) FU 0 0 s
  refine GQ.aloadN (pc' := 51) step_d50 rfl rfl ?_
  refine GQ.callP (Mc := completeShrink_I) (args0 := []) (S := []) (r := 0) (pc' := 54) (completeShrink_K hw (by decide)) rfl step_d51 rfl (wd183 hw) (wd184 hw) (wd185 hw) (wd1 hw) XA.recv rfl (completeShrink_M_ok hw K s50) rfl (fun _ s51 => ?_)
  show GQ (XA l Z n0 CN FF cv h0) step_I _ _ 54 [some (Rf 0), none, none, some (I x3_50), none] [] s51 _
  refine GQ.iloadN (pc' := 55) step_d54 rfl rfl ?_
  exact GQ.iret rfl step_d55
set_option maxRecDepth 65536 in
set_option maxHeartbeats 4000000 in
theorem step_M_ok {l : Launch} {Z : State} {a0 : Array Value} {n0 : Nat} {cv : Nat → Nat} {h0 : Heap} (hw : Words a0 Z) (K : KA a0 Z n0 CN nI FF cv) (x1 : Int) (s : Obj) : GQ (XA l Z n0 CN FF cv h0) step_I 0 0 0 (entry [Rf 0, I x1] step_I.2.2.1) [] s (step_M x1 s) := by
  show GQ _ _ _ _ 0 [some (Rf 0), some (I x1), none, none, none] [] _ _
  unfold step_M
  refine GQ.aloadN (pc' := 1) step_d0 rfl rfl ?_
  refine GQ.getI (M := step_I) (k := 7) (pc' := 4) rfl (wd41 hw) step_d1 rfl ?_
  refine GQ.ifF (pcT := 10) (pcF := 7) h_ne step_d4 rfl rfl rfl ?_ ?_
  · refine GQ.iloadN (pc' := 11) step_d10 rfl rfl ?_
    refine GQ.iconst (pc' := 12) step_d11 rfl rfl ?_
    refine GQ.icmpF (pcT := 18) (pcF := 15) h_ge step_d12 rfl rfl rfl ?_ ?_
    · refine GQ.iloadN (pc' := 19) step_d18 rfl rfl ?_
      refine GQ.bipush (pc' := 21) step_d19 rfl rfl ?_
      refine GQ.icmpF (pcT := 29) (pcF := 24) h_le step_d21 rfl rfl rfl ?_ ?_
      · refine GQ.iloadN (pc' := 30) step_d29 rfl rfl ?_
        refine GQ.weak (L' := [some (Rf 0), none, none, none, none]) (Sub.keep (Sub.drop (Sub.keep (Sub.keep (Sub.keep Sub.nil))))) ?_
        exact step_j30_ok hw K x1 s
      refine GQ.bipush (pc' := 26) step_d24 rfl rfl ?_
      refine GQ.goto (pc' := 30) step_d26 rfl rfl ?_
      refine GQ.weak (L' := [some (Rf 0), none, none, none, none]) (Sub.keep (Sub.drop (Sub.keep (Sub.keep (Sub.keep Sub.nil))))) ?_
      exact step_j30_ok hw K 64 s
    refine GQ.bipush (pc' := 17) step_d15 rfl rfl ?_
    exact GQ.iret rfl step_d17
  refine GQ.bipush (pc' := 9) step_d7 rfl rfl ?_
  exact GQ.iret rfl step_d9
def volumeBlocks_I : Mi := (⟨"ShrinkRelocator", "volumeBlocks", "()I"⟩, prog_1_method_11_code, 1, (some .int), 0, 0)
theorem volumeBlocks_d0 : decode volumeBlocks_I.2.1 0 = .ok (.aload_n 0, 1) := by decide +kernel
theorem volumeBlocks_d1 : decode volumeBlocks_I.2.1 1 = .ok (.getfield 46, 3) := by decide +kernel
theorem volumeBlocks_d4 : decode volumeBlocks_I.2.1 4 = .ok (.ireturn, 1) := by decide +kernel
theorem volumeBlocks_p : parseMethodDescriptor volumeBlocks_I.1.desc = some ⟨[], (some .int)⟩ := by decide +kernel
theorem volumeBlocks_K {a0 : Array Value} {Z : State} {M : Mi} (hw : Words a0 Z) (h : volumeBlocks_I.2.2.2.2.1 + 1 ≤ M.2.2.2.2.1) : Callee a0 Z M volumeBlocks_I 0 := ⟨pnC, (wd191 hw), (wd2 hw), h, by decide, fun sig q => by cases volumeBlocks_p.symm.trans q; rfl⟩
set_option maxRecDepth 65536 in
set_option maxHeartbeats 4000000 in
theorem volumeBlocks_M_ok {l : Launch} {Z : State} {a0 : Array Value} {n0 : Nat} {cv : Nat → Nat} {h0 : Heap} (hw : Words a0 Z) (K : KA a0 Z n0 CN nI FF cv) (s : Obj) : GQ (XA l Z n0 CN FF cv h0) volumeBlocks_I 0 0 0 (entry [Rf 0] volumeBlocks_I.2.2.1) [] s (volumeBlocks_M s) := by
  show GQ _ _ _ _ 0 [some (Rf 0)] [] _ _
  unfold volumeBlocks_M
  refine GQ.aloadN (pc' := 1) volumeBlocks_d0 rfl rfl ?_
  refine GQ.getI (M := volumeBlocks_I) (k := 4) (pc' := 4) rfl (wd35 hw) volumeBlocks_d1 rfl ?_
  exact GQ.iret rfl volumeBlocks_d4
def target_I : Mi := (⟨"ShrinkRelocator", "target", "()I"⟩, prog_1_method_12_code, 1, (some .int), 0, 0)
theorem target_d0 : decode target_I.2.1 0 = .ok (.aload_n 0, 1) := by decide +kernel
theorem target_d1 : decode target_I.2.1 1 = .ok (.getfield 55, 3) := by decide +kernel
theorem target_d4 : decode target_I.2.1 4 = .ok (.ifCond .ne 6, 3) := by decide +kernel
theorem target_d7 : decode target_I.2.1 7 = .ok (.bipush (-5), 2) := by decide +kernel
theorem target_d9 : decode target_I.2.1 9 = .ok (.ireturn, 1) := by decide +kernel
theorem target_d10 : decode target_I.2.1 10 = .ok (.aload_n 0, 1) := by decide +kernel
theorem target_d11 : decode target_I.2.1 11 = .ok (.getfield 59, 3) := by decide +kernel
theorem target_d14 : decode target_I.2.1 14 = .ok (.ireturn, 1) := by decide +kernel
theorem target_p : parseMethodDescriptor target_I.1.desc = some ⟨[], (some .int)⟩ := by decide +kernel
theorem target_K {a0 : Array Value} {Z : State} {M : Mi} (hw : Words a0 Z) (h : target_I.2.2.2.2.1 + 1 ≤ M.2.2.2.2.1) : Callee a0 Z M target_I 0 := ⟨pnC, (wd196 hw), (wd2 hw), h, by decide, fun sig q => by cases target_p.symm.trans q; rfl⟩
set_option maxRecDepth 65536 in
set_option maxHeartbeats 4000000 in
theorem target_M_ok {l : Launch} {Z : State} {a0 : Array Value} {n0 : Nat} {cv : Nat → Nat} {h0 : Heap} (hw : Words a0 Z) (K : KA a0 Z n0 CN nI FF cv) (s : Obj) : GQ (XA l Z n0 CN FF cv h0) target_I 0 0 0 (entry [Rf 0] target_I.2.2.1) [] s (target_M s) := by
  show GQ _ _ _ _ 0 [some (Rf 0)] [] _ _
  unfold target_M
  refine GQ.aloadN (pc' := 1) target_d0 rfl rfl ?_
  refine GQ.getI (M := target_I) (k := 7) (pc' := 4) rfl (wd41 hw) target_d1 rfl ?_
  refine GQ.ifF (pcT := 10) (pcF := 7) h_ne target_d4 rfl rfl rfl ?_ ?_
  · refine GQ.aloadN (pc' := 11) target_d10 rfl rfl ?_
    refine GQ.getI (M := target_I) (k := 8) (pc' := 14) rfl (wd43 hw) target_d11 rfl ?_
    exact GQ.iret rfl target_d14
  refine GQ.bipush (pc' := 9) target_d7 rfl rfl ?_
  exact GQ.iret rfl target_d9
def loadAt_I : Mi := (⟨"ShrinkRelocator", "loadAt", "(II)I"⟩, prog_1_method_31_code, 6, (some .int), 1, 15)
theorem loadAt_d0 : decode loadAt_I.2.1 0 = .ok (.iload_n 2, 1) := by decide +kernel
theorem loadAt_d1 : decode loadAt_I.2.1 1 = .ok (.aload_n 0, 1) := by decide +kernel
theorem loadAt_d2 : decode loadAt_I.2.1 2 = .ok (.getfield 49, 3) := by decide +kernel
theorem loadAt_d5 : decode loadAt_I.2.1 5 = .ok (.idiv, 1) := by decide +kernel
theorem loadAt_d6 : decode loadAt_I.2.1 6 = .ok (.istore_n 3, 1) := by decide +kernel
theorem loadAt_d7 : decode loadAt_I.2.1 7 = .ok (.iload_n 3, 1) := by decide +kernel
theorem loadAt_d8 : decode loadAt_I.2.1 8 = .ok (.ifCond .lt 9, 3) := by decide +kernel
theorem loadAt_d11 : decode loadAt_I.2.1 11 = .ok (.iload_n 3, 1) := by decide +kernel
theorem loadAt_d12 : decode loadAt_I.2.1 12 = .ok (.bipush 32, 2) := by decide +kernel
theorem loadAt_d14 : decode loadAt_I.2.1 14 = .ok (.if_icmp .lt 5, 3) := by decide +kernel
theorem loadAt_d17 : decode loadAt_I.2.1 17 = .ok (.iconst 0, 1) := by decide +kernel
theorem loadAt_d18 : decode loadAt_I.2.1 18 = .ok (.ireturn, 1) := by decide +kernel
theorem loadAt_d19 : decode loadAt_I.2.1 19 = .ok (.aload_n 0, 1) := by decide +kernel
theorem loadAt_d20 : decode loadAt_I.2.1 20 = .ok (.getfield 30, 3) := by decide +kernel
theorem loadAt_d23 : decode loadAt_I.2.1 23 = .ok (.aload_n 0, 1) := by decide +kernel
theorem loadAt_d24 : decode loadAt_I.2.1 24 = .ok (.iload_n 1, 1) := by decide +kernel
theorem loadAt_d25 : decode loadAt_I.2.1 25 = .ok (.iload_n 3, 1) := by decide +kernel
theorem loadAt_d26 : decode loadAt_I.2.1 26 = .ok (.invokevirtual 119, 3) := by decide +kernel
theorem loadAt_d29 : decode loadAt_I.2.1 29 = .ok (.iaload, 1) := by decide +kernel
theorem loadAt_d30 : decode loadAt_I.2.1 30 = .ok (.istore 4, 2) := by decide +kernel
theorem loadAt_d32 : decode loadAt_I.2.1 32 = .ok (.aload_n 0, 1) := by decide +kernel
theorem loadAt_d33 : decode loadAt_I.2.1 33 = .ok (.iload 4, 2) := by decide +kernel
theorem loadAt_d35 : decode loadAt_I.2.1 35 = .ok (.iload_n 2, 1) := by decide +kernel
theorem loadAt_d36 : decode loadAt_I.2.1 36 = .ok (.aload_n 0, 1) := by decide +kernel
theorem loadAt_d37 : decode loadAt_I.2.1 37 = .ok (.getfield 49, 3) := by decide +kernel
theorem loadAt_d40 : decode loadAt_I.2.1 40 = .ok (.irem, 1) := by decide +kernel
theorem loadAt_d41 : decode loadAt_I.2.1 41 = .ok (.invokevirtual 137, 3) := by decide +kernel
theorem loadAt_d44 : decode loadAt_I.2.1 44 = .ok (.istore 5, 2) := by decide +kernel
theorem loadAt_d46 : decode loadAt_I.2.1 46 = .ok (.iload 5, 2) := by decide +kernel
theorem loadAt_d48 : decode loadAt_I.2.1 48 = .ok (.ifCond .ge 5, 3) := by decide +kernel
theorem loadAt_d51 : decode loadAt_I.2.1 51 = .ok (.iconst 0, 1) := by decide +kernel
theorem loadAt_d52 : decode loadAt_I.2.1 52 = .ok (.ireturn, 1) := by decide +kernel
theorem loadAt_d53 : decode loadAt_I.2.1 53 = .ok (.aload_n 0, 1) := by decide +kernel
theorem loadAt_d54 : decode loadAt_I.2.1 54 = .ok (.getfield 39, 3) := by decide +kernel
theorem loadAt_d57 : decode loadAt_I.2.1 57 = .ok (.iload 5, 2) := by decide +kernel
theorem loadAt_d59 : decode loadAt_I.2.1 59 = .ok (.iaload, 1) := by decide +kernel
theorem loadAt_d60 : decode loadAt_I.2.1 60 = .ok (.sipush 255, 3) := by decide +kernel
theorem loadAt_d63 : decode loadAt_I.2.1 63 = .ok (.iand, 1) := by decide +kernel
theorem loadAt_d64 : decode loadAt_I.2.1 64 = .ok (.ireturn, 1) := by decide +kernel
theorem loadAt_p : parseMethodDescriptor loadAt_I.1.desc = some ⟨[.int, .int], (some .int)⟩ := by decide +kernel
theorem loadAt_K {a0 : Array Value} {Z : State} {M : Mi} (hw : Words a0 Z) (h : loadAt_I.2.2.2.2.1 + 1 ≤ M.2.2.2.2.1) : Callee a0 Z M loadAt_I 2 := ⟨pnC, (wd205 hw), (wd2 hw), h, by decide, fun sig q => by cases loadAt_p.symm.trans q; rfl⟩
set_option maxRecDepth 65536 in
set_option maxHeartbeats 4000000 in
theorem loadAt_M_ok {l : Launch} {Z : State} {a0 : Array Value} {n0 : Nat} {cv : Nat → Nat} {h0 : Heap} (hw : Words a0 Z) (K : KA a0 Z n0 CN nI FF cv) (x1 : Int) (x2 : Int) (s : Obj) : GQ (XA l Z n0 CN FF cv h0) loadAt_I 0 0 0 (entry [Rf 0, I x1, I x2] loadAt_I.2.2.1) [] s (loadAt_M x1 x2 s) := by
  show GQ _ _ _ _ 0 [some (Rf 0), some (I x1), some (I x2), none, none, none] [] _ _
  unfold loadAt_M
  refine GQ.iloadN (pc' := 1) loadAt_d0 rfl rfl ?_
  refine GQ.aloadN (pc' := 2) loadAt_d1 rfl rfl ?_
  refine GQ.getI (M := loadAt_I) (k := 5) (pc' := 5) rfl (wd37 hw) loadAt_d2 rfl ?_
  refine GQ.idiv (pc' := 6) loadAt_d5 rfl ?_
  refine GQ.letI (fun x3_6 => ?_)
  refine GQ.istoreN (L' := [some (Rf 0), some (I x1), some (I x2), some (I x3_6), none, none]) (pc' := 7) loadAt_d6 rfl rfl rfl ?_
  refine GQ.iloadN (pc' := 8) loadAt_d7 rfl rfl ?_
  refine GQ.ifT (pcT := 17) (pcF := 11) h_lt loadAt_d8 rfl rfl rfl ?_ ?_
  · refine GQ.iconst (pc' := 18) loadAt_d17 rfl rfl ?_
    exact GQ.iret rfl loadAt_d18
  refine GQ.iloadN (pc' := 12) loadAt_d11 rfl rfl ?_
  refine GQ.bipush (pc' := 14) loadAt_d12 rfl rfl ?_
  refine GQ.icmpT (pcT := 19) (pcF := 17) h_lt loadAt_d14 rfl rfl rfl ?_ ?_
  · refine GQ.aloadN (pc' := 20) loadAt_d19 rfl rfl ?_
    refine GQ.getA (M := loadAt_I) (k := 12) (pc' := 23) rfl (by decide) (wd23 hw) loadAt_d20 rfl ?_
    refine GQ.aloadN (pc' := 24) loadAt_d23 rfl rfl ?_
    refine GQ.iloadN (pc' := 25) loadAt_d24 rfl rfl ?_
    refine GQ.iloadN (pc' := 26) loadAt_d25 rfl rfl ?_
    refine GQ.callP (Mc := mapSlot_I) (args0 := [I x1, I x3_6]) (S := [Rf 13]) (r := 0) (pc' := 29) (mapSlot_K hw (by decide)) rfl loadAt_d26 rfl (wd106 hw) (wd107 hw) (wd108 hw) (wd1 hw) XA.recv rfl (mapSlot_M_ok hw K x1 x3_6 s) rfl (fun z26 s26 => ?_)
    show GQ (XA l Z n0 CN FF cv h0) loadAt_I _ _ 29 [some (Rf 0), some (I x1), some (I x2), some (I x3_6), none, none] [I z26, Rf 13] s26 _
    refine GQ.rd (k := 12) (ins := .iaload) (pc' := 30) rfl (by decide) (Or.inl ⟨rfl, rfl⟩) loadAt_d29 rfl (fun z29 => ?_)
    refine GQ.istore (L' := [some (Rf 0), some (I x1), some (I x2), some (I x3_6), some (I z29), none]) (pc' := 32) loadAt_d30 rfl rfl rfl ?_
    refine GQ.aloadN (pc' := 33) loadAt_d32 rfl rfl ?_
    refine GQ.iload (pc' := 35) loadAt_d33 rfl rfl ?_
    refine GQ.iloadN (pc' := 36) loadAt_d35 rfl rfl ?_
    refine GQ.aloadN (pc' := 37) loadAt_d36 rfl rfl ?_
    refine GQ.getI (M := loadAt_I) (k := 5) (pc' := 40) rfl (wd37 hw) loadAt_d37 rfl ?_
    refine GQ.irem (pc' := 41) loadAt_d40 rfl ?_
    refine GQ.callP (Mc := byteSlot_I) (args0 := [I z29, I (aRem x2 (s26.1 5))]) (S := []) (r := 0) (pc' := 44) (byteSlot_K hw (by decide)) rfl loadAt_d41 rfl (wd118 hw) (wd119 hw) (wd120 hw) (wd1 hw) XA.recv rfl (byteSlot_M_ok hw K z29 (aRem x2 (s26.1 5)) s26) rfl (fun z41 s41 => ?_)
    show GQ (XA l Z n0 CN FF cv h0) loadAt_I _ _ 44 [some (Rf 0), some (I x1), some (I x2), some (I x3_6), some (I z29), none] [I z41] s41 _
    refine GQ.istore (L' := [some (Rf 0), some (I x1), some (I x2), some (I x3_6), some (I z29), some (I z41)]) (pc' := 46) loadAt_d44 rfl rfl rfl ?_
    refine GQ.iload (pc' := 48) loadAt_d46 rfl rfl ?_
    refine GQ.ifF (pcT := 53) (pcF := 51) h_ge loadAt_d48 rfl rfl rfl ?_ ?_
    · refine GQ.aloadN (pc' := 54) loadAt_d53 rfl rfl ?_
      refine GQ.getA (M := loadAt_I) (k := 15) (pc' := 57) rfl (by decide) (wd29 hw) loadAt_d54 rfl ?_
      refine GQ.iload (pc' := 59) loadAt_d57 rfl rfl ?_
      refine GQ.rd (k := 15) (ins := .iaload) (pc' := 60) rfl (by decide) (Or.inl ⟨rfl, rfl⟩) loadAt_d59 rfl (fun z59 => ?_)
      refine GQ.sipush (pc' := 63) loadAt_d60 rfl rfl ?_
      refine GQ.iand (pc' := 64) loadAt_d63 rfl ?_
      exact GQ.iret rfl loadAt_d64
    refine GQ.iconst (pc' := 52) loadAt_d51 rfl rfl ?_
    exact GQ.iret rfl loadAt_d52
  refine GQ.iconst (pc' := 18) loadAt_d17 rfl rfl ?_
  exact GQ.iret rfl loadAt_d18
def read_I : Mi := (⟨"ShrinkRelocator", "read", "(II)I"⟩, prog_1_method_6_code, 3, (some .int), 2, 32)
theorem read_d0 : decode read_I.2.1 0 = .ok (.aload_n 0, 1) := by decide +kernel
theorem read_d1 : decode read_I.2.1 1 = .ok (.iload_n 1, 1) := by decide +kernel
theorem read_d2 : decode read_I.2.1 2 = .ok (.invokevirtual 75, 3) := by decide +kernel
theorem read_d5 : decode read_I.2.1 5 = .ok (.ifCond .ne 5, 3) := by decide +kernel
theorem read_d8 : decode read_I.2.1 8 = .ok (.iconst (-1), 1) := by decide +kernel
theorem read_d9 : decode read_I.2.1 9 = .ok (.ireturn, 1) := by decide +kernel
theorem read_d10 : decode read_I.2.1 10 = .ok (.iload_n 2, 1) := by decide +kernel
theorem read_d11 : decode read_I.2.1 11 = .ok (.ifCond .lt 13, 3) := by decide +kernel
theorem read_d14 : decode read_I.2.1 14 = .ok (.iload_n 2, 1) := by decide +kernel
theorem read_d15 : decode read_I.2.1 15 = .ok (.aload_n 0, 1) := by decide +kernel
theorem read_d16 : decode read_I.2.1 16 = .ok (.getfield 26, 3) := by decide +kernel
theorem read_d19 : decode read_I.2.1 19 = .ok (.iload_n 1, 1) := by decide +kernel
theorem read_d20 : decode read_I.2.1 20 = .ok (.iaload, 1) := by decide +kernel
theorem read_d21 : decode read_I.2.1 21 = .ok (.if_icmp .lt 6, 3) := by decide +kernel
theorem read_d24 : decode read_I.2.1 24 = .ok (.bipush (-2), 2) := by decide +kernel
theorem read_d26 : decode read_I.2.1 26 = .ok (.ireturn, 1) := by decide +kernel
theorem read_d27 : decode read_I.2.1 27 = .ok (.aload_n 0, 1) := by decide +kernel
theorem read_d28 : decode read_I.2.1 28 = .ok (.iload_n 1, 1) := by decide +kernel
theorem read_d29 : decode read_I.2.1 29 = .ok (.iload_n 2, 1) := by decide +kernel
theorem read_d30 : decode read_I.2.1 30 = .ok (.invokevirtual 98, 3) := by decide +kernel
theorem read_d33 : decode read_I.2.1 33 = .ok (.ireturn, 1) := by decide +kernel
theorem read_p : parseMethodDescriptor read_I.1.desc = some ⟨[.int, .int], (some .int)⟩ := by decide +kernel
theorem read_K {a0 : Array Value} {Z : State} {M : Mi} (hw : Words a0 Z) (h : read_I.2.2.2.2.1 + 1 ≤ M.2.2.2.2.1) : Callee a0 Z M read_I 2 := ⟨pnC, (wd201 hw), (wd2 hw), h, by decide, fun sig q => by cases read_p.symm.trans q; rfl⟩
set_option maxRecDepth 65536 in
set_option maxHeartbeats 4000000 in
theorem read_M_ok {l : Launch} {Z : State} {a0 : Array Value} {n0 : Nat} {cv : Nat → Nat} {h0 : Heap} (hw : Words a0 Z) (K : KA a0 Z n0 CN nI FF cv) (x1 : Int) (x2 : Int) (s : Obj) : GQ (XA l Z n0 CN FF cv h0) read_I 0 0 0 (entry [Rf 0, I x1, I x2] read_I.2.2.1) [] s (read_M x1 x2 s) := by
  show GQ _ _ _ _ 0 [some (Rf 0), some (I x1), some (I x2)] [] _ _
  unfold read_M
  refine GQ.aloadN (pc' := 1) read_d0 rfl rfl ?_
  refine GQ.iloadN (pc' := 2) read_d1 rfl rfl ?_
  refine GQ.callP (Mc := isValidFile_I) (args0 := [I x1]) (S := []) (r := 0) (pc' := 5) (isValidFile_K hw (by decide)) rfl read_d2 rfl (wd69 hw) (wd70 hw) (wd71 hw) (wd1 hw) XA.recv rfl (isValidFile_M_ok hw K x1 s) rfl (fun z2 s2 => ?_)
  show GQ (XA l Z n0 CN FF cv h0) read_I _ _ 5 [some (Rf 0), some (I x1), some (I x2)] [I z2] s2 _
  refine GQ.ifF (pcT := 10) (pcF := 8) h_ne read_d5 rfl rfl rfl ?_ ?_
  · refine GQ.iloadN (pc' := 11) read_d10 rfl rfl ?_
    refine GQ.ifT (pcT := 24) (pcF := 14) h_lt read_d11 rfl rfl rfl ?_ ?_
    · refine GQ.bipush (pc' := 26) read_d24 rfl rfl ?_
      exact GQ.iret rfl read_d26
    refine GQ.iloadN (pc' := 15) read_d14 rfl rfl ?_
    refine GQ.aloadN (pc' := 16) read_d15 rfl rfl ?_
    refine GQ.getA (M := read_I) (k := 11) (pc' := 19) rfl (by decide) (wd21 hw) read_d16 rfl ?_
    refine GQ.iloadN (pc' := 20) read_d19 rfl rfl ?_
    refine GQ.rd (k := 11) (ins := .iaload) (pc' := 21) rfl (by decide) (Or.inl ⟨rfl, rfl⟩) read_d20 rfl (fun z20 => ?_)
    refine GQ.icmpT (pcT := 27) (pcF := 24) h_lt read_d21 rfl rfl rfl ?_ ?_
    · refine GQ.aloadN (pc' := 28) read_d27 rfl rfl ?_
      refine GQ.iloadN (pc' := 29) read_d28 rfl rfl ?_
      refine GQ.iloadN (pc' := 30) read_d29 rfl rfl ?_
      refine GQ.callP (Mc := loadAt_I) (args0 := [I x1, I x2]) (S := []) (r := 0) (pc' := 33) (loadAt_K hw (by decide)) rfl read_d30 rfl (wd202 hw) (wd203 hw) (wd204 hw) (wd1 hw) XA.recv rfl (loadAt_M_ok hw K x1 x2 s2) rfl (fun z30 s30 => ?_)
      show GQ (XA l Z n0 CN FF cv h0) read_I _ _ 33 [some (Rf 0), some (I x1), some (I x2)] [I z30] s30 _
      exact GQ.iret rfl read_d33
    refine GQ.bipush (pc' := 26) read_d24 rfl rfl ?_
    exact GQ.iret rfl read_d26
  refine GQ.iconst (pc' := 9) read_d8 rfl rfl ?_
  exact GQ.iret rfl read_d9
def size_I : Mi := (⟨"ShrinkRelocator", "size", "(I)I"⟩, prog_1_method_7_code, 2, (some .int), 1, 13)
theorem size_d0 : decode size_I.2.1 0 = .ok (.aload_n 0, 1) := by decide +kernel
theorem size_d1 : decode size_I.2.1 1 = .ok (.iload_n 1, 1) := by decide +kernel
theorem size_d2 : decode size_I.2.1 2 = .ok (.invokevirtual 75, 3) := by decide +kernel
theorem size_d5 : decode size_I.2.1 5 = .ok (.ifCond .ne 5, 3) := by decide +kernel
theorem size_d8 : decode size_I.2.1 8 = .ok (.iconst (-1), 1) := by decide +kernel
theorem size_d9 : decode size_I.2.1 9 = .ok (.ireturn, 1) := by decide +kernel
theorem size_d10 : decode size_I.2.1 10 = .ok (.aload_n 0, 1) := by decide +kernel
theorem size_d11 : decode size_I.2.1 11 = .ok (.getfield 26, 3) := by decide +kernel
theorem size_d14 : decode size_I.2.1 14 = .ok (.iload_n 1, 1) := by decide +kernel
theorem size_d15 : decode size_I.2.1 15 = .ok (.iaload, 1) := by decide +kernel
theorem size_d16 : decode size_I.2.1 16 = .ok (.ireturn, 1) := by decide +kernel
theorem size_p : parseMethodDescriptor size_I.1.desc = some ⟨[.int], (some .int)⟩ := by decide +kernel
theorem size_K {a0 : Array Value} {Z : State} {M : Mi} (hw : Words a0 Z) (h : size_I.2.2.2.2.1 + 1 ≤ M.2.2.2.2.1) : Callee a0 Z M size_I 1 := ⟨pnC, (wd210 hw), (wd2 hw), h, by decide, fun sig q => by cases size_p.symm.trans q; rfl⟩
set_option maxRecDepth 65536 in
set_option maxHeartbeats 4000000 in
theorem size_M_ok {l : Launch} {Z : State} {a0 : Array Value} {n0 : Nat} {cv : Nat → Nat} {h0 : Heap} (hw : Words a0 Z) (K : KA a0 Z n0 CN nI FF cv) (x1 : Int) (s : Obj) : GQ (XA l Z n0 CN FF cv h0) size_I 0 0 0 (entry [Rf 0, I x1] size_I.2.2.1) [] s (size_M x1 s) := by
  show GQ _ _ _ _ 0 [some (Rf 0), some (I x1)] [] _ _
  unfold size_M
  refine GQ.aloadN (pc' := 1) size_d0 rfl rfl ?_
  refine GQ.iloadN (pc' := 2) size_d1 rfl rfl ?_
  refine GQ.callP (Mc := isValidFile_I) (args0 := [I x1]) (S := []) (r := 0) (pc' := 5) (isValidFile_K hw (by decide)) rfl size_d2 rfl (wd69 hw) (wd70 hw) (wd71 hw) (wd1 hw) XA.recv rfl (isValidFile_M_ok hw K x1 s) rfl (fun z2 s2 => ?_)
  show GQ (XA l Z n0 CN FF cv h0) size_I _ _ 5 [some (Rf 0), some (I x1)] [I z2] s2 _
  refine GQ.ifF (pcT := 10) (pcF := 8) h_ne size_d5 rfl rfl rfl ?_ ?_
  · refine GQ.aloadN (pc' := 11) size_d10 rfl rfl ?_
    refine GQ.getA (M := size_I) (k := 11) (pc' := 14) rfl (by decide) (wd21 hw) size_d11 rfl ?_
    refine GQ.iloadN (pc' := 15) size_d14 rfl rfl ?_
    refine GQ.rd (k := 11) (ins := .iaload) (pc' := 16) rfl (by decide) (Or.inl ⟨rfl, rfl⟩) size_d15 rfl (fun z15 => ?_)
    exact GQ.iret rfl size_d16
  refine GQ.iconst (pc' := 9) size_d8 rfl rfl ?_
  exact GQ.iret rfl size_d9
def countExtents_I : Mi := (⟨"ShrinkRelocator", "countExtents", "(I)I"⟩, prog_1_method_26_code, 6, (some .int), 1, 14)
theorem countExtents_d0 : decode countExtents_I.2.1 0 = .ok (.aload_n 0, 1) := by decide +kernel
theorem countExtents_d1 : decode countExtents_I.2.1 1 = .ok (.aload_n 0, 1) := by decide +kernel
theorem countExtents_d2 : decode countExtents_I.2.1 2 = .ok (.getfield 26, 3) := by decide +kernel
theorem countExtents_d5 : decode countExtents_I.2.1 5 = .ok (.iload_n 1, 1) := by decide +kernel
theorem countExtents_d6 : decode countExtents_I.2.1 6 = .ok (.iaload, 1) := by decide +kernel
theorem countExtents_d7 : decode countExtents_I.2.1 7 = .ok (.invokevirtual 95, 3) := by decide +kernel
theorem countExtents_d10 : decode countExtents_I.2.1 10 = .ok (.istore_n 2, 1) := by decide +kernel
theorem countExtents_d11 : decode countExtents_I.2.1 11 = .ok (.iload_n 2, 1) := by decide +kernel
theorem countExtents_d12 : decode countExtents_I.2.1 12 = .ok (.ifCond .gt 5, 3) := by decide +kernel
theorem countExtents_d15 : decode countExtents_I.2.1 15 = .ok (.iconst 0, 1) := by decide +kernel
theorem countExtents_d16 : decode countExtents_I.2.1 16 = .ok (.ireturn, 1) := by decide +kernel
theorem countExtents_d17 : decode countExtents_I.2.1 17 = .ok (.iconst 1, 1) := by decide +kernel
theorem countExtents_d18 : decode countExtents_I.2.1 18 = .ok (.istore_n 3, 1) := by decide +kernel
theorem countExtents_d19 : decode countExtents_I.2.1 19 = .ok (.aload_n 0, 1) := by decide +kernel
theorem countExtents_d20 : decode countExtents_I.2.1 20 = .ok (.iload_n 1, 1) := by decide +kernel
theorem countExtents_d21 : decode countExtents_I.2.1 21 = .ok (.iconst 0, 1) := by decide +kernel
theorem countExtents_d22 : decode countExtents_I.2.1 22 = .ok (.invokevirtual 119, 3) := by decide +kernel
theorem countExtents_d25 : decode countExtents_I.2.1 25 = .ok (.istore 4, 2) := by decide +kernel
theorem countExtents_d27 : decode countExtents_I.2.1 27 = .ok (.iconst 1, 1) := by decide +kernel
theorem countExtents_d28 : decode countExtents_I.2.1 28 = .ok (.istore 5, 2) := by decide +kernel
theorem countExtents_d30 : decode countExtents_I.2.1 30 = .ok (.iload 5, 2) := by decide +kernel
theorem countExtents_d32 : decode countExtents_I.2.1 32 = .ok (.iload_n 2, 1) := by decide +kernel
theorem countExtents_d33 : decode countExtents_I.2.1 33 = .ok (.if_icmp .ge 46, 3) := by decide +kernel
theorem countExtents_d36 : decode countExtents_I.2.1 36 = .ok (.iload 5, 2) := by decide +kernel
theorem countExtents_d38 : decode countExtents_I.2.1 38 = .ok (.bipush 32, 2) := by decide +kernel
theorem countExtents_d40 : decode countExtents_I.2.1 40 = .ok (.if_icmp .ge 39, 3) := by decide +kernel
theorem countExtents_d43 : decode countExtents_I.2.1 43 = .ok (.aload_n 0, 1) := by decide +kernel
theorem countExtents_d44 : decode countExtents_I.2.1 44 = .ok (.getfield 30, 3) := by decide +kernel
theorem countExtents_d47 : decode countExtents_I.2.1 47 = .ok (.iload 4, 2) := by decide +kernel
theorem countExtents_d49 : decode countExtents_I.2.1 49 = .ok (.iload 5, 2) := by decide +kernel
theorem countExtents_d51 : decode countExtents_I.2.1 51 = .ok (.iadd, 1) := by decide +kernel
theorem countExtents_d52 : decode countExtents_I.2.1 52 = .ok (.iaload, 1) := by decide +kernel
theorem countExtents_d53 : decode countExtents_I.2.1 53 = .ok (.aload_n 0, 1) := by decide +kernel
theorem countExtents_d54 : decode countExtents_I.2.1 54 = .ok (.getfield 30, 3) := by decide +kernel
theorem countExtents_d57 : decode countExtents_I.2.1 57 = .ok (.iload 4, 2) := by decide +kernel
theorem countExtents_d59 : decode countExtents_I.2.1 59 = .ok (.iload 5, 2) := by decide +kernel
theorem countExtents_d61 : decode countExtents_I.2.1 61 = .ok (.iadd, 1) := by decide +kernel
theorem countExtents_d62 : decode countExtents_I.2.1 62 = .ok (.iconst 1, 1) := by decide +kernel
theorem countExtents_d63 : decode countExtents_I.2.1 63 = .ok (.isub, 1) := by decide +kernel
theorem countExtents_d64 : decode countExtents_I.2.1 64 = .ok (.iaload, 1) := by decide +kernel
theorem countExtents_d65 : decode countExtents_I.2.1 65 = .ok (.iconst 1, 1) := by decide +kernel
theorem countExtents_d66 : decode countExtents_I.2.1 66 = .ok (.iadd, 1) := by decide +kernel
theorem countExtents_d67 : decode countExtents_I.2.1 67 = .ok (.if_icmp .eq 6, 3) := by decide +kernel
theorem countExtents_d70 : decode countExtents_I.2.1 70 = .ok (.iinc 3 1, 3) := by decide +kernel
theorem countExtents_d73 : decode countExtents_I.2.1 73 = .ok (.iinc 5 1, 3) := by decide +kernel
theorem countExtents_d76 : decode countExtents_I.2.1 76 = .ok (.goto (-46), 3) := by decide +kernel
theorem countExtents_d79 : decode countExtents_I.2.1 79 = .ok (.iload_n 3, 1) := by decide +kernel
theorem countExtents_d80 : decode countExtents_I.2.1 80 = .ok (.ireturn, 1) := by decide +kernel
theorem countExtents_p : parseMethodDescriptor countExtents_I.1.desc = some ⟨[.int], (some .int)⟩ := by decide +kernel
theorem countExtents_K {a0 : Array Value} {Z : State} {M : Mi} (hw : Words a0 Z) (h : countExtents_I.2.2.2.2.1 + 1 ≤ M.2.2.2.2.1) : Callee a0 Z M countExtents_I 1 := ⟨pnC, (wd219 hw), (wd2 hw), h, by decide, fun sig q => by cases countExtents_p.symm.trans q; rfl⟩
set_option maxRecDepth 65536 in
set_option maxHeartbeats 4000000 in
theorem countExtents_j73_ok {l : Launch} {Z : State} {a0 : Array Value} {n0 : Nat} {cv : Nat → Nat} {h0 : Heap} (hw : Words a0 Z) (K : KA a0 Z n0 CN nI FF cv) {x2 x4 : Int} {rec : Int → Int → Obj → Option (Int × Obj)} (hrec : ∀ (x3 : Int) (x5 : Int) (s : Obj), GQ (XA l Z n0 CN FF cv h0) countExtents_I 0 0 30 [some (Rf 0), none, some (I x2), some (I x3), some (I x4), some (I x5)] [] s (rec x3 x5 s)) (x3 : Int) (x5 : Int) (s : Obj) : GQ (XA l Z n0 CN FF cv h0) countExtents_I 0 0 73 [some (Rf 0), none, some (I x2), some (I x3), some (I x4), some (I x5)] [] s (countExtents_j73 rec x2 x3 x4 x5 s) := by
  unfold countExtents_j73
  refine GQ.iinc (L' := [some (Rf 0), none, some (I x2), some (I x3), some (I x4), some (I (aAdd x5 1))]) (pc' := 76) countExtents_d73 rfl rfl rfl rfl ?_
  refine GQ.goto (pc' := 30) countExtents_d76 rfl rfl ?_
  exact hrec x3 (aAdd x5 1) s
set_option maxRecDepth 65536 in
set_option maxHeartbeats 4000000 in
theorem countExtents_l30b_ok {l : Launch} {Z : State} {a0 : Array Value} {n0 : Nat} {cv : Nat → Nat} {h0 : Heap} (hw : Words a0 Z) (K : KA a0 Z n0 CN nI FF cv) (x2 : Int) (x4 : Int) {rec : Int → Int → Obj → Option (Int × Obj)} (hrec : ∀ (x3 : Int) (x5 : Int) (s : Obj), GQ (XA l Z n0 CN FF cv h0) countExtents_I 0 0 30 [some (Rf 0), none, some (I x2), some (I x3), some (I x4), some (I x5)] [] s (rec x3 x5 s)) (x3 : Int) (x5 : Int) (s : Obj) : GQ (XA l Z n0 CN FF cv h0) countExtents_I 0 0 30 [some (Rf 0), none, some (I x2), some (I x3), some (I x4), some (I x5)] [] s (countExtents_l30b x2 x4 rec x3 x5 s) := by
  unfold countExtents_l30b
  refine GQ.iload (pc' := 32) countExtents_d30 rfl rfl ?_
  refine GQ.iloadN (pc' := 33) countExtents_d32 rfl rfl ?_
  refine GQ.icmpF (pcT := 79) (pcF := 36) h_ge countExtents_d33 rfl rfl rfl ?_ ?_
  · refine GQ.iloadN (pc' := 80) countExtents_d79 rfl rfl ?_
    exact GQ.iret rfl countExtents_d80
  refine GQ.iload (pc' := 38) countExtents_d36 rfl rfl ?_
  refine GQ.bipush (pc' := 40) countExtents_d38 rfl rfl ?_
  refine GQ.icmpF (pcT := 79) (pcF := 43) h_ge countExtents_d40 rfl rfl rfl ?_ ?_
  · refine GQ.iloadN (pc' := 80) countExtents_d79 rfl rfl ?_
    exact GQ.iret rfl countExtents_d80
  refine GQ.aloadN (pc' := 44) countExtents_d43 rfl rfl ?_
  refine GQ.getA (M := countExtents_I) (k := 12) (pc' := 47) rfl (by decide) (wd23 hw) countExtents_d44 rfl ?_
  refine GQ.iload (pc' := 49) countExtents_d47 rfl rfl ?_
  refine GQ.iload (pc' := 51) countExtents_d49 rfl rfl ?_
  refine GQ.iadd (pc' := 52) countExtents_d51 rfl ?_
  refine GQ.rd (k := 12) (ins := .iaload) (pc' := 53) rfl (by decide) (Or.inl ⟨rfl, rfl⟩) countExtents_d52 rfl (fun z52 => ?_)
  refine GQ.aloadN (pc' := 54) countExtents_d53 rfl rfl ?_
  refine GQ.getA (M := countExtents_I) (k := 12) (pc' := 57) rfl (by decide) (wd23 hw) countExtents_d54 rfl ?_
  refine GQ.iload (pc' := 59) countExtents_d57 rfl rfl ?_
  refine GQ.iload (pc' := 61) countExtents_d59 rfl rfl ?_
  refine GQ.iadd (pc' := 62) countExtents_d61 rfl ?_
  refine GQ.iconst (pc' := 63) countExtents_d62 rfl rfl ?_
  refine GQ.isub (pc' := 64) countExtents_d63 rfl ?_
  refine GQ.rd (k := 12) (ins := .iaload) (pc' := 65) rfl (by decide) (Or.inl ⟨rfl, rfl⟩) countExtents_d64 rfl (fun z64 => ?_)
  refine GQ.iconst (pc' := 66) countExtents_d65 rfl rfl ?_
  refine GQ.iadd (pc' := 67) countExtents_d66 rfl ?_
  refine GQ.icmpT (pcT := 73) (pcF := 70) h_eq countExtents_d67 rfl rfl rfl ?_ ?_
  · exact countExtents_j73_ok hw K hrec x3 x5 s
  refine GQ.iinc (L' := [some (Rf 0), none, some (I x2), some (I (aAdd x3 1)), some (I x4), some (I x5)]) (pc' := 73) countExtents_d70 rfl rfl rfl rfl ?_
  exact countExtents_j73_ok hw K hrec (aAdd x3 1) x5 s
set_option maxRecDepth 65536 in
set_option maxHeartbeats 4000000 in
theorem countExtents_l30_ok {l : Launch} {Z : State} {a0 : Array Value} {n0 : Nat} {cv : Nat → Nat} {h0 : Heap} (hw : Words a0 Z) (K : KA a0 Z n0 CN nI FF cv) (x2 : Int) (x4 : Int) : ∀ (fu : Nat) (x3 : Int) (x5 : Int) (s : Obj), GQ (XA l Z n0 CN FF cv h0) countExtents_I 0 0 30 [some (Rf 0), none, some (I x2), some (I x3), some (I x4), some (I x5)] [] s (countExtents_l30 x2 x4 fu x3 x5 s)
  | 0 => fun _ _ _ => GQ.no
  | fu + 1 => countExtents_l30b_ok hw K x2 x4 (countExtents_l30_ok hw K x2 x4 fu)
set_option maxRecDepth 65536 in
set_option maxHeartbeats 4000000 in
theorem countExtents_M_ok {l : Launch} {Z : State} {a0 : Array Value} {n0 : Nat} {cv : Nat → Nat} {h0 : Heap} (hw : Words a0 Z) (K : KA a0 Z n0 CN nI FF cv) (x1 : Int) (s : Obj) : GQ (XA l Z n0 CN FF cv h0) countExtents_I 0 0 0 (entry [Rf 0, I x1] countExtents_I.2.2.1) [] s (countExtents_M x1 s) := by
  show GQ _ _ _ _ 0 [some (Rf 0), some (I x1), none, none, none, none] [] _ _
  unfold countExtents_M
  refine GQ.aloadN (pc' := 1) countExtents_d0 rfl rfl ?_
  refine GQ.aloadN (pc' := 2) countExtents_d1 rfl rfl ?_
  refine GQ.getA (M := countExtents_I) (k := 11) (pc' := 5) rfl (by decide) (wd21 hw) countExtents_d2 rfl ?_
  refine GQ.iloadN (pc' := 6) countExtents_d5 rfl rfl ?_
  refine GQ.rd (k := 11) (ins := .iaload) (pc' := 7) rfl (by decide) (Or.inl ⟨rfl, rfl⟩) countExtents_d6 rfl (fun z6 => ?_)
  refine GQ.callP (Mc := blocksFor_I) (args0 := [I z6]) (S := []) (r := 0) (pc' := 10) (blocksFor_K hw (by decide)) rfl countExtents_d7 rfl (wd81 hw) (wd82 hw) (wd83 hw) (wd1 hw) XA.recv rfl (blocksFor_M_ok hw K z6 s) rfl (fun z7 s7 => ?_)
  show GQ (XA l Z n0 CN FF cv h0) countExtents_I _ _ 10 [some (Rf 0), some (I x1), none, none, none, none] [I z7] s7 _
  refine GQ.istoreN (L' := [some (Rf 0), some (I x1), some (I z7), none, none, none]) (pc' := 11) countExtents_d10 rfl rfl rfl ?_
  refine GQ.iloadN (pc' := 12) countExtents_d11 rfl rfl ?_
  refine GQ.ifT (pcT := 17) (pcF := 15) h_gt countExtents_d12 rfl rfl rfl ?_ ?_
  · refine GQ.iconst (pc' := 18) countExtents_d17 rfl rfl ?_
    refine GQ.istoreN (L' := [some (Rf 0), some (I x1), some (I z7), some (I 1), none, none]) (pc' := 19) countExtents_d18 rfl rfl rfl ?_
    refine GQ.aloadN (pc' := 20) countExtents_d19 rfl rfl ?_
    refine GQ.iloadN (pc' := 21) countExtents_d20 rfl rfl ?_
    refine GQ.iconst (pc' := 22) countExtents_d21 rfl rfl ?_
    refine GQ.callP (Mc := mapSlot_I) (args0 := [I x1, I 0]) (S := []) (r := 0) (pc' := 25) (mapSlot_K hw (by decide)) rfl countExtents_d22 rfl (wd106 hw) (wd107 hw) (wd108 hw) (wd1 hw) XA.recv rfl (mapSlot_M_ok hw K x1 0 s7) rfl (fun z22 s22 => ?_)
    show GQ (XA l Z n0 CN FF cv h0) countExtents_I _ _ 25 [some (Rf 0), some (I x1), some (I z7), some (I 1), none, none] [I z22] s22 _
    refine GQ.istore (L' := [some (Rf 0), some (I x1), some (I z7), some (I 1), some (I z22), none]) (pc' := 27) countExtents_d25 rfl rfl rfl ?_
    refine GQ.iconst (pc' := 28) countExtents_d27 rfl rfl ?_
    refine GQ.istore (L' := [some (Rf 0), some (I x1), some (I z7), some (I 1), some (I z22), some (I 1)]) (pc' := 30) countExtents_d28 rfl rfl rfl ?_
    refine GQ.weak (L' := [some (Rf 0), none, some (I z7), some (I 1), some (I z22), some (I 1)]) (Sub.keep (Sub.drop (Sub.keep (Sub.keep (Sub.keep (Sub.keep Sub.nil)))))) ?_
    exact countExtents_l30_ok hw K z7 z22 FU 1 1 s22
  refine GQ.iconst (pc' := 16) countExtents_d15 rfl rfl ?_
  exact GQ.iret rfl countExtents_d16
def extentCount_I : Mi := (⟨"ShrinkRelocator", "extentCount", "(I)I"⟩, prog_1_method_16_code, 2, (some .int), 2, 31)
theorem extentCount_d0 : decode extentCount_I.2.1 0 = .ok (.aload_n 0, 1) := by decide +kernel
theorem extentCount_d1 : decode extentCount_I.2.1 1 = .ok (.iload_n 1, 1) := by decide +kernel
theorem extentCount_d2 : decode extentCount_I.2.1 2 = .ok (.invokevirtual 75, 3) := by decide +kernel
theorem extentCount_d5 : decode extentCount_I.2.1 5 = .ok (.ifCond .ne 5, 3) := by decide +kernel
theorem extentCount_d8 : decode extentCount_I.2.1 8 = .ok (.iconst (-1), 1) := by decide +kernel
theorem extentCount_d9 : decode extentCount_I.2.1 9 = .ok (.ireturn, 1) := by decide +kernel
theorem extentCount_d10 : decode extentCount_I.2.1 10 = .ok (.aload_n 0, 1) := by decide +kernel
theorem extentCount_d11 : decode extentCount_I.2.1 11 = .ok (.iload_n 1, 1) := by decide +kernel
theorem extentCount_d12 : decode extentCount_I.2.1 12 = .ok (.invokevirtual 122, 3) := by decide +kernel
theorem extentCount_d15 : decode extentCount_I.2.1 15 = .ok (.ireturn, 1) := by decide +kernel
theorem extentCount_p : parseMethodDescriptor extentCount_I.1.desc = some ⟨[.int], (some .int)⟩ := by decide +kernel
theorem extentCount_K {a0 : Array Value} {Z : State} {M : Mi} (hw : Words a0 Z) (h : extentCount_I.2.2.2.2.1 + 1 ≤ M.2.2.2.2.1) : Callee a0 Z M extentCount_I 1 := ⟨pnC, (wd215 hw), (wd2 hw), h, by decide, fun sig q => by cases extentCount_p.symm.trans q; rfl⟩
set_option maxRecDepth 65536 in
set_option maxHeartbeats 4000000 in
theorem extentCount_M_ok {l : Launch} {Z : State} {a0 : Array Value} {n0 : Nat} {cv : Nat → Nat} {h0 : Heap} (hw : Words a0 Z) (K : KA a0 Z n0 CN nI FF cv) (x1 : Int) (s : Obj) : GQ (XA l Z n0 CN FF cv h0) extentCount_I 0 0 0 (entry [Rf 0, I x1] extentCount_I.2.2.1) [] s (extentCount_M x1 s) := by
  show GQ _ _ _ _ 0 [some (Rf 0), some (I x1)] [] _ _
  unfold extentCount_M
  refine GQ.aloadN (pc' := 1) extentCount_d0 rfl rfl ?_
  refine GQ.iloadN (pc' := 2) extentCount_d1 rfl rfl ?_
  refine GQ.callP (Mc := isValidFile_I) (args0 := [I x1]) (S := []) (r := 0) (pc' := 5) (isValidFile_K hw (by decide)) rfl extentCount_d2 rfl (wd69 hw) (wd70 hw) (wd71 hw) (wd1 hw) XA.recv rfl (isValidFile_M_ok hw K x1 s) rfl (fun z2 s2 => ?_)
  show GQ (XA l Z n0 CN FF cv h0) extentCount_I _ _ 5 [some (Rf 0), some (I x1)] [I z2] s2 _
  refine GQ.ifF (pcT := 10) (pcF := 8) h_ne extentCount_d5 rfl rfl rfl ?_ ?_
  · refine GQ.aloadN (pc' := 11) extentCount_d10 rfl rfl ?_
    refine GQ.iloadN (pc' := 12) extentCount_d11 rfl rfl ?_
    refine GQ.callP (Mc := countExtents_I) (args0 := [I x1]) (S := []) (r := 0) (pc' := 15) (countExtents_K hw (by decide)) rfl extentCount_d12 rfl (wd216 hw) (wd217 hw) (wd218 hw) (wd1 hw) XA.recv rfl (countExtents_M_ok hw K x1 s2) rfl (fun z12 s12 => ?_)
    show GQ (XA l Z n0 CN FF cv h0) extentCount_I _ _ 15 [some (Rf 0), some (I x1)] [I z12] s12 _
    exact GQ.iret rfl extentCount_d15
  refine GQ.iconst (pc' := 9) extentCount_d8 rfl rfl ?_
  exact GQ.iret rfl extentCount_d9
def freeBlocks_I : Mi := (⟨"ShrinkRelocator", "freeBlocks", "()I"⟩, prog_1_method_13_code, 1, (some .int), 2, 27)
theorem freeBlocks_d0 : decode freeBlocks_I.2.1 0 = .ok (.aload_n 0, 1) := by decide +kernel
theorem freeBlocks_d1 : decode freeBlocks_I.2.1 1 = .ok (.getfield 46, 3) := by decide +kernel
theorem freeBlocks_d4 : decode freeBlocks_I.2.1 4 = .ok (.aload_n 0, 1) := by decide +kernel
theorem freeBlocks_d5 : decode freeBlocks_I.2.1 5 = .ok (.invokevirtual 102, 3) := by decide +kernel
theorem freeBlocks_d8 : decode freeBlocks_I.2.1 8 = .ok (.isub, 1) := by decide +kernel
theorem freeBlocks_d9 : decode freeBlocks_I.2.1 9 = .ok (.ireturn, 1) := by decide +kernel
theorem freeBlocks_p : parseMethodDescriptor freeBlocks_I.1.desc = some ⟨[], (some .int)⟩ := by decide +kernel
theorem freeBlocks_K {a0 : Array Value} {Z : State} {M : Mi} (hw : Words a0 Z) (h : freeBlocks_I.2.2.2.2.1 + 1 ≤ M.2.2.2.2.1) : Callee a0 Z M freeBlocks_I 0 := ⟨pnC, (wd224 hw), (wd2 hw), h, by decide, fun sig q => by cases freeBlocks_p.symm.trans q; rfl⟩
set_option maxRecDepth 65536 in
set_option maxHeartbeats 4000000 in
theorem freeBlocks_M_ok {l : Launch} {Z : State} {a0 : Array Value} {n0 : Nat} {cv : Nat → Nat} {h0 : Heap} (hw : Words a0 Z) (K : KA a0 Z n0 CN nI FF cv) (s : Obj) : GQ (XA l Z n0 CN FF cv h0) freeBlocks_I 0 0 0 (entry [Rf 0] freeBlocks_I.2.2.1) [] s (freeBlocks_M s) := by
  show GQ _ _ _ _ 0 [some (Rf 0)] [] _ _
  unfold freeBlocks_M
  refine GQ.aloadN (pc' := 1) freeBlocks_d0 rfl rfl ?_
  refine GQ.getI (M := freeBlocks_I) (k := 4) (pc' := 4) rfl (wd35 hw) freeBlocks_d1 rfl ?_
  refine GQ.aloadN (pc' := 5) freeBlocks_d4 rfl rfl ?_
  refine GQ.callP (Mc := allocatedCount_I) (args0 := []) (S := [I (s.1 4)]) (r := 0) (pc' := 8) (allocatedCount_K hw (by decide)) rfl freeBlocks_d5 rfl (wd145 hw) (wd146 hw) (wd147 hw) (wd1 hw) XA.recv rfl (allocatedCount_M_ok hw K s) rfl (fun z5 s5 => ?_)
  show GQ (XA l Z n0 CN FF cv h0) freeBlocks_I _ _ 8 [some (Rf 0)] [I z5, I (s.1 4)] s5 _
  refine GQ.isub (pc' := 9) freeBlocks_d8 rfl ?_
  exact GQ.iret rfl freeBlocks_d9
def isAllocated_I : Mi := (⟨"ShrinkRelocator", "isAllocated", "(I)Z"⟩, prog_1_method_33_code, 2, (some .boolean), 0, 0)
theorem isAllocated_d0 : decode isAllocated_I.2.1 0 = .ok (.iload_n 1, 1) := by decide +kernel
theorem isAllocated_d1 : decode isAllocated_I.2.1 1 = .ok (.ifCond .lt 9, 3) := by decide +kernel
theorem isAllocated_d4 : decode isAllocated_I.2.1 4 = .ok (.iload_n 1, 1) := by decide +kernel
theorem isAllocated_d5 : decode isAllocated_I.2.1 5 = .ok (.bipush 32, 2) := by decide +kernel
theorem isAllocated_d7 : decode isAllocated_I.2.1 7 = .ok (.if_icmp .lt 5, 3) := by decide +kernel
theorem isAllocated_d10 : decode isAllocated_I.2.1 10 = .ok (.iconst 0, 1) := by decide +kernel
theorem isAllocated_d11 : decode isAllocated_I.2.1 11 = .ok (.ireturn, 1) := by decide +kernel
theorem isAllocated_d12 : decode isAllocated_I.2.1 12 = .ok (.aload_n 0, 1) := by decide +kernel
theorem isAllocated_d13 : decode isAllocated_I.2.1 13 = .ok (.getfield 62, 3) := by decide +kernel
theorem isAllocated_d16 : decode isAllocated_I.2.1 16 = .ok (.iconst 1, 1) := by decide +kernel
theorem isAllocated_d17 : decode isAllocated_I.2.1 17 = .ok (.iload_n 1, 1) := by decide +kernel
theorem isAllocated_d18 : decode isAllocated_I.2.1 18 = .ok (.ishl, 1) := by decide +kernel
theorem isAllocated_d19 : decode isAllocated_I.2.1 19 = .ok (.iand, 1) := by decide +kernel
theorem isAllocated_d20 : decode isAllocated_I.2.1 20 = .ok (.ifCond .eq 7, 3) := by decide +kernel
theorem isAllocated_d23 : decode isAllocated_I.2.1 23 = .ok (.iconst 1, 1) := by decide +kernel
theorem isAllocated_d24 : decode isAllocated_I.2.1 24 = .ok (.goto 4, 3) := by decide +kernel
theorem isAllocated_d27 : decode isAllocated_I.2.1 27 = .ok (.iconst 0, 1) := by decide +kernel
theorem isAllocated_d28 : decode isAllocated_I.2.1 28 = .ok (.ireturn, 1) := by decide +kernel
theorem isAllocated_p : parseMethodDescriptor isAllocated_I.1.desc = some ⟨[.int], (some .boolean)⟩ := by decide +kernel
theorem isAllocated_K {a0 : Array Value} {Z : State} {M : Mi} (hw : Words a0 Z) (h : isAllocated_I.2.2.2.2.1 + 1 ≤ M.2.2.2.2.1) : Callee a0 Z M isAllocated_I 1 := ⟨pnC, (wd233 hw), (wd2 hw), h, by decide, fun sig q => by cases isAllocated_p.symm.trans q; rfl⟩
set_option maxRecDepth 65536 in
set_option maxHeartbeats 4000000 in
theorem isAllocated_M_ok {l : Launch} {Z : State} {a0 : Array Value} {n0 : Nat} {cv : Nat → Nat} {h0 : Heap} (hw : Words a0 Z) (K : KA a0 Z n0 CN nI FF cv) (x1 : Int) (s : Obj) : GQ (XA l Z n0 CN FF cv h0) isAllocated_I 0 0 0 (entry [Rf 0, I x1] isAllocated_I.2.2.1) [] s (isAllocated_M x1 s) := by
  show GQ _ _ _ _ 0 [some (Rf 0), some (I x1)] [] _ _
  unfold isAllocated_M
  refine GQ.iloadN (pc' := 1) isAllocated_d0 rfl rfl ?_
  refine GQ.ifT (pcT := 10) (pcF := 4) h_lt isAllocated_d1 rfl rfl rfl ?_ ?_
  · refine GQ.iconst (pc' := 11) isAllocated_d10 rfl rfl ?_
    exact GQ.zret rfl isAllocated_d11
  refine GQ.iloadN (pc' := 5) isAllocated_d4 rfl rfl ?_
  refine GQ.bipush (pc' := 7) isAllocated_d5 rfl rfl ?_
  refine GQ.icmpT (pcT := 12) (pcF := 10) h_lt isAllocated_d7 rfl rfl rfl ?_ ?_
  · refine GQ.aloadN (pc' := 13) isAllocated_d12 rfl rfl ?_
    refine GQ.getI (M := isAllocated_I) (k := 9) (pc' := 16) rfl (wd45 hw) isAllocated_d13 rfl ?_
    refine GQ.iconst (pc' := 17) isAllocated_d16 rfl rfl ?_
    refine GQ.iloadN (pc' := 18) isAllocated_d17 rfl rfl ?_
    refine GQ.ishl (pc' := 19) isAllocated_d18 rfl ?_
    refine GQ.iand (pc' := 20) isAllocated_d19 rfl ?_
    refine GQ.ifT (pcT := 27) (pcF := 23) h_eq isAllocated_d20 rfl rfl rfl ?_ ?_
    · refine GQ.iconst (pc' := 28) isAllocated_d27 rfl rfl ?_
      exact GQ.zret rfl isAllocated_d28
    refine GQ.iconst (pc' := 24) isAllocated_d23 rfl rfl ?_
    refine GQ.goto (pc' := 28) isAllocated_d24 rfl rfl ?_
    exact GQ.zret rfl isAllocated_d28
  refine GQ.iconst (pc' := 11) isAllocated_d10 rfl rfl ?_
  exact GQ.zret rfl isAllocated_d11
def blockOwner_I : Mi := (⟨"ShrinkRelocator", "blockOwner", "(I)I"⟩, prog_1_method_14_code, 2, (some .int), 1, 13)
theorem blockOwner_d0 : decode blockOwner_I.2.1 0 = .ok (.iload_n 1, 1) := by decide +kernel
theorem blockOwner_d1 : decode blockOwner_I.2.1 1 = .ok (.ifCond .lt 17, 3) := by decide +kernel
theorem blockOwner_d4 : decode blockOwner_I.2.1 4 = .ok (.iload_n 1, 1) := by decide +kernel
theorem blockOwner_d5 : decode blockOwner_I.2.1 5 = .ok (.aload_n 0, 1) := by decide +kernel
theorem blockOwner_d6 : decode blockOwner_I.2.1 6 = .ok (.getfield 46, 3) := by decide +kernel
theorem blockOwner_d9 : decode blockOwner_I.2.1 9 = .ok (.if_icmp .ge 9, 3) := by decide +kernel
theorem blockOwner_d12 : decode blockOwner_I.2.1 12 = .ok (.iload_n 1, 1) := by decide +kernel
theorem blockOwner_d13 : decode blockOwner_I.2.1 13 = .ok (.bipush 32, 2) := by decide +kernel
theorem blockOwner_d15 : decode blockOwner_I.2.1 15 = .ok (.if_icmp .lt 6, 3) := by decide +kernel
theorem blockOwner_d18 : decode blockOwner_I.2.1 18 = .ok (.bipush (-2), 2) := by decide +kernel
theorem blockOwner_d20 : decode blockOwner_I.2.1 20 = .ok (.ireturn, 1) := by decide +kernel
theorem blockOwner_d21 : decode blockOwner_I.2.1 21 = .ok (.aload_n 0, 1) := by decide +kernel
theorem blockOwner_d22 : decode blockOwner_I.2.1 22 = .ok (.iload_n 1, 1) := by decide +kernel
theorem blockOwner_d23 : decode blockOwner_I.2.1 23 = .ok (.invokevirtual 116, 3) := by decide +kernel
theorem blockOwner_d26 : decode blockOwner_I.2.1 26 = .ok (.ifCond .ne 6, 3) := by decide +kernel
theorem blockOwner_d29 : decode blockOwner_I.2.1 29 = .ok (.bipush (-7), 2) := by decide +kernel
theorem blockOwner_d31 : decode blockOwner_I.2.1 31 = .ok (.ireturn, 1) := by decide +kernel
theorem blockOwner_d32 : decode blockOwner_I.2.1 32 = .ok (.aload_n 0, 1) := by decide +kernel
theorem blockOwner_d33 : decode blockOwner_I.2.1 33 = .ok (.getfield 33, 3) := by decide +kernel
theorem blockOwner_d36 : decode blockOwner_I.2.1 36 = .ok (.iload_n 1, 1) := by decide +kernel
theorem blockOwner_d37 : decode blockOwner_I.2.1 37 = .ok (.iaload, 1) := by decide +kernel
theorem blockOwner_d38 : decode blockOwner_I.2.1 38 = .ok (.ireturn, 1) := by decide +kernel
theorem blockOwner_p : parseMethodDescriptor blockOwner_I.1.desc = some ⟨[.int], (some .int)⟩ := by decide +kernel
theorem blockOwner_K {a0 : Array Value} {Z : State} {M : Mi} (hw : Words a0 Z) (h : blockOwner_I.2.2.2.2.1 + 1 ≤ M.2.2.2.2.1) : Callee a0 Z M blockOwner_I 1 := ⟨pnC, (wd229 hw), (wd2 hw), h, by decide, fun sig q => by cases blockOwner_p.symm.trans q; rfl⟩
set_option maxRecDepth 65536 in
set_option maxHeartbeats 4000000 in
theorem blockOwner_M_ok {l : Launch} {Z : State} {a0 : Array Value} {n0 : Nat} {cv : Nat → Nat} {h0 : Heap} (hw : Words a0 Z) (K : KA a0 Z n0 CN nI FF cv) (x1 : Int) (s : Obj) : GQ (XA l Z n0 CN FF cv h0) blockOwner_I 0 0 0 (entry [Rf 0, I x1] blockOwner_I.2.2.1) [] s (blockOwner_M x1 s) := by
  show GQ _ _ _ _ 0 [some (Rf 0), some (I x1)] [] _ _
  unfold blockOwner_M
  refine GQ.iloadN (pc' := 1) blockOwner_d0 rfl rfl ?_
  refine GQ.ifT (pcT := 18) (pcF := 4) h_lt blockOwner_d1 rfl rfl rfl ?_ ?_
  · refine GQ.bipush (pc' := 20) blockOwner_d18 rfl rfl ?_
    exact GQ.iret rfl blockOwner_d20
  refine GQ.iloadN (pc' := 5) blockOwner_d4 rfl rfl ?_
  refine GQ.aloadN (pc' := 6) blockOwner_d5 rfl rfl ?_
  refine GQ.getI (M := blockOwner_I) (k := 4) (pc' := 9) rfl (wd35 hw) blockOwner_d6 rfl ?_
  refine GQ.icmpF (pcT := 18) (pcF := 12) h_ge blockOwner_d9 rfl rfl rfl ?_ ?_
  · refine GQ.bipush (pc' := 20) blockOwner_d18 rfl rfl ?_
    exact GQ.iret rfl blockOwner_d20
  refine GQ.iloadN (pc' := 13) blockOwner_d12 rfl rfl ?_
  refine GQ.bipush (pc' := 15) blockOwner_d13 rfl rfl ?_
  refine GQ.icmpT (pcT := 21) (pcF := 18) h_lt blockOwner_d15 rfl rfl rfl ?_ ?_
  · refine GQ.aloadN (pc' := 22) blockOwner_d21 rfl rfl ?_
    refine GQ.iloadN (pc' := 23) blockOwner_d22 rfl rfl ?_
    refine GQ.callP (Mc := isAllocated_I) (args0 := [I x1]) (S := []) (r := 0) (pc' := 26) (isAllocated_K hw (by decide)) rfl blockOwner_d23 rfl (wd230 hw) (wd231 hw) (wd232 hw) (wd1 hw) XA.recv rfl (isAllocated_M_ok hw K x1 s) rfl (fun z23 s23 => ?_)
    show GQ (XA l Z n0 CN FF cv h0) blockOwner_I _ _ 26 [some (Rf 0), some (I x1)] [I z23] s23 _
    refine GQ.ifF (pcT := 32) (pcF := 29) h_ne blockOwner_d26 rfl rfl rfl ?_ ?_
    · refine GQ.aloadN (pc' := 33) blockOwner_d32 rfl rfl ?_
      refine GQ.getA (M := blockOwner_I) (k := 13) (pc' := 36) rfl (by decide) (wd25 hw) blockOwner_d33 rfl ?_
      refine GQ.iloadN (pc' := 37) blockOwner_d36 rfl rfl ?_
      refine GQ.rd (k := 13) (ins := .iaload) (pc' := 38) rfl (by decide) (Or.inl ⟨rfl, rfl⟩) blockOwner_d37 rfl (fun z37 => ?_)
      exact GQ.iret rfl blockOwner_d38
    refine GQ.bipush (pc' := 31) blockOwner_d29 rfl rfl ?_
    exact GQ.iret rfl blockOwner_d31
  refine GQ.bipush (pc' := 20) blockOwner_d18 rfl rfl ?_
  exact GQ.iret rfl blockOwner_d20
def law_I : Mi := (x, code, maxLocals, ret, 5, 73)
set_option maxRecDepth 65536 in
set_option maxHeartbeats 4000000 in
theorem law_M_ok {l : Launch} {Z : State} {a0 : Array Value} {n0 sa : Nat} (hw : Words a0 Z) (K : KB a0 Z CN nI FF (posF PP) nA) (x0 : Int) (x1 : Int) (x2 : Int) (x3 : Int) (x4 : Int) (w : MB) : GQ (XB l Z n0 CN FF (posF PP) nA sa none) law_I 7 608 0 (entry [I x0, I x1, I x2, I x3, I x4] law_I.2.2.1) [] w (law_M x0 x1 x2 x3 x4 w) := by
  show GQ _ _ _ _ 0 [some (I x0), some (I x1), some (I x2), some (I x3), some (I x4), none] [] _ _
  unfold law_M
  refine GQ.new (M := law_I) (n := 0) (pc' := 3) (kc := 6) (ks := 592) K (wd0 hw) (wd2 hw) at_0 rfl (fun w0 => ?_)
  refine GQ.dupR (pc' := 4) at_3 rfl ?_
  refine GQ.bipush (pc' := 6) at_4 rfl rfl ?_
  refine GQ.iconst (pc' := 7) at_6 rfl rfl ?_
  refine GQ.iconst (pc' := 8) at_7 rfl rfl ?_
  refine GQ.init (n := 0) (oc := ctor_M 8 1 2) (Mc := ctor_I) (args0 := [I 8, I 1, I 2]) (S := [Rf (0 + 1)]) (pc' := 11) (kc := 0) (ks := 0) (sl := 592) K (ctor_K hw (by decide)) rfl rfl rfl at_8 rfl (wd3 hw) (wd4 hw) (nrS nrI (nrS nrI (nrS nrI nr0))) rfl (fun a h0 ha hh => ctor_M_ok hw K ha hh 8 1 2) rfl (fun w8 => ?_)
  refine GQ.astore (L' := [some (I x0), some (I x1), some (I x2), some (I x3), some (I x4), some (Rf (0 + 1))]) (pc' := 13) at_11 rfl rfl rfl ?_
  refine GQ.aload (pc' := 15) at_13 rfl rfl ?_
  refine GQ.vir (j := 0) (m := fun q => create_M q) (Mc := create_I) (args0 := []) (S := []) (pc' := 18) K (create_K hw (by decide)) rfl rfl at_15 rfl (wd59 hw) (wd61 hw) (wd60 hw) (wd62 hw) (nr0) rfl (fun cv h0 q KA0 => create_M_ok hw KA0 q) rfl (fun z15 w15 => ?_)
  show GQ (XB l Z n0 CN FF (posF PP) nA sa none) law_I _ _ 18 [some (I x0), some (I x1), some (I x2), some (I x3), some (I x4), some (Rf (0 + 1))] [I z15] w15 _
  refine GQ.ifT (pcT := 23) (pcF := 21) h_eq at_18 rfl rfl rfl ?_ ?_
  · refine GQ.aload (pc' := 25) at_23 rfl rfl ?_
    refine GQ.iconst (pc' := 26) at_25 rfl rfl ?_
    refine GQ.iconst (pc' := 27) at_26 rfl rfl ?_
    refine GQ.iloadN (pc' := 28) at_27 rfl rfl ?_
    refine GQ.vir (j := 0) (m := fun q => write_M 0 0 x0 q) (Mc := write_I) (args0 := [I 0, I 0, I x0]) (S := []) (pc' := 31) K (write_K hw (by decide)) rfl rfl at_28 rfl (wd64 hw) (wd66 hw) (wd65 hw) (wd67 hw) (nrS nrI (nrS nrI (nrS nrI nr0))) rfl (fun cv h0 q KA0 => write_M_ok hw KA0 0 0 x0 q) rfl (fun z28 w28 => ?_)
    show GQ (XB l Z n0 CN FF (posF PP) nA sa none) law_I _ _ 31 [some (I x0), some (I x1), some (I x2), some (I x3), some (I x4), some (Rf (0 + 1))] [I z28] w28 _
    refine GQ.ifT (pcT := 36) (pcF := 34) h_eq at_31 rfl rfl rfl ?_ ?_
    · refine GQ.aload (pc' := 38) at_36 rfl rfl ?_
      refine GQ.iconst (pc' := 39) at_38 rfl rfl ?_
      refine GQ.iconst (pc' := 40) at_39 rfl rfl ?_
      refine GQ.iloadN (pc' := 41) at_40 rfl rfl ?_
      refine GQ.vir (j := 0) (m := fun q => write_M 0 1 x0 q) (Mc := write_I) (args0 := [I 0, I 1, I x0]) (S := []) (pc' := 44) K (write_K hw (by decide)) rfl rfl at_41 rfl (wd64 hw) (wd66 hw) (wd65 hw) (wd67 hw) (nrS nrI (nrS nrI (nrS nrI nr0))) rfl (fun cv h0 q KA0 => write_M_ok hw KA0 0 1 x0 q) rfl (fun z41 w41 => ?_)
      show GQ (XB l Z n0 CN FF (posF PP) nA sa none) law_I _ _ 44 [some (I x0), some (I x1), some (I x2), some (I x3), some (I x4), some (Rf (0 + 1))] [I z41] w41 _
      refine GQ.ifT (pcT := 49) (pcF := 47) h_eq at_44 rfl rfl rfl ?_ ?_
      · refine GQ.aload (pc' := 51) at_49 rfl rfl ?_
        refine GQ.iconst (pc' := 52) at_51 rfl rfl ?_
        refine GQ.iconst (pc' := 53) at_52 rfl rfl ?_
        refine GQ.iloadN (pc' := 54) at_53 rfl rfl ?_
        refine GQ.vir (j := 0) (m := fun q => write_M 0 2 x0 q) (Mc := write_I) (args0 := [I 0, I 2, I x0]) (S := []) (pc' := 57) K (write_K hw (by decide)) rfl rfl at_54 rfl (wd64 hw) (wd66 hw) (wd65 hw) (wd67 hw) (nrS nrI (nrS nrI (nrS nrI nr0))) rfl (fun cv h0 q KA0 => write_M_ok hw KA0 0 2 x0 q) rfl (fun z54 w54 => ?_)
        show GQ (XB l Z n0 CN FF (posF PP) nA sa none) law_I _ _ 57 [some (I x0), some (I x1), some (I x2), some (I x3), some (I x4), some (Rf (0 + 1))] [I z54] w54 _
        refine GQ.ifT (pcT := 62) (pcF := 60) h_eq at_57 rfl rfl rfl ?_ ?_
        · refine GQ.aload (pc' := 64) at_62 rfl rfl ?_
          refine GQ.vir (j := 0) (m := fun q => create_M q) (Mc := create_I) (args0 := []) (S := []) (pc' := 67) K (create_K hw (by decide)) rfl rfl at_64 rfl (wd59 hw) (wd61 hw) (wd60 hw) (wd62 hw) (nr0) rfl (fun cv h0 q KA0 => create_M_ok hw KA0 q) rfl (fun z64 w64 => ?_)
          show GQ (XB l Z n0 CN FF (posF PP) nA sa none) law_I _ _ 67 [some (I x0), some (I x1), some (I x2), some (I x3), some (I x4), some (Rf (0 + 1))] [I z64] w64 _
          refine GQ.iconst (pc' := 68) at_67 rfl rfl ?_
          refine GQ.icmpT (pcT := 73) (pcF := 71) h_eq at_68 rfl rfl rfl ?_ ?_
          · refine GQ.aload (pc' := 75) at_73 rfl rfl ?_
            refine GQ.iconst (pc' := 76) at_75 rfl rfl ?_
            refine GQ.iconst (pc' := 77) at_76 rfl rfl ?_
            refine GQ.iloadN (pc' := 78) at_77 rfl rfl ?_
            refine GQ.vir (j := 0) (m := fun q => write_M 1 0 x1 q) (Mc := write_I) (args0 := [I 1, I 0, I x1]) (S := []) (pc' := 81) K (write_K hw (by decide)) rfl rfl at_78 rfl (wd64 hw) (wd66 hw) (wd65 hw) (wd67 hw) (nrS nrI (nrS nrI (nrS nrI nr0))) rfl (fun cv h0 q KA0 => write_M_ok hw KA0 1 0 x1 q) rfl (fun z78 w78 => ?_)
            show GQ (XB l Z n0 CN FF (posF PP) nA sa none) law_I _ _ 81 [some (I x0), some (I x1), some (I x2), some (I x3), some (I x4), some (Rf (0 + 1))] [I z78] w78 _
            refine GQ.ifT (pcT := 86) (pcF := 84) h_eq at_81 rfl rfl rfl ?_ ?_
            · refine GQ.aload (pc' := 88) at_86 rfl rfl ?_
              refine GQ.iconst (pc' := 89) at_88 rfl rfl ?_
              refine GQ.iconst (pc' := 90) at_89 rfl rfl ?_
              refine GQ.iloadN (pc' := 91) at_90 rfl rfl ?_
              refine GQ.vir (j := 0) (m := fun q => write_M 1 1 x2 q) (Mc := write_I) (args0 := [I 1, I 1, I x2]) (S := []) (pc' := 94) K (write_K hw (by decide)) rfl rfl at_91 rfl (wd64 hw) (wd66 hw) (wd65 hw) (wd67 hw) (nrS nrI (nrS nrI (nrS nrI nr0))) rfl (fun cv h0 q KA0 => write_M_ok hw KA0 1 1 x2 q) rfl (fun z91 w91 => ?_)
              show GQ (XB l Z n0 CN FF (posF PP) nA sa none) law_I _ _ 94 [some (I x0), some (I x1), some (I x2), some (I x3), some (I x4), some (Rf (0 + 1))] [I z91] w91 _
              refine GQ.ifT (pcT := 99) (pcF := 97) h_eq at_94 rfl rfl rfl ?_ ?_
              · refine GQ.aload (pc' := 101) at_99 rfl rfl ?_
                refine GQ.iconst (pc' := 102) at_101 rfl rfl ?_
                refine GQ.iconst (pc' := 103) at_102 rfl rfl ?_
                refine GQ.vir (j := 0) (m := fun q => physOf_M 1 1 q) (Mc := physOf_I) (args0 := [I 1, I 1]) (S := []) (pc' := 106) K (physOf_K hw (by decide)) rfl rfl at_103 rfl (wd122 hw) (wd124 hw) (wd123 hw) (wd125 hw) (nrS nrI (nrS nrI nr0)) rfl (fun cv h0 q KA0 => physOf_M_ok hw KA0 1 1 q) rfl (fun z103 w103 => ?_)
                show GQ (XB l Z n0 CN FF (posF PP) nA sa none) law_I _ _ 106 [some (I x0), some (I x1), some (I x2), some (I x3), some (I x4), some (Rf (0 + 1))] [I z103] w103 _
                refine GQ.iconst (pc' := 107) at_106 rfl rfl ?_
                refine GQ.icmpT (pcT := 112) (pcF := 110) h_eq at_107 rfl rfl rfl ?_ ?_
                · refine GQ.aload (pc' := 114) at_112 rfl rfl ?_
                  refine GQ.iconst (pc' := 115) at_114 rfl rfl ?_
                  refine GQ.vir (j := 0) (m := fun q => delete_M 0 q) (Mc := delete_I) (args0 := [I 0]) (S := []) (pc' := 118) K (delete_K hw (by decide)) rfl rfl at_115 rfl (wd127 hw) (wd129 hw) (wd128 hw) (wd130 hw) (nrS nrI nr0) rfl (fun cv h0 q KA0 => delete_M_ok hw KA0 0 q) rfl (fun z115 w115 => ?_)
                  show GQ (XB l Z n0 CN FF (posF PP) nA sa none) law_I _ _ 118 [some (I x0), some (I x1), some (I x2), some (I x3), some (I x4), some (Rf (0 + 1))] [I z115] w115 _
                  refine GQ.ifT (pcT := 123) (pcF := 121) h_eq at_118 rfl rfl rfl ?_ ?_
                  · refine GQ.aload (pc' := 125) at_123 rfl rfl ?_
                    refine GQ.iconst (pc' := 126) at_125 rfl rfl ?_
                    refine GQ.vir (j := 0) (m := fun q => shrink_M 2 q) (Mc := shrink_I) (args0 := [I 2]) (S := []) (pc' := 129) K (shrink_K hw (by decide)) rfl rfl at_126 rfl (wd140 hw) (wd142 hw) (wd141 hw) (wd143 hw) (nrS nrI nr0) rfl (fun cv h0 q KA0 => shrink_M_ok hw KA0 2 q) rfl (fun z126 w126 => ?_)
                    show GQ (XB l Z n0 CN FF (posF PP) nA sa none) law_I _ _ 129 [some (I x0), some (I x1), some (I x2), some (I x3), some (I x4), some (Rf (0 + 1))] [I z126] w126 _
                    refine GQ.ifT (pcT := 134) (pcF := 132) h_eq at_129 rfl rfl rfl ?_ ?_
                    · refine GQ.aload (pc' := 136) at_134 rfl rfl ?_
                      refine GQ.vir (j := 0) (m := fun q => pendingMoves_M q) (Mc := pendingMoves_I) (args0 := []) (S := []) (pc' := 139) K (pendingMoves_K hw (by decide)) rfl rfl at_136 rfl (wd157 hw) (wd159 hw) (wd158 hw) (wd160 hw) (nr0) rfl (fun cv h0 q KA0 => pendingMoves_M_ok hw KA0 q) rfl (fun z136 w136 => ?_)
                      show GQ (XB l Z n0 CN FF (posF PP) nA sa none) law_I _ _ 139 [some (I x0), some (I x1), some (I x2), some (I x3), some (I x4), some (Rf (0 + 1))] [I z136] w136 _
                      refine GQ.iconst (pc' := 140) at_139 rfl rfl ?_
                      refine GQ.icmpT (pcT := 145) (pcF := 143) h_eq at_140 rfl rfl rfl ?_ ?_
                      · refine GQ.aload (pc' := 147) at_145 rfl rfl ?_
                        refine GQ.iconst (pc' := 148) at_147 rfl rfl ?_
                        refine GQ.vir (j := 0) (m := fun q => step_M 1 q) (Mc := step_I) (args0 := [I 1]) (S := []) (pc' := 151) K (step_K hw (by decide)) rfl rfl at_148 rfl (wd170 hw) (wd172 hw) (wd171 hw) (wd173 hw) (nrS nrI nr0) rfl (fun cv h0 q KA0 => step_M_ok hw KA0 1 q) rfl (fun z148 w148 => ?_)
                        show GQ (XB l Z n0 CN FF (posF PP) nA sa none) law_I _ _ 151 [some (I x0), some (I x1), some (I x2), some (I x3), some (I x4), some (Rf (0 + 1))] [I z148] w148 _
                        refine GQ.iconst (pc' := 152) at_151 rfl rfl ?_
                        refine GQ.icmpT (pcT := 157) (pcF := 155) h_eq at_152 rfl rfl rfl ?_ ?_
                        · refine GQ.aload (pc' := 159) at_157 rfl rfl ?_
                          refine GQ.vir (j := 0) (m := fun q => pendingMoves_M q) (Mc := pendingMoves_I) (args0 := []) (S := []) (pc' := 162) K (pendingMoves_K hw (by decide)) rfl rfl at_159 rfl (wd157 hw) (wd159 hw) (wd158 hw) (wd160 hw) (nr0) rfl (fun cv h0 q KA0 => pendingMoves_M_ok hw KA0 q) rfl (fun z159 w159 => ?_)
                          show GQ (XB l Z n0 CN FF (posF PP) nA sa none) law_I _ _ 162 [some (I x0), some (I x1), some (I x2), some (I x3), some (I x4), some (Rf (0 + 1))] [I z159] w159 _
                          refine GQ.iconst (pc' := 163) at_162 rfl rfl ?_
                          refine GQ.icmpT (pcT := 168) (pcF := 166) h_eq at_163 rfl rfl rfl ?_ ?_
                          · refine GQ.aload (pc' := 170) at_168 rfl rfl ?_
                            refine GQ.iconst (pc' := 171) at_170 rfl rfl ?_
                            refine GQ.iconst (pc' := 172) at_171 rfl rfl ?_
                            refine GQ.vir (j := 0) (m := fun q => physOf_M 1 0 q) (Mc := physOf_I) (args0 := [I 1, I 0]) (S := []) (pc' := 175) K (physOf_K hw (by decide)) rfl rfl at_172 rfl (wd122 hw) (wd124 hw) (wd123 hw) (wd125 hw) (nrS nrI (nrS nrI nr0)) rfl (fun cv h0 q KA0 => physOf_M_ok hw KA0 1 0 q) rfl (fun z172 w172 => ?_)
                            show GQ (XB l Z n0 CN FF (posF PP) nA sa none) law_I _ _ 175 [some (I x0), some (I x1), some (I x2), some (I x3), some (I x4), some (Rf (0 + 1))] [I z172] w172 _
                            refine GQ.ifT (pcT := 180) (pcF := 178) h_eq at_175 rfl rfl rfl ?_ ?_
                            · refine GQ.aload (pc' := 182) at_180 rfl rfl ?_
                              refine GQ.iconst (pc' := 183) at_182 rfl rfl ?_
                              refine GQ.iconst (pc' := 184) at_183 rfl rfl ?_
                              refine GQ.iloadN (pc' := 185) at_184 rfl rfl ?_
                              refine GQ.vir (j := 0) (m := fun q => write_M 1 1 x3 q) (Mc := write_I) (args0 := [I 1, I 1, I x3]) (S := []) (pc' := 188) K (write_K hw (by decide)) rfl rfl at_185 rfl (wd64 hw) (wd66 hw) (wd65 hw) (wd67 hw) (nrS nrI (nrS nrI (nrS nrI nr0))) rfl (fun cv h0 q KA0 => write_M_ok hw KA0 1 1 x3 q) rfl (fun z185 w185 => ?_)
                              show GQ (XB l Z n0 CN FF (posF PP) nA sa none) law_I _ _ 188 [some (I x0), some (I x1), some (I x2), some (I x3), some (I x4), some (Rf (0 + 1))] [I z185] w185 _
                              refine GQ.ifT (pcT := 193) (pcF := 191) h_eq at_188 rfl rfl rfl ?_ ?_
                              · refine GQ.aload (pc' := 195) at_193 rfl rfl ?_
                                refine GQ.iconst (pc' := 196) at_195 rfl rfl ?_
                                refine GQ.iconst (pc' := 197) at_196 rfl rfl ?_
                                refine GQ.iload (pc' := 199) at_197 rfl rfl ?_
                                refine GQ.vir (j := 0) (m := fun q => write_M 1 2 x4 q) (Mc := write_I) (args0 := [I 1, I 2, I x4]) (S := []) (pc' := 202) K (write_K hw (by decide)) rfl rfl at_199 rfl (wd64 hw) (wd66 hw) (wd65 hw) (wd67 hw) (nrS nrI (nrS nrI (nrS nrI nr0))) rfl (fun cv h0 q KA0 => write_M_ok hw KA0 1 2 x4 q) rfl (fun z199 w199 => ?_)
                                show GQ (XB l Z n0 CN FF (posF PP) nA sa none) law_I _ _ 202 [some (I x0), some (I x1), some (I x2), some (I x3), some (I x4), some (Rf (0 + 1))] [I z199] w199 _
                                refine GQ.bipush (pc' := 204) at_202 rfl rfl ?_
                                refine GQ.icmpT (pcT := 209) (pcF := 207) h_eq at_204 rfl rfl rfl ?_ ?_
                                · refine GQ.aload (pc' := 211) at_209 rfl rfl ?_
                                  refine GQ.bipush (pc' := 213) at_211 rfl rfl ?_
                                  refine GQ.vir (j := 0) (m := fun q => step_M 8 q) (Mc := step_I) (args0 := [I 8]) (S := []) (pc' := 216) K (step_K hw (by decide)) rfl rfl at_213 rfl (wd170 hw) (wd172 hw) (wd171 hw) (wd173 hw) (nrS nrI nr0) rfl (fun cv h0 q KA0 => step_M_ok hw KA0 8 q) rfl (fun z213 w213 => ?_)
                                  show GQ (XB l Z n0 CN FF (posF PP) nA sa none) law_I _ _ 216 [some (I x0), some (I x1), some (I x2), some (I x3), some (I x4), some (Rf (0 + 1))] [I z213] w213 _
                                  refine GQ.iconst (pc' := 217) at_216 rfl rfl ?_
                                  refine GQ.icmpT (pcT := 222) (pcF := 220) h_eq at_217 rfl rfl rfl ?_ ?_
                                  · refine GQ.aload (pc' := 224) at_222 rfl rfl ?_
                                    refine GQ.vir (j := 0) (m := fun q => volumeBlocks_M q) (Mc := volumeBlocks_I) (args0 := []) (S := []) (pc' := 227) K (volumeBlocks_K hw (by decide)) rfl rfl at_224 rfl (wd187 hw) (wd189 hw) (wd188 hw) (wd190 hw) (nr0) rfl (fun cv h0 q KA0 => volumeBlocks_M_ok hw KA0 q) rfl (fun z224 w224 => ?_)
                                    show GQ (XB l Z n0 CN FF (posF PP) nA sa none) law_I _ _ 227 [some (I x0), some (I x1), some (I x2), some (I x3), some (I x4), some (Rf (0 + 1))] [I z224] w224 _
                                    refine GQ.iconst (pc' := 228) at_227 rfl rfl ?_
                                    refine GQ.icmpT (pcT := 233) (pcF := 231) h_eq at_228 rfl rfl rfl ?_ ?_
                                    · refine GQ.aload (pc' := 235) at_233 rfl rfl ?_
                                      refine GQ.vir (j := 0) (m := fun q => target_M q) (Mc := target_I) (args0 := []) (S := []) (pc' := 238) K (target_K hw (by decide)) rfl rfl at_235 rfl (wd192 hw) (wd194 hw) (wd193 hw) (wd195 hw) (nr0) rfl (fun cv h0 q KA0 => target_M_ok hw KA0 q) rfl (fun z235 w235 => ?_)
                                      show GQ (XB l Z n0 CN FF (posF PP) nA sa none) law_I _ _ 238 [some (I x0), some (I x1), some (I x2), some (I x3), some (I x4), some (Rf (0 + 1))] [I z235] w235 _
                                      refine GQ.bipush (pc' := 240) at_238 rfl rfl ?_
                                      refine GQ.icmpT (pcT := 245) (pcF := 243) h_eq at_240 rfl rfl rfl ?_ ?_
                                      · refine GQ.aload (pc' := 247) at_245 rfl rfl ?_
                                        refine GQ.iconst (pc' := 248) at_247 rfl rfl ?_
                                        refine GQ.iconst (pc' := 249) at_248 rfl rfl ?_
                                        refine GQ.vir (j := 0) (m := fun q => physOf_M 1 1 q) (Mc := physOf_I) (args0 := [I 1, I 1]) (S := []) (pc' := 252) K (physOf_K hw (by decide)) rfl rfl at_249 rfl (wd122 hw) (wd124 hw) (wd123 hw) (wd125 hw) (nrS nrI (nrS nrI nr0)) rfl (fun cv h0 q KA0 => physOf_M_ok hw KA0 1 1 q) rfl (fun z249 w249 => ?_)
                                        show GQ (XB l Z n0 CN FF (posF PP) nA sa none) law_I _ _ 252 [some (I x0), some (I x1), some (I x2), some (I x3), some (I x4), some (Rf (0 + 1))] [I z249] w249 _
                                        refine GQ.iconst (pc' := 253) at_252 rfl rfl ?_
                                        refine GQ.icmpT (pcT := 258) (pcF := 256) h_eq at_253 rfl rfl rfl ?_ ?_
                                        · refine GQ.aload (pc' := 260) at_258 rfl rfl ?_
                                          refine GQ.iconst (pc' := 261) at_260 rfl rfl ?_
                                          refine GQ.iconst (pc' := 262) at_261 rfl rfl ?_
                                          refine GQ.vir (j := 0) (m := fun q => read_M 1 0 q) (Mc := read_I) (args0 := [I 1, I 0]) (S := []) (pc' := 265) K (read_K hw (by decide)) rfl rfl at_262 rfl (wd197 hw) (wd199 hw) (wd198 hw) (wd200 hw) (nrS nrI (nrS nrI nr0)) rfl (fun cv h0 q KA0 => read_M_ok hw KA0 1 0 q) rfl (fun z262 w262 => ?_)
                                          show GQ (XB l Z n0 CN FF (posF PP) nA sa none) law_I _ _ 265 [some (I x0), some (I x1), some (I x2), some (I x3), some (I x4), some (Rf (0 + 1))] [I z262] w262 _
                                          refine GQ.iloadN (pc' := 266) at_265 rfl rfl ?_
                                          refine GQ.sipush (pc' := 269) at_266 rfl rfl ?_
                                          refine GQ.iand (pc' := 270) at_269 rfl ?_
                                          refine GQ.icmpT (pcT := 275) (pcF := 273) h_eq at_270 rfl rfl rfl ?_ ?_
                                          · refine GQ.aload (pc' := 277) at_275 rfl rfl ?_
                                            refine GQ.iconst (pc' := 278) at_277 rfl rfl ?_
                                            refine GQ.iconst (pc' := 279) at_278 rfl rfl ?_
                                            refine GQ.vir (j := 0) (m := fun q => read_M 1 1 q) (Mc := read_I) (args0 := [I 1, I 1]) (S := []) (pc' := 282) K (read_K hw (by decide)) rfl rfl at_279 rfl (wd197 hw) (wd199 hw) (wd198 hw) (wd200 hw) (nrS nrI (nrS nrI nr0)) rfl (fun cv h0 q KA0 => read_M_ok hw KA0 1 1 q) rfl (fun z279 w279 => ?_)
                                            show GQ (XB l Z n0 CN FF (posF PP) nA sa none) law_I _ _ 282 [some (I x0), some (I x1), some (I x2), some (I x3), some (I x4), some (Rf (0 + 1))] [I z279] w279 _
                                            refine GQ.iloadN (pc' := 283) at_282 rfl rfl ?_
                                            refine GQ.sipush (pc' := 286) at_283 rfl rfl ?_
                                            refine GQ.iand (pc' := 287) at_286 rfl ?_
                                            refine GQ.icmpT (pcT := 292) (pcF := 290) h_eq at_287 rfl rfl rfl ?_ ?_
                                            · refine GQ.aload (pc' := 294) at_292 rfl rfl ?_
                                              refine GQ.iconst (pc' := 295) at_294 rfl rfl ?_
                                              refine GQ.vir (j := 0) (m := fun q => size_M 1 q) (Mc := size_I) (args0 := [I 1]) (S := []) (pc' := 298) K (size_K hw (by decide)) rfl rfl at_295 rfl (wd206 hw) (wd208 hw) (wd207 hw) (wd209 hw) (nrS nrI nr0) rfl (fun cv h0 q KA0 => size_M_ok hw KA0 1 q) rfl (fun z295 w295 => ?_)
                                              show GQ (XB l Z n0 CN FF (posF PP) nA sa none) law_I _ _ 298 [some (I x0), some (I x1), some (I x2), some (I x3), some (I x4), some (Rf (0 + 1))] [I z295] w295 _
                                              refine GQ.iconst (pc' := 299) at_298 rfl rfl ?_
                                              refine GQ.icmpT (pcT := 304) (pcF := 302) h_eq at_299 rfl rfl rfl ?_ ?_
                                              · refine GQ.aload (pc' := 306) at_304 rfl rfl ?_
                                                refine GQ.iconst (pc' := 307) at_306 rfl rfl ?_
                                                refine GQ.vir (j := 0) (m := fun q => extentCount_M 1 q) (Mc := extentCount_I) (args0 := [I 1]) (S := []) (pc' := 310) K (extentCount_K hw (by decide)) rfl rfl at_307 rfl (wd211 hw) (wd213 hw) (wd212 hw) (wd214 hw) (nrS nrI nr0) rfl (fun cv h0 q KA0 => extentCount_M_ok hw KA0 1 q) rfl (fun z307 w307 => ?_)
                                                show GQ (XB l Z n0 CN FF (posF PP) nA sa none) law_I _ _ 310 [some (I x0), some (I x1), some (I x2), some (I x3), some (I x4), some (Rf (0 + 1))] [I z307] w307 _
                                                refine GQ.iconst (pc' := 311) at_310 rfl rfl ?_
                                                refine GQ.icmpT (pcT := 316) (pcF := 314) h_eq at_311 rfl rfl rfl ?_ ?_
                                                · refine GQ.aload (pc' := 318) at_316 rfl rfl ?_
                                                  refine GQ.vir (j := 0) (m := fun q => freeBlocks_M q) (Mc := freeBlocks_I) (args0 := []) (S := []) (pc' := 321) K (freeBlocks_K hw (by decide)) rfl rfl at_318 rfl (wd220 hw) (wd222 hw) (wd221 hw) (wd223 hw) (nr0) rfl (fun cv h0 q KA0 => freeBlocks_M_ok hw KA0 q) rfl (fun z318 w318 => ?_)
                                                  show GQ (XB l Z n0 CN FF (posF PP) nA sa none) law_I _ _ 321 [some (I x0), some (I x1), some (I x2), some (I x3), some (I x4), some (Rf (0 + 1))] [I z318] w318 _
                                                  refine GQ.ifT (pcT := 326) (pcF := 324) h_eq at_321 rfl rfl rfl ?_ ?_
                                                  · refine GQ.aload (pc' := 328) at_326 rfl rfl ?_
                                                    refine GQ.iconst (pc' := 329) at_328 rfl rfl ?_
                                                    refine GQ.vir (j := 0) (m := fun q => blockOwner_M 1 q) (Mc := blockOwner_I) (args0 := [I 1]) (S := []) (pc' := 332) K (blockOwner_K hw (by decide)) rfl rfl at_329 rfl (wd225 hw) (wd227 hw) (wd226 hw) (wd228 hw) (nrS nrI nr0) rfl (fun cv h0 q KA0 => blockOwner_M_ok hw KA0 1 q) rfl (fun z329 w329 => ?_)
                                                    show GQ (XB l Z n0 CN FF (posF PP) nA sa none) law_I _ _ 332 [some (I x0), some (I x1), some (I x2), some (I x3), some (I x4), some (Rf (0 + 1))] [I z329] w329 _
                                                    refine GQ.iconst (pc' := 333) at_332 rfl rfl ?_
                                                    refine GQ.icmpF (pcT := 340) (pcF := 336) h_ne at_333 rfl rfl rfl ?_ ?_
                                                    · refine GQ.iconst (pc' := 341) at_340 rfl rfl ?_
                                                      exact GQ.zret rfl at_341
                                                    refine GQ.iconst (pc' := 337) at_336 rfl rfl ?_
                                                    refine GQ.goto (pc' := 341) at_337 rfl rfl ?_
                                                    exact GQ.zret rfl at_341
                                                  refine GQ.iconst (pc' := 325) at_324 rfl rfl ?_
                                                  exact GQ.zret rfl at_325
                                                refine GQ.iconst (pc' := 315) at_314 rfl rfl ?_
                                                exact GQ.zret rfl at_315
                                              refine GQ.iconst (pc' := 303) at_302 rfl rfl ?_
                                              exact GQ.zret rfl at_303
                                            refine GQ.iconst (pc' := 291) at_290 rfl rfl ?_
                                            exact GQ.zret rfl at_291
                                          refine GQ.iconst (pc' := 274) at_273 rfl rfl ?_
                                          exact GQ.zret rfl at_274
                                        refine GQ.iconst (pc' := 257) at_256 rfl rfl ?_
                                        exact GQ.zret rfl at_257
                                      refine GQ.iconst (pc' := 244) at_243 rfl rfl ?_
                                      exact GQ.zret rfl at_244
                                    refine GQ.iconst (pc' := 232) at_231 rfl rfl ?_
                                    exact GQ.zret rfl at_232
                                  refine GQ.iconst (pc' := 221) at_220 rfl rfl ?_
                                  exact GQ.zret rfl at_221
                                refine GQ.iconst (pc' := 208) at_207 rfl rfl ?_
                                exact GQ.zret rfl at_208
                              refine GQ.iconst (pc' := 192) at_191 rfl rfl ?_
                              exact GQ.zret rfl at_192
                            refine GQ.iconst (pc' := 179) at_178 rfl rfl ?_
                            exact GQ.zret rfl at_179
                          refine GQ.iconst (pc' := 167) at_166 rfl rfl ?_
                          exact GQ.zret rfl at_167
                        refine GQ.iconst (pc' := 156) at_155 rfl rfl ?_
                        exact GQ.zret rfl at_156
                      refine GQ.iconst (pc' := 144) at_143 rfl rfl ?_
                      exact GQ.zret rfl at_144
                    refine GQ.iconst (pc' := 133) at_132 rfl rfl ?_
                    exact GQ.zret rfl at_133
                  refine GQ.iconst (pc' := 122) at_121 rfl rfl ?_
                  exact GQ.zret rfl at_122
                refine GQ.iconst (pc' := 111) at_110 rfl rfl ?_
                exact GQ.zret rfl at_111
              refine GQ.iconst (pc' := 98) at_97 rfl rfl ?_
              exact GQ.zret rfl at_98
            refine GQ.iconst (pc' := 85) at_84 rfl rfl ?_
            exact GQ.zret rfl at_85
          refine GQ.iconst (pc' := 72) at_71 rfl rfl ?_
          exact GQ.zret rfl at_72
        refine GQ.iconst (pc' := 61) at_60 rfl rfl ?_
        exact GQ.zret rfl at_61
      refine GQ.iconst (pc' := 48) at_47 rfl rfl ?_
      exact GQ.zret rfl at_48
    refine GQ.iconst (pc' := 35) at_34 rfl rfl ?_
    exact GQ.zret rfl at_35
  refine GQ.iconst (pc' := 22) at_21 rfl rfl ?_
  exact GQ.zret rfl at_22
set_option maxRecDepth 65536 in
set_option maxHeartbeats 4000000 in
theorem comes_1 {Post : Tables → Env → Array Value → State → Outcome → State → Prop} (hpost : ∀ tb e args s v u, (limb_1_1.after args s (.returned v) u = true ∧ limb_1_2.after args s (.returned v) u = true ∧ True) → FrameEnd s (.returned v) u (Jvm.fieldLocs frame_1_writes args s ++ Jvm.arrayLocs frame_1_arrays args s ++ Jvm.staticLocs frame_1_statics s) 24 1280 → Post tb e args s (.returned v) u) :
    ArmFor flags0 classFile x code maxLocals ret World_1 tables_1 room_1 Calls_1 rest_1 Pre_1 Post := by
  intro l hfl _ _ p e ha hc hk s m args below hf hA hF happ hP
  obtain ⟨hcalls, hrest, hpre⟩ := hP
  obtain ⟨-, -, -, hnamed, -, -, -, hat⟩ := (Spec.applies_iff hf).mp happ
  obtain ⟨hg, hn⟩ := and_e (Cond.before_iff.mp (show (Jvm.Cond.and given_1 narrow_1).before args s = true from hpre))
  obtain ⟨h1, g0⟩ := and_e hg
  have hw : Words args s := fun d hd => atoms_spec (ws := Jvm.Cond.code x code maxLocals ret :: tables_1) hat d (List.mem_cons_of_mem _ hd)
  obtain ⟨v0, v1, v2, v3, v4, rfl⟩ : ∃ v0 v1 v2 v3 v4 : Value, args = #[v0, v1, v2, v3, v4] := by
    have hs : args.size = 5 := by simpa [Cond.value, given_1] using h1
    obtain ⟨L⟩ := args
    match L, hs with
    | [v0, v1, v2, v3, v4], _ => exact ⟨v0, v1, v2, v3, v4, rfl⟩
  obtain ⟨q0, g1⟩ := and_e g0
  obtain ⟨q1, g2⟩ := and_e g1
  obtain ⟨q2, g3⟩ := and_e g2
  obtain ⟨q3, g4⟩ := and_e g3
  have q4 := g4
  obtain ⟨i0, e0⟩ := is_v q0
  obtain rfl : v0 = .int i0 := Option.some.inj e0
  obtain ⟨i1, e1⟩ := is_v q1
  obtain rfl : v1 = .int i1 := Option.some.inj e1
  obtain ⟨i2, e2⟩ := is_v q2
  obtain rfl : v2 = .int i2 := Option.some.inj e2
  obtain ⟨i3, e3⟩ := is_v q3
  obtain rfl : v3 = .int i3 := Option.some.inj e3
  obtain ⟨i4, e4⟩ := is_v q4
  obtain rfl : v4 = .int i4 := Option.some.inj e4
  obtain ⟨w', hlaw⟩ := law_true i0.toInt i1.toInt i2.toInt i3.toInt i4.toInt (r32 i0) (r32 i1) (r32 i2) (r32 i3) (r32 i4)
  have H := law_M_ok (l := l) (n0 := s.heap.size) (sa := 0) hw (kb_1 hw) i0.toInt i1.toInt i2.toInt i3.toInt i4.toInt ([], false)
  have hr0 : RepB s s.heap.size CN FF (posF PP) nA 0 none ([], false) s.heap := ⟨by show s.heap.size = s.heap.size + 0 * (nA + 1) + 0; omega, (fun j σ hj => by simp at hj), (fun h => by cases h), (fun n f h => by cases h)⟩
  have hgd : ∀ w ∈ ([I i0.toInt, I i1.toInt, I i2.toInt, I i3.toInt, I i4.toInt] : List AV), good w := by
    intro w hw'
    simp only [List.mem_cons, List.not_mem_nil, or_false] at hw'
    rcases hw' with rfl | rfl | rfl | rfl | rfl <;> exact r32 _
  obtain ⟨n, o, h1, h2, h3, _, L, rfl, ⟨rfl, hrep, N, _⟩, hq⟩ := met_of H hlaw pnL hgd (Nat.le_of_ble_eq_true rfl) (h := s.heap) hr0 tables_1 room_1 (by decide) (by decide) (by decide) (by decide) p e ha hc hk s m _ below hf ((Spec.applies_iff_loose hf).mp happ).1 ⟨by simp only [List.map_cons, List.map_nil, cval, o32_t], State.Warmed39.refl s, rfl⟩ trivial
  exact ⟨n, _, h1, h2, h3, hpost _ _ _ _ _ _ ⟨Cond.after_iff.mpr rfl, Cond.after_iff.mpr (eq_i res_at (Term.int_eval (1)) rfl), trivial⟩ ⟨hq.1, hq.2.1, (hq.2.2.sift fun y hy => Or.inr (N y hy)).mono (by decide) (by decide)⟩⟩
theorem main_1_1 : Claimed_1_1 := comes_1 fun _ _ _ _ _ _ h hF => ⟨h.1, hF⟩
theorem main_1_2 : Claimed_1_2 := comes_1 fun _ _ _ _ _ _ h hF => ⟨h.2.1, hF⟩
end Jvm.Pilot.@@N@@
namespace Jvm.Pilot.@@N@@
open Jvm Jvm.ClassFile Sem Op Lib Jvm.Free Jvm.Stand Jvm.Pilot.@@N@@.Jvm.D
/-! MADE BY PROGRAM (witnessworld.py) out of the Statement's table words and the real class files: 11 classes; the members and pool entries that the words name. The judged class is class 1, her method 1. -/
namespace start1
open Jvm.ClassFile
def u (s : String) : CpInfo := .utf8 (stringToUtf16 s)
/-- a pool by its gaps: so many unusable entries, then the entry; so many at the end -/
def gap : Nat → List CpInfo → List CpInfo
  | 0, r => r
  | n + 1, r => .unusable :: gap n r
def poolList (es : List (Nat × CpInfo)) (last : Nat) : List CpInfo := es.foldr (fun e r => gap e.1 (e.2 :: r)) (gap last [])
def pool (es : List (Nat × CpInfo)) (last : Nat) : Array CpInfo := ⟨poolList es last⟩
def fileOf (pool : Array CpInfo) (this : Nat) (attrs : Array Attribute := #[]) (ms : Array MethodInfo := #[]) (fl : Nat := 33) (sup : Nat := 0) (ifs : Array Nat := #[]) (fds : Array FieldInfo := #[]) : ClassFile where
  minorVersion := 0
  majorVersion := 65
  constantPool := pool
  accessFlags := fl
  thisClass := this
  superClass := sup
  interfaces := ifs
  fields := fds
  methods := ms
  attributes := attrs
def plain (name : String) (sup : Option ClassId) : Class where
  name := name
  kind := .ordinary
  loader := none
  accessFlags := 33
  super := sup
  interfaces := #[]
  cf := none
  fields := #[]
  methods := #[]
  instanceTypes := #[]
  staticTypes := #[]
  resolved := #[]
  callSites := []
  init := .initialized
  statics := none
  mirror := none

def pool0 : Array CpInfo := pool [(5, u "<init>"), (0, u "()V"), (1, .class_ 10), (1, u "java/lang/Object")] 113

def k0c0 : Code := { maxStack := 0, maxLocals := 1, code := object_method_1_code, exceptionTable := #[], attributes := #[] }
def k0m0 : Method := { name := "<init>", desc := "()V", sig := { parameters := [], returnType := none }, accessFlags := 1, code := some k0c0 }
/-- java/lang/Object -/
def k0 : Class := { plain "java/lang/Object" none with
  accessFlags := 33
  interfaces := #[]
  cf := some (fileOf pool0 8 #[] #[{ accessFlags := 1, nameIndex := 5, descriptorIndex := 6, attributes := #[] }] 33 0 #[] #[])
  fields := #[]
  methods := #[k0m0]
  instanceTypes := #[]
  staticTypes := #[]
  resolved := Array.replicate 124 none
  statics := none }

def pool1 : Array CpInfo := pool [(2, .class_ 4), (1, u "java/lang/Object"), (0, u "<init>"), (0, u "()V"), (0, .class_ 8), (0, u "ShrinkRelocator"), (0, .methodref 7 10), (0, .nameAndType 5 11), (0, u "(III)V"), (0, .methodref 7 13), (0, .nameAndType 14 15), (0, u "create"), (0, u "()I"), (0, .methodref 7 17), (0, .nameAndType 18 19), (0, u "write"), (0, u "(III)I"), (0, .methodref 7 21), (0, .nameAndType 22 23), (0, u "physOf"), (0, u "(II)I"), (0, .methodref 7 25), (0, .nameAndType 26 27), (0, u "delete"), (0, u "(I)I"), (0, .methodref 7 29), (0, .nameAndType 30 27), (0, u "shrink"), (0, .methodref 7 32), (0, .nameAndType 33 15), (0, u "pendingMoves"), (0, .methodref 7 35), (0, .nameAndType 36 27), (0, u "step"), (0, .methodref 7 38), (0, .nameAndType 39 15), (0, u "volumeBlocks"), (0, .methodref 7 41), (0, .nameAndType 42 15), (0, u "target"), (0, .methodref 7 44), (0, .nameAndType 45 23), (0, u "read"), (0, .methodref 7 47), (0, .nameAndType 48 27), (0, u "size"), (0, .methodref 7 50), (0, .nameAndType 51 27), (0, u "extentCount"), (0, .methodref 7 53), (0, .nameAndType 54 15), (0, u "freeBlocks"), (0, .methodref 7 56), (0, .nameAndType 57 27), (0, u "blockOwner"), (0, .class_ 59), (0, u "ShrinkRelocatorL3"), (2, u "law"), (0, u "(IIIII)Z")] 3

def k1m0 : Method := { name := "<init>", desc := "()V", sig := { parameters := [], returnType := none }, accessFlags := 1, code := none }
def k1c1 : Code := { maxStack := 5, maxLocals := 6, code := code, exceptionTable := #[], attributes := #[] }
def k1m1 : Method := { name := "law", desc := "(IIIII)Z", sig := { parameters := [.int, .int, .int, .int, .int], returnType := some .boolean }, accessFlags := 9, code := some k1c1 }
/-- ShrinkRelocatorL3 -/
def k1 : Class := { plain "ShrinkRelocatorL3" (some 0) with
  accessFlags := 49
  interfaces := #[]
  cf := some (fileOf pool1 58 #[] #[{ accessFlags := 1, nameIndex := 5, descriptorIndex := 6, attributes := #[] }, { accessFlags := 9, nameIndex := 62, descriptorIndex := 63, attributes := #[] }] 49 2 #[] #[])
  fields := #[]
  methods := #[k1m0, k1m1]
  instanceTypes := #[]
  staticTypes := #[]
  resolved := Array.replicate 67 none
  statics := none }

def pool2 : Array CpInfo := pool [(1, .methodref 2 3), (0, .class_ 4), (0, .nameAndType 5 6), (0, u "java/lang/Object"), (0, u "<init>"), (0, u "()V"), (0, .fieldref 8 9), (0, .class_ 10), (0, .nameAndType 11 12), (0, u "ShrinkRelocator"), (0, u "blockCap"), (0, u "I"), (0, .fieldref 8 14), (0, .nameAndType 15 12), (0, u "byteCap"), (0, .fieldref 8 17), (0, .nameAndType 18 12), (0, u "fileCap"), (0, .fieldref 8 20), (0, .nameAndType 21 12), (0, u "none"), (0, .fieldref 8 23), (0, .nameAndType 24 25), (0, u "slotUsed"), (0, u "[Z"), (0, .fieldref 8 27), (0, .nameAndType 28 29), (0, u "fileSize"), (0, u "[I"), (0, .fieldref 8 31), (0, .nameAndType 32 29), (0, u "fileMap"), (0, .fieldref 8 34), (0, .nameAndType 35 29), (0, u "ownerFile"), (0, .fieldref 8 37), (0, .nameAndType 38 29), (0, u "ownerIndex"), (0, .fieldref 8 40), (0, .nameAndType 41 29), (0, u "bytes"), (0, .methodref 8 43), (0, .nameAndType 44 45), (0, u "clamp"), (0, u "(III)I"), (0, .fieldref 8 47), (0, .nameAndType 48 12), (0, u "volBlocks"), (0, .fieldref 8 50), (0, .nameAndType 51 12), (0, u "blockSize"), (0, .fieldref 8 53), (0, .nameAndType 54 12), (0, u "fileSlots"), (0, .fieldref 8 56), (0, .nameAndType 57 58), (0, u "shrinking"), (0, u "Z"), (0, .fieldref 8 60), (0, .nameAndType 61 12), (0, u "shrinkTarget"), (0, .fieldref 8 63), (0, .nameAndType 64 12), (0, u "allocMask"), (0, .methodref 8 66), (0, .nameAndType 67 6), (0, u "resetBlockTables"), (0, .methodref 8 69), (0, .nameAndType 70 6), (0, u "resetFileTables"), (0, .methodref 8 72), (0, .nameAndType 73 74), (0, u "clearMapRow"), (0, u "(I)V"), (0, .methodref 8 76), (0, .nameAndType 77 78), (0, u "isValidFile"), (0, u "(I)Z"), (0, .methodref 8 80), (0, .nameAndType 81 82), (0, u "releaseFrom"), (0, u "(II)V"), (0, .methodref 8 84), (0, .nameAndType 85 86), (0, u "needsNewBlock"), (0, u "(II)Z"), (0, .methodref 8 88), (0, .nameAndType 89 90), (0, u "growByOneBlock"), (0, u "(I)I"), (0, .methodref 8 92), (0, .nameAndType 93 94), (0, u "storeAt"), (0, u "(III)V"), (0, .methodref 8 96), (0, .nameAndType 97 90), (0, u "blocksFor"), (0, .methodref 8 99), (0, .nameAndType 100 101), (0, u "loadAt"), (0, u "(II)I"), (0, .methodref 8 103), (0, .nameAndType 104 105), (0, u "allocatedCount"), (0, u "()I"), (0, .methodref 8 107), (0, .nameAndType 108 105), (0, u "pendingCount"), (0, .methodref 8 110), (0, .nameAndType 111 6), (0, u "completeShrink"), (0, .methodref 8 113), (0, .nameAndType 114 115), (0, u "moveOne"), (0, u "()Z"), (0, .methodref 8 117), (0, .nameAndType 118 78), (0, u "isAllocated"), (0, .methodref 8 120), (0, .nameAndType 121 101), (0, u "mapSlot"), (0, .methodref 8 123), (0, .nameAndType 124 90), (0, u "countExtents"), (0, .methodref 8 126), (0, .nameAndType 127 105), (0, u "allocateBlock"), (0, .methodref 8 129), (0, .nameAndType 130 94), (0, u "attach"), (0, .methodref 8 132), (0, .nameAndType 133 74), (0, u "markFree"), (0, .methodref 8 135), (0, .nameAndType 136 94), (0, u "markAllocated"), (0, .methodref 8 138), (0, .nameAndType 139 101), (0, u "byteSlot"), (0, .methodref 8 141), (0, .nameAndType 142 90), (0, u "bitCount"), (0, .integer 65535), (0, .integer 1431655765), (0, .integer 858993459), (0, .integer 252645135), (0, .integer 16843009), (0, .methodref 8 149), (0, .nameAndType 150 90), (0, u "lowMask"), (0, .methodref 8 152), (0, .nameAndType 153 90), (0, u "freeBelow"), (0, .methodref 8 155), (0, .nameAndType 156 90), (0, u "lowestBit"), (0, .methodref 8 158), (0, .nameAndType 159 90), (0, u "usedFrom"), (0, .methodref 8 161), (0, .nameAndType 162 82), (0, u "copyBlock"), (0, u "OK"), (2, u "ERR_NOFILE"), (1, u "ERR_BADARG"), (1, u "ERR_NOSPACE"), (1, u "ERR_BUSY"), (1, u "ERR_IDLE"), (1, u "ERR_FULL"), (1, u "FREE"), (1, u "MAX_STEP"), (5, u "create"), (1, u "delete"), (0, u "write"), (1, u "read"), (0, u "size"), (0, u "shrink"), (0, u "step"), (1, u "volumeBlocks"), (0, u "target"), (0, u "freeBlocks"), (0, u "blockOwner"), (0, u "physOf"), (0, u "extentCount"), (0, u "pendingMoves")] 2

def k2c0 : Code := { maxStack := 5, maxLocals := 4, code := prog_1_method_1_code, exceptionTable := #[], attributes := #[] }
def k2m0 : Method := { name := "<init>", desc := "(III)V", sig := { parameters := [.int, .int, .int], returnType := none }, accessFlags := 1, code := some k2c0 }
def k2c1 : Code := { maxStack := 3, maxLocals := 2, code := prog_1_method_2_code, exceptionTable := #[], attributes := #[] }
def k2m1 : Method := { name := "create", desc := "()I", sig := { parameters := [], returnType := some .int }, accessFlags := 1, code := some k2c1 }
def k2c2 : Code := { maxStack := 3, maxLocals := 2, code := prog_1_method_3_code, exceptionTable := #[], attributes := #[] }
def k2m2 : Method := { name := "delete", desc := "(I)I", sig := { parameters := [.int], returnType := some .int }, accessFlags := 1, code := some k2c2 }
def k2c3 : Code := { maxStack := 4, maxLocals := 6, code := prog_1_method_4_code, exceptionTable := #[], attributes := #[] }
def k2m3 : Method := { name := "write", desc := "(III)I", sig := { parameters := [.int, .int, .int], returnType := some .int }, accessFlags := 1, code := some k2c3 }
def k2c4 : Code := { maxStack := 3, maxLocals := 3, code := prog_1_method_6_code, exceptionTable := #[], attributes := #[] }
def k2m4 : Method := { name := "read", desc := "(II)I", sig := { parameters := [.int, .int], returnType := some .int }, accessFlags := 1, code := some k2c4 }
def k2c5 : Code := { maxStack := 2, maxLocals := 2, code := prog_1_method_7_code, exceptionTable := #[], attributes := #[] }
def k2m5 : Method := { name := "size", desc := "(I)I", sig := { parameters := [.int], returnType := some .int }, accessFlags := 1, code := some k2c5 }
def k2c6 : Code := { maxStack := 2, maxLocals := 2, code := prog_1_method_8_code, exceptionTable := #[], attributes := #[] }
def k2m6 : Method := { name := "shrink", desc := "(I)I", sig := { parameters := [.int], returnType := some .int }, accessFlags := 1, code := some k2c6 }
def k2c7 : Code := { maxStack := 2, maxLocals := 5, code := prog_1_method_9_code, exceptionTable := #[], attributes := #[] }
def k2m7 : Method := { name := "step", desc := "(I)I", sig := { parameters := [.int], returnType := some .int }, accessFlags := 1, code := some k2c7 }
def k2c8 : Code := { maxStack := 1, maxLocals := 1, code := prog_1_method_11_code, exceptionTable := #[], attributes := #[] }
def k2m8 : Method := { name := "volumeBlocks", desc := "()I", sig := { parameters := [], returnType := some .int }, accessFlags := 1, code := some k2c8 }
def k2c9 : Code := { maxStack := 1, maxLocals := 1, code := prog_1_method_12_code, exceptionTable := #[], attributes := #[] }
def k2m9 : Method := { name := "target", desc := "()I", sig := { parameters := [], returnType := some .int }, accessFlags := 1, code := some k2c9 }
def k2c10 : Code := { maxStack := 2, maxLocals := 1, code := prog_1_method_13_code, exceptionTable := #[], attributes := #[] }
def k2m10 : Method := { name := "freeBlocks", desc := "()I", sig := { parameters := [], returnType := some .int }, accessFlags := 1, code := some k2c10 }
def k2c11 : Code := { maxStack := 2, maxLocals := 2, code := prog_1_method_14_code, exceptionTable := #[], attributes := #[] }
def k2m11 : Method := { name := "blockOwner", desc := "(I)I", sig := { parameters := [.int], returnType := some .int }, accessFlags := 1, code := some k2c11 }
def k2c12 : Code := { maxStack := 4, maxLocals := 4, code := prog_1_method_15_code, exceptionTable := #[], attributes := #[] }
def k2m12 : Method := { name := "physOf", desc := "(II)I", sig := { parameters := [.int, .int], returnType := some .int }, accessFlags := 1, code := some k2c12 }
def k2c13 : Code := { maxStack := 2, maxLocals := 2, code := prog_1_method_16_code, exceptionTable := #[], attributes := #[] }
def k2m13 : Method := { name := "extentCount", desc := "(I)I", sig := { parameters := [.int], returnType := some .int }, accessFlags := 1, code := some k2c13 }
def k2c14 : Code := { maxStack := 1, maxLocals := 1, code := prog_1_method_17_code, exceptionTable := #[], attributes := #[] }
def k2m14 : Method := { name := "pendingMoves", desc := "()I", sig := { parameters := [], returnType := some .int }, accessFlags := 1, code := some k2c14 }
def k2c15 : Code := { maxStack := 2, maxLocals := 4, code := prog_1_method_18_code, exceptionTable := #[], attributes := #[] }
def k2m15 : Method := { name := "clamp", desc := "(III)I", sig := { parameters := [.int, .int, .int], returnType := some .int }, accessFlags := 2, code := some k2c15 }
def k2c16 : Code := { maxStack := 3, maxLocals := 2, code := prog_1_method_19_code, exceptionTable := #[], attributes := #[] }
def k2m16 : Method := { name := "resetBlockTables", desc := "()V", sig := { parameters := [], returnType := none }, accessFlags := 2, code := some k2c16 }
def k2c17 : Code := { maxStack := 3, maxLocals := 2, code := prog_1_method_20_code, exceptionTable := #[], attributes := #[] }
def k2m17 : Method := { name := "resetFileTables", desc := "()V", sig := { parameters := [], returnType := none }, accessFlags := 2, code := some k2c17 }
def k2c18 : Code := { maxStack := 3, maxLocals := 3, code := prog_1_method_21_code, exceptionTable := #[], attributes := #[] }
def k2m18 : Method := { name := "clearMapRow", desc := "(I)V", sig := { parameters := [.int], returnType := none }, accessFlags := 2, code := some k2c18 }
def k2c19 : Code := { maxStack := 2, maxLocals := 2, code := prog_1_method_22_code, exceptionTable := #[], attributes := #[] }
def k2m19 : Method := { name := "isValidFile", desc := "(I)Z", sig := { parameters := [.int], returnType := some .boolean }, accessFlags := 2, code := some k2c19 }
def k2c20 : Code := { maxStack := 2, maxLocals := 2, code := prog_1_method_23_code, exceptionTable := #[], attributes := #[] }
def k2m20 : Method := { name := "blocksFor", desc := "(I)I", sig := { parameters := [.int], returnType := some .int }, accessFlags := 2, code := some k2c20 }
def k2c21 : Code := { maxStack := 2, maxLocals := 3, code := prog_1_method_24_code, exceptionTable := #[], attributes := #[] }
def k2m21 : Method := { name := "mapSlot", desc := "(II)I", sig := { parameters := [.int, .int], returnType := some .int }, accessFlags := 2, code := some k2c21 }
def k2c22 : Code := { maxStack := 2, maxLocals := 3, code := prog_1_method_25_code, exceptionTable := #[], attributes := #[] }
def k2m22 : Method := { name := "needsNewBlock", desc := "(II)Z", sig := { parameters := [.int, .int], returnType := some .boolean }, accessFlags := 2, code := some k2c22 }
def k2c23 : Code := { maxStack := 4, maxLocals := 6, code := prog_1_method_26_code, exceptionTable := #[], attributes := #[] }
def k2m23 : Method := { name := "countExtents", desc := "(I)I", sig := { parameters := [.int], returnType := some .int }, accessFlags := 2, code := some k2c23 }
def k2c24 : Code := { maxStack := 4, maxLocals := 4, code := prog_1_method_27_code, exceptionTable := #[], attributes := #[] }
def k2m24 : Method := { name := "growByOneBlock", desc := "(I)I", sig := { parameters := [.int], returnType := some .int }, accessFlags := 2, code := some k2c24 }
def k2c25 : Code := { maxStack := 3, maxLocals := 8, code := prog_1_method_28_code, exceptionTable := #[], attributes := #[] }
def k2m25 : Method := { name := "releaseFrom", desc := "(II)V", sig := { parameters := [.int, .int], returnType := none }, accessFlags := 2, code := some k2c25 }
def k2c26 : Code := { maxStack := 4, maxLocals := 4, code := prog_1_method_29_code, exceptionTable := #[], attributes := #[] }
def k2m26 : Method := { name := "attach", desc := "(III)V", sig := { parameters := [.int, .int, .int], returnType := none }, accessFlags := 2, code := some k2c26 }
def k2c27 : Code := { maxStack := 4, maxLocals := 7, code := prog_1_method_30_code, exceptionTable := #[], attributes := #[] }
def k2m27 : Method := { name := "storeAt", desc := "(III)V", sig := { parameters := [.int, .int, .int], returnType := none }, accessFlags := 2, code := some k2c27 }
def k2c28 : Code := { maxStack := 4, maxLocals := 6, code := prog_1_method_31_code, exceptionTable := #[], attributes := #[] }
def k2m28 : Method := { name := "loadAt", desc := "(II)I", sig := { parameters := [.int, .int], returnType := some .int }, accessFlags := 2, code := some k2c28 }
def k2c29 : Code := { maxStack := 2, maxLocals := 3, code := prog_1_method_32_code, exceptionTable := #[], attributes := #[] }
def k2m29 : Method := { name := "byteSlot", desc := "(II)I", sig := { parameters := [.int, .int], returnType := some .int }, accessFlags := 2, code := some k2c29 }
def k2c30 : Code := { maxStack := 3, maxLocals := 2, code := prog_1_method_33_code, exceptionTable := #[], attributes := #[] }
def k2m30 : Method := { name := "isAllocated", desc := "(I)Z", sig := { parameters := [.int], returnType := some .boolean }, accessFlags := 2, code := some k2c30 }
def k2c31 : Code := { maxStack := 4, maxLocals := 4, code := prog_1_method_34_code, exceptionTable := #[], attributes := #[] }
def k2m31 : Method := { name := "markAllocated", desc := "(III)V", sig := { parameters := [.int, .int, .int], returnType := none }, accessFlags := 2, code := some k2c31 }
def k2c32 : Code := { maxStack := 4, maxLocals := 2, code := prog_1_method_35_code, exceptionTable := #[], attributes := #[] }
def k2m32 : Method := { name := "markFree", desc := "(I)V", sig := { parameters := [.int], returnType := none }, accessFlags := 2, code := some k2c32 }
def k2c33 : Code := { maxStack := 2, maxLocals := 1, code := prog_1_method_36_code, exceptionTable := #[], attributes := #[] }
def k2m33 : Method := { name := "allocatedCount", desc := "()I", sig := { parameters := [], returnType := some .int }, accessFlags := 2, code := some k2c33 }
def k2c34 : Code := { maxStack := 2, maxLocals := 2, code := prog_1_method_37_code, exceptionTable := #[], attributes := #[] }
def k2m34 : Method := { name := "lowMask", desc := "(I)I", sig := { parameters := [.int], returnType := some .int }, accessFlags := 2, code := some k2c34 }
def k2c35 : Code := { maxStack := 2, maxLocals := 4, code := prog_1_method_38_code, exceptionTable := #[], attributes := #[] }
def k2m35 : Method := { name := "lowestBit", desc := "(I)I", sig := { parameters := [.int], returnType := some .int }, accessFlags := 2, code := some k2c35 }
def k2c36 : Code := { maxStack := 3, maxLocals := 3, code := prog_1_method_39_code, exceptionTable := #[], attributes := #[] }
def k2m36 : Method := { name := "bitCount", desc := "(I)I", sig := { parameters := [.int], returnType := some .int }, accessFlags := 2, code := some k2c36 }
def k2c37 : Code := { maxStack := 3, maxLocals := 2, code := prog_1_method_40_code, exceptionTable := #[], attributes := #[] }
def k2m37 : Method := { name := "freeBelow", desc := "(I)I", sig := { parameters := [.int], returnType := some .int }, accessFlags := 2, code := some k2c37 }
def k2c38 : Code := { maxStack := 3, maxLocals := 2, code := prog_1_method_41_code, exceptionTable := #[], attributes := #[] }
def k2m38 : Method := { name := "usedFrom", desc := "(I)I", sig := { parameters := [.int], returnType := some .int }, accessFlags := 2, code := some k2c38 }
def k2c39 : Code := { maxStack := 2, maxLocals := 3, code := prog_1_method_42_code, exceptionTable := #[], attributes := #[] }
def k2m39 : Method := { name := "allocateBlock", desc := "()I", sig := { parameters := [], returnType := some .int }, accessFlags := 2, code := some k2c39 }
def k2c40 : Code := { maxStack := 2, maxLocals := 2, code := prog_1_method_43_code, exceptionTable := #[], attributes := #[] }
def k2m40 : Method := { name := "pendingCount", desc := "()I", sig := { parameters := [], returnType := some .int }, accessFlags := 2, code := some k2c40 }
def k2c41 : Code := { maxStack := 2, maxLocals := 1, code := prog_1_method_44_code, exceptionTable := #[], attributes := #[] }
def k2m41 : Method := { name := "completeShrink", desc := "()V", sig := { parameters := [], returnType := none }, accessFlags := 2, code := some k2c41 }
def k2c42 : Code := { maxStack := 4, maxLocals := 7, code := prog_1_method_45_code, exceptionTable := #[], attributes := #[] }
def k2m42 : Method := { name := "moveOne", desc := "()Z", sig := { parameters := [], returnType := some .boolean }, accessFlags := 2, code := some k2c42 }
def k2c43 : Code := { maxStack := 5, maxLocals := 6, code := prog_1_method_46_code, exceptionTable := #[], attributes := #[] }
def k2m43 : Method := { name := "copyBlock", desc := "(II)V", sig := { parameters := [.int, .int], returnType := none }, accessFlags := 2, code := some k2c43 }
/-- ShrinkRelocator -/
def k2 : Class := { plain "ShrinkRelocator" (some 0) with
  accessFlags := 49
  interfaces := #[]
  cf := some (fileOf pool2 8 #[] #[{ accessFlags := 1, nameIndex := 5, descriptorIndex := 94, attributes := #[] }, { accessFlags := 1, nameIndex := 186, descriptorIndex := 105, attributes := #[] }, { accessFlags := 1, nameIndex := 188, descriptorIndex := 90, attributes := #[] }, { accessFlags := 1, nameIndex := 189, descriptorIndex := 45, attributes := #[] }, { accessFlags := 1, nameIndex := 191, descriptorIndex := 101, attributes := #[] }, { accessFlags := 1, nameIndex := 192, descriptorIndex := 90, attributes := #[] }, { accessFlags := 1, nameIndex := 193, descriptorIndex := 90, attributes := #[] }, { accessFlags := 1, nameIndex := 194, descriptorIndex := 90, attributes := #[] }, { accessFlags := 1, nameIndex := 196, descriptorIndex := 105, attributes := #[] }, { accessFlags := 1, nameIndex := 197, descriptorIndex := 105, attributes := #[] }, { accessFlags := 1, nameIndex := 198, descriptorIndex := 105, attributes := #[] }, { accessFlags := 1, nameIndex := 199, descriptorIndex := 90, attributes := #[] }, { accessFlags := 1, nameIndex := 200, descriptorIndex := 101, attributes := #[] }, { accessFlags := 1, nameIndex := 201, descriptorIndex := 90, attributes := #[] }, { accessFlags := 1, nameIndex := 202, descriptorIndex := 105, attributes := #[] }, { accessFlags := 2, nameIndex := 44, descriptorIndex := 45, attributes := #[] }, { accessFlags := 2, nameIndex := 67, descriptorIndex := 6, attributes := #[] }, { accessFlags := 2, nameIndex := 70, descriptorIndex := 6, attributes := #[] }, { accessFlags := 2, nameIndex := 73, descriptorIndex := 74, attributes := #[] }, { accessFlags := 2, nameIndex := 77, descriptorIndex := 78, attributes := #[] }, { accessFlags := 2, nameIndex := 97, descriptorIndex := 90, attributes := #[] }, { accessFlags := 2, nameIndex := 121, descriptorIndex := 101, attributes := #[] }, { accessFlags := 2, nameIndex := 85, descriptorIndex := 86, attributes := #[] }, { accessFlags := 2, nameIndex := 124, descriptorIndex := 90, attributes := #[] }, { accessFlags := 2, nameIndex := 89, descriptorIndex := 90, attributes := #[] }, { accessFlags := 2, nameIndex := 81, descriptorIndex := 82, attributes := #[] }, { accessFlags := 2, nameIndex := 130, descriptorIndex := 94, attributes := #[] }, { accessFlags := 2, nameIndex := 93, descriptorIndex := 94, attributes := #[] }, { accessFlags := 2, nameIndex := 100, descriptorIndex := 101, attributes := #[] }, { accessFlags := 2, nameIndex := 139, descriptorIndex := 101, attributes := #[] }, { accessFlags := 2, nameIndex := 118, descriptorIndex := 78, attributes := #[] }, { accessFlags := 2, nameIndex := 136, descriptorIndex := 94, attributes := #[] }, { accessFlags := 2, nameIndex := 133, descriptorIndex := 74, attributes := #[] }, { accessFlags := 2, nameIndex := 104, descriptorIndex := 105, attributes := #[] }, { accessFlags := 2, nameIndex := 150, descriptorIndex := 90, attributes := #[] }, { accessFlags := 2, nameIndex := 156, descriptorIndex := 90, attributes := #[] }, { accessFlags := 2, nameIndex := 142, descriptorIndex := 90, attributes := #[] }, { accessFlags := 2, nameIndex := 153, descriptorIndex := 90, attributes := #[] }, { accessFlags := 2, nameIndex := 159, descriptorIndex := 90, attributes := #[] }, { accessFlags := 2, nameIndex := 127, descriptorIndex := 105, attributes := #[] }, { accessFlags := 2, nameIndex := 108, descriptorIndex := 105, attributes := #[] }, { accessFlags := 2, nameIndex := 111, descriptorIndex := 6, attributes := #[] }, { accessFlags := 2, nameIndex := 114, descriptorIndex := 115, attributes := #[] }, { accessFlags := 2, nameIndex := 162, descriptorIndex := 82, attributes := #[] }] 49 2 #[] #[{ accessFlags := 25, nameIndex := 163, descriptorIndex := 12, attributes := #[] }, { accessFlags := 25, nameIndex := 166, descriptorIndex := 12, attributes := #[] }, { accessFlags := 25, nameIndex := 168, descriptorIndex := 12, attributes := #[] }, { accessFlags := 25, nameIndex := 170, descriptorIndex := 12, attributes := #[] }, { accessFlags := 25, nameIndex := 172, descriptorIndex := 12, attributes := #[] }, { accessFlags := 25, nameIndex := 174, descriptorIndex := 12, attributes := #[] }, { accessFlags := 25, nameIndex := 176, descriptorIndex := 12, attributes := #[] }, { accessFlags := 25, nameIndex := 178, descriptorIndex := 12, attributes := #[] }, { accessFlags := 25, nameIndex := 180, descriptorIndex := 12, attributes := #[] }, { accessFlags := 18, nameIndex := 11, descriptorIndex := 12, attributes := #[] }, { accessFlags := 18, nameIndex := 15, descriptorIndex := 12, attributes := #[] }, { accessFlags := 18, nameIndex := 18, descriptorIndex := 12, attributes := #[] }, { accessFlags := 18, nameIndex := 21, descriptorIndex := 12, attributes := #[] }, { accessFlags := 2, nameIndex := 48, descriptorIndex := 12, attributes := #[] }, { accessFlags := 2, nameIndex := 51, descriptorIndex := 12, attributes := #[] }, { accessFlags := 2, nameIndex := 54, descriptorIndex := 12, attributes := #[] }, { accessFlags := 2, nameIndex := 57, descriptorIndex := 58, attributes := #[] }, { accessFlags := 2, nameIndex := 61, descriptorIndex := 12, attributes := #[] }, { accessFlags := 2, nameIndex := 64, descriptorIndex := 12, attributes := #[] }, { accessFlags := 18, nameIndex := 24, descriptorIndex := 25, attributes := #[] }, { accessFlags := 18, nameIndex := 28, descriptorIndex := 29, attributes := #[] }, { accessFlags := 18, nameIndex := 32, descriptorIndex := 29, attributes := #[] }, { accessFlags := 18, nameIndex := 35, descriptorIndex := 29, attributes := #[] }, { accessFlags := 18, nameIndex := 38, descriptorIndex := 29, attributes := #[] }, { accessFlags := 18, nameIndex := 41, descriptorIndex := 29, attributes := #[] }])
  fields := #[{ name := "OK", type := .int, accessFlags := 25, slot := 0, constantValue := 0 }, { name := "ERR_NOFILE", type := .int, accessFlags := 25, slot := 1, constantValue := 0 }, { name := "ERR_BADARG", type := .int, accessFlags := 25, slot := 2, constantValue := 0 }, { name := "ERR_NOSPACE", type := .int, accessFlags := 25, slot := 3, constantValue := 0 }, { name := "ERR_BUSY", type := .int, accessFlags := 25, slot := 4, constantValue := 0 }, { name := "ERR_IDLE", type := .int, accessFlags := 25, slot := 5, constantValue := 0 }, { name := "ERR_FULL", type := .int, accessFlags := 25, slot := 6, constantValue := 0 }, { name := "FREE", type := .int, accessFlags := 25, slot := 7, constantValue := 0 }, { name := "MAX_STEP", type := .int, accessFlags := 25, slot := 8, constantValue := 0 }, { name := "blockCap", type := .int, accessFlags := 18, slot := 0, constantValue := 0 }, { name := "byteCap", type := .int, accessFlags := 18, slot := 1, constantValue := 0 }, { name := "fileCap", type := .int, accessFlags := 18, slot := 2, constantValue := 0 }, { name := "none", type := .int, accessFlags := 18, slot := 3, constantValue := 0 }, { name := "volBlocks", type := .int, accessFlags := 2, slot := 4, constantValue := 0 }, { name := "blockSize", type := .int, accessFlags := 2, slot := 5, constantValue := 0 }, { name := "fileSlots", type := .int, accessFlags := 2, slot := 6, constantValue := 0 }, { name := "shrinking", type := .boolean, accessFlags := 2, slot := 7, constantValue := 0 }, { name := "shrinkTarget", type := .int, accessFlags := 2, slot := 8, constantValue := 0 }, { name := "allocMask", type := .int, accessFlags := 2, slot := 9, constantValue := 0 }, { name := "slotUsed", type := (.array .boolean), accessFlags := 18, slot := 10, constantValue := 0 }, { name := "fileSize", type := (.array .int), accessFlags := 18, slot := 11, constantValue := 0 }, { name := "fileMap", type := (.array .int), accessFlags := 18, slot := 12, constantValue := 0 }, { name := "ownerFile", type := (.array .int), accessFlags := 18, slot := 13, constantValue := 0 }, { name := "ownerIndex", type := (.array .int), accessFlags := 18, slot := 14, constantValue := 0 }, { name := "bytes", type := (.array .int), accessFlags := 18, slot := 15, constantValue := 0 }]
  methods := #[k2m0, k2m1, k2m2, k2m3, k2m4, k2m5, k2m6, k2m7, k2m8, k2m9, k2m10, k2m11, k2m12, k2m13, k2m14, k2m15, k2m16, k2m17, k2m18, k2m19, k2m20, k2m21, k2m22, k2m23, k2m24, k2m25, k2m26, k2m27, k2m28, k2m29, k2m30, k2m31, k2m32, k2m33, k2m34, k2m35, k2m36, k2m37, k2m38, k2m39, k2m40, k2m41, k2m42, k2m43]
  instanceTypes := #[.int, .int, .int, .int, .int, .int, .int, .boolean, .int, .int, (.array .boolean), (.array .int), (.array .int), (.array .int), (.array .int), (.array .int)]
  staticTypes := #[.int, .int, .int, .int, .int, .int, .int, .int, .int]
  resolved := Array.replicate 205 none
  statics := none }

def pool3 : Array CpInfo := pool [(1, u "java/lang/Cloneable"), (0, .class_ 1), (0, u "java/lang/Object"), (0, .class_ 3)] 3

/-- java/lang/Cloneable -/
def k3 : Class := { plain "java/lang/Cloneable" (some 0) with
  accessFlags := 1537
  interfaces := #[]
  cf := some (fileOf pool3 2 #[] #[] 1537 4 #[] #[])
  fields := #[]
  methods := #[]
  instanceTypes := #[]
  staticTypes := #[]
  resolved := Array.replicate 8 none
  statics := none }

def pool4 : Array CpInfo := pool [(1, u "java/io/Serializable"), (0, .class_ 1), (0, u "java/lang/Object"), (0, .class_ 3)] 3

/-- java/io/Serializable -/
def k4 : Class := { plain "java/io/Serializable" (some 0) with
  accessFlags := 1537
  interfaces := #[]
  cf := some (fileOf pool4 2 #[] #[] 1537 4 #[] #[])
  fields := #[]
  methods := #[]
  instanceTypes := #[]
  staticTypes := #[]
  resolved := Array.replicate 8 none
  statics := none }

/-- the primitive boolean -/
def k5 : Class := { plain "boolean" none with kind := .primitive 'Z', accessFlags := 0x411 }
/-- [Z -/
def k6 : Class := { plain "[Z" (some 0) with kind := .array 5 .boolean, interfaces := #[3, 4], accessFlags := 1041 }

/-- the primitive byte -/
def k7 : Class := { plain "byte" none with kind := .primitive 'B', accessFlags := 0x411 }
/-- [B -/
def k8 : Class := { plain "[B" (some 0) with kind := .array 7 .byte, interfaces := #[3, 4], accessFlags := 1041 }

/-- the primitive int -/
def k9 : Class := { plain "int" none with kind := .primitive 'I', accessFlags := 0x411 }
/-- [I -/
def k10 : Class := { plain "[I" (some 0) with kind := .array 9 .int, interfaces := #[3, 4], accessFlags := 1041 }

def heap : Heap := #[]
def classes : Array Class := #[k0, k1, k2, k3, k4, k5, k6, k7, k8, k9, k10]
def interned : List (Array UInt16 × Addr) := []
def slotsUsed : Nat := 0
def theMethod : MethodId := ⟨1, 1⟩
def args0 : Array Value := #[.int 3, .int 4, .int 5, .int 6, .int 7]
def aboutOver (below : List Frame) : State where
  vm := { classes := classes, interned := interned.toArray }
  heap := heap
  slotsUsed := slotsUsed
  threads := #[{ frames := .invoking theMethod args0 :: below }]
def below0 : List Frame := [.native { method := ⟨0, 0⟩, args := #[] }]
def about1 : State := aboutOver below0
def p0 : Program := .bare "" "" ""
def e0 : Env := launch0.env 0 0 0
theorem w_frames : about1.frames = Frame.invoking theMethod args0 :: below0 := rfl
set_option maxRecDepth 65536 in
theorem w_args : argsFit about1.vm theMethod args0 = true := by decide +kernel
set_option maxRecDepth 65536 in
theorem w_heap : heapFits about1 = true := by decide +kernel
set_option maxRecDepth 65536 in
theorem w_runnable : about1.curStatus? = some .runnable := by decide +kernel
set_option maxRecDepth 65536 in
theorem w_alone : about1.alone = true := by decide +kernel
set_option maxRecDepth 65536 in
theorem w_named : about1.methodNamed? x = some theMethod := by decide +kernel
set_option maxRecDepth 65536 in
theorem w_hears : about1.hears theMethod below0 = true := by decide +kernel
set_option maxRecDepth 65536 in
theorem w_ripe : about1.ripe theMethod args0 below0 = true := by decide +kernel
theorem w_running : about1.status = .running := rfl
set_option maxRecDepth 65536 in
theorem w_room : about1.hasRoom e0.platform room_1 = true :=
  launch0.hasRoom_least _ room_1 (by decide +kernel) (by decide +kernel) (by decide +kernel) (by decide +kernel) (by decide +kernel) (by decide +kernel)
theorem allAtoms_all (ts : List Jvm.Cond) (a : Array Jvm.Value) (st : Jvm.State) : (allAtoms ts).before a st = ts.all (fun c => c.before a st) := by
  induction ts with
  | nil => rfl
  | cons c t ih =>
    show (Jvm.Cond.and c (allAtoms t)).before a st = _
    rw [Jvm.Cond.before_and, ih, List.all_cons]
def words1 : List Jvm.Cond := Jvm.Cond.code x code maxLocals ret :: tables_1
/-- a 'code' word, met by the world's own term for the bytes: nothing is compared byte by byte -/
theorem code_word {y : MethodName} {bytes : ByteArray} {mx : Nat} {rt : Option FieldType} {a : Array Value} {s : State} {m : MethodId} {meth : Method} {c : Code} (h1 : s.methodNamed? y = some m) (h2 : s.vm.method? m = some meth) (h3 : meth.code = some c) (h4 : c.code = bytes)
    (h5 : (c.maxLocals == mx && c.exceptionTable.isEmpty && decide (c.maxStack ≤ mostOperands) && decide (meth.sig.returnType = rt) && !meth.locks && decide (parseMethodDescriptor y.desc = some meth.sig)) = true) : (Jvm.Cond.code y bytes mx rt).before a s = true := by
  simp only [Bool.and_eq_true, beq_iff_eq, Bool.not_eq_true', decide_eq_true_eq] at h5
  obtain ⟨⟨⟨⟨⟨g1, g2⟩, g3⟩, g4⟩, g5⟩, g6⟩ := h5
  simp [Cond.before, Cond.holds, Cond.value, h1, h2, h3, h4, g1, g2, g3, g4, g5, g6]
def isCode : Jvm.Cond → Bool
  | .code _ _ _ _ => true
  | _ => false
theorem all_split {L : List Jvm.Cond} {P : Jvm.Cond → Bool} (h1 : L.all (fun c => isCode c || P c) = true) (h2 : ∀ c ∈ L.filter isCode, P c = true) : L.all P = true := by
  refine List.all_eq_true.mpr fun c hc => ?_
  have h := List.all_eq_true.mp h1 c hc
  rcases Bool.eq_false_or_eq_true (isCode c) with hi | hi
  · exact h2 c (List.mem_filter.mpr ⟨hc, hi⟩)
  · simpa [hi] using h
set_option maxRecDepth 65536 in
theorem w_c0 : (Jvm.Cond.code x code maxLocals ret).before args0 about1 = true := code_word (m := ⟨1, 1⟩) (meth := k1m1) (c := k1c1) (by decide +kernel) rfl rfl rfl (by decide +kernel)
set_option maxRecDepth 65536 in
theorem w_c1 : (Jvm.Cond.code ({ cls := "ShrinkRelocator", name := "<init>", desc := "(III)V" } : Jvm.MethodName) prog_1_method_1_code (4 : Nat) (Option.none : Option Jvm.ClassFile.FieldType)).before args0 about1 = true := code_word (m := ⟨2, 0⟩) (meth := k2m0) (c := k2c0) (by decide +kernel) rfl rfl rfl (by decide +kernel)
set_option maxRecDepth 65536 in
theorem w_c2 : (Jvm.Cond.code ({ cls := "java/lang/Object", name := "<init>", desc := "()V" } : Jvm.MethodName) object_method_1_code (1 : Nat) (Option.none : Option Jvm.ClassFile.FieldType)).before args0 about1 = true := code_word (m := ⟨0, 0⟩) (meth := k0m0) (c := k0c0) (by decide +kernel) rfl rfl rfl (by decide +kernel)
set_option maxRecDepth 65536 in
theorem w_c3 : (Jvm.Cond.code ({ cls := "ShrinkRelocator", name := "clamp", desc := "(III)I" } : Jvm.MethodName) prog_1_method_18_code (4 : Nat) (Option.some Jvm.ClassFile.FieldType.int)).before args0 about1 = true := code_word (m := ⟨2, 15⟩) (meth := k2m15) (c := k2c15) (by decide +kernel) rfl rfl rfl (by decide +kernel)
set_option maxRecDepth 65536 in
theorem w_c4 : (Jvm.Cond.code ({ cls := "ShrinkRelocator", name := "resetBlockTables", desc := "()V" } : Jvm.MethodName) prog_1_method_19_code (2 : Nat) (Option.none : Option Jvm.ClassFile.FieldType)).before args0 about1 = true := code_word (m := ⟨2, 16⟩) (meth := k2m16) (c := k2c16) (by decide +kernel) rfl rfl rfl (by decide +kernel)
set_option maxRecDepth 65536 in
theorem w_c5 : (Jvm.Cond.code ({ cls := "ShrinkRelocator", name := "resetFileTables", desc := "()V" } : Jvm.MethodName) prog_1_method_20_code (2 : Nat) (Option.none : Option Jvm.ClassFile.FieldType)).before args0 about1 = true := code_word (m := ⟨2, 17⟩) (meth := k2m17) (c := k2c17) (by decide +kernel) rfl rfl rfl (by decide +kernel)
set_option maxRecDepth 65536 in
theorem w_c6 : (Jvm.Cond.code ({ cls := "ShrinkRelocator", name := "clearMapRow", desc := "(I)V" } : Jvm.MethodName) prog_1_method_21_code (3 : Nat) (Option.none : Option Jvm.ClassFile.FieldType)).before args0 about1 = true := code_word (m := ⟨2, 18⟩) (meth := k2m18) (c := k2c18) (by decide +kernel) rfl rfl rfl (by decide +kernel)
set_option maxRecDepth 65536 in
theorem w_c7 : (Jvm.Cond.code ({ cls := "ShrinkRelocator", name := "create", desc := "()I" } : Jvm.MethodName) prog_1_method_2_code (2 : Nat) (Option.some Jvm.ClassFile.FieldType.int)).before args0 about1 = true := code_word (m := ⟨2, 1⟩) (meth := k2m1) (c := k2c1) (by decide +kernel) rfl rfl rfl (by decide +kernel)
set_option maxRecDepth 65536 in
theorem w_c8 : (Jvm.Cond.code ({ cls := "ShrinkRelocator", name := "write", desc := "(III)I" } : Jvm.MethodName) prog_1_method_4_code (6 : Nat) (Option.some Jvm.ClassFile.FieldType.int)).before args0 about1 = true := code_word (m := ⟨2, 3⟩) (meth := k2m3) (c := k2c3) (by decide +kernel) rfl rfl rfl (by decide +kernel)
set_option maxRecDepth 65536 in
theorem w_c9 : (Jvm.Cond.code ({ cls := "ShrinkRelocator", name := "isValidFile", desc := "(I)Z" } : Jvm.MethodName) prog_1_method_22_code (2 : Nat) (Option.some Jvm.ClassFile.FieldType.boolean)).before args0 about1 = true := code_word (m := ⟨2, 19⟩) (meth := k2m19) (c := k2c19) (by decide +kernel) rfl rfl rfl (by decide +kernel)
set_option maxRecDepth 65536 in
theorem w_c10 : (Jvm.Cond.code ({ cls := "ShrinkRelocator", name := "needsNewBlock", desc := "(II)Z" } : Jvm.MethodName) prog_1_method_25_code (3 : Nat) (Option.some Jvm.ClassFile.FieldType.boolean)).before args0 about1 = true := code_word (m := ⟨2, 22⟩) (meth := k2m22) (c := k2c22) (by decide +kernel) rfl rfl rfl (by decide +kernel)
set_option maxRecDepth 65536 in
theorem w_c11 : (Jvm.Cond.code ({ cls := "ShrinkRelocator", name := "growByOneBlock", desc := "(I)I" } : Jvm.MethodName) prog_1_method_27_code (4 : Nat) (Option.some Jvm.ClassFile.FieldType.int)).before args0 about1 = true := code_word (m := ⟨2, 24⟩) (meth := k2m24) (c := k2c24) (by decide +kernel) rfl rfl rfl (by decide +kernel)
set_option maxRecDepth 65536 in
theorem w_c12 : (Jvm.Cond.code ({ cls := "ShrinkRelocator", name := "blocksFor", desc := "(I)I" } : Jvm.MethodName) prog_1_method_23_code (2 : Nat) (Option.some Jvm.ClassFile.FieldType.int)).before args0 about1 = true := code_word (m := ⟨2, 20⟩) (meth := k2m20) (c := k2c20) (by decide +kernel) rfl rfl rfl (by decide +kernel)
set_option maxRecDepth 65536 in
theorem w_c13 : (Jvm.Cond.code ({ cls := "ShrinkRelocator", name := "allocateBlock", desc := "()I" } : Jvm.MethodName) prog_1_method_42_code (3 : Nat) (Option.some Jvm.ClassFile.FieldType.int)).before args0 about1 = true := code_word (m := ⟨2, 39⟩) (meth := k2m39) (c := k2c39) (by decide +kernel) rfl rfl rfl (by decide +kernel)
set_option maxRecDepth 65536 in
theorem w_c14 : (Jvm.Cond.code ({ cls := "ShrinkRelocator", name := "freeBelow", desc := "(I)I" } : Jvm.MethodName) prog_1_method_40_code (2 : Nat) (Option.some Jvm.ClassFile.FieldType.int)).before args0 about1 = true := code_word (m := ⟨2, 37⟩) (meth := k2m37) (c := k2c37) (by decide +kernel) rfl rfl rfl (by decide +kernel)
set_option maxRecDepth 65536 in
theorem w_c15 : (Jvm.Cond.code ({ cls := "ShrinkRelocator", name := "lowMask", desc := "(I)I" } : Jvm.MethodName) prog_1_method_37_code (2 : Nat) (Option.some Jvm.ClassFile.FieldType.int)).before args0 about1 = true := code_word (m := ⟨2, 34⟩) (meth := k2m34) (c := k2c34) (by decide +kernel) rfl rfl rfl (by decide +kernel)
set_option maxRecDepth 65536 in
theorem w_c16 : (Jvm.Cond.code ({ cls := "ShrinkRelocator", name := "lowestBit", desc := "(I)I" } : Jvm.MethodName) prog_1_method_38_code (4 : Nat) (Option.some Jvm.ClassFile.FieldType.int)).before args0 about1 = true := code_word (m := ⟨2, 35⟩) (meth := k2m35) (c := k2c35) (by decide +kernel) rfl rfl rfl (by decide +kernel)
set_option maxRecDepth 65536 in
theorem w_c17 : (Jvm.Cond.code ({ cls := "ShrinkRelocator", name := "attach", desc := "(III)V" } : Jvm.MethodName) prog_1_method_29_code (4 : Nat) (Option.none : Option Jvm.ClassFile.FieldType)).before args0 about1 = true := code_word (m := ⟨2, 26⟩) (meth := k2m26) (c := k2c26) (by decide +kernel) rfl rfl rfl (by decide +kernel)
set_option maxRecDepth 65536 in
theorem w_c18 : (Jvm.Cond.code ({ cls := "ShrinkRelocator", name := "mapSlot", desc := "(II)I" } : Jvm.MethodName) prog_1_method_24_code (3 : Nat) (Option.some Jvm.ClassFile.FieldType.int)).before args0 about1 = true := code_word (m := ⟨2, 21⟩) (meth := k2m21) (c := k2c21) (by decide +kernel) rfl rfl rfl (by decide +kernel)
set_option maxRecDepth 65536 in
theorem w_c19 : (Jvm.Cond.code ({ cls := "ShrinkRelocator", name := "markAllocated", desc := "(III)V" } : Jvm.MethodName) prog_1_method_34_code (4 : Nat) (Option.none : Option Jvm.ClassFile.FieldType)).before args0 about1 = true := code_word (m := ⟨2, 31⟩) (meth := k2m31) (c := k2c31) (by decide +kernel) rfl rfl rfl (by decide +kernel)
set_option maxRecDepth 65536 in
theorem w_c20 : (Jvm.Cond.code ({ cls := "ShrinkRelocator", name := "storeAt", desc := "(III)V" } : Jvm.MethodName) prog_1_method_30_code (7 : Nat) (Option.none : Option Jvm.ClassFile.FieldType)).before args0 about1 = true := code_word (m := ⟨2, 27⟩) (meth := k2m27) (c := k2c27) (by decide +kernel) rfl rfl rfl (by decide +kernel)
set_option maxRecDepth 65536 in
theorem w_c21 : (Jvm.Cond.code ({ cls := "ShrinkRelocator", name := "byteSlot", desc := "(II)I" } : Jvm.MethodName) prog_1_method_32_code (3 : Nat) (Option.some Jvm.ClassFile.FieldType.int)).before args0 about1 = true := code_word (m := ⟨2, 29⟩) (meth := k2m29) (c := k2c29) (by decide +kernel) rfl rfl rfl (by decide +kernel)
set_option maxRecDepth 65536 in
theorem w_c22 : (Jvm.Cond.code ({ cls := "ShrinkRelocator", name := "physOf", desc := "(II)I" } : Jvm.MethodName) prog_1_method_15_code (4 : Nat) (Option.some Jvm.ClassFile.FieldType.int)).before args0 about1 = true := code_word (m := ⟨2, 12⟩) (meth := k2m12) (c := k2c12) (by decide +kernel) rfl rfl rfl (by decide +kernel)
set_option maxRecDepth 65536 in
theorem w_c23 : (Jvm.Cond.code ({ cls := "ShrinkRelocator", name := "delete", desc := "(I)I" } : Jvm.MethodName) prog_1_method_3_code (2 : Nat) (Option.some Jvm.ClassFile.FieldType.int)).before args0 about1 = true := code_word (m := ⟨2, 2⟩) (meth := k2m2) (c := k2c2) (by decide +kernel) rfl rfl rfl (by decide +kernel)
set_option maxRecDepth 65536 in
theorem w_c24 : (Jvm.Cond.code ({ cls := "ShrinkRelocator", name := "releaseFrom", desc := "(II)V" } : Jvm.MethodName) prog_1_method_28_code (8 : Nat) (Option.none : Option Jvm.ClassFile.FieldType)).before args0 about1 = true := code_word (m := ⟨2, 25⟩) (meth := k2m25) (c := k2c25) (by decide +kernel) rfl rfl rfl (by decide +kernel)
set_option maxRecDepth 65536 in
theorem w_c25 : (Jvm.Cond.code ({ cls := "ShrinkRelocator", name := "markFree", desc := "(I)V" } : Jvm.MethodName) prog_1_method_35_code (2 : Nat) (Option.none : Option Jvm.ClassFile.FieldType)).before args0 about1 = true := code_word (m := ⟨2, 32⟩) (meth := k2m32) (c := k2c32) (by decide +kernel) rfl rfl rfl (by decide +kernel)
set_option maxRecDepth 65536 in
theorem w_c26 : (Jvm.Cond.code ({ cls := "ShrinkRelocator", name := "shrink", desc := "(I)I" } : Jvm.MethodName) prog_1_method_8_code (2 : Nat) (Option.some Jvm.ClassFile.FieldType.int)).before args0 about1 = true := code_word (m := ⟨2, 6⟩) (meth := k2m6) (c := k2c6) (by decide +kernel) rfl rfl rfl (by decide +kernel)
set_option maxRecDepth 65536 in
theorem w_c27 : (Jvm.Cond.code ({ cls := "ShrinkRelocator", name := "allocatedCount", desc := "()I" } : Jvm.MethodName) prog_1_method_36_code (1 : Nat) (Option.some Jvm.ClassFile.FieldType.int)).before args0 about1 = true := code_word (m := ⟨2, 33⟩) (meth := k2m33) (c := k2c33) (by decide +kernel) rfl rfl rfl (by decide +kernel)
set_option maxRecDepth 65536 in
theorem w_c28 : (Jvm.Cond.code ({ cls := "ShrinkRelocator", name := "bitCount", desc := "(I)I" } : Jvm.MethodName) prog_1_method_39_code (3 : Nat) (Option.some Jvm.ClassFile.FieldType.int)).before args0 about1 = true := code_word (m := ⟨2, 36⟩) (meth := k2m36) (c := k2c36) (by decide +kernel) rfl rfl rfl (by decide +kernel)
set_option maxRecDepth 65536 in
theorem w_c29 : (Jvm.Cond.code ({ cls := "ShrinkRelocator", name := "pendingMoves", desc := "()I" } : Jvm.MethodName) prog_1_method_17_code (1 : Nat) (Option.some Jvm.ClassFile.FieldType.int)).before args0 about1 = true := code_word (m := ⟨2, 14⟩) (meth := k2m14) (c := k2c14) (by decide +kernel) rfl rfl rfl (by decide +kernel)
set_option maxRecDepth 65536 in
theorem w_c30 : (Jvm.Cond.code ({ cls := "ShrinkRelocator", name := "pendingCount", desc := "()I" } : Jvm.MethodName) prog_1_method_43_code (2 : Nat) (Option.some Jvm.ClassFile.FieldType.int)).before args0 about1 = true := code_word (m := ⟨2, 40⟩) (meth := k2m40) (c := k2c40) (by decide +kernel) rfl rfl rfl (by decide +kernel)
set_option maxRecDepth 65536 in
theorem w_c31 : (Jvm.Cond.code ({ cls := "ShrinkRelocator", name := "usedFrom", desc := "(I)I" } : Jvm.MethodName) prog_1_method_41_code (2 : Nat) (Option.some Jvm.ClassFile.FieldType.int)).before args0 about1 = true := code_word (m := ⟨2, 38⟩) (meth := k2m38) (c := k2c38) (by decide +kernel) rfl rfl rfl (by decide +kernel)
set_option maxRecDepth 65536 in
theorem w_c32 : (Jvm.Cond.code ({ cls := "ShrinkRelocator", name := "step", desc := "(I)I" } : Jvm.MethodName) prog_1_method_9_code (5 : Nat) (Option.some Jvm.ClassFile.FieldType.int)).before args0 about1 = true := code_word (m := ⟨2, 7⟩) (meth := k2m7) (c := k2c7) (by decide +kernel) rfl rfl rfl (by decide +kernel)
set_option maxRecDepth 65536 in
theorem w_c33 : (Jvm.Cond.code ({ cls := "ShrinkRelocator", name := "moveOne", desc := "()Z" } : Jvm.MethodName) prog_1_method_45_code (7 : Nat) (Option.some Jvm.ClassFile.FieldType.boolean)).before args0 about1 = true := code_word (m := ⟨2, 42⟩) (meth := k2m42) (c := k2c42) (by decide +kernel) rfl rfl rfl (by decide +kernel)
set_option maxRecDepth 65536 in
theorem w_c34 : (Jvm.Cond.code ({ cls := "ShrinkRelocator", name := "copyBlock", desc := "(II)V" } : Jvm.MethodName) prog_1_method_46_code (6 : Nat) (Option.none : Option Jvm.ClassFile.FieldType)).before args0 about1 = true := code_word (m := ⟨2, 43⟩) (meth := k2m43) (c := k2c43) (by decide +kernel) rfl rfl rfl (by decide +kernel)
set_option maxRecDepth 65536 in
theorem w_c35 : (Jvm.Cond.code ({ cls := "ShrinkRelocator", name := "completeShrink", desc := "()V" } : Jvm.MethodName) prog_1_method_44_code (1 : Nat) (Option.none : Option Jvm.ClassFile.FieldType)).before args0 about1 = true := code_word (m := ⟨2, 41⟩) (meth := k2m41) (c := k2c41) (by decide +kernel) rfl rfl rfl (by decide +kernel)
set_option maxRecDepth 65536 in
theorem w_c36 : (Jvm.Cond.code ({ cls := "ShrinkRelocator", name := "volumeBlocks", desc := "()I" } : Jvm.MethodName) prog_1_method_11_code (1 : Nat) (Option.some Jvm.ClassFile.FieldType.int)).before args0 about1 = true := code_word (m := ⟨2, 8⟩) (meth := k2m8) (c := k2c8) (by decide +kernel) rfl rfl rfl (by decide +kernel)
set_option maxRecDepth 65536 in
theorem w_c37 : (Jvm.Cond.code ({ cls := "ShrinkRelocator", name := "target", desc := "()I" } : Jvm.MethodName) prog_1_method_12_code (1 : Nat) (Option.some Jvm.ClassFile.FieldType.int)).before args0 about1 = true := code_word (m := ⟨2, 9⟩) (meth := k2m9) (c := k2c9) (by decide +kernel) rfl rfl rfl (by decide +kernel)
set_option maxRecDepth 65536 in
theorem w_c38 : (Jvm.Cond.code ({ cls := "ShrinkRelocator", name := "read", desc := "(II)I" } : Jvm.MethodName) prog_1_method_6_code (3 : Nat) (Option.some Jvm.ClassFile.FieldType.int)).before args0 about1 = true := code_word (m := ⟨2, 4⟩) (meth := k2m4) (c := k2c4) (by decide +kernel) rfl rfl rfl (by decide +kernel)
set_option maxRecDepth 65536 in
theorem w_c39 : (Jvm.Cond.code ({ cls := "ShrinkRelocator", name := "loadAt", desc := "(II)I" } : Jvm.MethodName) prog_1_method_31_code (6 : Nat) (Option.some Jvm.ClassFile.FieldType.int)).before args0 about1 = true := code_word (m := ⟨2, 28⟩) (meth := k2m28) (c := k2c28) (by decide +kernel) rfl rfl rfl (by decide +kernel)
set_option maxRecDepth 65536 in
theorem w_c40 : (Jvm.Cond.code ({ cls := "ShrinkRelocator", name := "size", desc := "(I)I" } : Jvm.MethodName) prog_1_method_7_code (2 : Nat) (Option.some Jvm.ClassFile.FieldType.int)).before args0 about1 = true := code_word (m := ⟨2, 5⟩) (meth := k2m5) (c := k2c5) (by decide +kernel) rfl rfl rfl (by decide +kernel)
set_option maxRecDepth 65536 in
theorem w_c41 : (Jvm.Cond.code ({ cls := "ShrinkRelocator", name := "extentCount", desc := "(I)I" } : Jvm.MethodName) prog_1_method_16_code (2 : Nat) (Option.some Jvm.ClassFile.FieldType.int)).before args0 about1 = true := code_word (m := ⟨2, 13⟩) (meth := k2m13) (c := k2c13) (by decide +kernel) rfl rfl rfl (by decide +kernel)
set_option maxRecDepth 65536 in
theorem w_c42 : (Jvm.Cond.code ({ cls := "ShrinkRelocator", name := "countExtents", desc := "(I)I" } : Jvm.MethodName) prog_1_method_26_code (6 : Nat) (Option.some Jvm.ClassFile.FieldType.int)).before args0 about1 = true := code_word (m := ⟨2, 23⟩) (meth := k2m23) (c := k2c23) (by decide +kernel) rfl rfl rfl (by decide +kernel)
set_option maxRecDepth 65536 in
theorem w_c43 : (Jvm.Cond.code ({ cls := "ShrinkRelocator", name := "freeBlocks", desc := "()I" } : Jvm.MethodName) prog_1_method_13_code (1 : Nat) (Option.some Jvm.ClassFile.FieldType.int)).before args0 about1 = true := code_word (m := ⟨2, 10⟩) (meth := k2m10) (c := k2c10) (by decide +kernel) rfl rfl rfl (by decide +kernel)
set_option maxRecDepth 65536 in
theorem w_c44 : (Jvm.Cond.code ({ cls := "ShrinkRelocator", name := "blockOwner", desc := "(I)I" } : Jvm.MethodName) prog_1_method_14_code (2 : Nat) (Option.some Jvm.ClassFile.FieldType.int)).before args0 about1 = true := code_word (m := ⟨2, 11⟩) (meth := k2m11) (c := k2c11) (by decide +kernel) rfl rfl rfl (by decide +kernel)
set_option maxRecDepth 65536 in
theorem w_c45 : (Jvm.Cond.code ({ cls := "ShrinkRelocator", name := "isAllocated", desc := "(I)Z" } : Jvm.MethodName) prog_1_method_33_code (2 : Nat) (Option.some Jvm.ClassFile.FieldType.boolean)).before args0 about1 = true := code_word (m := ⟨2, 30⟩) (meth := k2m30) (c := k2c30) (by decide +kernel) rfl rfl rfl (by decide +kernel)
def codes1 : List Jvm.Cond := [Jvm.Cond.code x code maxLocals ret, Jvm.Cond.code ({ cls := "ShrinkRelocator", name := "<init>", desc := "(III)V" } : Jvm.MethodName) prog_1_method_1_code (4 : Nat) (Option.none : Option Jvm.ClassFile.FieldType), Jvm.Cond.code ({ cls := "java/lang/Object", name := "<init>", desc := "()V" } : Jvm.MethodName) object_method_1_code (1 : Nat) (Option.none : Option Jvm.ClassFile.FieldType), Jvm.Cond.code ({ cls := "ShrinkRelocator", name := "clamp", desc := "(III)I" } : Jvm.MethodName) prog_1_method_18_code (4 : Nat) (Option.some Jvm.ClassFile.FieldType.int), Jvm.Cond.code ({ cls := "ShrinkRelocator", name := "resetBlockTables", desc := "()V" } : Jvm.MethodName) prog_1_method_19_code (2 : Nat) (Option.none : Option Jvm.ClassFile.FieldType), Jvm.Cond.code ({ cls := "ShrinkRelocator", name := "resetFileTables", desc := "()V" } : Jvm.MethodName) prog_1_method_20_code (2 : Nat) (Option.none : Option Jvm.ClassFile.FieldType), Jvm.Cond.code ({ cls := "ShrinkRelocator", name := "clearMapRow", desc := "(I)V" } : Jvm.MethodName) prog_1_method_21_code (3 : Nat) (Option.none : Option Jvm.ClassFile.FieldType), Jvm.Cond.code ({ cls := "ShrinkRelocator", name := "create", desc := "()I" } : Jvm.MethodName) prog_1_method_2_code (2 : Nat) (Option.some Jvm.ClassFile.FieldType.int), Jvm.Cond.code ({ cls := "ShrinkRelocator", name := "write", desc := "(III)I" } : Jvm.MethodName) prog_1_method_4_code (6 : Nat) (Option.some Jvm.ClassFile.FieldType.int), Jvm.Cond.code ({ cls := "ShrinkRelocator", name := "isValidFile", desc := "(I)Z" } : Jvm.MethodName) prog_1_method_22_code (2 : Nat) (Option.some Jvm.ClassFile.FieldType.boolean), Jvm.Cond.code ({ cls := "ShrinkRelocator", name := "needsNewBlock", desc := "(II)Z" } : Jvm.MethodName) prog_1_method_25_code (3 : Nat) (Option.some Jvm.ClassFile.FieldType.boolean), Jvm.Cond.code ({ cls := "ShrinkRelocator", name := "growByOneBlock", desc := "(I)I" } : Jvm.MethodName) prog_1_method_27_code (4 : Nat) (Option.some Jvm.ClassFile.FieldType.int), Jvm.Cond.code ({ cls := "ShrinkRelocator", name := "blocksFor", desc := "(I)I" } : Jvm.MethodName) prog_1_method_23_code (2 : Nat) (Option.some Jvm.ClassFile.FieldType.int), Jvm.Cond.code ({ cls := "ShrinkRelocator", name := "allocateBlock", desc := "()I" } : Jvm.MethodName) prog_1_method_42_code (3 : Nat) (Option.some Jvm.ClassFile.FieldType.int), Jvm.Cond.code ({ cls := "ShrinkRelocator", name := "freeBelow", desc := "(I)I" } : Jvm.MethodName) prog_1_method_40_code (2 : Nat) (Option.some Jvm.ClassFile.FieldType.int), Jvm.Cond.code ({ cls := "ShrinkRelocator", name := "lowMask", desc := "(I)I" } : Jvm.MethodName) prog_1_method_37_code (2 : Nat) (Option.some Jvm.ClassFile.FieldType.int), Jvm.Cond.code ({ cls := "ShrinkRelocator", name := "lowestBit", desc := "(I)I" } : Jvm.MethodName) prog_1_method_38_code (4 : Nat) (Option.some Jvm.ClassFile.FieldType.int), Jvm.Cond.code ({ cls := "ShrinkRelocator", name := "attach", desc := "(III)V" } : Jvm.MethodName) prog_1_method_29_code (4 : Nat) (Option.none : Option Jvm.ClassFile.FieldType), Jvm.Cond.code ({ cls := "ShrinkRelocator", name := "mapSlot", desc := "(II)I" } : Jvm.MethodName) prog_1_method_24_code (3 : Nat) (Option.some Jvm.ClassFile.FieldType.int), Jvm.Cond.code ({ cls := "ShrinkRelocator", name := "markAllocated", desc := "(III)V" } : Jvm.MethodName) prog_1_method_34_code (4 : Nat) (Option.none : Option Jvm.ClassFile.FieldType), Jvm.Cond.code ({ cls := "ShrinkRelocator", name := "storeAt", desc := "(III)V" } : Jvm.MethodName) prog_1_method_30_code (7 : Nat) (Option.none : Option Jvm.ClassFile.FieldType), Jvm.Cond.code ({ cls := "ShrinkRelocator", name := "byteSlot", desc := "(II)I" } : Jvm.MethodName) prog_1_method_32_code (3 : Nat) (Option.some Jvm.ClassFile.FieldType.int), Jvm.Cond.code ({ cls := "ShrinkRelocator", name := "physOf", desc := "(II)I" } : Jvm.MethodName) prog_1_method_15_code (4 : Nat) (Option.some Jvm.ClassFile.FieldType.int), Jvm.Cond.code ({ cls := "ShrinkRelocator", name := "delete", desc := "(I)I" } : Jvm.MethodName) prog_1_method_3_code (2 : Nat) (Option.some Jvm.ClassFile.FieldType.int), Jvm.Cond.code ({ cls := "ShrinkRelocator", name := "releaseFrom", desc := "(II)V" } : Jvm.MethodName) prog_1_method_28_code (8 : Nat) (Option.none : Option Jvm.ClassFile.FieldType), Jvm.Cond.code ({ cls := "ShrinkRelocator", name := "markFree", desc := "(I)V" } : Jvm.MethodName) prog_1_method_35_code (2 : Nat) (Option.none : Option Jvm.ClassFile.FieldType), Jvm.Cond.code ({ cls := "ShrinkRelocator", name := "shrink", desc := "(I)I" } : Jvm.MethodName) prog_1_method_8_code (2 : Nat) (Option.some Jvm.ClassFile.FieldType.int), Jvm.Cond.code ({ cls := "ShrinkRelocator", name := "allocatedCount", desc := "()I" } : Jvm.MethodName) prog_1_method_36_code (1 : Nat) (Option.some Jvm.ClassFile.FieldType.int), Jvm.Cond.code ({ cls := "ShrinkRelocator", name := "bitCount", desc := "(I)I" } : Jvm.MethodName) prog_1_method_39_code (3 : Nat) (Option.some Jvm.ClassFile.FieldType.int), Jvm.Cond.code ({ cls := "ShrinkRelocator", name := "pendingMoves", desc := "()I" } : Jvm.MethodName) prog_1_method_17_code (1 : Nat) (Option.some Jvm.ClassFile.FieldType.int), Jvm.Cond.code ({ cls := "ShrinkRelocator", name := "pendingCount", desc := "()I" } : Jvm.MethodName) prog_1_method_43_code (2 : Nat) (Option.some Jvm.ClassFile.FieldType.int), Jvm.Cond.code ({ cls := "ShrinkRelocator", name := "usedFrom", desc := "(I)I" } : Jvm.MethodName) prog_1_method_41_code (2 : Nat) (Option.some Jvm.ClassFile.FieldType.int), Jvm.Cond.code ({ cls := "ShrinkRelocator", name := "step", desc := "(I)I" } : Jvm.MethodName) prog_1_method_9_code (5 : Nat) (Option.some Jvm.ClassFile.FieldType.int), Jvm.Cond.code ({ cls := "ShrinkRelocator", name := "moveOne", desc := "()Z" } : Jvm.MethodName) prog_1_method_45_code (7 : Nat) (Option.some Jvm.ClassFile.FieldType.boolean), Jvm.Cond.code ({ cls := "ShrinkRelocator", name := "copyBlock", desc := "(II)V" } : Jvm.MethodName) prog_1_method_46_code (6 : Nat) (Option.none : Option Jvm.ClassFile.FieldType), Jvm.Cond.code ({ cls := "ShrinkRelocator", name := "completeShrink", desc := "()V" } : Jvm.MethodName) prog_1_method_44_code (1 : Nat) (Option.none : Option Jvm.ClassFile.FieldType), Jvm.Cond.code ({ cls := "ShrinkRelocator", name := "volumeBlocks", desc := "()I" } : Jvm.MethodName) prog_1_method_11_code (1 : Nat) (Option.some Jvm.ClassFile.FieldType.int), Jvm.Cond.code ({ cls := "ShrinkRelocator", name := "target", desc := "()I" } : Jvm.MethodName) prog_1_method_12_code (1 : Nat) (Option.some Jvm.ClassFile.FieldType.int), Jvm.Cond.code ({ cls := "ShrinkRelocator", name := "read", desc := "(II)I" } : Jvm.MethodName) prog_1_method_6_code (3 : Nat) (Option.some Jvm.ClassFile.FieldType.int), Jvm.Cond.code ({ cls := "ShrinkRelocator", name := "loadAt", desc := "(II)I" } : Jvm.MethodName) prog_1_method_31_code (6 : Nat) (Option.some Jvm.ClassFile.FieldType.int), Jvm.Cond.code ({ cls := "ShrinkRelocator", name := "size", desc := "(I)I" } : Jvm.MethodName) prog_1_method_7_code (2 : Nat) (Option.some Jvm.ClassFile.FieldType.int), Jvm.Cond.code ({ cls := "ShrinkRelocator", name := "extentCount", desc := "(I)I" } : Jvm.MethodName) prog_1_method_16_code (2 : Nat) (Option.some Jvm.ClassFile.FieldType.int), Jvm.Cond.code ({ cls := "ShrinkRelocator", name := "countExtents", desc := "(I)I" } : Jvm.MethodName) prog_1_method_26_code (6 : Nat) (Option.some Jvm.ClassFile.FieldType.int), Jvm.Cond.code ({ cls := "ShrinkRelocator", name := "freeBlocks", desc := "()I" } : Jvm.MethodName) prog_1_method_13_code (1 : Nat) (Option.some Jvm.ClassFile.FieldType.int), Jvm.Cond.code ({ cls := "ShrinkRelocator", name := "blockOwner", desc := "(I)I" } : Jvm.MethodName) prog_1_method_14_code (2 : Nat) (Option.some Jvm.ClassFile.FieldType.int), Jvm.Cond.code ({ cls := "ShrinkRelocator", name := "isAllocated", desc := "(I)Z" } : Jvm.MethodName) prog_1_method_33_code (2 : Nat) (Option.some Jvm.ClassFile.FieldType.boolean)]
set_option maxRecDepth 65536 in
theorem codes_eq : words1.filter isCode = codes1 := rfl
theorem w_codes : ∀ c ∈ words1.filter isCode, c.before args0 about1 = true := by
  rw [codes_eq]
  intro c hc
  simp only [codes1, List.mem_cons, List.not_mem_nil, or_false] at hc
  rcases hc with rfl | rfl | rfl | rfl | rfl | rfl | rfl | rfl | rfl | rfl | rfl | rfl | rfl | rfl | rfl | rfl | rfl | rfl | rfl | rfl | rfl | rfl | rfl | rfl | rfl | rfl | rfl | rfl | rfl | rfl | rfl | rfl | rfl | rfl | rfl | rfl | rfl | rfl | rfl | rfl | rfl | rfl | rfl | rfl | rfl | rfl
  · exact w_c0
  · exact w_c1
  · exact w_c2
  · exact w_c3
  · exact w_c4
  · exact w_c5
  · exact w_c6
  · exact w_c7
  · exact w_c8
  · exact w_c9
  · exact w_c10
  · exact w_c11
  · exact w_c12
  · exact w_c13
  · exact w_c14
  · exact w_c15
  · exact w_c16
  · exact w_c17
  · exact w_c18
  · exact w_c19
  · exact w_c20
  · exact w_c21
  · exact w_c22
  · exact w_c23
  · exact w_c24
  · exact w_c25
  · exact w_c26
  · exact w_c27
  · exact w_c28
  · exact w_c29
  · exact w_c30
  · exact w_c31
  · exact w_c32
  · exact w_c33
  · exact w_c34
  · exact w_c35
  · exact w_c36
  · exact w_c37
  · exact w_c38
  · exact w_c39
  · exact w_c40
  · exact w_c41
  · exact w_c42
  · exact w_c43
  · exact w_c44
  · exact w_c45
set_option maxRecDepth 65536 in
theorem w_t1 : (words1.take 24).all (fun c => isCode c || c.before args0 about1) = true := by decide +kernel
set_option maxRecDepth 65536 in
theorem w_t2 : ((words1.drop 24).take 24).all (fun c => isCode c || c.before args0 about1) = true := by decide +kernel
set_option maxRecDepth 65536 in
theorem w_t3 : (((words1.drop 24).drop 24).take 24).all (fun c => isCode c || c.before args0 about1) = true := by decide +kernel
set_option maxRecDepth 65536 in
theorem w_t4 : ((((words1.drop 24).drop 24).drop 24).take 24).all (fun c => isCode c || c.before args0 about1) = true := by decide +kernel
set_option maxRecDepth 65536 in
theorem w_t5 : (((((words1.drop 24).drop 24).drop 24).drop 24).take 24).all (fun c => isCode c || c.before args0 about1) = true := by decide +kernel
set_option maxRecDepth 65536 in
theorem w_t6 : ((((((words1.drop 24).drop 24).drop 24).drop 24).drop 24).take 24).all (fun c => isCode c || c.before args0 about1) = true := by decide +kernel
set_option maxRecDepth 65536 in
theorem w_t7 : (((((((words1.drop 24).drop 24).drop 24).drop 24).drop 24).drop 24).take 24).all (fun c => isCode c || c.before args0 about1) = true := by decide +kernel
set_option maxRecDepth 65536 in
theorem w_t8 : ((((((((words1.drop 24).drop 24).drop 24).drop 24).drop 24).drop 24).drop 24).take 24).all (fun c => isCode c || c.before args0 about1) = true := by decide +kernel
set_option maxRecDepth 65536 in
theorem w_t9 : (((((((((words1.drop 24).drop 24).drop 24).drop 24).drop 24).drop 24).drop 24).drop 24).take 24).all (fun c => isCode c || c.before args0 about1) = true := by decide +kernel
set_option maxRecDepth 65536 in
theorem w_t10 : (((((((((words1.drop 24).drop 24).drop 24).drop 24).drop 24).drop 24).drop 24).drop 24).drop 24).all (fun c => isCode c || c.before args0 about1) = true := by decide +kernel
theorem w_tables : (allAtoms (Jvm.Cond.code x code maxLocals ret :: tables_1)).before args0 about1 = true := by
  rw [allAtoms_all]
  show words1.all (fun c => c.before args0 about1) = true
  refine all_split ?_ w_codes
  rw [← List.take_append_drop 24 words1, List.all_append, w_t1, ← List.take_append_drop 24 (words1.drop 24), List.all_append, w_t2, ← List.take_append_drop 24 ((words1.drop 24).drop 24), List.all_append, w_t3, ← List.take_append_drop 24 (((words1.drop 24).drop 24).drop 24), List.all_append, w_t4, ← List.take_append_drop 24 ((((words1.drop 24).drop 24).drop 24).drop 24), List.all_append, w_t5, ← List.take_append_drop 24 (((((words1.drop 24).drop 24).drop 24).drop 24).drop 24), List.all_append, w_t6, ← List.take_append_drop 24 ((((((words1.drop 24).drop 24).drop 24).drop 24).drop 24).drop 24), List.all_append, w_t7, ← List.take_append_drop 24 (((((((words1.drop 24).drop 24).drop 24).drop 24).drop 24).drop 24).drop 24), List.all_append, w_t8, ← List.take_append_drop 24 ((((((((words1.drop 24).drop 24).drop 24).drop 24).drop 24).drop 24).drop 24).drop 24), List.all_append, w_t9, w_t10]
  rfl
set_option maxRecDepth 65536 in
theorem w_case : (Jvm.Cond.and given_1 narrow_1).before args0 about1 = true := by decide +kernel
theorem w_applies : (headSpec (Jvm.Cond.code x code maxLocals ret :: tables_1) room_1).applies x e0.platform about1 = true :=
  (Spec.applies_iff w_frames).mpr ⟨w_running, w_runnable, w_alone, w_named, w_hears, w_ripe, w_room, w_tables⟩
theorem atStart : AtStart classFile x code maxLocals ret World_1 tables_1 room_1 Calls_1 rest_1 Pre_1 launch0 p0 e0 about1 theMethod args0 below0 :=
  ⟨lists_1, trivial, launch0.admits_env _ _ _, launch0.least_env, fairChoices_fair.cas, fairChoices_fair.clock, w_frames, w_args, w_heap, w_applies, trivial, trivial, w_case⟩
end start1
theorem witness_1 : WitnessClaimed_1 := ⟨start1.p0, start1.e0, start1.about1, start1.theMethod, start1.args0, start1.below0, start1.atStart⟩
end Jvm.Pilot.@@N@@
