/-
  Numbers in base 65536, the least limb first: plain arithmetic.
-/
import Derived.Test.YtkfdniccmcolgaaGreatWd
import Derived.Test.YtkfdniccmcolgaaGreatWx
set_option linter.all false

namespace Go.Va

def val : List Nat → Nat
  | [] => 0
  | x :: r => x + 65536 * val r
def Ok (a : List Nat) : Prop := ∀ x ∈ a, x < 65536
/-- The limbs of a number, none of them a leading zero. -/
def limbsF : Nat → Nat → List Nat
  | 0, _ => []
  | k + 1, n => if n = 0 then [] else n % 65536 :: limbsF k (n / 65536)
def limbs (n : Nat) : List Nat := limbsF n n

theorem Ok.nil : Ok [] := fun x h => by cases h
theorem Ok.cons {x : Nat} {a : List Nat} (hx : x < 65536) (h : Ok a) : Ok (x :: a) := fun y hy => by
  rcases List.mem_cons.1 hy with rfl | hy
  · exact hx
  · exact h y hy
theorem Ok.head {x : Nat} {a : List Nat} (h : Ok (x :: a)) : x < 65536 := h x (by simp)
theorem Ok.tail {x : Nat} {a : List Nat} (h : Ok (x :: a)) : Ok a := fun y hy => h y (by simp [hy])
theorem Ok.get {a : List Nat} (h : Ok a) {i x : Nat} (hx : a[i]? = some x) : x < 65536 := h x (List.mem_of_getElem? hx)
theorem Ok.app {a b : List Nat} (h : Ok a) (h' : Ok b) : Ok (a ++ b) := fun x hx => by
  rcases List.mem_append.1 hx with h1 | h1
  · exact h x h1
  · exact h' x h1
theorem Ok.take {a : List Nat} (h : Ok a) (n : Nat) : Ok (a.take n) := fun x hx => h x (List.mem_of_mem_take hx)
theorem Ok.drop {a : List Nat} (h : Ok a) (n : Nat) : Ok (a.drop n) := fun x hx => h x (List.mem_of_mem_drop hx)
theorem Ok.set {a : List Nat} (h : Ok a) (n : Nat) {x : Nat} (hx : x < 65536) : Ok (a.set n x) := fun y hy => by
  rcases List.mem_or_eq_of_mem_set hy with h1 | h1
  · exact h y h1
  · omega

theorem limbsF_enough : ∀ (k m n : Nat), n ≤ k → n ≤ m → limbsF k n = limbsF m n
  | 0, 0, _, _, _ => rfl
  | 0, m + 1, n, h, _ => by
    have : n = 0 := by omega
    simp [limbsF, this]
  | k + 1, 0, n, _, h => by
    have : n = 0 := by omega
    simp [limbsF, this]
  | k + 1, m + 1, n, h1, h2 => by
    unfold limbsF
    by_cases h : n = 0
    · simp [h]
    · rw [if_neg h, if_neg h, limbsF_enough k m (n / 65536) (by omega) (by omega)]
theorem limbs_zero : limbs 0 = [] := rfl
theorem limbs_pos {n : Nat} (h : n ≠ 0) : limbs n = n % 65536 :: limbs (n / 65536) := by
  obtain ⟨k, rfl⟩ : ∃ k, n = k + 1 := ⟨n - 1, by omega⟩
  unfold limbs
  rw [← limbsF_enough k _ ((k + 1) / 65536) (by omega) (Nat.le_refl _)]
  rfl
theorem limbs_eq (n : Nat) : limbs n = if n = 0 then [] else n % 65536 :: limbs (n / 65536) := by
  by_cases h : n = 0
  · subst h; rfl
  · rw [if_neg h, limbs_pos h]
theorem limbs_cons {x m : Nat} (hx : x < 65536) (h : x + 65536 * m ≠ 0) : limbs (x + 65536 * m) = x :: limbs m := by
  rw [limbs_pos h]
  congr 1
  · omega
  · congr 1; omega
theorem val_limbs (n : Nat) : val (limbs n) = n := by
  induction n using Nat.strongRecOn with
  | _ n ih =>
    by_cases h : n = 0
    · subst h; rfl
    · rw [limbs_pos h, val, ih (n / 65536) (by omega)]; omega
theorem ok_limbs (n : Nat) : Ok (limbs n) := by
  induction n using Nat.strongRecOn with
  | _ n ih =>
    by_cases h : n = 0
    · subst h; exact Ok.nil
    · rw [limbs_pos h]; exact Ok.cons (by omega) (ih _ (by omega))
theorem limbs_nil {n : Nat} : limbs n = [] ↔ n = 0 := by
  constructor
  · intro h
    have := val_limbs n
    rw [h] at this
    exact this.symm
  · rintro rfl; rfl
theorem limbs_len (n : Nat) : (limbs n).length = 0 ↔ n = 0 := by rw [List.length_eq_zero_iff, limbs_nil]
theorem val_nil : val [] = 0 := rfl
theorem val_append (a b : List Nat) : val (a ++ b) = val a + 65536 ^ a.length * val b := by
  induction a with
  | nil => simp [val]
  | cons x a ih => simp only [List.cons_append, val, ih, List.length_cons, Nat.pow_succ]; rw [Nat.mul_add, Nat.mul_comm (65536 ^ a.length) 65536, Nat.mul_assoc, Nat.add_assoc]
theorem val_zeros (k : Nat) : val (List.replicate k 0) = 0 := by
  induction k with
  | zero => rfl
  | succ k ih => rw [List.replicate_succ, val, ih]
theorem val_lt_pow : ∀ (a : List Nat), Ok a → val a < 65536 ^ a.length
  | [], _ => by simp [val]
  | x :: a, h => by
    have := val_lt_pow a h.tail
    have := h.head
    rw [List.length_cons, Nat.pow_succ, val]
    omega
theorem limbs_len_le : ∀ (a : List Nat), Ok a → (limbs (val a)).length ≤ a.length
  | [], _ => by simp [val, limbs_zero]
  | x :: a, h => by
    have ih := limbs_len_le a h.tail
    by_cases h0 : x + 65536 * val a = 0
    · rw [val, h0, limbs_zero]; simp
    · rw [val, limbs_cons h.head h0]; simpa using ih
/-- Shorter numbers have shorter forms. -/
theorem limbs_len_mono {m n : Nat} (h : m ≤ n) : (limbs m).length ≤ (limbs n).length := by
  induction n using Nat.strongRecOn generalizing m with
  | _ n ih =>
    by_cases hm : m = 0
    · subst hm; simp [limbs_zero]
    · rw [limbs_pos hm, limbs_pos (n := n) (by omega)]
      have := @ih (n / 65536) (by omega) (m / 65536) (by omega)
      simpa using this
theorem limbs_len_lt_pow (n k : Nat) (h : n < 65536 ^ k) : (limbs n).length ≤ k := by
  induction k generalizing n with
  | zero =>
    have : n = 0 := by simpa using h
    subst this; simp [limbs_zero]
  | succ k ih =>
    by_cases h0 : n = 0
    · subst h0; simp [limbs_zero]
    · rw [limbs_pos h0]
      have : n / 65536 < 65536 ^ k := by
        rw [Nat.pow_succ] at h
        exact Nat.div_lt_of_lt_mul (by rw [Nat.mul_comm]; exact h)
      simpa using ih _ this
theorem pow65536_4 : 65536 ^ 4 = 18446744073709551616 := by simp
theorem limbs4 (n : Nat) : (limbs n).length ≤ 4 ↔ n < 18446744073709551616 := by
  rw [← pow65536_4]
  constructor
  · intro h
    have := val_lt_pow _ (ok_limbs n)
    rw [val_limbs] at this
    exact Nat.lt_of_lt_of_le this (Nat.pow_le_pow_right (by omega) h)
  · exact limbs_len_lt_pow n 4

/-! ### leading zeros -/

/-- How many limbs are left without the leading zeros. -/
def trimL : List Nat → Nat → Nat
  | _, 0 => 0
  | a, n + 1 => if a.getD n 0 = 0 then trimL a n else n + 1
theorem trimL_le (a : List Nat) : ∀ n, trimL a n ≤ n
  | 0 => Nat.le_refl _
  | n + 1 => by
    unfold trimL; split
    · exact Nat.le_succ_of_le (trimL_le a n)
    · exact Nat.le_refl _
theorem trimL_cons (x : Nat) (a : List Nat) : ∀ n, trimL (x :: a) (n + 1) = if trimL a n = 0 then (if x = 0 then 0 else 1) else trimL a n + 1
  | 0 => by simp [trimL]
  | n + 1 => by
    rw [trimL, trimL_cons x a n]
    simp only [List.getD_cons_succ]
    rw [trimL]
    by_cases h : a.getD n 0 = 0
    · rw [if_pos h, if_pos h]
    · rw [if_neg h, if_neg h]; simp
theorem take_trim : ∀ (a : List Nat), Ok a → a.take (trimL a a.length) = limbs (val a)
  | [], _ => rfl
  | x :: a, h => by
    have ih := take_trim a h.tail
    rw [List.length_cons, trimL_cons, val]
    by_cases h0 : trimL a a.length = 0
    · rw [h0] at ih
      simp only [List.take_zero] at ih
      have hv : val a = 0 := limbs_nil.1 ih.symm
      rw [if_pos h0, hv]
      by_cases hx : x = 0
      · subst hx; rfl
      · rw [if_neg hx]
        simp only [List.take_succ_cons, List.take_zero, Nat.mul_zero, Nat.add_zero]
        have := limbs_cons (x := x) (m := 0) h.head (by omega)
        simpa [limbs_zero] using this.symm
    · rw [if_neg h0, List.take_succ_cons, ih]
      have hv : val a ≠ 0 := fun h1 => by
        rw [h1, limbs_zero, List.take_eq_nil_iff] at ih
        rcases ih with h2 | h2
        · exact h0 h2
        · subst h2; simp [trimL] at h0
      exact (limbs_cons h.head (by omega)).symm

/-! ### comparing -/

theorem val_congr : ∀ (a b : List Nat), (∀ j, a.getD j 0 = b.getD j 0) → val a = val b
  | [], [], _ => rfl
  | [], y :: b, h => by
    have h0 := h 0
    simp at h0
    have := val_congr [] b fun j => by simpa using h (j + 1)
    have e : val (y :: b) = y + 65536 * val b := rfl
    rw [e, ← h0, ← this]; rfl
  | x :: a, [], h => by
    have h0 := h 0
    simp at h0
    have := val_congr a [] fun j => by simpa using h (j + 1)
    have e : val (x :: a) = x + 65536 * val a := rfl
    rw [e, h0, this]; rfl
  | x :: a, y :: b, h => by
    have h0 := h 0
    simp at h0
    have := val_congr a b fun j => by simpa using h (j + 1)
    rw [val, val, h0, this]
theorem ok_getD {a : List Nat} (h : Ok a) (i : Nat) : a.getD i 0 < 65536 := by
  rw [List.getD_eq_getElem?_getD]
  cases hx : a[i]? with
  | none => simp
  | some x => exact h.get hx
theorem val_tail (a : List Nat) : val a = a.getD 0 0 + 65536 * val a.tail := by
  cases a with
  | nil => rfl
  | cons x a => rfl
theorem ok_tail {a : List Nat} (h : Ok a) : Ok a.tail := by
  cases a with
  | nil => exact h
  | cons x a => exact h.tail
theorem getD_tail (a : List Nat) (j : Nat) : a.tail.getD j 0 = a.getD (j + 1) 0 := by
  cases a <;> simp
/-- The highest limb in which two numbers differ decides. -/
theorem val_lt_of : ∀ (i : Nat) (a b : List Nat), Ok a → Ok b → (∀ j, i < j → a.getD j 0 = b.getD j 0) → a.getD i 0 < b.getD i 0 → val a < val b
  | 0, a, b, ha, hb, h, hl => by
    have := val_congr a.tail b.tail fun j => by rw [getD_tail, getD_tail]; exact h (j + 1) (by omega)
    rw [val_tail a, val_tail b, this]
    omega
  | i + 1, a, b, ha, hb, h, hl => by
    have := val_lt_of i a.tail b.tail (ok_tail ha) (ok_tail hb) (fun j hj => by rw [getD_tail, getD_tail]; exact h (j + 1) (by omega)) (by rw [getD_tail, getD_tail]; exact hl)
    have := ok_getD ha 0
    rw [val_tail a, val_tail b]
    omega

/-- -1, 0 or 1. -/
def cmp3 (a b : Nat) : Int := if a < b then -1 else if b < a then 1 else 0
def cmpZ (a b : Int) : Int := if a < b then -1 else if b < a then 1 else 0
theorem limbs_lt_of_len {a b : Nat} (h : (limbs a).length < (limbs b).length) : a < b := by
  rcases Nat.lt_or_ge a b with h1 | h1
  · exact h1
  · have := limbs_len_mono h1; omega

/-! ### arithmetic of limbs, one by one -/

theorem getD_lt {a : List Nat} {i : Nat} (h : i < a.length) : a[i]? = some (a.getD i 0) := by
  rw [List.getD_eq_getElem?_getD, List.getElem?_eq_getElem h]; rfl
theorem take_succ_getD {a : List Nat} {i : Nat} (h : i < a.length) : a.take (i + 1) = a.take i ++ [a.getD i 0] := by
  rw [List.take_add_one, getD_lt h]; rfl
theorem val_snoc (a : List Nat) (x : Nat) : val (a ++ [x]) = val a + 65536 ^ a.length * x := by rw [val_append]; simp [val]
theorem val_take_succ {a : List Nat} {i : Nat} (h : i < a.length) : val (a.take (i + 1)) = val (a.take i) + 65536 ^ i * a.getD i 0 := by
  rw [take_succ_getD h, val_snoc, List.length_take, Nat.min_eq_left (by omega)]
theorem val_drop {a : List Nat} {i : Nat} (h : i < a.length) : val (a.drop i) = a.getD i 0 + 65536 * val (a.drop (i + 1)) := by
  rw [List.drop_eq_getElem_cons h, val, List.getD_eq_getElem?_getD, List.getElem?_eq_getElem h]; rfl
theorem val_set : ∀ {a : List Nat} {i x : Nat}, i < a.length → val (a.set i x) + 65536 ^ i * a.getD i 0 = val a + 65536 ^ i * x
  | [], _, _, h => by simp at h
  | y :: a, 0, x, _ => by simp [val]; omega
  | y :: a, i + 1, x, h => by
    have ih := val_set (a := a) (i := i) (x := x) (by simpa using h)
    simp only [List.set_cons_succ, val, List.getD_cons_succ, Nat.pow_succ]
    have e1 : 65536 ^ i * 65536 * a.getD i 0 = 65536 * (65536 ^ i * a.getD i 0) := by rw [Nat.mul_comm (65536 ^ i), Nat.mul_assoc]
    have e2 : 65536 ^ i * 65536 * x = 65536 * (65536 ^ i * x) := by rw [Nat.mul_comm (65536 ^ i), Nat.mul_assoc]
    rw [e1, e2]
    omega

end Go.Va

/-
  Slices as lists of values: what the walk makes of them.
-/
namespace Go.Va

section
variable {α : Type}
def lstD (e : α → D) (l : List α) : D := .slice l.length (l.map e)
def u16 (x : Nat) : D := .int .u16 x
def i64 (x : Int) : D := .int .i64 x
abbrev natD (a : List Nat) : D := lstD u16 a
abbrev intsD (a : List Int) : D := lstD i64 a

@[simp] theorem lenC_lst (e : α → D) (l : List α) : lenC (.d (lstD e l)) = some l.length := rfl
@[simp] theorem idxSl_lst (h : List (Nat × Blk)) (i : Int) (e : α → D) (l : List α) : idxSl h 1 i (.d (lstD e l)) = if 0 ≤ i ∧ i < l.length then some (.d (.ref ((l.drop i.toNat).map e))) else none := by
  unfold lstD idxSl
  simp only [List.length_map, Nat.mul_one, and_true, List.map_drop]
@[simp] theorem src_lst (j : TI) (e : α → D) (l : List α) (st : St) (hj : j.size = 1) : st.src j (.d (lstD e l)) = some (l.length, l.map e) := by
  unfold lstD St.src
  simp [hj]
@[simp] theorem sliceV_hi (h : List (Nat × Blk)) (e : α → D) (l : List α) (k : Int) : sliceV h (.d (lstD e l)) none (some k) 1 = if 0 ≤ k ∧ k ≤ l.length then some (.d (lstD e (l.take k.toNat))) else none := by
  unfold lstD sliceV sliceN
  simp only [List.length_map, Nat.mul_one, if_true, Option.getD_none, Option.getD_some, Int.toNat_zero, Nat.sub_zero]
  by_cases hk : 0 ≤ k ∧ k ≤ l.length
  · rw [if_pos hk, if_pos (by omega)]
    simp [cut]
    omega
  · rw [if_neg hk, if_neg (by omega)]
@[simp] theorem sliceV_lo (h : List (Nat × Blk)) (e : α → D) (l : List α) (k : Int) : sliceV h (.d (lstD e l)) (some k) none 1 = if 0 ≤ k ∧ k ≤ l.length then some (.d (lstD e (l.drop k.toNat))) else none := by
  unfold lstD sliceV sliceN
  simp only [List.length_map, Nat.mul_one, if_true, Option.getD_none, Option.getD_some]
  by_cases hk : 0 ≤ k ∧ k ≤ l.length
  · rw [if_pos hk, if_pos (by omega)]
    simp [cut]
    rw [List.take_of_length_le (by simp)]
  · rw [if_neg hk, if_neg (by omega)]
@[simp] theorem sliceV_all (h : List (Nat × Blk)) (e : α → D) (l : List α) : sliceV h (.d (lstD e l)) none none 1 = some (.d (lstD e l)) := by
  unfold lstD sliceV sliceN
  simp [cut]
  rw [List.take_of_length_le (by simp)]
@[simp] theorem flat_lst (e : α → D) (l : List α) : D.flat (lstD e l) = false := rfl
@[simp high] theorem splice_one (e : α → D) (l : List α) (n : Nat) (v : α) (h : n < l.length) : splice n [e v] (l.map e) = (l.set n v).map e := by
  unfold splice
  apply List.ext_getElem?
  intro k
  simp only [List.map_set, List.getElem?_set, List.length_map, List.length_singleton]
  by_cases hk : k < n
  · rw [List.append_assoc, List.getElem?_append_left (by simp; omega), if_neg (by omega), List.getElem?_take, if_pos hk]
  · by_cases he : k = n
    · subst he
      rw [if_pos rfl, if_pos (by omega), List.append_assoc, List.getElem?_append_right (by simp; omega)]
      simp [Nat.min_eq_left (Nat.le_of_lt h)]
    · rw [if_neg (fun h => he h.symm), List.getElem?_append_right (by simp; omega), List.getElem?_drop]
      congr 1
      simp
      omega
theorem splice_all {α : Type} {new l : List α} (h : new.length = l.length) : splice 0 new l = new := by
  unfold splice
  rw [List.take_zero, Nat.zero_add, List.drop_of_length_le (by omega)]
  simp
@[simp high] theorem rep_u16 (n : Nat) : rep n [D.int .u16 0] = (List.replicate n 0).map u16 := by
  induction n with
  | zero => rfl
  | succ n ih => rw [rep, ih, List.replicate_succ]; rfl
@[simp] theorem rep_one (e : α → D) (n : Nat) (z : α) : rep n [e z] = (List.replicate n z).map e := by
  induction n with
  | zero => rfl
  | succ n ih => rw [rep, ih, List.replicate_succ]; rfl
end

@[simp] theorem take_map_len {α β : Type} (e : α → β) (l : List α) : (l.map e).take l.length = l.map e := List.take_of_length_le (by simp)
@[simp] theorem take_twice {α : Type} (n : Nat) (l : List α) : (l.take n).take n = l.take n := by rw [List.take_take, Nat.min_self]
/-! ### numbers that wrap -/
theorem wrap_i64 {n : Int} (h : -9223372036854775808 ≤ n ∧ n ≤ 9223372036854775807) : IntKind.i64.wrap n = n := by
  have e : IntKind.i64.wrap n = if n % 2 ^ 64 ≥ 2 ^ (64 - 1) then n % 2 ^ 64 - 2 ^ 64 else n % 2 ^ 64 := by
    unfold IntKind.wrap
    simp [IntKind.signed, IntKind.bits]
  rw [e]
  split <;> omega
@[simp] theorem wrap_i64_16 {n : Nat} (h : n < 65536) : IntKind.i64.wrap (n : Int) = n := wrap_i64 (by omega)
@[simp] theorem wrap_u16_0 : IntKind.u16.wrap 0 = 0 := by decide
@[simp] theorem wrap_u32_0 : IntKind.u32.wrap 0 = 0 := by decide
@[simp] theorem wrap_u64_0 : IntKind.u64.wrap 0 = 0 := by decide
@[simp] theorem wrap_i64_0 : IntKind.i64.wrap 0 = 0 := by decide
@[simp] theorem wrap_u8 (n : Nat) : IntKind.u8.wrap (n : Int) = ((n % 256 : Nat) : Int) := by simp [IntKind.wrap, IntKind.signed, IntKind.bits]
@[simp] theorem wrap_u16 (n : Nat) : IntKind.u16.wrap (n : Int) = ((n % 65536 : Nat) : Int) := by simp [IntKind.wrap, IntKind.signed, IntKind.bits]
@[simp] theorem wrap_u32 (n : Nat) : IntKind.u32.wrap (n : Int) = ((n % 4294967296 : Nat) : Int) := by simp [IntKind.wrap, IntKind.signed, IntKind.bits]
@[simp] theorem wrap_u64 (n : Nat) : IntKind.u64.wrap (n : Int) = ((n % 18446744073709551616 : Nat) : Int) := by simp [IntKind.wrap, IntKind.signed, IntKind.bits]
theorem shrI_nat (k : IntKind) (a n : Nat) (h : n ≤ k.bits) : shrI k (a : Int) (n : Int) = ((a / 2 ^ n : Nat) : Int) := by
  unfold shrI
  rw [Int.toNat_natCast, Nat.min_eq_left h, Int.fdiv_eq_ediv_of_nonneg _ (by exact_mod_cast Nat.zero_le _)]
  simp
theorem shlI_u64 (a n : Nat) (h : n ≤ 64) : shlI .u64 (a : Int) (n : Int) = ((a * 2 ^ n % 18446744073709551616 : Nat) : Int) := by
  unfold shlI
  rw [Int.toNat_natCast, Nat.min_eq_left (show n ≤ IntKind.u64.bits from h), ← wrap_u64]
  congr 1
theorem orI_u64 (a b : Nat) (ha : a < 18446744073709551616) (hb : b < 18446744073709551616) : orI .u64 (a : Int) (b : Int) = ((a ||| b : Nat) : Int) := by
  unfold orI
  show IntKind.u64.wrap (((BitVec.ofInt 64 (a : Int) ||| BitVec.ofInt 64 (b : Int)).toNat : Nat) : Int) = _
  have hl : a ||| b < 2 ^ 64 := Nat.or_lt_two_pow (n := 64) ha hb
  rw [wrap_u64, BitVec.ofInt_natCast, BitVec.ofInt_natCast, BitVec.toNat_or, BitVec.toNat_ofNat, BitVec.toNat_ofNat, Nat.mod_eq_of_lt (a := a) ha, Nat.mod_eq_of_lt (a := b) hb, Nat.mod_eq_of_lt (a := a ||| b) hl]
/-- A limb put on top: shifting is multiplying, 'or' is adding. -/
theorem or_top (m x n : Nat) (hm : m < 2 ^ n) : m ||| 2 ^ n * x = m + 2 ^ n * x := by
  rw [Nat.or_comm, ← Nat.two_pow_add_eq_or_of_lt hm, Nat.add_comm]

/-! ### numbers that are not negative are kept as natural numbers -/
section
variable (a b n : Nat)
theorem Jb : (a : Int) + (b : Int) = ((a + b : Nat) : Int) := rfl
theorem Jc {c : Int} (h : 0 ≤ c) : (a : Int) + c = ((a + c.toNat : Nat) : Int) := by omega
theorem Jd {c : Int} (h : 0 ≤ c) : c + (a : Int) = ((c.toNat + a : Nat) : Int) := by omega
theorem Je : (a : Int) * (b : Int) = ((a * b : Nat) : Int) := rfl
theorem Jf {c : Int} (h : 0 ≤ c) : (a : Int) * c = ((a * c.toNat : Nat) : Int) := by
  obtain ⟨n, rfl⟩ := Int.eq_ofNat_of_zero_le h; rfl
theorem Jg {c : Int} (h : 0 ≤ c) : c * (a : Int) = ((c.toNat * a : Nat) : Int) := by
  obtain ⟨n, rfl⟩ := Int.eq_ofNat_of_zero_le h; rfl
theorem Jh : (a : Int) % (b : Int) = ((a % b : Nat) : Int) := (Int.natCast_emod a b).symm
theorem Ji {c : Int} (h : 0 ≤ c) : (a : Int) % c = ((a % c.toNat : Nat) : Int) := by
  obtain ⟨n, rfl⟩ := Int.eq_ofNat_of_zero_le h; exact Jh a n
theorem Jj : (a : Int).tmod (b : Int) = ((a % b : Nat) : Int) := by rw [Int.tmod_eq_emod_of_nonneg (Int.natCast_nonneg a), Int.natCast_emod]
theorem Jk {c : Int} (h : 0 ≤ c) : (a : Int).tmod c = ((a % c.toNat : Nat) : Int) := by
  obtain ⟨n, rfl⟩ := Int.eq_ofNat_of_zero_le h; exact Jj a n
theorem Jl : (a : Int).tdiv (b : Int) = ((a / b : Nat) : Int) := by rw [Int.tdiv_eq_ediv_of_nonneg (Int.natCast_nonneg a), Int.natCast_ediv]
theorem Jm {c : Int} (h : 0 ≤ c) : (a : Int).tdiv c = ((a / c.toNat : Nat) : Int) := by
  obtain ⟨n, rfl⟩ := Int.eq_ofNat_of_zero_le h; exact Jl a n
theorem Jn : (a : Int) / (b : Int) = ((a / b : Nat) : Int) := (Int.natCast_ediv a b).symm
theorem Jo {c : Int} (h : 0 ≤ c) : (a : Int) / c = ((a / c.toNat : Nat) : Int) := by
  obtain ⟨n, rfl⟩ := Int.eq_ofNat_of_zero_le h; exact Jn a n
theorem Jp (k : IntKind) {c : Int} (h : 0 ≤ c) : shrI k (a : Int) c = ((a / 2 ^ min c.toNat k.bits : Nat) : Int) := by
  unfold shrI
  rw [Int.fdiv_eq_ediv_of_nonneg _ (Int.pow_nonneg (by omega))]
  simp
theorem Jq : ((n + 1 : Nat) : Int) - 1 = (n : Int) := by omega
theorem Jr {c : Int} (h : 0 ≤ c) : ((a : Int) ≤ c) = (a ≤ c.toNat) := propext ⟨fun _ => by omega, fun _ => by omega⟩
theorem Js {c : Int} (h : 0 ≤ c) : (c ≤ (a : Int)) = (c.toNat ≤ a) := propext ⟨fun _ => by omega, fun _ => by omega⟩
theorem Jt {c : Int} (h : 0 ≤ c) : ((a : Int) < c) = (a < c.toNat) := propext ⟨fun _ => by omega, fun _ => by omega⟩
theorem Ju {c : Int} (h : 0 ≤ c) : (c < (a : Int)) = (c.toNat < a) := propext ⟨fun _ => by omega, fun _ => by omega⟩
theorem Jv {c : Int} (h : 0 ≤ c) : ((a : Int) = c) = (a = c.toNat) := propext ⟨fun _ => by omega, fun _ => by omega⟩
theorem Jw {c : Int} (h : 0 ≤ c) : (c = (a : Int)) = (c.toNat = a) := propext ⟨fun _ => by omega, fun _ => by omega⟩
theorem Jx : ((a : Int) = (b : Int)) = (a = b) := propext Int.ofNat_inj
theorem Jy {c : Int} (h : c ≤ 0) : (c ≤ (a : Int)) = True := eq_true (by omega)
theorem Jz : ((0 : Int) ≤ (a : Int)) = True := eq_true (Int.natCast_nonneg a)
end
@[simp] theorem lst_fold {α : Type} (e : α → D) (l : List α) : D.slice l.length (l.map e) = lstD e l := rfl
theorem Ja (l : List Nat) (n v : Nat) : (l.map u16).set n (D.int .u16 (v : Int)) = (l.set n v).map u16 := by rw [List.map_set]; rfl
theorem u16_0 : u16 0 = D.int .u16 0 := rfl
@[simp high] theorem splice_u16 (n v : Nat) (l : List Nat) (h : n < l.length) : splice n [D.int .u16 (v : Int)] (l.map u16) = (l.set n v).map u16 := splice_one u16 l n v h
end Go.Va

/-
  Contracts: natural numbers.
-/
namespace Go.Va
open Go.Proofs
set_option maxHeartbeats 4000000
set_option linter.unusedSimpArgs false

theorem get_some {α : Type} {a : List α} {n : Nat} (h : n < a.length) : ∃ x, a[n]? = some x := ⟨_, List.getElem?_eq_getElem h⟩

theorem trim_c (a : List Nat) (ha : Ok a) (hl : a.length ≤ 1099511627776) : CallsF Tryz.prog 240 [.c (natD a)] (.u (.c (.d (natD (limbs (val a)))))) := by
  rw [← take_trim a ha]
  refine callsF_of (T := tb) tab_ok mixed Tryz.func240 rfl (by decide) (Nat.le_of_ble_eq_true rfl) rfl ?_; unfold St.init
  simp
  refine wpLoop_of (fun n : Nat => ⟨[(0, vC (.d (natD a))), (3, vI .i64 n)], []⟩) (fun n => n ≤ a.length ∧ trimL a n = trimL a a.length) (fun n => n) a.length
    (by simp) ⟨Nat.le_refl _, rfl⟩ ?_
  rintro n ⟨hn, ht⟩
  cases n with
  | zero =>
    have := ht.symm
    simp [trimL] at this
    simp [this]
  | succ n =>
    obtain ⟨x, hx⟩ := get_some (a := a) (n := n) (by omega)
    have hl := trimL_le a a.length
    simp [hx, u16]
    refine ⟨by omega, by omega, fun h0 => ⟨by omega, n, rfl, ⟨by omega, ?_⟩, by omega⟩, fun h0 => ⟨by omega, ?_⟩⟩
    · rw [← ht]; simp [trimL, hx, h0]
    · rw [← ht]; simp [trimL, hx, h0]

@[simp] theorem lst_nil {α : Type} (e : α → D) : D.slice 0 [] = lstD e [] := rfl

theorem natNorm_c (a : List Nat) (ha : Ok a) (hl : a.length ≤ 1099511627776) : CallsF Tryz.prog 266 [.c (natD a)] (.u (.c (.d (natD (limbs (val a)))))) := by
  refine callsF_of (T := tb) tab_ok mixed Tryz.func266 rfl (by decide) (Nat.le_of_ble_eq_true rfl) rfl ?_; unfold St.init
  simp
  refine .inl ⟨_, trim_c a ha hl, ?_⟩
  have hlen := limbs_len_le a ha
  generalize limbs (val a) = b at hlen
  simp
  refine ⟨fun h => by rw [h]; rfl, fun _ => ⟨by omega, by rw [splice_all (by simp)]; simp, by rw [splice_all (by simp)]; simp⟩⟩

theorem refNorm_c (a : List Nat) (ha : Ok a) (hl : a.length ≤ 1099511627776) : CallsF Tryz.prog 93 [.c (natD a)] (.u (.c (.d (natD (limbs (val a)))))) := by
  rw [← take_trim a ha]
  refine callsF_of (T := tb) tab_ok mixed Tryz.func93 rfl (by decide) (Nat.le_of_ble_eq_true rfl) rfl ?_; unfold St.init
  simp
  refine wpLoop_of (fun n : Nat => ⟨[(0, vC (.d (natD a))), (3, vI .i64 n)], []⟩) (fun n => n ≤ a.length ∧ trimL a n = trimL a a.length) (fun n => n) a.length
    (by simp) ⟨Nat.le_refl _, rfl⟩ ?_
  rintro n ⟨hn, ht⟩
  cases n with
  | zero =>
    have := ht.symm
    simp [trimL] at this
    simp [this]
    rfl
  | succ n =>
    obtain ⟨x, hx⟩ := get_some (a := a) (n := n) (by omega)
    have hl := trimL_le a a.length
    simp [hx, u16]
    refine ⟨by omega, by omega, fun h0 => ⟨by omega, n, rfl, ⟨by omega, ?_⟩, by omega⟩, fun h0 => ⟨by omega, by omega, ?_⟩⟩
    · rw [← ht]; simp [trimL, hx, h0]
    · rw [← ht, Nat.min_eq_left hn]; simp [trimL, hx, h0, lstD, Nat.min_eq_left hn]

theorem limb_c (a : List Nat) (ha : Ok a) (i : Nat) (hi : i ≤ 1099511627776) : CallsF Tryz.prog 180 [.c (natD a), .c (.int .i64 i)] (.u (.c (.d (.int .i64 (a.getD i 0))))) := by
  refine callsF_of (T := tb) tab_ok mixed Tryz.func180 rfl (by decide) (Nat.le_of_ble_eq_true rfl) rfl ?_; unfold St.init
  by_cases h : i < a.length
  · have hx' := ha.get (List.getElem?_eq_getElem h)
    simp [u16, h, hx']
  · simp [h]

end Go.Va

/-
  Contracts: natural numbers, second part.
-/
namespace Go.Va
open Go.Proofs
set_option maxHeartbeats 4000000
set_option linter.unusedSimpArgs false

theorem natOf_c (n : Nat) (hn : n < 18446744073709551616) : CallsF Tryz.prog 247 [.c (.int .u64 n)] (.u (.c (.d (natD (limbs n))))) := by
  refine callsF_of (T := tb) tab_ok mixed Tryz.func247 rfl (by decide) (Nat.le_of_ble_eq_true rfl) rfl ?_; unfold St.init
  simp
  refine wpLoop_by [(3, 12)] (fun p : List Nat × Nat => ⟨[(0, vI .u64 p.2), (3, vC (.sl 3 0 p.1.length))], [(3, .row 1 (p.1.map u16) true)]⟩)
    (fun p => limbs n = p.1 ++ limbs p.2 ∧ p.2 < 18446744073709551616 ∧ p.1.length + (limbs p.2).length ≤ 4) (fun p => p.2) ([], n)
    (by simp) ⟨rfl, hn, by simpa using (limbs4 n).2 hn⟩ ?_
  rintro ⟨l, m⟩ ⟨h1, h2, h3⟩
  by_cases hm : m = 0
  · subst hm
    simp
    rw [h1]; simp [limbs_zero]
  · rw [limbs_pos hm] at h1 h3
    simp only [List.length_cons] at h1 h2 h3
    simp [hm]
    refine fun _ => ⟨by omega, l ++ [m % 65536], m / 65536, ⟨⟨shrI_nat .u64 m 16 (by decide), by simp⟩, by simp [u16]⟩, ⟨by rw [h1]; simp, by omega, by simp; omega⟩, by omega⟩

theorem refOf_c (n : Nat) (hn : n < 18446744073709551616) : CallsF Tryz.prog 47 [.c (.int .u64 n)] (.u (.c (.d (natD (limbs n))))) := by
  refine callsF_of (T := tb) tab_ok mixed Tryz.func47 rfl (by decide) (Nat.le_of_ble_eq_true rfl) rfl ?_; unfold St.init
  simp
  refine wpLoop_by [(3, 11)] (fun p : List Nat × Nat => ⟨[(0, vI .u64 p.2), (3, vC (.sl 3 0 p.1.length))], [(3, .row 1 (p.1.map u16) true)]⟩)
    (fun p => limbs n = p.1 ++ limbs p.2 ∧ p.2 < 18446744073709551616 ∧ p.1.length + (limbs p.2).length ≤ 4) (fun p => p.2) ([], n)
    (by simp) ⟨rfl, hn, by simpa using (limbs4 n).2 hn⟩ ?_
  rintro ⟨l, m⟩ ⟨h1, h2, h3⟩
  by_cases hm : m = 0
  · subst hm
    simp
    rw [h1]; simp [limbs_zero]
  · rw [limbs_pos hm] at h1 h3
    simp only [List.length_cons] at h1 h2 h3
    have e1 : (m : Int).tmod 65536 = ((m % 65536 : Nat) : Int) := by rw [Int.tmod_eq_emod_of_nonneg (by omega)]; omega
    simp [hm, e1]
    refine fun _ => ⟨by omega, l ++ [m % 65536], m / 65536, ⟨⟨by omega, by simp⟩, by simp [u16]; rw [show (m : Int) % 65536 = ((m % 65536 : Nat) : Int) by omega, wrap_u16]; omega⟩, ⟨by rw [h1]; simp, by omega, by simp; omega⟩, by omega⟩

theorem cmp3_self (a : Nat) : cmp3 a a = 0 := by simp [cmp3]
theorem cmp3_lt {a b : Nat} (h : a < b) : cmp3 a b = -1 := by simp [cmp3, h]
theorem cmp3_gt {a b : Nat} (h : b < a) : cmp3 a b = 1 := by simp [cmp3, h]; omega

theorem natCmp_c (a b : List Nat) (ha : Ok a) (hl : a.length ≤ 1099511627776) (hb : Ok b) (hm : b.length ≤ 1099511627776) : CallsF Tryz.prog 228 [.c (natD a), .c (natD b)] (.u (.c (.d (.int .i64 (cmp3 (val a) (val b)))))) := by
  refine callsF_of (T := tb) tab_ok mixed Tryz.func228 rfl (by decide) (Nat.le_of_ble_eq_true rfl) rfl ?_; unfold St.init
  simp
  refine .inl ⟨_, trim_c a ha hl, ?_⟩
  simp
  refine .inl ⟨_, trim_c b hb hm, ?_⟩
  have hla := limbs_len_le a ha
  have hlb := limbs_len_le b hb
  have oa := ok_limbs (val a)
  have ob := ok_limbs (val b)
  have va := val_limbs (val a)
  have vb := val_limbs (val b)
  have sa := limbs_lt_of_len (a := val a) (b := val b)
  have sb := limbs_lt_of_len (a := val b) (b := val a)
  generalize limbs (val a) = x at *
  generalize limbs (val b) = y at *
  simp
  refine ⟨fun hne => ⟨fun h => ?_, fun h => ?_⟩, fun he => ?_⟩
  · rw [cmp3_lt (sa h)]
  · rw [cmp3_gt (sb (by omega))]
  refine ⟨by omega, ?_⟩
  refine wpLoop_of (fun n : Nat => ⟨[(0, vC (.d (natD x))), (1, vC (.d (natD y))), (5, vI .i64 ((n : Int) - 1))], []⟩) (fun n => n ≤ x.length ∧ ∀ j, n ≤ j → x.getD j 0 = y.getD j 0) (fun n => n) x.length
    (by simp) ⟨Nat.le_refl _, fun j hj => ?_⟩ ?_
  · rw [List.getD_eq_getElem?_getD, List.getD_eq_getElem?_getD, List.getElem?_eq_none hj, List.getElem?_eq_none (by omega)]
  rintro n ⟨hn, ht⟩
  cases n with
  | zero =>
    simp
    rw [← va, ← vb, val_congr x y fun j => ht j (by omega), cmp3_self]
  | succ n =>
    obtain ⟨p, hp⟩ := get_some (a := x) (n := n) (by omega)
    obtain ⟨q, hq⟩ := get_some (a := y) (n := n) (by omega)
    simp
    refine wpDraw_by [[], [], [0, 1], [0, 1, 2], [], [], [4, 5], [4, 5, 6], [0, 1, 2, 3, 4, 5, 6, 7]] [.any [] [] [⟨0, [0], [], [], []⟩, ⟨0, [5], [], [], []⟩, ⟨0, [27, 28], [], [], []⟩, ⟨0, [29], [], [], []⟩, ⟨0, [1], [], [], []⟩, ⟨0, [5], [], [], []⟩, ⟨0, [31, 32], [], [], []⟩, ⟨0, [33], [], [], []⟩], .one] (by rfl) ?_
    simp [hp, hq, u16]
    have gp : x.getD n 0 = p := by rw [List.getD_eq_getElem?_getD, hp]; rfl
    have gq : y.getD n 0 = q := by rw [List.getD_eq_getElem?_getD, hq]; rfl
    refine ⟨by omega, by omega, fun h => ?_, fun h => ?_⟩
    · rw [← va, ← vb, cmp3_lt (val_lt_of n x y oa ob (fun j hj => ht j hj) (by rw [gp, gq]; exact h))]
    refine wpDraw_by [[], [], [0, 1], [0, 1, 2], [], [], [4, 5], [4, 5, 6], [0, 1, 2, 3, 4, 5, 6, 7]] [.any [] [] [⟨0, [0], [], [], []⟩, ⟨0, [5], [], [], []⟩, ⟨0, [36, 37], [], [], []⟩, ⟨0, [38], [], [], []⟩, ⟨0, [1], [], [], []⟩, ⟨0, [5], [], [], []⟩, ⟨0, [40, 41], [], [], []⟩, ⟨0, [42], [], [], []⟩], .one] (by rfl) ?_
    simp [hp, hq, u16]
    refine ⟨by omega, by omega, fun h => ?_, fun h => ⟨by omega, n, rfl, ⟨by omega, ?_⟩, by omega⟩⟩
    · rw [← va, ← vb, cmp3_gt (val_lt_of n y x ob oa (fun j hj => (ht j hj).symm) (by rw [gp, gq]; exact h))]
    · intro j hj
      rw [← List.getD_eq_getElem?_getD, ← List.getD_eq_getElem?_getD]
      rcases Nat.eq_or_lt_of_le hj with h1 | h1
      · rw [← h1, gp, gq]; omega
      · exact ht j h1

set_option linter.unusedVariables false in
theorem refCmp_c (a b : List Nat) (ha : Ok a) (hl : a.length ≤ 1099511627776) (hb : Ok b) (hm : b.length ≤ 1099511627776) : CallsF Tryz.prog 175 [.c (natD a), .c (natD b)] (.u (.c (.d (.int .i64 (cmp3 (val a) (val b)))))) := by
  refine callsF_of (T := tb) tab_ok mixed Tryz.func175 rfl (by decide) (Nat.le_of_ble_eq_true rfl) rfl ?_; unfold St.init
  simp
  refine ⟨by split <;> omega, ?_⟩
  refine wpLoop_of (fun n : Nat => ⟨[(0, vC (.d (natD a))), (1, vC (.d (natD b))), (5, vI .i64 ((n : Int) - 1))], []⟩) (fun n => n ≤ 1099511627776 ∧ ∀ j, n ≤ j → a.getD j 0 = b.getD j 0) (fun n => n) (max a.length b.length)
    (by simp; split <;> omega) ⟨by omega, fun j hj => ?_⟩ ?_
  · rw [List.getD_eq_getElem?_getD, List.getD_eq_getElem?_getD, List.getElem?_eq_none (by omega), List.getElem?_eq_none (by omega)]
  rintro n ⟨hn, ht⟩
  cases n with
  | zero =>
    simp
    rw [val_congr a b fun j => ht j (by omega), cmp3_self]
  | succ n =>
    simp
    refine .inl ⟨_, limb_c a ha n (by omega), ?_⟩
    simp
    refine .inl ⟨_, limb_c b hb n (by omega), ?_⟩
    simp
    refine ⟨fun h => ?_, fun h => .inl ⟨_, limb_c a ha n (by omega), ?_⟩⟩
    · rw [cmp3_lt (val_lt_of n a b ha hb (fun j hj => ht j hj) (by simpa using h))]
    simp
    refine .inl ⟨_, limb_c b hb n (by omega), ?_⟩
    simp
    refine ⟨fun h2 => ?_, fun h2 => ⟨by omega, n, rfl, ⟨by omega, fun j hj => ?_⟩, by omega⟩⟩
    · rw [cmp3_gt (val_lt_of n b a hb ha (fun j hj => (ht j hj).symm) (by simpa using h2))]
    · rcases Nat.eq_or_lt_of_le hj with h1 | h1
      · rw [← h1]; omega
      · simpa using ht j h1

theorem pow16 (i : Nat) : 65536 ^ i = 2 ^ (16 * i) := by
  rw [Nat.pow_mul]
/-- A limb put on top by shifting and 'or'. -/
theorem or_limb (m x i : Nat) (hm : m < 65536 ^ i) (hx : x < 65536) (hi : i < 4) : orI .u64 (m : Int) (shlI .u64 ((x % 18446744073709551616 : Nat) : Int) ((16 * i : Nat) : Int)) = ((m + 65536 ^ i * x : Nat) : Int) := by
  have hp : 65536 ^ i * 65536 ≤ 18446744073709551616 := by
    rw [← pow65536_4, ← Nat.pow_succ]
    exact Nat.pow_le_pow_right (by omega) (by omega)
  have h1 : 65536 ^ i * x + 65536 ^ i ≤ 18446744073709551616 := by
    have : 65536 ^ i * (x + 1) ≤ 65536 ^ i * 65536 := Nat.mul_le_mul_left _ (by omega)
    rw [Nat.mul_add, Nat.mul_one] at this
    omega
  rw [Nat.mod_eq_of_lt (a := x) (by omega), shlI_u64 _ _ (by omega), ← pow16, Nat.mul_comm x, Nat.mod_eq_of_lt (by omega), orI_u64 _ _ (by omega) (by omega)]
  rw [pow16] at hm ⊢
  rw [or_top _ _ _ hm]

def fits64 (n : Nat) : Bool := decide (n < 18446744073709551616)
def keep64 (n : Nat) : Nat := if fits64 n then n else 0
theorem fits64_iff {n : Nat} : fits64 n = true ↔ n < 18446744073709551616 := by simp [fits64]
theorem uint_c (a : List Nat) (ha : Ok a) (hl : a.length ≤ 1099511627776) : CallsF Tryz.prog 267 [.c (natD a)]
    (.tup [.c (.d (.int .u64 (keep64 (val a)))), .c (.d (.bool (fits64 (val a))))]) := by
  refine callsF_of (T := tb) tab_ok mixed Tryz.func267 rfl (by decide) (Nat.le_of_ble_eq_true rfl) rfl ?_; unfold St.init
  simp
  refine .inl ⟨_, trim_c a ha hl, ?_⟩
  have hla := limbs_len_le a ha
  have oa := ok_limbs (val a)
  have va := val_limbs (val a)
  have h4 : (limbs (val a)).length ≤ 4 ↔ fits64 (val a) = true := by rw [fits64_iff]; exact limbs4 (val a)
  generalize limbs (val a) = x at *
  simp
  refine ⟨fun h => ?_, fun h => ?_⟩
  · have : fits64 (val a) = false := by cases hf : fits64 (val a) with | false => rfl | true => have := h4.2 hf; omega
    rw [this]; simp [keep64, this]
  have hv := h4.1 (by omega)
  refine wpLoop_of (fun n : Nat => ⟨[(14, vI .i64 n), (13, vI .i64 x.length), (12, vC (.d (natD x))), (4, vI .u64 (val (x.take n) : Nat))], []⟩) (fun n => n ≤ x.length) (fun n => x.length - n) 0
    (by simp [val]) (by omega) ?_
  intro n hn
  by_cases hlt : n < x.length
  · obtain ⟨p, hp⟩ := get_some hlt
    have hp' := oa.get hp
    have e : x[n]? = some x[n] := List.getElem?_eq_getElem hlt
    rw [hp] at e
    cases e
    have hn4 : n < 4 := by omega
    have hb := val_lt_pow (x.take n) (oa.take n)
    rw [List.length_take, Nat.min_eq_left (by omega)] at hb
    simp [hlt, u16]
    refine ⟨by omega, by omega, by omega, n + 1, ⟨by omega, ?_⟩, by omega, by omega⟩
    rw [val_take_succ hlt, List.getD_eq_getElem?_getD, hp]
    exact or_limb _ _ n hb hp' hn4
  · simp [hlt]
    rw [List.take_of_length_le (by omega), va]
    simp [keep64, hv]

theorem short_c (a : List Nat) (ha : Ok a) (hl : a.length ≤ 4) : CallsF Tryz.prog 177 [.c (natD a)] (.u (.c (.d (.int .u64 (val a))))) := by
  refine callsF_of (T := tb) tab_ok mixed Tryz.func177 rfl (by decide) (Nat.le_of_ble_eq_true rfl) rfl ?_; unfold St.init
  simp
  refine ⟨by omega, ?_⟩
  refine wpLoop_of (fun n : Nat => ⟨[(0, vC (.d (natD a))), (3, vI .u64 (val (a.drop n) : Nat)), (4, vI .i64 ((n : Int) - 1))], []⟩) (fun n => n ≤ a.length) (fun n => n) a.length
    (by simp [val]) (Nat.le_refl _) ?_
  intro n hn
  cases n with
  | zero => simp
  | succ n =>
    have hlt : n < a.length := by omega
    have hp := ha.get (List.getElem?_eq_getElem hlt)
    simp [hlt, u16]
    refine ⟨by omega, n, ⟨?_, rfl⟩, by omega, by omega⟩
    have hb := val_lt_pow (a.drop n) (ha.drop n)
    have h4 : 65536 ^ (a.drop n).length ≤ 65536 ^ 4 := Nat.pow_le_pow_right (by omega) (by simp; omega)
    rw [pow65536_4] at h4
    rw [val_drop hlt, List.getD_eq_getElem?_getD, List.getElem?_eq_getElem hlt] at hb ⊢
    simp only [Option.getD_some] at hb ⊢
    omega

/-- No leading zero. -/
def lastOk (a : List Nat) : Bool := decide (a.getLast? ≠ some 0)
theorem one_c (a : List Nat) : CallsF Tryz.prog 234 [.c (natD a)] (.u (.c (.d (.bool (decide (a = [1])))))) := by
  refine callsF_of (T := tb) tab_ok mixed Tryz.func234 rfl (by decide) (Nat.le_of_ble_eq_true rfl) rfl ?_; unfold St.init
  cases a with
  | nil => simp
  | cons x a =>
    simp [u16]
    have e1 : decide ((a.length : Int) + 1 = 1) = decide (a = []) := by
      rw [decide_eq_decide, ← List.length_eq_zero_iff]; omega
    have e2 : decide ((x : Int) = 1) = decide (x = 1) := by rw [decide_eq_decide]; omega
    rw [e1, e2, Bool.and_comm]

theorem unit_c : CallsF Tryz.prog 170 [] (.u (.c (.d (natD [1])))) := by
  refine callsF_of (T := tb) tab_ok mixed Tryz.func170 rfl (by decide) (Nat.le_of_ble_eq_true rfl) rfl ?_; unfold St.init
  simp
  rfl
end Go.Va

/-
  Numbers in base 65536: one step of a product; one of a quotient by a limb; greatest common divisors.
-/
namespace Go.Va

/-- One step of the school's product: 'c' is what is carried, 'p' the place's weight. -/
theorem mul_step {p c o x y v v' V : Nat} (h : v + p * c = V) (hs : v' + p * o = v + p * ((c + (o + x * y)) % 65536)) :
    v' + p * 65536 * ((c + (o + x * y)) / 65536) = V + p * (x * y) := by
  have h1 := Nat.div_add_mod (c + (o + x * y)) 65536
  generalize (c + (o + x * y)) / 65536 = q at *
  generalize (c + (o + x * y)) % 65536 = r at *
  have h2 : p * 65536 * q + p * r = p * c + p * o + p * (x * y) := by
    rw [Nat.mul_assoc, ← Nat.mul_add, h1, Nat.mul_add, Nat.mul_add]; omega
  omega
theorem mul_step' {p c o x y v v' V : Nat} (h : v + p * c = V) (hs : v' + p * o = v + p * ((o + x * y + c) % 65536)) :
    v' + p * 65536 * ((o + x * y + c) / 65536) = V + p * (x * y) := by
  rw [Nat.add_comm (o + x * y) c] at *
  exact mul_step h hs
/-- The school's product, one step, with the places' weights. -/
theorem mul_go {i k c o x y v v' V : Nat} {b : List Nat} (h : v + 65536 ^ (i + k) * c = V + 65536 ^ i * (x * val (b.take k))) (hs : v' + 65536 ^ (i + k) * o = v + 65536 ^ (i + k) * ((o + x * y + c) % 65536))
    (hT : val (b.take (k + 1)) = val (b.take k) + 65536 ^ k * y) : v' + 65536 ^ (i + (k + 1)) * ((o + x * y + c) / 65536) = V + 65536 ^ i * (x * val (b.take (k + 1))) := by
  have := mul_step' h hs
  have e : 65536 ^ (i + (k + 1)) = 65536 ^ (i + k) * 65536 := by rw [← Nat.add_assoc, Nat.pow_succ]
  rw [e, this, hT, Nat.pow_add]
  simp only [Nat.mul_add, Nat.add_assoc, Nat.mul_left_comm, Nat.mul_assoc]
end Go.Va

/-
  Contracts: products.
-/
namespace Go.Va
open Go.Proofs
set_option maxHeartbeats 4000000
set_option maxRecDepth 10000
set_option linter.unusedSimpArgs false

theorem natMul_c (a b : List Nat) (ha : Ok a) (hl : a.length ≤ 274877906944) (hb : Ok b) (hm : b.length ≤ 274877906944) : CallsF Tryz.prog 230 [.c (natD a), .c (natD b)] (.u (.c (.d (natD (limbs (val a * val b)))))) := by
  refine callsF_of (T := tb) tab_ok mixed Tryz.func230 rfl (by decide) (Nat.le_of_ble_eq_true rfl) rfl ?_; unfold St.init
  simp (maxSteps := 2000000) -implicitDefEqProofs [-List.map_set, Ja, -Int.natCast_add, -Int.natCast_mul, -Int.natCast_emod, -Int.natCast_ediv, -Int.natCast_pow, Jb, Jc, Jd, Je, Jf, Jg, Jh, Ji, Jj, Jk, Jl, Jm, Jn, Jo, Jp, Jq, Jr, Js, Jt, Ju, Jv, Jw, Jx, Jy, Jz]
  refine .inl ⟨_, trim_c a ha (by omega), ?_⟩
  simp (maxSteps := 2000000) -implicitDefEqProofs [-List.map_set, Ja, -Int.natCast_add, -Int.natCast_mul, -Int.natCast_emod, -Int.natCast_ediv, -Int.natCast_pow, Jb, Jc, Jd, Je, Jf, Jg, Jh, Ji, Jj, Jk, Jl, Jm, Jn, Jo, Jp, Jq, Jr, Js, Jt, Ju, Jv, Jw, Jx, Jy, Jz]
  refine .inl ⟨_, trim_c b hb (by omega), ?_⟩
  have hla := limbs_len_le a ha
  have hlb := limbs_len_le b hb
  have oa := ok_limbs (val a)
  have ob := ok_limbs (val b)
  have va := val_limbs (val a)
  have vb := val_limbs (val b)
  generalize limbs (val a) = x at *
  generalize limbs (val b) = y at *
  by_cases hx : x = []
  · subst hx; simp; rw [← va, val_nil, Nat.zero_mul]; rfl
  by_cases hy : y = []
  · subst hy; simp [hx]; rw [← vb, val_nil, Nat.mul_zero]; rfl
  have hx0 : x.length ≠ 0 := fun h => hx (List.length_eq_zero_iff.1 h)
  have hy0 : y.length ≠ 0 := fun h => hy (List.length_eq_zero_iff.1 h)
  simp (maxSteps := 2000000) -implicitDefEqProofs [-List.map_set, Ja, -Int.natCast_add, -Int.natCast_mul, -Int.natCast_emod, -Int.natCast_ediv, -Int.natCast_pow, Jb, Jc, Jd, Je, Jf, Jg, Jh, Ji, Jj, Jk, Jl, Jm, Jn, Jo, Jp, Jq, Jr, Js, Jt, Ju, Jv, Jw, Jx, Jy, Jz, hx, hy]
  refine ⟨by omega, by omega, ?_⟩
  refine wpLoop_of (fun p : Nat × List Nat => ⟨[(0, vC (.d (natD x))), (1, vC (.d (natD y))), (29, vC (.d (natD x))), (30, vI .i64 x.length), (31, vI .i64 p.1), (5, vC (.sl 28 0 p.2.length))], [(28, .row 1 (p.2.map u16) true)]⟩)
    (fun p => p.1 ≤ x.length ∧ Ok p.2 ∧ p.2.length = x.length + y.length ∧ val p.2 = val (x.take p.1) * val y ∧ ∀ j, p.1 + y.length ≤ j → p.2.getD j 0 = 0) (fun p => x.length - p.1) (0, List.replicate (x.length + y.length) 0)
    (by simp [u16_0]) ⟨Nat.zero_le _, fun z hz => by rw [List.eq_of_mem_replicate hz]; omega, by simp, by simp [val_zeros, val], fun j _ => by simp [List.getD_eq_getElem?_getD, List.getElem?_replicate]; split <;> rfl⟩ ?_
  rintro ⟨i, o0⟩ ⟨h1, h2, h3, h4, h5⟩
  by_cases hi : i < x.length
  · have hxi := oa.get (List.getElem?_eq_getElem hi)
    simp only at h1 h2 h3 h4 h5
    simp (maxSteps := 2000000) -implicitDefEqProofs [-List.map_set, Ja, -Int.natCast_add, -Int.natCast_mul, -Int.natCast_emod, -Int.natCast_ediv, -Int.natCast_pow, Jb, Jc, Jd, Je, Jf, Jg, Jh, Ji, Jj, Jk, Jl, Jm, Jn, Jo, Jp, Jq, Jr, Js, Jt, Ju, Jv, Jw, Jx, Jy, Jz, hi, u16]
    refine wpLoop_of (fun q : Nat × Nat × List Nat => ⟨[(0, vC (.d (natD x))), (1, vC (.d (natD y))), (29, vC (.d (natD x))), (30, vI .i64 x.length), (31, vI .i64 i), (5, vC (.sl 28 0 q.2.2.length)),
        (6, vI .i64 i), (7, vI .u16 x[i]), (8, vI .u32 q.2.1), (36, vC (.d (natD y))), (37, vI .i64 y.length), (38, vI .i64 q.1)], [(28, .row 1 (q.2.2.map u16) true)]⟩)
      (fun q => q.1 ≤ y.length ∧ q.2.1 < 65536 ∧ Ok q.2.2 ∧ q.2.2.length = x.length + y.length ∧ val q.2.2 + 65536 ^ (i + q.1) * q.2.1 = val o0 + 65536 ^ i * (x[i] * val (y.take q.1)) ∧ ∀ j, i + y.length ≤ j → q.2.2.getD j 0 = 0)
      (fun q => y.length - q.1) (0, 0, o0) (by simp) ⟨Nat.zero_le _, by simp, h2, h3, by simp [val], h5⟩ ?_
    rintro ⟨k, c, o⟩ ⟨g1, g2, g3, g4, g5, g6⟩
    simp only at g1 g2 g3 g4 g5 g6
    by_cases hk : k < y.length
    · have hyk := ob.get (List.getElem?_eq_getElem hk)
      have hik : i + k < o.length := by omega
      have hok := g3.get (List.getElem?_eq_getElem hik)
      simp (maxSteps := 2000000) -implicitDefEqProofs [-List.map_set, Ja, -Int.natCast_add, -Int.natCast_mul, -Int.natCast_emod, -Int.natCast_ediv, -Int.natCast_pow, Jb, Jc, Jd, Je, Jf, Jg, Jh, Ji, Jj, Jk, Jl, Jm, Jn, Jo, Jp, Jq, Jr, Js, Jt, Ju, Jv, Jw, Jx, Jy, Jz, hk, hik, u16]
      have hxy : x[i] * y[k] ≤ 65535 * 65535 := Nat.mul_le_mul (by omega) (by omega)
      have hT : c + (o[i + k] + x[i] * y[k]) < 4294967296 := by omega
      rw [Nat.mod_eq_of_lt hT]
      have hst := val_set (a := o) (i := i + k) (x := (c + (o[i + k] + x[i] * y[k])) % 65536) hik
      rw [List.getD_eq_getElem?_getD, List.getElem?_eq_getElem hik, Option.getD_some] at hst
      have hms := mul_step g5 hst
      refine ⟨by omega, by omega, by omega, k + 1, (c + (o[i + k] + x[i] * y[k])) / 65536, o.set (i + k) ((c + (o[i + k] + x[i] * y[k])) % 65536), ⟨⟨by simp, rfl, rfl⟩, rfl⟩,
        ⟨hk, by omega, g3.set _ (by omega), by simpa using g4, ?_, fun j hj => ?_⟩, by omega⟩
      · have e : 65536 ^ (i + (k + 1)) = 65536 ^ (i + k) * 65536 := by rw [← Nat.add_assoc, Nat.pow_succ]
        rw [e, hms, val_take_succ hk, List.getD_eq_getElem?_getD, List.getElem?_eq_getElem hk, Option.getD_some, Nat.pow_add]
        simp only [Nat.mul_add, Nat.add_assoc, Nat.mul_left_comm, Nat.mul_assoc]
      · have := g6 j hj
        rw [List.getD_eq_getElem?_getD] at this
        rw [List.getElem?_set, if_neg (by omega)]
        exact this
    · have hs : i + y.length < o.length := by omega
      have hk' : k = y.length := by omega
      subst hk'
      simp (maxSteps := 2000000) -implicitDefEqProofs [-List.map_set, Ja, -Int.natCast_add, -Int.natCast_mul, -Int.natCast_emod, -Int.natCast_ediv, -Int.natCast_pow, Jb, Jc, Jd, Je, Jf, Jg, Jh, Ji, Jj, Jk, Jl, Jm, Jn, Jo, Jp, Jq, Jr, Js, Jt, Ju, Jv, Jw, Jx, Jy, Jz, hs, u16]
      have hst := val_set (a := o) (i := i + y.length) (x := c) hs
      have h0 := g6 (i + y.length) (Nat.le_refl _)
      rw [h0] at hst
      refine ⟨by omega, by omega, by omega, i + 1, o.set (i + y.length) c, ⟨⟨rfl, by simp⟩, by rw [Nat.mod_eq_of_lt g2]⟩, ⟨hi, g3.set _ g2, by simpa using g4, ?_, fun j hj => ?_⟩, by omega⟩
      · rw [List.take_length] at g5
        rw [val_take_succ hi, List.getD_eq_getElem?_getD, List.getElem?_eq_getElem hi, Option.getD_some, Nat.add_mul, Nat.mul_assoc, ← h4, ← g5]
        omega
      · have := g6 j (by omega)
        rw [List.getD_eq_getElem?_getD] at this
        rw [List.getElem?_set]
        split
        · omega
        · exact this
  · simp only at h1 h2 h3 h4
    simp (maxSteps := 2000000) -implicitDefEqProofs [-List.map_set, Ja, -Int.natCast_add, -Int.natCast_mul, -Int.natCast_emod, -Int.natCast_ediv, -Int.natCast_pow, Jb, Jc, Jd, Je, Jf, Jg, Jh, Ji, Jj, Jk, Jl, Jm, Jn, Jo, Jp, Jq, Jr, Js, Jt, Ju, Jv, Jw, Jx, Jy, Jz, hi]
    refine .inl ⟨_, trim_c o0 h2 (by omega), ?_⟩
    simp (maxSteps := 2000000) -implicitDefEqProofs [-List.map_set, Ja, -Int.natCast_add, -Int.natCast_mul, -Int.natCast_emod, -Int.natCast_ediv, -Int.natCast_pow, Jb, Jc, Jd, Je, Jf, Jg, Jh, Ji, Jj, Jk, Jl, Jm, Jn, Jo, Jp, Jq, Jr, Js, Jt, Ju, Jv, Jw, Jx, Jy, Jz]
    rw [h4, List.take_of_length_le (by omega), va, vb]

theorem refMul_c (a b : List Nat) (ha : Ok a) (hl : a.length ≤ 274877906944) (hb : Ok b) (hm : b.length ≤ 274877906944) : CallsF Tryz.prog 176 [.c (natD a), .c (natD b)] (.u (.c (.d (natD (limbs (val a * val b)))))) := by
  refine callsF_of (T := tb) tab_ok mixed Tryz.func176 rfl (by decide) (Nat.le_of_ble_eq_true rfl) rfl ?_; unfold St.init
  simp (maxSteps := 2000000) -implicitDefEqProofs [-List.map_set, Ja, -Int.natCast_add, -Int.natCast_mul, -Int.natCast_emod, -Int.natCast_ediv, -Int.natCast_pow, Jb, Jc, Jd, Je, Jf, Jg, Jh, Ji, Jj, Jk, Jl, Jm, Jn, Jo, Jp, Jq, Jr, Js, Jt, Ju, Jv, Jw, Jx, Jy, Jz]
  refine ⟨by omega, by omega, by omega, ?_⟩
  refine wpLoop_of (fun p : Nat × List Nat => ⟨[(0, vC (.d (natD a))), (1, vC (.d (natD b))), (6, vI .i64 p.1), (5, vC (.sl 16 0 p.2.length))], [(16, .row 1 (p.2.map u16) true)]⟩)
    (fun p => p.1 ≤ a.length ∧ Ok p.2 ∧ p.2.length = a.length + b.length + 1 ∧ val p.2 = val (a.take p.1) * val b ∧ ∀ j, p.1 + b.length ≤ j → p.2.getD j 0 = 0) (fun p => a.length - p.1) (0, List.replicate (a.length + b.length + 1) 0)
    (by simp [u16_0, List.replicate_succ]) ⟨Nat.zero_le _, fun z hz => by rw [List.eq_of_mem_replicate hz]; omega, by simp, by simp [val_zeros, val], fun j _ => by simp only [List.getD_eq_getElem?_getD, List.getElem?_replicate]; split <;> rfl⟩ ?_
  rintro ⟨i, o0⟩ ⟨h1, h2, h3, h4, h5⟩
  by_cases hi : i < a.length
  · have hxi := ha.get (List.getElem?_eq_getElem hi)
    simp only at h1 h2 h3 h4 h5
    simp (maxSteps := 2000000) -implicitDefEqProofs [-List.map_set, Ja, -Int.natCast_add, -Int.natCast_mul, -Int.natCast_emod, -Int.natCast_ediv, -Int.natCast_pow, Jb, Jc, Jd, Je, Jf, Jg, Jh, Ji, Jj, Jk, Jl, Jm, Jn, Jo, Jp, Jq, Jr, Js, Jt, Ju, Jv, Jw, Jx, Jy, Jz, hi, u16]
    refine wpLoop_of (fun q : Nat × Nat × List Nat => ⟨[(0, vC (.d (natD a))), (1, vC (.d (natD b))), (6, vI .i64 i), (5, vC (.sl 16 0 q.2.2.length)), (7, vI .u64 q.2.1), (8, vI .i64 q.1)], [(16, .row 1 (q.2.2.map u16) true)]⟩)
      (fun q => q.2.1 < 65536 ∧ Ok q.2.2 ∧ q.2.2.length = a.length + b.length + 1 ∧ val q.2.2 + 65536 ^ (i + q.1) * q.2.1 = val o0 + 65536 ^ i * (a[i] * val (b.take q.1)) ∧
        ((q.1 ≤ b.length ∧ ∀ j, i + b.length ≤ j → q.2.2.getD j 0 = 0) ∨ (q.1 = b.length + 1 ∧ q.2.1 = 0 ∧ ∀ j, i + 1 + b.length ≤ j → q.2.2.getD j 0 = 0)))
      (fun q => b.length + 1 - q.1) (0, 0, o0) (by simp) ⟨by simp, h2, h3, by simp [val], .inl ⟨Nat.zero_le _, h5⟩⟩ ?_
    rintro ⟨k, c, o⟩ ⟨g2, g3, g4, g5, g6⟩
    simp only at g2 g3 g4 g5 g6
    by_cases hk : k < b.length
    · have hyk := hb.get (List.getElem?_eq_getElem hk)
      have hik : i + k < o.length := by omega
      have hok := g3.get (List.getElem?_eq_getElem hik)
      simp (maxSteps := 2000000) -implicitDefEqProofs [-List.map_set, Ja, -Int.natCast_add, -Int.natCast_mul, -Int.natCast_emod, -Int.natCast_ediv, -Int.natCast_pow, Jb, Jc, Jd, Je, Jf, Jg, Jh, Ji, Jj, Jk, Jl, Jm, Jn, Jo, Jp, Jq, Jr, Js, Jt, Ju, Jv, Jw, Jx, Jy, Jz, hk, u16]
      refine wpDraw_by [[], [], [], [1, 2], [0, 1, 2, 3], [0, 1, 2, 3, 4], [0, 1, 2, 3, 4, 5], [], [], [7, 8], [7, 8, 9], [7, 8, 9, 10], [], [], [12, 13], [12, 13, 14], [7, 8, 9, 10, 11, 12, 13, 14, 15], [0, 1, 2, 3, 4, 5, 6, 7, 8, 9, 10, 11, 12, 13, 14, 15, 16], [], [0, 1, 2, 3, 4, 5, 6, 7, 8, 9, 10, 11, 12, 13, 14, 15, 16, 17, 18], [0, 1, 2, 3, 4, 5, 6, 7, 8, 9, 10, 11, 12, 13, 14, 15, 16, 17, 18, 19]] [.any [] [] [⟨0, [5], [], [], []⟩, ⟨0, [6], [], [], []⟩, ⟨0, [8], [], [], []⟩, ⟨0, [34, 35], [], [], []⟩, ⟨0, [33, 36], [], [], []⟩, ⟨0, [37], [], [], []⟩, ⟨0, [38], [], [], []⟩, ⟨0, [0], [], [], []⟩, ⟨0, [6], [], [], []⟩, ⟨0, [40, 41], [], [], []⟩, ⟨0, [42], [], [], []⟩, ⟨0, [43], [], [], []⟩, ⟨0, [1], [], [], []⟩, ⟨0, [8], [], [], []⟩, ⟨0, [45, 46], [], [], []⟩, ⟨0, [47], [], [], []⟩, ⟨0, [44, 48], [], [], []⟩, ⟨0, [39, 49], [], [], []⟩, ⟨0, [7], [], [], []⟩], .one, .one] (by rfl) ?_
      simp (maxSteps := 2000000) -implicitDefEqProofs [-List.map_set, Ja, -Int.natCast_add, -Int.natCast_mul, -Int.natCast_emod, -Int.natCast_ediv, -Int.natCast_pow, Jb, Jc, Jd, Je, Jf, Jg, Jh, Ji, Jj, Jk, Jl, Jm, Jn, Jo, Jp, Jq, Jr, Js, Jt, Ju, Jv, Jw, Jx, Jy, Jz, hi, hik, u16]
      refine ⟨by omega, _, limb_c b hb k (by omega), ?_⟩
      have hbk : b.getD k 0 = b[k] := by rw [List.getD_eq_getElem?_getD, List.getElem?_eq_getElem hk]; rfl
      rw [hbk]
      simp (maxSteps := 2000000) -implicitDefEqProofs [-List.map_set, Ja, -Int.natCast_add, -Int.natCast_mul, -Int.natCast_emod, -Int.natCast_ediv, -Int.natCast_pow, Jb, Jc, Jd, Je, Jf, Jg, Jh, Ji, Jj, Jk, Jl, Jm, Jn, Jo, Jp, Jq, Jr, Js, Jt, Ju, Jv, Jw, Jx, Jy, Jz, hik, u16]
      have hxy : a[i] * b[k] ≤ 65535 * 65535 := Nat.mul_le_mul (by omega) (by omega)
      have hT : o[i + k] + a[i] * b[k] + c < 4294967296 := by omega
      have hst := val_set (a := o) (i := i + k) (x := (o[i + k] + a[i] * b[k] + c) % 65536) hik
      rw [List.getD_eq_getElem?_getD, List.getElem?_eq_getElem hik, Option.getD_some] at hst
      have hgo := mul_go g5 hst (by rw [val_take_succ hk, hbk])
      have hz : ∀ j, i + b.length ≤ j → o.getD j 0 = 0 := by
        rcases g6 with ⟨_, h⟩ | ⟨h, _⟩
        · exact h
        · omega
      refine ⟨by omega, by omega, by omega, k + 1, (o[i + k] + a[i] * b[k] + c) / 65536, o.set (i + k) ((o[i + k] + a[i] * b[k] + c) % 65536), ⟨⟨by simp, by omega, rfl⟩, rfl⟩,
        ⟨by omega, g3.set _ (by omega), by simpa using g4, hgo, .inl ⟨hk, fun j hj => ?_⟩⟩, by omega⟩
      rw [List.getElem?_set, if_neg (by omega), ← List.getD_eq_getElem?_getD]
      exact hz j hj
    · by_cases hc : 0 < c
      · obtain ⟨hk1, hz⟩ : k ≤ b.length ∧ ∀ j, i + b.length ≤ j → o.getD j 0 = 0 := by
          rcases g6 with h | ⟨_, h, _⟩
          · exact h
          · omega
        obtain rfl : k = b.length := by omega
        have hik : i + b.length < o.length := by omega
        simp (maxSteps := 2000000) -implicitDefEqProofs [-List.map_set, Ja, -Int.natCast_add, -Int.natCast_mul, -Int.natCast_emod, -Int.natCast_ediv, -Int.natCast_pow, Jb, Jc, Jd, Je, Jf, Jg, Jh, Ji, Jj, Jk, Jl, Jm, Jn, Jo, Jp, Jq, Jr, Js, Jt, Ju, Jv, Jw, Jx, Jy, Jz, hc, u16]
        refine wpDraw_by [[], [], [], [1, 2], [0, 1, 2, 3], [0, 1, 2, 3, 4], [0, 1, 2, 3, 4, 5], [], [], [7, 8], [7, 8, 9], [7, 8, 9, 10], [], [], [12, 13], [12, 13, 14], [7, 8, 9, 10, 11, 12, 13, 14, 15], [0, 1, 2, 3, 4, 5, 6, 7, 8, 9, 10, 11, 12, 13, 14, 15, 16], [], [0, 1, 2, 3, 4, 5, 6, 7, 8, 9, 10, 11, 12, 13, 14, 15, 16, 17, 18], [0, 1, 2, 3, 4, 5, 6, 7, 8, 9, 10, 11, 12, 13, 14, 15, 16, 17, 18, 19]] [.any [] [] [⟨0, [5], [], [], []⟩, ⟨0, [6], [], [], []⟩, ⟨0, [8], [], [], []⟩, ⟨0, [34, 35], [], [], []⟩, ⟨0, [33, 36], [], [], []⟩, ⟨0, [37], [], [], []⟩, ⟨0, [38], [], [], []⟩, ⟨0, [0], [], [], []⟩, ⟨0, [6], [], [], []⟩, ⟨0, [40, 41], [], [], []⟩, ⟨0, [42], [], [], []⟩, ⟨0, [43], [], [], []⟩, ⟨0, [1], [], [], []⟩, ⟨0, [8], [], [], []⟩, ⟨0, [45, 46], [], [], []⟩, ⟨0, [47], [], [], []⟩, ⟨0, [44, 48], [], [], []⟩, ⟨0, [39, 49], [], [], []⟩, ⟨0, [7], [], [], []⟩], .one, .one] (by rfl) ?_
        simp (maxSteps := 2000000) -implicitDefEqProofs [-List.map_set, Ja, -Int.natCast_add, -Int.natCast_mul, -Int.natCast_emod, -Int.natCast_ediv, -Int.natCast_pow, Jb, Jc, Jd, Je, Jf, Jg, Jh, Ji, Jj, Jk, Jl, Jm, Jn, Jo, Jp, Jq, Jr, Js, Jt, Ju, Jv, Jw, Jx, Jy, Jz, hi, hik, u16]
        refine ⟨by omega, _, limb_c b hb b.length (by omega), ?_⟩
        have hbk : b.getD b.length 0 = 0 := by simp [List.getD_eq_getElem?_getD]
        have hok : o[i + b.length] = 0 := by
          have := hz (i + b.length) (Nat.le_refl _)
          rwa [List.getD_eq_getElem?_getD, List.getElem?_eq_getElem hik, Option.getD_some] at this
        generalize b.getD b.length 0 = z at *
        simp (maxSteps := 2000000) -implicitDefEqProofs [-List.map_set, Ja, -Int.natCast_add, -Int.natCast_mul, -Int.natCast_emod, -Int.natCast_ediv, -Int.natCast_pow, Jb, Jc, Jd, Je, Jf, Jg, Jh, Ji, Jj, Jk, Jl, Jm, Jn, Jo, Jp, Jq, Jr, Js, Jt, Ju, Jv, Jw, Jx, Jy, Jz, hik, u16]
        subst hbk
        have hst := val_set (a := o) (i := i + b.length) (x := (o[i + b.length] + a[i] * 0 + c) % 65536) hik
        rw [List.getD_eq_getElem?_getD, List.getElem?_eq_getElem hik, Option.getD_some] at hst
        have hgo := mul_go g5 hst (by rw [List.take_of_length_le (by omega), List.take_length, Nat.mul_zero, Nat.add_zero])
        rw [hok, Nat.mul_zero, Nat.add_zero, Nat.zero_add] at *
        have e1 : c / 65536 = 0 := by omega
        rw [e1] at hgo
        refine ⟨by omega, by omega, by omega, b.length + 1, 0, o.set (i + b.length) (c % 65536), ⟨⟨by simp, by omega, rfl⟩, by simp⟩,
          ⟨by omega, g3.set _ (by omega), by simpa using g4, hgo, .inr ⟨rfl, rfl, fun j hj => ?_⟩⟩, by omega⟩
        rw [List.getElem?_set, if_neg (by omega), ← List.getD_eq_getElem?_getD]
        exact hz j (by omega)
      · obtain rfl : c = 0 := by omega
        simp (maxSteps := 2000000) -implicitDefEqProofs [-List.map_set, Ja, -Int.natCast_add, -Int.natCast_mul, -Int.natCast_emod, -Int.natCast_ediv, -Int.natCast_pow, Jb, Jc, Jd, Je, Jf, Jg, Jh, Ji, Jj, Jk, Jl, Jm, Jn, Jo, Jp, Jq, Jr, Js, Jt, Ju, Jv, Jw, Jx, Jy, Jz, hk, u16]
        have hv : val o = val (a.take (i + 1)) * val b := by
          have h6 : b.length ≤ k := by omega
          rw [List.take_of_length_le h6] at g5
          rw [val_take_succ hi, List.getD_eq_getElem?_getD, List.getElem?_eq_getElem hi, Option.getD_some, Nat.add_mul, Nat.mul_assoc, ← h4, ← g5]
          omega
        refine ⟨by omega, i + 1, o, ⟨⟨rfl, rfl⟩, rfl⟩, ⟨hi, g3, g4, hv, fun j hj => ?_⟩, by omega⟩
        rw [← List.getD_eq_getElem?_getD]
        rcases g6 with ⟨_, h⟩ | ⟨_, _, h⟩
        · exact h j (by omega)
        · exact h j hj
  · simp only at h1 h2 h3 h4
    simp (maxSteps := 2000000) -implicitDefEqProofs [-List.map_set, Ja, -Int.natCast_add, -Int.natCast_mul, -Int.natCast_emod, -Int.natCast_ediv, -Int.natCast_pow, Jb, Jc, Jd, Je, Jf, Jg, Jh, Ji, Jj, Jk, Jl, Jm, Jn, Jo, Jp, Jq, Jr, Js, Jt, Ju, Jv, Jw, Jx, Jy, Jz, hi]
    refine .inl ⟨_, refNorm_c o0 h2 (by omega), ?_⟩
    simp (maxSteps := 2000000) -implicitDefEqProofs [-List.map_set, Ja, -Int.natCast_add, -Int.natCast_mul, -Int.natCast_emod, -Int.natCast_ediv, -Int.natCast_pow, Jb, Jc, Jd, Je, Jf, Jg, Jh, Ji, Jj, Jk, Jl, Jm, Jn, Jo, Jp, Jq, Jr, Js, Jt, Ju, Jv, Jw, Jx, Jy, Jz]
    rw [h4, List.take_of_length_le (by omega)]
end Go.Va

/-
  Contracts: integers.
-/
namespace Go.Va
open Go.Proofs
set_option maxHeartbeats 4000000
set_option maxRecDepth 10000
set_option linter.unusedSimpArgs false

def sg (neg : Bool) (n : Nat) : Bool := neg && decide (0 < n)
/-- An integer in its valid form, as the cells of a struct. -/
def intRC (neg : Bool) (n : Nat) : List RC := [.d (.bool (sg neg n)), .d (natD (limbs n))]
def toZ (neg : Bool) (n : Nat) : Int := if neg then -(n : Int) else n
def sgnI (neg : Bool) (n : Nat) : Int := if n = 0 then 0 else if neg then -1 else 1
theorem limbs_pos_len {n : Nat} : 0 < (limbs n).length ↔ 0 < n := by
  rw [List.length_pos_iff, ne_eq, limbs_nil]; omega

theorem refIntOf'_c (neg : Bool) (a : List Nat) (ha : Ok a) (hl : a.length ≤ 1099511627776) : CallsF Tryz.prog 97 [.c (.bool neg), .c (natD a)] (.u (.agg (intRC neg (val a)))) := by
  refine callsF_of (T := tb) tab_ok mixed Tryz.func97 rfl (by decide) (Nat.le_of_ble_eq_true rfl) rfl ?_; unfold St.init
  simp (maxSteps := 2000000) -implicitDefEqProofs [-List.map_set, Ja, -Int.natCast_add, -Int.natCast_mul, -Int.natCast_emod, -Int.natCast_ediv, -Int.natCast_pow, Jb, Jc, Jd, Je, Jf, Jg, Jh, Ji, Jj, Jk, Jl, Jm, Jn, Jo, Jp, Jq, Jr, Js, Jt, Ju, Jv, Jw, Jx, Jy, Jz]
  refine .inl ⟨_, refNorm_c a ha hl, ?_⟩
  have hp := @limbs_pos_len (val a)
  cases neg <;> simp (maxSteps := 2000000) -implicitDefEqProofs [-List.map_set, Ja, -Int.natCast_add, -Int.natCast_mul, -Int.natCast_emod, -Int.natCast_ediv, -Int.natCast_pow, Jb, Jc, Jd, Je, Jf, Jg, Jh, Ji, Jj, Jk, Jl, Jm, Jn, Jo, Jp, Jq, Jr, Js, Jt, Ju, Jv, Jw, Jx, Jy, Jz, intRC, sg, hp]

theorem intOf'_c (neg : Bool) (a : List Nat) (ha : Ok a) (hl : a.length ≤ 1099511627776) : CallsF Tryz.prog 287 [.c (.bool neg), .c (natD a)] (.u (.agg (intRC neg (val a)))) := by
  refine callsF_of (T := tb) tab_ok mixed Tryz.func287 rfl (by decide) (Nat.le_of_ble_eq_true rfl) rfl ?_; unfold St.init
  simp (maxSteps := 2000000) -implicitDefEqProofs [-List.map_set, Ja, -Int.natCast_add, -Int.natCast_mul, -Int.natCast_emod, -Int.natCast_ediv, -Int.natCast_pow, Jb, Jc, Jd, Je, Jf, Jg, Jh, Ji, Jj, Jk, Jl, Jm, Jn, Jo, Jp, Jq, Jr, Js, Jt, Ju, Jv, Jw, Jx, Jy, Jz]
  refine .inl ⟨_, natNorm_c a ha hl, ?_⟩
  have hp := @limbs_pos_len (val a)
  cases neg <;> simp (maxSteps := 2000000) -implicitDefEqProofs [-List.map_set, Ja, -Int.natCast_add, -Int.natCast_mul, -Int.natCast_emod, -Int.natCast_ediv, -Int.natCast_pow, Jb, Jc, Jd, Je, Jf, Jg, Jh, Ji, Jj, Jk, Jl, Jm, Jn, Jo, Jp, Jq, Jr, Js, Jt, Ju, Jv, Jw, Jx, Jy, Jz, intRC, sg, hp]

theorem made_c (neg : Bool) (n : Nat) : CallsF Tryz.prog 229 [.c (.bool neg), .c (natD (limbs n))] (.u (.agg (intRC neg n))) := by
  refine callsF_of (T := tb) tab_ok mixed Tryz.func229 rfl (by decide) (Nat.le_of_ble_eq_true rfl) rfl ?_; unfold St.init
  have hp := @limbs_pos_len n
  cases neg <;> simp (maxSteps := 2000000) -implicitDefEqProofs [-List.map_set, Ja, -Int.natCast_add, -Int.natCast_mul, -Int.natCast_emod, -Int.natCast_ediv, -Int.natCast_pow, Jb, Jc, Jd, Je, Jf, Jg, Jh, Ji, Jj, Jk, Jl, Jm, Jn, Jo, Jp, Jq, Jr, Js, Jt, Ju, Jv, Jw, Jx, Jy, Jz, intRC, sg, hp]

theorem refIntNorm_c (neg : Bool) (a : List Nat) (ha : Ok a) (hl : a.length ≤ 1099511627776) : CallsF Tryz.prog 96 [.agg [.bool neg, natD a]] (.u (.agg (intRC neg (val a)))) := by
  refine callsF_of (T := tb) tab_ok mixed Tryz.func96 rfl (by decide) (Nat.le_of_ble_eq_true rfl) rfl ?_; unfold St.init
  simp (maxSteps := 2000000) -implicitDefEqProofs [-List.map_set, Ja, -Int.natCast_add, -Int.natCast_mul, -Int.natCast_emod, -Int.natCast_ediv, -Int.natCast_pow, Jb, Jc, Jd, Je, Jf, Jg, Jh, Ji, Jj, Jk, Jl, Jm, Jn, Jo, Jp, Jq, Jr, Js, Jt, Ju, Jv, Jw, Jx, Jy, Jz]
  refine .inl ⟨_, refIntOf'_c neg a ha hl, ?_⟩
  simp (maxSteps := 2000000) -implicitDefEqProofs [-List.map_set, Ja, -Int.natCast_add, -Int.natCast_mul, -Int.natCast_emod, -Int.natCast_ediv, -Int.natCast_pow, Jb, Jc, Jd, Je, Jf, Jg, Jh, Ji, Jj, Jk, Jl, Jm, Jn, Jo, Jp, Jq, Jr, Js, Jt, Ju, Jv, Jw, Jx, Jy, Jz, intRC]

theorem intNorm_c (neg : Bool) (a : List Nat) (ha : Ok a) (hl : a.length ≤ 1099511627776) : CallsF Tryz.prog 269 [.agg [.bool neg, natD a]] (.u (.agg (intRC neg (val a)))) := by
  refine callsF_of (T := tb) tab_ok mixed Tryz.func269 rfl (by decide) (Nat.le_of_ble_eq_true rfl) rfl ?_; unfold St.init
  simp (maxSteps := 2000000) -implicitDefEqProofs [-List.map_set, Ja, -Int.natCast_add, -Int.natCast_mul, -Int.natCast_emod, -Int.natCast_ediv, -Int.natCast_pow, Jb, Jc, Jd, Je, Jf, Jg, Jh, Ji, Jj, Jk, Jl, Jm, Jn, Jo, Jp, Jq, Jr, Js, Jt, Ju, Jv, Jw, Jx, Jy, Jz]
  refine .inl ⟨_, intOf'_c neg a ha hl, ?_⟩
  simp (maxSteps := 2000000) -implicitDefEqProofs [-List.map_set, Ja, -Int.natCast_add, -Int.natCast_mul, -Int.natCast_emod, -Int.natCast_ediv, -Int.natCast_pow, Jb, Jc, Jd, Je, Jf, Jg, Jh, Ji, Jj, Jk, Jl, Jm, Jn, Jo, Jp, Jq, Jr, Js, Jt, Ju, Jv, Jw, Jx, Jy, Jz, intRC]

theorem intMul_c (na nb : Bool) (a b : List Nat) (ha : Ok a) (hl : a.length ≤ 274877906944) (hb : Ok b) (hm : b.length ≤ 274877906944) :
    CallsF Tryz.prog 136 [.agg [.bool na, natD a], .agg [.bool nb, natD b]] (.u (.agg (intRC (!decide (na = nb)) (val a * val b)))) := by
  refine callsF_of (T := tb) tab_ok mixed Tryz.func136 rfl (by decide) (Nat.le_of_ble_eq_true rfl) rfl ?_; unfold St.init
  simp (maxSteps := 2000000) -implicitDefEqProofs [-List.map_set, Ja, -Int.natCast_add, -Int.natCast_mul, -Int.natCast_emod, -Int.natCast_ediv, -Int.natCast_pow, Jb, Jc, Jd, Je, Jf, Jg, Jh, Ji, Jj, Jk, Jl, Jm, Jn, Jo, Jp, Jq, Jr, Js, Jt, Ju, Jv, Jw, Jx, Jy, Jz]
  refine wpDraw_by [[], [0], [], [2], [0, 1, 2, 3], [], [5], [], [7], [5, 6, 7, 8], [0, 1, 2, 3, 4, 5, 6, 7, 8, 9], [0, 1, 2, 3, 4, 5, 6, 7, 8, 9, 10]] [.any [] [] [⟨0, [2], [], [], []⟩, ⟨0, [5], [], [], []⟩, ⟨0, [3], [], [], []⟩, ⟨0, [7], [], [], []⟩, ⟨0, [6, 8], [], [], []⟩, ⟨0, [2], [], [], []⟩, ⟨0, [10], [], [], []⟩, ⟨0, [3], [], [], []⟩, ⟨0, [12], [], [], []⟩, ⟨0, [11, 13], [], [], []⟩], .one, .one] (by rfl) ?_
  simp (maxSteps := 2000000) -implicitDefEqProofs [-List.map_set, Ja, -Int.natCast_add, -Int.natCast_mul, -Int.natCast_emod, -Int.natCast_ediv, -Int.natCast_pow, Jb, Jc, Jd, Je, Jf, Jg, Jh, Ji, Jj, Jk, Jl, Jm, Jn, Jo, Jp, Jq, Jr, Js, Jt, Ju, Jv, Jw, Jx, Jy, Jz]
  refine ⟨_, natMul_c a b ha hl hb hm, ?_⟩
  simp (maxSteps := 2000000) -implicitDefEqProofs [-List.map_set, Ja, -Int.natCast_add, -Int.natCast_mul, -Int.natCast_emod, -Int.natCast_ediv, -Int.natCast_pow, Jb, Jc, Jd, Je, Jf, Jg, Jh, Ji, Jj, Jk, Jl, Jm, Jn, Jo, Jp, Jq, Jr, Js, Jt, Ju, Jv, Jw, Jx, Jy, Jz]
  refine .inl ⟨_, made_c _ _, ?_⟩
  simp (maxSteps := 2000000) -implicitDefEqProofs [-List.map_set, Ja, -Int.natCast_add, -Int.natCast_mul, -Int.natCast_emod, -Int.natCast_ediv, -Int.natCast_pow, Jb, Jc, Jd, Je, Jf, Jg, Jh, Ji, Jj, Jk, Jl, Jm, Jn, Jo, Jp, Jq, Jr, Js, Jt, Ju, Jv, Jw, Jx, Jy, Jz, intRC]

theorem refIntMul_c (na nb : Bool) (a b : List Nat) (ha : Ok a) (hl : a.length ≤ 274877906944) (hb : Ok b) (hm : b.length ≤ 274877906944) (hv : (limbs (val a * val b)).length ≤ 1099511627776) :
    CallsF Tryz.prog 91 [.agg [.bool na, natD a], .agg [.bool nb, natD b]] (.u (.agg (intRC (!decide (na = nb)) (val a * val b)))) := by
  refine callsF_of (T := tb) tab_ok mixed Tryz.func91 rfl (by decide) (Nat.le_of_ble_eq_true rfl) rfl ?_; unfold St.init
  simp (maxSteps := 2000000) -implicitDefEqProofs [-List.map_set, Ja, -Int.natCast_add, -Int.natCast_mul, -Int.natCast_emod, -Int.natCast_ediv, -Int.natCast_pow, Jb, Jc, Jd, Je, Jf, Jg, Jh, Ji, Jj, Jk, Jl, Jm, Jn, Jo, Jp, Jq, Jr, Js, Jt, Ju, Jv, Jw, Jx, Jy, Jz]
  refine wpDraw_by [[], [0], [], [2], [0, 1, 2, 3], [], [5], [], [7], [5, 6, 7, 8], [0, 1, 2, 3, 4, 5, 6, 7, 8, 9], [0, 1, 2, 3, 4, 5, 6, 7, 8, 9, 10]] [.any [] [] [⟨0, [2], [], [], []⟩, ⟨0, [5], [], [], []⟩, ⟨0, [3], [], [], []⟩, ⟨0, [7], [], [], []⟩, ⟨0, [6, 8], [], [], []⟩, ⟨0, [2], [], [], []⟩, ⟨0, [10], [], [], []⟩, ⟨0, [3], [], [], []⟩, ⟨0, [12], [], [], []⟩, ⟨0, [11, 13], [], [], []⟩], .one, .one] (by rfl) ?_
  simp (maxSteps := 2000000) -implicitDefEqProofs [-List.map_set, Ja, -Int.natCast_add, -Int.natCast_mul, -Int.natCast_emod, -Int.natCast_ediv, -Int.natCast_pow, Jb, Jc, Jd, Je, Jf, Jg, Jh, Ji, Jj, Jk, Jl, Jm, Jn, Jo, Jp, Jq, Jr, Js, Jt, Ju, Jv, Jw, Jx, Jy, Jz]
  refine ⟨_, refMul_c a b ha hl hb hm, ?_⟩
  simp (maxSteps := 2000000) -implicitDefEqProofs [-List.map_set, Ja, -Int.natCast_add, -Int.natCast_mul, -Int.natCast_emod, -Int.natCast_ediv, -Int.natCast_pow, Jb, Jc, Jd, Je, Jf, Jg, Jh, Ji, Jj, Jk, Jl, Jm, Jn, Jo, Jp, Jq, Jr, Js, Jt, Ju, Jv, Jw, Jx, Jy, Jz]
  have h := refIntOf'_c (!decide (na = nb)) (limbs (val a * val b)) (ok_limbs _) hv
  rw [val_limbs] at h
  refine .inl ⟨_, h, ?_⟩
  simp (maxSteps := 2000000) -implicitDefEqProofs [-List.map_set, Ja, -Int.natCast_add, -Int.natCast_mul, -Int.natCast_emod, -Int.natCast_ediv, -Int.natCast_pow, Jb, Jc, Jd, Je, Jf, Jg, Jh, Ji, Jj, Jk, Jl, Jm, Jn, Jo, Jp, Jq, Jr, Js, Jt, Ju, Jv, Jw, Jx, Jy, Jz, intRC]

theorem intOf_c (n : Nat) (hn : n < 9223372036854775808) : CallsF Tryz.prog 189 [.c (.int .i64 n)] (.u (.agg (intRC false n))) := by
  refine callsF_of (T := tb) tab_ok mixed Tryz.func189 rfl (by decide) (Nat.le_of_ble_eq_true rfl) rfl ?_; unfold St.init
  simp (maxSteps := 2000000) -implicitDefEqProofs [-List.map_set, Ja, -Int.natCast_add, -Int.natCast_mul, -Int.natCast_emod, -Int.natCast_ediv, -Int.natCast_pow, Jb, Jc, Jd, Je, Jf, Jg, Jh, Ji, Jj, Jk, Jl, Jm, Jn, Jo, Jp, Jq, Jr, Js, Jt, Ju, Jv, Jw, Jx, Jy, Jz]
  rw [Nat.mod_eq_of_lt (by omega)]
  refine .inl ⟨_, natOf_c n (by omega), ?_⟩
  simp (maxSteps := 2000000) -implicitDefEqProofs [-List.map_set, Ja, -Int.natCast_add, -Int.natCast_mul, -Int.natCast_emod, -Int.natCast_ediv, -Int.natCast_pow, Jb, Jc, Jd, Je, Jf, Jg, Jh, Ji, Jj, Jk, Jl, Jm, Jn, Jo, Jp, Jq, Jr, Js, Jt, Ju, Jv, Jw, Jx, Jy, Jz]
  refine .inl ⟨_, made_c _ _, ?_⟩
  simp (maxSteps := 2000000) -implicitDefEqProofs [-List.map_set, Ja, -Int.natCast_add, -Int.natCast_mul, -Int.natCast_emod, -Int.natCast_ediv, -Int.natCast_pow, Jb, Jc, Jd, Je, Jf, Jg, Jh, Ji, Jj, Jk, Jl, Jm, Jn, Jo, Jp, Jq, Jr, Js, Jt, Ju, Jv, Jw, Jx, Jy, Jz, intRC]

theorem refIntOf_c (n : Nat) (hn : n < 9223372036854775808) : CallsF Tryz.prog 46 [.c (.int .i64 n)] (.u (.agg (intRC false n))) := by
  refine callsF_of (T := tb) tab_ok mixed Tryz.func46 rfl (by decide) (Nat.le_of_ble_eq_true rfl) rfl ?_; unfold St.init
  simp (maxSteps := 2000000) -implicitDefEqProofs [-List.map_set, Ja, -Int.natCast_add, -Int.natCast_mul, -Int.natCast_emod, -Int.natCast_ediv, -Int.natCast_pow, Jb, Jc, Jd, Je, Jf, Jg, Jh, Ji, Jj, Jk, Jl, Jm, Jn, Jo, Jp, Jq, Jr, Js, Jt, Ju, Jv, Jw, Jx, Jy, Jz]
  rw [Nat.mod_eq_of_lt (by omega)]
  refine .inl ⟨_, refOf_c n (by omega), ?_⟩
  simp (maxSteps := 2000000) -implicitDefEqProofs [-List.map_set, Ja, -Int.natCast_add, -Int.natCast_mul, -Int.natCast_emod, -Int.natCast_ediv, -Int.natCast_pow, Jb, Jc, Jd, Je, Jf, Jg, Jh, Ji, Jj, Jk, Jl, Jm, Jn, Jo, Jp, Jq, Jr, Js, Jt, Ju, Jv, Jw, Jx, Jy, Jz]
  have h := refIntOf'_c false (limbs n) (ok_limbs _) (by have := (limbs4 n).2 (by omega); omega)
  rw [val_limbs] at h
  refine .inl ⟨_, h, ?_⟩
  simp (maxSteps := 2000000) -implicitDefEqProofs [-List.map_set, Ja, -Int.natCast_add, -Int.natCast_mul, -Int.natCast_emod, -Int.natCast_ediv, -Int.natCast_pow, Jb, Jc, Jd, Je, Jf, Jg, Jh, Ji, Jj, Jk, Jl, Jm, Jn, Jo, Jp, Jq, Jr, Js, Jt, Ju, Jv, Jw, Jx, Jy, Jz, intRC]

theorem intRight_c (neg : Bool) (a : List Nat) (hl : a.length ≤ 1099511627776) : CallsF Tryz.prog 233 [.agg [.bool neg, natD a]] (.u (.c (.d (.bool (lastOk a && !(neg && decide (a = []))))))) := by
  refine callsF_of (T := tb) tab_ok mixed Tryz.func233 rfl (by decide) (Nat.le_of_ble_eq_true rfl) rfl ?_; unfold St.init
  rcases Nat.eq_zero_or_pos a.length with h0 | h0
  · have : a = [] := List.length_eq_zero_iff.1 h0
    subst this
    cases neg <;> simp (maxSteps := 2000000) -implicitDefEqProofs [-List.map_set, Ja, -Int.natCast_add, -Int.natCast_mul, -Int.natCast_emod, -Int.natCast_ediv, -Int.natCast_pow, Jb, Jc, Jd, Je, Jf, Jg, Jh, Ji, Jj, Jk, Jl, Jm, Jn, Jo, Jp, Jq, Jr, Js, Jt, Ju, Jv, Jw, Jx, Jy, Jz, lastOk]
  · obtain ⟨n, hn⟩ : ∃ n, a.length = n + 1 := ⟨a.length - 1, by omega⟩
    have hne : a ≠ [] := fun h => by rw [h] at hn; simp at hn
    obtain ⟨x, hx⟩ := get_some (a := a) (n := n) (by omega)
    have hg : a.getLast? = some x := by rw [List.getLast?_eq_getElem?, hn]; simpa using hx
    cases neg <;> simp (maxSteps := 2000000) -implicitDefEqProofs [-List.map_set, Ja, -Int.natCast_add, -Int.natCast_mul, -Int.natCast_emod, -Int.natCast_ediv, -Int.natCast_pow, Jb, Jc, Jd, Je, Jf, Jg, Jh, Ji, Jj, Jk, Jl, Jm, Jn, Jo, Jp, Jq, Jr, Js, Jt, Ju, Jv, Jw, Jx, Jy, Jz, u16, hn, hx, hg, hne, lastOk]
    all_goals
      have e : a[n]'(by omega) = x := by
        have := List.getElem?_eq_getElem (l := a) (i := n) (by omega)
        rw [hx] at this
        exact (Option.some.inj this).symm
      rw [e]
      exact ⟨by omega, Iff.rfl⟩

def t8 (b : Nat) : Nat := if b = 0 then 0 else Nat.log2 b + 1
def lenTab : ByteArray := ⟨#[0, 1, 2, 2, 3, 3, 3, 3, 4, 4, 4, 4, 4, 4, 4, 4, 5, 5, 5, 5, 5, 5, 5, 5, 5, 5, 5, 5, 5, 5, 5, 5, 6, 6, 6, 6, 6, 6, 6, 6, 6, 6, 6, 6, 6, 6, 6, 6, 6, 6, 6, 6, 6, 6, 6, 6, 6, 6, 6, 6, 6, 6, 6, 6, 7, 7, 7, 7, 7, 7, 7, 7, 7, 7, 7, 7, 7, 7, 7, 7, 7, 7, 7, 7, 7, 7, 7, 7, 7, 7, 7, 7, 7, 7, 7, 7, 7, 7, 7, 7, 7, 7, 7, 7, 7, 7, 7, 7, 7, 7, 7, 7, 7, 7, 7, 7, 7, 7, 7, 7, 7, 7, 7, 7, 7, 7, 7, 7, 8, 8, 8, 8, 8, 8, 8, 8, 8, 8, 8, 8, 8, 8, 8, 8, 8, 8, 8, 8, 8, 8, 8, 8, 8, 8, 8, 8, 8, 8, 8, 8, 8, 8, 8, 8, 8, 8, 8, 8, 8, 8, 8, 8, 8, 8, 8, 8, 8, 8, 8, 8, 8, 8, 8, 8, 8, 8, 8, 8, 8, 8, 8, 8, 8, 8, 8, 8, 8, 8, 8, 8, 8, 8, 8, 8, 8, 8, 8, 8, 8, 8, 8, 8, 8, 8, 8, 8, 8, 8, 8, 8, 8, 8, 8, 8, 8, 8, 8, 8, 8, 8, 8, 8, 8, 8, 8, 8, 8, 8, 8, 8, 8, 8, 8, 8, 8, 8, 8, 8, 8, 8, 8, 8, 8, 8, 8, 8]⟩
theorem lenTab_get : ∀ b < 256, lenTab[b]? = some (UInt8.ofNat (t8 b)) := by decide
theorem t8_lt : ∀ b, b < 256 → t8 b < 256 := by decide
def len16 (x : Nat) : Nat := if x < 256 then t8 x else 8 + t8 (x / 256)
theorem len16_c (x : Nat) (hx : x < 65536) : CallsF Tryz.prog 241 [.c (.int .u16 x)] (.u (.c (.d (.int .i64 (len16 x))))) := by
  unfold len16
  refine callsF_of (T := tb) tab_ok mixed Tryz.func241 rfl (by decide) (Nat.le_of_ble_eq_true rfl) rfl ?_; unfold St.init
  have hs : lenTab.size = 256 := rfl
  by_cases h : x < 256
  · have h' : ¬ 256 ≤ x := by omega
    have hg := lenTab_get x h
    simp (maxSteps := 2000000) -implicitDefEqProofs [-List.map_set, Ja, -Int.natCast_add, -Int.natCast_mul, -Int.natCast_emod, -Int.natCast_ediv, -Int.natCast_pow, Jb, Jc, Jd, Je, Jf, Jg, Jh, Ji, Jj, Jk, Jl, Jm, Jn, Jo, Jp, Jq, Jr, Js, Jt, Ju, Jv, Jw, Jx, Jy, Jz, h, h']
    refine ⟨by change _ < lenTab.size; omega, ?_⟩
    change wpo (lenTab[x % 256]?) _
    rw [Nat.mod_eq_of_lt h, hg]
    have hk : t8 x < 256 := t8_lt x h
    simp (maxSteps := 2000000) -implicitDefEqProofs [-List.map_set, Ja, -Int.natCast_add, -Int.natCast_mul, -Int.natCast_emod, -Int.natCast_ediv, -Int.natCast_pow, Jb, Jc, Jd, Je, Jf, Jg, Jh, Ji, Jj, Jk, Jl, Jm, Jn, Jo, Jp, Jq, Jr, Js, Jt, Ju, Jv, Jw, Jx, Jy, Jz, hk]
    rw [Nat.mod_eq_of_lt hk, wrap_i64 (by omega)]
    omega
  · have h' : 256 ≤ x := by omega
    have hg := lenTab_get (x / 256) (by omega)
    simp (maxSteps := 2000000) -implicitDefEqProofs [-List.map_set, Ja, -Int.natCast_add, -Int.natCast_mul, -Int.natCast_emod, -Int.natCast_ediv, -Int.natCast_pow, Jb, Jc, Jd, Je, Jf, Jg, Jh, Ji, Jj, Jk, Jl, Jm, Jn, Jo, Jp, Jq, Jr, Js, Jt, Ju, Jv, Jw, Jx, Jy, Jz, h, h']
    refine ⟨by change _ < lenTab.size; omega, ?_⟩
    change wpo (lenTab[x / 256 % 256]?) _
    rw [Nat.mod_eq_of_lt (show x / 256 < 256 by omega), hg]
    have hk : t8 (x / 256) < 256 := t8_lt (x / 256) (by omega)
    simp (maxSteps := 2000000) -implicitDefEqProofs [-List.map_set, Ja, -Int.natCast_add, -Int.natCast_mul, -Int.natCast_emod, -Int.natCast_ediv, -Int.natCast_pow, Jb, Jc, Jd, Je, Jf, Jg, Jh, Ji, Jj, Jk, Jl, Jm, Jn, Jo, Jp, Jq, Jr, Js, Jt, Ju, Jv, Jw, Jx, Jy, Jz, hk]
    rw [Nat.mod_eq_of_lt hk, wrap_i64 (by omega)]
    omega
end Go.Va

/-
  Contracts: integers, second part.
-/
namespace Go.Va
open Go.Proofs
set_option maxHeartbeats 4000000
set_option maxRecDepth 10000
set_option linter.unusedSimpArgs false

theorem t8_pos {b : Nat} (h : 0 < b) : 0 < t8 b := by unfold t8; split <;> omega
theorem len16_pos {x : Nat} (h : 0 < x) : 0 < len16 x := by
  unfold len16
  split
  · exact t8_pos h
  · omega
theorem len16_le {x : Nat} (h : x < 65536) : len16 x ≤ 300 := by
  unfold len16
  split
  · have := t8_lt x (by omega); omega
  · have := t8_lt (x / 256) (by omega); omega
theorem limbs_last {n : Nat} (h : n ≠ 0) : ∃ x, (limbs n)[(limbs n).length - 1]? = some x ∧ 0 < x ∧ x < 65536 := by
  induction n using Nat.strongRecOn with
  | _ n ih =>
    rw [limbs_pos h]
    by_cases h0 : n / 65536 = 0
    · rw [h0, limbs_zero]
      exact ⟨n % 65536, rfl, by omega, by omega⟩
    · obtain ⟨x, h1, h2⟩ := ih (n / 65536) (by omega) h0
      have hl : (limbs (n / 65536)).length ≠ 0 := fun h => h0 ((limbs_len _).1 h)
      refine ⟨x, ?_, h2⟩
      rw [show (n % 65536 :: limbs (n / 65536)).length - 1 = (limbs (n / 65536)).length - 1 + 1 by simp; omega]
      simpa using h1

/-- How many binary digits a number has. -/
def bitsN (n : Nat) : Nat := if n = 0 then 0 else 16 * ((limbs n).length - 1) + len16 ((limbs n).getD ((limbs n).length - 1) 0)
theorem bitsN_zero (n : Nat) : bitsN n = 0 ↔ n = 0 := by
  unfold bitsN
  split
  · simp [*]
  · rename_i h
    obtain ⟨x, h1, h2, _⟩ := limbs_last h
    rw [List.getD_eq_getElem?_getD, h1]
    have := len16_pos h2
    simp only [Option.getD_some]
    omega

theorem bits_c (a : List Nat) (ha : Ok a) (hl : a.length ≤ 1099511627776) : CallsF Tryz.prog 169 [.c (natD a)] (.u (.c (.d (.int .i64 (bitsN (val a)))))) := by
  refine callsF_of (T := tb) tab_ok mixed Tryz.func169 rfl (by decide) (Nat.le_of_ble_eq_true rfl) rfl ?_; unfold St.init
  simp (maxSteps := 2000000) -implicitDefEqProofs [-List.map_set, Ja, -Int.natCast_add, -Int.natCast_mul, -Int.natCast_emod, -Int.natCast_ediv, -Int.natCast_pow, Jb, Jc, Jd, Je, Jf, Jg, Jh, Ji, Jj, Jk, Jl, Jm, Jn, Jo, Jp, Jq, Jr, Js, Jt, Ju, Jv, Jw, Jx, Jy, Jz]
  refine .inl ⟨_, trim_c a ha hl, ?_⟩
  have hla := limbs_len_le a ha
  by_cases h0 : val a = 0
  · simp (maxSteps := 2000000) -implicitDefEqProofs [-List.map_set, Ja, -Int.natCast_add, -Int.natCast_mul, -Int.natCast_emod, -Int.natCast_ediv, -Int.natCast_pow, Jb, Jc, Jd, Je, Jf, Jg, Jh, Ji, Jj, Jk, Jl, Jm, Jn, Jo, Jp, Jq, Jr, Js, Jt, Ju, Jv, Jw, Jx, Jy, Jz, h0, limbs_zero, bitsN]
  · obtain ⟨x, h1, h2, h3⟩ := limbs_last h0
    have hne : limbs (val a) ≠ [] := fun h => h0 (limbs_nil.1 h)
    obtain ⟨n, hn⟩ : ∃ n, (limbs (val a)).length = n + 1 := ⟨(limbs (val a)).length - 1, by have := List.length_pos_iff.2 hne; omega⟩
    have hb : bitsN (val a) = 16 * n + len16 x := by
      unfold bitsN
      rw [if_neg h0, List.getD_eq_getElem?_getD, h1, hn]
      rfl
    rw [hb]
    rw [hn] at h1
    simp only [Nat.add_sub_cancel] at h1
    clear hb
    generalize limbs (val a) = y at *
    have e : y[n]'(by omega) = x := by
      have := List.getElem?_eq_getElem (l := y) (i := n) (by omega)
      rw [h1] at this
      exact (Option.some.inj this).symm
    simp (maxSteps := 2000000) -implicitDefEqProofs [-List.map_set, Ja, -Int.natCast_add, -Int.natCast_mul, -Int.natCast_emod, -Int.natCast_ediv, -Int.natCast_pow, Jb, Jc, Jd, Je, Jf, Jg, Jh, Ji, Jj, Jk, Jl, Jm, Jn, Jo, Jp, Jq, Jr, Js, Jt, Ju, Jv, Jw, Jx, Jy, Jz, hne, hn, h1, u16, e]
    refine ⟨by omega, by omega, by omega, .inl ⟨_, len16_c x h3, ?_⟩⟩
    have := len16_le h3
    simp (maxSteps := 2000000) -implicitDefEqProofs [-List.map_set, Ja, -Int.natCast_add, -Int.natCast_mul, -Int.natCast_emod, -Int.natCast_ediv, -Int.natCast_pow, Jb, Jc, Jd, Je, Jf, Jg, Jh, Ji, Jj, Jk, Jl, Jm, Jn, Jo, Jp, Jq, Jr, Js, Jt, Ju, Jv, Jw, Jx, Jy, Jz]
    omega

theorem intSign_c (neg : Bool) (a : List Nat) (ha : Ok a) (hl : a.length ≤ 1099511627776) : CallsF Tryz.prog 84 [.agg [.bool neg, natD a]] (.u (.c (.d (.int .i64 (sgnI neg (val a)))))) := by
  refine callsF_of (T := tb) tab_ok mixed Tryz.func84 rfl (by decide) (Nat.le_of_ble_eq_true rfl) rfl ?_; unfold St.init
  simp (maxSteps := 2000000) -implicitDefEqProofs [-List.map_set, Ja, -Int.natCast_add, -Int.natCast_mul, -Int.natCast_emod, -Int.natCast_ediv, -Int.natCast_pow, Jb, Jc, Jd, Je, Jf, Jg, Jh, Ji, Jj, Jk, Jl, Jm, Jn, Jo, Jp, Jq, Jr, Js, Jt, Ju, Jv, Jw, Jx, Jy, Jz]
  refine .inl ⟨_, bits_c a ha hl, ?_⟩
  have hz := bitsN_zero (val a)
  by_cases h0 : val a = 0
  · have hb := hz.2 h0
    simp (maxSteps := 2000000) -implicitDefEqProofs [-List.map_set, Ja, -Int.natCast_add, -Int.natCast_mul, -Int.natCast_emod, -Int.natCast_ediv, -Int.natCast_pow, Jb, Jc, Jd, Je, Jf, Jg, Jh, Ji, Jj, Jk, Jl, Jm, Jn, Jo, Jp, Jq, Jr, Js, Jt, Ju, Jv, Jw, Jx, Jy, Jz, hb, sgnI]
    simp [h0]
  · have : bitsN (val a) ≠ 0 := fun h => h0 (hz.1 h)
    cases neg <;> simp (maxSteps := 2000000) -implicitDefEqProofs [-List.map_set, Ja, -Int.natCast_add, -Int.natCast_mul, -Int.natCast_emod, -Int.natCast_ediv, -Int.natCast_pow, Jb, Jc, Jd, Je, Jf, Jg, Jh, Ji, Jj, Jk, Jl, Jm, Jn, Jo, Jp, Jq, Jr, Js, Jt, Ju, Jv, Jw, Jx, Jy, Jz, h0, this, sgnI]

theorem cmpI1_c (a b : List Nat) (ha : Ok a) (hl : a.length ≤ 1099511627776) (hb : Ok b) (hm : b.length ≤ 1099511627776) : CallsF Tryz.prog 227 [.c (natD a), .c (natD b)] (.u (.c (.d (.int .i64 (cmp3 (val a) (val b)))))) := by
  refine callsF_of (T := tb) tab_ok mixed Tryz.func227 rfl (by decide) (Nat.le_of_ble_eq_true rfl) rfl ?_; unfold St.init
  simp (maxSteps := 2000000) -implicitDefEqProofs [-List.map_set, Ja, -Int.natCast_add, -Int.natCast_mul, -Int.natCast_emod, -Int.natCast_ediv, -Int.natCast_pow, Jb, Jc, Jd, Je, Jf, Jg, Jh, Ji, Jj, Jk, Jl, Jm, Jn, Jo, Jp, Jq, Jr, Js, Jt, Ju, Jv, Jw, Jx, Jy, Jz]
  refine .inl ⟨_, natCmp_c a b ha hl hb hm, ?_⟩
  simp (maxSteps := 2000000) -implicitDefEqProofs [-List.map_set, Ja, -Int.natCast_add, -Int.natCast_mul, -Int.natCast_emod, -Int.natCast_ediv, -Int.natCast_pow, Jb, Jc, Jd, Je, Jf, Jg, Jh, Ji, Jj, Jk, Jl, Jm, Jn, Jo, Jp, Jq, Jr, Js, Jt, Ju, Jv, Jw, Jx, Jy, Jz]

theorem cmpZ_pp (m n : Nat) : cmpZ (m : Int) (n : Int) = cmp3 m n := by
  unfold cmpZ cmp3
  by_cases h1 : m < n
  · rw [if_pos (by omega), if_pos h1]
  · rw [if_neg (by omega), if_neg h1]
    by_cases h2 : n < m
    · rw [if_pos (by omega), if_pos h2]
    · rw [if_neg (by omega), if_neg h2]
theorem cmpZ_nn (m n : Nat) : cmpZ (-(m : Int)) (-(n : Int)) = cmp3 n m := by
  unfold cmpZ cmp3
  by_cases h1 : n < m
  · rw [if_pos (by omega), if_pos h1]
  · rw [if_neg (by omega), if_neg h1]
    by_cases h2 : m < n
    · rw [if_pos (by omega), if_pos h2]
    · rw [if_neg (by omega), if_neg h2]

theorem sign_lt {na nb : Bool} {m n : Nat} (h : sgnI na m < sgnI nb n) : cmpZ (toZ na m) (toZ nb n) = -1 := by
  unfold sgnI at h
  unfold cmpZ toZ
  cases na <;> cases nb <;> (repeat' split at h) <;> simp_all <;> omega
theorem sign_gt {na nb : Bool} {m n : Nat} (h : sgnI nb n < sgnI na m) : cmpZ (toZ na m) (toZ nb n) = 1 := by
  unfold sgnI at h
  unfold cmpZ toZ
  cases na <;> cases nb <;> (repeat' split at h) <;> simp_all <;> omega
theorem sign_neg {na nb : Bool} {m n : Nat} (h : sgnI na m = sgnI nb n) (h0 : sgnI na m < 0) : cmpZ (toZ na m) (toZ nb n) = cmp3 n m := by
  have e1 : na = true := by
    unfold sgnI at h0
    cases na <;> (repeat' split at h0) <;> simp_all
  have e2 : nb = true := by
    rw [h] at h0
    unfold sgnI at h0
    cases nb <;> (repeat' split at h0) <;> simp_all
  subst e1; subst e2
  exact cmpZ_nn m n
theorem sign_pos {na nb : Bool} {m n : Nat} (h : sgnI na m = sgnI nb n) (h0 : 0 ≤ sgnI na m) : cmpZ (toZ na m) (toZ nb n) = cmp3 m n := by
  have e1 : toZ na m = (m : Int) := by
    unfold sgnI at h0
    unfold toZ
    cases na <;> (repeat' split at h0) <;> simp_all
  have e2 : toZ nb n = (n : Int) := by
    rw [h] at h0
    unfold sgnI at h0
    unfold toZ
    cases nb <;> (repeat' split at h0) <;> simp_all
  rw [e1, e2, cmpZ_pp]

theorem intCmp_c (na nb : Bool) (a b : List Nat) (ha : Ok a) (hl : a.length ≤ 1099511627776) (hb : Ok b) (hm : b.length ≤ 1099511627776) :
    CallsF Tryz.prog 135 [.agg [.bool na, natD a], .agg [.bool nb, natD b]] (.u (.c (.d (.int .i64 (cmpZ (toZ na (val a)) (toZ nb (val b))))))) := by
  refine callsF_of (T := tb) tab_ok mixed Tryz.func135 rfl (by decide) (Nat.le_of_ble_eq_true rfl) rfl ?_; unfold St.init
  simp (maxSteps := 2000000) -implicitDefEqProofs [-List.map_set, Ja, -Int.natCast_add, -Int.natCast_mul, -Int.natCast_emod, -Int.natCast_ediv, -Int.natCast_pow, Jb, Jc, Jd, Je, Jf, Jg, Jh, Ji, Jj, Jk, Jl, Jm, Jn, Jo, Jp, Jq, Jr, Js, Jt, Ju, Jv, Jw, Jx, Jy, Jz]
  refine wpDraw_by [[], [0], [], [0, 1, 2], [0, 1, 2, 3], [0, 1, 2, 3, 4]] [.any [] [] [⟨0, [2], [], [], []⟩, ⟨0, [8], [], [], []⟩, ⟨0, [3], [], [], []⟩], .one, .one, .one] (by rfl) ?_
  simp (maxSteps := 2000000) -implicitDefEqProofs [-List.map_set, Ja, -Int.natCast_add, -Int.natCast_mul, -Int.natCast_emod, -Int.natCast_ediv, -Int.natCast_pow, Jb, Jc, Jd, Je, Jf, Jg, Jh, Ji, Jj, Jk, Jl, Jm, Jn, Jo, Jp, Jq, Jr, Js, Jt, Ju, Jv, Jw, Jx, Jy, Jz]
  (first | refine .inl ⟨_, intSign_c na a ha hl, ?_⟩ | refine ⟨_, intSign_c na a ha hl, ?_⟩)
  simp (maxSteps := 2000000) -implicitDefEqProofs [-List.map_set, Ja, -Int.natCast_add, -Int.natCast_mul, -Int.natCast_emod, -Int.natCast_ediv, -Int.natCast_pow, Jb, Jc, Jd, Je, Jf, Jg, Jh, Ji, Jj, Jk, Jl, Jm, Jn, Jo, Jp, Jq, Jr, Js, Jt, Ju, Jv, Jw, Jx, Jy, Jz]
  (first | refine .inl ⟨_, intSign_c nb b hb hm, ?_⟩ | refine ⟨_, intSign_c nb b hb hm, ?_⟩)
  simp (maxSteps := 2000000) -implicitDefEqProofs [-List.map_set, Ja, -Int.natCast_add, -Int.natCast_mul, -Int.natCast_emod, -Int.natCast_ediv, -Int.natCast_pow, Jb, Jc, Jd, Je, Jf, Jg, Jh, Ji, Jj, Jk, Jl, Jm, Jn, Jo, Jp, Jq, Jr, Js, Jt, Ju, Jv, Jw, Jx, Jy, Jz]
  refine ⟨fun h => by rw [sign_lt h], fun h => ⟨fun h2 => by rw [sign_gt h2], fun h2 => ⟨fun h3 => .inl ⟨_, cmpI1_c b a hb hm ha hl, ?_⟩, fun h3 => .inl ⟨_, cmpI1_c a b ha hl hb hm, ?_⟩⟩⟩⟩
  · simp (maxSteps := 2000000) -implicitDefEqProofs [-List.map_set, Ja, -Int.natCast_add, -Int.natCast_mul, -Int.natCast_emod, -Int.natCast_ediv, -Int.natCast_pow, Jb, Jc, Jd, Je, Jf, Jg, Jh, Ji, Jj, Jk, Jl, Jm, Jn, Jo, Jp, Jq, Jr, Js, Jt, Ju, Jv, Jw, Jx, Jy, Jz]
    rw [sign_neg (by omega) h3]
  · simp (maxSteps := 2000000) -implicitDefEqProofs [-List.map_set, Ja, -Int.natCast_add, -Int.natCast_mul, -Int.natCast_emod, -Int.natCast_ediv, -Int.natCast_pow, Jb, Jc, Jd, Je, Jf, Jg, Jh, Ji, Jj, Jk, Jl, Jm, Jn, Jo, Jp, Jq, Jr, Js, Jt, Ju, Jv, Jw, Jx, Jy, Jz]
    rw [sign_pos (by omega) h3]

theorem sg_toZ (neg : Bool) (n : Nat) : toZ (sg neg n) n = toZ neg n := by
  unfold toZ sg
  cases neg <;> simp
  intro h; subst h; rfl

theorem refIntCmp_c (na nb : Bool) (a b : List Nat) (ha : Ok a) (hl : a.length ≤ 1099511627776) (hb : Ok b) (hm : b.length ≤ 1099511627776) :
    CallsF Tryz.prog 90 [.agg [.bool na, natD a], .agg [.bool nb, natD b]] (.u (.c (.d (.int .i64 (cmpZ (toZ na (val a)) (toZ nb (val b))))))) := by
  refine callsF_of (T := tb) tab_ok mixed Tryz.func90 rfl (by decide) (Nat.le_of_ble_eq_true rfl) rfl ?_; unfold St.init
  simp (maxSteps := 2000000) -implicitDefEqProofs [-List.map_set, Ja, -Int.natCast_add, -Int.natCast_mul, -Int.natCast_emod, -Int.natCast_ediv, -Int.natCast_pow, Jb, Jc, Jd, Je, Jf, Jg, Jh, Ji, Jj, Jk, Jl, Jm, Jn, Jo, Jp, Jq, Jr, Js, Jt, Ju, Jv, Jw, Jx, Jy, Jz]
  refine wpDraw_by [[], [0], [], [0, 1, 2], [0, 1, 2, 3], [0, 1, 2, 3, 4]] [.any [] [] [⟨0, [2], [], [], []⟩, ⟨0, [5], [], [], []⟩, ⟨0, [3], [], [], []⟩], .one, .one, .one] (by rfl) ?_
  simp (maxSteps := 2000000) -implicitDefEqProofs [-List.map_set, Ja, -Int.natCast_add, -Int.natCast_mul, -Int.natCast_emod, -Int.natCast_ediv, -Int.natCast_pow, Jb, Jc, Jd, Je, Jf, Jg, Jh, Ji, Jj, Jk, Jl, Jm, Jn, Jo, Jp, Jq, Jr, Js, Jt, Ju, Jv, Jw, Jx, Jy, Jz]
  (first | refine .inl ⟨_, refIntNorm_c na a ha hl, ?_⟩ | refine ⟨_, refIntNorm_c na a ha hl, ?_⟩)
  simp (maxSteps := 2000000) -implicitDefEqProofs [-List.map_set, Ja, -Int.natCast_add, -Int.natCast_mul, -Int.natCast_emod, -Int.natCast_ediv, -Int.natCast_pow, Jb, Jc, Jd, Je, Jf, Jg, Jh, Ji, Jj, Jk, Jl, Jm, Jn, Jo, Jp, Jq, Jr, Js, Jt, Ju, Jv, Jw, Jx, Jy, Jz, intRC]
  (first | refine .inl ⟨_, refIntNorm_c nb b hb hm, ?_⟩ | refine ⟨_, refIntNorm_c nb b hb hm, ?_⟩)
  have hla := limbs_len_le a ha
  have hlb := limbs_len_le b hb
  have e1 := sg_toZ na (val a)
  have e2 := sg_toZ nb (val b)
  have c1 := refCmp_c (limbs (val a)) (limbs (val b)) (ok_limbs _) (by omega) (ok_limbs _) (by omega)
  have c2 := refCmp_c (limbs (val b)) (limbs (val a)) (ok_limbs _) (by omega) (ok_limbs _) (by omega)
  rw [val_limbs, val_limbs] at c1 c2
  have p1 : sg na (val a) = true → 0 < val a := fun h => by unfold sg at h; simp at h; omega
  have p2 : sg nb (val b) = true → 0 < val b := fun h => by unfold sg at h; simp at h; omega
  rw [← e1, ← e2]
  simp only [intRC]
  generalize sg na (val a) = x at *
  generalize sg nb (val b) = y at *
  cases x <;> cases y
  · simp (maxSteps := 2000000) -implicitDefEqProofs [-List.map_set, Ja, -Int.natCast_add, -Int.natCast_mul, -Int.natCast_emod, -Int.natCast_ediv, -Int.natCast_pow, Jb, Jc, Jd, Je, Jf, Jg, Jh, Ji, Jj, Jk, Jl, Jm, Jn, Jo, Jp, Jq, Jr, Js, Jt, Ju, Jv, Jw, Jx, Jy, Jz, intRC]
    refine .inl ⟨_, c1, ?_⟩
    simp (maxSteps := 2000000) -implicitDefEqProofs [-List.map_set, Ja, -Int.natCast_add, -Int.natCast_mul, -Int.natCast_emod, -Int.natCast_ediv, -Int.natCast_pow, Jb, Jc, Jd, Je, Jf, Jg, Jh, Ji, Jj, Jk, Jl, Jm, Jn, Jo, Jp, Jq, Jr, Js, Jt, Ju, Jv, Jw, Jx, Jy, Jz, toZ]
    rw [cmpZ_pp]
  · have := p2 rfl
    simp (maxSteps := 2000000) -implicitDefEqProofs [-List.map_set, Ja, -Int.natCast_add, -Int.natCast_mul, -Int.natCast_emod, -Int.natCast_ediv, -Int.natCast_pow, Jb, Jc, Jd, Je, Jf, Jg, Jh, Ji, Jj, Jk, Jl, Jm, Jn, Jo, Jp, Jq, Jr, Js, Jt, Ju, Jv, Jw, Jx, Jy, Jz, intRC, toZ]
    unfold cmpZ
    rw [if_neg (by omega), if_pos (by omega)]
  · have := p1 rfl
    simp (maxSteps := 2000000) -implicitDefEqProofs [-List.map_set, Ja, -Int.natCast_add, -Int.natCast_mul, -Int.natCast_emod, -Int.natCast_ediv, -Int.natCast_pow, Jb, Jc, Jd, Je, Jf, Jg, Jh, Ji, Jj, Jk, Jl, Jm, Jn, Jo, Jp, Jq, Jr, Js, Jt, Ju, Jv, Jw, Jx, Jy, Jz, intRC, toZ]
    unfold cmpZ
    rw [if_pos (by omega)]
  · simp (maxSteps := 2000000) -implicitDefEqProofs [-List.map_set, Ja, -Int.natCast_add, -Int.natCast_mul, -Int.natCast_emod, -Int.natCast_ediv, -Int.natCast_pow, Jb, Jc, Jd, Je, Jf, Jg, Jh, Ji, Jj, Jk, Jl, Jm, Jn, Jo, Jp, Jq, Jr, Js, Jt, Ju, Jv, Jw, Jx, Jy, Jz, intRC]
    refine .inl ⟨_, c2, ?_⟩
    simp (maxSteps := 2000000) -implicitDefEqProofs [-List.map_set, Ja, -Int.natCast_add, -Int.natCast_mul, -Int.natCast_emod, -Int.natCast_ediv, -Int.natCast_pow, Jb, Jc, Jd, Je, Jf, Jg, Jh, Ji, Jj, Jk, Jl, Jm, Jn, Jo, Jp, Jq, Jr, Js, Jt, Ju, Jv, Jw, Jx, Jy, Jz, toZ]
    rw [cmpZ_nn]
end Go.Va

/-
  Contracts: greatest common divisors, short quotients.
-/
namespace Go.Va
open Go.Proofs
set_option maxHeartbeats 4000000
set_option maxRecDepth 10000
set_option linter.unusedSimpArgs false

theorem limbs_small {n : Nat} (h : n < 18446744073709551616) : (limbs n).length ≤ 4 := (limbs4 n).2 h

/-- Euclid's steps on numbers below 2^64. -/
theorem natGcd_c (a b : List Nat) (ha : Ok a) (hl : a.length ≤ 1099511627776) (hb : Ok b) (hm : b.length ≤ 1099511627776) (h1 : val a < 18446744073709551616) (h2 : val b < 18446744073709551616) :
    CallsF Tryz.prog 235 [.c (natD a), .c (natD b)] (.u (.c (.d (natD (limbs (Nat.gcd (val a) (val b))))))) := by
  refine callsF_of (T := tb) tab_ok mixed Tryz.func235 rfl (by decide) (Nat.le_of_ble_eq_true rfl) rfl ?_; unfold St.init
  simp (maxSteps := 2000000) -implicitDefEqProofs [-List.map_set, Ja, -Int.natCast_add, -Int.natCast_mul, -Int.natCast_emod, -Int.natCast_ediv, -Int.natCast_pow, Jb, Jc, Jd, Je, Jf, Jg, Jh, Ji, Jj, Jk, Jl, Jm, Jn, Jo, Jp, Jq, Jr, Js, Jt, Ju, Jv, Jw, Jx, Jy, Jz]
  (first | refine .inl ⟨_, natNorm_c a ha hl, ?_⟩ | refine ⟨_, natNorm_c a ha hl, ?_⟩)
  simp (maxSteps := 2000000) -implicitDefEqProofs [-List.map_set, Ja, -Int.natCast_add, -Int.natCast_mul, -Int.natCast_emod, -Int.natCast_ediv, -Int.natCast_pow, Jb, Jc, Jd, Je, Jf, Jg, Jh, Ji, Jj, Jk, Jl, Jm, Jn, Jo, Jp, Jq, Jr, Js, Jt, Ju, Jv, Jw, Jx, Jy, Jz]
  (first | refine .inl ⟨_, natNorm_c b hb hm, ?_⟩ | refine ⟨_, natNorm_c b hb hm, ?_⟩)
  simp (maxSteps := 2000000) -implicitDefEqProofs [-List.map_set, Ja, -Int.natCast_add, -Int.natCast_mul, -Int.natCast_emod, -Int.natCast_ediv, -Int.natCast_pow, Jb, Jc, Jd, Je, Jf, Jg, Jh, Ji, Jj, Jk, Jl, Jm, Jn, Jo, Jp, Jq, Jr, Js, Jt, Ju, Jv, Jw, Jx, Jy, Jz]
  have la := limbs_len_le a ha
  have lb := limbs_len_le b hb
  have u1 := uint_c (limbs (val a)) (ok_limbs _) (by omega)
  have u2 := uint_c (limbs (val b)) (ok_limbs _) (by omega)
  rw [val_limbs] at u1 u2
  have f1 := fits64_iff.2 h1
  have f2 := fits64_iff.2 h2
  rw [f1] at u1
  rw [f2] at u2
  have k1 : keep64 (val a) = val a := by simp [keep64, f1]
  have k2 : keep64 (val b) = val b := by simp [keep64, f2]
  rw [k1] at u1
  rw [k2] at u2
  clear hl hm ha hb la lb k1 k2 f1 f2
  generalize val a = m at *
  generalize val b = n at *
  refine wpLoop_of (fun _ : Unit => ⟨[(0, vC (.d (natD (limbs m)))), (1, vC (.d (natD (limbs n))))], []⟩) (fun _ => True) (fun _ => 0) () (by simp) trivial ?_
  intro _ _
  by_cases h0 : n = 0
  · subst h0
    simp (maxSteps := 2000000) -implicitDefEqProofs [-List.map_set, Ja, -Int.natCast_add, -Int.natCast_mul, -Int.natCast_emod, -Int.natCast_ediv, -Int.natCast_pow, Jb, Jc, Jd, Je, Jf, Jg, Jh, Ji, Jj, Jk, Jl, Jm, Jn, Jo, Jp, Jq, Jr, Js, Jt, Ju, Jv, Jw, Jx, Jy, Jz, limbs_zero]
  · have hp : 0 < (limbs n).length := limbs_pos_len.2 (by omega)
    simp (maxSteps := 2000000) -implicitDefEqProofs [-List.map_set, Ja, -Int.natCast_add, -Int.natCast_mul, -Int.natCast_emod, -Int.natCast_ediv, -Int.natCast_pow, Jb, Jc, Jd, Je, Jf, Jg, Jh, Ji, Jj, Jk, Jl, Jm, Jn, Jo, Jp, Jq, Jr, Js, Jt, Ju, Jv, Jw, Jx, Jy, Jz, hp]
    (first | refine .inl ⟨_, u1, ?_⟩ | refine ⟨_, u1, ?_⟩)
    simp (maxSteps := 2000000) -implicitDefEqProofs [-List.map_set, Ja, -Int.natCast_add, -Int.natCast_mul, -Int.natCast_emod, -Int.natCast_ediv, -Int.natCast_pow, Jb, Jc, Jd, Je, Jf, Jg, Jh, Ji, Jj, Jk, Jl, Jm, Jn, Jo, Jp, Jq, Jr, Js, Jt, Ju, Jv, Jw, Jx, Jy, Jz]
    (first | refine .inl ⟨_, u2, ?_⟩ | refine ⟨_, u2, ?_⟩)
    simp (maxSteps := 2000000) -implicitDefEqProofs [-List.map_set, Ja, -Int.natCast_add, -Int.natCast_mul, -Int.natCast_emod, -Int.natCast_ediv, -Int.natCast_pow, Jb, Jc, Jd, Je, Jf, Jg, Jh, Ji, Jj, Jk, Jl, Jm, Jn, Jo, Jp, Jq, Jr, Js, Jt, Ju, Jv, Jw, Jx, Jy, Jz]
    refine wpLoop_of (fun p : Nat × Nat => ⟨[(5, vI .u64 p.1), (7, vI .u64 p.2)], []⟩) (fun p => Nat.gcd p.1 p.2 = Nat.gcd m n ∧ p.1 < 18446744073709551616 ∧ p.2 < 18446744073709551616) (fun p => p.2) (m, n) (by simp) ⟨rfl, h1, h2⟩ ?_
    rintro ⟨x, y⟩ ⟨g1, g2, g3⟩
    simp only at g1 g2 g3
    by_cases hy : 0 < y
    · simp (maxSteps := 2000000) -implicitDefEqProofs [-List.map_set, Ja, -Int.natCast_add, -Int.natCast_mul, -Int.natCast_emod, -Int.natCast_ediv, -Int.natCast_pow, Jb, Jc, Jd, Je, Jf, Jg, Jh, Ji, Jj, Jk, Jl, Jm, Jn, Jo, Jp, Jq, Jr, Js, Jt, Ju, Jv, Jw, Jx, Jy, Jz, hy]
      refine wpDraw_by [[], [], [], [1, 2], [0, 1], [0, 1, 2, 3, 4]] [.any [] [] [⟨0, [7], [], [], []⟩, ⟨0, [5], [], [], []⟩, ⟨0, [7], [], [], []⟩, ⟨0, [36, 37], [], [], []⟩, ⟨0, [35], [], [], []⟩], .one] (by rfl) ?_
      have hy0 : y ≠ 0 := by omega
      simp (maxSteps := 2000000) -implicitDefEqProofs [-List.map_set, Ja, -Int.natCast_add, -Int.natCast_mul, -Int.natCast_emod, -Int.natCast_ediv, -Int.natCast_pow, Jb, Jc, Jd, Je, Jf, Jg, Jh, Ji, Jj, Jk, Jl, Jm, Jn, Jo, Jp, Jq, Jr, Js, Jt, Ju, Jv, Jw, Jx, Jy, Jz, hy0]
      refine ⟨y, x % y, ⟨rfl, rfl⟩, ⟨?_, g3, Nat.lt_of_le_of_lt (Nat.mod_le _ _) g2⟩, Nat.mod_lt _ hy⟩
      rw [Nat.gcd_comm, ← Nat.gcd_rec, Nat.gcd_comm, g1]
    · have : y = 0 := by omega
      subst this
      simp (maxSteps := 2000000) -implicitDefEqProofs [-List.map_set, Ja, -Int.natCast_add, -Int.natCast_mul, -Int.natCast_emod, -Int.natCast_ediv, -Int.natCast_pow, Jb, Jc, Jd, Je, Jf, Jg, Jh, Ji, Jj, Jk, Jl, Jm, Jn, Jo, Jp, Jq, Jr, Js, Jt, Ju, Jv, Jw, Jx, Jy, Jz]
      (first | refine .inl ⟨_, natOf_c x g2, ?_⟩ | refine ⟨_, natOf_c x g2, ?_⟩)
      simp (maxSteps := 2000000) -implicitDefEqProofs [-List.map_set, Ja, -Int.natCast_add, -Int.natCast_mul, -Int.natCast_emod, -Int.natCast_ediv, -Int.natCast_pow, Jb, Jc, Jd, Je, Jf, Jg, Jh, Ji, Jj, Jk, Jl, Jm, Jn, Jo, Jp, Jq, Jr, Js, Jt, Ju, Jv, Jw, Jx, Jy, Jz]
      rw [← g1, Nat.gcd_zero_right]

theorem refDivMod_c (a b : List Nat) (ha : Ok a) (hl : a.length ≤ 1099511627776) (hb : Ok b) (hm : b.length ≤ 1099511627776) (h1 : val a < 18446744073709551616) (h2 : val b < 18446744073709551616) (h0 : val b ≠ 0) :
    CallsF Tryz.prog 95 [.c (natD a), .c (natD b)] (.tup [.c (.d (natD (limbs (val a / val b)))), .c (.d (natD (limbs (val a % val b)))), .c (.d (.int .i64 0))]) := by
  refine callsF_of (T := tb) tab_ok mixed Tryz.func95 rfl (by decide) (Nat.le_of_ble_eq_true rfl) rfl ?_; unfold St.init
  simp (maxSteps := 2000000) -implicitDefEqProofs [-List.map_set, Ja, -Int.natCast_add, -Int.natCast_mul, -Int.natCast_emod, -Int.natCast_ediv, -Int.natCast_pow, Jb, Jc, Jd, Je, Jf, Jg, Jh, Ji, Jj, Jk, Jl, Jm, Jn, Jo, Jp, Jq, Jr, Js, Jt, Ju, Jv, Jw, Jx, Jy, Jz]
  (first | refine .inl ⟨_, refNorm_c a ha hl, ?_⟩ | refine ⟨_, refNorm_c a ha hl, ?_⟩)
  simp (maxSteps := 2000000) -implicitDefEqProofs [-List.map_set, Ja, -Int.natCast_add, -Int.natCast_mul, -Int.natCast_emod, -Int.natCast_ediv, -Int.natCast_pow, Jb, Jc, Jd, Je, Jf, Jg, Jh, Ji, Jj, Jk, Jl, Jm, Jn, Jo, Jp, Jq, Jr, Js, Jt, Ju, Jv, Jw, Jx, Jy, Jz]
  (first | refine .inl ⟨_, refNorm_c b hb hm, ?_⟩ | refine ⟨_, refNorm_c b hb hm, ?_⟩)
  have l1 := limbs_small h1
  have l2 := limbs_small h2
  have s1 := short_c (limbs (val a)) (ok_limbs _) l1
  have s2 := short_c (limbs (val b)) (ok_limbs _) l2
  rw [val_limbs] at s1 s2
  have hp : limbs (val b) ≠ [] := fun h => h0 (limbs_nil.1 h)
  clear hl hm ha hb
  generalize val a = m at *
  generalize val b = n at *
  have e1 : m / n % 18446744073709551616 = m / n := Nat.mod_eq_of_lt (Nat.lt_of_le_of_lt (Nat.div_le_self _ _) h1)
  have e2 : m % n < 18446744073709551616 := Nat.lt_of_le_of_lt (Nat.mod_le _ _) h1
  simp (maxSteps := 2000000) -implicitDefEqProofs [-List.map_set, Ja, -Int.natCast_add, -Int.natCast_mul, -Int.natCast_emod, -Int.natCast_ediv, -Int.natCast_pow, Jb, Jc, Jd, Je, Jf, Jg, Jh, Ji, Jj, Jk, Jl, Jm, Jn, Jo, Jp, Jq, Jr, Js, Jt, Ju, Jv, Jw, Jx, Jy, Jz, hp, l1, l2]
  (first | refine .inl ⟨_, s1, ?_⟩ | refine ⟨_, s1, ?_⟩)
  simp (maxSteps := 2000000) -implicitDefEqProofs [-List.map_set, Ja, -Int.natCast_add, -Int.natCast_mul, -Int.natCast_emod, -Int.natCast_ediv, -Int.natCast_pow, Jb, Jc, Jd, Je, Jf, Jg, Jh, Ji, Jj, Jk, Jl, Jm, Jn, Jo, Jp, Jq, Jr, Js, Jt, Ju, Jv, Jw, Jx, Jy, Jz]
  (first | refine .inl ⟨_, s2, ?_⟩ | refine ⟨_, s2, ?_⟩)
  simp (maxSteps := 2000000) -implicitDefEqProofs [-List.map_set, Ja, -Int.natCast_add, -Int.natCast_mul, -Int.natCast_emod, -Int.natCast_ediv, -Int.natCast_pow, Jb, Jc, Jd, Je, Jf, Jg, Jh, Ji, Jj, Jk, Jl, Jm, Jn, Jo, Jp, Jq, Jr, Js, Jt, Ju, Jv, Jw, Jx, Jy, Jz, h0, e1]
  (first | refine .inl ⟨_, refOf_c (m / n) (by omega), ?_⟩ | refine ⟨_, refOf_c (m / n) (by omega), ?_⟩)
  simp (maxSteps := 2000000) -implicitDefEqProofs [-List.map_set, Ja, -Int.natCast_add, -Int.natCast_mul, -Int.natCast_emod, -Int.natCast_ediv, -Int.natCast_pow, Jb, Jc, Jd, Je, Jf, Jg, Jh, Ji, Jj, Jk, Jl, Jm, Jn, Jo, Jp, Jq, Jr, Js, Jt, Ju, Jv, Jw, Jx, Jy, Jz]
  (first | refine .inl ⟨_, s1, ?_⟩ | refine ⟨_, s1, ?_⟩)
  simp (maxSteps := 2000000) -implicitDefEqProofs [-List.map_set, Ja, -Int.natCast_add, -Int.natCast_mul, -Int.natCast_emod, -Int.natCast_ediv, -Int.natCast_pow, Jb, Jc, Jd, Je, Jf, Jg, Jh, Ji, Jj, Jk, Jl, Jm, Jn, Jo, Jp, Jq, Jr, Js, Jt, Ju, Jv, Jw, Jx, Jy, Jz]
  (first | refine .inl ⟨_, s2, ?_⟩ | refine ⟨_, s2, ?_⟩)
  simp (maxSteps := 2000000) -implicitDefEqProofs [-List.map_set, Ja, -Int.natCast_add, -Int.natCast_mul, -Int.natCast_emod, -Int.natCast_ediv, -Int.natCast_pow, Jb, Jc, Jd, Je, Jf, Jg, Jh, Ji, Jj, Jk, Jl, Jm, Jn, Jo, Jp, Jq, Jr, Js, Jt, Ju, Jv, Jw, Jx, Jy, Jz, h0]
  (first | refine .inl ⟨_, refOf_c (m % n) e2, ?_⟩ | refine ⟨_, refOf_c (m % n) e2, ?_⟩)
  simp (maxSteps := 2000000) -implicitDefEqProofs [-List.map_set, Ja, -Int.natCast_add, -Int.natCast_mul, -Int.natCast_emod, -Int.natCast_ediv, -Int.natCast_pow, Jb, Jc, Jd, Je, Jf, Jg, Jh, Ji, Jj, Jk, Jl, Jm, Jn, Jo, Jp, Jq, Jr, Js, Jt, Ju, Jv, Jw, Jx, Jy, Jz]

/-- Euclid's steps on numbers below 2^64. -/
theorem refGcd_c (a b : List Nat) (ha : Ok a) (hl : a.length ≤ 1099511627776) (hb : Ok b) (hm : b.length ≤ 1099511627776) (h1 : val a < 18446744073709551616) (h2 : val b < 18446744073709551616) :
    CallsF Tryz.prog 94 [.c (natD a), .c (natD b)] (.u (.c (.d (natD (limbs (Nat.gcd (val a) (val b))))))) := by
  refine callsF_of (T := tb) tab_ok mixed Tryz.func94 rfl (by decide) (Nat.le_of_ble_eq_true rfl) rfl ?_; unfold St.init
  simp (maxSteps := 2000000) -implicitDefEqProofs [-List.map_set, Ja, -Int.natCast_add, -Int.natCast_mul, -Int.natCast_emod, -Int.natCast_ediv, -Int.natCast_pow, Jb, Jc, Jd, Je, Jf, Jg, Jh, Ji, Jj, Jk, Jl, Jm, Jn, Jo, Jp, Jq, Jr, Js, Jt, Ju, Jv, Jw, Jx, Jy, Jz]
  (first | refine .inl ⟨_, refNorm_c a ha hl, ?_⟩ | refine ⟨_, refNorm_c a ha hl, ?_⟩)
  simp (maxSteps := 2000000) -implicitDefEqProofs [-List.map_set, Ja, -Int.natCast_add, -Int.natCast_mul, -Int.natCast_emod, -Int.natCast_ediv, -Int.natCast_pow, Jb, Jc, Jd, Je, Jf, Jg, Jh, Ji, Jj, Jk, Jl, Jm, Jn, Jo, Jp, Jq, Jr, Js, Jt, Ju, Jv, Jw, Jx, Jy, Jz]
  (first | refine .inl ⟨_, refNorm_c b hb hm, ?_⟩ | refine ⟨_, refNorm_c b hb hm, ?_⟩)
  simp (maxSteps := 2000000) -implicitDefEqProofs [-List.map_set, Ja, -Int.natCast_add, -Int.natCast_mul, -Int.natCast_emod, -Int.natCast_ediv, -Int.natCast_pow, Jb, Jc, Jd, Je, Jf, Jg, Jh, Ji, Jj, Jk, Jl, Jm, Jn, Jo, Jp, Jq, Jr, Js, Jt, Ju, Jv, Jw, Jx, Jy, Jz]
  clear hl hm ha hb
  generalize val a = m at *
  generalize val b = n at *
  refine wpLoop_of (fun p : Nat × Nat => ⟨[(0, vC (.d (natD (limbs p.1)))), (1, vC (.d (natD (limbs p.2))))], []⟩) (fun p => Nat.gcd p.1 p.2 = Nat.gcd m n ∧ p.1 < 18446744073709551616 ∧ p.2 < 18446744073709551616) (fun p => p.2) (m, n) (by simp) ⟨rfl, h1, h2⟩ ?_
  rintro ⟨x, y⟩ ⟨g1, g2, g3⟩
  simp only at g1 g2 g3
  by_cases h0 : y = 0
  · subst h0
    simp (maxSteps := 2000000) -implicitDefEqProofs [-List.map_set, Ja, -Int.natCast_add, -Int.natCast_mul, -Int.natCast_emod, -Int.natCast_ediv, -Int.natCast_pow, Jb, Jc, Jd, Je, Jf, Jg, Jh, Ji, Jj, Jk, Jl, Jm, Jn, Jo, Jp, Jq, Jr, Js, Jt, Ju, Jv, Jw, Jx, Jy, Jz, limbs_zero]
    rw [← g1, Nat.gcd_zero_right]
  · have hp : 0 < (limbs y).length := limbs_pos_len.2 (by omega)
    have l1 := limbs_small g2
    have l2 := limbs_small g3
    have d := refDivMod_c (limbs x) (limbs y) (ok_limbs _) (by omega) (ok_limbs _) (by omega) (by rw [val_limbs]; exact g2) (by rw [val_limbs]; exact g3) (by rw [val_limbs]; exact h0)
    rw [val_limbs, val_limbs] at d
    simp (maxSteps := 2000000) -implicitDefEqProofs [-List.map_set, Ja, -Int.natCast_add, -Int.natCast_mul, -Int.natCast_emod, -Int.natCast_ediv, -Int.natCast_pow, Jb, Jc, Jd, Je, Jf, Jg, Jh, Ji, Jj, Jk, Jl, Jm, Jn, Jo, Jp, Jq, Jr, Js, Jt, Ju, Jv, Jw, Jx, Jy, Jz, hp]
    (first | refine .inl ⟨_, d, ?_⟩ | refine ⟨_, d, ?_⟩)
    simp (maxSteps := 2000000) -implicitDefEqProofs [-List.map_set, Ja, -Int.natCast_add, -Int.natCast_mul, -Int.natCast_emod, -Int.natCast_ediv, -Int.natCast_pow, Jb, Jc, Jd, Je, Jf, Jg, Jh, Ji, Jj, Jk, Jl, Jm, Jn, Jo, Jp, Jq, Jr, Js, Jt, Ju, Jv, Jw, Jx, Jy, Jz]
    refine ⟨y, x % y, ⟨rfl, rfl⟩, ⟨?_, g3, Nat.lt_of_le_of_lt (Nat.mod_le _ _) g2⟩, Nat.mod_lt _ (by omega)⟩
    rw [Nat.gcd_comm, ← Nat.gcd_rec, Nat.gcd_comm, g1]
end Go.Va
