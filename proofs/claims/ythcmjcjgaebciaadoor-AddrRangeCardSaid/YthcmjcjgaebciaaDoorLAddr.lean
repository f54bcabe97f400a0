/- What the layer of addresses computes: masks, prefixes, ranges. -/
import Derived.Test.YthcmjcjgaebciaaDoorFx6
import Derived.Test.YthcmjcjgaebciaaDoorFx7
import Derived.Test.YthcmjcjgaebciaaDoorFx13
import Derived.Test.YthcmjcjgaebciaaDoorFx16
import Derived.Test.YthcmjcjgaebciaaDoorFx17
import Derived.Laws.BitsAllLaws
namespace Go.Proofs.YthcmjcjgaebciaaDoor.T
open Go.RowKit Go.Proofs.YthcmjcjgaebciaaDoorW.PrintWords Go.Proofs.YthcmjcjgaebciaaDoorW.PrintLast Go.Proofs.YthcmjcjgaebciaaDoorW.PrintMore

/-- how many addresses begin with the same n bits -/
def S32 (n : Int) : Int := 2 ^ (32 - n).toNat

theorem S32_pos (n : Int) : 0 < S32 n := Int.pow_pos (by decide)
theorem S32_le (n : Int) (h : 0 ≤ n) : S32 n ≤ 4294967296 := by
  have h1 : (32 - n).toNat ≤ 32 := by omega
  obtain ⟨d, hd⟩ := Nat.exists_eq_add_of_le h1
  have h2 : (4294967296 : Int) = 2 ^ (32 - n).toNat * 2 ^ d := by rw [← Int.pow_add, ← hd]; decide
  have h3 : (1 : Int) ≤ 2 ^ d := by have : (0 : Int) < 2 ^ d := Int.pow_pos (by decide); omega
  have h4 : (0 : Int) < 2 ^ (32 - n).toNat := Int.pow_pos (by decide)
  unfold S32
  rw [h2]
  have := Int.mul_le_mul_of_nonneg_left h3 (Int.le_of_lt h4)
  omega
theorem S32_dvd {m n : Int} (h : n ≤ m) : ∃ c, 0 < c ∧ S32 n = S32 m * c := by
  have h1 : (32 - m).toNat ≤ (32 - n).toNat := by omega
  obtain ⟨d, hd⟩ := Nat.exists_eq_add_of_le h1
  refine ⟨2 ^ d, Int.pow_pos (by decide), ?_⟩
  unfold S32
  rw [hd, Int.pow_add]
theorem S32_nat (n : Int) : S32 n = ((2 ^ (32 - n).toNat : Nat) : Int) := by unfold S32; simp

theorem mask_val (n : Int) : addr_Mask.f n = some (4294967296 - S32 (if n < 0 then 0 else if 32 < n then 32 else n)) := by
  unfold addr_Mask.f
  have key : ∀ m : Int, 0 ≤ m → m ≤ 32 → (IntKind.u64.wrap (4294967295 * 2 ^ (32 - m).toNat)) % 4294967296 = 4294967296 - S32 m := by
    intro m h0 h1
    have h2 : m = 0 ∨ m = 1 ∨ m = 2 ∨ m = 3 ∨ m = 4 ∨ m = 5 ∨ m = 6 ∨ m = 7 ∨ m = 8 ∨ m = 9 ∨ m = 10 ∨ m = 11 ∨ m = 12 ∨ m = 13 ∨ m = 14 ∨ m = 15 ∨ m = 16 ∨ m = 17 ∨ m = 18 ∨ m = 19 ∨ m = 20 ∨ m = 21 ∨ m = 22 ∨ m = 23 ∨ m = 24 ∨ m = 25 ∨ m = 26 ∨ m = 27 ∨ m = 28 ∨ m = 29 ∨ m = 30 ∨ m = 31 ∨ m = 32 := by omega
    unfold S32
    rcases h2 with rfl | rfl | rfl | rfl | rfl | rfl | rfl | rfl | rfl | rfl | rfl | rfl | rfl | rfl | rfl | rfl | rfl | rfl | rfl | rfl | rfl | rfl | rfl | rfl | rfl | rfl | rfl | rfl | rfl | rfl | rfl | rfl | rfl <;> decide
  have e : mn (mx n 0) 32 = (if n < 0 then 0 else if 32 < n then 32 else n) := by
    unfold mn mx
    split <;> split <;> (try split) <;> omega
  rw [e]
  congr 1
  apply key
  · split <;> (try split) <;> omega
  · split <;> (try split) <;> omega
theorem mask_in (n : Int) (h0 : 0 ≤ n) (h1 : n ≤ 32) : addr_Mask.f n = some (4294967296 - S32 n) := by
  rw [mask_val, if_neg (by omega), if_neg (by omega)]

/-- the highest bits of a, by a mask -/
theorem and_mask (a k : Nat) (ha : a < 2 ^ 32) (hk : k ≤ 32) : a &&& (2 ^ 32 - 2 ^ k) = a / 2 ^ k * 2 ^ k := by
  apply Nat.eq_of_testBit_eq
  intro i
  have hp : 0 < 2 ^ k := Nat.two_pow_pos k
  have hlt : 2 ^ k - 1 < 2 ^ 32 := by have := Nat.pow_le_pow_right (show 0 < 2 by omega) hk; omega
  have e : 2 ^ 32 - 2 ^ k = 2 ^ 32 - ((2 ^ k - 1) + 1) := by congr 1; omega
  rw [Nat.testBit_and, e, Nat.testBit_two_pow_sub_succ hlt, Nat.testBit_two_pow_sub_one, Nat.mul_comm, Nat.testBit_two_pow_mul]
  by_cases hi : i < k
  · have h1 : ¬ (i ≥ k) := by omega
    simp [hi, h1]
  · have h1 : i ≥ k := by omega
    rw [Nat.testBit_div_two_pow, show i - k + k = i by omega]
    by_cases h32 : i < 32
    · simp [hi, h1, h32]
    · have : a.testBit i = false := Nat.testBit_lt_two_pow (Nat.lt_of_lt_of_le ha (Nat.pow_le_pow_right (by omega) (by omega)))
      simp [this]

theorem bits_and_mask (a n : Int) (ha0 : 0 ≤ a) (ha : a < 4294967296) (h0 : 0 ≤ n) (h1 : n ≤ 32) : Go.bits .and .u32 a (4294967296 - S32 n) = a / S32 n * S32 n := by
  have hS := S32_le n h0
  have hp := S32_pos n
  rw [u32_and a _ ha0 ha (by omega) (by omega)]
  obtain ⟨x, rfl⟩ := Int.eq_ofNat_of_zero_le ha0
  have e2 : (4294967296 - S32 n).toNat = 2 ^ 32 - 2 ^ (32 - n).toNat := by
    rw [S32_nat] at hS hp ⊢; omega
  rw [e2, Int.toNat_natCast, and_mask x _ (by omega) (by omega), S32_nat]
  simp
theorem bits_andNot_mask (a n : Int) (ha0 : 0 ≤ a) (ha : a < 4294967296) (h0 : 0 ≤ n) : Go.bits .andNot .u32 a (4294967296 - S32 n) = a % S32 n := by
  have hS := S32_le n h0
  have hp := S32_pos n
  rw [u32_andNot a _ ha0 ha (by omega) (by omega)]
  obtain ⟨x, rfl⟩ := Int.eq_ofNat_of_zero_le ha0
  have e2 : 4294967295 - (4294967296 - S32 n).toNat = 2 ^ (32 - n).toNat - 1 := by
    rw [S32_nat] at hS hp ⊢; omega
  rw [e2, Int.toNat_natCast, Nat.and_two_pow_sub_one_eq_mod, S32_nat]
  simp
theorem bits_or_mask (p n : Int) (hp0 : 0 ≤ p) (hp1 : p < 4294967296) (h0 : 0 ≤ n) (hd : p % S32 n = 0) : Go.bits .or .u32 p (Go.bits .xor .u32 4294967295 (4294967296 - S32 n)) = p + (S32 n - 1) := by
  have hS := S32_le n h0
  have hp := S32_pos n
  have hx : Go.bits .xor .u32 4294967295 (4294967296 - S32 n) = S32 n - 1 := by
    rw [u32_xor _ _ (by omega) (by omega) (by omega) (by omega)]
    have e2 : (4294967296 - S32 n).toNat = 2 ^ 32 - 2 ^ (32 - n).toNat := by
      rw [S32_nat] at hS hp ⊢; omega
    have hk : (32 - n).toNat ≤ 32 := by omega
    rw [e2, S32_nat]
    generalize (32 - n).toNat = k at hk
    have key : (4294967295 : Int).toNat ^^^ (2 ^ 32 - 2 ^ k) = 2 ^ k - 1 := by
      apply Nat.eq_of_testBit_eq
      intro i
      have hlt : 2 ^ k - 1 < 2 ^ 32 := by have := Nat.pow_le_pow_right (show 0 < 2 by omega) hk; have := Nat.two_pow_pos k; omega
      have e : 2 ^ 32 - 2 ^ k = 2 ^ 32 - ((2 ^ k - 1) + 1) := by congr 1; have := Nat.two_pow_pos k; omega
      rw [show (4294967295 : Int).toNat = 2 ^ 32 - 1 from rfl, Nat.testBit_xor, e, Nat.testBit_two_pow_sub_succ hlt, Nat.testBit_two_pow_sub_one, Nat.testBit_two_pow_sub_one]
      by_cases hi : i < k
      · have : i < 32 := by omega
        simp [hi, this]
      · by_cases h32 : i < 32 <;> simp [hi, h32]
    rw [key]
    have := Nat.two_pow_pos k
    omega
  rw [hx, u32_or _ _ hp0 hp1 (by omega) (by omega)]
  obtain ⟨x, rfl⟩ := Int.eq_ofNat_of_zero_le hp0
  rw [S32_nat] at hd hp hS ⊢
  generalize (32 - n).toNat = k at hd hp hS
  have hd2 : x % 2 ^ k = 0 := by
    have : ((x % 2 ^ k : Nat) : Int) = 0 := by simpa using hd
    omega
  obtain ⟨q, rfl⟩ := Nat.dvd_of_mod_eq_zero hd2
  have e3 : (((2 ^ k : Nat) : Int) - 1).toNat = 2 ^ k - 1 := by omega
  rw [e3, Int.toNat_natCast, ← Nat.two_pow_add_eq_or_of_lt (by have := Nat.two_pow_pos k; omega)]
  have := Nat.two_pow_pos k
  omega

/-- a prefix may be -/
def MayP (p n : Int) : Prop := 0 ≤ n ∧ n ≤ 32 ∧ p % S32 n = 0
instance (p n : Int) : Decidable (MayP p n) := by unfold MayP; infer_instance
/-- a prefix has an address -/
def HasP (p n a : Int) : Prop := MayP p n ∧ a / S32 n * S32 n = p
instance (p n a : Int) : Decidable (HasP p n a) := by unfold HasP; infer_instance

theorem may_val (p n : Int) (h0 : 0 ≤ p) (h1 : p < 4294967296) : addr_May.f p n = some (decide (MayP p n)) := by
  unfold addr_May.f
  by_cases a : n ≥ 0
  · rw [if_pos a]
    by_cases b : n ≤ 32
    · rw [if_pos b, mask_in n a b]
      simp only [Option.bind_some]
      rw [bits_andNot_mask p n h0 h1 a]
      congr 1
      rw [Bool.eq_iff_iff]
      simp [MayP, a, b]
    · rw [if_neg b]
      simp [MayP, b]
  · rw [if_neg a]
    have : ¬ (0 ≤ n) := a
    simp [MayP, this]
theorem has_val (p n a : Int) (h0 : 0 ≤ p) (h1 : p < 4294967296) (ha0 : 0 ≤ a) (ha : a < 4294967296) : addr_Has.f p n a = some (decide (HasP p n a)) := by
  unfold addr_Has.f
  rw [may_val p n h0 h1]
  simp only [Option.bind_some, decide_eq_true_eq]
  by_cases hm : MayP p n
  · rw [if_pos hm, mask_in n hm.1 hm.2.1]
    simp only [Option.bind_some]
    rw [bits_and_mask a n ha0 ha hm.1 hm.2.1]
    congr 1
    rw [Bool.eq_iff_iff]
    simp [HasP, hm]
  · rw [if_neg hm]
    simp [HasP, hm]
theorem range_val (p n : Int) (h0 : 0 ≤ p) (h1 : p < 4294967296) : addr_Range.f p n = some (if MayP p n then (p, p + (S32 n - 1)) else (0, 0)) := by
  unfold addr_Range.f
  rw [may_val p n h0 h1]
  simp only [Option.bind_some, decide_eq_true_eq]
  by_cases hm : MayP p n
  · rw [if_pos hm, if_pos hm, mask_in n hm.1 hm.2.1]
    simp only [Option.bind_some]
    rw [bits_or_mask p n h0 h1 hm.1 hm.2.2]
  · rw [if_neg hm, if_neg hm]
theorem within_val (p n q m : Int) (h0 : 0 ≤ p) (h1 : p < 4294967296) (h2 : 0 ≤ q) (h3 : q < 4294967296) : addr_Within.f p n q m = some (decide (MayP p n ∧ m ≤ n ∧ HasP q m p)) := by
  unfold addr_Within.f
  rw [may_val p n h0 h1]
  simp only [Option.bind_some, decide_eq_true_eq]
  by_cases hm : MayP p n
  · rw [if_pos hm]
    by_cases hn : n ≥ m
    · rw [if_pos hn, has_val q m p h2 h3 h0 h1]
      have : m ≤ n := hn
      simp [hm, this]
    · rw [if_neg hn]
      have : ¬ (m ≤ n) := hn
      simp [this]
  · rw [if_neg hm]
    simp [hm]
/-- an address of a prefix is one of its range -/
theorem has_range (p n a : Int) (hm : MayP p n) : HasP p n a ↔ p ≤ a ∧ a ≤ p + (S32 n - 1) := by
  have hp := S32_pos n
  have e1 := Int.mul_ediv_add_emod a (S32 n)
  have e2 := Int.emod_nonneg a (Int.ne_of_gt hp)
  have e3 := Int.emod_lt_of_pos a hp
  have hpd : p = S32 n * (p / S32 n) := by have := Int.mul_ediv_add_emod p (S32 n); rw [hm.2.2] at this; omega
  unfold HasP
  constructor
  · rintro ⟨_, h⟩
    rw [Int.mul_comm] at h
    omega
  · rintro ⟨ha, hb⟩
    refine ⟨hm, ?_⟩
    have h4 : a / S32 n = p / S32 n := by
      rcases Int.lt_trichotomy (a / S32 n) (p / S32 n) with h | h | h
      · exfalso
        have : S32 n * (a / S32 n + 1) ≤ S32 n * (p / S32 n) := Int.mul_le_mul_of_nonneg_left (by omega) (Int.le_of_lt hp)
        rw [Int.mul_add] at this
        omega
      · exact h
      · exfalso
        have : S32 n * (p / S32 n + 1) ≤ S32 n * (a / S32 n) := Int.mul_le_mul_of_nonneg_left (by omega) (Int.le_of_lt hp)
        rw [Int.mul_add] at this
        omega
    rw [h4, Int.mul_comm]; exact hpd.symm
/-- what has the same longer beginning has the same shorter one -/
theorem div_same {m n a b : Int} (h : m ≤ n) (e : a / S32 n = b / S32 n) : a / S32 m = b / S32 m := by
  obtain ⟨c, hc, hd⟩ := S32_dvd h
  rw [hd, ← Int.ediv_ediv_of_nonneg (Int.le_of_lt (S32_pos n)), ← Int.ediv_ediv_of_nonneg (Int.le_of_lt (S32_pos n)), e]
theorem has_div (p n a : Int) (h : HasP p n a) : a / S32 n = p / S32 n := by
  have hp := S32_pos n
  rw [← h.2, Int.mul_ediv_cancel _ (Int.ne_of_gt hp)]
theorem has_of_div (p n a : Int) (hm : MayP p n) (h : a / S32 n = p / S32 n) : HasP p n a := by
  refine ⟨hm, ?_⟩
  rw [h]
  have := Int.mul_ediv_add_emod p (S32 n)
  rw [hm.2.2] at this
  rw [Int.mul_comm]; omega
theorem has_within (p n q m a : Int) (hw : m ≤ n ∧ HasP q m p) (ha : HasP p n a) : HasP q m a :=
  has_of_div q m a hw.2.1 ((div_same hw.1 (has_div p n a ha)).trans (has_div q m p hw.2))
theorem has_both (p n q m a : Int) (h : m ≤ n) (ha : HasP p n a) (hb : HasP q m a) : HasP q m p :=
  has_of_div q m p hb.1 ((div_same h (has_div p n a ha)).symm.trans (has_div q m a hb))
theorem u32_bounds {a : Int} (h : (Lit.int .u32 a).wf = true) : 0 ≤ a ∧ a < 4294967296 := by
  simp [Lit.wf, IntKind.min, IntKind.max, IntKind.signed, IntKind.bits] at h
  omega
end Go.Proofs.YthcmjcjgaebciaaDoor.T
