/- What the document's answer computes of prefixes. -/
import Derived.Test.YthcmjcjgaebciaaDoorLAddr
import Derived.Test.YthcmjcjgaebciaaDoorFx22
import Derived.Test.YthcmjcjgaebciaaDoorFx23
import Derived.Test.YthcmjcjgaebciaaDoorFx30
import Derived.Test.YthcmjcjgaebciaaDoorFx29
import Derived.KernelRfl
namespace Go.Proofs.YthcmjcjgaebciaaDoor.T
open Go.RowKit Go.Proofs.YthcmjcjgaebciaaDoorW.PrintWords Go.Proofs.YthcmjcjgaebciaaDoorW.PrintLast Go.Proofs.YthcmjcjgaebciaaDoorW.PrintMore

theorem u64_wrap {x : Int} (h0 : 0 ≤ x) (h1 : x < 18446744073709551616) : IntKind.u64.wrap x = x := by
  simp [IntKind.wrap, IntKind.signed, IntKind.bits]; omega
theorem size_40 (n : Int) (h0 : 0 ≤ n) (h1 : n ≤ 32) : triviumref18_Size.f 40 n = some (S32 n) := by
  have h2 : n = 0 ∨ n = 1 ∨ n = 2 ∨ n = 3 ∨ n = 4 ∨ n = 5 ∨ n = 6 ∨ n = 7 ∨ n = 8 ∨ n = 9 ∨ n = 10 ∨ n = 11 ∨ n = 12 ∨ n = 13 ∨ n = 14 ∨ n = 15 ∨ n = 16 ∨ n = 17 ∨ n = 18 ∨ n = 19 ∨ n = 20 ∨ n = 21 ∨ n = 22 ∨ n = 23 ∨ n = 24 ∨ n = 25 ∨ n = 26 ∨ n = 27 ∨ n = 28 ∨ n = 29 ∨ n = 30 ∨ n = 31 ∨ n = 32 := by omega
  rcases h2 with rfl | rfl | rfl | rfl | rfl | rfl | rfl | rfl | rfl | rfl | rfl | rfl | rfl | rfl | rfl | rfl | rfl | rfl | rfl | rfl | rfl | rfl | rfl | rfl | rfl | rfl | rfl | rfl | rfl | rfl | rfl | rfl | rfl <;> (show triviumref18_Size.f 40 _ = some (S32 _)) <;> kernel_rfl
theorem size_val (k : Nat) (n : Int) (h0 : 0 ≤ n) (h1 : n ≤ 32) (hk : 40 ≤ k) : triviumref18_Size.f k n = some (S32 n) := by
  refine at_rounds (g := fun k => triviumref18_Size.f k n) (fun k => triviumref18_Size.mono n k) hk ?_
  exact size_40 n h0 h1
theorem refMay_val (k : Nat) (p n : Int) (h0 : 0 ≤ p) (h1 : p < 4294967296) (hk : 40 ≤ k) : triviumref18_May.f k p n = some (decide (MayP p n)) := by
  unfold triviumref18_May.f
  by_cases a : n ≥ 0
  · rw [if_pos a]
    by_cases b : n ≤ 32
    · rw [if_pos b, size_val k n a b hk]
      simp only [Option.bind_some]
      have hp := S32_pos n
      rw [if_neg (by omega), u64_wrap h0 (by omega), Int.tmod_eq_emod_of_nonneg h0]
      congr 1
      rw [Bool.eq_iff_iff]
      simp [MayP, a, b]
    · rw [if_neg b]
      simp [MayP, b]
  · rw [if_neg a]
    have : ¬ (0 ≤ n) := a
    simp [MayP, this]
/-- the last address of a prefix is one -/
theorem last_lt (p n : Int) (h1 : p < 4294967296) (hm : MayP p n) : p + (S32 n - 1) < 4294967296 := by
  obtain ⟨c, hc, hd⟩ := S32_dvd (m := n) (n := 0) hm.1
  have h32 : S32 0 = 4294967296 := by decide
  have hp := S32_pos n
  have hpd : p = S32 n * (p / S32 n) := by have := Int.mul_ediv_add_emod p (S32 n); rw [hm.2.2] at this; omega
  rw [h32] at hd
  have hlt : p / S32 n < c := by
    rcases Int.lt_or_le (p / S32 n) c with h | h
    · exact h
    · exfalso
      have := Int.mul_le_mul_of_nonneg_left h (Int.le_of_lt hp)
      omega
  have h2 : S32 n * (p / S32 n + 1) ≤ S32 n * c := Int.mul_le_mul_of_nonneg_left (by omega) (Int.le_of_lt hp)
  rw [Int.mul_add] at h2
  omega
theorem refHas_val (k : Nat) (p n a : Int) (h0 : 0 ≤ p) (h1 : p < 4294967296) (ha0 : 0 ≤ a) (ha : a < 4294967296) (hk : 40 ≤ k) : triviumref18_Has.f k p n a = some (decide (HasP p n a)) := by
  unfold triviumref18_Has.f
  rw [refMay_val k p n h0 h1 hk]
  simp only [Option.bind_some, decide_eq_true_eq]
  by_cases hm : MayP p n
  · rw [if_pos hm, size_val k n hm.1 hm.2.1 hk]
    simp only [Option.bind_some]
    have hr := has_range p n a hm
    by_cases hpa : a ≥ p
    · rw [if_pos hpa, Int.emod_eq_of_lt (by omega) (by omega)]
      congr 1
      rw [decide_eq_decide, hr]
      omega
    · rw [if_neg hpa]
      have : ¬ HasP p n a := by rw [hr]; omega
      simp [this]
  · rw [if_neg hm]
    simp [HasP, hm]
theorem refRange_val (k : Nat) (p n : Int) (h0 : 0 ≤ p) (h1 : p < 4294967296) (hk : 40 ≤ k) : triviumref18_Range.f k p n = some (if MayP p n then (p, p + (S32 n - 1)) else (0, 0)) := by
  unfold triviumref18_Range.f
  rw [refMay_val k p n h0 h1 hk]
  simp only [Option.bind_some, decide_eq_true_eq]
  by_cases hm : MayP p n
  · rw [if_pos hm, if_pos hm, size_val k n hm.1 hm.2.1 hk]
    simp only [Option.bind_some]
    have hp := S32_pos n
    have hl := last_lt p n h1 hm
    have hS := S32_le n hm.1
    rw [u64_wrap (by omega) (by omega), Int.emod_eq_of_lt (a := S32 n - 1) (by omega) (by omega), Int.emod_eq_of_lt (by omega) hl]
  · rw [if_neg hm, if_neg hm]
theorem S32_lt {m n : Int} (h : n < m) (hm : m ≤ 32) : S32 m < S32 n := by
  have h1 : (32 - n).toNat = (32 - m).toNat + 1 + ((32 - n).toNat - (32 - m).toNat - 1) := by omega
  have hp : (0 : Int) < 2 ^ ((32 - n).toNat - (32 - m).toNat - 1) := Int.pow_pos (by decide)
  have hq : (0 : Int) < 2 ^ (32 - m).toNat := Int.pow_pos (by decide)
  have e : S32 n = 2 ^ (32 - m).toNat * 2 * 2 ^ ((32 - n).toNat - (32 - m).toNat - 1) := by
    unfold S32; conv => lhs; rw [h1, Int.pow_add, Int.pow_succ]
  have e2 : S32 m = 2 ^ (32 - m).toNat := rfl
  rw [e, e2]
  generalize (2 : Int) ^ (32 - m).toNat = a at hq
  generalize (2 : Int) ^ ((32 - n).toNat - (32 - m).toNat - 1) = b at hp
  have h3 : a * 2 * 1 ≤ a * 2 * b := Int.mul_le_mul_of_nonneg_left (by omega) (by omega)
  omega
/-- one prefix within another, by their ranges -/
theorem within_range (p n q m : Int) (hp : MayP p n) (hq : MayP q m) : (m ≤ n ∧ HasP q m p) ↔ (q ≤ p ∧ p + (S32 n - 1) ≤ q + (S32 m - 1)) := by
  have hr := has_range q m p hq
  have hsn := S32_pos n
  constructor
  · rintro ⟨hmn, hh⟩
    obtain ⟨h1, h2⟩ := hr.1 hh
    refine ⟨h1, ?_⟩
    obtain ⟨c, hc, hd⟩ := S32_dvd hmn
    have hpd : p = S32 n * (p / S32 n) := by have := Int.mul_ediv_add_emod p (S32 n); rw [hp.2.2] at this; omega
    have hqd : q = S32 m * (q / S32 m) := by have := Int.mul_ediv_add_emod q (S32 m); rw [hq.2.2] at this; omega
    have e : q + S32 m = S32 n * (c * (q / S32 m) + c) := by rw [hqd, Int.mul_ediv_cancel_left _ (by have := S32_pos m; omega)]; rw [hd]; grind
    have hlt : p / S32 n < c * (q / S32 m) + c := by
      rcases Int.lt_or_le (p / S32 n) (c * (q / S32 m) + c) with h | h
      · exact h
      · exfalso
        have := Int.mul_le_mul_of_nonneg_left h (Int.le_of_lt hsn)
        omega
    have h3 : S32 n * (p / S32 n + 1) ≤ S32 n * (c * (q / S32 m) + c) := Int.mul_le_mul_of_nonneg_left (by omega) (Int.le_of_lt hsn)
    rw [Int.mul_add] at h3
    omega
  · rintro ⟨h1, h2⟩
    have hmn : m ≤ n := by
      rcases Int.lt_or_le n m with h | h
      · exfalso
        have := S32_lt h hq.2.1
        omega
      · exact h
    exact ⟨hmn, hr.2 ⟨h1, by omega⟩⟩
end Go.Proofs.YthcmjcjgaebciaaDoor.T
