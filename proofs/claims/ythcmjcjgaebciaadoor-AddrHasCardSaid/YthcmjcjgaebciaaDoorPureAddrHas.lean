/- The plain law: whether a prefix may be, what it has, its range and mask, are as the document says. -/
import Derived.Test.YthcmjcjgaebciaaDoorStaAddrHas
import Derived.Test.YthcmjcjgaebciaaDoorLAddrRef
import Derived.KernelRfl
namespace Go.Proofs.YthcmjcjgaebciaaDoor.T
open Go.RowKit Go.Proofs.YthcmjcjgaebciaaDoorW.PrintWords Go.Proofs.YthcmjcjgaebciaaDoorW.PrintLast Go.Proofs.YthcmjcjgaebciaaDoorW.PrintMore
set_option maxRecDepth 100000 in
theorem works18h : triviumlaw18_works.f 63 = some true := by kernel_rfl
/-- the mask, bit by bit -/
def VM (n : Int) : Nat → Int
  | 0 => 0
  | i + 1 => if (i : Int) < n then 2 * VM n i + 1 else 2 * VM n i
theorem VM_succ (n : Int) (i : Nat) : VM n (i + 1) = if (i : Int) < n then 2 * VM n i + 1 else 2 * VM n i := rfl
theorem VM_bound (n : Int) : ∀ i, 0 ≤ VM n i ∧ VM n i < 2 ^ i := by
  intro i
  induction i with
  | zero => simp [VM]
  | succ i ih =>
    rw [Int.pow_succ]
    unfold VM
    split <;> omega
theorem VM_clamp (n m : Int) (h : ∀ i : Nat, i < 32 → ((i : Int) < n ↔ (i : Int) < m)) : ∀ i, i ≤ 32 → VM n i = VM m i := by
  intro i
  induction i with
  | zero => intro _; rfl
  | succ i ih =>
    intro hi
    have e := ih (by omega)
    unfold VM
    rw [e]
    by_cases c : (i : Int) < n
    · rw [if_pos c, if_pos ((h i (by omega)).1 c)]
    · rw [if_neg c, if_neg (fun z => c ((h i (by omega)).2 z))]
theorem VM_in (n : Int) (h0 : 0 ≤ n) (h1 : n ≤ 32) : VM n 32 = 4294967296 - S32 n := by
  have h2 : n = 0 ∨ n = 1 ∨ n = 2 ∨ n = 3 ∨ n = 4 ∨ n = 5 ∨ n = 6 ∨ n = 7 ∨ n = 8 ∨ n = 9 ∨ n = 10 ∨ n = 11 ∨ n = 12 ∨ n = 13 ∨ n = 14 ∨ n = 15 ∨ n = 16 ∨ n = 17 ∨ n = 18 ∨ n = 19 ∨ n = 20 ∨ n = 21 ∨ n = 22 ∨ n = 23 ∨ n = 24 ∨ n = 25 ∨ n = 26 ∨ n = 27 ∨ n = 28 ∨ n = 29 ∨ n = 30 ∨ n = 31 ∨ n = 32 := by omega
  rcases h2 with rfl | rfl | rfl | rfl | rfl | rfl | rfl | rfl | rfl | rfl | rfl | rfl | rfl | rfl | rfl | rfl | rfl | rfl | rfl | rfl | rfl | rfl | rfl | rfl | rfl | rfl | rfl | rfl | rfl | rfl | rfl | rfl | rfl <;> decide
theorem VM_mask (n : Int) : VM n 32 = 4294967296 - S32 (if n < 0 then 0 else if 32 < n then 32 else n) := by
  have e : VM n 32 = VM (if n < 0 then 0 else if 32 < n then 32 else n) 32 := by
    apply VM_clamp _ _ _ 32 (Nat.le_refl _)
    intro i hi
    split
    · omega
    · split <;> omega
  rw [e]
  apply VM_in
  · split
    · omega
    · split <;> omega
  · split
    · omega
    · split <;> omega
theorem has_loop (k : Nat) (a n p pn q qn : Int) : ∀ i : Nat, i ≤ 32 → triviumlaw18_AddrHas.l0 (32 + k) a n 0 0 p pn q qn = triviumlaw18_AddrHas.l0 (32 - i + k) a n (VM n i) (i : Int) p pn q qn := by
  intro i
  induction i with
  | zero => intro _; rfl
  | succ i ih =>
    intro hi
    rw [ih (by omega)]
    have hb := VM_bound n i
    have hp : (2 : Int) ^ i ≤ 2147483648 := by
      have h1 : i ≤ 31 := by omega
      obtain ⟨d, hd⟩ := Nat.exists_eq_add_of_le h1
      have h2 : (2147483648 : Int) = 2 ^ i * 2 ^ d := by rw [← Int.pow_add, ← hd]; decide
      have h3 : (1 : Int) ≤ 2 ^ d := by have : (0 : Int) < 2 ^ d := Int.pow_pos (by decide); omega
      have h4 : (0 : Int) < 2 ^ i := Int.pow_pos (by decide)
      rw [h2]
      have := Int.mul_le_mul_of_nonneg_left h3 (Int.le_of_lt h4)
      omega
    rw [show 32 - i + k = (32 - (i + 1) + k) + 1 by omega]
    have c : (i : Int) < 32 := by omega
    have w : wrap64 ((i : Int) + 1) = ((i + 1 : Nat) : Int) := by unfold wrap64; omega
    simp only [triviumlaw18_AddrHas.l0]
    rw [if_pos c, w]
    by_cases d : (i : Int) < n
    · rw [if_pos d]
      congr 1
      rw [VM_succ, if_pos d]
      rw [Int.emod_eq_of_lt (a := 2 * VM n i) (by omega) (by omega), Int.emod_eq_of_lt (by omega) (by omega)]
    · rw [if_neg d]
      congr 1
      rw [VM_succ, if_neg d]
      rw [Int.emod_eq_of_lt (by omega) (by omega)]
theorem pure_AddrHas : triviumlaw18_AddrHas.Pure := by
  intro p n q m a l hp _ hq _ ha _
  obtain ⟨p0, p1⟩ := u32_bounds hp
  obtain ⟨q0, q1⟩ := u32_bounds hq
  obtain ⟨a0, a1⟩ := u32_bounds ha
  refine ⟨32 + 100, ?_⟩
  unfold triviumlaw18_AddrHas.f
  rw [has_loop 100 a l p n q m 32 (Nat.le_refl _), VM_mask l]
  rw [show 32 - 32 + 100 = 99 + 1 from rfl]
  unfold triviumlaw18_AddrHas.l0
  rw [if_neg (by decide)]
  rw [refRange_val 99 p n p0 p1 (by decide), refRange_val 99 q m q0 q1 (by decide), refMay_val 99 p n p0 p1 (by decide), refMay_val 99 q m q0 q1 (by decide)]
  simp only [Option.bind_some, decide_eq_true_eq]
  have fin : ∀ b r1 r2, b = decide (MayP p n ∧ m ≤ n ∧ HasP q m p) → (if MayP p n then (p, p + (S32 n - 1)) else (0, 0)) = (r1, r2) → triviumlaw18_AddrHas.j1 99 a l (4294967296 - S32 (if l < 0 then 0 else if 32 < l then 32 else l)) b p n q m r1 r2 = some true := by
    intro b r1 r2 hb hr
    simp only [triviumlaw18_AddrHas.j1]
    rw [may_val p n p0 p1, refMay_val 98 p n p0 p1 (by decide), has_val p n a p0 p1 a0 a1, refHas_val 98 p n a p0 p1 a0 a1 (by decide), range_val p n p0 p1, mask_val l, within_val p n q m p0 p1 q0 q1, hr, hb]
    have hw : triviumlaw18_works.f 98 = some true := at_rounds (fun k => triviumlaw18_works.mono k) (by decide) works18h
    rw [hw]
    simp
  by_cases h1 : MayP p n
  · rw [if_pos h1]
    by_cases h2 : MayP q m
    · rw [if_pos h2]
      simp only [if_pos h1, if_pos h2]
      have hr := within_range p n q m h1 h2
      by_cases h3 : q ≤ p
      · rw [if_pos h3]
        apply fin
        · rw [decide_eq_decide]
          constructor
          · intro z; exact ⟨h1, hr.2 ⟨h3, z⟩⟩
          · rintro ⟨_, z⟩; exact (hr.1 z).2
        · rw [if_pos h1]
      · rw [if_neg h3]
        apply fin
        · symm
          rw [decide_eq_false_iff_not]
          rintro ⟨_, z⟩; exact h3 (hr.1 z).1
        · rw [if_pos h1]
    · rw [if_neg h2]
      apply fin
      · symm
        rw [decide_eq_false_iff_not]
        rintro ⟨_, _, z⟩; exact h2 z.1
      · simp only [if_pos h1]
  · rw [if_neg h1]
    apply fin
    · symm
      rw [decide_eq_false_iff_not]
      rintro ⟨z, _⟩; exact h1 z
    · simp only [if_neg h1]
end Go.Proofs.YthcmjcjgaebciaaDoor.T
namespace Go.Proofs.YthcmjcjgaebciaaDoor.Pure
theorem AddrHas : T.triviumlaw18_AddrHas.Pure := T.pure_AddrHas
end Go.Proofs.YthcmjcjgaebciaaDoor.Pure
