/- The law WholeRing holds of every input: the row, and its card. -/
import Derived.Test.YtihaljbhcnflfaaDoorQWR5
import Derived.Test.YtihaljbhcnflfaaDoorQWR3
import Derived.Lib.Join
import Derived.Lib.SmallJoins
import Derived.Lib.AppendIntMem
import Derived.Lib.ItoaLen
import Derived.Test.YtihaljbhcnflfaaDoorCards
import Derived.Test.YtihaljbhcnflfaaDoorTie
import Derived.WalkKit
import Derived.ProofKit
import Derived.OpenShut
import Derived.ShutString
import Derived.ChangeOld
import Derived.Below
import Derived.Lay
import Derived.SevenTiedAt
import Derived.Lib.LaidTab
import Derived.Lib.LaidU8
import Derived.Stop.LaidErr
import Derived.LaidMore
/- Bits of a limb, shifts, and Knuth's division. -/
namespace Go.Proofs.YtihaljbhcnflfaaDoor.AP
open Go Go.Proofs.YtihaljbhcnflfaaDoor.Tri
set_option linter.unusedVariables false
set_option linter.unusedSimpArgs false
theorem sr_nat (x : Int) (k : Nat) (hk : k ≤ 64) : sr .u64 x (k : Int) = some (x / 2 ^ k) := by
  unfold sr
  rw [if_pos (by omega)]
  have e : min ((k : Int)).toNat IntKind.u64.bits = k := by
    have : IntKind.u64.bits = 64 := rfl
    omega
  rw [e, Int.fdiv_eq_ediv_of_nonneg _ (Int.le_of_lt (pow_pos' (by decide) k))]
theorem sh_nat (x : Int) (k : Nat) (hk : k ≤ 64) : sh .u64 x (k : Int) = some (wu64 (x * 2 ^ k)) := by
  unfold sh
  rw [if_pos (by omega)]
  have e : min ((k : Int)).toNat IntKind.u64.bits = k := by
    have : IntKind.u64.bits = 64 := rfl
    omega
  rw [e]; rfl
theorem and_one (x : Int) (h0 : 0 ≤ x) (h1 : x < 18446744073709551616) : Go.bits .and .u64 x 1 = x % 2 := by
  rw [u64_and x _ h0 h1 (by omega) (by omega)]
  have : (1 : Int).toNat = 2 ^ 1 - 1 := rfl
  rw [this, Nat.and_two_pow_sub_one_eq_mod]
  omega
theorem bits_loop (a : Int) (h0 : 0 ≤ a) (h1 : a < (4294967296 : Int)) : ∀ (r k n : Nat), k + r = 32 → n ≤ k → Nb (a % 2 ^ k) n → ∃ m : Nat, lp (m_limb_Bits_l1 a) ((n : Int), (k : Int)) = some (m : Int) ∧ m ≤ 32 ∧ Nb a m
  | 0, k, n, hk, hn, h => by
    obtain rfl : k = 32 := by omega
    rw [Int.emod_eq_of_lt h0 (by rw [show (2 : Int) ^ 32 = 4294967296 from rfl]; exact h1)] at h
    exact ⟨n, lp_done (by simp [m_limb_Bits_l1]), hn, h⟩
  | r + 1, k, n, hk, hn, h => by
    have hq := Int.ediv_nonneg h0 (Int.le_of_lt (pow_pos' (show (0 : Int) < 2 by decide) k))
    have hq2 : a / 2 ^ k ≤ a := Int.ediv_le_self _ h0
    have a1 : decide ((k : Int) < 32) = true := decide_eq_true (by omega)
    have a2 : wi64 ((k : Int) + 1) = ((k + 1 : Nat) : Int) := by rw [wi64_eq (by omega) (by omega)]; omega
    have e1 : m_limb_Bits_l1 a ((n : Int), (k : Int)) = some (.inl (((if (a / 2 ^ k) % 2 = 1 then k + 1 else n : Nat) : Int), ((k + 1 : Nat) : Int))) := by
      simp only [m_limb_Bits_l1, a1, if_true, sr_nat a k (by omega), bd_some, and_one (a / 2 ^ k) hq (by omega), a2]
      by_cases hb : (a / 2 ^ k) % 2 = 1
      · rw [if_pos (decide_eq_true hb), if_pos hb, bd_some]
      · rw [if_neg (by simpa using hb), if_neg hb, bd_some]
    rw [lp_more e1]
    exact bits_loop a h0 h1 r (k + 1) _ (by omega) (by split <;> omega) (h.step hn)
theorem bits_eq (a : Int) (h0 : 0 ≤ a) (h1 : a < (4294967296 : Int)) : ∃ m : Nat, m_limb_Bits a = some (m : Int) ∧ m ≤ 32 ∧ Nb a m := by
  obtain ⟨m, e, r⟩ := bits_loop a h0 h1 32 0 0 rfl (Nat.le_refl _) ⟨by rw [Int.pow_zero, Int.emod_one]; decide, fun h => absurd h (by decide)⟩
  refine ⟨m, ?_, r⟩
  unfold m_limb_Bits
  have e' : lp (m_limb_Bits_l1 a) (0, 0) = some (m : Int) := e
  rw [e', bd_some]
/-! shifted up -/
theorem lb_pow (s : Nat) (hs : s ≤ 32) : (4294967296 : Int) = 2 ^ s * 2 ^ (32 - s) := by
  rw [← Int.pow_add, show s + (32 - s) = 32 by omega]; rfl
theorem shl_or (c a : Int) (s : Nat) (hs : s < 32) (hc : 0 ≤ c ∧ c < 2 ^ s) (ha : 0 ≤ a ∧ a < (4294967296 : Int)) : Go.bits .or .u64 c (a * 2 ^ s % (4294967296 : Int)) = c + a * 2 ^ s % (4294967296 : Int) ∧ c + a * 2 ^ s % (4294967296 : Int) < (4294967296 : Int) ∧ a * 2 ^ s / (4294967296 : Int) < 2 ^ s := by
  have hp : (0 : Int) < 2 ^ s := pow_pos' (by decide) s
  have hB := lb_pow s (by omega)
  have e : a * 2 ^ s % (4294967296 : Int) = 2 ^ s * (a % 2 ^ (32 - s)) := by
    rw [hB, Int.mul_comm a]; exact Int.mul_emod_mul_of_pos _ _ hp
  have h1 := Int.emod_nonneg a (show (2 : Int) ^ (32 - s) ≠ 0 from Int.ne_of_gt (pow_pos' (by decide) _))
  have h2 := Int.emod_lt_of_pos a (pow_pos' (show (0 : Int) < 2 by decide) (32 - s))
  have h3 : 2 ^ s * (a % 2 ^ (32 - s)) + 2 ^ s ≤ (4294967296 : Int) := by
    have : 2 ^ s * (a % 2 ^ (32 - s) + 1) ≤ 2 ^ s * 2 ^ (32 - s) := Int.mul_le_mul_of_nonneg_left (by omega) (Int.le_of_lt hp)
    rw [← hB, Int.mul_add, Int.mul_one] at this
    exact this
  have h4 : 0 ≤ 2 ^ s * (a % 2 ^ (32 - s)) := Int.mul_nonneg (Int.le_of_lt hp) h1
  have h5 : a * 2 ^ s / (4294967296 : Int) < 2 ^ s := Int.ediv_lt_of_lt_mul (by decide) (by rw [Int.mul_comm (2 ^ s)]; exact Int.mul_lt_mul_of_pos_right ha.2 hp)
  refine ⟨?_, by omega, h5⟩
  rw [u64_or _ _ hc.1 (by omega) (by omega) (by omega), e]
  obtain ⟨C, hC⟩ := Int.eq_ofNat_of_zero_le hc.1
  obtain ⟨W, hW⟩ := Int.eq_ofNat_of_zero_le h1
  rw [hW]
  have e2 : ((2 : Int) ^ s * (W : Int)).toNat = 2 ^ s * W := by
    have : (2 : Int) ^ s * (W : Int) = ((2 ^ s * W : Nat) : Int) := by push_cast; rfl
    rw [this]; rfl
  have e3 : C < 2 ^ s := by
    have := hc.2
    have e : ((2 : Int) ^ s) = ((2 ^ s : Nat) : Int) := by push_cast; rfl
    rw [e, hC] at this
    exact Int.ofNat_lt.1 this
  rw [hC, e2, Int.toNat_natCast, Nat.or_comm, ← Nat.two_pow_add_eq_or_of_lt e3]
  push_cast
  rw [Int.add_comm]
theorem shl_loop (a : List Int) (s : Nat) (hs : s < 32) (ha : Dig (4294967296 : Int) a) (hl : a.length ≤ 1000000000) : ∀ (k i : Nat) (D : List Int) (c : Int), i + k = a.length → D.length = i → Dig (4294967296 : Int) D → (0 ≤ c ∧ c < 2 ^ s) → dv (4294967296 : Int) D + (4294967296 : Int) ^ i * c = dv (4294967296 : Int) (a.take i) * 2 ^ s →
    ∃ r, lp (m_nat_Shl_l1 a (s : Int)) ((i : Int), D ++ c :: List.replicate k 0) = some r ∧ Dig (4294967296 : Int) r ∧ r.length = a.length + 1 ∧ dv (4294967296 : Int) r = dv (4294967296 : Int) a * 2 ^ s
  | 0, i, D, c, hk, hi, hD, hc, hv => by
    obtain rfl : i = a.length := by omega
    have hb := (shl_or c 0 s hs hc ⟨Int.le_refl _, by decide⟩).2.1
    refine ⟨D ++ [c], lp_done (by simp [m_nat_Shl_l1]), hD.snoc ⟨hc.1, by omega⟩, by simp [hi], ?_⟩
    rw [dv_snoc, hi, hv, List.take_length]
  | k + 1, i, D, c, hk, hi, hD, hc, hv => by
    have ga := gI_dig ha (by decide) (i : Int)
    generalize hx : gI a (i : Int) = x at *
    obtain ⟨o1, o2, o3⟩ := shl_or c x s hs hc ga
    have hp : (0 : Int) < 2 ^ s := pow_pos' (by decide) s
    have hpB : (2 : Int) ^ s ≤ (4294967296 : Int) := by
      rw [lb_pow s (by omega)]
      have := pow_pos' (show (0 : Int) < 2 by decide) (32 - s)
      have h : (2 : Int) ^ s * 1 ≤ 2 ^ s * 2 ^ (32 - s) := Int.mul_le_mul_of_nonneg_left (by omega) (Int.le_of_lt hp)
      omega
    have hxs : 0 ≤ x * 2 ^ s := Int.mul_nonneg ga.1 (Int.le_of_lt hp)
    have hxs2 : x * 2 ^ s ≤ 4294967295 * 4294967296 := Int.mul_le_mul (by omega) hpB (Int.le_of_lt hp) (by decide)
    have a1 : decide ((i : Int) < (a.length : Int)) = true := decide_eq_true (by omega)
    have a2 : rd a (i : Int) = some x := by rw [rd_I (by omega) (by omega), hx]
    have a3 : qd .i64 (s : Int) 32 = some 0 := by rw [qd64 (by omega) (by decide) (by omega)]; congr 1; omega
    have a4 : rm .i64 (s : Int) 32 = some (s : Int) := by rw [rm_of (by omega) (by decide)]; congr 1; omega
    have a5 : wi64 ((i : Int) + 0) = (i : Int) := by rw [wi64_eq (by omega) (by omega)]; omega
    have a6 : wi64 ((i : Int) + 1) = ((i + 1 : Nat) : Int) := by rw [wi64_eq (by omega) (by omega)]; omega
    have a7 : rd (D ++ c :: List.replicate (k + 1) 0) (i : Int) = some c := by
      rw [rd_I (by omega) (by simp; omega)]
      have := gI_mid [] D (List.replicate (k + 1) 0) c
      simp only [List.nil_append, List.length_nil, Nat.zero_add, hi] at this
      rw [this]
    have a8 : ix (D ++ c :: List.replicate (k + 1) 0) (i : Int) = some i := ix_nat (by simp; omega)
    have a9 : (D ++ c :: List.replicate (k + 1) 0).set i (c + x * 2 ^ s % (4294967296 : Int)) = (D ++ [c + x * 2 ^ s % (4294967296 : Int)]) ++ 0 :: List.replicate k 0 := by
      rw [← hi, set_at]; rfl
    have b1 : ix ((D ++ [c + x * 2 ^ s % (4294967296 : Int)]) ++ 0 :: List.replicate k 0) ((i + 1 : Nat) : Int) = some (i + 1) := ix_nat (by simp; omega)
    have b2 : ((D ++ [c + x * 2 ^ s % (4294967296 : Int)]) ++ 0 :: List.replicate k 0).set (i + 1) (x * 2 ^ s / (4294967296 : Int)) = (D ++ [c + x * 2 ^ s % (4294967296 : Int)]) ++ (x * 2 ^ s / (4294967296 : Int)) :: List.replicate k 0 := by
      have : i + 1 = (D ++ [c + x * 2 ^ s % (4294967296 : Int)]).length := by simp [hi]
      rw [this, set_at]; simp
    have e1 : m_nat_Shl_l1 a (s : Int) ((i : Int), D ++ c :: List.replicate (k + 1) 0) = some (.inl (((i + 1 : Nat) : Int), (D ++ [c + x * 2 ^ s % (4294967296 : Int)]) ++ (x * 2 ^ s / (4294967296 : Int)) :: List.replicate k 0)) := by
      simp only [m_nat_Shl_l1, a1, if_true, a2, bd_some, a3, a4, sh_nat x s (by omega), wu64_eq hxs (by omega), a5, a7, rm_of hxs (show (0 : Int) < 4294967296 by decide), a8, o1, lt_eq, a9, sr32, a6, b1, b2]
    have h0 := Int.emod_nonneg (x * 2 ^ s) (show (4294967296 : Int) ≠ 0 by decide)
    obtain ⟨r, r1, r2⟩ := shl_loop a s hs ha hl k (i + 1) (D ++ [c + x * 2 ^ s % (4294967296 : Int)]) (x * 2 ^ s / (4294967296 : Int)) (by omega) (by simp [hi]) (hD.snoc ⟨by omega, o2⟩) ⟨Int.ediv_nonneg hxs (by decide), o3⟩ (by
      rw [dv_snoc, take_gI', hi, Int.pow_succ, hx]
      have := Int.mul_ediv_add_emod (x * 2 ^ s) (4294967296 : Int)
      clear e1 b1 b2 a7 a8 a9 o1 o2 o3
      generalize (4294967296 : Int) ^ i = P at *
      generalize dv (4294967296 : Int) (List.take i a) = T at *
      generalize dv (4294967296 : Int) D = DD at *
      generalize x * 2 ^ s / (4294967296 : Int) = q at *
      generalize x * 2 ^ s % (4294967296 : Int) = m at *
      have e : (T + P * x) * 2 ^ s = T * 2 ^ s + P * (x * 2 ^ s) := by rw [Int.add_mul, Int.mul_assoc]
      rw [e, ← hv, ← this]
      grind)
    exact ⟨r, by rw [lp_more e1]; exact r1, r2⟩
theorem shl_eq (x : Int) (s : Nat) (hs : s < 32) (hx : 0 ≤ x) (hl : (nl x).length ≤ 1000000000) : m_nat_Shl (nl x) (s : Int) = some (nl (x * 2 ^ s), 0) := by
  have e0 : m_nat_shift (s : Int) = some 0 := by
    unfold m_nat_shift
    rw [if_neg (by rw [decide_eq_true_eq]; omega), bd_some, if_neg (by rw [decide_eq_true_eq]; omega)]
  unfold m_nat_Shl
  rw [e0, bd_some, if_neg (by decide), bd_some]
  by_cases h0 : nl x = []
  · have hx0 := (nl_nil hx).1 h0
    subst hx0
    rw [h0, if_pos (by rfl), Int.zero_mul, nl_zero]
  · have hlen := List.length_pos_iff.2 h0
    rw [if_neg (by rw [decide_eq_true_eq]; omega)]
    have a3 : qd .i64 (s : Int) 32 = some 0 := by rw [qd64 (by omega) (by decide) (by omega)]; congr 1; omega
    have a4 : wi64 ((wi64 (((nl x).length : Int) + 0)) + 1) = (((nl x).length + 1 : Nat) : Int) := by rw [wi64_eq (x := ((nl x).length : Int) + 0) (by omega) (by omega), wi64_eq (by omega) (by omega)]; omega
    have hp : (0 : Int) < 2 ^ s := pow_pos' (by decide) s
    obtain ⟨r, r1, r2, r3, r4⟩ := shl_loop (nl x) s hs (nl_can x).1 hl (nl x).length 0 [] 0 (by omega) rfl (Dig.nil _) ⟨Int.le_refl _, hp⟩ (by simp [dv])
    have r1' : lp (m_nat_Shl_l1 (nl x) (s : Int)) (0, List.replicate ((nl x).length + 1) 0) = some r := r1
    rw [a3, bd_some, a4, mk_of (by omega), bd_some, show ((((nl x).length + 1 : Nat) : Int)).toNat = (nl x).length + 1 by omega, r1', bd_some, trimN_eq _ (by omega), bd_some, trimz_nl r2 (by rw [r4, nl_dv hx])]
end Go.Proofs.YtihaljbhcnflfaaDoor.AP
/- Shifted down; Knuth's rounds; division of any two numbers. -/
namespace Go.Proofs.YtihaljbhcnflfaaDoor.AP
open Go Go.Proofs.YtihaljbhcnflfaaDoor.Tri
set_option linter.unusedVariables false
set_option linter.unusedSimpArgs false
theorem drop_gI' (B : Int) (l : List Int) (i : Nat) : dv B (l.drop i) = gI l (i : Int) + B * dv B (l.drop (i + 1)) := by
  by_cases h : i < l.length
  · rw [drop_gI l i h, dv_cons]
  · rw [List.drop_of_length_le (by omega), List.drop_of_length_le (by omega), gI_beyond l i (by omega), dv_nil, Int.mul_zero]; rfl
theorem shr_step (a0 a1 T : Int) (s : Nat) (hs : s ≤ 32) (h0 : 0 ≤ a0 ∧ a0 < (4294967296 : Int)) : (a0 + (4294967296 : Int) * (a1 + (4294967296 : Int) * T)) / 2 ^ s = (a0 + (4294967296 : Int) * a1) / 2 ^ s % (4294967296 : Int) + (4294967296 : Int) * ((a1 + (4294967296 : Int) * T) / 2 ^ s) := by
  have hp : (0 : Int) < 2 ^ s := pow_pos' (by decide) s
  have hB := lb_pow s hs
  have e1 : (a0 + (4294967296 : Int) * (a1 + (4294967296 : Int) * T)) / 2 ^ s = (a0 + (4294967296 : Int) * a1) / 2 ^ s + (4294967296 : Int) * (2 ^ (32 - s) * T) := by
    have : a0 + (4294967296 : Int) * (a1 + (4294967296 : Int) * T) = a0 + (4294967296 : Int) * a1 + 2 ^ s * ((4294967296 : Int) * (2 ^ (32 - s) * T)) := by
      have h : (4294967296 : Int) * ((4294967296 : Int) * T) = 2 ^ s * ((4294967296 : Int) * (2 ^ (32 - s) * T)) := by
        conv => lhs; rw [show (4294967296 : Int) * ((4294967296 : Int) * T) = (4294967296 : Int) * T * (4294967296 : Int) from Int.mul_comm _ _]
        conv => lhs; arg 2; rw [hB]
        grind
      rw [← h]; grind
    rw [this, Int.add_mul_ediv_left _ _ (by omega)]
  have e2 : (a1 + (4294967296 : Int) * T) / 2 ^ s = a1 / 2 ^ s + 2 ^ (32 - s) * T := by
    have : a1 + (4294967296 : Int) * T = a1 + 2 ^ s * (2 ^ (32 - s) * T) := by rw [← Int.mul_assoc, ← hB]
    rw [this, Int.add_mul_ediv_left _ _ (by omega)]
  have e3 : (a0 + (4294967296 : Int) * a1) / 2 ^ s / (4294967296 : Int) = a1 / 2 ^ s := by
    rw [Int.ediv_ediv_of_nonneg (Int.le_of_lt hp), Int.mul_comm (2 ^ s), ← Int.ediv_ediv_of_nonneg (show (0 : Int) ≤ (4294967296 : Int) by decide), Int.add_mul_ediv_left _ _ (show (4294967296 : Int) ≠ 0 by decide), Int.ediv_eq_zero_of_lt h0.1 h0.2, Int.zero_add]
  have e4 := Int.mul_ediv_add_emod ((a0 + (4294967296 : Int) * a1) / 2 ^ s) (4294967296 : Int)
  rw [e1, e2, Int.mul_add, ← e3]
  omega
theorem or_high (x y : Int) (h0 : 0 ≤ x) (h1 : x < (4294967296 : Int)) (h2 : 0 ≤ y) (h3 : y < (4294967296 : Int)) : Go.bits .or .u64 y (x * (4294967296 : Int)) = y + (4294967296 : Int) * x := by
  have := or_low x y h0 h1 h2 h3
  rw [u64_or _ _ (by omega) (by omega) h2 (by omega)] at this
  rw [u64_or _ _ h2 (by omega) (by omega) (by omega), Nat.or_comm, this]
  omega
theorem shr_loop (a z : List Int) (s : Nat) (hs : s < 32) (ha : Dig (4294967296 : Int) a) (hl : a.length ≤ 1000000000) (hz : z.length = a.length) : ∀ (k i : Nat) (D : List Int), i + k = a.length → D.length = i → Dig (4294967296 : Int) D → dv (4294967296 : Int) D + (4294967296 : Int) ^ i * (dv (4294967296 : Int) (a.drop i) / 2 ^ s) = dv (4294967296 : Int) a / 2 ^ s →
    ∃ r, lp (m_nat_Shr_l1 a (s : Int) z) ((i : Int), D ++ List.replicate k 0) = some r ∧ Dig (4294967296 : Int) r ∧ r.length = a.length ∧ dv (4294967296 : Int) r = dv (4294967296 : Int) a / 2 ^ s
  | 0, i, D, hk, hi, hD, hv => by
    obtain rfl : i = a.length := by omega
    refine ⟨D, lp_done (by simp [m_nat_Shr_l1, hz]), hD, hi, ?_⟩
    rw [List.drop_length, dv_nil, Int.zero_ediv, Int.mul_zero, Int.add_zero] at hv
    exact hv
  | k + 1, i, D, hk, hi, hD, hv => by
    have g0 := gI_dig ha (by decide) (i : Int)
    have g1 := gI_dig ha (by decide) ((i + 1 : Nat) : Int)
    have hst := shr_step (gI a (i : Int)) (gI a ((i + 1 : Nat) : Int)) (dv (4294967296 : Int) (a.drop (i + 2))) s (by omega) g0
    have d1 := drop_gI' (4294967296 : Int) a (i + 1)
    have d0 := drop_gI' (4294967296 : Int) a i
    rw [show i + 1 + 1 = i + 2 from rfl] at d1
    rw [← d1, ← d0] at hst
    generalize hx : gI a (i : Int) = x at *
    generalize hy : gI a ((i + 1 : Nat) : Int) = y at *
    have hw : 0 ≤ (x + (4294967296 : Int) * y) / 2 ^ s := Int.ediv_nonneg (by omega) (Int.le_of_lt (pow_pos' (by decide) s))
    have a1 : decide ((i : Int) < (z.length : Int)) = true := decide_eq_true (by omega)
    have a2 : rd a (i : Int) = some x := by rw [rd_I (by omega) (by omega), hx]
    have a3 : qd .i64 (s : Int) 32 = some 0 := by rw [qd64 (by omega) (by decide) (by omega)]; congr 1; omega
    have a4 : rm .i64 (s : Int) 32 = some (s : Int) := by rw [rm_of (by omega) (by decide)]; congr 1; omega
    have a5 : wi64 ((i : Int) + 0) = (i : Int) := by rw [wi64_eq (by omega) (by omega)]; omega
    have a6 : wi64 ((i : Int) + 1) = ((i + 1 : Nat) : Int) := by rw [wi64_eq (by omega) (by omega)]; omega
    have a7 := natAt_eq a (i + 1) (by omega)
    rw [hy] at a7
    have a8 : ix (D ++ List.replicate (k + 1) 0) (i : Int) = some i := ix_nat (by simp; omega)
    have a9 : (D ++ List.replicate (k + 1) 0).set i ((x + (4294967296 : Int) * y) / 2 ^ s % (4294967296 : Int)) = (D ++ [(x + (4294967296 : Int) * y) / 2 ^ s % (4294967296 : Int)]) ++ List.replicate k 0 := by
      rw [show List.replicate (k + 1) (0 : Int) = 0 :: List.replicate k 0 from rfl, ← hi, set_at]
    have e1 : m_nat_Shr_l1 a (s : Int) z ((i : Int), D ++ List.replicate (k + 1) 0) = some (.inl (((i + 1 : Nat) : Int), (D ++ [(x + (4294967296 : Int) * y) / 2 ^ s % (4294967296 : Int)]) ++ List.replicate k 0)) := by
      simp only [m_nat_Shr_l1, a1, if_true, a3, bd_some, a5, a2, a6, a7, sh32 y g1.1 g1.2, a4, or_high y x g1.1 g1.2 g0.1 g0.2, sr_nat _ s (by omega), rm_of hw (show (0 : Int) < 4294967296 by decide), a8, lt_eq, a9]
    obtain ⟨r, r1, r2⟩ := shr_loop a z s hs ha hl hz k (i + 1) (D ++ [(x + (4294967296 : Int) * y) / 2 ^ s % (4294967296 : Int)]) (by omega) (by simp [hi]) (hD.snoc ⟨by omega, by omega⟩) (by
      rw [dv_snoc, hi, Int.pow_succ, ← hv, hst]
      grind)
    exact ⟨r, by rw [lp_more e1]; exact r1, r2⟩
theorem shr_eq (x : Int) (s : Nat) (hs : s < 32) (hx : 0 ≤ x) (hl : (nl x).length ≤ 1000000000) : m_nat_Shr (nl x) (s : Int) = some (nl (x / 2 ^ s), 0) := by
  have e0 : m_nat_shift (s : Int) = some 0 := by
    unfold m_nat_shift
    rw [if_neg (by rw [decide_eq_true_eq]; omega), bd_some, if_neg (by rw [decide_eq_true_eq]; omega)]
  have a3 : qd .i64 (s : Int) 32 = some 0 := by rw [qd64 (by omega) (by decide) (by omega)]; congr 1; omega
  unfold m_nat_Shr
  rw [e0, bd_some, if_neg (by decide), a3, bd_some, bd_some, bd_some]
  by_cases h0 : nl x = []
  · have hx0 := (nl_nil hx).1 h0
    subst hx0
    rw [h0, if_pos (by rfl), Int.zero_ediv, nl_zero]
  · have hlen := List.length_pos_iff.2 h0
    rw [if_neg (by rw [decide_eq_true_eq]; omega)]
    have a4 : wi64 (((nl x).length : Int) - 0) = ((nl x).length : Int) := by rw [wi64_eq (by omega) (by omega)]; omega
    obtain ⟨r, r1, r2, r3, r4⟩ := shr_loop (nl x) (List.replicate (nl x).length 0) s hs (nl_can x).1 hl (by simp) (nl x).length 0 [] (by omega) rfl (Dig.nil _) (by simp [dv])
    have r1' : lp (m_nat_Shr_l1 (nl x) (s : Int) (List.replicate (nl x).length 0)) (0, List.replicate (nl x).length 0) = some r := r1
    rw [a4, mk_of (by omega), bd_some, show (((nl x).length : Int)).toNat = (nl x).length by omega, r1', bd_some, trimN_eq _ (by omega), bd_some, trimz_nl r2 (by rw [r4, nl_dv hx])]
theorem dv_zero_of_lt {l : List Int} (hl : Dig (4294967296 : Int) l) {n : Nat} {X : Int} (h0 : 0 ≤ X) (h : X + (4294967296 : Int) ^ n * dv (4294967296 : Int) l < (4294967296 : Int) ^ n) : dv (4294967296 : Int) l = 0 := by
  have h1 := dv_nonneg (by decide) hl
  apply Classical.byContradiction
  intro hne
  have : (4294967296 : Int) ^ n * 1 ≤ (4294967296 : Int) ^ n * dv (4294967296 : Int) l := Int.mul_le_mul_of_nonneg_left (by omega) (Int.le_of_lt (pow_pos' (by decide) n))
  omega
/-- one round -/
theorem knuth_round (v u q : List Int) (n k : Nat) (hvl : v.length = n + 2) (hv : Dig (4294967296 : Int) v) (ht : 2147483648 ≤ gI v ((n + 1 : Nat) : Int)) (hu : Dig (4294967296 : Int) u) (hq : Dig (4294967296 : Int) q) (hku : k + v.length + 1 ≤ u.length) (hkq : k < q.length)
    (hlu : u.length ≤ 1000000000) (hlq : q.length ≤ 1000000000) (hU : dv (4294967296 : Int) (u.drop (k + 1)) < dv (4294967296 : Int) v) :
    ∃ u' q', m_divide_knuth_l1 (v, 0) ((k : Int), u, q) = some (.inl ((k : Int) - 1, u', q')) ∧ Dig (4294967296 : Int) u' ∧ u'.length = u.length ∧ Dig (4294967296 : Int) q' ∧ q'.length = q.length ∧ dv (4294967296 : Int) (u'.drop k) < dv (4294967296 : Int) v ∧ dv (4294967296 : Int) u' + dv (4294967296 : Int) v * ((4294967296 : Int) ^ k * dv (4294967296 : Int) (q'.drop k)) = dv (4294967296 : Int) u + dv (4294967296 : Int) v * ((4294967296 : Int) ^ (k + 1) * dv (4294967296 : Int) (q.drop (k + 1))) := by
  obtain ⟨L, M, R, rfl, hL, hM⟩ : ∃ L M R : List Int, u = L ++ M ++ R ∧ L.length = k ∧ M.length = v.length + 1 := by
    refine ⟨u.take k, (u.drop k).take (v.length + 1), (u.drop k).drop (v.length + 1), ?_, by simp; omega, by simp; omega⟩
    rw [List.append_assoc, List.take_append_drop, List.take_append_drop]
  obtain ⟨m0, M1, rfl⟩ : ∃ a l, M = a :: l := by
    cases M with
    | nil => simp at hM
    | cons a l => exact ⟨a, l, rfl⟩
  have hM1 : M1.length = v.length := by simpa using hM
  have dL := hu.left.left
  have dM := hu.left.right
  have dR := hu.right
  have hlt := dv_lt (by decide) hv
  have hV0 := dv_nonneg (by decide) hv
  have e1 : (L ++ m0 :: M1 ++ R).drop (k + 1) = M1 ++ R := by
    rw [← hL, show L ++ m0 :: M1 ++ R = (L ++ [m0]) ++ (M1 ++ R) by simp, List.drop_left' (by simp)]
  rw [e1, dv_append, hM1] at hU
  have zR : dv (4294967296 : Int) R = 0 := dv_zero_of_lt dR (dv_nonneg (by decide) dM.tail) (Int.lt_trans hU hlt)
  rw [zR, Int.mul_zero, Int.add_zero] at hU
  have hm0 := dM.head
  have hUM : dv (4294967296 : Int) (m0 :: M1) < dv (4294967296 : Int) v * (4294967296 : Int) := by rw [dv_cons]; omega
  simp only [List.length_append] at hlu hku
  have hlen : (L ++ (m0 :: M1) ++ R).length ≤ 1000000000 := by simp only [List.length_append]; exact hlu
  obtain ⟨g, g1, g2, g3, g4⟩ := guess_eq L (m0 :: M1) R v n hvl hM hv dM ht hUM (by omega)
  obtain ⟨D, t1, t2, t3, t4⟩ := take_eq L (m0 :: M1) R v g hM hv dM ⟨g2, g3⟩ hlen (by omega)
  have hVp : 0 < dv (4294967296 : Int) v := by have := dv_nonneg (by decide) dM.tail; omega
  have hU0 := dv_nonneg (by decide) dM
  have q0 : 0 ≤ dv (4294967296 : Int) (m0 :: M1) / dv (4294967296 : Int) v := Int.ediv_nonneg hU0 (by omega)
  have hr1 := Int.emod_nonneg (dv (4294967296 : Int) (m0 :: M1)) (show dv (4294967296 : Int) v ≠ 0 by omega)
  have hr2 := Int.emod_lt_of_pos (dv (4294967296 : Int) (m0 :: M1)) hVp
  have hr3 := Int.mul_ediv_add_emod (dv (4294967296 : Int) (m0 :: M1)) (dv (4294967296 : Int) v)
  have hpw : (4294967296 : Int) ^ (v.length + 1) = (4294967296 : Int) ^ v.length * (4294967296 : Int) := Int.pow_succ _ _
  rw [hL] at g1 t1
  have b1 : decide ((0 : Int) ≤ (k : Int)) = true := decide_eq_true (by omega)
  have b2 : ix q (k : Int) = some k := ix_nat hkq
  have b3 : rd (q.set k g) (k : Int) = some g := by rw [rd_nat]; simp [hkq]
  have b4 : ix (q.set k g) (k : Int) = some k := ix_nat (by simpa using hkq)
  have b5 : wi64 ((k : Int) - 1) = (k : Int) - 1 := wi64_eq (by omega) (by omega)
  -- what comes out, either way
  have main : ∃ E, m_divide_knuth_l1 (v, 0) ((k : Int), L ++ (m0 :: M1) ++ R, q) = some (.inl ((k : Int) - 1, L ++ E ++ R, q.set k (dv (4294967296 : Int) (m0 :: M1) / dv (4294967296 : Int) v))) ∧ Dig (4294967296 : Int) E ∧ E.length = v.length + 1 ∧ dv (4294967296 : Int) E = dv (4294967296 : Int) (m0 :: M1) % dv (4294967296 : Int) v := by
    by_cases hc : dv (4294967296 : Int) (m0 :: M1) < g * dv (4294967296 : Int) v
    · have hg : g = dv (4294967296 : Int) (m0 :: M1) / dv (4294967296 : Int) v + 1 := by
        rcases g4 with h | h
        · rw [h, Int.mul_comm] at hc; omega
        · exact h
      rw [if_pos hc] at t4
      obtain ⟨E, c, s1, s2, s3, s4, s5⟩ := give_eq L D R v t2 hv t3 (by simp only [List.length_append, t2]; omega) (by omega)
      rw [hL] at s1
      have hgV : g * dv (4294967296 : Int) v = dv (4294967296 : Int) v * (dv (4294967296 : Int) (m0 :: M1) / dv (4294967296 : Int) v) + dv (4294967296 : Int) v := by rw [hg]; grind
      have hE := dv_lt (by decide) s3
      have hE0 := dv_nonneg (by decide) s3
      rw [s2] at hE
      have hpos := pow_pos' (show (0 : Int) < (4294967296 : Int) by decide) v.length
      have hc1 : c = 1 := by
        rcases s4 with h | h
        · subst h; rw [Int.mul_zero] at s5; omega
        · exact h
      subst hc1
      refine ⟨E, ?_, s3, s2, by omega⟩
      have c1 : (q.set k g).set k (dv (4294967296 : Int) (m0 :: M1) / dv (4294967296 : Int) v) = q.set k (dv (4294967296 : Int) (m0 :: M1) / dv (4294967296 : Int) v) := by simp
      have c2 : wu64 (g - 1) = dv (4294967296 : Int) (m0 :: M1) / dv (4294967296 : Int) v := by rw [wu64_eq (by omega) (by omega)]; omega
      simp only [m_divide_knuth_l1, b1, if_true, g1, bd_some, b2, lt_eq, b3, t1, decide_eq_true hc, b4, c2, c1, s1, b5]
    · have hg : g = dv (4294967296 : Int) (m0 :: M1) / dv (4294967296 : Int) v := by
        rcases g4 with h | h
        · exact h
        · exfalso
          apply hc
          have : g * dv (4294967296 : Int) v = dv (4294967296 : Int) v * (dv (4294967296 : Int) (m0 :: M1) / dv (4294967296 : Int) v) + dv (4294967296 : Int) v := by rw [h]; grind
          omega
      rw [if_neg hc] at t4
      refine ⟨D, ?_, t3, t2, ?_⟩
      · simp only [m_divide_knuth_l1, b1, if_true, g1, bd_some, b2, lt_eq, b3, t1, decide_eq_false hc, b5]
        rw [← hg]; rfl
      · rw [t4, hg, Int.mul_comm]; omega
  obtain ⟨E, m1, m2, m3, m4⟩ := main
  have hqr : Dig (4294967296 : Int) (q.set k (dv (4294967296 : Int) (m0 :: M1) / dv (4294967296 : Int) v)) := hq.set _ ⟨q0, Int.ediv_lt_of_lt_mul hVp (by rw [Int.mul_comm]; exact hUM)⟩
  refine ⟨L ++ E ++ R, q.set k (dv (4294967296 : Int) (m0 :: M1) / dv (4294967296 : Int) v), m1, (dL.append m2).append dR, by simp only [List.length_append, m3]; simp only [List.length_cons] at hM ⊢; omega, hqr, by simp, ?_, ?_⟩
  · have : (L ++ E ++ R).drop k = E ++ R := by rw [List.append_assoc, List.drop_left' hL]
    rw [this, dv_append, zR, Int.mul_zero, Int.add_zero, m4]
    exact hr2
  · have e2 : (q.set k (dv (4294967296 : Int) (m0 :: M1) / dv (4294967296 : Int) v)).drop k = (dv (4294967296 : Int) (m0 :: M1) / dv (4294967296 : Int) v) :: q.drop (k + 1) := by
      rw [List.drop_set, if_neg (by omega), Nat.sub_self, List.drop_eq_getElem_cons hkq]; rfl
    rw [e2, dv_append, dv_append, dv_append, dv_append, zR, Int.mul_zero, Int.add_zero, Int.mul_zero, Int.add_zero, hL, m4, Int.pow_succ]
    simp only [dv_cons (4294967296 : Int) (dv (4294967296 : Int) (m0 :: M1) / dv (4294967296 : Int) v)]
    generalize dv (4294967296 : Int) (m0 :: M1) = X at *
    generalize dv (4294967296 : Int) v = V at *
    generalize X / V = Q at *
    generalize X % V = W at *
    generalize dv (4294967296 : Int) (q.drop (k + 1)) = Y at *
    generalize (4294967296 : Int) ^ k = P at *
    rw [← hr3]
    grind
end Go.Proofs.YtihaljbhcnflfaaDoor.AP
/- Division of any two numbers; floors; the document's floor. -/
namespace Go.Proofs.YtihaljbhcnflfaaDoor.AP
open Go Go.Proofs.YtihaljbhcnflfaaDoor.Tri
set_option linter.unusedVariables false
set_option linter.unusedSimpArgs false
theorem knuth_loop (v : List Int) (n : Nat) (hvl : v.length = n + 2) (hv : Dig (4294967296 : Int) v) (ht : 2147483648 ≤ gI v ((n + 1 : Nat) : Int)) : ∀ (k : Nat) (u q : List Int), Dig (4294967296 : Int) u → Dig (4294967296 : Int) q → k + v.length ≤ u.length → k ≤ q.length → u.length ≤ 1000000000 → q.length ≤ 1000000000 → dv (4294967296 : Int) (u.drop k) < dv (4294967296 : Int) v →
    ∃ u' q', lp (m_divide_knuth_l1 (v, 0)) ((k : Int) - 1, u, q) = some (u', q') ∧ Dig (4294967296 : Int) u' ∧ u'.length = u.length ∧ Dig (4294967296 : Int) q' ∧ q'.length = q.length ∧ dv (4294967296 : Int) u' < dv (4294967296 : Int) v ∧ dv (4294967296 : Int) u' + dv (4294967296 : Int) v * dv (4294967296 : Int) q' = dv (4294967296 : Int) u + dv (4294967296 : Int) v * ((4294967296 : Int) ^ k * dv (4294967296 : Int) (q.drop k))
  | 0, u, q, hu, hq, h1, h2, h3, h4, h5 => ⟨u, q, lp_done (by simp [m_divide_knuth_l1]), hu, rfl, hq, rfl, by simpa using h5, by simp⟩
  | k + 1, u, q, hu, hq, h1, h2, h3, h4, h5 => by
    obtain ⟨u1, q1, r1, r2, r3, r4, r5, r6, r7⟩ := knuth_round v u q n k hvl hv ht hu hq (by omega) (by omega) h3 h4 h5
    obtain ⟨u2, q2, s1, s2, s3, s4, s5, s6, s7⟩ := knuth_loop v n hvl hv ht k u1 q1 r2 r4 (by omega) (by omega) (by omega) (by omega) r6
    refine ⟨u2, q2, ?_, s2, s3.trans r3, s4, s5.trans r5, s6, s7.trans r7⟩
    rw [show ((k + 1 : Nat) : Int) - 1 = (k : Int) by omega, lp_more r1]
    exact s1
theorem knuth_eq (x y : Int) (hy : (4294967296 : Int) ≤ y) (hxy : y ≤ x) (hl : (nl x).length ≤ 100000000) : m_divide_knuth (nl x) (nl y) = some (nl (x / y), nl (x % y)) := by
  have hlb := nl_mono (by omega) hxy
  obtain ⟨n, hn⟩ : ∃ n, (nl y).length = n + 2 := by
    refine ⟨(nl y).length - 2, ?_⟩
    have h1 := lt_pow_len (x := y) (by omega)
    have : ¬ (nl y).length ≤ 1 := fun h => by
      have := pow_mono (show (0 : Int) < (4294967296 : Int) by decide) h
      rw [Int.pow_one] at this
      omega
    omega
  obtain ⟨Bl, t, hb, hBl⟩ := split_last hn
  have dB := (nl_can y).1
  have hvy := nl_dv (x := y) (by omega)
  have htop := (nl_can y).2
  rw [hb] at dB hvy htop
  have ht0 := Top.snoc.1 htop
  have htd := dB.right.head
  rw [dv_snoc, hBl] at hvy
  have lBl0 := dv_nonneg (by decide) dB.left
  have lBl := dv_lt (by decide) dB.left
  rw [hBl] at lBl
  obtain ⟨m, hm, hm1, hm2, hm3⟩ := bits_eq t htd.1 htd.2
  have hmpos : 0 < m := by
    apply Nat.pos_of_ne_zero
    rintro rfl
    rw [Int.pow_zero] at hm2; omega
  have hm3 := hm3 hmpos
  obtain ⟨s, hs⟩ : ∃ s, s = 32 - m := ⟨_, rfl⟩
  have hs31 : s < 32 := by omega
  have hpw := lb_pow m (by omega)
  rw [← hs] at hpw
  have hp : (0 : Int) < 2 ^ s := pow_pos' (by decide) s
  have hpm : (2 : Int) ^ m = 2 ^ (m - 1) * 2 := by
    have e : m = (m - 1) + 1 := by omega
    conv => lhs; rw [e]
    exact Int.pow_succ _ _
  have hhalf : (2 : Int) ^ (m - 1) * 2 ^ s = 2147483648 := by
    have : (2 : Int) ^ (m - 1) * 2 * 2 ^ s = (4294967296 : Int) := by rw [← hpm, ← hpw]
    have e : (2 : Int) ^ (m - 1) * 2 * 2 ^ s = 2 * (2 ^ (m - 1) * 2 ^ s) := by grind
    omega
  have hs2 : (2 : Int) ^ s ≤ 2147483648 := by
    rw [← hhalf]
    have := pow_pos' (show (0 : Int) < 2 by decide) (m - 1)
    have h : 1 * (2 : Int) ^ s ≤ 2 ^ (m - 1) * 2 ^ s := Int.mul_le_mul_of_nonneg_right (by omega) (Int.le_of_lt hp)
    omega
  have hP := pow_pos' (show (0 : Int) < (4294967296 : Int) by decide) (n + 1)
  have hVlt : y * 2 ^ s < (4294967296 : Int) ^ (n + 2) := by
    have h1 : y < (4294967296 : Int) ^ (n + 1) * 2 ^ m := by
      have : (4294967296 : Int) ^ (n + 1) * (t + 1) ≤ (4294967296 : Int) ^ (n + 1) * 2 ^ m := Int.mul_le_mul_of_nonneg_left (by omega) (Int.le_of_lt hP)
      rw [Int.mul_add, Int.mul_one] at this
      omega
    have h2 := Int.mul_lt_mul_of_pos_right h1 hp
    rw [Int.mul_assoc, ← hpw, ← Int.pow_succ] at h2
    exact h2
  have hVge : (4294967296 : Int) ^ (n + 1) * 2147483648 ≤ y * 2 ^ s := by
    have h1 : (4294967296 : Int) ^ (n + 1) * 2 ^ (m - 1) ≤ y := by
      have : (4294967296 : Int) ^ (n + 1) * 2 ^ (m - 1) ≤ (4294967296 : Int) ^ (n + 1) * t := Int.mul_le_mul_of_nonneg_left hm3 (Int.le_of_lt hP)
      omega
    have h2 := Int.mul_le_mul_of_nonneg_right h1 (Int.le_of_lt hp)
    rw [Int.mul_assoc, hhalf] at h2
    exact h2
  have hV0 : 0 ≤ y * 2 ^ s := by omega
  have hlV : (nl (y * 2 ^ s)).length = n + 2 := by
    have h1 := nl_len hV0 hVlt
    have h2 := lt_pow_len hV0
    have : ¬ (nl (y * 2 ^ s)).length ≤ n + 1 := fun h => by
      have := pow_mono (show (0 : Int) < (4294967296 : Int) by decide) h
      omega
    omega
  have dV := (nl_can (y * 2 ^ s)).1
  have vV := nl_dv hV0
  have htV : 2147483648 ≤ gI (nl (y * 2 ^ s)) ((n + 1 : Nat) : Int) := by
    obtain ⟨Vl, w, hw, hVl⟩ := split_last hlV
    rw [hw] at dV vV ⊢
    have := gI_last Vl w
    rw [hVl] at this
    rw [this]
    rw [dv_snoc, hVl] at vV
    have h1 := dv_lt (by decide) dV.left
    rw [hVl] at h1
    have h2 : (4294967296 : Int) ^ (n + 1) * 2147483648 < (4294967296 : Int) ^ (n + 1) * (w + 1) := by rw [Int.mul_add, Int.mul_one]; omega
    have := Int.lt_of_mul_lt_mul_left h2 (Int.le_of_lt hP)
    omega
  have hx0 : 0 ≤ x := by omega
  have hA0 : 0 ≤ x * 2 ^ s := Int.mul_nonneg hx0 (Int.le_of_lt hp)
  have hA1 : x * 2 ^ s < (4294967296 : Int) ^ (nl x).length * 2 ^ s := Int.mul_lt_mul_of_pos_right (lt_pow_len hx0) hp
  have hPl := pow_pos' (show (0 : Int) < (4294967296 : Int) by decide) (nl x).length
  have hlA : (nl (x * 2 ^ s)).length ≤ (nl x).length + 1 := nl_len hA0 (by
    rw [Int.pow_succ]
    have : (4294967296 : Int) ^ (nl x).length * 2 ^ s ≤ (4294967296 : Int) ^ (nl x).length * (4294967296 : Int) := Int.mul_le_mul_of_nonneg_left (by omega) (Int.le_of_lt hPl)
    omega)
  obtain ⟨z, hz⟩ : ∃ z, z = (nl x).length + 1 - (nl (x * 2 ^ s)).length := ⟨_, rfl⟩
  obtain ⟨k, hk⟩ : ∃ k, k = (nl x).length - (n + 2) + 1 := ⟨_, rfl⟩
  have dA := (nl_can (x * 2 ^ s)).1
  have vA := nl_dv hA0
  have du : Dig (4294967296 : Int) (nl (x * 2 ^ s) ++ List.replicate z 0) := dA.append (Dig.replicate (by decide) z)
  have vu : dv (4294967296 : Int) (nl (x * 2 ^ s) ++ List.replicate z 0) = x * 2 ^ s := by rw [dv_append_zeros, vA]
  have lu : (nl (x * 2 ^ s) ++ List.replicate z 0).length = (nl x).length + 1 := by simp; omega
  have hdrop : dv (4294967296 : Int) ((nl (x * 2 ^ s) ++ List.replicate z 0).drop k) < dv (4294967296 : Int) (nl (y * 2 ^ s)) := by
    have h1 := dv_split (4294967296 : Int) (nl (x * 2 ^ s) ++ List.replicate z 0) k (by omega)
    rw [vu] at h1
    have h2 := dv_nonneg (by decide) (du.take k)
    have h3 : (nl x).length = k + (n + 1) := by omega
    rw [h3, Int.pow_add, Int.mul_assoc] at hA1
    have h4 : (4294967296 : Int) ^ k * dv (4294967296 : Int) ((nl (x * 2 ^ s) ++ List.replicate z 0).drop k) < (4294967296 : Int) ^ k * ((4294967296 : Int) ^ (n + 1) * 2 ^ s) := by omega
    have h5 := Int.lt_of_mul_lt_mul_left h4 (Int.le_of_lt (pow_pos' (by decide) k))
    have h6 : (4294967296 : Int) ^ (n + 1) * 2 ^ s ≤ (4294967296 : Int) ^ (n + 1) * 2147483648 := Int.mul_le_mul_of_nonneg_left hs2 (Int.le_of_lt hP)
    rw [vV]; omega
  obtain ⟨u', q', r1, r2, r3, r4, r5, r6, r7⟩ := knuth_loop (nl (y * 2 ^ s)) n hlV dV htV k (nl (x * 2 ^ s) ++ List.replicate z 0) (List.replicate k 0) du (Dig.replicate (by decide) k) (by omega) (by simp) (by omega) (by simp; omega) hdrop
  rw [vu, vV] at r7
  rw [vV] at r6
  have hd0 : List.drop k (List.replicate k (0 : Int)) = [] := List.drop_of_length_le (by simp)
  rw [hd0, dv_nil, Int.mul_zero, Int.mul_zero, Int.add_zero] at r7
  have hVpos : 0 < y * 2 ^ s := Int.mul_pos (by omega) hp
  obtain ⟨f1, f2⟩ := (Int.ediv_emod_unique (a := x * 2 ^ s) (b := y * 2 ^ s) (r := dv (4294967296 : Int) u') (q := dv (4294967296 : Int) q') hVpos).2 ⟨r7, dv_nonneg (by decide) r2, r6⟩
  rw [Int.mul_ediv_mul_of_pos_left x y hp] at f1
  have f3 : dv (4294967296 : Int) u' / 2 ^ s = x % y := by
    rw [← f2, Int.mul_comm x, Int.mul_comm y, Int.mul_emod_mul_of_pos _ _ hp, Int.mul_ediv_cancel_left _ (Int.ne_of_gt hp)]
  have hlu' : (nl (dv (4294967296 : Int) u')).length ≤ (nl x).length + 1 := by
    refine nl_len (dv_nonneg (by decide) r2) ?_
    have := dv_lt (by decide) r2
    rw [r3, lu] at this
    exact this
  -- the walk
  have hlA2 := lt_pow_len hA0
  have c1 : wi64 (((nl y).length : Int) - 1) = ((n + 1 : Nat) : Int) := by rw [wi64_eq (by omega) (by omega)]; omega
  have c2 : rd (nl y) ((n + 1 : Nat) : Int) = some t := by rw [hb, rd_I (by omega) (by simp; omega), ← hBl, gI_last]
  have c3 : wi64 (32 - (m : Int)) = (s : Int) := by rw [wi64_eq (by omega) (by omega)]; omega
  have c4 : wi64 (((nl x).length : Int) + 1) = (((nl x).length + 1 : Nat) : Int) := by rw [wi64_eq (by omega) (by omega)]; omega
  have c5 : cpy (List.replicate ((nl x).length + 1) (0 : Int)) 0 (nl (x * 2 ^ s)) = some (nl (x * 2 ^ s) ++ List.replicate z 0) := by
    unfold cpy
    rw [if_pos (by rw [List.length_replicate]; omega), List.take_zero, List.nil_append, List.drop_replicate, Nat.zero_add, ← hz]
  have c6 : wi64 (((nl x).length : Int) - ((nl y).length : Int)) = (k : Int) - 1 := by rw [wi64_eq (by omega) (by omega)]; omega
  have c7 : wi64 ((k : Int) - 1 + 1) = (k : Int) := by rw [wi64_eq (by omega) (by omega)]; omega
  unfold m_divide_knuth
  rw [c1, c2, bd_some, hm, bd_some, c3, shl_eq y s hs31 (by omega) (by omega), bd_some, c4, mk_of (by omega), bd_some, shl_eq x s hs31 hx0 (by omega), bd_some, Int.toNat_natCast]
  dsimp only
  rw [c5, bd_some, c6, c7, mk_of (by omega), bd_some, Int.toNat_natCast, lt_eq, r1, bd_some]
  dsimp only
  rw [make_dig q' r4 (by rw [r5]; simp; omega), bd_some, make_dig u' r2 (by omega), bd_some]
  dsimp only
  rw [trimz_nl r2 rfl, shr_eq _ s hs31 (dv_nonneg (by decide) r2) (by omega), bd_some, trimz_nl r4 f1.symm, f3]
theorem div_eq (x y : Int) (hx : 0 ≤ x) (hy : 0 < y) (hl : (nl x).length ≤ 100000000) (hl2 : (nl y).length ≤ 100000000) : m_divide_Div (nl x) (nl y) = some (nl (x / y), nl (x % y), 0) := by
  by_cases h1 : y < (4294967296 : Int)
  · exact div1_eq x y hx hy h1 (by omega)
  · have hlen : 1 < (nl y).length := by
      have h2 := lt_pow_len (x := y) (by omega)
      apply Nat.lt_of_not_le
      intro h
      have := pow_mono (show (0 : Int) < (4294967296 : Int) by decide) h
      rw [Int.pow_one] at this
      omega
    unfold m_divide_Div
    rw [if_neg (by rw [decide_eq_true_eq]; omega), may_can _ (nl_can x) (by omega), bd_some, may_can _ (nl_can y) (by omega)]
    simp only [bd_some, Bool.not_true]
    rw [if_neg (by decide), bd_some, if_neg (by decide), cmpN_eq x y hx (by omega) (by omega), bd_some]
    by_cases hlt : x < y
    · have e1 : sg (x - y) = -1 := by unfold sg; rw [if_pos (by omega)]
      rw [e1, if_pos (by decide), make_nl x (by omega), bd_some, Int.ediv_eq_zero_of_lt hx hlt, Int.emod_eq_of_lt hx hlt, nl_zero]
    · have e1 : ¬ sg (x - y) < 0 := by unfold sg; split <;> (try split) <;> omega
      rw [if_neg (by simpa using e1), if_neg (by rw [decide_eq_true_eq]; omega), knuth_eq x y (by omega) (by omega) hl, bd_some]
theorem div_zero (a : List Int) : m_divide_Div a (nl 0) = some ([], [], 3) := by
  unfold m_divide_Div
  rw [nl_zero, if_pos (by rfl)]
end Go.Proofs.YtihaljbhcnflfaaDoor.AP
/- Texts: put together, joined, printed numbers. -/
namespace Go.Proofs.YtihaljbhcnflfaaDoor.AP
open Go
set_option linter.unusedVariables false
set_option linter.unusedSimpArgs false
theorem data_bs (l : List UInt8) : (bs l).data.toList = l := rfl
theorem bs_data (s : ByteArray) : bs s.data.toList = s := rfl
theorem bs_size (l : List UInt8) : (bs l).size = l.length := rfl
theorem size_data (s : ByteArray) : s.size = s.data.toList.length := rfl
theorem bs_append (a b : List UInt8) : bs a ++ bs b = bs (a ++ b) := by
  apply ByteArray.ext
  apply Array.toList_inj.1
  rw [ByteArray.data_append]
  simp [bs]
theorem bs_inj {a b : List UInt8} (h : bs a = bs b) : a = b := by rw [← data_bs a, h, data_bs]
/-- The same text. -/
theorem sq_self (a : ByteArray) : sq a a = true := by unfold sq; simp
theorem sq_bs {a b : List UInt8} : sq (bs a) (bs b) = decide (a = b) := by
  unfold sq
  rw [toList_data, toList_data, data_bs, data_bs]
  by_cases h : a = b
  · subst h; simp
  · rw [decide_eq_false h]; simp [h]
theorem cat_bs {a b : List UInt8} (h : a.length + b.length ≤ 9223372036854775807) : cat (bs a) (bs b) = some (bs (a ++ b)) := by
  unfold cat
  rw [if_pos (by rw [bs_size, bs_size]; exact h), bs_append]
theorem join2 (s x y : List UInt8) (l : List (List UInt8)) : Lib.join (x :: y :: l) s = x ++ (s ++ Lib.join (y :: l) s) := by
  rw [Lib.join_cons, Lib.join_cons]
  simp [Lib.joinTail, List.append_assoc]
/-- a bound of a join's length -/
theorem join_len (s : List UInt8) (c : Nat) : ∀ l : List (List UInt8), (∀ x ∈ l, x.length ≤ c) → (Lib.join l s).length ≤ l.length * (c + s.length)
  | [], _ => by rw [Lib.join_nil]; simp
  | [x], h => by
    rw [Lib.join_one]
    have := h x (by simp)
    simp; omega
  | x :: y :: l, h => by
    have h1 := h x (by simp)
    have h2 := join_len s c (y :: l) (fun z hz => h z (by simp [hz]))
    rw [join2]
    simp only [List.length_append, List.length_cons] at h2 ⊢
    rw [Nat.succ_mul]
    omega
theorem nd_le (n : Nat) (h : n ≤ 9223372036854775808) : Lib.nDigits n ≤ 19 := by
  have hd : ∀ (j n : Nat), n < 10 ^ (j + 1) → Lib.nDigits n ≤ j + 1 := by
    intro j
    induction j with
    | zero => intro n hn; rw [Lib.nDigits_small (by simpa using hn)]; omega
    | succ j ih =>
      intro n hn
      by_cases h : n < 10
      · rw [Lib.nDigits_small h]; omega
      · rw [Lib.nDigits_big h]
        have := ih (n / 10) (by rw [Nat.pow_succ] at hn; omega)
        omega
  exact hd 18 n (by omega)
theorem itoa_len (n : Int) (h0 : -9223372036854775808 ≤ n) (h1 : n ≤ 9223372036854775807) : (Lib.itoa n).length ≤ 20 := by
  unfold Lib.itoa
  split
  · rw [List.length_cons, Lib.decDigits_length]
    have := nd_le n.natAbs (by omega)
    omega
  · rw [Lib.decDigits_length]
    have := nd_le n.toNat (by omega)
    omega
/-- a loop that fills a row with what is made of each -/
theorem lp_fill {α β : Type} {f : (Int × List β) → Option ((Int × List β) ⊕ (List β))} (l : List α) (g : α → β)
    (h : ∀ (i : Nat) x v, l[i]? = some x → v.length = l.length → f ((i : Int), v) = some (.inl ((i : Int) + 1, v.set i (g x)))) (he : ∀ v, f ((l.length : Int), v) = some (.inr v)) (v0 : List β) (hv : v0.length = l.length) : lp f (0, v0) = some (l.map g) := by
  have key : ∀ (k i : Nat) (v : List β), i + k = l.length → v.length = l.length → v.take i = (l.take i).map g → lp f ((i : Int), v) = some (l.map g) := by
    intro k
    induction k with
    | zero =>
      intro i v hk hv ht
      obtain rfl : i = l.length := by omega
      rw [lp_done (he v)]
      rw [List.take_of_length_le (by omega), List.take_of_length_le (Nat.le_refl _)] at ht
      rw [ht]
    | succ k ih =>
      intro i v hk hv ht
      have hi : l[i]? = some l[i] := List.getElem?_eq_getElem (by omega)
      rw [lp_more (h i _ v hi hv)]
      have := ih (i + 1) (v.set i (g l[i])) (by omega) (by rw [List.length_set]; exact hv) (by
        rw [List.take_add_one, List.take_add_one, hi, List.take_set_of_le (Nat.le_refl i), ht, List.map_append]
        congr 1
        rw [List.getElem?_set_self (by omega)]
        rfl)
      simpa using this
  exact key l.length 0 v0 (by omega) hv (by simp)
theorem mk16 (n : Nat) (h : n ≤ 4294967296) : AP.mk 16 (bs []) (n : Int) (n : Int) = some (List.replicate n (bs [])) := by
  rw [mk_of (by omega)]
  simp

/-! numbers by ten, the document's way -/
theorem tx_one (d : Nat) (h : d < 10) : tx [wu8 (wi64 (48 + (d : Int)))] = bs [UInt8.ofNat (48 + d)] := by
  rw [wi64_eq (by omega) (by omega), wu8_eq (by omega) (by omega)]
  unfold tx bs
  have : (48 + (d : Int)).toNat = 48 + d := by omega
  simp [this]
def catI {α : Type} (g : Nat → α → List UInt8) : Nat → List α → List UInt8
  | _, [] => []
  | i, x :: l => g i x ++ catI g (i + 1) l
theorem catI_snoc {α : Type} (g : Nat → α → List UInt8) : ∀ (l : List α) (i : Nat) (x : α), catI g i (l ++ [x]) = catI g i l ++ g (i + l.length) x
  | [], i, x => by simp [catI]
  | y :: l, i, x => by
    show g i y ++ catI g (i + 1) (l ++ [x]) = (g i y ++ catI g (i + 1) l) ++ _
    rw [catI_snoc g l (i + 1) x, List.append_assoc, List.length_cons, show i + 1 + l.length = i + (l.length + 1) by omega]
theorem catI_flat {α : Type} (g : α → List UInt8) : ∀ (l : List α) (i : Nat), catI (fun _ => g) i l = (l.map g).flatten
  | [], _ => rfl
  | x :: l, i => by
    show g x ++ catI (fun _ => g) (i + 1) l = _
    rw [catI_flat g l (i + 1)]
    rfl
theorem catI_congr {α : Type} {g h : Nat → α → List UInt8} : ∀ (l : List α) (i : Nat), (∀ j x, i ≤ j → g j x = h j x) → catI g i l = catI h i l
  | [], _, _ => rfl
  | x :: l, i, e => by
    show g i x ++ _ = h i x ++ _
    rw [e i x (Nat.le_refl _), catI_congr l (i + 1) (fun j x hj => e j x (by omega))]
/-- with a sign between: a join -/
theorem catI_join {α : Type} (s : List UInt8) (g : α → List UInt8) (x : α) (l : List α) : catI (fun i y => if i = 0 then g y else s ++ g y) 0 (x :: l) = Lib.join ((x :: l).map g) s := by
  show g x ++ catI _ 1 l = _
  rw [catI_congr (h := fun _ y => s ++ g y) l 1 (fun j y hj => by rw [if_neg (by omega)]), catI_flat, List.map_cons, Lib.join_cons]
  congr 1
  unfold Lib.joinTail
  rw [List.map_map]
  rfl
theorem catI_len {α : Type} (g : Nat → α → List UInt8) (c : Nat) : ∀ (l : List α) (i : Nat), (∀ j x, l[j]? = some x → (g (i + j) x).length ≤ c) → (catI g i l).length ≤ l.length * c
  | [], _, _ => by simp [catI]
  | x :: l, i, h => by
    have h1 := h 0 x rfl
    have h2 := catI_len g c l (i + 1) (fun j y hj => by have := h (j + 1) y hj; rwa [show i + (j + 1) = i + 1 + j by omega] at this)
    show (g i x ++ catI g (i + 1) l).length ≤ _
    rw [List.length_append, List.length_cons, Nat.succ_mul]
    have h1 : (g i x).length ≤ c := h1
    omega
theorem catI_take {α : Type} (g : Nat → α → List UInt8) (l : List α) (i : Nat) (x : α) (h : l[i]? = some x) : catI g 0 (l.take (i + 1)) = catI g 0 (l.take i) ++ g i x := by
  have hi := (List.getElem?_eq_some_iff.1 h).1
  rw [List.take_add_one, h]
  show catI g 0 (l.take i ++ [x]) = _
  rw [catI_snoc, List.length_take, Nat.min_eq_left (Nat.le_of_lt hi), Nat.zero_add]
/-- a loop that puts more behind a text -/
theorem lp_acc {α X : Type} (l : List α) (g : Nat → α → List UInt8) (c : Nat) (a0 : List UInt8) {f : (ByteArray × Int) → Option ((ByteArray × Int) ⊕ X)} {r : Option X}
    (hg : ∀ i x, l[i]? = some x → (g i x).length ≤ c)
    (h : ∀ (i : Nat) (x : α) (acc : List UInt8), l[i]? = some x → acc.length ≤ a0.length + l.length * c → f (bs acc, (i : Int)) = some (.inl (bs (acc ++ g i x), (i : Int) + 1)))
    (he : lp f (bs (a0 ++ catI g 0 l), (l.length : Int)) = r) : lp f (bs a0, 0) = r := by
  have key : ∀ (k i : Nat), i + k = l.length → lp f (bs (a0 ++ catI g 0 (l.take i)), (i : Int)) = r := by
    intro k
    induction k with
    | zero =>
      intro i hk
      obtain rfl : i = l.length := by omega
      rw [List.take_of_length_le (Nat.le_refl _)]
      exact he
    | succ k ih =>
      intro i hk
      have hi : l[i]? = some l[i] := List.getElem?_eq_getElem (by omega)
      have hlen : (catI g 0 (l.take i)).length ≤ l.length * c := by
        have := catI_len g c (l.take i) 0 (fun j x hj => by
          rw [Nat.zero_add]
          refine hg j x ?_
          rw [List.getElem?_take] at hj
          split at hj
          · exact hj
          · cases hj)
        rw [List.length_take, Nat.min_eq_left (by omega)] at this
        exact Nat.le_trans this (Nat.mul_le_mul_right _ (by omega))
      rw [lp_more (h i _ (a0 ++ catI g 0 (l.take i)) hi (by rw [List.length_append]; omega)), List.append_assoc, ← catI_take g l i _ hi]
      have := ih (i + 1) (by omega)
      simpa using this
  simpa [catI] using key l.length 0 (by omega)
/-! bytes in a builder -/
def i8 (l : List UInt8) : List Int := l.map fun b => (b.toNat : Int)
theorem apS_i8 (a b : List UInt8) (h : a.length + b.length ≤ 140737488355328) : apS_ (i8 a) (bs b) = some (i8 (a ++ b)) := by
  unfold apS_ i8
  rw [if_pos (by rw [List.length_map, bs_size]; exact h), List.map_append]
  rfl
theorem nem_i8 (l : List UInt8) (h : l ≠ []) : nem (i8 l) = some () := by
  cases l with
  | nil => exact absurd rfl h
  | cons x l => rfl
theorem ust_i8 (l : List UInt8) (h : l ≠ []) : ust (i8 l) = some (bs l) := by
  unfold ust
  rw [if_pos]
  · congr 1
    unfold tx bs i8
    rw [List.map_map]
    congr 1
    apply Array.toList_inj.1
    simp only [List.toList_toArray]
    have : ∀ l : List UInt8, l.map ((fun n : Int => UInt8.ofNat n.toNat) ∘ fun b => (b.toNat : Int)) = l := by
      intro l
      induction l with
      | nil => rfl
      | cons x l ih => rw [List.map_cons, ih]; congr 1; simp
    exact this l
  · refine ⟨by cases l with | nil => exact absurd rfl h | cons x l => exact List.cons_ne_nil _ _, ?_⟩
    apply List.all_eq_true.2
    intro z hz
    unfold i8 at hz
    obtain ⟨b, _, rfl⟩ := List.mem_map.1 hz
    have := b.toNat_lt
    rw [Bool.and_eq_true]
    exact ⟨decide_eq_true (by omega), decide_eq_true (by omega)⟩
end Go.Proofs.YtihaljbhcnflfaaDoor.AP
/- A number's digits, by ten: the program's way. -/
namespace Go.Proofs.YtihaljbhcnflfaaDoor.AP
open Go Go.Proofs.YtihaljbhcnflfaaDoor.Tri
set_option linter.unusedVariables false
set_option linter.unusedSimpArgs false
set_option maxRecDepth 4000
/-- n places of a number -/
def padN : Nat → Nat → List UInt8
  | 0, _ => []
  | n + 1, r => padN n (r / 10) ++ [UInt8.ofNat (48 + r % 10)]
theorem padN_len : ∀ (n r : Nat), (padN n r).length = n
  | 0, _ => rfl
  | n + 1, r => by rw [padN, List.length_append, padN_len n]; rfl
theorem padN_cons : ∀ (n r : Nat), padN (n + 1) r = UInt8.ofNat (48 + r / 10 ^ n % 10) :: padN n r
  | 0, r => by simp [padN]
  | n + 1, r => by
    rw [padN, padN_cons n (r / 10), padN]
    rw [Nat.div_div_eq_div_mul, Nat.pow_succ, Nat.mul_comm 10]
    rfl
theorem digit_bt (x : Int) (h0 : 0 ≤ x) (h1 : x < 10) : bt (bs [48, 49, 50, 51, 52, 53, 54, 55, 56, 57, 97, 98, 99, 100, 101, 102, 103, 104, 105, 106, 107, 108, 109, 110, 111, 112, 113, 114, 115, 116, 117, 118, 119, 120, 121, 122]) x = some (48 + x) := by
  have : x = 0 ∨ x = 1 ∨ x = 2 ∨ x = 3 ∨ x = 4 ∨ x = 5 ∨ x = 6 ∨ x = 7 ∨ x = 8 ∨ x = 9 := by omega
  rcases this with rfl | rfl | rfl | rfl | rfl | rfl | rfl | rfl | rfl | rfl <;> rfl
theorem set_back {α : Type} (z : α) (k : Nat) (v : α) (t : List α) : (List.replicate (k + 1) z ++ t).set k v = List.replicate k z ++ v :: t := by
  induction k with
  | zero => rfl
  | succ k ih =>
    show z :: (List.replicate (k + 1) z ++ t).set k v = z :: (List.replicate k z ++ v :: t)
    rw [ih]
theorem piece_loop (r : Nat) (n : Nat) (hn : n ≤ 100) (hr : r < 10000000000000000000) : ∀ (k j : Nat), j + k = n → lp (m_digits_piece_l1 10 (n : Int)) (((r / 10 ^ j : Nat) : Int), (j : Int), List.replicate k 0 ++ i8 (padN j r)) = some (i8 (padN n r)) := by
  intro k
  induction k with
  | zero =>
    intro j hj
    obtain rfl : j = n := by omega
    exact lp_done (by simp [m_digits_piece_l1])
  | succ k ih =>
    intro j hj
    have hle := Nat.div_le_self r (10 ^ j)
    generalize hq : r / 10 ^ j = q at *
    have e1 : decide ((j : Int) < (n : Int)) = true := decide_eq_true (by omega)
    have w10 : wu64 10 = 10 := rfl
    have e2 : rm .u64 (q : Int) (wu64 10) = some (((q % 10 : Nat)) : Int) := by
      rw [w10, rm_of (by omega) (by decide)]; congr 1
    have e3 := digit_bt ((q % 10 : Nat) : Int) (by omega) (by omega)
    have e4 : wi64 ((wi64 ((n : Int) - 1)) - (j : Int)) = (k : Int) := by
      rw [wi64_eq (x := (n : Int) - 1) (by omega) (by omega), wi64_eq (by omega) (by omega)]; omega
    have e5 : ix (List.replicate (k + 1) (0 : Int) ++ i8 (padN j r)) (k : Int) = some k := ix_nat (by simp; omega)
    have e6 : qd .u64 (q : Int) (wu64 10) = some (((q / 10 : Nat)) : Int) := by
      rw [w10, qdU (by omega) (by decide) (by omega)]; congr 1
    have e7 : wi64 ((j : Int) + 1) = ((j + 1 : Nat) : Int) := by rw [wi64_eq (by omega) (by omega)]; omega
    have e8 := set_back (0 : Int) k (48 + ((q % 10 : Nat) : Int)) (i8 (padN j r))
    have e9 : (48 + ((q % 10 : Nat) : Int)) :: i8 (padN j r) = i8 (padN (j + 1) r) := by
      rw [padN_cons, hq]
      show _ = ((UInt8.ofNat (48 + q % 10)).toNat : Int) :: i8 (padN j r)
      congr 1
      rw [UInt8.toNat_ofNat']
      have := Nat.mod_lt q (show 0 < 10 by decide)
      rw [Nat.mod_eq_of_lt (show 48 + q % 10 < 2 ^ 8 by omega)]
      omega
    have hs : m_digits_piece_l1 10 (n : Int) ((q : Int), (j : Int), List.replicate (k + 1) 0 ++ i8 (padN j r)) = some (.inl (((q / 10 : Nat) : Int), ((j + 1 : Nat) : Int), List.replicate k 0 ++ i8 (padN (j + 1) r))) := by
      simp only [m_digits_piece_l1, e1, if_true, e2, bd_some, e3, e4, e5, e8, e9, lt_eq, e6, e7]
    rw [lp_more hs]
    have := ih (j + 1) (by omega)
    rw [Nat.pow_succ, ← Nat.div_div_eq_div_mul, hq] at this
    exact this
theorem piece_eq (r n : Nat) (hn : n ≤ 100) (hr : r < 10000000000000000000) : m_digits_piece (r : Int) 10 (n : Int) = some (bs (padN n r)) := by
  have e1 : AP.mk 1 (0 : Int) (n : Int) (n : Int) = some (List.replicate n 0) := by
    rw [mk_of (by omega)]; simp
  have e2 := piece_loop r n hn hr n 0 (by omega)
  have e2 : lp (m_digits_piece_l1 10 (n : Int)) ((r : Int), 0, List.replicate n 0) = some (i8 (padN n r)) := by
    simpa [padN, i8] using e2
  have e3 : tx (i8 (padN n r)) = bs (padN n r) := by
    by_cases h : padN n r = []
    · rw [h]; rfl
    · have := ust_i8 _ h
      unfold ust at this
      split at this
      · exact Option.some.inj this
      · cases this
  unfold m_digits_piece
  simp only [e1, bd_some, e2, e3]
theorem chunk10 : m_digits_chunk 10 = some (1000000000, 9) := by
  have h : lp (m_digits_chunk_l1 10) (10, 1) = some (1000000000, 9) := by
    rw [lp_more (s' := (100, 2)) (by rfl), lp_more (s' := (1000, 3)) (by rfl), lp_more (s' := (10000, 4)) (by rfl), lp_more (s' := (100000, 5)) (by rfl), lp_more (s' := (1000000, 6)) (by rfl), lp_more (s' := (10000000, 7)) (by rfl), lp_more (s' := (100000000, 8)) (by rfl), lp_more (s' := (1000000000, 9)) (by rfl)]
    exact lp_done (by rfl)
  unfold m_digits_chunk
  have : wu64 10 = 10 := rfl
  rw [this, h]
  rfl
/-- pieces of nine places, the lowest first -/
def pcs (x : Nat) : List (List UInt8) := if h : 0 < x then padN 9 (x % 1000000000) :: pcs (x / 1000000000) else []
termination_by x
decreasing_by exact Nat.div_lt_self h (by decide)
theorem pcs_zero : pcs 0 = [] := by rw [pcs]; rfl
theorem pcs_pos {x : Nat} (h : 0 < x) : pcs x = padN 9 (x % 1000000000) :: pcs (x / 1000000000) := by rw [pcs, dif_pos h]
theorem pcs_len : ∀ (n x : Nat), x < 1000000000 ^ n → (pcs x).length ≤ n
  | 0, x, h => by
    have : x = 0 := by simpa using h
    rw [this, pcs_zero]; simp
  | n + 1, x, h => by
    by_cases hx : 0 < x
    · rw [pcs_pos hx, List.length_cons]
      have := pcs_len n (x / 1000000000) (by rw [Nat.pow_succ] at h; exact Nat.div_lt_of_lt_mul (by rw [Nat.mul_comm]; exact h))
      omega
    · have : x = 0 := by omega
      rw [this, pcs_zero]; simp
theorem nl_nat (x : Nat) : ((nl (x : Int)).length = 0) ↔ x = 0 := by
  rw [List.length_eq_zero_iff, nl_nil (by omega)]
  omega
theorem in_l1 (x : Nat) (hl : (nl (x : Int)).length ≤ 1000000000) : ∀ Ds : List ByteArray, Ds.length + (pcs x).length ≤ 1000000000000 → lp (m_digits_In_l1 10 (1000000000, 9)) (nl (x : Int), Ds) = some (Ds ++ (pcs x).map bs) := by
  induction x using Nat.strongRecOn with
  | _ x ih =>
    intro Ds hD
    by_cases hx : 0 < x
    · have e1 : decide (0 < ((nl (x : Int)).length : Int)) = true := decide_eq_true (by
        have := nl_nat x
        omega)
      have e2 := smallD_eq (x : Int) 1000000000 (by omega) (by decide) (by decide) (by omega)
      have e3 := piece_eq (x % 1000000000) 9 (by decide) (by have := Nat.mod_lt x (show 0 < 1000000000 by decide); omega)
      have e3 : m_digits_piece ((x : Int) % 1000000000) 10 9 = some (bs (padN 9 (x % 1000000000))) := e3
      rw [pcs_pos hx] at hD ⊢
      have e4 : ap 16 Ds [bs (padN 9 (x % 1000000000))] = some (Ds ++ [bs (padN 9 (x % 1000000000))]) := ap_of (by simp at hD ⊢; omega)
      have hs : m_digits_In_l1 10 (1000000000, 9) (nl (x : Int), Ds) = some (.inl (nl ((x / 1000000000 : Nat) : Int), Ds ++ [bs (padN 9 (x % 1000000000))])) := by
        simp only [m_digits_In_l1, e1, if_true, e2, bd_some, e3, e4]
        rfl
      rw [lp_more hs, ih (x / 1000000000) (Nat.div_lt_self hx (by decide)) (Nat.le_trans (nl_mono (by omega) (by omega)) hl) _ (by simp at hD ⊢; omega)]
      simp
    · have : x = 0 := by omega
      subst this
      rw [pcs_zero]
      have : nl ((0 : Nat) : Int) = [] := nl_zero
      rw [this]
      exact lp_done (by simp [m_digits_In_l1])
theorem in_l2 (L : List (List UInt8)) (hL : L.length ≤ 1000000000000) (h9 : ∀ s ∈ L, s.length = 9) : lp (m_digits_In_l2 (L.map bs)) (0, true, []) = some (decide (L = []), i8 L.reverse.flatten) := by
  have key : ∀ (k i : Nat) (c : Bool), i + k = L.length → (c = decide (i = 0)) → lp (m_digits_In_l2 (L.map bs)) ((i : Int), c, i8 (L.reverse.take i).flatten) = some (decide (L = []), i8 L.reverse.flatten) := by
    intro k
    induction k with
    | zero =>
      intro i c hi hc
      obtain rfl : i = L.length := by omega
      have e1 : decide (((L.length : Nat) : Int) < (((L.map bs).length : Nat) : Int)) = false := decide_eq_false (by simp)
      rw [lp_done (x := (c, i8 (L.reverse.take L.length).flatten)) (by simp only [m_digits_In_l2, e1]; rfl)]
      rw [List.take_of_length_le (by simp), hc]
      congr 2
      cases L <;> simp
    | succ k ih =>
      intro i c hi hc
      have e1 : decide ((i : Int) < ((L.map bs).length : Int)) = true := decide_eq_true (by rw [List.length_map]; omega)
      have e2 : wi64 ((wi64 (((L.map bs).length : Int) - 1)) - (i : Int)) = ((L.length - 1 - i : Nat) : Int) := by
        rw [List.length_map, wi64_eq (x := (L.length : Int) - 1) (by omega) (by omega), wi64_eq (by omega) (by omega)]; omega
      have hk : L.length - 1 - i < L.length := by omega
      have e3 : rd (L.map bs) ((L.length - 1 - i : Nat) : Int) = some (bs L[L.length - 1 - i]) := by
        rw [rd_nat, List.getElem?_map, List.getElem?_eq_getElem hk]; rfl
      have hr : L.reverse[i]? = some L[L.length - 1 - i] := by
        rw [List.getElem?_reverse (by omega), List.getElem?_eq_getElem hk]
      have hlen : (L.reverse.take i).flatten.length = i * 9 := by
        have : ∀ M : List (List UInt8), (∀ s ∈ M, s.length = 9) → M.flatten.length = M.length * 9 := by
          intro M
          induction M with
          | nil => intro _; rfl
          | cons s M ih =>
            intro h
            rw [List.flatten_cons, List.length_append, h s (by simp), ih (fun t ht => h t (by simp [ht])), List.length_cons, Nat.succ_mul]
            omega
        rw [this _ (fun s hs => h9 s (List.mem_reverse.1 (List.mem_of_mem_take hs))), List.length_take, List.length_reverse, Nat.min_eq_left (by omega)]
      have h9' := h9 L[L.length - 1 - i] (List.getElem_mem _)
      have e4 := apS_i8 (L.reverse.take i).flatten L[L.length - 1 - i] (by rw [hlen, h9']; omega)
      have e5 : m_strings_Builder_copyCheck_M c (i8 (L.reverse.take i).flatten) = some false := by
        unfold m_strings_Builder_copyCheck_M
        cases c <;> rfl
      have e7 : wi64 ((i : Int) + 1) = (i : Int) + 1 := wi64_eq (by omega) (by omega)
      have hs : m_digits_In_l2 (L.map bs) ((i : Int), c, i8 (L.reverse.take i).flatten) = some (.inl ((i : Int) + 1, false, i8 (L.reverse.take (i + 1)).flatten)) := by
        rw [List.take_add_one, hr, List.flatten_append]
        simp only [Option.toList, List.flatten_cons, List.flatten_nil, List.append_nil]
        simp only [m_digits_In_l2, e1, if_true, e2, e3, bd_some, m_strings_Builder_WriteString_M, e5, e4, e7]
      rw [lp_more hs]
      have := ih (i + 1) false (by omega) (by simp)
      simpa using this
  have := key L.length 0 true (by omega) rfl
  simpa [i8] using this
/-- without noughts ahead -/
def trimL : List UInt8 → List UInt8
  | [] => []
  | x :: l => if x = 48 then trimL l else x :: l
theorem trim_loop (l : List UInt8) : lp (m_strings_trimLeftByte_l1 48) (bs l) = some (bs (trimL l)) := by
  induction l with
  | nil => exact lp_done (by rfl)
  | cons x l ih =>
    have e1 : decide (0 < (((bs (x :: l)).size : Nat) : Int)) = true := decide_eq_true (by rw [bs_size]; simp)
    have e2 : bt (bs (x :: l)) 0 = some (x.toNat : Int) := by
      unfold bt
      rw [if_pos (by rw [bs_size]; simp)]
      rfl
    have e3 : (decide ((x.toNat : Int) = 48)) = decide (x = 48) := by
      by_cases h : x = 48
      · subst h; rfl
      · rw [decide_eq_false h, decide_eq_false]
        intro h2
        apply h
        apply UInt8.toNat_inj.1
        have : x.toNat = 48 := by omega
        rw [this]; rfl
    unfold trimL
    by_cases h : x = 48
    · have e4 : cs (bs (x :: l)) 1 ((bs (x :: l)).size : Int) = some (bs l) := by
        unfold cs
        rw [if_pos (by rw [bs_size]; simp; omega)]
        congr 1
        apply ByteArray.ext
        apply Array.toList_inj.1
        rw [ByteArray.data_extract, Array.toList_extract]
        simp [bs, ByteArray.size]
      rw [lp_more (s' := bs l) (by simp only [m_strings_trimLeftByte_l1, e1, if_true, e2, bd_some, e3, decide_eq_true h, e4]), if_pos h]
      exact ih
    · rw [if_neg h]
      exact lp_done (by simp only [m_strings_trimLeftByte_l1, e1, if_true, e2, bd_some, e3, decide_eq_false h, Bool.false_eq_true, if_false])
theorem trimLeft_eq (l : List UInt8) : m_strings_TrimLeft (bs l) (bs [48]) = some (bs (trimL l)) := by
  unfold m_strings_TrimLeft
  by_cases h : l = []
  · subst h; simp only [sq_self, if_true, bd_some]; rfl
  · have e1 : sq (bs l) (bs []) = false := by rw [sq_bs]; exact decide_eq_false h
    have e2 : sq (bs [48]) (bs []) = false := by rw [sq_bs]; rfl
    have e3 : bt (bs [48]) 0 = some 48 := rfl
    have e4 : decide (((bs [48]).size : Int) = 1) = true := rfl
    have e5 : m_strings_trimLeftByte (bs l) 48 = some (bs (trimL l)) := by
      unfold m_strings_trimLeftByte
      rw [trim_loop]; rfl
    simp only [e1, Bool.false_eq_true, if_false, e2, bd_some, e4, if_true, e3, e5]
    rfl
theorem trimL_pad : ∀ (n r : Nat), 0 < r → r < 10 ^ n → trimL (padN n r) = Lib.decDigits r
  | 0, r, h0, h1 => by simp at h1; omega
  | n + 1, r, h0, h1 => by
    have key : ∀ (l : List UInt8) (d : UInt8), trimL (l ++ [d]) = if trimL l = [] then trimL [d] else trimL l ++ [d] := by
      intro l d
      induction l with
      | nil => simp [trimL]
      | cons x l ih =>
        show (if x = 48 then trimL (l ++ [d]) else x :: (l ++ [d])) = _
        by_cases h : x = 48
        · rw [if_pos h, ih]
          have : trimL (x :: l) = trimL l := by show (if x = 48 then trimL l else x :: l) = _; rw [if_pos h]
          rw [this]
        · have : trimL (x :: l) = x :: l := by show (if x = 48 then trimL l else x :: l) = _; rw [if_neg h]
          rw [this, if_neg h, if_neg (by simp)]
          rfl
    rw [padN, key]
    by_cases hb : r < 10
    · have h10 : r / 10 = 0 := by omega
      have hz : ∀ m, trimL (padN m 0) = [] := by
        intro m
        induction m with
        | zero => rfl
        | succ m ih => rw [padN_cons]; show (if _ = (48 : UInt8) then _ else _) = _; rw [if_pos (by simp)]; exact ih
      rw [h10, hz, if_pos rfl, Lib.decDigits, dif_pos hb, Nat.mod_eq_of_lt hb]
      show (if UInt8.ofNat (48 + r) = (48 : UInt8) then trimL [] else [UInt8.ofNat (48 + r)]) = _
      rw [if_neg]
      intro h
      have h2 := congrArg UInt8.toNat h
      rw [UInt8.toNat_ofNat', Nat.mod_eq_of_lt (by omega)] at h2
      have : (48 : UInt8).toNat = 48 := rfl
      omega
    · rw [trimL_pad n (r / 10) (by omega) (by rw [Nat.pow_succ] at h1; exact Nat.div_lt_of_lt_mul (by rw [Nat.mul_comm]; exact h1))]
      have hne : Lib.decDigits (r / 10) ≠ [] := by
        intro h
        have h2 := Lib.decDigits_length (r / 10)
        rw [h] at h2
        have := Lib.nDigits_pos (r / 10)
        simp at h2; omega
      rw [if_neg hne]
      conv => rhs; rw [Lib.decDigits, dif_neg hb]
theorem padN_split : ∀ (m n r : Nat), padN (n + m) r = padN n (r / 10 ^ m) ++ padN m (r % 10 ^ m)
  | 0, n, r => by simp [padN]
  | m + 1, n, r => by
    show padN (n + m + 1) r = _
    rw [padN, padN_split m n (r / 10), padN, List.append_assoc]
    have e1 : r / 10 / 10 ^ m = r / 10 ^ (m + 1) := by rw [Nat.div_div_eq_div_mul, Nat.pow_succ, Nat.mul_comm 10]
    have e2 : r / 10 % 10 ^ m = r % 10 ^ (m + 1) / 10 := by
      rw [Nat.pow_succ, Nat.mul_comm, Nat.mod_mul_right_div_self]
    have e3 : r % 10 = r % 10 ^ (m + 1) % 10 := by rw [Nat.pow_succ, Nat.mul_comm, Nat.mod_mul_right_mod]
    rw [e1, e2, e3]
theorem pcs_pad : ∀ (x : Nat), (pcs x).reverse.flatten = padN (9 * (pcs x).length) x := by
  intro x
  induction x using Nat.strongRecOn with
  | _ x ih =>
    by_cases hx : 0 < x
    · rw [pcs_pos hx, List.reverse_cons, List.flatten_append, ih (x / 1000000000) (Nat.div_lt_self hx (by decide)), List.length_cons]
      have := padN_split 9 (9 * (pcs (x / 1000000000)).length) x
      rw [show 9 * ((pcs (x / 1000000000)).length + 1) = 9 * (pcs (x / 1000000000)).length + 9 by omega, this]
      simp
    · have : x = 0 := by omega
      subst this
      rw [pcs_zero]; rfl
theorem pcs_lt : ∀ (x : Nat), x < 10 ^ (9 * (pcs x).length) := by
  intro x
  induction x using Nat.strongRecOn with
  | _ x ih =>
    by_cases hx : 0 < x
    · have := ih (x / 1000000000) (Nat.div_lt_self hx (by decide))
      rw [pcs_pos hx, List.length_cons, show 9 * ((pcs (x / 1000000000)).length + 1) = 9 * (pcs (x / 1000000000)).length + 9 by omega, Nat.pow_add]
      have h2 : x < (x / 1000000000 + 1) * 1000000000 := by omega
      exact Nat.lt_of_lt_of_le h2 (Nat.mul_le_mul_right 1000000000 this)
    · have : x = 0 := by omega
      subst this
      exact Nat.pow_pos (by decide)
theorem digitsPrint_eq (x : Nat) (hl : (nl (x : Int)).length ≤ 1000000000) : m_digits_Print (nl (x : Int)) = some (bs (Lib.decDigits x)) := by
  have hpl : (pcs x).length ≤ 1000000000000 := by
    have h1 : x < 1000000000 ^ (2 * (nl (x : Int)).length) := by
      have h2 := dv_lt (B := (4294967296 : Int)) (by decide) (nl_can (x : Int)).1
      rw [nl_dv (by omega)] at h2
      have h3 : (4294967296 : Int) ^ (nl (x : Int)).length ≤ (1000000000 : Int) ^ (2 * (nl (x : Int)).length) := by
        rw [Int.pow_mul]; exact pow_le (by decide) (by decide) _
      have h4 : (x : Int) < (((1000000000 ^ (2 * (nl (x : Int)).length) : Nat)) : Int) := by
        rw [Int.natCast_pow]
        exact Int.lt_of_lt_of_le h2 h3
      omega
    have := pcs_len _ x h1
    omega
  have h9 : ∀ s ∈ pcs x, s.length = 9 := by
    have : ∀ x, ∀ s ∈ pcs x, s.length = 9 := by
      intro x
      induction x using Nat.strongRecOn with
      | _ x ih =>
        intro s hs
        by_cases hx : 0 < x
        · rw [pcs_pos hx] at hs
          rcases List.mem_cons.1 hs with rfl | hs
          · exact padN_len 9 _
          · exact ih (x / 1000000000) (Nat.div_lt_self hx (by decide)) s hs
        · have : x = 0 := by omega
          subst this
          rw [pcs_zero] at hs; cases hs
    exact this x
  have e0 : m_digits_based 10 = some 0 := rfl
  have e1 := make_nl (x : Int) (by omega)
  have e2 := in_l1 x hl [] (by simp; omega)
  have e3 := in_l2 (pcs x) hpl h9
  have e5 : m_strings_Builder_String_M (decide (pcs x = [])) (i8 (pcs x).reverse.flatten) = some (bs (pcs x).reverse.flatten) := by
    unfold m_strings_Builder_String_M
    by_cases h : (pcs x).reverse.flatten = []
    · rw [h]; rfl
    · have hz : (i8 (pcs x).reverse.flatten).length ≠ 0 := by
        unfold i8; rw [List.length_map]; intro h0; exact h (List.length_eq_zero_iff.1 h0)
      rw [decide_eq_false hz, ust_i8 _ h]; rfl
  have e6 := trimLeft_eq (pcs x).reverse.flatten
  unfold m_digits_Print m_digits_In
  rw [List.nil_append] at e2
  simp only [e0, bd_some, decide_true, Bool.not_true, Bool.false_eq_true, if_false, chunk10, e1, e2, e3, e5, e6, sq_bs]
  by_cases hx : 0 < x
  · have h7 : trimL (pcs x).reverse.flatten = Lib.decDigits x := by rw [pcs_pad]; exact trimL_pad _ x hx (pcs_lt x)
    have hne : Lib.decDigits x ≠ [] := by
      intro h
      have h2 := Lib.decDigits_length x
      rw [h] at h2
      have := Lib.nDigits_pos x
      simp at h2; omega
    rw [h7, decide_eq_false hne]
    rfl
  · have : x = 0 := by omega
    subst this
    rw [pcs_zero]
    have : Lib.decDigits 0 = [48] := by rw [Lib.decDigits, dif_pos (by decide)]; rfl
    rw [this]
    rfl
end Go.Proofs.YtihaljbhcnflfaaDoor.AP
/- Numbers and fractions printed, by both. -/
namespace Go.Proofs.YtihaljbhcnflfaaDoor.AP
open Go Go.Proofs.YtihaljbhcnflfaaDoor.Tri
set_option linter.unusedVariables false
set_option linter.unusedSimpArgs false
theorem nd_pow : ∀ (j n : Nat), n < 10 ^ (j + 1) → Lib.nDigits n ≤ j + 1
  | 0, n, hn => by rw [Lib.nDigits_small (by simpa using hn)]; omega
  | j + 1, n, hn => by
    by_cases h : n < 10
    · rw [Lib.nDigits_small h]; omega
    · rw [Lib.nDigits_big h]
      have := nd_pow j (n / 10) (by rw [Nat.pow_succ] at hn; omega)
      omega
theorem nd_zl (x : Nat) : Lib.nDigits x ≤ 4 * (zl (x : Int)).length + 1 := by
  apply nd_pow
  have h2 := dv_lt (B := (10000 : Int)) (by decide) (zl_can (x : Int)).1
  rw [zl_dv (by omega)] at h2
  have h3 : ((10000 : Int) ^ (zl (x : Int)).length) = (((10 ^ (4 * (zl (x : Int)).length) : Nat)) : Int) := by
    rw [Int.natCast_pow, Int.pow_mul]
    rfl
  rw [h3] at h2
  have h4 : (10 : Nat) ^ (4 * (zl (x : Int)).length) ≤ 10 ^ (4 * (zl (x : Int)).length + 1) := Nat.pow_le_pow_right (by decide) (by omega)
  omega
theorem dd_len (x : Nat) : (Lib.decDigits x).length ≤ 4 * (zl (x : Int)).length + 1 := by rw [Lib.decDigits_length]; exact nd_zl x
theorem i8_cons (d : Nat) (h : d < 10) (l : List UInt8) : wu8 (wi64 (48 + (d : Int))) :: i8 l = i8 (UInt8.ofNat (48 + d) :: l) := by
  show _ = ((UInt8.ofNat (48 + d)).toNat : Int) :: i8 l
  congr 1
  rw [UInt8.toNat_ofNat', Nat.mod_eq_of_lt (show 48 + d < 2 ^ 8 by omega), wi64_eq (by omega) (by omega), wu8_eq (by omega) (by omega)]
  omega
theorem tx_i8 (l : List UInt8) : tx (i8 l) = bs l := by
  by_cases h : l = []
  · rw [h]; rfl
  · have := ust_i8 _ h
    unfold ust at this
    split at this
    · exact Option.some.inj this
    · cases this
/-- a number with its sign -/
def zsL (a : Int) : List UInt8 := if a < 0 then 45 :: Lib.decDigits a.natAbs else Lib.decDigits a.natAbs
theorem zsL_len (a : Int) : (zsL a).length ≤ 4 * (zl (a.natAbs : Int)).length + 2 := by
  have := dd_len a.natAbs
  unfold zsL
  split
  · rw [List.length_cons]; omega
  · omega
theorem wholePrint_eq (a : Int) (hl : (zl (a.natAbs : Int)).length ≤ 100000000) : m_whole_Print (zI a) = some (bs (zsL a)) := by
  have h1 := digitsPrint_eq a.natAbs (by have := nl_zl_len (x := (a.natAbs : Int)) (by omega); omega)
  have h2 := dd_len a.natAbs
  have c := cat_bs (a := [45]) (b := Lib.decDigits a.natAbs) (by simp; omega)
  unfold m_whole_Print zI zsL
  by_cases h : a < 0
  · simp only [decide_eq_true h, if_true, h1, bd_some, c, if_pos h]
    rfl
  · simp only [decide_eq_false h, Bool.false_eq_true, if_false, h1, bd_some, if_neg h]
theorem sg_ne {b : Int} (h : ¬ b = 1) : ¬ sg (b - 1) = 0 := by
  unfold sg
  split
  · decide
  · split <;> omega
/-- a fraction -/
def rtL (a b : Int) : List UInt8 := if b = 1 then zsL a else zsL a ++ 47 :: Lib.decDigits b.toNat
theorem rtL_len (a b : Int) (hb : 0 ≤ b) : (rtL a b).length ≤ 4 * (zl (a.natAbs : Int)).length + 4 * (zl b).length + 10 := by
  have h1 := zsL_len a
  have h2 := dd_len b.toNat
  have e : ((b.toNat : Nat) : Int) = b := by omega
  rw [e] at h2
  unfold rtL
  split
  · omega
  · rw [List.length_append, List.length_cons]; omega
theorem one_nl : m_nat_Of 1 = some (nl 1) := natOf_eq 1 (by decide) (by decide)
theorem ref_one : m_triviumref02_Num 1 = some (zl 1) := by
  have := mulAdd_eq 0 1 1 (by decide) (by decide) (by decide) (by decide) (by decide) (by rw [zl_zero]; decide)
  rw [zl_zero] at this
  unfold m_triviumref02_Num
  rw [this]
  rfl
end Go.Proofs.YtihaljbhcnflfaaDoor.AP
/- WholeAdds: the chapter's example; the plain law. -/
namespace Go.Proofs.YtihaljbhcnflfaaDoor.AP
open Go Go.Proofs.YtihaljbhcnflfaaDoor.Tri
set_option linter.unusedVariables false
set_option linter.unusedSimpArgs false
theorem wOf2 : m_whole_Of 2 = some (zI 2) := by
  unfold m_whole_Of
  rw [if_neg (by decide)]
  show bd (m_nat_Of 2) _ = _
  rw [natOf_eq 2 (by decide) (by decide), bd_some, wMade_eq false 2 (by decide) (by have := nl_len (x := 2) (n := 1) (by decide) (by decide); omega), bd_some]; rfl
theorem wOf7 : m_whole_Of (-7) = some (zI (-7)) := by
  unfold m_whole_Of
  rw [if_pos (by decide)]
  show bd (m_nat_Of 6) _ = _
  have l6 := nl_len (x := 6) (n := 1) (by decide) (by decide)
  have l1 := nl_len (x := 1) (n := 1) (by decide) (by decide)
  have l7 := nl_len (x := 6 + 1) (n := 1) (by decide) (by decide)
  rw [natOf_eq 6 (by decide) (by decide), bd_some, natOf_eq 1 (by decide) (by decide), bd_some, addN_eq 6 1 (by decide) (by decide) (by omega) (by omega), bd_some, wMade_eq true (6 + 1) (by decide) (by omega), bd_some]; rfl
theorem works07 : m_triviumlaw07_works = some true := by
  have l7 := nl_len (x := 7) (n := 1) (by decide) (by decide)
  have l3 := nl_len (x := 3) (n := 1) (by decide) (by decide)
  have l1 := nl_len (x := 1) (n := 1) (by decide) (by decide)
  have l2 := nl_len (x := 2) (n := 1) (by decide) (by decide)
  have l4 := nl_len (x := 4) (n := 1) (by decide) (by decide)
  have z4 := zl_len (x := 4) (n := 1) (by decide) (by decide)
  have z1 := zl_len (x := 1) (n := 1) (by decide) (by decide)
  have hF : m_whole_Floor (zI (-7)) (zI 2) = some (zI (-4), zI 1, 0) := by
    unfold m_whole_Floor
    show bd (m_divide_Div (nl 7) (nl 2)) _ = _
    have hd := div1_eq 7 2 (by decide) (by decide) (by decide) (by omega)
    rw [show (7 : Int) / 2 = 3 from rfl, show (7 : Int) % 2 = 1 from rfl] at hd
    rw [hd, bd_some]
    dsimp only
    have n1 : nl 1 = [1] := nl_one (by decide) (by decide)
    rw [if_neg (by decide)]
    show bd (bd (bd (some (decide (0 < ((nl 1).length : Int)))) _) _) _ = _
    rw [n1]
    show bd (bd (m_nat_Of 1) _) _ = _
    rw [natOf_eq 1 (by decide) (by decide), bd_some, addN_eq 3 1 (by decide) (by decide) (by omega) (by omega), bd_some]
    show bd (bd (m_nat_Sub (nl 2) [1]) _) _ = _
    rw [← n1, subN_eq 2 1 (by decide) (by decide) (by omega), bd_some, bd_some]
    show bd (m_whole_Made true (nl (3 + 1))) _ = _
    rw [wMade_eq true (3 + 1) (by decide) (by rw [show (3 : Int) + 1 = 4 from rfl]; omega), bd_some]
    show bd (m_whole_Made false (nl (2 - 1))) _ = _
    rw [wMade_eq false (2 - 1) (by decide) (by rw [show (2 : Int) - 1 = 1 from rfl]; omega), bd_some]; rfl
  have p4 := wholePrint_eq (-4) (by show (zl 4).length ≤ _; omega)
  have p1 := wholePrint_eq 1 (by show (zl 1).length ≤ _; omega)
  unfold m_triviumlaw07_works
  rw [wOf7, bd_some, wOf2, bd_some, hF, bd_some]
  dsimp only
  rw [if_pos (by decide)]
  show bd (m_whole_Print (zI (-4))) _ = _
  rw [p4, bd_some, show zsL (-4) = [45, 52] from congrArg (45 :: ·) (Lib.decDigits_one (i := 4) (by decide)), sq_self, if_pos rfl]
  show bd (m_whole_Print (zI 1)) _ = _
  rw [p1, bd_some, show zsL 1 = [49] from Lib.decDigits_one (i := 1) (by decide), sq_self]
theorem cleanZ_Lm (p : D_api_Int) (n : Nat) : Lm n (cleanZ p n) := by unfold Lm; rw [cleanZ_abs]; exact cleanV_lt _ _
end Go.Proofs.YtihaljbhcnflfaaDoor.AP
namespace Go.Proofs.YtihaljbhcnflfaaDoor.Pure
open Go Go.Proofs.YtihaljbhcnflfaaDoor.AP Go.Proofs.YtihaljbhcnflfaaDoor.AE
theorem u64lim {l : List Int} (h : Ty.ok (.sl (.int .u64)) l) : Limbs l := fun x hx => by
  obtain ⟨i, hi⟩ := List.getElem?_of_mem hx
  have h : (decide (IntKind.u64.min ≤ x) && decide (x ≤ IntKind.u64.max)) = true := h.2 i x hi
  rw [Bool.and_eq_true, decide_eq_true_eq, decide_eq_true_eq] at h
  exact ⟨h.1, Int.lt_add_one_of_le h.2⟩
end Go.Proofs.YtihaljbhcnflfaaDoor.Pure
/- Floors, of the program and of the document; the plain laws of divisions and of the ring. -/
namespace Go.Proofs.YtihaljbhcnflfaaDoor.AP
open Go Go.Proofs.YtihaljbhcnflfaaDoor.Tri
set_option linter.unusedVariables false
set_option linter.unusedSimpArgs false
/-- apart: the signs are not the same, and something is left -/
def fgo (a b : Int) : Bool := !(decide (a < 0) == decide (b < 0)) && decide (0 < (a.natAbs : Int) % (b.natAbs : Int))
/-- the floor's quotient, and rest: sizes -/
def fA (a b : Int) : Int := if fgo a b then (a.natAbs : Int) / (b.natAbs : Int) + 1 else (a.natAbs : Int) / (b.natAbs : Int)
def fR (a b : Int) : Int := if fgo a b then (b.natAbs : Int) - (a.natAbs : Int) % (b.natAbs : Int) else (a.natAbs : Int) % (b.natAbs : Int)
def fq (a b : Int) : Int := if (!(decide (a < 0) == decide (b < 0))) = true then -fA a b else fA a b
theorem fA_nonneg (a b : Int) : 0 ≤ fA a b := by
  have : 0 ≤ (a.natAbs : Int) / (b.natAbs : Int) := Int.ediv_nonneg (by omega) (by omega)
  unfold fA; split <;> omega
theorem fA_le (a b : Int) : fA a b ≤ (a.natAbs : Int) + 1 := by
  have : (a.natAbs : Int) / (b.natAbs : Int) ≤ (a.natAbs : Int) := Int.ediv_le_self _ (by omega)
  unfold fA; split <;> omega
theorem fR_bound (a b : Int) (hb : b ≠ 0) : 0 ≤ fR a b ∧ fR a b < (b.natAbs : Int) := by
  have h1 := Int.emod_nonneg (a.natAbs : Int) (show (b.natAbs : Int) ≠ 0 by omega)
  have h2 := Int.emod_lt_of_pos (a.natAbs : Int) (show 0 < (b.natAbs : Int) by omega)
  unfold fR fgo
  split
  · rename_i h
    rw [Bool.and_eq_true, decide_eq_true_eq] at h
    omega
  · omega
theorem fq_rest (a b : Int) (hb : b ≠ 0) : (if decide (b < 0) = true then -fR a b else fR a b) = a - fq a b * b := by
  have h1 := Int.emod_nonneg (a.natAbs : Int) (show (b.natAbs : Int) ≠ 0 by omega)
  have h3 := Int.mul_ediv_add_emod (a.natAbs : Int) (b.natAbs : Int)
  have key : ∀ q0 r0 A B : Int, B * q0 + r0 = A → 0 ≤ r0 → (a = A ∨ a = -A) → (b = B ∨ b = -B) → 0 ≤ A → 0 < B → A = (a.natAbs : Int) → B = (b.natAbs : Int) →
      (if decide (b < 0) = true then -(if (!(decide (a < 0) == decide (b < 0)) && decide (0 < r0)) = true then B - r0 else r0) else (if (!(decide (a < 0) == decide (b < 0)) && decide (0 < r0)) = true then B - r0 else r0)) =
      a - (if (!(decide (a < 0) == decide (b < 0))) = true then -(if (!(decide (a < 0) == decide (b < 0)) && decide (0 < r0)) = true then q0 + 1 else q0) else (if (!(decide (a < 0) == decide (b < 0)) && decide (0 < r0)) = true then q0 + 1 else q0)) * b := by
    intro q0 r0 A B hAB hr ha hb2 hA hB eA eB
    by_cases sa : a < 0 <;> by_cases sb : b < 0 <;> by_cases sr : 0 < r0 <;> simp only [sa, sb, sr, decide_true, decide_false, BEq.rfl, Bool.not_true, Bool.not_false, Bool.true_and, Bool.false_and, Bool.and_false, Bool.and_true, if_true, Bool.false_eq_true, if_false, show (true == false) = false from rfl, show (false == true) = false from rfl]
    all_goals
      have hbb : b = B ∨ b = -B := hb2
      first
        | (have e : a = A := by omega
           have e2 : b = B := by omega
           have e3 : r0 = A - B * q0 := by omega
           rw [e, e2]; grind)
        | (have e : a = -A := by omega
           have e2 : b = -B := by omega
           have e3 : r0 = A - B * q0 := by omega
           rw [e, e2]; grind)
        | (have e : a = -A := by omega
           have e2 : b = B := by omega
           have e3 : r0 = A - B * q0 := by omega
           have e4 : r0 = 0 ∨ 0 < r0 := by omega
           rw [e, e2]; grind)
        | (have e : a = A := by omega
           have e2 : b = -B := by omega
           have e3 : r0 = A - B * q0 := by omega
           have e4 : r0 = 0 ∨ 0 < r0 := by omega
           rw [e, e2]; grind)
  exact key _ _ _ _ h3 h1 (by omega) (by omega) (by omega) (by omega) rfl rfl
theorem fq_exact (a b : Int) (hb : b ≠ 0) : a - fq a b * b = 0 ↔ ¬ 0 < (a.natAbs : Int) % (b.natAbs : Int) := by
  have h1 := Int.emod_nonneg (a.natAbs : Int) (show (b.natAbs : Int) ≠ 0 by omega)
  have h2 := Int.emod_lt_of_pos (a.natAbs : Int) (show 0 < (b.natAbs : Int) by omega)
  rw [← fq_rest a b hb]
  unfold fR fgo
  by_cases h : 0 < (a.natAbs : Int) % (b.natAbs : Int)
  · rw [decide_eq_true h]
    cases hs : !(decide (a < 0) == decide (b < 0)) <;> simp <;> split <;> omega
  · rw [decide_eq_false h, Bool.and_false]
    simp; split <;> omega
theorem fq_sign (a b : Int) (hb : b ≠ 0) : sg (a - fq a b * b) = 0 ∨ sg (a - fq a b * b) = sg b := by
  have h := fR_bound a b hb
  rw [← fq_rest a b hb]
  unfold sg
  by_cases sb : b < 0 <;> simp only [sb, decide_true, decide_false, if_true, Bool.false_eq_true, if_false]
  all_goals
    by_cases h0 : fR a b = 0
    · left; repeat' split
      all_goals omega
    · right; repeat' split
      all_goals omega
theorem fq_small (a b : Int) (hb : b ≠ 0) : ((a - fq a b * b).natAbs : Int) < (b.natAbs : Int) := by
  have h := fR_bound a b hb
  rw [← fq_rest a b hb]
  split <;> omega
theorem fq_Lm {n : Nat} {a b : Int} (ha : Lm n a) : Lm (n + 1) (fq a b) := by
  have h1 := fA_nonneg a b
  have h2 := fA_le a b
  unfold Lm at *
  have := pow_pos' (show (0 : Int) < (4294967296 : Int) by decide) n
  have e : ((fq a b).natAbs : Int) = fA a b := by unfold fq; split <;> omega
  rw [e, Int.pow_succ]
  omega
theorem nl_lm {n : Nat} {x : Int} (h0 : 0 ≤ x) (h : x < (4294967296 : Int) ^ n) : (nl x).length ≤ n := nl_len h0 h
theorem wFloor_eq {n : Nat} (a b : Int) (hb : b ≠ 0) (ha : Lm n a) (hbl : Lm n b) (hn : n ≤ 1000000) : m_whole_Floor (zI a) (zI b) = some (zI (fq a b), zI (a - fq a b * b), 0) := by
  have la := ha.len
  have lb := hbl.len
  have h1 := Int.emod_nonneg (a.natAbs : Int) (show (b.natAbs : Int) ≠ 0 by omega)
  have h2 := Int.emod_lt_of_pos (a.natAbs : Int) (show 0 < (b.natAbs : Int) by omega)
  have hq0 : 0 ≤ (a.natAbs : Int) / (b.natAbs : Int) := Int.ediv_nonneg (by omega) (by omega)
  have hq1 : (a.natAbs : Int) / (b.natAbs : Int) ≤ (a.natAbs : Int) := Int.ediv_le_self _ (by omega)
  have lq : (nl ((a.natAbs : Int) / (b.natAbs : Int))).length ≤ n := by have := nl_mono hq0 hq1; omega
  have lr : (nl ((a.natAbs : Int) % (b.natAbs : Int))).length ≤ n := by have := nl_mono h1 (Int.le_of_lt h2); omega
  have hA0 := fA_nonneg a b
  have hR := fR_bound a b hb
  have lA : (nl (fA a b)).length ≤ n + 1 := by
    have := (fq_Lm (b := b) ha).len
    have e : ((fq a b).natAbs : Int) = fA a b := by unfold fq; split <;> omega
    rw [e] at this; exact this
  have lR : (nl (fR a b)).length ≤ n := by have := nl_mono hR.1 (Int.le_of_lt hR.2); omega
  have hv : (bd (bd (if (!(decide (a < 0) == decide (b < 0))) = true then some (decide (0 < ((nl ((a.natAbs : Int) % (b.natAbs : Int))).length : Int))) else some false) fun v6 =>
      if v6 = true then bd (m_nat_Of 1) fun x9 => bd (m_nat_Add (nl ((a.natAbs : Int) / (b.natAbs : Int))) x9) fun x11 => bd (m_nat_Sub (nl (b.natAbs : Int)) (nl ((a.natAbs : Int) % (b.natAbs : Int)))) fun x13 => some (x11, x13.1)
      else some (nl ((a.natAbs : Int) / (b.natAbs : Int)), nl ((a.natAbs : Int) % (b.natAbs : Int)))) fun x => some x) = some (nl (fA a b), nl (fR a b)) := by
    rw [neg_or_nil h1]
    have hc : (if (!(decide (a < 0) == decide (b < 0))) = true then some (decide (0 < (a.natAbs : Int) % (b.natAbs : Int))) else some false) = some (fgo a b) := by
      unfold fgo
      cases (!(decide (a < 0) == decide (b < 0))) <;> rfl
    rw [hc, bd_some]
    unfold fA fR
    by_cases hg : fgo a b = true
    · rw [if_pos hg, if_pos hg, if_pos hg]
      have hrp : 0 < (a.natAbs : Int) % (b.natAbs : Int) := by
        unfold fgo at hg
        rw [Bool.and_eq_true, decide_eq_true_eq] at hg
        exact hg.2
      rw [natOf_eq 1 (by decide) (by decide), bd_some, addN_eq _ 1 hq0 (by decide) (by omega) (by have := nl_len (x := 1) (n := 1) (by decide) (by decide); omega), bd_some, subN_eq _ _ h1 (Int.le_of_lt h2) (by omega), bd_some, bd_some]
    · rw [if_neg hg, if_neg hg, if_neg hg, bd_some]
  unfold m_whole_Floor
  show bd (m_divide_Div (nl (a.natAbs : Int)) (nl (b.natAbs : Int))) _ = _
  rw [div_eq _ _ (by omega) (by omega) (by omega) (by omega), bd_some]
  dsimp only
  rw [if_neg (show ¬ (!decide ((0 : Int) = 0)) = true by decide)]
  have hv2 : ∀ {X : Type} (f : List Int × List Int → Option X) (o : Option (List Int × List Int)), bd o (fun x => some x) = some (nl (fA a b), nl (fR a b)) → bd o f = f (nl (fA a b), nl (fR a b)) := by
    intro X f o h
    cases o with
    | none => cases h
    | some x => rw [bd_some] at h; cases h; rfl
  refine (hv2 _ _ hv).trans ?_
  show bd (m_whole_Made (!(decide (a < 0) == decide (b < 0))) (nl (fA a b))) (fun x15 => bd (m_whole_Made (decide (b < 0)) (nl (fR a b))) _) = _
  rw [wMade_eq _ _ hA0 (by omega), bd_some, wMade_eq _ _ hR.1 (by omega), bd_some, fq_rest a b hb]
  rfl
theorem wExact_eq {n : Nat} (a b : Int) (hb : b ≠ 0) (ha : Lm n a) (hbl : Lm n b) (hn : n ≤ 1000000) : m_whole_Exact (zI a) (zI b) = if a - fq a b * b = 0 then some (zI (fq a b), 0) else some ((false, []), 4) := by
  have la := ha.len
  have lb := hbl.len
  have h1 := Int.emod_nonneg (a.natAbs : Int) (show (b.natAbs : Int) ≠ 0 by omega)
  have hq0 : 0 ≤ (a.natAbs : Int) / (b.natAbs : Int) := Int.ediv_nonneg (by omega) (by omega)
  have hq1 : (a.natAbs : Int) / (b.natAbs : Int) ≤ (a.natAbs : Int) := Int.ediv_le_self _ (by omega)
  have lq : (nl ((a.natAbs : Int) / (b.natAbs : Int))).length ≤ n := by have := nl_mono hq0 hq1; omega
  unfold m_whole_Exact
  show bd (m_divide_Exact (nl (a.natAbs : Int)) (nl (b.natAbs : Int))) _ = _
  unfold m_divide_Exact
  rw [div_eq _ _ (by omega) (by omega) (by omega) (by omega), bd_some]
  dsimp only
  rw [if_neg (show ¬ (!decide ((0 : Int) = 0)) = true by decide), neg_or_nil h1]
  by_cases hr : 0 < (a.natAbs : Int) % (b.natAbs : Int)
  · rw [if_pos (decide_eq_true hr), if_neg (fun e => (fq_exact a b hb).1 e hr), bd_some]
    rfl
  · rw [if_neg (by simpa using hr), if_pos ((fq_exact a b hb).2 hr), bd_some]
    dsimp only
    rw [if_neg (show ¬ (!decide ((0 : Int) = 0)) = true by decide)]
    show bd (m_whole_Made (!(decide (a < 0) == decide (b < 0))) (nl ((a.natAbs : Int) / (b.natAbs : Int)))) _ = _
    rw [wMade_eq _ _ hq0 (by omega), bd_some]
    have e : fA a b = (a.natAbs : Int) / (b.natAbs : Int) := by
      unfold fA
      rw [if_neg]
      unfold fgo
      rw [decide_eq_false hr, Bool.and_false]; exact Bool.false_ne_true
    unfold fq
    rw [e]
theorem wFloor_zero (a : Int) : m_whole_Floor (zI a) (zI 0) = some ((false, []), (false, []), 3) := by
  unfold m_whole_Floor
  show bd (m_divide_Div (nl (a.natAbs : Int)) (nl 0)) _ = _
  rw [div_zero, bd_some]; rfl
theorem wExact_zero (a : Int) : m_whole_Exact (zI a) (zI 0) = some ((false, []), 3) := by
  unfold m_whole_Exact
  show bd (m_divide_Exact (nl (a.natAbs : Int)) (nl 0)) _ = _
  unfold m_divide_Exact
  rw [div_zero, bd_some]; rfl
theorem ref07Floor_eq {n : Nat} (a b : Int) (hb : b ≠ 0) (ha : Lm n a) (hbl : Lm n b) (hn : n ≤ 1000000) : m_triviumref07_Floor (zZ a) (zZ b) = some (zZ (fq a b), zZ (a - fq a b * b)) := by
  have sa := (Sm.limb ha).len
  have sb := (Sm.limb hbl).len
  have h1 := Int.emod_nonneg (a.natAbs : Int) (show (b.natAbs : Int) ≠ 0 by omega)
  have hq0 : 0 ≤ (a.natAbs : Int) / (b.natAbs : Int) := Int.ediv_nonneg (by omega) (by omega)
  have hq1 : (a.natAbs : Int) / (b.natAbs : Int) ≤ (a.natAbs : Int) := Int.ediv_le_self _ (by omega)
  have lq : (zl ((a.natAbs : Int) / (b.natAbs : Int))).length ≤ 3 * n := by have := zl_mono hq0 hq1; omega
  have hA0 := fA_nonneg a b
  have hv : (bd (bd (if (!(decide (a < 0) == decide (b < 0))) = true then some (decide (0 < ((zl ((a.natAbs : Int) % (b.natAbs : Int))).length : Int))) else some false) fun v4 =>
      if v4 = true then bd (m_triviumref02_Num 1) fun x7 => bd (m_triviumref02_Add (zl ((a.natAbs : Int) / (b.natAbs : Int))) x7) fun x9 => some x9
      else some (zl ((a.natAbs : Int) / (b.natAbs : Int)))) fun x => some x) = some (zl (fA a b)) := by
    rw [neg_or_zl h1]
    have hc : (if (!(decide (a < 0) == decide (b < 0))) = true then some (decide (0 < (a.natAbs : Int) % (b.natAbs : Int))) else some false) = some (fgo a b) := by
      unfold fgo
      cases (!(decide (a < 0) == decide (b < 0))) <;> rfl
    rw [hc, bd_some]
    unfold fA
    by_cases hg : fgo a b = true
    · rw [if_pos hg, if_pos hg, refNum_eq 1 (by decide) (by decide), bd_some, refAdd_eq _ 1 hq0 (by decide) (by omega) (by have := zl_len (x := 1) (n := 1) (by decide) (by decide); omega), bd_some, bd_some]
    · rw [if_neg hg, if_neg hg, bd_some]
  have hv2 : ∀ {X : Type} (f : List Int → Option X) (o : Option (List Int)), bd o (fun x => some x) = some (zl (fA a b)) → bd o f = f (zl (fA a b)) := by
    intro X f o h
    cases o with
    | none => cases h
    | some x => rw [bd_some] at h; cases h; rfl
  have sq := Sm.limb (fq_Lm (b := b) ha)
  have sb' : Sm (3 * (n + 1)) b := (Sm.limb hbl).mono (by omega)
  have sa' : Sm (3 * (n + 1) + 3 * (n + 1)) a := (Sm.limb ha).mono (by omega)
  unfold m_triviumref07_Floor
  show bd (m_triviumref02_Div (zl (a.natAbs : Int)) (zl (b.natAbs : Int))) _ = _
  rw [refDiv_eq _ _ (by omega) (by omega) (by omega) (by omega), bd_some]
  refine (hv2 _ _ hv).trans ?_
  show bd (m_triviumref07_made (!(decide (a < 0) == decide (b < 0))) (zl (fA a b))) _ = _
  rw [ref07Made_eq _ _ hA0, bd_some]
  show bd (m_triviumref07_Mul (zZ (fq a b)) (zZ b)) _ = _
  rw [ref07Mul_eq (fq a b) b sq sb' (by omega) (by omega), bd_some]
  show bd (m_triviumref07_Sub (zZ a) (zZ (fq a b * b))) _ = _
  rw [ref07Sub_eq a (fq a b * b) sa' (sq.mul sb') (by omega), bd_some]
  rfl
end Go.Proofs.YtihaljbhcnflfaaDoor.AP
/- The plain laws of divisions and of the ring. -/
namespace Go.Proofs.YtihaljbhcnflfaaDoor.AP
open Go Go.Proofs.YtihaljbhcnflfaaDoor.Tri
set_option linter.unusedVariables false
set_option linter.unusedSimpArgs false
theorem pair_eta {α β : Type} (p : α × β) : (p.1, p.2) = p := rfl
theorem zI_len0 (z : Int) : decide (((zI z).2.length : Int) = 0) = decide (z = 0) := by
  have hz := nl_nil (x := (z.natAbs : Int)) (by omega)
  show decide (((nl (z.natAbs : Int)).length : Int) = 0) = _
  rw [decide_eq_decide]
  constructor
  · intro h
    have : nl (z.natAbs : Int) = [] := List.eq_nil_of_length_eq_zero (by omega)
    have := hz.1 this
    omega
  · intro h
    rw [hz.2 (by omega)]; rfl
theorem wholeDivs_plain (p q : D_api_Int) (h1 : Limbs p.2) (h2 : Limbs q.2) (k1 : p.2.length ≤ 9223372036854775807) (k2 : q.2.length ≤ 9223372036854775807) : m_triviumlaw07_WholeDivs p q = some true := by
  have e1 : m_triviumref07_Clean (p.1, p.2) 10 = some (zI (cleanZ p 10)) := ref07Clean_eq p 10 h1 (by decide) k1
  have e2 : m_triviumref07_Clean (q.1, q.2) 10 = some (zI (cleanZ q 10)) := ref07Clean_eq q 10 h2 (by decide) k2
  have ha := cleanZ_Lm p 10
  have hb := cleanZ_Lm q 10
  generalize cleanZ p 10 = a at *
  generalize cleanZ q 10 = b at *
  have la := ha.len
  have lb := hb.len
  have o1 : m_triviumref07_Of ((zI a).1, (zI a).2) = some (zZ a) := ref07Of_eq a (by omega)
  have o2 : m_triviumref07_Of ((zI b).1, (zI b).2) = some (zZ b) := ref07Of_eq b (by omega)
  have z1 := zI_len0 b
  unfold m_triviumlaw07_WholeDivs
  rw [e1, bd_some, e2, bd_some]
  show bd (m_whole_Floor (zI a) (zI b)) (fun x5 => bd (m_whole_Exact (zI a) (zI b)) _) = _
  by_cases h0 : b = 0
  · subst h0
    rw [wFloor_zero, bd_some, wExact_zero, bd_some, if_pos (by rw [z1]; rfl)]
    dsimp only
    rw [if_pos (by decide), if_pos (by decide), if_pos (by rfl), works07, bd_some]
  · have f1 := wFloor_eq a b h0 ha hb (by decide)
    have f2 := wExact_eq a b h0 ha hb (by decide)
    have f3 := ref07Floor_eq a b h0 ha hb (by decide)
    have hq := fq_Lm (b := b) ha
    have hr : Lm 10 (a - fq a b * b) := Int.lt_trans (fq_small a b h0) hb
    generalize fq a b = u at *
    generalize a - u * b = r at *
    have lu := hq.len
    have lr := hr.len
    have su := (Sm.limb hq).len
    have sr := (Sm.limb hr).len
    have b1 : m_triviumref07_Back ((zZ u).1, (zZ u).2) = some (zI u) := ref07Back_eq u (by omega)
    have b2 : m_triviumref07_Back ((zZ r).1, (zZ r).2) = some (zI r) := ref07Back_eq r (by omega)
    have s1 : m_triviumref07_Same ((zI u).1, (zI u).2) (zI u) = some true := same07 u (by omega)
    have s2 : m_triviumref07_Same ((zI r).1, (zI r).2) (zI r) = some true := same07 r (by omega)
    have s3 : m_triviumref07_Same ((zI u).1, (zI u).2) ((zI u).1, (zI u).2) = some true := s1
    have g1 : m_triviumref07_Sign ((zZ r).1, (zZ r).2) = some (sg r) := ref07Sign_eq r
    rw [f1, bd_some, f2]
    by_cases hr0 : r = 0
    · subst hr0
      have g0 : sg 0 = 0 := rfl
      rw [if_pos rfl, bd_some, if_neg (by rw [z1]; simpa using h0)]
      simp only [o1, o2, bd_some, f3, b1, s1, Bool.not_true, if_false, Bool.false_eq_true, b2, s2, decide_true, g1, g0, if_true, s3, works07]
    · have g0 : decide (sg r = 0) = false := decide_eq_false (by unfold sg; split <;> (try split) <;> omega)
      rw [if_neg hr0, bd_some, if_neg (by rw [z1]; simpa using h0)]
      simp only [o1, o2, bd_some, f3, b1, s1, Bool.not_true, if_false, Bool.false_eq_true, b2, s2, decide_true, g1, g0, Bool.not_false, if_true, works07, List.length_nil]
      rfl
theorem wMade_abs (z : Int) (hl : (nl (z.natAbs : Int)).length ≤ 1000000) : m_whole_Made false (zI z).2 = some (zI (z.natAbs : Int)) := by
  show m_whole_Made false (nl (z.natAbs : Int)) = _
  rw [wMade_eq _ _ (by omega) (by omega)]; rfl
theorem wholeRing_plain (p q t : D_api_Int) (h1 : Limbs p.2) (h2 : Limbs q.2) (h3 : Limbs t.2) (k1 : p.2.length ≤ 9223372036854775807) (k2 : q.2.length ≤ 9223372036854775807) (k3 : t.2.length ≤ 9223372036854775807) : m_triviumlaw07_WholeRing p q t = some true := by
  have e1 : m_triviumref07_Clean (p.1, p.2) 20 = some (zI (cleanZ p 20)) := ref07Clean_eq p 20 h1 (by decide) k1
  have e2 : m_triviumref07_Clean (q.1, q.2) 20 = some (zI (cleanZ q 20)) := ref07Clean_eq q 20 h2 (by decide) k2
  have e3 : m_triviumref07_Clean (t.1, t.2) 20 = some (zI (cleanZ t 20)) := ref07Clean_eq t 20 h3 (by decide) k3
  have ha := cleanZ_Lm p 20
  have hb := cleanZ_Lm q 20
  have hc := cleanZ_Lm t 20
  generalize cleanZ p 20 = a at *
  generalize cleanZ q 20 = b at *
  generalize cleanZ t 20 = c at *
  have add : ∀ x y : Int, Lm 80 x → Lm 80 y → m_whole_Add (zI x) (zI y) = some (zI (x + y)) := fun x y hx hy => wAdd_eq x y hx hy (by decide)
  have mul : ∀ x y : Int, Lm 80 x → Lm 80 y → m_whole_Mul (zI x) (zI y) = some (zI (x * y)) := fun x y hx hy => wMulN_eq x y hx hy (by decide)
  have sub : ∀ x y : Int, Lm 80 x → Lm 80 y → m_whole_Sub (zI x) (zI y) = some (zI (x - y)) := fun x y hx hy => wSub_eq x y hx hy (by decide)
  have same : ∀ z : Int, Lm 80 z → m_triviumref07_Same (zI z) (zI z) = some true := fun z hz => same07 z (by have := hz.len; omega)
  have cmp : ∀ x y : Int, Lm 80 x → Lm 80 y → m_whole_Cmp (zI x) (zI y) = some (sg (x - y)) := fun x y hx hy => wCmp_eq x y (hx.mono (by decide)) (hy.mono (by decide))
  have xa : Lm 80 a := ha.mono (by decide)
  have xb : Lm 80 b := hb.mono (by decide)
  have xc : Lm 80 c := hc.mono (by decide)
  have xab : Lm 21 (a + b) := ha.add hb
  have xba : Lm 21 (b + a) := hb.add ha
  have xbc : Lm 21 (b + c) := hb.add hc
  have mab : Lm 40 (a * b) := (ha.mul hb).mono (by decide)
  have mac : Lm 40 (a * c) := (ha.mul hc).mono (by decide)
  have mca : Lm 40 (c * a) := (hc.mul ha).mono (by decide)
  have mabc : Lm 60 (a * b * c) := (mab.mul hc).mono (by decide)
  have sab : Lm 22 (a + b + c) := xab.add (hc.mono (by decide))
  have d1 : Lm 41 (a * (b + c)) := (ha.mul xbc).mono (by decide)
  have q1 : c + (b + a) = a + b + c := by omega
  have q2 : b * (c * a) = a * b * c := by grind
  have q3 : a * b + a * c = a * (b + c) := by grind
  have q4 : a + b - b = a := by omega
  have up : ∀ {n : Nat} {x : Int}, Lm n x → n ≤ 80 → Lm 80 x := fun h k => h.mono k
  have q5 : sg (a - b) = wi64 (0 - sg (b - a)) := by
    unfold sg
    split <;> split <;> (try split) <;> (try split) <;> first | omega | rfl
  have e1' : m_triviumref07_Clean p 20 = some (zI a) := e1
  have e2' : m_triviumref07_Clean q 20 = some (zI b) := e2
  have e3' : m_triviumref07_Clean t 20 = some (zI c) := e3
  unfold m_triviumlaw07_WholeRing
  simp only [pair_eta, works07, bd_some, Bool.not_true, Bool.false_eq_true, if_false, e1', e2', e3', add a b xa xb, add (a + b) c (up xab (by decide)) xc, add b a xb xa, add c (b + a) xc (up xba (by decide)), q1, same _ (up sab (by decide)),
    mul a b xa xb, mul (a * b) c (up mab (by decide)) xc, mul c a xc xa, mul b (c * a) xb (up mca (by decide)), q2, same _ (up mabc (by decide)), add b c xb xc, mul a (b + c) xa (up xbc (by decide)), mul a c xa xc, add (a * b) (a * c) (up mab (by decide)) (up mac (by decide)), q3, same _ (up d1 (by decide)),
    sub (a + b) b (up xab (by decide)) xb, q4, same a xa, cmp a b xa xb, cmp b a xb xa, ← q5, decide_true]
  by_cases h0 : b = 0
  · subst h0
    rw [wFloor_zero, bd_some, if_pos (by decide)]
    exact congrArg some (zI_len0 0)
  · have hq := fq_Lm (b := b) ha
    have hs := fq_sign a b h0
    have hsm := fq_small a b h0
    have hr : Lm 20 (a - fq a b * b) := Int.lt_trans hsm hb
    have hmul : Lm 41 (fq a b * b) := (hq.mul hb).mono (by decide)
    have f1 := wFloor_eq a b h0 ha hb (by decide)
    have q6 : fq a b * b + (a - fq a b * b) = a := by omega
    simp only [f1, pair_eta, bd_some, decide_true, Bool.not_true, Bool.false_eq_true, if_false, mul _ b (up hq (by decide)) xb, add _ _ (up hmul (by decide)) (up hr (by decide)), q6, same a xa, if_true, wSign_eq]
    have hfin : (bd (m_whole_Made false (zI (a - fq a b * b)).2) fun x72 => bd (m_whole_Made false (zI b).2) fun x74 => bd (m_whole_Cmp x72 x74) fun x76 => some (decide (x76 < 0))) = some true := by
      have l1 := hr.len
      have l2 := hb.len
      have n1 : Lm 80 (((a - fq a b * b).natAbs : Nat) : Int) := by unfold Lm; rw [show ((((a - fq a b * b).natAbs : Nat) : Int).natAbs : Int) = ((a - fq a b * b).natAbs : Int) by omega]; exact up hr (by decide)
      have n2 : Lm 80 ((b.natAbs : Nat) : Int) := by unfold Lm; rw [show (((b.natAbs : Nat) : Int).natAbs : Int) = (b.natAbs : Int) by omega]; exact xb
      rw [wMade_abs _ (by omega), bd_some, wMade_abs _ (by omega), bd_some, cmp _ _ n1 n2, bd_some]
      unfold sg; rw [if_pos (by omega)]; rfl
    by_cases hz : sg (a - fq a b * b) = 0
    · rw [if_pos (decide_eq_true hz)]
      exact hfin
    · rw [if_neg (by simpa using hz), if_pos (by rw [decide_eq_true_eq]; exact hs.resolve_left hz)]
      exact hfin
end Go.Proofs.YtihaljbhcnflfaaDoor.AP
/- WholeRing: the plain law, of all that may be handed in. -/
namespace Go.Proofs.YtihaljbhcnflfaaDoor.Pure
open Go Go.Proofs.YtihaljbhcnflfaaDoor.AP Go.Proofs.YtihaljbhcnflfaaDoor.AE
theorem WholeRing (y0 : D_api_Int) (h0 : Ty.ok Y_api_Int y0) (y1 : D_api_Int) (h1 : Ty.ok Y_api_Int y1) (y2 : D_api_Int) (h2 : Ty.ok Y_api_Int y2) : m_triviumlaw07_WholeRing y0 y1 y2 = some true :=
  wholeRing_plain y0 y1 y2 (u64lim h0.2) (u64lim h1.2) (u64lim h2.2) h0.2.1 h1.2.1 h2.2.1
end Go.Proofs.YtihaljbhcnflfaaDoor.Pure
/- The law WholeRing holds of every input: the row, and its card. -/
namespace Go.Proofs.YtihaljbhcnflfaaDoor.wholeRing
open Go.ChangeShapes Go.WideShapes Go.ChangeAt Go.RowKit
set_option linter.unusedVariables false
theorem own : ownKnob Tryd.prog.godebug = none := by kernel_rfl
theorem laidOut : laidOutB Tryd.prog = true := by kernel_rfl
theorem table {W : World} (h : laidMet Tryd.prog Rows.wholeRingRow.laid W) : AE.Glo W := trivial
set_option maxRecDepth 100000 in
theorem lifted (os : Os) (started : os.Started) (H : Type) (enc : TypeId × Value → H) :
    ReturnsInHanded {} Tryd.checked os 5 .any (fun w args => (Rows.wholeRingSpec.pre enc Tryd.prog Tryd.f5 [] false w args ∧ laidMetH Tryd.prog Rows.wholeRingRow.laid w) ∧ sizedMet enc Tryd.prog Tryd.f5 (OpenSpec.ofChange Rows.wholeRingSpec) false w args)
      (Rows.wholeRingSpec.post enc Tryd.prog Tryd.f5 false true false false) := by
  refine returnsInHanded_of_change_and (C := Tryd.checked) (X := fun w _ => laidMetH Tryd.prog Rows.wholeRingRow.laid w) (fun _ _ _ hh h => h.of_heap hh) own started (by kernel_rfl) Tryd.func5
    (ChangeSpec.witness_shaped (enc := enc) (C := Tryd.checked) (os := os) (X := fun w _ => laidMetH Tryd.prog Rows.wholeRingRow.laid w) false (World.laidAll Tryd.prog os Rows.wholeRingRow.laid) #[.agg #[.bool false, .slice none 0 0], .agg #[.bool false, .slice none 0 0], .agg #[.bool false, .slice none 0 0]] 8 (World.laidAll_os _ _ _)
      (World.shaped_of_ZipB (by kernel_rfl) (by kernel_rfl)) (by kernel_rfl) (by kernel_rfl) (by kernel_rfl)
      (by rw [MakeChecks.laidMetH_plain _ _ _ (by kernel_rfl)]; exact laidMet_laidAll _ (by kernel_rfl) (by kernel_rfl))) ?_
  intro W base args ds gs before hval0 hW _ hsz0 hL0 _
  have hL : laidMet Tryd.prog Rows.wholeRingRow.laid W := by rw [MakeChecks.laidMetH_plain _ _ _ (by kernel_rfl)] at hL0; exact hL0
  clear hsz0
  have hval : ∀ (j : Nat) t v, Tryd.f5.params[j]? = some t → args[j]? = some v → Value.okWide Tryd.prog W .any base t v := hval0
  have hW' := hW
  obtain ⟨p, q, hA0, hV, rfl, hfz, hnd⟩ := hW
  have hA : DataW.TrodAll enc Tryd.prog W 0 (fun _ => true) true Tryd.f5.params.toList args.toList ds p := hA0
  rw [Tryd.params5] at hA hval
  obtain ⟨v0, vs0, d0, ds0, p0, q0, hargs, rfl, rfl, h0, r0⟩ := trodAll_cons hA
  obtain ⟨v1, vs1, d1, ds1, p1, q1, rfl, rfl, rfl, h1, r1⟩ := trodAll_cons r0
  obtain ⟨v2, vs2, d2, ds2, p2, q2, rfl, rfl, rfl, h2, r2⟩ := trodAll_cons r1
  obtain ⟨rfl, rfl, rfl⟩ := trodAll_nil r2
  obtain rfl : args = #[v0, v1, v2] := by cases args; simp_all
  obtain ⟨rfl, rfl⟩ := trodVars_none hV
  have lt0 : ∀ x ∈ p0, x.block < W.heap.size := by obtain ⟨m, hm⟩ := h0; exact DataW.trod_lt m _ _ _ hm
  obtain ⟨a0, o0, e0⟩ := AE.open_v (t := AE.Y_api_Int) ⟨40, by kernel_rfl⟩ (hval 0 25 v0 rfl rfl) h0
  have lt1 : ∀ x ∈ p1, x.block < W.heap.size := by obtain ⟨m, hm⟩ := h1; exact DataW.trod_lt m _ _ _ hm
  obtain ⟨a1, o1, e1⟩ := AE.open_v (t := AE.Y_api_Int) ⟨40, by kernel_rfl⟩ (hval 1 25 v1 rfl rfl) h1
  have lt2 : ∀ x ∈ p2, x.block < W.heap.size := by obtain ⟨m, hm⟩ := h2; exact DataW.trod_lt m _ _ _ hm
  obtain ⟨a2, o2, e2⟩ := AE.open_v (t := AE.Y_api_Int) ⟨40, by kernel_rfl⟩ (hval 2 25 v2 rfl rfl) h2
  clear hA0 hval0
  have h := Pure.WholeRing a0 o0 a1 o1 a2 o2
  have C := AE.law_calls (table hL) (AE.k_triviumlaw07_WholeRing h) (W := W) (args := [v0, v1, v2]) ⟨v0, [v1, v2], rfl, e0, v1, [v2], rfl, e1, v2, [], rfl, e2, rfl⟩
  refine C.mono fun e W' ⟨he, bel⟩ => ?_
  subst he
  exact ⟨_, rfl, _, _, _, [], _, [], hW', trodAll_mk1 (shut_bool Tryd.underlying4 _), (trodAll_cons_mk (Below.trod laidOut (by kernel_rfl) (of_decide_eq_true (by kernel_rfl)) h0 bel lt0) (trodAll_cons_mk (Below.trod laidOut (by kernel_rfl) (of_decide_eq_true (by kernel_rfl)) h1 bel lt1) (trodAll_cons_mk (Below.trod laidOut (by kernel_rfl) (of_decide_eq_true (by kernel_rfl)) h2 bel lt2) trodAll_mk0))), rfl, bel.frame _, fun h => by cases h⟩
theorem over : Rows.wholeRingRow.holds Tryd.pinned (OpenSpec.ofChange Rows.wholeRingSpec) :=
  OpenClaim.holds_of_wide 5 Tryd.f5 rfl rfl rfl rfl rfl rfl rfl ⟨rfl, rfl, rfl, rfl, rfl⟩ rfl rfl rfl rfl rfl (by kernel_rfl) Tryd.func5 (by kernel_rfl)
    (of_decide_eq_true (by kernel_rfl)) (by unfold Func.isWrapper; first | (rw [if_pos (by decide +kernel)]; kernel_rfl) | (rw [if_neg (by decide +kernel)]; exact ⟨rfl, rfl⟩))
    (fun os started H enc _ => lifted os started H enc)
theorem proved : Rows.WholeRingSaid := over
theorem plain (f : FuncId) (fn : Func) (hf : Tryd.pinned.checked.prog.funcNamed "trivium/triviumlaw07.WholeRing" = some f) (hfn : Tryd.pinned.checked.prog.funcs[f]? = some fn) :
    false = Tryd.pinned.checked.prog.looks [] ∧ ∀ (j : Nat) t, fn.params[j]? = some t → Tryd.pinned.checked.prog.wantsStandIn t = false := by
  obtain rfl : f = 5 := Option.some.inj ((show Tryd.prog.funcNamed "trivium/triviumlaw07.WholeRing" = some 5 by kernel_rfl).symm.trans hf) |>.symm
  obtain rfl : fn = Tryd.f5 := (Option.some.inj (Tryd.func5.symm.trans hfn)).symm
  exact ⟨by kernel_rfl, fun j t ht => by
    rw [Tryd.params5] at ht
    have hm : t ∈ [25, 25, 25] := by simpa using Array.mem_of_getElem? ht
    have hall : ([25, 25, 25].all fun u => !Tryd.prog.wantsStandIn u) = true := by kernel_rfl
    exact (show Tryd.prog.wantsStandIn t = false by simpa using List.all_eq_true.1 hall t hm)⟩
theorem card : Rows.WholeRingCardSaid :=
  Claim7.holds_tied_plain_at .later [] _ _ _ _ proved (fun _ h => by cases h) (by kernel_rfl) (fun _ h => by cases h) wholeRing_row_tie rfl ⟨rfl, rfl⟩ (by kernel_rfl) rfl plain (by kernel_rfl)
#print axioms card
end Go.Proofs.YtihaljbhcnflfaaDoor.wholeRing
namespace Go.Proofs.YtihaljbhcnflfaaDoor
/-- The statement, under a short name, for the claim. -/
theorem wholeRing_holds : Rows.WholeRingCardSaid := wholeRing.card
end Go.Proofs.YtihaljbhcnflfaaDoor
