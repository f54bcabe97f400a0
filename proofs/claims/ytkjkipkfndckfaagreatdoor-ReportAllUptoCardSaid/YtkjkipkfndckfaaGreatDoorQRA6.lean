/- The law ReportAll holds of every input that is no more than so much: the row, and its card. -/
import Derived.Test.YtkjkipkfndckfaaGreatDoorQRA5
import Derived.Test.YtkjkipkfndckfaaGreatDoorQRA3
import Derived.Lib.ItoaLen
import Derived.KernelRfl
import Derived.Laws.BitsAllLaws
import Derived.Test.YtkjkipkfndckfaaGreatDoorRows
import Derived.Test.YtkjkipkfndckfaaGreatDoorCards
import Derived.Test.YtkjkipkfndckfaaGreatDoorTie
import Derived.Deep.DeepHandedRow
import Derived.WalkKit
import Derived.ProofKit
import Derived.OpenShut
import Derived.ShutString
import Derived.ChangeOld
import Derived.Below
import Derived.Lib.SmallJoins
import Derived.Lay
import Derived.SevenTiedAt
import Derived.Lib.LaidTab
import Derived.Lib.LaidU8
import Derived.Stop.LaidErr
import Derived.LaidMore
/- Shifted down; Knuth's rounds; division of any two numbers. -/
namespace Go.Proofs.YtkjkipkfndckfaaGreatDoor.AP
open Go Go.Proofs.YtkjkipkfndckfaaGreatDoor.Tri
set_option linter.unusedVariables false
set_option linter.unusedSimpArgs false
theorem drop_gI' (B : Int) (l : List Int) (i : Nat) : dv B (l.drop i) = gI l (i : Int) + B * dv B (l.drop (i + 1)) := by
  by_cases h : i < l.length
  · rw [drop_gI l i h, dv_cons]
  · rw [List.drop_of_length_le (by omega), List.drop_of_length_le (by omega), gI_beyond l i (by omega), dv_nil, Int.mul_zero]; rfl
theorem shr_step (a0 a1 T : Int) (s : Nat) (hs : s ≤ 32) (h0 : 0 ≤ a0 ∧ a0 < (4294967296 : Int)) : (a0 + (4294967296 : Int) * (a1 + (4294967296 : Int) * T)) / 2 ^ s = (a0 + (4294967296 : Int) * a1) / 2 ^ s % (4294967296 : Int) + (4294967296 : Int) * ((a1 + (4294967296 : Int) * T) / 2 ^ s) := by
  have hp : (0 : Int) < 2 ^ s := pow_pos' (by decide) s
  have hB := lb_pow s hs
  have e1 : (a0 + (4294967296 : Int) * (a1 + (4294967296 : Int) * T)) / 2 ^ s = (a0 + (4294967296 : Int) * a1) / 2 ^ s + (4294967296 : Int) * (2 ^ (32 - s) * T) := by
    have : a0 + (4294967296 : Int) * (a1 + (4294967296 : Int) * T) = a0 + (4294967296 : Int) * a1 + 2 ^ s * ((4294967296 : Int) * (2 ^ (32 - s) * T)) := by
      have h : (4294967296 : Int) * ((4294967296 : Int) * T) = 2 ^ s * ((4294967296 : Int) * (2 ^ (32 - s) * T)) := by
        conv => lhs; rw [show (4294967296 : Int) * ((4294967296 : Int) * T) = (4294967296 : Int) * T * (4294967296 : Int) from Int.mul_comm _ _]
        conv => lhs; arg 2; rw [hB]
        grind
      rw [← h]; grind
    rw [this, Int.add_mul_ediv_left _ _ (by omega)]
  have e2 : (a1 + (4294967296 : Int) * T) / 2 ^ s = a1 / 2 ^ s + 2 ^ (32 - s) * T := by
    have : a1 + (4294967296 : Int) * T = a1 + 2 ^ s * (2 ^ (32 - s) * T) := by rw [← Int.mul_assoc, ← hB]
    rw [this, Int.add_mul_ediv_left _ _ (by omega)]
  have e3 : (a0 + (4294967296 : Int) * a1) / 2 ^ s / (4294967296 : Int) = a1 / 2 ^ s := by
    rw [Int.ediv_ediv_of_nonneg (Int.le_of_lt hp), Int.mul_comm (2 ^ s), ← Int.ediv_ediv_of_nonneg (show (0 : Int) ≤ (4294967296 : Int) by decide), Int.add_mul_ediv_left _ _ (show (4294967296 : Int) ≠ 0 by decide), Int.ediv_eq_zero_of_lt h0.1 h0.2, Int.zero_add]
  have e4 := Int.mul_ediv_add_emod ((a0 + (4294967296 : Int) * a1) / 2 ^ s) (4294967296 : Int)
  rw [e1, e2, Int.mul_add, ← e3]
  omega
theorem or_high (x y : Int) (h0 : 0 ≤ x) (h1 : x < (4294967296 : Int)) (h2 : 0 ≤ y) (h3 : y < (4294967296 : Int)) : Go.bits .or .u64 y (x * (4294967296 : Int)) = y + (4294967296 : Int) * x := by
  have := or_low x y h0 h1 h2 h3
  rw [u64_or _ _ (by omega) (by omega) h2 (by omega)] at this
  rw [u64_or _ _ h2 (by omega) (by omega) (by omega), Nat.or_comm, this]
  omega
theorem shr_loop (a z : List Int) (s : Nat) (hs : s < 32) (ha : Dig (4294967296 : Int) a) (hl : a.length ≤ 1000000000) (hz : z.length = a.length) : ∀ (k i : Nat) (D : List Int), i + k = a.length → D.length = i → Dig (4294967296 : Int) D → dv (4294967296 : Int) D + (4294967296 : Int) ^ i * (dv (4294967296 : Int) (a.drop i) / 2 ^ s) = dv (4294967296 : Int) a / 2 ^ s →
    ∃ r, lp (m_nat_Shr_l1 a (s : Int) z) ((i : Int), D ++ List.replicate k 0) = some r ∧ Dig (4294967296 : Int) r ∧ r.length = a.length ∧ dv (4294967296 : Int) r = dv (4294967296 : Int) a / 2 ^ s
  | 0, i, D, hk, hi, hD, hv => by
    obtain rfl : i = a.length := by omega
    refine ⟨D, lp_done (by simp [m_nat_Shr_l1, hz]), hD, hi, ?_⟩
    rw [List.drop_length, dv_nil, Int.zero_ediv, Int.mul_zero, Int.add_zero] at hv
    exact hv
  | k + 1, i, D, hk, hi, hD, hv => by
    have g0 := gI_dig ha (by decide) (i : Int)
    have g1 := gI_dig ha (by decide) ((i + 1 : Nat) : Int)
    have hst := shr_step (gI a (i : Int)) (gI a ((i + 1 : Nat) : Int)) (dv (4294967296 : Int) (a.drop (i + 2))) s (by omega) g0
    have d1 := drop_gI' (4294967296 : Int) a (i + 1)
    have d0 := drop_gI' (4294967296 : Int) a i
    rw [show i + 1 + 1 = i + 2 from rfl] at d1
    rw [← d1, ← d0] at hst
    generalize hx : gI a (i : Int) = x at *
    generalize hy : gI a ((i + 1 : Nat) : Int) = y at *
    have hw : 0 ≤ (x + (4294967296 : Int) * y) / 2 ^ s := Int.ediv_nonneg (by omega) (Int.le_of_lt (pow_pos' (by decide) s))
    have a1 : decide ((i : Int) < (z.length : Int)) = true := decide_eq_true (by omega)
    have a2 : rd a (i : Int) = some x := by rw [rd_I (by omega) (by omega), hx]
    have a3 : qd .i64 (s : Int) 32 = some 0 := by rw [qd64 (by omega) (by decide) (by omega)]; congr 1; omega
    have a4 : rm .i64 (s : Int) 32 = some (s : Int) := by rw [rm_of (by omega) (by decide)]; congr 1; omega
    have a5 : wi64 ((i : Int) + 0) = (i : Int) := by rw [wi64_eq (by omega) (by omega)]; omega
    have a6 : wi64 ((i : Int) + 1) = ((i + 1 : Nat) : Int) := by rw [wi64_eq (by omega) (by omega)]; omega
    have a7 := natAt_eq a (i + 1) (by omega)
    rw [hy] at a7
    have a8 : ix (D ++ List.replicate (k + 1) 0) (i : Int) = some i := ix_nat (by simp; omega)
    have a9 : (D ++ List.replicate (k + 1) 0).set i ((x + (4294967296 : Int) * y) / 2 ^ s % (4294967296 : Int)) = (D ++ [(x + (4294967296 : Int) * y) / 2 ^ s % (4294967296 : Int)]) ++ List.replicate k 0 := by
      rw [show List.replicate (k + 1) (0 : Int) = 0 :: List.replicate k 0 from rfl, ← hi, set_at]
    have e1 : m_nat_Shr_l1 a (s : Int) z ((i : Int), D ++ List.replicate (k + 1) 0) = some (.inl (((i + 1 : Nat) : Int), (D ++ [(x + (4294967296 : Int) * y) / 2 ^ s % (4294967296 : Int)]) ++ List.replicate k 0)) := by
      simp only [m_nat_Shr_l1, a1, if_true, a3, bd_some, a5, a2, a6, a7, sh32 y g1.1 g1.2, a4, or_high y x g1.1 g1.2 g0.1 g0.2, sr_nat _ s (by omega), rm_of hw (show (0 : Int) < 4294967296 by decide), a8, lt_eq, a9]
    obtain ⟨r, r1, r2⟩ := shr_loop a z s hs ha hl hz k (i + 1) (D ++ [(x + (4294967296 : Int) * y) / 2 ^ s % (4294967296 : Int)]) (by omega) (by simp [hi]) (hD.snoc ⟨by omega, by omega⟩) (by
      rw [dv_snoc, hi, Int.pow_succ, ← hv, hst]
      grind)
    exact ⟨r, by rw [lp_more e1]; exact r1, r2⟩
theorem shr_eq (x : Int) (s : Nat) (hs : s < 32) (hx : 0 ≤ x) (hl : (nl x).length ≤ 1000000000) : m_nat_Shr (nl x) (s : Int) = some (nl (x / 2 ^ s), 0) := by
  have e0 : m_nat_shift (s : Int) = some 0 := by
    unfold m_nat_shift
    rw [if_neg (by rw [decide_eq_true_eq]; omega), bd_some, if_neg (by rw [decide_eq_true_eq]; omega)]
  have a3 : qd .i64 (s : Int) 32 = some 0 := by rw [qd64 (by omega) (by decide) (by omega)]; congr 1; omega
  unfold m_nat_Shr
  rw [e0, bd_some, if_neg (by decide), a3, bd_some, bd_some, bd_some]
  by_cases h0 : nl x = []
  · have hx0 := (nl_nil hx).1 h0
    subst hx0
    rw [h0, if_pos (by rfl), Int.zero_ediv, nl_zero]
  · have hlen := List.length_pos_iff.2 h0
    rw [if_neg (by rw [decide_eq_true_eq]; omega)]
    have a4 : wi64 (((nl x).length : Int) - 0) = ((nl x).length : Int) := by rw [wi64_eq (by omega) (by omega)]; omega
    obtain ⟨r, r1, r2, r3, r4⟩ := shr_loop (nl x) (List.replicate (nl x).length 0) s hs (nl_can x).1 hl (by simp) (nl x).length 0 [] (by omega) rfl (Dig.nil _) (by simp [dv])
    have r1' : lp (m_nat_Shr_l1 (nl x) (s : Int) (List.replicate (nl x).length 0)) (0, List.replicate (nl x).length 0) = some r := r1
    rw [a4, mk_of (by omega), bd_some, show (((nl x).length : Int)).toNat = (nl x).length by omega, r1', bd_some, trimN_eq _ (by omega), bd_some, trimz_nl r2 (by rw [r4, nl_dv hx])]
theorem dv_zero_of_lt {l : List Int} (hl : Dig (4294967296 : Int) l) {n : Nat} {X : Int} (h0 : 0 ≤ X) (h : X + (4294967296 : Int) ^ n * dv (4294967296 : Int) l < (4294967296 : Int) ^ n) : dv (4294967296 : Int) l = 0 := by
  have h1 := dv_nonneg (by decide) hl
  apply Classical.byContradiction
  intro hne
  have : (4294967296 : Int) ^ n * 1 ≤ (4294967296 : Int) ^ n * dv (4294967296 : Int) l := Int.mul_le_mul_of_nonneg_left (by omega) (Int.le_of_lt (pow_pos' (by decide) n))
  omega
/-- one round -/
theorem knuth_round (v u q : List Int) (n k : Nat) (hvl : v.length = n + 2) (hv : Dig (4294967296 : Int) v) (ht : 2147483648 ≤ gI v ((n + 1 : Nat) : Int)) (hu : Dig (4294967296 : Int) u) (hq : Dig (4294967296 : Int) q) (hku : k + v.length + 1 ≤ u.length) (hkq : k < q.length)
    (hlu : u.length ≤ 1000000000) (hlq : q.length ≤ 1000000000) (hU : dv (4294967296 : Int) (u.drop (k + 1)) < dv (4294967296 : Int) v) :
    ∃ u' q', m_divide_knuth_l1 (v, 0) ((k : Int), u, q) = some (.inl ((k : Int) - 1, u', q')) ∧ Dig (4294967296 : Int) u' ∧ u'.length = u.length ∧ Dig (4294967296 : Int) q' ∧ q'.length = q.length ∧ dv (4294967296 : Int) (u'.drop k) < dv (4294967296 : Int) v ∧ dv (4294967296 : Int) u' + dv (4294967296 : Int) v * ((4294967296 : Int) ^ k * dv (4294967296 : Int) (q'.drop k)) = dv (4294967296 : Int) u + dv (4294967296 : Int) v * ((4294967296 : Int) ^ (k + 1) * dv (4294967296 : Int) (q.drop (k + 1))) := by
  obtain ⟨L, M, R, rfl, hL, hM⟩ : ∃ L M R : List Int, u = L ++ M ++ R ∧ L.length = k ∧ M.length = v.length + 1 := by
    refine ⟨u.take k, (u.drop k).take (v.length + 1), (u.drop k).drop (v.length + 1), ?_, by simp; omega, by simp; omega⟩
    rw [List.append_assoc, List.take_append_drop, List.take_append_drop]
  obtain ⟨m0, M1, rfl⟩ : ∃ a l, M = a :: l := by
    cases M with
    | nil => simp at hM
    | cons a l => exact ⟨a, l, rfl⟩
  have hM1 : M1.length = v.length := by simpa using hM
  have dL := hu.left.left
  have dM := hu.left.right
  have dR := hu.right
  have hlt := dv_lt (by decide) hv
  have hV0 := dv_nonneg (by decide) hv
  have e1 : (L ++ m0 :: M1 ++ R).drop (k + 1) = M1 ++ R := by
    rw [← hL, show L ++ m0 :: M1 ++ R = (L ++ [m0]) ++ (M1 ++ R) by simp, List.drop_left' (by simp)]
  rw [e1, dv_append, hM1] at hU
  have zR : dv (4294967296 : Int) R = 0 := dv_zero_of_lt dR (dv_nonneg (by decide) dM.tail) (Int.lt_trans hU hlt)
  rw [zR, Int.mul_zero, Int.add_zero] at hU
  have hm0 := dM.head
  have hUM : dv (4294967296 : Int) (m0 :: M1) < dv (4294967296 : Int) v * (4294967296 : Int) := by rw [dv_cons]; omega
  simp only [List.length_append] at hlu hku
  have hlen : (L ++ (m0 :: M1) ++ R).length ≤ 1000000000 := by simp only [List.length_append]; exact hlu
  obtain ⟨g, g1, g2, g3, g4⟩ := guess_eq L (m0 :: M1) R v n hvl hM hv dM ht hUM (by omega)
  obtain ⟨D, t1, t2, t3, t4⟩ := take_eq L (m0 :: M1) R v g hM hv dM ⟨g2, g3⟩ hlen (by omega)
  have hVp : 0 < dv (4294967296 : Int) v := by have := dv_nonneg (by decide) dM.tail; omega
  have hU0 := dv_nonneg (by decide) dM
  have q0 : 0 ≤ dv (4294967296 : Int) (m0 :: M1) / dv (4294967296 : Int) v := Int.ediv_nonneg hU0 (by omega)
  have hr1 := Int.emod_nonneg (dv (4294967296 : Int) (m0 :: M1)) (show dv (4294967296 : Int) v ≠ 0 by omega)
  have hr2 := Int.emod_lt_of_pos (dv (4294967296 : Int) (m0 :: M1)) hVp
  have hr3 := Int.mul_ediv_add_emod (dv (4294967296 : Int) (m0 :: M1)) (dv (4294967296 : Int) v)
  have hpw : (4294967296 : Int) ^ (v.length + 1) = (4294967296 : Int) ^ v.length * (4294967296 : Int) := Int.pow_succ _ _
  rw [hL] at g1 t1
  have b1 : decide ((0 : Int) ≤ (k : Int)) = true := decide_eq_true (by omega)
  have b2 : ix q (k : Int) = some k := ix_nat hkq
  have b3 : rd (q.set k g) (k : Int) = some g := by rw [rd_nat]; simp [hkq]
  have b4 : ix (q.set k g) (k : Int) = some k := ix_nat (by simpa using hkq)
  have b5 : wi64 ((k : Int) - 1) = (k : Int) - 1 := wi64_eq (by omega) (by omega)
  -- what comes out, either way
  have main : ∃ E, m_divide_knuth_l1 (v, 0) ((k : Int), L ++ (m0 :: M1) ++ R, q) = some (.inl ((k : Int) - 1, L ++ E ++ R, q.set k (dv (4294967296 : Int) (m0 :: M1) / dv (4294967296 : Int) v))) ∧ Dig (4294967296 : Int) E ∧ E.length = v.length + 1 ∧ dv (4294967296 : Int) E = dv (4294967296 : Int) (m0 :: M1) % dv (4294967296 : Int) v := by
    by_cases hc : dv (4294967296 : Int) (m0 :: M1) < g * dv (4294967296 : Int) v
    · have hg : g = dv (4294967296 : Int) (m0 :: M1) / dv (4294967296 : Int) v + 1 := by
        rcases g4 with h | h
        · rw [h, Int.mul_comm] at hc; omega
        · exact h
      rw [if_pos hc] at t4
      obtain ⟨E, c, s1, s2, s3, s4, s5⟩ := give_eq L D R v t2 hv t3 (by simp only [List.length_append, t2]; omega) (by omega)
      rw [hL] at s1
      have hgV : g * dv (4294967296 : Int) v = dv (4294967296 : Int) v * (dv (4294967296 : Int) (m0 :: M1) / dv (4294967296 : Int) v) + dv (4294967296 : Int) v := by rw [hg]; grind
      have hE := dv_lt (by decide) s3
      have hE0 := dv_nonneg (by decide) s3
      rw [s2] at hE
      have hpos := pow_pos' (show (0 : Int) < (4294967296 : Int) by decide) v.length
      have hc1 : c = 1 := by
        rcases s4 with h | h
        · subst h; rw [Int.mul_zero] at s5; omega
        · exact h
      subst hc1
      refine ⟨E, ?_, s3, s2, by omega⟩
      have c1 : (q.set k g).set k (dv (4294967296 : Int) (m0 :: M1) / dv (4294967296 : Int) v) = q.set k (dv (4294967296 : Int) (m0 :: M1) / dv (4294967296 : Int) v) := by simp
      have c2 : wu64 (g - 1) = dv (4294967296 : Int) (m0 :: M1) / dv (4294967296 : Int) v := by rw [wu64_eq (by omega) (by omega)]; omega
      simp only [m_divide_knuth_l1, b1, if_true, g1, bd_some, b2, lt_eq, b3, t1, decide_eq_true hc, b4, c2, c1, s1, b5]
    · have hg : g = dv (4294967296 : Int) (m0 :: M1) / dv (4294967296 : Int) v := by
        rcases g4 with h | h
        · exact h
        · exfalso
          apply hc
          have : g * dv (4294967296 : Int) v = dv (4294967296 : Int) v * (dv (4294967296 : Int) (m0 :: M1) / dv (4294967296 : Int) v) + dv (4294967296 : Int) v := by rw [h]; grind
          omega
      rw [if_neg hc] at t4
      refine ⟨D, ?_, t3, t2, ?_⟩
      · simp only [m_divide_knuth_l1, b1, if_true, g1, bd_some, b2, lt_eq, b3, t1, decide_eq_false hc, b5]
        rw [← hg]; rfl
      · rw [t4, hg, Int.mul_comm]; omega
  obtain ⟨E, m1, m2, m3, m4⟩ := main
  have hqr : Dig (4294967296 : Int) (q.set k (dv (4294967296 : Int) (m0 :: M1) / dv (4294967296 : Int) v)) := hq.set _ ⟨q0, Int.ediv_lt_of_lt_mul hVp (by rw [Int.mul_comm]; exact hUM)⟩
  refine ⟨L ++ E ++ R, q.set k (dv (4294967296 : Int) (m0 :: M1) / dv (4294967296 : Int) v), m1, (dL.append m2).append dR, by simp only [List.length_append, m3]; simp only [List.length_cons] at hM ⊢; omega, hqr, by simp, ?_, ?_⟩
  · have : (L ++ E ++ R).drop k = E ++ R := by rw [List.append_assoc, List.drop_left' hL]
    rw [this, dv_append, zR, Int.mul_zero, Int.add_zero, m4]
    exact hr2
  · have e2 : (q.set k (dv (4294967296 : Int) (m0 :: M1) / dv (4294967296 : Int) v)).drop k = (dv (4294967296 : Int) (m0 :: M1) / dv (4294967296 : Int) v) :: q.drop (k + 1) := by
      rw [List.drop_set, if_neg (by omega), Nat.sub_self, List.drop_eq_getElem_cons hkq]; rfl
    rw [e2, dv_append, dv_append, dv_append, dv_append, zR, Int.mul_zero, Int.add_zero, Int.mul_zero, Int.add_zero, hL, m4, Int.pow_succ]
    simp only [dv_cons (4294967296 : Int) (dv (4294967296 : Int) (m0 :: M1) / dv (4294967296 : Int) v)]
    generalize dv (4294967296 : Int) (m0 :: M1) = X at *
    generalize dv (4294967296 : Int) v = V at *
    generalize X / V = Q at *
    generalize X % V = W at *
    generalize dv (4294967296 : Int) (q.drop (k + 1)) = Y at *
    generalize (4294967296 : Int) ^ k = P at *
    rw [← hr3]
    grind
end Go.Proofs.YtkjkipkfndckfaaGreatDoor.AP
/- Division of any two numbers; floors; the document's floor. -/
namespace Go.Proofs.YtkjkipkfndckfaaGreatDoor.AP
open Go Go.Proofs.YtkjkipkfndckfaaGreatDoor.Tri
set_option linter.unusedVariables false
set_option linter.unusedSimpArgs false
theorem knuth_loop (v : List Int) (n : Nat) (hvl : v.length = n + 2) (hv : Dig (4294967296 : Int) v) (ht : 2147483648 ≤ gI v ((n + 1 : Nat) : Int)) : ∀ (k : Nat) (u q : List Int), Dig (4294967296 : Int) u → Dig (4294967296 : Int) q → k + v.length ≤ u.length → k ≤ q.length → u.length ≤ 1000000000 → q.length ≤ 1000000000 → dv (4294967296 : Int) (u.drop k) < dv (4294967296 : Int) v →
    ∃ u' q', lp (m_divide_knuth_l1 (v, 0)) ((k : Int) - 1, u, q) = some (u', q') ∧ Dig (4294967296 : Int) u' ∧ u'.length = u.length ∧ Dig (4294967296 : Int) q' ∧ q'.length = q.length ∧ dv (4294967296 : Int) u' < dv (4294967296 : Int) v ∧ dv (4294967296 : Int) u' + dv (4294967296 : Int) v * dv (4294967296 : Int) q' = dv (4294967296 : Int) u + dv (4294967296 : Int) v * ((4294967296 : Int) ^ k * dv (4294967296 : Int) (q.drop k))
  | 0, u, q, hu, hq, h1, h2, h3, h4, h5 => ⟨u, q, lp_done (by simp [m_divide_knuth_l1]), hu, rfl, hq, rfl, by simpa using h5, by simp⟩
  | k + 1, u, q, hu, hq, h1, h2, h3, h4, h5 => by
    obtain ⟨u1, q1, r1, r2, r3, r4, r5, r6, r7⟩ := knuth_round v u q n k hvl hv ht hu hq (by omega) (by omega) h3 h4 h5
    obtain ⟨u2, q2, s1, s2, s3, s4, s5, s6, s7⟩ := knuth_loop v n hvl hv ht k u1 q1 r2 r4 (by omega) (by omega) (by omega) (by omega) r6
    refine ⟨u2, q2, ?_, s2, s3.trans r3, s4, s5.trans r5, s6, s7.trans r7⟩
    rw [show ((k + 1 : Nat) : Int) - 1 = (k : Int) by omega, lp_more r1]
    exact s1
theorem knuth_eq (x y : Int) (hy : (4294967296 : Int) ≤ y) (hxy : y ≤ x) (hl : (nl x).length ≤ 100000000) : m_divide_knuth (nl x) (nl y) = some (nl (x / y), nl (x % y)) := by
  have hlb := nl_mono (by omega) hxy
  obtain ⟨n, hn⟩ : ∃ n, (nl y).length = n + 2 := by
    refine ⟨(nl y).length - 2, ?_⟩
    have h1 := lt_pow_len (x := y) (by omega)
    have : ¬ (nl y).length ≤ 1 := fun h => by
      have := pow_mono (show (0 : Int) < (4294967296 : Int) by decide) h
      rw [Int.pow_one] at this
      omega
    omega
  obtain ⟨Bl, t, hb, hBl⟩ := split_last hn
  have dB := (nl_can y).1
  have hvy := nl_dv (x := y) (by omega)
  have htop := (nl_can y).2
  rw [hb] at dB hvy htop
  have ht0 := Top.snoc.1 htop
  have htd := dB.right.head
  rw [dv_snoc, hBl] at hvy
  have lBl0 := dv_nonneg (by decide) dB.left
  have lBl := dv_lt (by decide) dB.left
  rw [hBl] at lBl
  obtain ⟨m, hm, hm1, hm2, hm3⟩ := bits_eq t htd.1 htd.2
  have hmpos : 0 < m := by
    apply Nat.pos_of_ne_zero
    rintro rfl
    rw [Int.pow_zero] at hm2; omega
  have hm3 := hm3 hmpos
  obtain ⟨s, hs⟩ : ∃ s, s = 32 - m := ⟨_, rfl⟩
  have hs31 : s < 32 := by omega
  have hpw := lb_pow m (by omega)
  rw [← hs] at hpw
  have hp : (0 : Int) < 2 ^ s := pow_pos' (by decide) s
  have hpm : (2 : Int) ^ m = 2 ^ (m - 1) * 2 := by
    have e : m = (m - 1) + 1 := by omega
    conv => lhs; rw [e]
    exact Int.pow_succ _ _
  have hhalf : (2 : Int) ^ (m - 1) * 2 ^ s = 2147483648 := by
    have : (2 : Int) ^ (m - 1) * 2 * 2 ^ s = (4294967296 : Int) := by rw [← hpm, ← hpw]
    have e : (2 : Int) ^ (m - 1) * 2 * 2 ^ s = 2 * (2 ^ (m - 1) * 2 ^ s) := by grind
    omega
  have hs2 : (2 : Int) ^ s ≤ 2147483648 := by
    rw [← hhalf]
    have := pow_pos' (show (0 : Int) < 2 by decide) (m - 1)
    have h : 1 * (2 : Int) ^ s ≤ 2 ^ (m - 1) * 2 ^ s := Int.mul_le_mul_of_nonneg_right (by omega) (Int.le_of_lt hp)
    omega
  have hP := pow_pos' (show (0 : Int) < (4294967296 : Int) by decide) (n + 1)
  have hVlt : y * 2 ^ s < (4294967296 : Int) ^ (n + 2) := by
    have h1 : y < (4294967296 : Int) ^ (n + 1) * 2 ^ m := by
      have : (4294967296 : Int) ^ (n + 1) * (t + 1) ≤ (4294967296 : Int) ^ (n + 1) * 2 ^ m := Int.mul_le_mul_of_nonneg_left (by omega) (Int.le_of_lt hP)
      rw [Int.mul_add, Int.mul_one] at this
      omega
    have h2 := Int.mul_lt_mul_of_pos_right h1 hp
    rw [Int.mul_assoc, ← hpw, ← Int.pow_succ] at h2
    exact h2
  have hVge : (4294967296 : Int) ^ (n + 1) * 2147483648 ≤ y * 2 ^ s := by
    have h1 : (4294967296 : Int) ^ (n + 1) * 2 ^ (m - 1) ≤ y := by
      have : (4294967296 : Int) ^ (n + 1) * 2 ^ (m - 1) ≤ (4294967296 : Int) ^ (n + 1) * t := Int.mul_le_mul_of_nonneg_left hm3 (Int.le_of_lt hP)
      omega
    have h2 := Int.mul_le_mul_of_nonneg_right h1 (Int.le_of_lt hp)
    rw [Int.mul_assoc, hhalf] at h2
    exact h2
  have hV0 : 0 ≤ y * 2 ^ s := by omega
  have hlV : (nl (y * 2 ^ s)).length = n + 2 := by
    have h1 := nl_len hV0 hVlt
    have h2 := lt_pow_len hV0
    have : ¬ (nl (y * 2 ^ s)).length ≤ n + 1 := fun h => by
      have := pow_mono (show (0 : Int) < (4294967296 : Int) by decide) h
      omega
    omega
  have dV := (nl_can (y * 2 ^ s)).1
  have vV := nl_dv hV0
  have htV : 2147483648 ≤ gI (nl (y * 2 ^ s)) ((n + 1 : Nat) : Int) := by
    obtain ⟨Vl, w, hw, hVl⟩ := split_last hlV
    rw [hw] at dV vV ⊢
    have := gI_last Vl w
    rw [hVl] at this
    rw [this]
    rw [dv_snoc, hVl] at vV
    have h1 := dv_lt (by decide) dV.left
    rw [hVl] at h1
    have h2 : (4294967296 : Int) ^ (n + 1) * 2147483648 < (4294967296 : Int) ^ (n + 1) * (w + 1) := by rw [Int.mul_add, Int.mul_one]; omega
    have := Int.lt_of_mul_lt_mul_left h2 (Int.le_of_lt hP)
    omega
  have hx0 : 0 ≤ x := by omega
  have hA0 : 0 ≤ x * 2 ^ s := Int.mul_nonneg hx0 (Int.le_of_lt hp)
  have hA1 : x * 2 ^ s < (4294967296 : Int) ^ (nl x).length * 2 ^ s := Int.mul_lt_mul_of_pos_right (lt_pow_len hx0) hp
  have hPl := pow_pos' (show (0 : Int) < (4294967296 : Int) by decide) (nl x).length
  have hlA : (nl (x * 2 ^ s)).length ≤ (nl x).length + 1 := nl_len hA0 (by
    rw [Int.pow_succ]
    have : (4294967296 : Int) ^ (nl x).length * 2 ^ s ≤ (4294967296 : Int) ^ (nl x).length * (4294967296 : Int) := Int.mul_le_mul_of_nonneg_left (by omega) (Int.le_of_lt hPl)
    omega)
  obtain ⟨z, hz⟩ : ∃ z, z = (nl x).length + 1 - (nl (x * 2 ^ s)).length := ⟨_, rfl⟩
  obtain ⟨k, hk⟩ : ∃ k, k = (nl x).length - (n + 2) + 1 := ⟨_, rfl⟩
  have dA := (nl_can (x * 2 ^ s)).1
  have vA := nl_dv hA0
  have du : Dig (4294967296 : Int) (nl (x * 2 ^ s) ++ List.replicate z 0) := dA.append (Dig.replicate (by decide) z)
  have vu : dv (4294967296 : Int) (nl (x * 2 ^ s) ++ List.replicate z 0) = x * 2 ^ s := by rw [dv_append_zeros, vA]
  have lu : (nl (x * 2 ^ s) ++ List.replicate z 0).length = (nl x).length + 1 := by simp; omega
  have hdrop : dv (4294967296 : Int) ((nl (x * 2 ^ s) ++ List.replicate z 0).drop k) < dv (4294967296 : Int) (nl (y * 2 ^ s)) := by
    have h1 := dv_split (4294967296 : Int) (nl (x * 2 ^ s) ++ List.replicate z 0) k (by omega)
    rw [vu] at h1
    have h2 := dv_nonneg (by decide) (du.take k)
    have h3 : (nl x).length = k + (n + 1) := by omega
    rw [h3, Int.pow_add, Int.mul_assoc] at hA1
    have h4 : (4294967296 : Int) ^ k * dv (4294967296 : Int) ((nl (x * 2 ^ s) ++ List.replicate z 0).drop k) < (4294967296 : Int) ^ k * ((4294967296 : Int) ^ (n + 1) * 2 ^ s) := by omega
    have h5 := Int.lt_of_mul_lt_mul_left h4 (Int.le_of_lt (pow_pos' (by decide) k))
    have h6 : (4294967296 : Int) ^ (n + 1) * 2 ^ s ≤ (4294967296 : Int) ^ (n + 1) * 2147483648 := Int.mul_le_mul_of_nonneg_left hs2 (Int.le_of_lt hP)
    rw [vV]; omega
  obtain ⟨u', q', r1, r2, r3, r4, r5, r6, r7⟩ := knuth_loop (nl (y * 2 ^ s)) n hlV dV htV k (nl (x * 2 ^ s) ++ List.replicate z 0) (List.replicate k 0) du (Dig.replicate (by decide) k) (by omega) (by simp) (by omega) (by simp; omega) hdrop
  rw [vu, vV] at r7
  rw [vV] at r6
  have hd0 : List.drop k (List.replicate k (0 : Int)) = [] := List.drop_of_length_le (by simp)
  rw [hd0, dv_nil, Int.mul_zero, Int.mul_zero, Int.add_zero] at r7
  have hVpos : 0 < y * 2 ^ s := Int.mul_pos (by omega) hp
  obtain ⟨f1, f2⟩ := (Int.ediv_emod_unique (a := x * 2 ^ s) (b := y * 2 ^ s) (r := dv (4294967296 : Int) u') (q := dv (4294967296 : Int) q') hVpos).2 ⟨r7, dv_nonneg (by decide) r2, r6⟩
  rw [Int.mul_ediv_mul_of_pos_left x y hp] at f1
  have f3 : dv (4294967296 : Int) u' / 2 ^ s = x % y := by
    rw [← f2, Int.mul_comm x, Int.mul_comm y, Int.mul_emod_mul_of_pos _ _ hp, Int.mul_ediv_cancel_left _ (Int.ne_of_gt hp)]
  have hlu' : (nl (dv (4294967296 : Int) u')).length ≤ (nl x).length + 1 := by
    refine nl_len (dv_nonneg (by decide) r2) ?_
    have := dv_lt (by decide) r2
    rw [r3, lu] at this
    exact this
  -- the walk
  have hlA2 := lt_pow_len hA0
  have c1 : wi64 (((nl y).length : Int) - 1) = ((n + 1 : Nat) : Int) := by rw [wi64_eq (by omega) (by omega)]; omega
  have c2 : rd (nl y) ((n + 1 : Nat) : Int) = some t := by rw [hb, rd_I (by omega) (by simp; omega), ← hBl, gI_last]
  have c3 : wi64 (32 - (m : Int)) = (s : Int) := by rw [wi64_eq (by omega) (by omega)]; omega
  have c4 : wi64 (((nl x).length : Int) + 1) = (((nl x).length + 1 : Nat) : Int) := by rw [wi64_eq (by omega) (by omega)]; omega
  have c5 : cpy (List.replicate ((nl x).length + 1) (0 : Int)) 0 (nl (x * 2 ^ s)) = some (nl (x * 2 ^ s) ++ List.replicate z 0) := by
    unfold cpy
    rw [if_pos (by rw [List.length_replicate]; omega), List.take_zero, List.nil_append, List.drop_replicate, Nat.zero_add, ← hz]
  have c6 : wi64 (((nl x).length : Int) - ((nl y).length : Int)) = (k : Int) - 1 := by rw [wi64_eq (by omega) (by omega)]; omega
  have c7 : wi64 ((k : Int) - 1 + 1) = (k : Int) := by rw [wi64_eq (by omega) (by omega)]; omega
  unfold m_divide_knuth
  rw [c1, c2, bd_some, hm, bd_some, c3, shl_eq y s hs31 (by omega) (by omega), bd_some, c4, mk_of (by omega), bd_some, shl_eq x s hs31 hx0 (by omega), bd_some, Int.toNat_natCast]
  dsimp only
  rw [c5, bd_some, c6, c7, mk_of (by omega), bd_some, Int.toNat_natCast, lt_eq, r1, bd_some]
  dsimp only
  rw [make_dig q' r4 (by rw [r5]; simp; omega), bd_some, make_dig u' r2 (by omega), bd_some]
  dsimp only
  rw [trimz_nl r2 rfl, shr_eq _ s hs31 (dv_nonneg (by decide) r2) (by omega), bd_some, trimz_nl r4 f1.symm, f3]
theorem div_eq (x y : Int) (hx : 0 ≤ x) (hy : 0 < y) (hl : (nl x).length ≤ 100000000) (hl2 : (nl y).length ≤ 100000000) : m_divide_Div (nl x) (nl y) = some (nl (x / y), nl (x % y), 0) := by
  by_cases h1 : y < (4294967296 : Int)
  · exact div1_eq x y hx hy h1 (by omega)
  · have hlen : 1 < (nl y).length := by
      have h2 := lt_pow_len (x := y) (by omega)
      apply Nat.lt_of_not_le
      intro h
      have := pow_mono (show (0 : Int) < (4294967296 : Int) by decide) h
      rw [Int.pow_one] at this
      omega
    unfold m_divide_Div
    rw [if_neg (by rw [decide_eq_true_eq]; omega), may_can _ (nl_can x) (by omega), bd_some, may_can _ (nl_can y) (by omega)]
    simp only [bd_some, Bool.not_true]
    rw [if_neg (by decide), bd_some, if_neg (by decide), cmpN_eq x y hx (by omega) (by omega), bd_some]
    by_cases hlt : x < y
    · have e1 : sg (x - y) = -1 := by unfold sg; rw [if_pos (by omega)]
      rw [e1, if_pos (by decide), make_nl x (by omega), bd_some, Int.ediv_eq_zero_of_lt hx hlt, Int.emod_eq_of_lt hx hlt, nl_zero]
    · have e1 : ¬ sg (x - y) < 0 := by unfold sg; split <;> (try split) <;> omega
      rw [if_neg (by simpa using e1), if_neg (by rw [decide_eq_true_eq]; omega), knuth_eq x y (by omega) (by omega) hl, bd_some]
end Go.Proofs.YtkjkipkfndckfaaGreatDoor.AP
/- Texts: put together, joined, printed numbers. -/
namespace Go.Proofs.YtkjkipkfndckfaaGreatDoor.AP
open Go
set_option linter.unusedVariables false
set_option linter.unusedSimpArgs false
theorem data_bs (l : List UInt8) : (bs l).data.toList = l := rfl
theorem bs_size (l : List UInt8) : (bs l).size = l.length := rfl
theorem bs_append (a b : List UInt8) : bs a ++ bs b = bs (a ++ b) := by
  apply ByteArray.ext
  apply Array.toList_inj.1
  rw [ByteArray.data_append]
  simp [bs]
/-- The same text. -/
theorem sq_self (a : ByteArray) : sq a a = true := by unfold sq; simp
theorem sq_bs {a b : List UInt8} : sq (bs a) (bs b) = decide (a = b) := by
  unfold sq
  rw [toList_data, toList_data, data_bs, data_bs]
  by_cases h : a = b
  · subst h; simp
  · rw [decide_eq_false h]; simp [h]
theorem cat_bs {a b : List UInt8} (h : a.length + b.length ≤ 9223372036854775807) : cat (bs a) (bs b) = some (bs (a ++ b)) := by
  unfold cat
  rw [if_pos (by rw [bs_size, bs_size]; exact h), bs_append]
theorem join2 (s x y : List UInt8) (l : List (List UInt8)) : Lib.join (x :: y :: l) s = x ++ (s ++ Lib.join (y :: l) s) := by
  rw [Lib.join_cons, Lib.join_cons]
  simp [Lib.joinTail, List.append_assoc]
theorem join_bs (l : List (List UInt8)) (s : List UInt8) (h1 : l.length ≤ 140737488355328) (h2 : (Lib.join l s).length ≤ 140737488355328) : m_strings_Join (l.map bs) (bs s) = some (bs (Lib.join l s)) := by
  have e : (l.map bs).map (fun x : ByteArray => x.data.toList) = l := by
    rw [List.map_map]
    have : (fun x : ByteArray => x.data.toList) ∘ bs = id := rfl
    rw [this, List.map_id]
  unfold m_strings_Join
  rw [e, data_bs, if_pos ⟨by rw [List.length_map]; exact h1, h2⟩]
  rfl
/-- a bound of a join's length -/
theorem join_len (s : List UInt8) (c : Nat) : ∀ l : List (List UInt8), (∀ x ∈ l, x.length ≤ c) → (Lib.join l s).length ≤ l.length * (c + s.length)
  | [], _ => by rw [Lib.join_nil]; simp
  | [x], h => by
    rw [Lib.join_one]
    have := h x (by simp)
    simp; omega
  | x :: y :: l, h => by
    have h1 := h x (by simp)
    have h2 := join_len s c (y :: l) (fun z hz => h z (by simp [hz]))
    rw [join2]
    simp only [List.length_append, List.length_cons] at h2 ⊢
    rw [Nat.succ_mul]
    omega
theorem itoa_bs (n : Int) (h0 : -9223372036854775808 ≤ n) (h1 : n ≤ 9223372036854775807) : m_strconv_Itoa n = some (bs (Lib.itoa n)) := by
  unfold m_strconv_Itoa
  rw [if_pos ⟨h0, h1⟩]
  rfl
theorem nd_le (n : Nat) (h : n ≤ 9223372036854775808) : Lib.nDigits n ≤ 19 := by
  have hd : ∀ (j n : Nat), n < 10 ^ (j + 1) → Lib.nDigits n ≤ j + 1 := by
    intro j
    induction j with
    | zero => intro n hn; rw [Lib.nDigits_small (by simpa using hn)]; omega
    | succ j ih =>
      intro n hn
      by_cases h : n < 10
      · rw [Lib.nDigits_small h]; omega
      · rw [Lib.nDigits_big h]
        have := ih (n / 10) (by rw [Nat.pow_succ] at hn; omega)
        omega
  exact hd 18 n (by omega)
theorem itoa_len (n : Int) (h0 : -9223372036854775808 ≤ n) (h1 : n ≤ 9223372036854775807) : (Lib.itoa n).length ≤ 20 := by
  unfold Lib.itoa
  split
  · rw [List.length_cons, Lib.decDigits_length]
    have := nd_le n.natAbs (by omega)
    omega
  · rw [Lib.decDigits_length]
    have := nd_le n.toNat (by omega)
    omega
/-- a loop that fills a row with what is made of each -/
theorem lp_fill {α β : Type} {f : (Int × List β) → Option ((Int × List β) ⊕ (List β))} (l : List α) (g : α → β)
    (h : ∀ (i : Nat) x v, l[i]? = some x → v.length = l.length → f ((i : Int), v) = some (.inl ((i : Int) + 1, v.set i (g x)))) (he : ∀ v, f ((l.length : Int), v) = some (.inr v)) (v0 : List β) (hv : v0.length = l.length) : lp f (0, v0) = some (l.map g) := by
  have key : ∀ (k i : Nat) (v : List β), i + k = l.length → v.length = l.length → v.take i = (l.take i).map g → lp f ((i : Int), v) = some (l.map g) := by
    intro k
    induction k with
    | zero =>
      intro i v hk hv ht
      obtain rfl : i = l.length := by omega
      rw [lp_done (he v)]
      rw [List.take_of_length_le (by omega), List.take_of_length_le (Nat.le_refl _)] at ht
      rw [ht]
    | succ k ih =>
      intro i v hk hv ht
      have hi : l[i]? = some l[i] := List.getElem?_eq_getElem (by omega)
      rw [lp_more (h i _ v hi hv)]
      have := ih (i + 1) (v.set i (g l[i])) (by omega) (by rw [List.length_set]; exact hv) (by
        rw [List.take_add_one, List.take_add_one, hi, List.take_set_of_le (Nat.le_refl i), ht, List.map_append]
        congr 1
        rw [List.getElem?_set_self (by omega)]
        rfl)
      simpa using this
  exact key l.length 0 v0 (by omega) hv (by simp)
theorem mk16 (n : Nat) (h : n ≤ 4294967296) : AP.mk 16 (bs []) (n : Int) (n : Int) = some (List.replicate n (bs [])) := by
  rw [mk_of (by omega)]
  simp

/-! numbers by ten, the document's way -/
theorem tx_one (d : Nat) (h : d < 10) : tx [wu8 (wi64 (48 + (d : Int)))] = bs [UInt8.ofNat (48 + d)] := by
  rw [wi64_eq (by omega) (by omega), wu8_eq (by omega) (by omega)]
  unfold tx bs
  have : (48 + (d : Int)).toNat = 48 + d := by omega
  simp [this]
theorem baseItoa_loop (σ : Int) (hσ : σ = 1 ∨ σ = -1) (m : Nat) : ∀ acc : List UInt8, 0 < m → m ≤ 9223372036854775807 → acc.length + Lib.nDigits m ≤ 100 → lp m_triviumbase_Itoa_l1 (bs acc, σ * (m : Int)) = some (bs (Lib.decDigits m ++ acc)) := by
  induction m using Nat.strongRecOn with
  | _ m ih =>
    intro acc hm hmax hl
    have hnd := Lib.nDigits_pos m
    have e0 : (!decide (σ * (m : Int) = 0)) = true := by
      rw [decide_eq_false]; rfl
      rcases hσ with rfl | rfl <;> omega
    have e1 : rm .i64 (σ * (m : Int)) 10 = some (σ * ((m % 10 : Nat) : Int)) := by
      unfold rm
      rw [if_neg (by decide)]
      congr 1
      rcases hσ with rfl | rfl
      · rw [Int.one_mul, Int.one_mul, Int.tmod_eq_emod_of_nonneg (by omega)]; omega
      · rw [show (-1 : Int) * (m : Int) = -(m : Int) by omega, Int.neg_tmod, Int.tmod_eq_emod_of_nonneg (by omega)]; omega
    have e2 : qd .i64 (σ * (m : Int)) 10 = some (σ * ((m / 10 : Nat) : Int)) := by
      unfold qd
      rw [if_neg (by decide)]
      have : (σ * (m : Int)).tdiv 10 = σ * ((m / 10 : Nat) : Int) := by
        rcases hσ with rfl | rfl
        · rw [Int.one_mul, Int.one_mul, Int.tdiv_eq_ediv_of_nonneg (by omega)]; omega
        · rw [show (-1 : Int) * (m : Int) = -(m : Int) by omega, Int.neg_tdiv, Int.tdiv_eq_ediv_of_nonneg (by omega)]; omega
      rw [this]
      congr 1
      exact wi64_eq (by rcases hσ with rfl | rfl <;> omega) (by rcases hσ with rfl | rfl <;> omega)
    have e3 : (if decide (σ * ((m % 10 : Nat) : Int) < 0) = true then some (wi64 (0 - σ * ((m % 10 : Nat) : Int))) else some (σ * ((m % 10 : Nat) : Int))) = some ((m % 10 : Nat) : Int) := by
      rcases hσ with rfl | rfl
      · rw [if_neg (by simp; omega), Int.one_mul]
      · by_cases h : 0 < m % 10
        · rw [if_pos (by simp; omega), wi64_eq (by omega) (by omega)]
          congr 1; omega
        · rw [if_neg (by simp; omega)]
          congr 1; omega
    have e4 : cat (tx [wu8 (wi64 (48 + ((m % 10 : Nat) : Int)))]) (bs acc) = some (bs (UInt8.ofNat (48 + m % 10) :: acc)) := by
      rw [tx_one _ (Nat.mod_lt _ (by decide)), cat_bs (by simp; omega)]
      rfl
    have hs : m_triviumbase_Itoa_l1 (bs acc, σ * (m : Int)) = some (.inl (bs (UInt8.ofNat (48 + m % 10) :: acc), σ * ((m / 10 : Nat) : Int))) := by
      simp only [m_triviumbase_Itoa_l1, e0, if_true, e1, bd_some, e3, e4, e2]
    rw [lp_more hs]
    by_cases h : m < 10
    · have h1 : m / 10 = 0 := by omega
      have h2 : m % 10 = m := by omega
      rw [h1, h2, lp_done (x := bs (UInt8.ofNat (48 + m) :: acc))]
      · rw [Lib.decDigits, dif_pos h]; rfl
      · simp [m_triviumbase_Itoa_l1]
    · have h4 := Lib.nDigits_big h
      rw [ih (m / 10) (by omega) _ (by omega) (by omega) (by simp; omega)]
      conv => rhs; rw [Lib.decDigits, dif_neg h]
      simp
theorem baseItoa (n : Int) (h0 : -9223372036854775807 ≤ n) (h1 : n ≤ 9223372036854775807) : m_triviumbase_Itoa n = some (bs (Lib.itoa n)) := by
  unfold m_triviumbase_Itoa
  by_cases hz : n = 0
  · subst hz
    rw [if_pos (by decide)]
    have : Lib.itoa 0 = [48] := by unfold Lib.itoa; rw [if_neg (by decide), Lib.decDigits, dif_pos (by decide)]; rfl
    rw [this]
  · rw [if_neg (by simpa using hz)]
    by_cases hn : n < 0
    · have e : n = -1 * ((n.natAbs : Nat) : Int) := by omega
      have hd := nd_le n.natAbs (by omega)
      have := baseItoa_loop (-1) (.inr rfl) n.natAbs [] (by omega) (by omega) (by simp; omega)
      rw [← e] at this
      have hl := Lib.decDigits_length n.natAbs
      rw [this, List.append_nil]
      have c := cat_bs (a := [45]) (b := Lib.decDigits n.natAbs) (by rw [hl]; simp; omega)
      simp only [bd_some, decide_eq_true hn, if_true, c]
      unfold Lib.itoa
      rw [if_pos hn]
      rfl
    · have e : n = 1 * ((n.toNat : Nat) : Int) := by omega
      have hd := nd_le n.toNat (by omega)
      have := baseItoa_loop 1 (.inl rfl) n.toNat [] (by omega) (by omega) (by simp; omega)
      rw [← e] at this
      rw [this, List.append_nil]
      simp only [bd_some, decide_eq_false hn]
      unfold Lib.itoa
      rw [if_neg hn]
      rfl
/-! parts behind one another -/
def catI {α : Type} (g : Nat → α → List UInt8) : Nat → List α → List UInt8
  | _, [] => []
  | i, x :: l => g i x ++ catI g (i + 1) l
/-! bytes in a builder -/
def i8 (l : List UInt8) : List Int := l.map fun b => (b.toNat : Int)
theorem apS_i8 (a b : List UInt8) (h : a.length + b.length ≤ 140737488355328) : apS_ (i8 a) (bs b) = some (i8 (a ++ b)) := by
  unfold apS_ i8
  rw [if_pos (by rw [List.length_map, bs_size]; exact h), List.map_append]
  rfl
theorem ust_i8 (l : List UInt8) (h : l ≠ []) : ust (i8 l) = some (bs l) := by
  unfold ust
  rw [if_pos]
  · congr 1
    unfold tx bs i8
    rw [List.map_map]
    congr 1
    apply Array.toList_inj.1
    simp only [List.toList_toArray]
    have : ∀ l : List UInt8, l.map ((fun n : Int => UInt8.ofNat n.toNat) ∘ fun b => (b.toNat : Int)) = l := by
      intro l
      induction l with
      | nil => rfl
      | cons x l ih => rw [List.map_cons, ih]; congr 1; simp
    exact this l
  · refine ⟨by cases l with | nil => exact absurd rfl h | cons x l => exact List.cons_ne_nil _ _, ?_⟩
    apply List.all_eq_true.2
    intro z hz
    unfold i8 at hz
    obtain ⟨b, _, rfl⟩ := List.mem_map.1 hz
    have := b.toNat_lt
    rw [Bool.and_eq_true]
    exact ⟨decide_eq_true (by omega), decide_eq_true (by omega)⟩
end Go.Proofs.YtkjkipkfndckfaaGreatDoor.AP
/- A number's digits, by ten: the program's way. -/
namespace Go.Proofs.YtkjkipkfndckfaaGreatDoor.AP
open Go Go.Proofs.YtkjkipkfndckfaaGreatDoor.Tri
set_option linter.unusedVariables false
set_option linter.unusedSimpArgs false
set_option maxRecDepth 4000
/-- n places of a number -/
def padN : Nat → Nat → List UInt8
  | 0, _ => []
  | n + 1, r => padN n (r / 10) ++ [UInt8.ofNat (48 + r % 10)]
theorem padN_len : ∀ (n r : Nat), (padN n r).length = n
  | 0, _ => rfl
  | n + 1, r => by rw [padN, List.length_append, padN_len n]; rfl
theorem padN_cons : ∀ (n r : Nat), padN (n + 1) r = UInt8.ofNat (48 + r / 10 ^ n % 10) :: padN n r
  | 0, r => by simp [padN]
  | n + 1, r => by
    rw [padN, padN_cons n (r / 10), padN]
    rw [Nat.div_div_eq_div_mul, Nat.pow_succ, Nat.mul_comm 10]
    rfl
theorem digit_bt (x : Int) (h0 : 0 ≤ x) (h1 : x < 10) : bt (bs [48, 49, 50, 51, 52, 53, 54, 55, 56, 57, 97, 98, 99, 100, 101, 102, 103, 104, 105, 106, 107, 108, 109, 110, 111, 112, 113, 114, 115, 116, 117, 118, 119, 120, 121, 122]) x = some (48 + x) := by
  have : x = 0 ∨ x = 1 ∨ x = 2 ∨ x = 3 ∨ x = 4 ∨ x = 5 ∨ x = 6 ∨ x = 7 ∨ x = 8 ∨ x = 9 := by omega
  rcases this with rfl | rfl | rfl | rfl | rfl | rfl | rfl | rfl | rfl | rfl <;> rfl
theorem set_back {α : Type} (z : α) (k : Nat) (v : α) (t : List α) : (List.replicate (k + 1) z ++ t).set k v = List.replicate k z ++ v :: t := by
  induction k with
  | zero => rfl
  | succ k ih =>
    show z :: (List.replicate (k + 1) z ++ t).set k v = z :: (List.replicate k z ++ v :: t)
    rw [ih]
theorem piece_loop (r : Nat) (n : Nat) (hn : n ≤ 100) (hr : r < 10000000000000000000) : ∀ (k j : Nat), j + k = n → lp (m_digits_piece_l1 10 (n : Int)) (((r / 10 ^ j : Nat) : Int), (j : Int), List.replicate k 0 ++ i8 (padN j r)) = some (i8 (padN n r)) := by
  intro k
  induction k with
  | zero =>
    intro j hj
    obtain rfl : j = n := by omega
    exact lp_done (by simp [m_digits_piece_l1])
  | succ k ih =>
    intro j hj
    have hle := Nat.div_le_self r (10 ^ j)
    generalize hq : r / 10 ^ j = q at *
    have e1 : decide ((j : Int) < (n : Int)) = true := decide_eq_true (by omega)
    have w10 : wu64 10 = 10 := rfl
    have e2 : rm .u64 (q : Int) (wu64 10) = some (((q % 10 : Nat)) : Int) := by
      rw [w10, rm_of (by omega) (by decide)]; congr 1
    have e3 := digit_bt ((q % 10 : Nat) : Int) (by omega) (by omega)
    have e4 : wi64 ((wi64 ((n : Int) - 1)) - (j : Int)) = (k : Int) := by
      rw [wi64_eq (x := (n : Int) - 1) (by omega) (by omega), wi64_eq (by omega) (by omega)]; omega
    have e5 : ix (List.replicate (k + 1) (0 : Int) ++ i8 (padN j r)) (k : Int) = some k := ix_nat (by simp; omega)
    have e6 : qd .u64 (q : Int) (wu64 10) = some (((q / 10 : Nat)) : Int) := by
      rw [w10, qdU (by omega) (by decide) (by omega)]; congr 1
    have e7 : wi64 ((j : Int) + 1) = ((j + 1 : Nat) : Int) := by rw [wi64_eq (by omega) (by omega)]; omega
    have e8 := set_back (0 : Int) k (48 + ((q % 10 : Nat) : Int)) (i8 (padN j r))
    have e9 : (48 + ((q % 10 : Nat) : Int)) :: i8 (padN j r) = i8 (padN (j + 1) r) := by
      rw [padN_cons, hq]
      show _ = ((UInt8.ofNat (48 + q % 10)).toNat : Int) :: i8 (padN j r)
      congr 1
      rw [UInt8.toNat_ofNat']
      have := Nat.mod_lt q (show 0 < 10 by decide)
      rw [Nat.mod_eq_of_lt (show 48 + q % 10 < 2 ^ 8 by omega)]
      omega
    have hs : m_digits_piece_l1 10 (n : Int) ((q : Int), (j : Int), List.replicate (k + 1) 0 ++ i8 (padN j r)) = some (.inl (((q / 10 : Nat) : Int), ((j + 1 : Nat) : Int), List.replicate k 0 ++ i8 (padN (j + 1) r))) := by
      simp only [m_digits_piece_l1, e1, if_true, e2, bd_some, e3, e4, e5, e8, e9, lt_eq, e6, e7]
    rw [lp_more hs]
    have := ih (j + 1) (by omega)
    rw [Nat.pow_succ, ← Nat.div_div_eq_div_mul, hq] at this
    exact this
theorem piece_eq (r n : Nat) (hn : n ≤ 100) (hr : r < 10000000000000000000) : m_digits_piece (r : Int) 10 (n : Int) = some (bs (padN n r)) := by
  have e1 : AP.mk 1 (0 : Int) (n : Int) (n : Int) = some (List.replicate n 0) := by
    rw [mk_of (by omega)]; simp
  have e2 := piece_loop r n hn hr n 0 (by omega)
  have e2 : lp (m_digits_piece_l1 10 (n : Int)) ((r : Int), 0, List.replicate n 0) = some (i8 (padN n r)) := by
    simpa [padN, i8] using e2
  have e3 : tx (i8 (padN n r)) = bs (padN n r) := by
    by_cases h : padN n r = []
    · rw [h]; rfl
    · have := ust_i8 _ h
      unfold ust at this
      split at this
      · exact Option.some.inj this
      · cases this
  unfold m_digits_piece
  simp only [e1, bd_some, e2, e3]
theorem chunk10 : m_digits_chunk 10 = some (1000000000, 9) := by
  have h : lp (m_digits_chunk_l1 10) (10, 1) = some (1000000000, 9) := by
    rw [lp_more (s' := (100, 2)) (by rfl), lp_more (s' := (1000, 3)) (by rfl), lp_more (s' := (10000, 4)) (by rfl), lp_more (s' := (100000, 5)) (by rfl), lp_more (s' := (1000000, 6)) (by rfl), lp_more (s' := (10000000, 7)) (by rfl), lp_more (s' := (100000000, 8)) (by rfl), lp_more (s' := (1000000000, 9)) (by rfl)]
    exact lp_done (by rfl)
  unfold m_digits_chunk
  have : wu64 10 = 10 := rfl
  rw [this, h]
  rfl
/-- pieces of nine places, the lowest first -/
def pcs (x : Nat) : List (List UInt8) := if h : 0 < x then padN 9 (x % 1000000000) :: pcs (x / 1000000000) else []
termination_by x
decreasing_by exact Nat.div_lt_self h (by decide)
theorem pcs_zero : pcs 0 = [] := by rw [pcs]; rfl
theorem pcs_pos {x : Nat} (h : 0 < x) : pcs x = padN 9 (x % 1000000000) :: pcs (x / 1000000000) := by rw [pcs, dif_pos h]
theorem pcs_len : ∀ (n x : Nat), x < 1000000000 ^ n → (pcs x).length ≤ n
  | 0, x, h => by
    have : x = 0 := by simpa using h
    rw [this, pcs_zero]; simp
  | n + 1, x, h => by
    by_cases hx : 0 < x
    · rw [pcs_pos hx, List.length_cons]
      have := pcs_len n (x / 1000000000) (by rw [Nat.pow_succ] at h; exact Nat.div_lt_of_lt_mul (by rw [Nat.mul_comm]; exact h))
      omega
    · have : x = 0 := by omega
      rw [this, pcs_zero]; simp
theorem nl_nat (x : Nat) : ((nl (x : Int)).length = 0) ↔ x = 0 := by
  rw [List.length_eq_zero_iff, nl_nil (by omega)]
  omega
theorem in_l1 (x : Nat) (hl : (nl (x : Int)).length ≤ 1000000000) : ∀ Ds : List ByteArray, Ds.length + (pcs x).length ≤ 1000000000000 → lp (m_digits_In_l1 10 (1000000000, 9)) (nl (x : Int), Ds) = some (Ds ++ (pcs x).map bs) := by
  induction x using Nat.strongRecOn with
  | _ x ih =>
    intro Ds hD
    by_cases hx : 0 < x
    · have e1 : decide (0 < ((nl (x : Int)).length : Int)) = true := decide_eq_true (by
        have := nl_nat x
        omega)
      have e2 := smallD_eq (x : Int) 1000000000 (by omega) (by decide) (by decide) (by omega)
      have e3 := piece_eq (x % 1000000000) 9 (by decide) (by have := Nat.mod_lt x (show 0 < 1000000000 by decide); omega)
      have e3 : m_digits_piece ((x : Int) % 1000000000) 10 9 = some (bs (padN 9 (x % 1000000000))) := e3
      rw [pcs_pos hx] at hD ⊢
      have e4 : ap 16 Ds [bs (padN 9 (x % 1000000000))] = some (Ds ++ [bs (padN 9 (x % 1000000000))]) := ap_of (by simp at hD ⊢; omega)
      have hs : m_digits_In_l1 10 (1000000000, 9) (nl (x : Int), Ds) = some (.inl (nl ((x / 1000000000 : Nat) : Int), Ds ++ [bs (padN 9 (x % 1000000000))])) := by
        simp only [m_digits_In_l1, e1, if_true, e2, bd_some, e3, e4]
        rfl
      rw [lp_more hs, ih (x / 1000000000) (Nat.div_lt_self hx (by decide)) (Nat.le_trans (nl_mono (by omega) (by omega)) hl) _ (by simp at hD ⊢; omega)]
      simp
    · have : x = 0 := by omega
      subst this
      rw [pcs_zero]
      have : nl ((0 : Nat) : Int) = [] := nl_zero
      rw [this]
      exact lp_done (by simp [m_digits_In_l1])
theorem in_l2 (L : List (List UInt8)) (hL : L.length ≤ 1000000000000) (h9 : ∀ s ∈ L, s.length = 9) : lp (m_digits_In_l2 (L.map bs)) (0, true, []) = some (decide (L = []), i8 L.reverse.flatten) := by
  have key : ∀ (k i : Nat) (c : Bool), i + k = L.length → (c = decide (i = 0)) → lp (m_digits_In_l2 (L.map bs)) ((i : Int), c, i8 (L.reverse.take i).flatten) = some (decide (L = []), i8 L.reverse.flatten) := by
    intro k
    induction k with
    | zero =>
      intro i c hi hc
      obtain rfl : i = L.length := by omega
      have e1 : decide (((L.length : Nat) : Int) < (((L.map bs).length : Nat) : Int)) = false := decide_eq_false (by simp)
      rw [lp_done (x := (c, i8 (L.reverse.take L.length).flatten)) (by simp only [m_digits_In_l2, e1]; rfl)]
      rw [List.take_of_length_le (by simp), hc]
      congr 2
      cases L <;> simp
    | succ k ih =>
      intro i c hi hc
      have e1 : decide ((i : Int) < ((L.map bs).length : Int)) = true := decide_eq_true (by rw [List.length_map]; omega)
      have e2 : wi64 ((wi64 (((L.map bs).length : Int) - 1)) - (i : Int)) = ((L.length - 1 - i : Nat) : Int) := by
        rw [List.length_map, wi64_eq (x := (L.length : Int) - 1) (by omega) (by omega), wi64_eq (by omega) (by omega)]; omega
      have hk : L.length - 1 - i < L.length := by omega
      have e3 : rd (L.map bs) ((L.length - 1 - i : Nat) : Int) = some (bs L[L.length - 1 - i]) := by
        rw [rd_nat, List.getElem?_map, List.getElem?_eq_getElem hk]; rfl
      have hr : L.reverse[i]? = some L[L.length - 1 - i] := by
        rw [List.getElem?_reverse (by omega), List.getElem?_eq_getElem hk]
      have hlen : (L.reverse.take i).flatten.length = i * 9 := by
        have : ∀ M : List (List UInt8), (∀ s ∈ M, s.length = 9) → M.flatten.length = M.length * 9 := by
          intro M
          induction M with
          | nil => intro _; rfl
          | cons s M ih =>
            intro h
            rw [List.flatten_cons, List.length_append, h s (by simp), ih (fun t ht => h t (by simp [ht])), List.length_cons, Nat.succ_mul]
            omega
        rw [this _ (fun s hs => h9 s (List.mem_reverse.1 (List.mem_of_mem_take hs))), List.length_take, List.length_reverse, Nat.min_eq_left (by omega)]
      have h9' := h9 L[L.length - 1 - i] (List.getElem_mem _)
      have e4 := apS_i8 (L.reverse.take i).flatten L[L.length - 1 - i] (by rw [hlen, h9']; omega)
      have e5 : m_strings_Builder_copyCheck_M c (i8 (L.reverse.take i).flatten) = some false := by
        unfold m_strings_Builder_copyCheck_M
        cases c <;> rfl
      have e7 : wi64 ((i : Int) + 1) = (i : Int) + 1 := wi64_eq (by omega) (by omega)
      have hs : m_digits_In_l2 (L.map bs) ((i : Int), c, i8 (L.reverse.take i).flatten) = some (.inl ((i : Int) + 1, false, i8 (L.reverse.take (i + 1)).flatten)) := by
        rw [List.take_add_one, hr, List.flatten_append]
        simp only [Option.toList, List.flatten_cons, List.flatten_nil, List.append_nil]
        simp only [m_digits_In_l2, e1, if_true, e2, e3, bd_some, m_strings_Builder_WriteString_M, e5, e4, e7]
      rw [lp_more hs]
      have := ih (i + 1) false (by omega) (by simp)
      simpa using this
  have := key L.length 0 true (by omega) rfl
  simpa [i8] using this
/-- without noughts ahead -/
def trimL : List UInt8 → List UInt8
  | [] => []
  | x :: l => if x = 48 then trimL l else x :: l
theorem trim_loop (l : List UInt8) : lp (m_strings_trimLeftByte_l1 48) (bs l) = some (bs (trimL l)) := by
  induction l with
  | nil => exact lp_done (by rfl)
  | cons x l ih =>
    have e1 : decide (0 < (((bs (x :: l)).size : Nat) : Int)) = true := decide_eq_true (by rw [bs_size]; simp)
    have e2 : bt (bs (x :: l)) 0 = some (x.toNat : Int) := by
      unfold bt
      rw [if_pos (by rw [bs_size]; simp)]
      rfl
    have e3 : (decide ((x.toNat : Int) = 48)) = decide (x = 48) := by
      by_cases h : x = 48
      · subst h; rfl
      · rw [decide_eq_false h, decide_eq_false]
        intro h2
        apply h
        apply UInt8.toNat_inj.1
        have : x.toNat = 48 := by omega
        rw [this]; rfl
    unfold trimL
    by_cases h : x = 48
    · have e4 : cs (bs (x :: l)) 1 ((bs (x :: l)).size : Int) = some (bs l) := by
        unfold cs
        rw [if_pos (by rw [bs_size]; simp; omega)]
        congr 1
        apply ByteArray.ext
        apply Array.toList_inj.1
        rw [ByteArray.data_extract, Array.toList_extract]
        simp [bs, ByteArray.size]
      rw [lp_more (s' := bs l) (by simp only [m_strings_trimLeftByte_l1, e1, if_true, e2, bd_some, e3, decide_eq_true h, e4]), if_pos h]
      exact ih
    · rw [if_neg h]
      exact lp_done (by simp only [m_strings_trimLeftByte_l1, e1, if_true, e2, bd_some, e3, decide_eq_false h, Bool.false_eq_true, if_false])
theorem trimLeft_eq (l : List UInt8) : m_strings_TrimLeft (bs l) (bs [48]) = some (bs (trimL l)) := by
  unfold m_strings_TrimLeft
  by_cases h : l = []
  · subst h; simp only [sq_self, if_true, bd_some]; rfl
  · have e1 : sq (bs l) (bs []) = false := by rw [sq_bs]; exact decide_eq_false h
    have e2 : sq (bs [48]) (bs []) = false := by rw [sq_bs]; rfl
    have e3 : bt (bs [48]) 0 = some 48 := rfl
    have e4 : decide (((bs [48]).size : Int) = 1) = true := rfl
    have e5 : m_strings_trimLeftByte (bs l) 48 = some (bs (trimL l)) := by
      unfold m_strings_trimLeftByte
      rw [trim_loop]; rfl
    simp only [e1, Bool.false_eq_true, if_false, e2, bd_some, e4, if_true, e3, e5]
    rfl
theorem trimL_pad : ∀ (n r : Nat), 0 < r → r < 10 ^ n → trimL (padN n r) = Lib.decDigits r
  | 0, r, h0, h1 => by simp at h1; omega
  | n + 1, r, h0, h1 => by
    have key : ∀ (l : List UInt8) (d : UInt8), trimL (l ++ [d]) = if trimL l = [] then trimL [d] else trimL l ++ [d] := by
      intro l d
      induction l with
      | nil => simp [trimL]
      | cons x l ih =>
        show (if x = 48 then trimL (l ++ [d]) else x :: (l ++ [d])) = _
        by_cases h : x = 48
        · rw [if_pos h, ih]
          have : trimL (x :: l) = trimL l := by show (if x = 48 then trimL l else x :: l) = _; rw [if_pos h]
          rw [this]
        · have : trimL (x :: l) = x :: l := by show (if x = 48 then trimL l else x :: l) = _; rw [if_neg h]
          rw [this, if_neg h, if_neg (by simp)]
          rfl
    rw [padN, key]
    by_cases hb : r < 10
    · have h10 : r / 10 = 0 := by omega
      have hz : ∀ m, trimL (padN m 0) = [] := by
        intro m
        induction m with
        | zero => rfl
        | succ m ih => rw [padN_cons]; show (if _ = (48 : UInt8) then _ else _) = _; rw [if_pos (by simp)]; exact ih
      rw [h10, hz, if_pos rfl, Lib.decDigits, dif_pos hb, Nat.mod_eq_of_lt hb]
      show (if UInt8.ofNat (48 + r) = (48 : UInt8) then trimL [] else [UInt8.ofNat (48 + r)]) = _
      rw [if_neg]
      intro h
      have h2 := congrArg UInt8.toNat h
      rw [UInt8.toNat_ofNat', Nat.mod_eq_of_lt (by omega)] at h2
      have : (48 : UInt8).toNat = 48 := rfl
      omega
    · rw [trimL_pad n (r / 10) (by omega) (by rw [Nat.pow_succ] at h1; exact Nat.div_lt_of_lt_mul (by rw [Nat.mul_comm]; exact h1))]
      have hne : Lib.decDigits (r / 10) ≠ [] := by
        intro h
        have h2 := Lib.decDigits_length (r / 10)
        rw [h] at h2
        have := Lib.nDigits_pos (r / 10)
        simp at h2; omega
      rw [if_neg hne]
      conv => rhs; rw [Lib.decDigits, dif_neg hb]
theorem padN_split : ∀ (m n r : Nat), padN (n + m) r = padN n (r / 10 ^ m) ++ padN m (r % 10 ^ m)
  | 0, n, r => by simp [padN]
  | m + 1, n, r => by
    show padN (n + m + 1) r = _
    rw [padN, padN_split m n (r / 10), padN, List.append_assoc]
    have e1 : r / 10 / 10 ^ m = r / 10 ^ (m + 1) := by rw [Nat.div_div_eq_div_mul, Nat.pow_succ, Nat.mul_comm 10]
    have e2 : r / 10 % 10 ^ m = r % 10 ^ (m + 1) / 10 := by
      rw [Nat.pow_succ, Nat.mul_comm, Nat.mod_mul_right_div_self]
    have e3 : r % 10 = r % 10 ^ (m + 1) % 10 := by rw [Nat.pow_succ, Nat.mul_comm, Nat.mod_mul_right_mod]
    rw [e1, e2, e3]
theorem pcs_pad : ∀ (x : Nat), (pcs x).reverse.flatten = padN (9 * (pcs x).length) x := by
  intro x
  induction x using Nat.strongRecOn with
  | _ x ih =>
    by_cases hx : 0 < x
    · rw [pcs_pos hx, List.reverse_cons, List.flatten_append, ih (x / 1000000000) (Nat.div_lt_self hx (by decide)), List.length_cons]
      have := padN_split 9 (9 * (pcs (x / 1000000000)).length) x
      rw [show 9 * ((pcs (x / 1000000000)).length + 1) = 9 * (pcs (x / 1000000000)).length + 9 by omega, this]
      simp
    · have : x = 0 := by omega
      subst this
      rw [pcs_zero]; rfl
theorem pcs_lt : ∀ (x : Nat), x < 10 ^ (9 * (pcs x).length) := by
  intro x
  induction x using Nat.strongRecOn with
  | _ x ih =>
    by_cases hx : 0 < x
    · have := ih (x / 1000000000) (Nat.div_lt_self hx (by decide))
      rw [pcs_pos hx, List.length_cons, show 9 * ((pcs (x / 1000000000)).length + 1) = 9 * (pcs (x / 1000000000)).length + 9 by omega, Nat.pow_add]
      have h2 : x < (x / 1000000000 + 1) * 1000000000 := by omega
      exact Nat.lt_of_lt_of_le h2 (Nat.mul_le_mul_right 1000000000 this)
    · have : x = 0 := by omega
      subst this
      exact Nat.pow_pos (by decide)
theorem digitsPrint_eq (x : Nat) (hl : (nl (x : Int)).length ≤ 1000000000) : m_digits_Print (nl (x : Int)) = some (bs (Lib.decDigits x)) := by
  have hpl : (pcs x).length ≤ 1000000000000 := by
    have h1 : x < 1000000000 ^ (2 * (nl (x : Int)).length) := by
      have h2 := dv_lt (B := (4294967296 : Int)) (by decide) (nl_can (x : Int)).1
      rw [nl_dv (by omega)] at h2
      have h3 : (4294967296 : Int) ^ (nl (x : Int)).length ≤ (1000000000 : Int) ^ (2 * (nl (x : Int)).length) := by
        rw [Int.pow_mul]; exact pow_le (by decide) (by decide) _
      have h4 : (x : Int) < (((1000000000 ^ (2 * (nl (x : Int)).length) : Nat)) : Int) := by
        rw [Int.natCast_pow]
        exact Int.lt_of_lt_of_le h2 h3
      omega
    have := pcs_len _ x h1
    omega
  have h9 : ∀ s ∈ pcs x, s.length = 9 := by
    have : ∀ x, ∀ s ∈ pcs x, s.length = 9 := by
      intro x
      induction x using Nat.strongRecOn with
      | _ x ih =>
        intro s hs
        by_cases hx : 0 < x
        · rw [pcs_pos hx] at hs
          rcases List.mem_cons.1 hs with rfl | hs
          · exact padN_len 9 _
          · exact ih (x / 1000000000) (Nat.div_lt_self hx (by decide)) s hs
        · have : x = 0 := by omega
          subst this
          rw [pcs_zero] at hs; cases hs
    exact this x
  have e0 : m_digits_based 10 = some 0 := rfl
  have e1 := make_nl (x : Int) (by omega)
  have e2 := in_l1 x hl [] (by simp; omega)
  have e3 := in_l2 (pcs x) hpl h9
  have e5 : m_strings_Builder_String_M (decide (pcs x = [])) (i8 (pcs x).reverse.flatten) = some (bs (pcs x).reverse.flatten) := by
    unfold m_strings_Builder_String_M
    by_cases h : (pcs x).reverse.flatten = []
    · rw [h]; rfl
    · have hz : (i8 (pcs x).reverse.flatten).length ≠ 0 := by
        unfold i8; rw [List.length_map]; intro h0; exact h (List.length_eq_zero_iff.1 h0)
      rw [decide_eq_false hz, ust_i8 _ h]; rfl
  have e6 := trimLeft_eq (pcs x).reverse.flatten
  unfold m_digits_Print m_digits_In
  rw [List.nil_append] at e2
  simp only [e0, bd_some, decide_true, Bool.not_true, Bool.false_eq_true, if_false, chunk10, e1, e2, e3, e5, e6, sq_bs]
  by_cases hx : 0 < x
  · have h7 : trimL (pcs x).reverse.flatten = Lib.decDigits x := by rw [pcs_pad]; exact trimL_pad _ x hx (pcs_lt x)
    have hne : Lib.decDigits x ≠ [] := by
      intro h
      have h2 := Lib.decDigits_length x
      rw [h] at h2
      have := Lib.nDigits_pos x
      simp at h2; omega
    rw [h7, decide_eq_false hne]
    rfl
  · have : x = 0 := by omega
    subst this
    rw [pcs_zero]
    have : Lib.decDigits 0 = [48] := by rw [Lib.decDigits, dif_pos (by decide)]; rfl
    rw [this]
    rfl
end Go.Proofs.YtkjkipkfndckfaaGreatDoor.AP
/- Numbers and fractions printed, by both. -/
namespace Go.Proofs.YtkjkipkfndckfaaGreatDoor.AP
open Go Go.Proofs.YtkjkipkfndckfaaGreatDoor.Tri
set_option linter.unusedVariables false
set_option linter.unusedSimpArgs false
theorem nd_pow : ∀ (j n : Nat), n < 10 ^ (j + 1) → Lib.nDigits n ≤ j + 1
  | 0, n, hn => by rw [Lib.nDigits_small (by simpa using hn)]; omega
  | j + 1, n, hn => by
    by_cases h : n < 10
    · rw [Lib.nDigits_small h]; omega
    · rw [Lib.nDigits_big h]
      have := nd_pow j (n / 10) (by rw [Nat.pow_succ] at hn; omega)
      omega
theorem nd_zl (x : Nat) : Lib.nDigits x ≤ 4 * (zl (x : Int)).length + 1 := by
  apply nd_pow
  have h2 := dv_lt (B := (10000 : Int)) (by decide) (zl_can (x : Int)).1
  rw [zl_dv (by omega)] at h2
  have h3 : ((10000 : Int) ^ (zl (x : Int)).length) = (((10 ^ (4 * (zl (x : Int)).length) : Nat)) : Int) := by
    rw [Int.natCast_pow, Int.pow_mul]
    rfl
  rw [h3] at h2
  have h4 : (10 : Nat) ^ (4 * (zl (x : Int)).length) ≤ 10 ^ (4 * (zl (x : Int)).length + 1) := Nat.pow_le_pow_right (by decide) (by omega)
  omega
theorem dd_len (x : Nat) : (Lib.decDigits x).length ≤ 4 * (zl (x : Int)).length + 1 := by rw [Lib.decDigits_length]; exact nd_zl x
theorem i8_cons (d : Nat) (h : d < 10) (l : List UInt8) : wu8 (wi64 (48 + (d : Int))) :: i8 l = i8 (UInt8.ofNat (48 + d) :: l) := by
  show _ = ((UInt8.ofNat (48 + d)).toNat : Int) :: i8 l
  congr 1
  rw [UInt8.toNat_ofNat', Nat.mod_eq_of_lt (show 48 + d < 2 ^ 8 by omega), wi64_eq (by omega) (by omega), wu8_eq (by omega) (by omega)]
  omega
theorem refText_loop (x : Nat) (hl : (zl (x : Int)).length ≤ 1000000000) : ∀ acc : List UInt8, acc.length + Lib.nDigits x ≤ 100000000000 → 0 < x → lp m_triviumref02_Text_l1 (zl (x : Int), i8 acc) = some (i8 (Lib.decDigits x ++ acc)) := by
  induction x using Nat.strongRecOn with
  | _ x ih =>
    intro acc ha hx
    have hnd := Lib.nDigits_pos x
    have e1 : decide (0 < ((zl (x : Int)).length : Int)) = true := decide_eq_true (by
      have : (zl (x : Int)).length ≠ 0 := by
        intro h
        have := (zl_nil (x := (x : Int)) (by omega)).1 (List.length_eq_zero_iff.1 h)
        omega
      omega)
    have e2 := refDivSmall_eq (x : Int) 10 (by omega) (by decide) (by decide) (by omega)
    have e3 : ((x : Int) % 10) = ((x % 10 : Nat) : Int) := by omega
    have e4 : ((x : Int) / 10) = ((x / 10 : Nat) : Int) := by omega
    rw [e3, e4] at e2
    have e5 : ap 1 [wu8 (wi64 (48 + ((x % 10 : Nat) : Int)))] (i8 acc) = some (i8 (UInt8.ofNat (48 + x % 10) :: acc)) := by
      rw [ap_of (by unfold i8; simp; omega)]
      congr 1
      exact i8_cons (x % 10) (Nat.mod_lt _ (by decide)) acc
    have hs : m_triviumref02_Text_l1 (zl (x : Int), i8 acc) = some (.inl (zl ((x / 10 : Nat) : Int), i8 (UInt8.ofNat (48 + x % 10) :: acc))) := by
      simp only [m_triviumref02_Text_l1, e1, if_true, e2, bd_some, e5]
    rw [lp_more hs]
    by_cases h : x < 10
    · have h0 : x / 10 = 0 := by omega
      have h1 : x % 10 = x := by omega
      rw [h0, h1]
      have hz : zl ((0 : Nat) : Int) = [] := zl_zero
      rw [hz, lp_done (x := i8 (UInt8.ofNat (48 + x) :: acc)) (by simp [m_triviumref02_Text_l1]), Lib.decDigits, dif_pos h]
      rfl
    · have h4 := Lib.nDigits_big h
      rw [ih (x / 10) (by omega) (Nat.le_trans (zl_mono (by omega) (by omega)) hl) _ (by simp; omega) (by omega)]
      conv => rhs; rw [Lib.decDigits, dif_neg h]
      simp
theorem tx_i8 (l : List UInt8) : tx (i8 l) = bs l := by
  by_cases h : l = []
  · rw [h]; rfl
  · have := ust_i8 _ h
    unfold ust at this
    split at this
    · exact Option.some.inj this
    · cases this
theorem refText_eq2 (x : Nat) (hl : (zl (x : Int)).length ≤ 1000000000) : m_triviumref02_Text (zl (x : Int)) = some (bs (Lib.decDigits x)) := by
  unfold m_triviumref02_Text
  by_cases hx : 0 < x
  · have e1 : decide (((zl (x : Int)).length : Int) = 0) = false := decide_eq_false (by
      intro h
      have := (zl_nil (x := (x : Int)) (by omega)).1 (List.length_eq_zero_iff.1 (by omega))
      omega)
    have e2 := refText_loop x hl [] (by have := nd_zl x; simp; omega) hx
    rw [List.append_nil] at e2
    have e2 : lp m_triviumref02_Text_l1 (zl (x : Int), []) = some (i8 (Lib.decDigits x)) := e2
    rw [e1]
    simp only [Bool.false_eq_true, if_false, e2, bd_some, tx_i8]
  · have : x = 0 := by omega
    subst this
    have hz : zl ((0 : Nat) : Int) = [] := zl_zero
    rw [hz, Lib.decDigits, dif_pos (by decide)]
    rfl
/-- a number with its sign -/
def zsL (a : Int) : List UInt8 := if a < 0 then 45 :: Lib.decDigits a.natAbs else Lib.decDigits a.natAbs
theorem zsL_len (a : Int) : (zsL a).length ≤ 4 * (zl (a.natAbs : Int)).length + 2 := by
  have := dd_len a.natAbs
  unfold zsL
  split
  · rw [List.length_cons]; omega
  · omega
theorem wholePrint_eq (a : Int) (hl : (zl (a.natAbs : Int)).length ≤ 100000000) : m_whole_Print (zI a) = some (bs (zsL a)) := by
  have h1 := digitsPrint_eq a.natAbs (by have := nl_zl_len (x := (a.natAbs : Int)) (by omega); omega)
  have h2 := dd_len a.natAbs
  have c := cat_bs (a := [45]) (b := Lib.decDigits a.natAbs) (by simp; omega)
  unfold m_whole_Print zI zsL
  by_cases h : a < 0
  · simp only [decide_eq_true h, if_true, h1, bd_some, c, if_pos h]
    rfl
  · simp only [decide_eq_false h, Bool.false_eq_true, if_false, h1, bd_some, if_neg h]
theorem ref07Print_eq (a : Int) (hl : (zl (a.natAbs : Int)).length ≤ 100000000) : m_triviumref07_Print (zZ a) = some (bs (zsL a)) := by
  have h1 := refText_eq2 a.natAbs (by omega)
  have h2 := dd_len a.natAbs
  have c := cat_bs (a := [45]) (b := Lib.decDigits a.natAbs) (by simp; omega)
  unfold m_triviumref07_Print zZ zsL
  by_cases h : a < 0
  · simp only [decide_eq_true h, if_true, h1, bd_some, c, if_pos h]
    rfl
  · simp only [decide_eq_false h, Bool.false_eq_true, if_false, h1, bd_some, if_neg h]
theorem sg_ne {b : Int} (h : ¬ b = 1) : ¬ sg (b - 1) = 0 := by
  unfold sg
  split
  · decide
  · split <;> omega
/-- a fraction -/
def rtL (a b : Int) : List UInt8 := if b = 1 then zsL a else zsL a ++ 47 :: Lib.decDigits b.toNat
theorem rtL_len (a b : Int) (hb : 0 ≤ b) : (rtL a b).length ≤ 4 * (zl (a.natAbs : Int)).length + 4 * (zl b).length + 10 := by
  have h1 := zsL_len a
  have h2 := dd_len b.toNat
  have e : ((b.toNat : Nat) : Int) = b := by omega
  rw [e] at h2
  unfold rtL
  split
  · omega
  · rw [List.length_append, List.length_cons]; omega
theorem one_nl : m_nat_Of 1 = some (nl 1) := natOf_eq 1 (by decide) (by decide)
theorem ratioPrint_eq (a b : Int) (hb : 0 ≤ b) (hla : (zl (a.natAbs : Int)).length ≤ 100000000) (hlb : (zl b).length ≤ 100000000) : m_ratio_Print (rI a b) = some (bs (rtL a b)) := by
  have h1 := wholePrint_eq a hla
  have h2 := zsL_len a
  have h3 := digitsPrint_eq b.toNat (by
    have e : ((b.toNat : Nat) : Int) = b := by omega
    rw [e]; have := nl_zl_len (x := b) hb; omega)
  have h4 := dd_len b.toNat
  have e : ((b.toNat : Nat) : Int) = b := by omega
  rw [e] at h3 h4
  have h5 := cmpN_eq b 1 hb (by decide) (by have := nl_zl_len (x := b) hb; omega)
  have c1 := cat_bs (a := zsL a) (b := [47]) (by simp; omega)
  have c2 := cat_bs (a := zsL a ++ [47]) (b := Lib.decDigits b.toNat) (by rw [List.length_append]; simp; omega)
  have h1 : m_whole_Print ((zI a).1, (zI a).2) = some (bs (zsL a)) := h1
  unfold m_ratio_Print rI rtL
  by_cases hb1 : b = 1
  · have : sg (b - 1) = 0 := by rw [hb1]; rfl
    simp only [h1, bd_some, one_nl, h5, this, decide_true, if_true, if_pos hb1]
  · have : ¬ sg (b - 1) = 0 := sg_ne hb1
    simp only [h1, bd_some, one_nl, h5, decide_eq_false this, Bool.false_eq_true, if_false, c1, h3, c2, if_neg hb1]
    simp
theorem ref_one : m_triviumref02_Num 1 = some (zl 1) := by
  have := mulAdd_eq 0 1 1 (by decide) (by decide) (by decide) (by decide) (by decide) (by rw [zl_zero]; decide)
  rw [zl_zero] at this
  unfold m_triviumref02_Num
  rw [this]
  rfl
theorem ref09Print_eq (a b : Int) (hb : 0 ≤ b) (hla : (zl (a.natAbs : Int)).length ≤ 100000000) (hlb : (zl b).length ≤ 100000000) : m_triviumref09_Print (rQ a b) = some (bs (rtL a b)) := by
  have h1 := ref07Print_eq a hla
  have h2 := zsL_len a
  have e : ((b.toNat : Nat) : Int) = b := by omega
  have h3 := refText_eq2 b.toNat (by rw [e]; omega)
  have h4 := dd_len b.toNat
  rw [e] at h3 h4
  have h5 := refCmp_eq b 1 hb (by decide) (by omega)
  have c1 := cat_bs (a := zsL a) (b := [47]) (by simp; omega)
  have c2 := cat_bs (a := zsL a ++ [47]) (b := Lib.decDigits b.toNat) (by rw [List.length_append]; simp; omega)
  have h1 : m_triviumref07_Print ((zZ a).1, (zZ a).2) = some (bs (zsL a)) := h1
  unfold m_triviumref09_Print rQ rtL
  by_cases hb1 : b = 1
  · have : sg (b - 1) = 0 := by rw [hb1]; rfl
    simp only [h1, bd_some, ref_one, h5, this, decide_true, if_true, if_pos hb1]
  · have : ¬ sg (b - 1) = 0 := sg_ne hb1
    simp only [h1, bd_some, ref_one, h5, decide_eq_false this, Bool.false_eq_true, if_false, c1, h3, c2, if_neg hb1]
    simp
end Go.Proofs.YtkjkipkfndckfaaGreatDoor.AP
/- WholeAdds: the chapter's example; the plain law. -/
namespace Go.Proofs.YtkjkipkfndckfaaGreatDoor.AP
open Go Go.Proofs.YtkjkipkfndckfaaGreatDoor.Tri
set_option linter.unusedVariables false
set_option linter.unusedSimpArgs false
end Go.Proofs.YtkjkipkfndckfaaGreatDoor.AP
namespace Go.Proofs.YtkjkipkfndckfaaGreatDoor.Pure
open Go Go.Proofs.YtkjkipkfndckfaaGreatDoor.AP Go.Proofs.YtkjkipkfndckfaaGreatDoor.AE
theorem u64lim {l : List Int} (h : Ty.ok (.sl (.int .u64)) l) : Limbs l := fun x hx => by
  obtain ⟨i, hi⟩ := List.getElem?_of_mem hx
  have h : (decide (IntKind.u64.min ≤ x) && decide (x ≤ IntKind.u64.max)) = true := h.2 i x hi
  rw [Bool.and_eq_true, decide_eq_true_eq, decide_eq_true_eq] at h
  exact ⟨h.1, Int.lt_add_one_of_le h.2⟩
end Go.Proofs.YtkjkipkfndckfaaGreatDoor.Pure
/- Floors, of the program and of the document; the plain laws of divisions and of the ring. -/
namespace Go.Proofs.YtkjkipkfndckfaaGreatDoor.AP
open Go Go.Proofs.YtkjkipkfndckfaaGreatDoor.Tri
set_option linter.unusedVariables false
set_option linter.unusedSimpArgs false
/-- apart: the signs are not the same, and something is left -/
def fgo (a b : Int) : Bool := !(decide (a < 0) == decide (b < 0)) && decide (0 < (a.natAbs : Int) % (b.natAbs : Int))
/-- the floor's quotient, and rest: sizes -/
def fA (a b : Int) : Int := if fgo a b then (a.natAbs : Int) / (b.natAbs : Int) + 1 else (a.natAbs : Int) / (b.natAbs : Int)
def fR (a b : Int) : Int := if fgo a b then (b.natAbs : Int) - (a.natAbs : Int) % (b.natAbs : Int) else (a.natAbs : Int) % (b.natAbs : Int)
def fq (a b : Int) : Int := if (!(decide (a < 0) == decide (b < 0))) = true then -fA a b else fA a b
end Go.Proofs.YtkjkipkfndckfaaGreatDoor.AP
/- Digits read, by ten: the program's way and the document's. -/
namespace Go.Proofs.YtkjkipkfndckfaaGreatDoor.AP
open Go Go.Proofs.YtkjkipkfndckfaaGreatDoor.Tri
set_option linter.unusedVariables false
set_option linter.unusedSimpArgs false
set_option maxRecDepth 4000
/-! texts, by bytes -/
theorem cs_bs (l : List UInt8) (a b : Nat) (h : a ≤ b) (hb : b ≤ l.length) : cs (bs l) (a : Int) (b : Int) = some (bs ((l.take b).drop a)) := by
  unfold cs
  rw [if_pos ⟨by omega, by omega, by show (b : Int) ≤ (l.length : Int); omega⟩, Int.toNat_natCast, Int.toNat_natCast]
  congr 1
  apply ByteArray.ext
  apply Array.ext'
  rw [ByteArray.data_extract, Array.toList_extract]
  show (List.extract l a b) = _
  rw [List.extract_eq_take_drop, List.drop_take]
  rfl
/-! runes -/
/-! what a text says -/
def dgt (c : UInt8) : Option Nat := if 48 ≤ c.toNat ∧ c.toNat ≤ 57 then some (c.toNat - 48) else none
def rdN : List UInt8 → Nat → Option Nat
  | [], v => some v
  | c :: l, v => match dgt c with
    | none => none
    | some d => rdN l (v * 10 + d)
def rd10 (l : List UInt8) : Option Nat := if l = [] then none else rdN l 0
/-! a limb's multiple -/
/-- how a number that is read is told -/
def tld (o : Option Nat) : List Int × Int := match o with | some v => (nl (v : Int), 0) | none => ([], 5)
end Go.Proofs.YtkjkipkfndckfaaGreatDoor.AP
/- Fractions of the program: the greatest divisor of any numbers, lowest terms, powers. -/
namespace Go.Proofs.YtkjkipkfndckfaaGreatDoor.AP
open Go Go.Proofs.YtkjkipkfndckfaaGreatDoor.Tri
set_option linter.unusedVariables false
set_option linter.unusedSimpArgs false
theorem gcdN_eq (x y : Int) (hx : 0 ≤ x) (hy : 0 ≤ y) (hlx : (nl x).length ≤ 1000000) (hly : (nl y).length ≤ 1000000) : m_gcd_Euclid (nl x) (nl y) = some (nl (Int.gcd x y)) := by
  have main : ∀ (n : Nat) (x y : Int), y.toNat ≤ n → 0 ≤ x → 0 ≤ y → (nl x).length ≤ 1000000 → (nl y).length ≤ 1000000 → lp m_gcd_Euclid_l1 (nl x, nl y) = some (nl (Int.gcd x y)) := by
    intro n
    induction n with
    | zero =>
      intro x y hn hx hy hlx hly
      obtain rfl : y = 0 := by omega
      have hxx : ((Int.gcd x 0 : Nat) : Int) = x := by rw [Int.gcd_zero_right]; omega
      have e : m_gcd_Euclid_l1 (nl x, nl 0) = some (.inr (nl x)) := by simp [m_gcd_Euclid_l1, nl_zero]
      rw [lp_done e, hxx]
    | succ n ih =>
      intro x y hn hx hy hlx hly
      by_cases h0 : y = 0
      · exact ih x y (by omega) hx hy hlx hly
      · have hpos : 0 < y := by omega
        have hne : nl y ≠ [] := fun h => h0 ((nl_nil hy).1 h)
        have hlen : 0 < (nl y).length := List.length_pos_iff.2 hne
        have h2 := Int.emod_lt_of_pos x hpos
        have h3 := Int.emod_nonneg x (show y ≠ 0 by omega)
        have h4 := nl_mono h3 (Int.le_of_lt h2)
        have e : m_gcd_Euclid_l1 (nl x, nl y) = some (.inl (nl y, nl (x % y))) := by
          simp only [m_gcd_Euclid_l1, m_divide_Mod, decide_eq_true (show (0 : Int) < ((nl y).length : Int) by omega), if_true, div_eq x y hx hpos (by omega) (by omega), bd_some]
        rw [lp_more e, ih y (x % y) (by omega) hy h3 (by omega) (by omega), gcd_mod x y hx]
  unfold m_gcd_Euclid
  rw [make_nl x (by omega), bd_some, make_nl y (by omega), bd_some]
  dsimp only
  rw [main y.toNat x y (Nat.le_refl _) hx hy hlx hly, bd_some]
theorem exactN_eq (x y : Int) (hx : 0 ≤ x) (hy : 0 < y) (hd : x % y = 0) (hl : (nl x).length ≤ 1000000) (hl2 : (nl y).length ≤ 1000000) : m_divide_Exact (nl x) (nl y) = some (nl (x / y), 0) := by
  unfold m_divide_Exact
  rw [div_eq x y hx hy (by omega) (by omega), bd_some]
  dsimp only
  rw [if_neg (show ¬ (!decide ((0 : Int) = 0)) = true by decide), hd, nl_zero, if_neg (show ¬ decide ((0 : Int) < (([] : List Int).length : Int)) = true by decide)]
theorem zI_of_nonneg {x : Int} (h : 0 ≤ x) : zI x = (false, nl x) := by
  unfold zI; rw [decide_eq_false (by omega), show ((x.natAbs : Nat) : Int) = x by omega]
theorem rLow_eq {n : Nat} (a b : Int) (hb : 0 < b) (ha : Lm n a) (hbl : Lm n b) (hn : n ≤ 100000) : m_rat_low (zI a) (nl b) = some (rI (a / Int.gcd a b) (b / Int.gcd a b)) := by
  have la := ha.len
  have lb := hbl.len' (by omega)
  have hg : 0 < (Int.gcd a b : Int) := by
    have := Int.gcd_pos_of_ne_zero_right a (show b ≠ 0 by omega); omega
  have hga : Int.gcd (a.natAbs : Int) b = Int.gcd a b := gcd_abs a b
  have d1 : (Int.gcd a b : Int) ∣ (a.natAbs : Int) := by rw [← hga]; exact Int.gcd_dvd_left _ _
  have d2 : (Int.gcd a b : Int) ∣ b := Int.gcd_dvd_right a b
  have d0 : (Int.gcd a b : Int) ∣ a := Int.gcd_dvd_left a b
  have lg : (nl (Int.gcd a b : Int)).length ≤ n := by
    have h := Int.le_of_dvd hb d2
    have := nl_mono (x := (Int.gcd a b : Int)) (by omega) h
    omega
  have hq0 : 0 ≤ (a.natAbs : Int) / (Int.gcd a b : Int) := Int.ediv_nonneg (by omega) (by omega)
  have hq1 : (a.natAbs : Int) / (Int.gcd a b : Int) ≤ (a.natAbs : Int) := Int.ediv_le_self _ (by omega)
  have lq := nl_mono hq0 hq1
  unfold m_rat_low
  show bd (m_gcd_Euclid (nl (a.natAbs : Int)) (nl b)) _ = _
  rw [gcdN_eq _ b (by omega) (by omega) (by omega) (by omega), bd_some, hga]
  show bd (m_divide_Exact (nl (a.natAbs : Int)) (nl (Int.gcd a b : Int))) _ = _
  rw [exactN_eq _ _ (by omega) hg (Int.emod_eq_zero_of_dvd d1) (by omega) (by omega), bd_some, exactN_eq _ _ (by omega) hg (Int.emod_eq_zero_of_dvd d2) (by omega) (by omega), bd_some]
  dsimp only
  show bd (m_whole_Made (decide (a < 0)) (nl ((a.natAbs : Int) / (Int.gcd a b : Int)))) _ = _
  rw [wMade_eq _ _ hq0 (by omega), bd_some]
  have e : (if decide (a < 0) = true then -((a.natAbs : Int) / (Int.gcd a b : Int)) else (a.natAbs : Int) / (Int.gcd a b : Int)) = a / (Int.gcd a b : Int) := by
    by_cases h : a < 0
    · rw [if_pos (decide_eq_true h), show (a.natAbs : Int) = -a by omega, Int.neg_ediv_of_dvd d0, Int.neg_neg]
    · rw [if_neg (by simpa using h), show (a.natAbs : Int) = a by omega]
  rw [e]
  rfl
theorem rMake_eq {n : Nat} (a b : Int) (hb : 0 < b) (ha : Lm n a) (hbl : Lm n b) (hn : n ≤ 100000) : m_rat_Make (zI a) (zI b) = some (rI (a / Int.gcd a b) (b / Int.gcd a b), 0) := by
  have la := ha.len
  have hz := zI_of_nonneg (x := b) (by omega)
  unfold m_rat_Make
  show bd (m_whole_Sign (zI b)) _ = _
  rw [wSign_eq, bd_some, if_neg (by rw [decide_eq_true_eq]; unfold sg; rw [if_neg (by omega), if_pos hb]; decide)]
  show bd (m_whole_Made (!(decide (a < 0) == (zI b).1)) (nl (a.natAbs : Int))) _ = _
  rw [hz, wMade_eq _ _ (by omega) (by omega), bd_some]
  have e : (if (!(decide (a < 0) == false)) = true then -(a.natAbs : Int) else (a.natAbs : Int)) = a := by
    by_cases h : a < 0
    · rw [decide_eq_true h]; simp; omega
    · rw [decide_eq_false h]; simp; omega
  rw [e, rLow_eq a b hb ha hbl hn, bd_some]
/-! powers -/
end Go.Proofs.YtkjkipkfndckfaaGreatDoor.AP
/- Masks and prefixes, plain. -/
namespace Go.Proofs.YtkjkipkfndckfaaGreatDoor.AP
open Go
set_option linter.unusedVariables false
set_option linter.unusedSimpArgs false
/-- how many addresses begin with the same n bits -/
def S32 (n : Int) : Int := 2 ^ (32 - n).toNat

theorem S32_pos (n : Int) : 0 < S32 n := Int.pow_pos (by decide)
theorem S32_le (n : Int) (h : 0 ≤ n) : S32 n ≤ 4294967296 := by
  have h1 : (32 - n).toNat ≤ 32 := by omega
  obtain ⟨d, hd⟩ := Nat.exists_eq_add_of_le h1
  have h2 : (4294967296 : Int) = 2 ^ (32 - n).toNat * 2 ^ d := by rw [← Int.pow_add, ← hd]; decide
  have h3 : (1 : Int) ≤ 2 ^ d := by have : (0 : Int) < 2 ^ d := Int.pow_pos (by decide); omega
  have h4 : (0 : Int) < 2 ^ (32 - n).toNat := Int.pow_pos (by decide)
  unfold S32
  rw [h2]
  have := Int.mul_le_mul_of_nonneg_left h3 (Int.le_of_lt h4)
  omega
theorem S32_nat (n : Int) : S32 n = ((2 ^ (32 - n).toNat : Nat) : Int) := by unfold S32; simp

theorem bits_andNot_mask (a n : Int) (ha0 : 0 ≤ a) (ha : a < 4294967296) (h0 : 0 ≤ n) : Go.bits .andNot .u32 a (4294967296 - S32 n) = a % S32 n := by
  have hS := S32_le n h0
  have hp := S32_pos n
  rw [u32_andNot a _ ha0 ha (by omega) (by omega)]
  obtain ⟨x, rfl⟩ := Int.eq_ofNat_of_zero_le ha0
  have e2 : 4294967295 - (4294967296 - S32 n).toNat = 2 ^ (32 - n).toNat - 1 := by
    rw [S32_nat] at hS hp ⊢; omega
  rw [e2, Int.toNat_natCast, Nat.and_two_pow_sub_one_eq_mod, S32_nat]
  simp

theorem mask_eq (n : Int) (h0 : 0 ≤ n) (h1 : n ≤ 32) : m_addr_Mask n = some (4294967296 - S32 n) := by
  have key : ∀ m : Int, 0 ≤ m → m ≤ 32 → (IntKind.u64.wrap (4294967295 * 2 ^ (min (32 - m).toNat IntKind.u64.bits))) % 4294967296 = 4294967296 - S32 m := by
    intro m h0 h1
    have h2 : m = 0 ∨ m = 1 ∨ m = 2 ∨ m = 3 ∨ m = 4 ∨ m = 5 ∨ m = 6 ∨ m = 7 ∨ m = 8 ∨ m = 9 ∨ m = 10 ∨ m = 11 ∨ m = 12 ∨ m = 13 ∨ m = 14 ∨ m = 15 ∨ m = 16 ∨ m = 17 ∨ m = 18 ∨ m = 19 ∨ m = 20 ∨ m = 21 ∨ m = 22 ∨ m = 23 ∨ m = 24 ∨ m = 25 ∨ m = 26 ∨ m = 27 ∨ m = 28 ∨ m = 29 ∨ m = 30 ∨ m = 31 ∨ m = 32 := by omega
    unfold S32
    rcases h2 with rfl | rfl | rfl | rfl | rfl | rfl | rfl | rfl | rfl | rfl | rfl | rfl | rfl | rfl | rfl | rfl | rfl | rfl | rfl | rfl | rfl | rfl | rfl | rfl | rfl | rfl | rfl | rfl | rfl | rfl | rfl | rfl | rfl <;> decide
  unfold m_addr_Mask
  rw [Int.max_eq_left h0, Int.min_eq_left h1, wi64_eq (by omega) (by omega)]
  unfold sh
  rw [if_pos (by omega), bd_some, wu32_mod, key n h0 h1]
/-- may a prefix be? -/
def mayP (p : D_api_Prefix) : Bool := decide (0 ≤ p.2) && decide (p.2 ≤ 32) && decide (p.1 % S32 p.2 = 0)
theorem may_eq (p : D_api_Prefix) (h0 : 0 ≤ p.1) (h1 : p.1 < 4294967296) : m_addr_May p = some (mayP p) := by
  unfold m_addr_May mayP
  by_cases a : 0 ≤ p.2
  · by_cases b : p.2 ≤ 32
    · rw [if_pos (decide_eq_true a), if_pos (decide_eq_true b), mask_eq _ a b, bd_some, lt_eq, bits_andNot_mask p.1 p.2 h0 h1 a]
      simp [a, b]
    · rw [if_pos (decide_eq_true a), if_neg (by simpa using b)]
      simp [a, b]
  · rw [if_neg (by simpa using a)]
    simp [a]
theorem size_loop : ∀ (n j : Nat), n + j ≤ 32 → lp m_triviumref18_Size_l1 ((2 : Int) ^ j, 32 - (n : Int)) = some ((2 : Int) ^ (j + n))
  | 0, j, h => lp_done (by simp [m_triviumref18_Size_l1])
  | n + 1, j, h => by
    have hp : (2 : Int) ^ (j + 1) ≤ 2 ^ 32 := Tri.pow_mono (by decide) (by omega)
    have h0 : (0 : Int) < 2 ^ (j + 1) := Int.pow_pos (by decide)
    have e1 : wu64 (2 * 2 ^ j) = 2 ^ (j + 1) := by rw [Int.pow_succ, Int.mul_comm] at *; exact wu64_eq (by omega) (by omega)
    have e2 : wi64 (32 - ((n + 1 : Nat) : Int) + 1) = 32 - (n : Int) := by rw [wi64_eq (by omega) (by omega)]; omega
    rw [lp_more (s' := ((2 : Int) ^ (j + 1), 32 - (n : Int))) (by
      simp only [m_triviumref18_Size_l1, decide_eq_true (show 32 - ((n + 1 : Nat) : Int) < 32 by omega), if_true, e1, e2])]
    rw [size_loop n (j + 1) (by omega)]
    congr 2; omega
theorem size_eq (n : Int) (h0 : 0 ≤ n) (h1 : n ≤ 32) : m_triviumref18_Size n = some (S32 n) := by
  have := size_loop (32 - n).toNat 0 (by omega)
  unfold m_triviumref18_Size
  rw [show (1 : Int) = 2 ^ 0 from rfl, show n = 32 - ((32 - n).toNat : Int) by omega, this, bd_some]
  unfold S32
  congr 2; omega
theorem refMay_eq (p : D_api_Prefix) (h0 : 0 ≤ p.1) (h1 : p.1 < 4294967296) : m_triviumref18_May p = some (mayP p) := by
  unfold m_triviumref18_May mayP
  by_cases a : 0 ≤ p.2
  · by_cases b : p.2 ≤ 32
    · have := S32_pos p.2
      rw [if_pos (decide_eq_true a), if_pos (decide_eq_true b), size_eq _ a b, bd_some, wu64_eq h0 (by omega), rm_of h0 this, bd_some]
      simp [a, b]
    · rw [if_pos (decide_eq_true a), if_neg (by simpa using b)]
      simp [a, b]
  · rw [if_neg (by simpa using a)]
    simp [a]
end Go.Proofs.YtkjkipkfndckfaaGreatDoor.AP
/- Addresses and prefixes, printed by both. -/
namespace Go.Proofs.YtkjkipkfndckfaaGreatDoor.AP
open Go
set_option linter.unusedVariables false
set_option linter.unusedSimpArgs false
/-- an address's text -/
def prL (a : Int) : List UInt8 := Lib.itoa (a / 16777216) ++ 46 :: (Lib.itoa (a / 65536 % 256) ++ 46 :: (Lib.itoa (a / 256 % 256) ++ 46 :: Lib.itoa (a % 256)))
theorem prL_len (a : Int) (h0 : 0 ≤ a) (h1 : a < 4294967296) : (prL a).length ≤ 83 := by
  have l1 := itoa_len (a / 16777216) (by omega) (by omega)
  have l2 := itoa_len (a / 65536 % 256) (by omega) (by omega)
  have l3 := itoa_len (a / 256 % 256) (by omega) (by omega)
  have l4 := itoa_len (a % 256) (by omega) (by omega)
  unfold prL
  simp only [List.length_append, List.length_cons]
  omega
theorem and255 (x : Int) (h0 : 0 ≤ x) (h1 : x < 4294967296) : wi64 (Go.bits .and .u32 x 255) = x % 256 := by
  obtain ⟨n, rfl⟩ := Int.eq_ofNat_of_zero_le h0
  have e : Go.bits .and .u32 (n : Int) 255 = ((n % 256 : Nat) : Int) := by
    have h2 := Nat.and_two_pow_sub_one_eq_mod n 8
    rw [u32_and (n : Int) 255 (by omega) h1 (by omega) (by omega)]
    have h3 : ((255 : Int).toNat) = 2 ^ 8 - 1 := rfl
    rw [Int.toNat_natCast, h3, h2]
  rw [e, wi64_eq (by omega) (by omega)]
  omega
theorem shr (a : Int) (h0 : 0 ≤ a) (h1 : a < 4294967296) (k : Nat) (hk : k ≤ 32) : sr .u32 a (k : Int) = some (a / 2 ^ k) := by
  unfold sr
  rw [if_pos (by omega)]
  have e : min ((k : Int).toNat) (IntKind.u32.bits) = k := by
    have : IntKind.u32.bits = 32 := rfl
    rw [this]; simp; omega
  rw [e]
  congr 1
  exact Int.fdiv_eq_ediv_of_nonneg a (Int.pow_nonneg (by decide))
theorem print_eq (a : Int) (h0 : 0 ≤ a) (h1 : a < 4294967296) : m_addr_Print a = some (bs (prL a)) := by
  have em : AP.mk 16 (bs []) 4 4 = some (List.replicate 4 (bs [])) := mk16 4 (by decide)
  have step : ∀ (i : Nat) (v : List ByteArray), i < 4 → v.length = 4 → m_addr_Print_l1 a (List.replicate 4 (bs [])) ((i : Int), v) = some (.inl ((i : Int) + 1, v.set i (bs (Lib.itoa (a / 2 ^ (8 * (3 - i)) % 256))))) := by
    intro i v hi hv
    have e1 : decide ((i : Int) < ((List.replicate 4 (bs [])).length : Int)) = true := by simp; omega
    have e2 : wi64 (8 * (wi64 (3 - (i : Int)))) = ((8 * (3 - i) : Nat) : Int) := by
      rw [wi64_eq (x := 3 - (i : Int)) (by omega) (by omega), wi64_eq (by omega) (by omega)]; omega
    have e3 := shr a h0 h1 (8 * (3 - i)) (by omega)
    have hq : 0 ≤ a / 2 ^ (8 * (3 - i)) := Int.ediv_nonneg h0 (Int.pow_nonneg (by decide))
    have hq2 : a / 2 ^ (8 * (3 - i)) < 4294967296 := by
      have := Int.ediv_le_self (2 ^ (8 * (3 - i))) h0
      omega
    have e4 := and255 _ hq hq2
    have e5 := itoa_bs (a / 2 ^ (8 * (3 - i)) % 256) (by omega) (by omega)
    have e6 : ix v (i : Int) = some i := ix_nat (by omega)
    have e7 : wi64 ((i : Int) + 1) = (i : Int) + 1 := wi64_eq (by omega) (by omega)
    simp only [m_addr_Print_l1, e1, if_true, e2, e3, bd_some, e4, e5, e6, lt_eq, e7]
  have fin : ∀ v, m_addr_Print_l1 a (List.replicate 4 (bs [])) (4, v) = some (.inr v) := by
    intro v
    simp [m_addr_Print_l1]
  have hloop := lp_fill (f := m_addr_Print_l1 a (List.replicate 4 (bs []))) [(0 : Nat), 1, 2, 3] (fun i => bs (Lib.itoa (a / 2 ^ (8 * (3 - i)) % 256))) (fun i x v hx hv => by
    have hi : i < 4 := by
      have := (List.getElem?_eq_some_iff.1 hx).1
      simpa using this
    have : x = i := by
      match i, hi, hx with
      | 0, _, hx => simpa using hx.symm
      | 1, _, hx => simpa using hx.symm
      | 2, _, hx => simpa using hx.symm
      | 3, _, hx => simpa using hx.symm
    subst this
    exact step x v hi (by simpa using hv)) fin (List.replicate 4 (bs [])) (by simp)
  have e8 : a / 2 ^ (8 * (3 - 0)) % 256 = a / 16777216 := by
    have : (2 : Int) ^ (8 * (3 - 0)) = 16777216 := rfl
    rw [this]; omega
  have hj := join_bs [Lib.itoa (a / 16777216), Lib.itoa (a / 65536 % 256), Lib.itoa (a / 256 % 256), Lib.itoa (a % 256)] [46] (by simp) (by
    have l1 := itoa_len (a / 16777216) (by omega) (by omega)
    have l2 := itoa_len (a / 65536 % 256) (by omega) (by omega)
    have l3 := itoa_len (a / 256 % 256) (by omega) (by omega)
    have l4 := itoa_len (a % 256) (by omega) (by omega)
    have := join_len [46] 20 [Lib.itoa (a / 16777216), Lib.itoa (a / 65536 % 256), Lib.itoa (a / 256 % 256), Lib.itoa (a % 256)] (by
      intro x hx
      simp only [List.mem_cons, List.not_mem_nil, or_false] at hx
      rcases hx with rfl | rfl | rfl | rfl <;> assumption)
    simp at this
    omega)
  have e9 : [(0 : Nat), 1, 2, 3].map (fun i => bs (Lib.itoa (a / 2 ^ (8 * (3 - i)) % 256))) = [Lib.itoa (a / 16777216), Lib.itoa (a / 65536 % 256), Lib.itoa (a / 256 % 256), Lib.itoa (a % 256)].map bs := by
    simp only [List.map_cons, List.map_nil, e8]
    have h1 : (2 : Int) ^ (8 * (3 - 1)) = 65536 := rfl
    have h2 : (2 : Int) ^ (8 * (3 - 2)) = 256 := rfl
    have h3 : (2 : Int) ^ (8 * (3 - 3)) = 1 := rfl
    rw [h1, h2, h3, Int.ediv_one]
  rw [e9] at hloop
  unfold m_addr_Print
  simp only [em, bd_some, hloop, hj]
  congr 2
  rw [join2, join2, join2, Lib.join_one]
  rfl
theorem refPrint_eq (a : Int) (h0 : 0 ≤ a) (h1 : a < 4294967296) : m_triviumref18_Print a = some (bs (prL a)) := by
  have l1 := itoa_len (a / 16777216) (by omega) (by omega)
  have l2 := itoa_len (a / 65536 % 256) (by omega) (by omega)
  have l3 := itoa_len (a / 256 % 256) (by omega) (by omega)
  have l4 := itoa_len (a % 256) (by omega) (by omega)
  have q : ∀ d : Int, 0 < d → qd .u32 a d = some (a / d) := fun d hd => by
    unfold qd
    rw [if_neg (by omega), Int.tdiv_eq_ediv_of_nonneg h0]
    have := Int.ediv_nonneg h0 (Int.le_of_lt hd)
    have := Int.ediv_le_self d h0
    rw [show IntKind.u32.wrap (a / d) = a / d from wu32_eq (by omega) (by omega)]
  have e1 := q 16777216 (by decide)
  have e2 := q 65536 (by decide)
  have e3 := q 256 (by decide)
  have r1 : rm .u32 (a / 65536) 256 = some (a / 65536 % 256) := rm_of (by omega) (by decide)
  have r2 : rm .u32 (a / 256) 256 = some (a / 256 % 256) := rm_of (by omega) (by decide)
  have r3 : rm .u32 a 256 = some (a % 256) := rm_of h0 (by decide)
  have w1 : wi64 (a / 16777216) = a / 16777216 := wi64_eq (by omega) (by omega)
  have w2 : wi64 (a / 65536 % 256) = a / 65536 % 256 := wi64_eq (by omega) (by omega)
  have w3 : wi64 (a / 256 % 256) = a / 256 % 256 := wi64_eq (by omega) (by omega)
  have w4 : wi64 (a % 256) = a % 256 := wi64_eq (by omega) (by omega)
  have b1 := baseItoa (a / 16777216) (by omega) (by omega)
  have b2 := baseItoa (a / 65536 % 256) (by omega) (by omega)
  have b3 := baseItoa (a / 256 % 256) (by omega) (by omega)
  have b4 := baseItoa (a % 256) (by omega) (by omega)
  unfold m_triviumref18_Print prL
  simp only [e1, bd_some, w1, b1, e2, r1, w2, b2, e3, r2, w3, b3, r3, w4, b4]
  generalize Lib.itoa (a / 16777216) = A at *
  generalize Lib.itoa (a / 65536 % 256) = B at *
  generalize Lib.itoa (a / 256 % 256) = C at *
  generalize Lib.itoa (a % 256) = D at *
  simp (disch := (simp only [List.length_append, List.length_cons, List.length_nil]; omega)) only [cat_bs, bd_some]
  simp [List.append_assoc]
/-- a prefix's text -/
def txL (p : D_api_Prefix) : List UInt8 := if mayP p then prL p.1 ++ 47 :: Lib.itoa p.2 else []
theorem may_len {p : D_api_Prefix} (h : mayP p = true) : 0 ≤ p.2 ∧ p.2 ≤ 32 := by
  unfold mayP at h
  simp only [Bool.and_eq_true, decide_eq_true_eq] at h
  exact h.1
theorem txL_len (p : D_api_Prefix) (h0 : 0 ≤ p.1) (h1 : p.1 < 4294967296) : (txL p).length ≤ 104 := by
  unfold txL
  split
  · rename_i h
    have h2 := may_len h
    have l1 := prL_len p.1 h0 h1
    have l2 := itoa_len p.2 (by omega) (by omega)
    simp only [List.length_append, List.length_cons]
    omega
  · simp
theorem text_eq (p : D_api_Prefix) (h0 : 0 ≤ p.1) (h1 : p.1 < 4294967296) : m_addr_Text p = some (bs (txL p)) := by
  have hm := may_eq p h0 h1
  have hm : m_addr_May (p.1, p.2) = some (mayP p) := hm
  unfold m_addr_Text txL
  rw [hm]
  cases hp : mayP p with
  | false => rfl
  | true =>
    have h2 := may_len hp
    have l1 := prL_len p.1 h0 h1
    have l2 := itoa_len p.2 (by omega) (by omega)
    have e1 := print_eq p.1 h0 h1
    have e2 := itoa_bs p.2 (by omega) (by omega)
    simp only [bd_some, Bool.not_true, if_true, e1, e2]
    rw [if_neg (by decide)]
    simp (disch := (simp only [List.length_append, List.length_cons, List.length_nil]; omega)) only [cat_bs, bd_some, List.append_assoc, List.cons_append, List.nil_append]
theorem refText_eq (p : D_api_Prefix) (h0 : 0 ≤ p.1) (h1 : p.1 < 4294967296) : m_triviumref18_Text p = some (bs (txL p)) := by
  have hm : m_triviumref18_May (p.1, p.2) = some (mayP p) := refMay_eq p h0 h1
  unfold m_triviumref18_Text txL
  rw [hm]
  cases hp : mayP p with
  | false => rfl
  | true =>
    have h2 := may_len hp
    have l1 := prL_len p.1 h0 h1
    have l2 := itoa_len p.2 (by omega) (by omega)
    have e1 := refPrint_eq p.1 h0 h1
    have e2 := baseItoa p.2 (by omega) (by omega)
    simp only [bd_some, Bool.not_true, if_true, e1, e2]
    rw [if_neg (by decide)]
    simp (disch := (simp only [List.length_append, List.length_cons, List.length_nil]; omega)) only [cat_bs, bd_some, List.append_assoc, List.cons_append, List.nil_append]
end Go.Proofs.YtkjkipkfndckfaaGreatDoor.AP
/- Networks' texts: the program's. -/
namespace Go.Proofs.YtkjkipkfndckfaaGreatDoor.AP
open Go
set_option linter.unusedVariables false
set_option linter.unusedSimpArgs false
theorem words_bs (l : List (List UInt8)) (h1 : l.length ≤ 10) (h2 : ∀ x ∈ l, x.length ≤ 2000000000) : m_canon_words (l.map bs) = some (bs (Lib.join l [32])) := by
  have := join_len [32] 2000000000 l h2
  have h3 : l.length * (2000000000 + [(32 : UInt8)].length) ≤ 10 * (2000000000 + [(32 : UInt8)].length) := Nat.mul_le_mul_right _ h1
  unfold m_canon_words
  have e := join_bs l [32] (by omega) (by simp at h3; simp at this; omega)
  have e : m_strings_Join (l.map bs) (bs [32]) = some (bs (Lib.join l [32])) := e
  rw [e]
  rfl
/-! what is written -/
def lnL (s : List UInt8) : List UInt8 := [32, 32] ++ s ++ [10]
def Pok (p : D_api_Prefix) : Prop := 0 ≤ p.1 ∧ p.1 < 4294967296
end Go.Proofs.YtkjkipkfndckfaaGreatDoor.AP
/- Queries' texts, by both. -/
namespace Go.Proofs.YtkjkipkfndckfaaGreatDoor.AP
open Go
set_option linter.unusedVariables false
set_option linter.unusedSimpArgs false
/-- a query's text -/
def qyL (k : Int) (N O F : List UInt8) (d : Int) (p : D_api_Prefix) (K : Int) : List UInt8 :=
  if k = 1 then Lib.join [[112, 114, 111, 98], N, F, prL d] [32] ++ [59]
  else if k = 2 then Lib.join [[104, 111, 112, 115], N, F, prL d] [32] ++ [59]
  else if k = 3 then Lib.join [[119, 105, 116, 104, 105, 110], N, F, prL d, Lib.itoa K] [32] ++ [59]
  else if k = 4 then Lib.join [[99, 111, 109, 112, 97, 114, 101], N, O, F, txL p] [32] ++ [59]
  else []
section
variable (k : Int) (N O F : List UInt8) (d : Int) (p : D_api_Prefix) (K : Int) (hN : N.length ≤ 1000) (hO : O.length ≤ 1000) (hF : F.length ≤ 1000) (hd0 : 0 ≤ d) (hd1 : d < 4294967296) (hp0 : 0 ≤ p.1) (hp1 : p.1 < 4294967296) (hK0 : -9223372036854775807 ≤ K) (hK1 : K ≤ 9223372036854775807)
include hN hO hF hd0 hd1 hp0 hp1 hK0 hK1
theorem qyL_len : (qyL k N O F d p K).length ≤ 6000 := by
  have l1 := prL_len d hd0 hd1
  have l2 := txL_len p hp0 hp1
  have l3 := itoa_len K (by omega) hK1
  unfold qyL
  split
  · simp only [join2, Lib.join_one, List.length_append, List.length_cons, List.length_nil]; omega
  split
  · simp only [join2, Lib.join_one, List.length_append, List.length_cons, List.length_nil]; omega
  split
  · simp only [join2, Lib.join_one, List.length_append, List.length_cons, List.length_nil]; omega
  split
  · simp only [join2, Lib.join_one, List.length_append, List.length_cons, List.length_nil]; omega
  · simp
theorem query_eq : m_canon_Query (k, bs N, bs O, bs F, d, p, K) = some (bs (qyL k N O F d p K)) := by
  have l1 := prL_len d hd0 hd1
  have l2 := txL_len p hp0 hp1
  have l3 := itoa_len K (by omega) hK1
  have e1 := print_eq d hd0 hd1
  have e2 : m_addr_Text (p.1, p.2) = some (bs (txL p)) := text_eq p hp0 hp1
  have e3 := itoa_bs K (by omega) hK1
  have w1 := words_bs [[112, 114, 111, 98], N, F, prL d] (by simp) (by simp; omega)
  have w2 := words_bs [[104, 111, 112, 115], N, F, prL d] (by simp) (by simp; omega)
  have w3 := words_bs [[119, 105, 116, 104, 105, 110], N, F, prL d, Lib.itoa K] (by simp) (by simp; omega)
  have w4 := words_bs [[99, 111, 109, 112, 97, 114, 101], N, O, F, txL p] (by simp) (by simp; omega)
  simp only [List.map_cons, List.map_nil] at w1 w2 w3 w4
  have c1 := cat_bs (a := Lib.join [[112, 114, 111, 98], N, F, prL d] [32]) (b := [59]) (by simp only [join2, Lib.join_one, List.length_append, List.length_cons, List.length_nil]; omega)
  have c2 := cat_bs (a := Lib.join [[104, 111, 112, 115], N, F, prL d] [32]) (b := [59]) (by simp only [join2, Lib.join_one, List.length_append, List.length_cons, List.length_nil]; omega)
  have c3 := cat_bs (a := Lib.join [[119, 105, 116, 104, 105, 110], N, F, prL d, Lib.itoa K] [32]) (b := [59]) (by simp only [join2, Lib.join_one, List.length_append, List.length_cons, List.length_nil]; omega)
  have c4 := cat_bs (a := Lib.join [[99, 111, 109, 112, 97, 114, 101], N, O, F, txL p] [32]) (b := [59]) (by simp only [join2, Lib.join_one, List.length_append, List.length_cons, List.length_nil]; omega)
  unfold m_canon_Query qyL
  simp only [e1, bd_some]
  by_cases h1 : k = 1
  · simp only [h1, decide_true, if_true, w1, bd_some, c1]
  by_cases h2 : k = 2
  · simp only [h2, decide_true, if_true, w2, bd_some, c2]
    rfl
  by_cases h3 : k = 3
  · simp only [h3, decide_true, if_true, w3, bd_some, c3, e3]
    rfl
  by_cases h4 : k = 4
  · simp only [h4, decide_true, if_true, w4, bd_some, c4, e2]
    rfl
  · simp only [decide_eq_false h1, decide_eq_false h2, decide_eq_false h3, decide_eq_false h4, if_neg h1, if_neg h2, if_neg h3, if_neg h4]
    rfl
theorem refQuery_eq : m_triviumref22_Query (k, bs N, bs O, bs F, d, p, K) = some (bs (qyL k N O F d p K)) := by
  have l1 := prL_len d hd0 hd1
  have l2 := txL_len p hp0 hp1
  have l3 := itoa_len K (by omega) hK1
  have e1 := refPrint_eq d hd0 hd1
  have e2 : m_triviumref18_Text (p.1, p.2) = some (bs (txL p)) := refText_eq p hp0 hp1
  have e3 := baseItoa K hK0 hK1
  unfold m_triviumref22_Query qyL
  simp only [e1, e2, e3]
  generalize prL d = D at *
  generalize txL p = T at *
  generalize Lib.itoa K = I at *
  simp (disch := (simp only [List.length_append, List.length_cons, List.length_nil]; omega)) only [cat_bs, bd_some]
  by_cases h1 : k = 1
  · simp [h1, join2, Lib.join_one, List.append_assoc]
  by_cases h2 : k = 2
  · simp [h2, join2, Lib.join_one, List.append_assoc]
  by_cases h3 : k = 3
  · simp [h3, join2, Lib.join_one, List.append_assoc]
  by_cases h4 : k = 4
  · simp [h4, join2, Lib.join_one, List.append_assoc]
  · simp [h1, h2, h3, h4]
end
/-- a query that may be written -/
def Qok (q : D_api_Query) : Prop := q.2.1.size ≤ 1000 ∧ q.2.2.1.size ≤ 1000 ∧ q.2.2.2.1.size ≤ 1000 ∧ (0 ≤ q.2.2.2.2.1 ∧ q.2.2.2.2.1 < 4294967296) ∧ (0 ≤ q.2.2.2.2.2.1.1 ∧ q.2.2.2.2.2.1.1 < 4294967296) ∧ (-9223372036854775807 ≤ q.2.2.2.2.2.2 ∧ q.2.2.2.2.2.2 ≤ 9223372036854775807)
def qL (q : D_api_Query) : List UInt8 := qyL q.1 q.2.1.data.toList q.2.2.1.data.toList q.2.2.2.1.data.toList q.2.2.2.2.1 q.2.2.2.2.2.1 q.2.2.2.2.2.2
theorem qL_len {q : D_api_Query} (h : Qok q) : (qL q).length ≤ 6000 := qyL_len _ _ _ _ _ _ _ h.1 h.2.1 h.2.2.1 h.2.2.2.1.1 h.2.2.2.1.2 h.2.2.2.2.1.1 h.2.2.2.2.1.2 h.2.2.2.2.2.1 h.2.2.2.2.2.2
theorem qL_eq {q : D_api_Query} (h : Qok q) : m_canon_Query q = some (bs (qL q)) := query_eq _ _ _ _ _ _ _ h.1 h.2.1 h.2.2.1 h.2.2.2.1.1 h.2.2.2.1.2 h.2.2.2.2.1.1 h.2.2.2.2.1.2 h.2.2.2.2.2.1 h.2.2.2.2.2.2
theorem qL_ref {q : D_api_Query} (h : Qok q) : m_triviumref22_Query q = some (bs (qL q)) := refQuery_eq _ _ _ _ _ _ _ h.1 h.2.1 h.2.2.1 h.2.2.2.1.1 h.2.2.2.1.2 h.2.2.2.2.1.1 h.2.2.2.2.1.2 h.2.2.2.2.2.1 h.2.2.2.2.2.2
/-- queries' text -/
def qsL (l : List D_api_Query) : List UInt8 := (l.map fun q => qL q ++ [10]).flatten
end Go.Proofs.YtkjkipkfndckfaaGreatDoor.AP
/- Queries that are cleaned may be written; the law of their texts. -/
namespace Go.Proofs.YtkjkipkfndckfaaGreatDoor.AP
open Go
set_option linter.unusedVariables false
set_option linter.unusedSimpArgs false
def shB (s : ByteArray) : ByteArray := s.extract 0 (min s.size 20)
theorem shB_size (s : ByteArray) : (shB s).size ≤ 20 := by
  unfold shB
  rw [ByteArray.size_extract]
  omega
theorem short_shB (s : ByteArray) : m_triviumref22_short s = some (shB s) := by
  have : cs s 0 (min (s.size : Int) 20) = some (shB s) := by
    unfold cs shB
    rw [if_pos (by omega)]
    have : (min (s.size : Int) 20).toNat = min s.size 20 := by omega
    rw [this]
    rfl
  unfold m_triviumref22_short
  rw [this]
  rfl
def cK (K : Int) : Int := if K < -1000000 then 3 else if 2147483648 < K then 3 else K
theorem cK_ok (K : Int) : -1000000 ≤ cK K ∧ cK K ≤ 2147483648 := by
  unfold cK
  split
  · omega
  · split <;> omega
def cQ (q : D_api_Query) : D_api_Query := (q.1, shB q.2.1, shB q.2.2.1, shB q.2.2.2.1, q.2.2.2.2.1, (q.2.2.2.2.2.1.1, q.2.2.2.2.2.1.2), cK q.2.2.2.2.2.2)
theorem cleanQuery_eq (q : D_api_Query) : m_triviumref22_CleanQuery q = some (cQ q) := by
  unfold m_triviumref22_CleanQuery cQ cK
  simp only [short_shB, bd_some]
  by_cases h1 : q.2.2.2.2.2.2 < -1000000
  · simp only [decide_eq_true h1, if_true, bd_some, if_pos h1]
  · by_cases h2 : 2147483648 < q.2.2.2.2.2.2
    · simp only [decide_eq_false h1, decide_eq_true h2, Bool.false_eq_true, if_false, if_true, bd_some, if_neg h1, if_pos h2]
    · simp only [decide_eq_false h1, decide_eq_false h2, Bool.false_eq_true, if_false, bd_some, if_neg h1, if_neg h2]
/-- a query whose addresses may be -/
def Qin (q : D_api_Query) : Prop := (0 ≤ q.2.2.2.2.1 ∧ q.2.2.2.2.1 < 4294967296) ∧ (0 ≤ q.2.2.2.2.2.1.1 ∧ q.2.2.2.2.2.1.1 < 4294967296)
theorem cQ_ok {q : D_api_Query} (h : Qin q) : Qok (cQ q) := by
  have h1 := shB_size q.2.1
  have h2 := shB_size q.2.2.1
  have h3 := shB_size q.2.2.2.1
  have h4 := cK_ok q.2.2.2.2.2.2
  refine ⟨?_, ?_, ?_, h.1, h.2, ?_, ?_⟩
  · show (shB q.2.1).size ≤ 1000; omega
  · show (shB q.2.2.1).size ≤ 1000; omega
  · show (shB q.2.2.2.1).size ≤ 1000; omega
  · show -9223372036854775807 ≤ cK _; omega
  · show cK _ ≤ 9223372036854775807; omega
end Go.Proofs.YtkjkipkfndckfaaGreatDoor.AP
/- Reports: lines, by both. -/
namespace Go.Proofs.YtkjkipkfndckfaaGreatDoor.AP
open Go Go.Proofs.YtkjkipkfndckfaaGreatDoor.Tri
set_option linter.unusedVariables false
set_option linter.unusedSimpArgs false
set_option maxRecDepth 4000
/-- a verdict's words -/
def vdL (k : Int) : List UInt8 :=
  if k = 1 then [101, 113, 117, 97, 108] else if k = 2 then [65, 32, 100, 111, 109, 105, 110, 97, 116, 101, 115] else if k = 3 then [66, 32, 100, 111, 109, 105, 110, 97, 116, 101, 115] else if k = 4 then [105, 110, 99, 111, 109, 112, 97, 114, 97, 98, 108, 101] else []
theorem vdL_len (k : Int) : (vdL k).length ≤ 12 := by
  unfold vdL
  repeat' split
  all_goals decide
theorem verdict_eq (k : Int) : m_report_Verdict k = some (bs (vdL k)) := by
  unfold m_report_Verdict vdL
  by_cases h1 : k = 1
  · rw [if_pos (decide_eq_true h1), if_pos h1]
  · rw [if_neg (by simpa using h1), if_neg h1]
    by_cases h2 : k = 2
    · rw [if_pos (decide_eq_true h2), if_pos h2, lt_eq]
    · rw [if_neg (by simpa using h2), if_neg h2]
      by_cases h3 : k = 3
      · rw [if_pos (decide_eq_true h3), if_pos h3, lt_eq]
      · rw [if_neg (by simpa using h3), if_neg h3]
        by_cases h4 : k = 4
        · rw [if_pos (decide_eq_true h4), if_pos h4, lt_eq]
        · rw [if_neg (by simpa using h4), if_neg h4]
theorem refVerdict_eq (k : Int) : m_triviumref38_Verdict k = some (bs (vdL k)) := by
  unfold m_triviumref38_Verdict
  by_cases h0 : k < 0
  · rw [if_pos (decide_eq_true h0), bd_some, if_pos rfl]
    unfold vdL
    rw [if_neg (by omega), if_neg (by omega), if_neg (by omega), if_neg (by omega)]
  · rw [if_neg (by simpa using h0), bd_some]
    by_cases h4 : 4 < k
    · rw [if_pos (decide_eq_true h4)]
      unfold vdL
      rw [if_neg (by omega), if_neg (by omega), if_neg (by omega), if_neg (by omega)]
    · rw [if_neg (by simpa using h4)]
      have : k = 0 ∨ k = 1 ∨ k = 2 ∨ k = 3 ∨ k = 4 := by omega
      rcases this with rfl | rfl | rfl | rfl | rfl <;> rfl
/-- a witness's text -/
def atL (is : Bool) (d : Int) (x y : List UInt8) : List UInt8 := if is then [32, 97, 116, 32] ++ (prL d ++ 32 :: (x ++ 32 :: y)) else []
def wl (is : Bool) (d : Int) (x y : List UInt8) : List (List UInt8) := if is then [[97, 116], prL d, x, y] else []
def wA (is : Bool) (d : Int) (X Y : D_api_Rat) : D_compare_Witness := if is then (true, d, X, Y) else (false, 0, ((false, []), []), ((false, []), []))
def wB (is : Bool) (d : Int) (X Y : D_triviumref08_Q) : D_triviumref36_Witness := if is then (true, d, X, Y) else (false, 0, ((false, []), []), ((false, []), []))
theorem atL_len (is : Bool) (d : Int) (x y : List UInt8) (h0 : 0 ≤ d) (h1 : d < 4294967296) (hx : x.length ≤ 200) (hy : y.length ≤ 200) : (atL is d x y).length ≤ 600 := by
  have := prL_len d h0 h1
  unfold atL
  split
  · simp only [List.length_append, List.length_cons, List.length_nil]; omega
  · simp
theorem join_wl (V : List UInt8) (i j : Bool) (d e : Int) (x y z t : List UInt8) : Lib.join (V :: (wl i d x y ++ wl j e z t)) [32] = V ++ (atL i d x y ++ atL j e z t) := by
  cases i <;> cases j <;> simp only [wl, atL, if_true, Bool.false_eq_true, if_false, List.nil_append, List.append_nil, List.cons_append, join2, Lib.join_one, List.append_assoc]
section
variable (d e : Int) (hd0 : 0 ≤ d) (hd1 : d < 4294967296) (he0 : 0 ≤ e) (he1 : e < 4294967296) (x y z : List UInt8) (hx : x.length ≤ 200) (hy : y.length ≤ 200) (hz : z.length ≤ 200)
  (X Y Z : D_api_Rat) (pX : m_ratio_Print X = some (bs x)) (pY : m_ratio_Print Y = some (bs y)) (pZ : m_ratio_Print Z = some (bs z))
include hd0 hd1 he0 he1 hx hy hz pX pY pZ
theorem repVerdict_eq (k : Int) (f s : Bool) : m_report_verdict (k, wA f d X Y, wA s e Y Z) = some (bs (vdL k ++ (atL f d x y ++ atL s e y z))) := by
  have step : ∀ (i : Int) (w : D_compare_Witness) (is : Bool) (g : Int) (U W : D_api_Rat) (u v : List UInt8) (l : List (List UInt8)), (i = 0 ∨ i = 1) → rd [wA f d X Y, wA s e Y Z] i = some (wA is g U W) → 0 ≤ g → g < 4294967296 → m_ratio_Print U = some (bs u) → m_ratio_Print W = some (bs v) → l.length ≤ 100 →
      m_report_verdict_l1 (k, wA f d X Y, wA s e Y Z) (i, l.map bs) = some (.inl (i + 1, (l ++ wl is g u v).map bs)) := by
    intro i w is g U W u v l hi hr g0 g1 hU hW hl
    unfold m_report_verdict_l1
    show (if decide (i < 2) = true then bd (bd (rd [wA f d X Y, wA s e Y Z] i) fun x8 => if x8.1 = true then bd (m_addr_Print x8.2.1) fun x11 => bd (m_ratio_Print x8.2.2.1) fun x13 => bd (m_ratio_Print x8.2.2.2) fun x15 => bd (ap 16 (l.map bs) [bs [97, 116], x11, x13, x15]) fun x17 => some x17 else some (l.map bs)) (fun v7 => some (Sum.inl (wi64 (i + 1), v7))) else some (Sum.inr (l.map bs))) = _
    rw [if_pos (decide_eq_true (by omega)), hr, bd_some]
    have e1 : wi64 (i + 1) = i + 1 := wi64_eq (by omega) (by omega)
    cases is with
    | true =>
      show bd (if true = true then bd (m_addr_Print g) fun x11 => bd (m_ratio_Print U) fun x13 => bd (m_ratio_Print W) fun x15 => bd (ap 16 (l.map bs) [bs [97, 116], x11, x13, x15]) fun x17 => some x17 else some (l.map bs)) _ = _
      rw [if_pos rfl, print_eq g g0 g1, bd_some, hU, bd_some, hW, bd_some, ap_of (by rw [List.length_map]; simp; omega), bd_some, bd_some, e1]
      show some (Sum.inl (i + 1, List.map bs l ++ [bs [97, 116], bs (prL g), bs u, bs v])) = _
      unfold wl
      rw [if_pos rfl, List.map_append]; rfl
    | false =>
      show bd (if false = true then _ else some (l.map bs)) _ = _
      rw [if_neg (by decide), bd_some, e1]
      unfold wl
      rw [if_neg (by decide), List.append_nil]
  have s0 := step 0 (wA f d X Y) f d X Y x y [vdL k] (.inl rfl) rfl hd0 hd1 pX pY (by simp)
  have s1 := step 1 (wA s e Y Z) s e Y Z y z ([vdL k] ++ wl f d x y) (.inr rfl) rfl he0 he1 pY pZ (by unfold wl; split <;> simp)
  have l0 := vdL_len k
  have l1 := atL_len f d x y hd0 hd1 hx hy
  have l2 := atL_len s e y z he0 he1 hy hz
  unfold m_report_verdict
  show bd (m_report_Verdict k) _ = _
  rw [verdict_eq, bd_some]
  have run : lp (m_report_verdict_l1 (k, wA f d X Y, wA s e Y Z)) (0, [bs (vdL k)]) = some ((vdL k :: (wl f d x y ++ wl s e y z)).map bs) := by
    have s0' : m_report_verdict_l1 (k, wA f d X Y, wA s e Y Z) (0, [bs (vdL k)]) = some (.inl (1, ([vdL k] ++ wl f d x y).map bs)) := s0
    have s1' : m_report_verdict_l1 (k, wA f d X Y, wA s e Y Z) (1, ([vdL k] ++ wl f d x y).map bs) = some (.inl (2, ([vdL k] ++ wl f d x y ++ wl s e y z).map bs)) := s1
    rw [lp_more s0', lp_more s1', lp_done (x := ([vdL k] ++ wl f d x y ++ wl s e y z).map bs) (by unfold m_report_verdict_l1; show (if decide ((2 : Int) < 2) = true then _ else some (Sum.inr _)) = _; rw [if_neg (by decide)])]
    simp
  rw [run, bd_some]
  unfold m_report_Words
  have hj := join_wl (vdL k) f s d e x y y z
  have hlen : (vdL k :: (wl f d x y ++ wl s e y z)).length ≤ 140737488355328 := by
    unfold wl
    split <;> split <;> simp
  rw [join_bs _ [32] hlen (by rw [hj]; simp only [List.length_append]; omega), bd_some, bd_some, hj]
end
/-- an answer's text -/
def tdL (k vk : Int) (is f s : Bool) (d e : Int) (x y z : List UInt8) : List UInt8 :=
  if k = 1 then [100, 101, 108, 105, 118, 101, 114, 32] ++ (x ++ ([32, 100, 114, 111, 112, 32] ++ (y ++ ([32, 108, 111, 111, 112, 32] ++ z))))
  else if k = 2 then (if is then x else [117, 110, 100, 101, 102, 105, 110, 101, 100])
  else if k = 3 then y
  else if k = 4 then vdL vk ++ (atL f d x y ++ atL s e y z) else []
def isT (k : Int) : Bool := decide (k = 1) || decide (k = 2) || decide (k = 3) || decide (k = 4)
theorem told1_eq (x y z : List UInt8) (hx : x.length ≤ 200) (hy : y.length ≤ 200) (hz : z.length ≤ 200) (X Y Z : D_api_Rat) (pX : m_ratio_Print X = some (bs x)) (pY : m_ratio_Print Y = some (bs y)) (pZ : m_ratio_Print Z = some (bs z)) (M : D_hops_Mean) (W : D_api_Rat) (V : D_compare_Verdict) :
    m_report_told (1, (X, Y, Z), M, W, V) = some (bs ([100, 101, 108, 105, 118, 101, 114, 32] ++ (x ++ ([32, 100, 114, 111, 112, 32] ++ (y ++ ([32, 108, 111, 111, 112, 32] ++ z))))), true) := by
  have hj : Lib.join [[100, 101, 108, 105, 118, 101, 114], x, [100, 114, 111, 112], y, [108, 111, 111, 112], z] [32] = [100, 101, 108, 105, 118, 101, 114, 32] ++ (x ++ ([32, 100, 114, 111, 112, 32] ++ (y ++ ([32, 108, 111, 111, 112, 32] ++ z)))) := by
    simp only [join2, Lib.join_one, List.append_assoc, List.cons_append, List.nil_append]
  have hw : m_report_Words [bs [100, 101, 108, 105, 118, 101, 114], bs x, bs [100, 114, 111, 112], bs y, bs [108, 111, 111, 112], bs z] = some (bs ([100, 101, 108, 105, 118, 101, 114, 32] ++ (x ++ ([32, 100, 114, 111, 112, 32] ++ (y ++ ([32, 108, 111, 111, 112, 32] ++ z)))))) := by
    unfold m_report_Words
    have := join_bs [[100, 101, 108, 105, 118, 101, 114], x, [100, 114, 111, 112], y, [108, 111, 111, 112], z] [32] (by simp) (by rw [hj]; simp only [List.length_append, List.length_cons, List.length_nil]; omega)
    rw [hj] at this
    rw [show [bs [100, 101, 108, 105, 118, 101, 114], bs x, bs [100, 114, 111, 112], bs y, bs [108, 111, 111, 112], bs z] = [[100, 101, 108, 105, 118, 101, 114], x, [100, 114, 111, 112], y, [108, 111, 111, 112], z].map bs from rfl, this, bd_some]
  unfold m_report_told
  show (if decide ((1 : Int) = 1) = true then bd (m_ratio_Print X) (fun x2 => bd (m_ratio_Print Y) fun x4 => bd (m_ratio_Print Z) _) else _) = _
  rw [if_pos (by decide), pX, bd_some, pY, bd_some, pZ, bd_some, hw, bd_some]
section
variable (d e : Int) (hd0 : 0 ≤ d) (hd1 : d < 4294967296) (he0 : 0 ≤ e) (he1 : e < 4294967296) (x y z : List UInt8) (hx : x.length ≤ 200) (hy : y.length ≤ 200) (hz : z.length ≤ 200)
include hd0 hd1 he0 he1 hx hy hz
theorem tdL_len (k vk : Int) (is f s : Bool) : (tdL k vk is f s d e x y z).length ≤ 1500 := by
  have l0 := vdL_len vk
  have l1 := atL_len f d x y hd0 hd1 hx hy
  have l2 := atL_len s e y z he0 he1 hy hz
  unfold tdL
  repeat' split
  all_goals first
    | (simp only [List.length_append, List.length_cons, List.length_nil]; omega)
    | omega
theorem told_eq (X Y Z : D_api_Rat) (pX : m_ratio_Print X = some (bs x)) (pY : m_ratio_Print Y = some (bs y)) (pZ : m_ratio_Print Z = some (bs z)) (k vk : Int) (is f s : Bool) :
    m_report_told (k, (X, Y, Z), (is, X), Y, (vk, wA f d X Y, wA s e Y Z)) = some (bs (tdL k vk is f s d e x y z), isT k) := by
  by_cases h1 : k = 1
  · subst h1
    rw [told1_eq x y z hx hy hz X Y Z pX pY pZ]
    unfold tdL
    rw [if_pos rfl]; rfl
  · have rv := repVerdict_eq d e hd0 hd1 he0 he1 x y z hx hy hz X Y Z pX pY pZ vk f s
    unfold m_report_told tdL isT
    rw [if_neg (by simpa using h1), if_neg h1, decide_eq_false h1]
    by_cases h2 : k = 2
    · rw [if_pos (decide_eq_true h2), if_pos h2, decide_eq_true h2]
      cases is with
      | true =>
        show (if (!true) = true then _ else bd (m_ratio_Print X) _) = _
        rw [if_neg (by decide), pX, bd_some, if_pos rfl]; rfl
      | false => rfl
    · rw [if_neg (by simpa using h2), if_neg h2, decide_eq_false h2]
      by_cases h3 : k = 3
      · rw [if_pos (decide_eq_true h3), if_pos h3, decide_eq_true h3]
        show bd (m_ratio_Print Y) _ = _
        rw [pY, bd_some]; rfl
      · rw [if_neg (by simpa using h3), if_neg h3, decide_eq_false h3]
        by_cases h4 : k = 4
        · rw [if_pos (decide_eq_true h4), if_pos h4, decide_eq_true h4]
          show bd (m_report_verdict (vk, wA f d X Y, wA s e Y Z)) _ = _
          rw [rv, bd_some]; rfl
        · rw [if_neg (by simpa using h4), if_neg h4, decide_eq_false h4]; rfl
end
/-! a query's text, but for its end -/
theorem qyL_end (k : Int) (N O F : List UInt8) (d : Int) (p : D_api_Prefix) (K : Int) : qyL k N O F d p K = [] ∨ ∃ r, qyL k N O F d p K = r ++ [59] := by
  unfold qyL
  repeat' split
  · exact .inr ⟨_, rfl⟩
  · exact .inr ⟨_, rfl⟩
  · exact .inr ⟨_, rfl⟩
  · exact .inr ⟨_, rfl⟩
  · exact .inl rfl
theorem trim59 (l : List UInt8) (hl : l.length ≤ 1000000) (h : l = [] ∨ ∃ r, l = r ++ [59]) : m_strings_TrimSuffix (bs l) (bs [59]) = some (bs l.dropLast) := by
  unfold m_strings_TrimSuffix m_internal_stringslite_TrimSuffix m_internal_stringslite_HasSuffix
  rcases h with rfl | ⟨r, rfl⟩
  · rfl
  · have hlen : (r ++ [59]).length = r.length + 1 := by simp
    have e0 : wi64 ((((bs (r ++ [59])).size : Nat) : Int) - (((bs [59]).size : Nat) : Int)) = ((r.length : Nat) : Int) := by
      rw [bs_size, bs_size, hlen]
      show wi64 (((r.length + 1 : Nat) : Int) - 1) = _
      rw [wi64_eq (by omega) (by omega)]; omega
    have e1 : cs (bs (r ++ [59])) ((r.length : Nat) : Int) (((bs (r ++ [59])).size : Nat) : Int) = some (bs [59]) := by
      have := cs_bs (r ++ [59]) r.length (r ++ [59]).length (by simp) (Nat.le_refl _)
      rw [List.take_length, List.drop_left' rfl] at this
      exact this
    have e2 : cs (bs (r ++ [59])) 0 ((r.length : Nat) : Int) = some (bs r) := by
      have := cs_bs (r ++ [59]) 0 r.length (by omega) (by simp)
      rw [List.drop_zero, List.take_left' rfl] at this
      exact this
    rw [e0, if_pos (decide_eq_true (by rw [bs_size, bs_size, hlen]; simp only [List.length_cons, List.length_nil]; omega)), e1, bd_some, bd_some, sq_self, if_pos rfl, e2, bd_some, bd_some, List.dropLast_concat]
theorem line_of (q : D_api_Query) (A : D_engine_Answer) (td : List UInt8) (hq : Qok q) (ht : td.length ≤ 2000) (h : m_report_told A = some (bs td, true)) : m_report_Line q A = some (bs ((qL q).dropLast ++ ([58, 32] ++ td))) := by
  have hl := qL_len hq
  have hdl : (qL q).dropLast.length ≤ 6000 := by rw [List.length_dropLast]; omega
  have ht2 := trim59 (qL q) (by omega) (qyL_end _ _ _ _ _ _ _)
  have hj : Lib.join [(qL q).dropLast ++ [58], td] [32] = (qL q).dropLast ++ ([58, 32] ++ td) := by
    simp only [join2, Lib.join_one, List.append_assoc, List.cons_append, List.nil_append]
  unfold m_report_Line
  show bd (m_report_told A) (fun x1 => if (!x1.2) = true then some (bs []) else bd (m_canon_Query q) _) = _
  rw [h, bd_some]
  dsimp only
  rw [if_neg (by decide), qL_eq hq, bd_some, ht2, bd_some, cat_bs (by simp only [List.length_cons, List.length_nil]; omega), bd_some]
  unfold m_report_Words
  have := join_bs [(qL q).dropLast ++ [58], td] [32] (by simp) (by rw [hj]; simp only [List.length_append, List.length_cons, List.length_nil]; omega)
  rw [hj] at this
  rw [show [bs ((qL q).dropLast ++ [58]), bs td] = [(qL q).dropLast ++ [58], td].map bs from rfl, this, bd_some, bd_some]
theorem line_none (q : D_api_Query) (A : D_engine_Answer) (s : ByteArray) (h : m_report_told A = some (s, false)) : m_report_Line q A = some (bs []) := by
  unfold m_report_Line
  show bd (m_report_told A) _ = _
  rw [h, bd_some]
  rfl
end Go.Proofs.YtkjkipkfndckfaaGreatDoor.AP
/- Reports: the document's lines; the chapter's example; the plain law. -/
namespace Go.Proofs.YtkjkipkfndckfaaGreatDoor.AP
open Go Go.Proofs.YtkjkipkfndckfaaGreatDoor.Tri
set_option linter.unusedVariables false
set_option linter.unusedSimpArgs false
set_option maxRecDepth 4000
theorem refAt_eq (is : Bool) (d : Int) (hd0 : 0 ≤ d) (hd1 : d < 4294967296) (x y : List UInt8) (hx : x.length ≤ 200) (hy : y.length ≤ 200) (X Y : D_triviumref08_Q) (pX : m_triviumref09_Print X = some (bs x)) (pY : m_triviumref09_Print Y = some (bs y)) :
    m_triviumref38_at (wB is d X Y) = some (bs (atL is d x y)) := by
  have l1 := prL_len d hd0 hd1
  cases is with
  | false => rfl
  | true =>
    unfold m_triviumref38_at
    show (if (!true) = true then _ else bd (m_triviumref18_Print d) fun x2 => bd (cat (bs [32, 97, 116, 32]) x2) fun x4 => bd (cat x4 (bs [32])) fun x6 => bd (m_triviumref09_Print X) fun x8 => bd (cat x6 x8) fun x10 => bd (cat x10 (bs [32])) fun x12 => bd (m_triviumref09_Print Y) fun x14 => bd (cat x12 x14) fun x16 => some x16) = _
    rw [if_neg (by decide), refPrint_eq d hd0 hd1, bd_some]
    rw [cat_bs (by simp only [List.length_cons, List.length_nil]; omega), bd_some, cat_bs (by simp only [List.length_append, List.length_cons, List.length_nil]; omega), bd_some, pX, bd_some, cat_bs (by simp only [List.length_append, List.length_cons, List.length_nil]; omega), bd_some, cat_bs (by simp only [List.length_append, List.length_cons, List.length_nil]; omega), bd_some, pY, bd_some, cat_bs (by simp only [List.length_append, List.length_cons, List.length_nil]; omega), bd_some]
    unfold atL
    rw [if_pos rfl]
    simp only [List.append_assoc, List.cons_append, List.nil_append]
section
variable (d e : Int) (hd0 : 0 ≤ d) (hd1 : d < 4294967296) (he0 : 0 ≤ e) (he1 : e < 4294967296) (x y z : List UInt8) (hx : x.length ≤ 200) (hy : y.length ≤ 200) (hz : z.length ≤ 200)
include hd0 hd1 he0 he1 hx hy hz
theorem refLine_eq (q : D_api_Query) (hq : Qok q) (X Y Z : D_triviumref08_Q) (pX : m_triviumref09_Print X = some (bs x)) (pY : m_triviumref09_Print Y = some (bs y)) (pZ : m_triviumref09_Print Z = some (bs z)) (k vk : Int) (is f s : Bool) :
    m_triviumref38_Line q (k, (X, Y, Z), (is, X), Y, (vk, wB f d X Y, wB s e Y Z)) = some (bs (if isT k then (qL q).dropLast ++ ([58, 32] ++ tdL k vk is f s d e x y z) else [])) := by
  have hl := qL_len hq
  have hdl : (qL q).dropLast.length ≤ 6000 := by rw [List.length_dropLast]; omega
  have ev3 : (if decide (0 < (((bs (qL q)).size : Nat) : Int)) = true then bd (cs (bs (qL q)) 0 (wi64 ((((bs (qL q)).size : Nat) : Int) - 1))) fun x5 => some x5 else some (bs (qL q))) = some (bs (qL q).dropLast) := by
    by_cases h0 : qL q = []
    · rw [h0]; rfl
    · have hlen := List.length_pos_iff.2 h0
      have e0 : wi64 ((((bs (qL q)).size : Nat) : Int) - 1) = (((qL q).length - 1 : Nat) : Int) := by rw [bs_size, wi64_eq (by omega) (by omega)]; omega
      have e1 : cs (bs (qL q)) 0 (((qL q).length - 1 : Nat) : Int) = some (bs (qL q).dropLast) := by
        have := cs_bs (qL q) 0 ((qL q).length - 1) (by omega) (by omega)
        rw [List.drop_zero, ← List.dropLast_eq_take] at this
        exact this
      rw [if_pos (decide_eq_true (by rw [bs_size]; omega)), e0, e1, bd_some]
  have l0 := vdL_len vk
  have l1 := atL_len f d x y hd0 hd1 hx hy
  have l2 := atL_len s e y z he0 he1 hy hz
  have ra := refAt_eq f d hd0 hd1 x y hx hy X Y pX pY
  have rb := refAt_eq s e he0 he1 y z hy hz Y Z pY pZ
  unfold m_triviumref38_Line
  show bd (m_triviumref22_Query q) _ = _
  rw [qL_ref hq, bd_some, ev3, bd_some]
  generalize (qL q).dropLast = b at *
  rw [cat_bs (by simp only [List.length_cons, List.length_nil]; omega), bd_some]
  have cc : ∀ u v : List UInt8, u.length ≤ 10000 → v.length ≤ 1000 → cat (bs u) (bs v) = some (bs (u ++ v)) := fun u v hu hv => cat_bs (by omega)
  unfold tdL isT
  by_cases h1 : k = 1
  · subst h1
    show (if decide ((1 : Int) = 1) = true then bd (cat (bs (b ++ [58, 32])) (bs [100, 101, 108, 105, 118, 101, 114, 32])) fun x10 => bd (m_triviumref09_Print X) fun x12 => bd (cat x10 x12) fun x14 => bd (cat x14 (bs [32, 100, 114, 111, 112, 32])) fun x16 => bd (m_triviumref09_Print Y) fun x18 => bd (cat x16 x18) fun x20 => bd (cat x20 (bs [32, 108, 111, 111, 112, 32])) fun x22 => bd (m_triviumref09_Print Z) fun x24 => bd (cat x22 x24) fun x26 => some x26 else _) = _
    rw [if_pos (by decide), cc _ _ (by simp only [List.length_append, List.length_cons, List.length_nil]; omega) (by simp), bd_some, pX, bd_some, cc _ _ (by simp only [List.length_append, List.length_cons, List.length_nil]; omega) (by omega), bd_some, cc _ _ (by simp only [List.length_append, List.length_cons, List.length_nil]; omega) (by simp), bd_some, pY, bd_some, cc _ _ (by simp only [List.length_append, List.length_cons, List.length_nil]; omega) (by omega), bd_some, cc _ _ (by simp only [List.length_append, List.length_cons, List.length_nil]; omega) (by simp), bd_some, pZ, bd_some, cc _ _ (by simp only [List.length_append, List.length_cons, List.length_nil]; omega) (by omega), bd_some]
    simp
  · have d1 : decide (k = 1) = false := decide_eq_false h1
    by_cases h2 : k = 2
    · subst h2
      cases is with
      | true =>
        show bd (m_triviumref09_Print X) (fun x34 => bd (cat (bs (b ++ [58, 32])) x34) fun x36 => some x36) = _
        rw [pX, bd_some, cc _ _ (by simp only [List.length_append, List.length_cons, List.length_nil]; omega) (by omega), bd_some]
        simp
      | false =>
        show bd (cat (bs (b ++ [58, 32])) (bs [117, 110, 100, 101, 102, 105, 110, 101, 100])) (fun x31 => some x31) = _
        rw [cc _ _ (by simp only [List.length_append, List.length_cons, List.length_nil]; omega) (by simp), bd_some]
        simp
    · have d2 : decide (k = 2) = false := decide_eq_false h2
      by_cases h3 : k = 3
      · subst h3
        show bd (m_triviumref09_Print Y) (fun x39 => bd (cat (bs (b ++ [58, 32])) x39) fun x41 => some x41) = _
        rw [pY, bd_some, cc _ _ (by simp only [List.length_append, List.length_cons, List.length_nil]; omega) (by omega), bd_some]
        simp
      · have d3 : decide (k = 3) = false := decide_eq_false h3
        by_cases h4 : k = 4
        · subst h4
          show bd (m_triviumref38_Verdict vk) (fun x44 => bd (cat (bs (b ++ [58, 32])) x44) fun x46 => bd (m_triviumref38_at (wB f d X Y)) fun x48 => bd (cat x46 x48) fun x50 => bd (m_triviumref38_at (wB s e Y Z)) fun x52 => bd (cat x50 x52) fun x54 => some x54) = _
          rw [refVerdict_eq, bd_some, cc _ _ (by simp only [List.length_append, List.length_cons, List.length_nil]; omega) (by omega), bd_some, ra, bd_some, cc _ _ (by simp only [List.length_append, List.length_cons, List.length_nil]; omega) (by omega), bd_some, rb, bd_some, cc _ _ (by simp only [List.length_append, List.length_cons, List.length_nil]; omega) (by omega), bd_some]
          simp
        · have d4 : decide (k = 4) = false := decide_eq_false h4
          simp only [d1, d2, d3, d4, Bool.false_eq_true, if_false, Bool.or_false, bd_some]
end
/-! the law's answers -/
def rc (t : D_api_Rat) : D_api_Rat := rI (cleanN t 1) (cleanD t 1)
def qc (t : D_api_Rat) : D_triviumref08_Q := rQ (cleanN t 1) (cleanD t 1)
def rcL (t : D_api_Rat) : List UInt8 := rtL (cleanN t 1) (cleanD t 1)
theorem rc_facts (t : D_api_Rat) : m_ratio_Print (rc t) = some (bs (rcL t)) ∧ m_triviumref09_Print (qc t) = some (bs (rcL t)) ∧ (rcL t).length ≤ 200 ∧ m_triviumref08_Of (rc t) = some (qc t) := by
  have hbp := cleanD_pos t 1
  have hbl := cleanD_lt t 1 (by decide)
  have hal := cleanN_lt t 1
  have la := nl_len (x := ((cleanN t 1).natAbs : Int)) (n := 1) (by omega) hal
  have lb := nl_len (x := cleanD t 1) (n := 1) (by omega) hbl
  have za := zl_nl_len (x := ((cleanN t 1).natAbs : Int)) (by omega)
  have zb := zl_nl_len (x := cleanD t 1) (by omega)
  have hl := rtL_len (cleanN t 1) (cleanD t 1) (by omega)
  exact ⟨ratioPrint_eq _ _ (by omega) (by omega) (by omega), ref09Print_eq _ _ (by omega) (by omega) (by omega), by unfold rcL; omega, ref08Of_eq _ _ (by omega) (by omega) (by omega)⟩
def Rin (t : D_api_Rat) : Prop := Limbs t.1.2 ∧ Limbs t.2 ∧ t.1.2.length ≤ 9223372036854775807 ∧ t.2.length ≤ 9223372036854775807
theorem rc_clean (t : D_api_Rat) (h : Rin t) : m_triviumref08_Clean ((t.1.1, t.1.2), t.2) 1 = some (rc t) := ref08Clean_eq t 1 h.1 h.2.1 (by decide) (by decide) h.2.2.1 h.2.2.2 (by decide)
def anA (k vk : Int) (is f s : Bool) (d : Int) (X Y Z : D_api_Rat) : D_engine_Answer := (k, (X, Y, Z), (is, X), Y, (vk, wA f d X Y, wA s (d / 2) Y Z))
def anB (k vk : Int) (is f s : Bool) (d : Int) (X Y Z : D_triviumref08_Q) : D_triviumref37_Answer := (k, (X, Y, Z), (is, X), Y, (vk, wB f d X Y, wB s (d / 2) Y Z))
theorem both_eq (k vk : Int) (is f s : Bool) (d : Int) (tX tY tZ : D_api_Rat) (h0 : 0 ≤ d) (h1 : d < 4294967296) (hX : Rin tX) (hY : Rin tY) (hZ : Rin tZ) : m_triviumlaw38_both (k, vk, is, f, s, d, tX, tY, tZ) = some (anA k vk is f s d (rc tX) (rc tY) (rc tZ), anB k vk is f s d (qc tX) (qc tY) (qc tZ)) := by
  have c1 := rc_clean tX hX
  have c2 := rc_clean tY hY
  have c3 := rc_clean tZ hZ
  have o1 : m_triviumref08_Of (((rc tX).1.1, (rc tX).1.2), (rc tX).2) = some (qc tX) := (rc_facts tX).2.2.2
  have o2 : m_triviumref08_Of (((rc tY).1.1, (rc tY).1.2), (rc tY).2) = some (qc tY) := (rc_facts tY).2.2.2
  have o3 : m_triviumref08_Of (((rc tZ).1.1, (rc tZ).1.2), (rc tZ).2) = some (qc tZ) := (rc_facts tZ).2.2.2
  have q2 : qd .u32 d 2 = some (d / 2) := by
    unfold qd
    rw [if_neg (by decide)]
    congr 1
    rw [Int.tdiv_eq_ediv_of_nonneg h0]
    have e0 : IntKind.u32.wrap (d / 2) = (d / 2) % 4294967296 := rfl
    rw [e0, Int.emod_eq_of_lt (by omega) (by omega)]
  unfold m_triviumlaw38_both
  dsimp only
  rw [c1, bd_some, c2, bd_some, c3, bd_some, o1, bd_some, o2, bd_some, o3, bd_some, q2]
  cases f <;> cases s <;> rfl
theorem frac_eq (a b : Int) (ha : m_whole_Of a = some (zI a)) (hb : m_whole_Of b = some (zI b)) (h0 : 0 < b) (la : Lm 1 a) (lb : Lm 1 b) : m_rat_Frac a b = some (rI (a / Int.gcd a b) (b / Int.gcd a b), 0) := by
  unfold m_rat_Frac
  rw [ha, bd_some, hb, bd_some, rMake_eq a b h0 la lb (by decide), bd_some]
theorem itoa_one (i : Nat) (h : i < 10) : Lib.itoa (i : Int) = [UInt8.ofNat (48 + i)] := by
  unfold Lib.itoa
  rw [if_neg (by omega), Int.toNat_natCast, Lib.decDigits_one h]
theorem works38 : m_triviumlaw38_works = some true := by
  have n1 : ∀ x : Int, 0 ≤ x → x < 4294967296 → (nl x).length ≤ 1 := fun x h0 h1 => nl_len h0 (by rw [Int.pow_one]; exact h1)
  have z1 : ∀ x : Int, 0 ≤ x → x < 4294967296 → (zl x).length ≤ 3 := fun x h0 h1 => by have := zl_nl_len h0; have := n1 x h0 h1; omega
  have wof : ∀ x : Int, 0 ≤ x → x < 100 → m_whole_Of x = some (zI x) := fun x h0 h1 => by
    have := n1 x h0 (by omega)
    unfold m_whole_Of
    rw [if_neg (by rw [decide_eq_true_eq]; omega), show wu64 x = x from wu64_eq h0 (by omega), natOf_eq x h0 (by omega), bd_some, wMade_eq _ _ h0 (by omega), bd_some, if_neg (by decide)]
  have lm : ∀ x : Int, 0 ≤ x → x < 100 → Lm 1 x := fun x h0 h1 => by unfold Lm; rw [Int.pow_one]; omega
  have f1 : m_rat_Frac 2 3 = some (rI 2 3, 0) := frac_eq 2 3 (wof 2 (by decide) (by decide)) (wof 3 (by decide) (by decide)) (by decide) (lm 2 (by decide) (by decide)) (lm 3 (by decide) (by decide))
  have f2 : m_rat_Frac 1 3 = some (rI 1 3, 0) := frac_eq 1 3 (wof 1 (by decide) (by decide)) (wof 3 (by decide) (by decide)) (by decide) (lm 1 (by decide) (by decide)) (lm 3 (by decide) (by decide))
  have f3 : m_rat_Of 0 = some (rI 0 1) := by
    unfold m_rat_Of m_rat_one
    rw [wof 0 (by decide) (by decide), bd_some, natOf_eq 1 (by decide) (by decide)]
    rfl
  have p : ∀ a b : Int, 0 ≤ a → a < 100 → 0 ≤ b → b < 100 → m_ratio_Print (rI a b) = some (bs (rtL a b)) := fun a b a0 a1 b0 b1 => ratioPrint_eq a b b0 (by rw [show ((a.natAbs : Nat) : Int) = a by omega]; have := z1 a a0 (by omega); omega) (by have := z1 b b0 (by omega); omega)
  have t23 : rtL 2 3 = [50, 47, 51] := by
    unfold rtL zsL
    rw [if_neg (by decide), if_neg (by decide)]
    show Lib.decDigits 2 ++ 47 :: Lib.decDigits 3 = _
    rw [Lib.decDigits_one (by decide), Lib.decDigits_one (by decide)]; rfl
  have t13 : rtL 1 3 = [49, 47, 51] := by
    unfold rtL zsL
    rw [if_neg (by decide), if_neg (by decide)]
    show Lib.decDigits 1 ++ 47 :: Lib.decDigits 3 = _
    rw [Lib.decDigits_one (by decide), Lib.decDigits_one (by decide)]; rfl
  have t01 : rtL 0 1 = [48] := by
    unfold rtL zsL
    rw [if_pos rfl, if_neg (by decide)]
    exact Lib.decDigits_one (by decide)
  have p1 := p 2 3 (by decide) (by decide) (by decide) (by decide)
  have p2 := p 1 3 (by decide) (by decide) (by decide) (by decide)
  have p3 := p 0 1 (by decide) (by decide) (by decide) (by decide)
  rw [t23] at p1
  rw [t13] at p2
  rw [t01] at p3
  have td := told1_eq [50, 47, 51] [49, 47, 51] [48] (by decide) (by decide) (by decide) (rI 2 3) (rI 1 3) (rI 0 1) p1 p2 p3 (false, ((false, []), [])) ((false, []), []) (0, (false, 0, ((false, []), []), ((false, []), [])), (false, 0, ((false, []), []), ((false, []), [])))
  have hq : Qok (1, bs [97], bs [], bs [115], 16843009, (0, 0), 0) := by
    refine ⟨?_, ?_, ?_, ⟨?_, ?_⟩, ⟨?_, ?_⟩, ?_, ?_⟩ <;> decide
  have hpr : prL 16843009 = [49, 46, 49, 46, 49, 46, 49] := by
    show Lib.itoa ((1 : Nat) : Int) ++ 46 :: (Lib.itoa ((1 : Nat) : Int) ++ 46 :: (Lib.itoa ((1 : Nat) : Int) ++ 46 :: Lib.itoa ((1 : Nat) : Int))) = _
    rw [itoa_one 1 (by decide)]; rfl
  have hqL : qL (1, bs [97], bs [], bs [115], 16843009, (0, 0), 0) = [112, 114, 111, 98, 32, 97, 32, 115, 32, 49, 46, 49, 46, 49, 46, 49, 59] := by
    show qyL 1 [97] [] [115] 16843009 (0, 0) 0 = _
    unfold qyL
    rw [if_pos rfl, hpr]
    simp only [join2, Lib.join_one]
    rfl
  have hline := line_of (1, bs [97], bs [], bs [115], 16843009, (0, 0), 0) _ _ hq (by decide) td
  rw [hqL] at hline
  unfold m_triviumlaw38_works
  rw [f1, bd_some, f2, bd_some, f3, bd_some]
  show bd (m_report_Line (1, bs [97], bs [], bs [115], 16843009, (0, 0), 0) (1, (rI 2 3, rI 1 3, rI 0 1), (false, ((false, []), [])), ((false, []), []), (0, (false, 0, ((false, []), []), ((false, []), [])), (false, 0, ((false, []), []), ((false, []), []))))) _ = _
  rw [hline, bd_some, lt_eq, sq_bs]
  rfl
def Tin (t : D_triviumlaw38_Told) : Prop := (0 ≤ t.2.2.2.2.2.1 ∧ t.2.2.2.2.2.1 < 4294967296) ∧ Rin t.2.2.2.2.2.2.1 ∧ Rin t.2.2.2.2.2.2.2.1 ∧ Rin t.2.2.2.2.2.2.2.2
theorem lines_same (q : D_api_Query) (hq : Qok q) (k vk : Int) (is f s : Bool) (d : Int) (tX tY tZ : D_api_Rat) (h0 : 0 ≤ d) (h1 : d < 4294967296) : ∃ r : List UInt8, r.length ≤ 8000 ∧ m_report_Line q (anA k vk is f s d (rc tX) (rc tY) (rc tZ)) = some (bs r) ∧ m_triviumref38_Line q (anB k vk is f s d (qc tX) (qc tY) (qc tZ)) = some (bs r) := by
  obtain ⟨x1, x2, x3, -⟩ := rc_facts tX
  obtain ⟨y1, y2, y3, -⟩ := rc_facts tY
  obtain ⟨z1, z2, z3, -⟩ := rc_facts tZ
  have ht := told_eq d (d / 2) h0 h1 (by omega) (by omega) (rcL tX) (rcL tY) (rcL tZ) x3 y3 z3 (rc tX) (rc tY) (rc tZ) x1 y1 z1 k vk is f s
  have hr := refLine_eq d (d / 2) h0 h1 (by omega) (by omega) (rcL tX) (rcL tY) (rcL tZ) x3 y3 z3 q hq (qc tX) (qc tY) (qc tZ) x2 y2 z2 k vk is f s
  have hlen := tdL_len d (d / 2) h0 h1 (by omega) (by omega) (rcL tX) (rcL tY) (rcL tZ) x3 y3 z3 k vk is f s
  have hl := qL_len hq
  have hdl : (qL q).dropLast.length ≤ 6000 := by rw [List.length_dropLast]; omega
  refine ⟨_, ?_, ?_, hr⟩
  · split
    · simp only [List.length_append, List.length_cons, List.length_nil]; omega
    · simp
  · cases hT : isT k with
    | true =>
      rw [hT] at ht
      rw [if_pos rfl]
      exact line_of q _ _ hq (by omega) ht
    | false =>
      rw [hT] at ht
      rw [if_neg (by decide)]
      exact line_none q _ _ ht
end Go.Proofs.YtkjkipkfndckfaaGreatDoor.AP
/- Arguments that are rows of texts: how much they hold. -/
namespace Go.Proofs.YtkjkipkfndckfaaGreatDoor.AE
open Go Go.RowKit Go.WideShapes Go.ChangeAt Go.ChangeShapes
/-- how much texts hold: their letters, and one each -/
def szB : List ByteArray → Nat
  | [] => 0
  | s :: l => s.size + 1 + szB l
def strOf {H : Type} : DataW H → ByteArray
  | .lit (.string b) => ⟨b.toArray⟩
  | _ => ByteArray.empty
theorem bulk_pos {H : Type} (d : DataW H) : 1 ≤ Rows.uptoBulk d := by
  cases d with
  | lit l => cases l <;> simp [Rows.uptoBulk]
  | nil => simp [Rows.uptoBulk]
  | ptr d => simp [Rows.uptoBulk]
  | slice elems spare => simp [Rows.uptoBulk]
  | agg parts => simp [Rows.uptoBulk]
  | iface t d => simp [Rows.uptoBulk]
  | map entries => simp [Rows.uptoBulk]
  | held h => simp [Rows.uptoBulk]
theorem strOf_le {H : Type} (d : DataW H) : (strOf d).size + 1 ≤ Rows.uptoBulk d := by
  have h := bulk_pos d
  unfold strOf
  split
  · rename_i b
    show b.toArray.size + 1 ≤ _
    simp [Rows.uptoBulk]
  · exact h
theorem szB_le {H : Type} : ∀ l : List (DataW H), szB (l.map strOf) ≤ Rows.uptoBulkAll l
  | [] => Nat.zero_le _
  | d :: l => by
    have h1 := szB_le l
    have h2 := strOf_le d
    show (strOf d).size + 1 + szB (l.map strOf) ≤ Rows.uptoBulk d + Rows.uptoBulkAll l
    omega
section
variable {H : Type} {enc : TypeId × Value → H} {P : Program} {w : World}
theorem open_strs {i : TypeId} {b0 : Nat} {r : Reach} {v : Value} {d : DataW H} {p : List MemPlace} (hi : Is P (.sl .str) i) (hv : Value.okWide P w r b0 i v) (h : DataW.Trod enc P w 0 (fun _ => true) true i v d p) :
    ∃ y : List ByteArray, Ty.ok (.sl .str) y ∧ Ty.rel w N0 (.sl .str) y v ∧ szB y ≤ Rows.uptoBulk d := by
  obtain ⟨fuel, hf⟩ := h
  obtain ⟨n, hn⟩ := hi
  obtain ⟨e, h1, k, h2⟩ := Is.desc ⟨n, hn⟩
  obtain ⟨a0, l0, c0, rfl⟩ := okWide_slice h1 hv
  rcases DataW.trod_slice h1 hf with ⟨hc, hd⟩ | ⟨a, len, cap, elems, rest, m, _, hcs, hx, _, hl, hm, hel, hcell, _⟩
  · cases hc
    cases hd
    exact ⟨[], ⟨Nat.zero_le _, fun i x h => by cases h⟩, ⟨_, ⟨none, 0, rfl, Nat.le_refl _, Nat.zero_le _, fun h => absurd h (Nat.lt_irrefl _)⟩, rfl⟩, Nat.zero_le _⟩
  · cases hcs
    cases hx
    have hsz : P.cellsOf e = 1 := chk_cells h2
    rw [hsz] at hcell
    have hget : ∀ (i : Nat) (x : ByteArray), at? ((elems.map (·.1)).map strOf) i = some x → w.cell? (a.add i) = some (.string x) ∧ x.size ≤ maxLen := by
      intro i x hx
      unfold at? at hx
      rw [List.getElem?_map, List.getElem?_map] at hx
      obtain ⟨z0, hz0, rfl⟩ := Option.map_eq_some_iff.1 hx
      obtain ⟨z, hz, rfl⟩ := Option.map_eq_some_iff.1 hz0
      have hi : i < l0 := by rw [← hel]; exact (List.getElem?_eq_some_iff.1 hz).1
      have hb := hcell i hi
      rw [hz] at hb
      obtain ⟨ds, hd1, hd2⟩ := Option.bind_eq_some_iff.1 hb
      obtain ⟨s, rfl, hs, hmax⟩ := DataW.trod_string (Is.desc ⟨k, h2⟩) hd2
      subst hs
      obtain ⟨_, hlen, hcs⟩ := World.cells?_some hd1
      have hc0 := hcs 0 (by decide)
      rw [Addr.add_add, Nat.mul_one, Nat.add_zero] at hc0
      have e2 : strOf (DataW.lit (H := H) (.string s.data.toList)) = s := rfl
      exact ⟨by rw [e2]; exact hc0, by rw [e2]; exact hmax⟩
    have hlen : ((elems.map (·.1)).map strOf).length = l0 := by simp [hel]
    refine ⟨(elems.map (·.1)).map strOf, ⟨?_, fun i x hx => ?_⟩, ⟨[Value.slice (some a) l0 c0], ⟨some a, c0, ?_, ?_, hm, fun _ => ⟨a, rfl, fun h => h, fun i x hx => ?_⟩⟩, rfl⟩, ?_⟩
    · show List.length ((elems.map (·.1)).map strOf) ≤ 9223372036854775807
      have : maxLen = 9223372036854775807 := rfl
      omega
    · exact (hget i x hx).2
    · show [Value.slice (some a) l0 c0] = [Value.slice (some a) (List.length ((elems.map (·.1)).map strOf)) c0]
      rw [hlen]
    · show List.length ((elems.map (·.1)).map strOf) ≤ c0
      omega
    · refine ⟨[.string x], rfl, fun j u hj => ?_⟩
      have hj0 : j = 0 := by
        have := (List.getElem?_eq_some_iff.1 hj).1
        simp at this
        exact this
      subst hj0
      have : u = .string x := (Option.some.inj hj).symm
      rw [this]
      show w.cell? (a.add (i * 1 + 0)) = _
      rw [Nat.mul_one, Nat.add_zero]
      exact (hget i x hx).1
    · have := szB_le (elems.map (·.1))
      show _ ≤ Rows.uptoBulkAll _ + Rows.uptoBulkAll _ + 1
      omega
end
end Go.Proofs.YtkjkipkfndckfaaGreatDoor.AE
/- Reports: all lines, by both; the plain law. -/
namespace Go.Proofs.YtkjkipkfndckfaaGreatDoor.AP
open Go Go.Proofs.YtkjkipkfndckfaaGreatDoor.Tri Go.Proofs.YtkjkipkfndckfaaGreatDoor.AE
set_option linter.unusedVariables false
set_option linter.unusedSimpArgs false
set_option maxRecDepth 4000
def anAt (t : D_triviumlaw38_Told) : D_engine_Answer := anA t.1 t.2.1 t.2.2.1 t.2.2.2.1 t.2.2.2.2.1 t.2.2.2.2.2.1 (rc t.2.2.2.2.2.2.1) (rc t.2.2.2.2.2.2.2.1) (rc t.2.2.2.2.2.2.2.2)
def anBt (t : D_triviumlaw38_Told) : D_triviumref37_Answer := anB t.1 t.2.1 t.2.2.1 t.2.2.2.1 t.2.2.2.2.1 t.2.2.2.2.2.1 (qc t.2.2.2.2.2.2.1) (qc t.2.2.2.2.2.2.2.1) (qc t.2.2.2.2.2.2.2.2)
theorem bothT_eq (t : D_triviumlaw38_Told) (h : Tin t) : m_triviumlaw38_both t = some (anAt t, anBt t) := both_eq t.1 t.2.1 t.2.2.1 t.2.2.2.1 t.2.2.2.2.1 t.2.2.2.2.2.1 t.2.2.2.2.2.2.1 t.2.2.2.2.2.2.2.1 t.2.2.2.2.2.2.2.2 h.1.1 h.1.2 h.2.1 h.2.2.1 h.2.2.2
open Classical in
/-- the line of a query and an answer -/
noncomputable def rpL (q : D_api_Query) (t : D_triviumlaw38_Told) : List UInt8 := if h : Qin q ∧ Tin t then (lines_same (cQ q) (cQ_ok h.1) t.1 t.2.1 t.2.2.1 t.2.2.2.1 t.2.2.2.2.1 t.2.2.2.2.2.1 t.2.2.2.2.2.2.1 t.2.2.2.2.2.2.2.1 t.2.2.2.2.2.2.2.2 h.2.1.1 h.2.1.2).choose else []
theorem rpL_eq (q : D_api_Query) (t : D_triviumlaw38_Told) (hq : Qin q) (ht : Tin t) : (rpL q t).length ≤ 8000 ∧ m_report_Line (cQ q) (anAt t) = some (bs (rpL q t)) ∧ m_triviumref38_Line (cQ q) (anBt t) = some (bs (rpL q t)) := by
  unfold rpL
  rw [dif_pos ⟨hq, ht⟩]
  exact (lines_same (cQ q) (cQ_ok hq) t.1 t.2.1 t.2.2.1 t.2.2.2.1 t.2.2.2.2.1 t.2.2.2.2.2.1 t.2.2.2.2.2.2.1 t.2.2.2.2.2.2.2.1 t.2.2.2.2.2.2.2.2 ht.1.1 ht.1.2).choose_spec
/-- so many lines, one behind the other -/
noncomputable def rpsL (p0 : List D_api_Query) (p1 : List D_triviumlaw38_Told) : Nat → List UInt8
  | 0 => []
  | i + 1 => rpsL p0 p1 i ++ (match p0[i]?, p1[i]? with | some q, some t => rpL q t ++ [10] | _, _ => [])
theorem rpsL_len (p0 : List D_api_Query) (p1 : List D_triviumlaw38_Told) (h0 : ∀ q ∈ p0, Qin q) (h1 : ∀ t ∈ p1, Tin t) : ∀ n : Nat, (rpsL p0 p1 n).length ≤ n * 8001
  | 0 => by simp [rpsL]
  | n + 1 => by
    have ih := rpsL_len p0 p1 h0 h1 n
    unfold rpsL
    rw [List.length_append]
    cases hq : p0[n]? with
    | none => exact Nat.le_trans ih (Nat.mul_le_mul_right _ (Nat.le_succ n))
    | some q =>
      cases ht : p1[n]? with
      | none => exact Nat.le_trans ih (Nat.mul_le_mul_right _ (Nat.le_succ n))
      | some t =>
        have := (rpL_eq q t (h0 q (List.mem_of_getElem? hq)) (h1 t (List.mem_of_getElem? ht))).1
        show _ + (rpL q t ++ [10]).length ≤ _
        rw [List.length_append, show ([10] : List UInt8).length = 1 from rfl]
        omega
theorem rpsL_count (p0 : List D_api_Query) (p1 : List D_triviumlaw38_Told) : ∀ n : Nat, n ≤ p0.length → n ≤ p1.length → n ≤ (rpsL p0 p1 n).count 10
  | 0, _, _ => Nat.zero_le _
  | n + 1, h0, h1 => by
    have ih := rpsL_count p0 p1 n (by omega) (by omega)
    unfold rpsL
    rw [List.getElem?_eq_getElem (show n < p0.length by omega), List.getElem?_eq_getElem (show n < p1.length by omega), List.count_append]
    show n + 1 ≤ _ + List.count 10 (rpL p0[n] p1[n] ++ [10])
    rw [List.count_append]
    have : List.count (10 : UInt8) [10] = 1 := rfl
    omega
/-- a builder that is written to -/
theorem write_eq (x : List UInt8) (f : Bool) (l : List UInt8) (h : l.length + x.length ≤ 1000000) : m_strings_Builder_WriteString_M (bs x) f (i8 l) = some (false, i8 (l ++ x)) := by
  unfold m_strings_Builder_WriteString_M m_strings_Builder_copyCheck_M
  cases f with
  | true => rw [if_pos rfl, bd_some, apS_i8 l x (by omega), bd_some]
  | false => rw [if_neg (by decide), bd_some, apS_i8 l x (by omega), bd_some]
theorem bstring_eq (f : Bool) (l : List UInt8) : m_strings_Builder_String_M f (i8 l) = some (bs l) := by
  unfold m_strings_Builder_String_M
  by_cases h : l = []
  · subst h; rfl
  · have : ¬ (i8 l).length = 0 := by
      have := List.length_pos_iff.2 h
      unfold i8
      rw [List.length_map]; omega
    rw [if_neg (by simpa using this), ust_i8 l h, bd_some]
theorem ct_take {α : Type} (l : List α) (n : Nat) : ct l 0 (min (l.length : Int) (n : Int)) = some (l.take n) := by
  rw [ct_of ⟨by omega, by omega, by omega⟩]
  congr 1
  rw [show (0 : Int).toNat = 0 from rfl, List.drop_zero]
  rcases Nat.le_total l.length n with h | h
  · rw [show min (l.length : Int) (n : Int) = (l.length : Int) by omega, Int.toNat_natCast, List.take_length, List.take_of_length_le h]
  · rw [show min (l.length : Int) (n : Int) = (n : Int) by omega, Int.toNat_natCast]
theorem join_szB : ∀ l : List ByteArray, (Lib.join (l.map (·.data.toList)) [32]).length ≤ szB l
  | [] => by rw [List.map_nil, Lib.join_nil]; exact Nat.zero_le _
  | [x] => by rw [List.map_cons, List.map_nil, Lib.join_one]; show x.size ≤ x.size + 1 + 0; omega
  | x :: y :: l => by
    have ih := join_szB (y :: l)
    rw [List.map_cons, List.map_cons, join2, List.length_append, List.length_append]
    rw [List.map_cons] at ih
    show x.size + (1 + _) ≤ x.size + 1 + szB (y :: l)
    omega
theorem szB_take : ∀ (l : List ByteArray) (n : Nat), szB (l.take n) ≤ szB l
  | [], n => by simp
  | x :: l, 0 => Nat.zero_le _
  | x :: l, n + 1 => by
    have := szB_take l n
    rw [List.take_succ_cons]
    show x.size + 1 + szB (l.take n) ≤ x.size + 1 + szB l
    omega
theorem reportAll_plain (p0 : List D_api_Query) (p1 : List D_triviumlaw38_Told) (p2 : List ByteArray) (k0 : p0.length ≤ 9223372036854775807) (k1 : p1.length ≤ 9223372036854775807) (k2 : p2.length ≤ 9223372036854775807) (h0 : ∀ q ∈ p0, Qin q) (h1 : ∀ t ∈ p1, Tin t) (hb : szB p2 ≤ 2000000) : m_triviumlaw38_ReportAll p0 p1 p2 = some true := by
  have l1 : lp (m_triviumlaw38_ReportAll_l1 p1) (0, []) = some ((p1.take 6).map anAt) := by
    refine lp_mapN p1 6 anAt _ (fun i x acc hx hi ha => ?_) (lp_done ?_)
    · have hlt := (List.getElem?_eq_some_iff.1 hx).1
      have e1 : (if decide ((i : Int) < (p1.length : Int)) = true then some (decide ((i : Int) < 6)) else some false) = some true := by
        rw [if_pos (decide_eq_true (by omega)), decide_eq_true (by omega)]
      have e2 : rd p1 (i : Int) = some x := by rw [rd_nat]; exact hx
      have e3 := bothT_eq x (h1 x (List.mem_of_getElem? hx))
      have e4 : wi64 ((i : Int) + 1) = (i : Int) + 1 := wi64_eq (by omega) (by omega)
      have e5 : ap 544 acc [anAt x] = some (acc ++ [anAt x]) := ap_of (by rw [ha]; simp; omega)
      unfold m_triviumlaw38_ReportAll_l1
      dsimp only
      rw [e1, bd_some, if_pos rfl, e2, bd_some, e3, bd_some]
      show bd (ap 544 acc [anAt x]) _ = _
      rw [e5, bd_some, e4]
    · have e1 : (if decide ((((p1.take 6).length : Nat) : Int) < (p1.length : Int)) = true then some (decide ((((p1.take 6).length : Nat) : Int) < 6)) else some false) = some false := by
        rw [List.length_take]
        by_cases hc : p1.length ≤ 6
        · rw [if_neg (by rw [decide_eq_true_eq]; omega)]
        · rw [if_pos (decide_eq_true (by omega)), decide_eq_false (by omega)]
      unfold m_triviumlaw38_ReportAll_l1
      dsimp only
      rw [e1, bd_some, if_neg (by decide)]
  have l2 : lp (m_triviumlaw38_ReportAll_l2 p0) (0, []) = some ((p0.take 6).map cQ) := by
    refine lp_mapN p0 6 cQ _ (fun i x acc hx hi ha => ?_) (lp_done ?_)
    · have hlt := (List.getElem?_eq_some_iff.1 hx).1
      have e1 : (if decide ((i : Int) < (p0.length : Int)) = true then some (decide ((i : Int) < 6)) else some false) = some true := by
        rw [if_pos (decide_eq_true (by omega)), decide_eq_true (by omega)]
      have e2 : rd p0 (i : Int) = some x := by rw [rd_nat]; exact hx
      have e4 : wi64 ((i : Int) + 1) = (i : Int) + 1 := wi64_eq (by omega) (by omega)
      have e5 : ap 88 acc [cQ x] = some (acc ++ [cQ x]) := ap_of (by rw [ha]; simp; omega)
      unfold m_triviumlaw38_ReportAll_l2
      dsimp only
      rw [e1, bd_some, if_pos rfl, e2, bd_some, cleanQuery_eq, bd_some, e5, bd_some, e4]
    · have e1 : (if decide ((((p0.take 6).length : Nat) : Int) < (p0.length : Int)) = true then some (decide ((((p0.take 6).length : Nat) : Int) < 6)) else some false) = some false := by
        rw [List.length_take]
        by_cases hc : p0.length ≤ 6
        · rw [if_neg (by rw [decide_eq_true_eq]; omega)]
        · rw [if_pos (decide_eq_true (by omega)), decide_eq_false (by omega)]
      unfold m_triviumlaw38_ReportAll_l2
      dsimp only
      rw [e1, bd_some, if_neg (by decide)]
  obtain ⟨n, hn⟩ : ∃ n, n = min (min p0.length 6) (min p1.length 6) := ⟨_, rfl⟩
  have lv1 : ((p1.take 6).map anAt).length = min p1.length 6 := by rw [List.length_map, List.length_take]; omega
  have lv13 : ((p0.take 6).map cQ).length = min p0.length 6 := by rw [List.length_map, List.length_take]; omega
  have at0 : ∀ i, i < n → ∃ q t, p0[i]? = some q ∧ p1[i]? = some t ∧ ((p0.take 6).map cQ)[i]? = some (cQ q) ∧ ((p1.take 6).map anAt)[i]? = some (anAt t) ∧ Qin q ∧ Tin t := fun i hi => by
    have a0 : i < p0.length := by omega
    have a1 : i < p1.length := by omega
    refine ⟨p0[i], p1[i], List.getElem?_eq_getElem a0, List.getElem?_eq_getElem a1, ?_, ?_, h0 _ (List.getElem_mem a0), h1 _ (List.getElem_mem a1)⟩
    · rw [List.getElem?_map, List.getElem?_take_of_lt (by omega), List.getElem?_eq_getElem a0]; rfl
    · rw [List.getElem?_map, List.getElem?_take_of_lt (by omega), List.getElem?_eq_getElem a1]; rfl
  have llen := fun i => rpsL_len p0 p1 h0 h1 i
  have l3 : ∀ (k i : Nat), i + k = n → lp (m_triviumlaw38_ReportAll_l3 p1 ((p1.take 6).map anAt) ((p0.take 6).map cQ)) (bs (rpsL p0 p1 i), (i : Int)) = some (bs (rpsL p0 p1 n)) := by
    intro k
    induction k with
    | zero =>
      intro i hi
      obtain rfl : i = n := by omega
      have e1 : (if decide ((i : Int) < ((((p1.take 6).map anAt).length : Nat) : Int)) = true then some (decide ((i : Int) < ((((p0.take 6).map cQ).length : Nat) : Int))) else some false) = some false := by
        rw [lv1, lv13]
        by_cases hc : i < min p1.length 6
        · rw [if_pos (decide_eq_true (by omega)), decide_eq_false (by omega)]
        · rw [if_neg (by rw [decide_eq_true_eq]; omega)]
      refine lp_done ?_
      unfold m_triviumlaw38_ReportAll_l3
      dsimp only
      rw [e1, bd_some, if_neg (by decide)]
    | succ k ih =>
      intro i hi
      obtain ⟨q, t, b1, b2, b3, b4, b5, b6⟩ := at0 i (by omega)
      obtain ⟨c1, c2, c3⟩ := rpL_eq q t b5 b6
      have e1 : (if decide ((i : Int) < ((((p1.take 6).map anAt).length : Nat) : Int)) = true then some (decide ((i : Int) < ((((p0.take 6).map cQ).length : Nat) : Int))) else some false) = some true := by
        rw [lv1, lv13, if_pos (decide_eq_true (by omega)), decide_eq_true (by omega)]
      have e2 : rd p1 (i : Int) = some t := by rw [rd_nat]; exact b2
      have e3 := bothT_eq t b6
      have e4 : rd ((p0.take 6).map cQ) (i : Int) = some (cQ q) := by rw [rd_nat]; exact b3
      have e5 : wi64 ((i : Int) + 1) = ((i + 1 : Nat) : Int) := by rw [wi64_eq (by omega) (by omega)]; omega
      have hl := llen i
      have hi6 : i * 8001 ≤ 6 * 8001 := Nat.mul_le_mul_right _ (by omega)
      have hs : rpsL p0 p1 (i + 1) = rpsL p0 p1 i ++ (rpL q t ++ [10]) := by
        show rpsL p0 p1 i ++ (match p0[i]?, p1[i]? with | some q, some t => rpL q t ++ [10] | _, _ => []) = _
        rw [b1, b2]
      have st : m_triviumlaw38_ReportAll_l3 p1 ((p1.take 6).map anAt) ((p0.take 6).map cQ) (bs (rpsL p0 p1 i), (i : Int)) = some (.inl (bs (rpsL p0 p1 (i + 1)), ((i + 1 : Nat) : Int))) := by
        unfold m_triviumlaw38_ReportAll_l3
        dsimp only
        rw [e1, bd_some, if_pos rfl, e2, bd_some, e3, bd_some, e4, bd_some]
        show bd (m_triviumref38_Line (cQ q) (anBt t)) _ = _
        rw [c3, bd_some, cat_bs (by simp only [List.length_cons, List.length_nil]; omega), bd_some, cat_bs (by simp only [List.length_append, List.length_cons, List.length_nil]; omega), bd_some, e5, hs]
      rw [lp_more st]
      exact ih (i + 1) (by omega)
  have all : ∀ (k i : Nat) (f : Bool), i + k = n → ∃ g, lp (m_report_All_l1 ((p0.take 6).map cQ) ((p1.take 6).map anAt)) ((i : Int), f, i8 (rpsL p0 p1 i)) = some (g, i8 (rpsL p0 p1 n)) := by
    intro k
    induction k with
    | zero =>
      intro i f hi
      obtain rfl : i = n := by omega
      refine ⟨f, lp_done ?_⟩
      unfold m_report_All_l1
      dsimp only
      rw [if_neg (by rw [decide_eq_true_eq, lv1, lv13]; omega)]
    | succ k ih =>
      intro i f hi
      obtain ⟨q, t, b1, b2, b3, b4, b5, b6⟩ := at0 i (by omega)
      obtain ⟨c1, c2, c3⟩ := rpL_eq q t b5 b6
      have e2 : rd ((p0.take 6).map cQ) (i : Int) = some (cQ q) := by rw [rd_nat]; exact b3
      have e4 : rd ((p1.take 6).map anAt) (i : Int) = some (anAt t) := by rw [rd_nat]; exact b4
      have e5 : wi64 ((i : Int) + 1) = ((i + 1 : Nat) : Int) := by rw [wi64_eq (by omega) (by omega)]; omega
      have hl := llen i
      have hi6 : i * 8001 ≤ 6 * 8001 := Nat.mul_le_mul_right _ (by omega)
      have hs : rpsL p0 p1 (i + 1) = rpsL p0 p1 i ++ (rpL q t ++ [10]) := by
        show rpsL p0 p1 i ++ (match p0[i]?, p1[i]? with | some q, some t => rpL q t ++ [10] | _, _ => []) = _
        rw [b1, b2]
      have st : m_report_All_l1 ((p0.take 6).map cQ) ((p1.take 6).map anAt) ((i : Int), f, i8 (rpsL p0 p1 i)) = some (.inl (((i + 1 : Nat) : Int), false, i8 (rpsL p0 p1 (i + 1)))) := by
        unfold m_report_All_l1
        dsimp only
        rw [if_pos (decide_eq_true (by rw [lv1, lv13]; omega)), e2, bd_some, e4, bd_some, c2, bd_some, cat_bs (by simp only [List.length_cons, List.length_nil]; omega), bd_some, write_eq _ _ _ (by simp only [List.length_append, List.length_cons, List.length_nil]; omega), bd_some, e5, hs]
      obtain ⟨g, hg⟩ := ih (i + 1) false (by omega)
      exact ⟨g, by rw [lp_more st]; exact hg⟩
  have l3' : lp (m_triviumlaw38_ReportAll_l3 p1 ((p1.take 6).map anAt) ((p0.take 6).map cQ)) (bs [], 0) = some (bs (rpsL p0 p1 n)) := l3 n 0 (by omega)
  obtain ⟨g, hg⟩ := all n 0 true (by omega)
  have hg' : lp (m_report_All_l1 ((p0.take 6).map cQ) ((p1.take 6).map anAt)) (0, true, []) = some (g, i8 (rpsL p0 p1 n)) := hg
  have hAll : m_report_All ((p0.take 6).map cQ) ((p1.take 6).map anAt) = some (bs (rpsL p0 p1 n)) := by
    unfold m_report_All
    rw [hg', bd_some]
    dsimp only
    rw [bstring_eq, bd_some]
  have hcount : m_strings_Count (bs (rpsL p0 p1 n)) (bs [10]) = some (((rpsL p0 p1 n).count 10 : Nat) : Int) := by
    unfold m_strings_Count
    have hbt : bt (bs [10]) 0 = some 10 := rfl
    rw [if_neg (by decide), if_pos (by rfl), hbt, bd_some]
    rfl
  have hc := rpsL_count p0 p1 n (by omega) (by omega)
  have hj := join_szB (p2.take 10)
  have hz := szB_take p2 10
  have hJ : ∃ r, m_strings_Join (p2.take 10) (bs [32]) = some r := by
    unfold m_strings_Join
    rw [data_bs, if_pos ⟨by rw [List.length_take]; omega, by omega⟩]
    exact ⟨_, rfl⟩
  obtain ⟨r, hr⟩ := hJ
  have hct : ct p2 0 (min (p2.length : Int) 10) = some (p2.take 10) := ct_take p2 10
  unfold m_triviumlaw38_ReportAll
  rw [l1, bd_some, l2, bd_some, l3', bd_some, hct, bd_some, hAll, bd_some, sq_self, if_pos rfl, hcount, bd_some, if_pos (decide_eq_true (by rw [lv1, lv13]; omega)), ap_of (by rw [List.length_take]; simp; omega), bd_some, List.nil_append]
  unfold m_report_Words
  rw [hr, bd_some, bd_some, bd_some, sq_self, if_pos rfl, works38, bd_some]
end Go.Proofs.YtkjkipkfndckfaaGreatDoor.AP
/- ReportAll: the plain law, of all that may be handed in and is no more than so much. -/
namespace Go.Proofs.YtkjkipkfndckfaaGreatDoor.Pure
open Go Go.Proofs.YtkjkipkfndckfaaGreatDoor.AP Go.Proofs.YtkjkipkfndckfaaGreatDoor.AE
theorem rng {k : IntKind} {n : Int} (h : (Lit.int k n).wf = true) : k.min ≤ n ∧ n ≤ k.max := by
  have h : (decide (k.min ≤ n) && decide (n ≤ k.max)) = true := h
  rw [Bool.and_eq_true, decide_eq_true_eq, decide_eq_true_eq] at h
  exact h
theorem rng32 {n : Int} (h : (Lit.int .u32 n).wf = true) : 0 ≤ n ∧ n < 4294967296 := ⟨(rng h).1, Int.lt_add_one_of_le (rng h).2⟩
theorem rin {t : D_api_Rat} (h : Ty.ok Y_api_Rat t) : Rin t := ⟨u64lim h.1.2, u64lim h.2, h.1.2.1, h.2.1⟩
theorem ReportAll (y0 : List D_api_Query) (h0 : Ty.ok (.sl Y_api_Query) y0) (y1 : List D_triviumlaw38_Told) (h1 : Ty.ok (.sl Y_triviumlaw38_Told) y1) (y2 : List ByteArray) (h2 : Ty.ok (.sl .str) y2) (hb : szB y2 ≤ 2000000) : m_triviumlaw38_ReportAll y0 y1 y2 = some true :=
  reportAll_plain y0 y1 y2 h0.1 h1.1 h2.1 (fun q hq => by
    obtain ⟨i, hi⟩ := List.getElem?_of_mem hq
    have h := h0.2 i q hi
    exact ⟨rng32 h.2.2.2.2.1, rng32 h.2.2.2.2.2.1.1⟩) (fun t ht => by
    obtain ⟨i, hi⟩ := List.getElem?_of_mem ht
    have h := h1.2 i t hi
    exact ⟨rng32 h.2.2.2.2.2.1, rin h.2.2.2.2.2.2.1, rin h.2.2.2.2.2.2.2.1, rin h.2.2.2.2.2.2.2.2⟩) hb
end Go.Proofs.YtkjkipkfndckfaaGreatDoor.Pure
/- The law ReportAll holds of every input that is no more than so much: the row, and its card. -/
namespace Go.Proofs.YtkjkipkfndckfaaGreatDoor.reportAll
open Go.ChangeShapes Go.WideShapes Go.ChangeAt Go.RowKit
set_option linter.unusedVariables false
theorem own : ownKnob Tryz.prog.godebug = none := by kernel_rfl
theorem laidOut : laidOutB Tryz.prog = true := by kernel_rfl
theorem gTab : Tryz.prog.globalNamed "internal/strconv.uint64pow10" = some 1 := by kernel_rfl
theorem gTabType : (Tryz.prog.globals[1]?).map (·.type) = some 185 := by kernel_rfl
theorem cellsA : Tryz.prog.cellsOf 185 = 20 := by kernel_rfl
theorem cellsE : Tryz.prog.cellsOf 104 = 1 := by kernel_rfl
theorem table {W : World} (h : laidMet Tryz.prog Rows.reportAllUptoRow.laid W) : AE.Glo W :=
  Lib.tabIs_of_head (rest := _) gTab gTabType Tryz.underlying185 Tryz.underlying104 cellsE cellsA (laidMet.tail (laidMet.tail h))
set_option maxRecDepth 100000 in
theorem reads (os : Os) {H : Type} (enc : TypeId × Value → H) : ∃ places, DataW.whole enc Tryz.prog ((World.laidAll Tryz.prog os Rows.reportAllUptoRow.laid).forCall (fun _ _ => 0) ⟨#[], #[.slice none 0 0, .slice none 0 0, .slice none 0 0], []⟩).memory Tryz.f4.params.toList Rows.reportAllSpec.vars false (#[.slice none 0 0, .slice none 0 0, .slice none 0 0] : Array Value).toList 8 = some ([.nil, .nil, .nil], [], places) := ⟨[], by kernel_rfl⟩
set_option maxRecDepth 100000 in
theorem lifted (os : Os) (started : os.Started) (H : Type) (enc : TypeId × Value → H) (F : Stop.Interp) :
    ReturnsInHanded {} Tryz.checked os 4 .any ((Rows.OpenSpec.upto Rows.reportAllSpec).preRow enc Tryz.prog Tryz.f4 Rows.reportAllUptoRow.domain false Rows.reportAllUptoRow.laid) (((Rows.OpenSpec.upto Rows.reportAllSpec).at F).post enc Tryz.prog Tryz.f4 false true false false) := by
  obtain ⟨places, hx⟩ := reads os enc
  refine returnsInHanded_of_row (C := Tryz.checked) (s := Rows.OpenSpec.upto Rows.reportAllSpec) own started (by kernel_rfl) Tryz.func4
    (witness_row_at (enc := enc) (C := Tryz.checked) false (World.laidAll Tryz.prog os Rows.reportAllUptoRow.laid) #[.slice none 0 0, .slice none 0 0, .slice none 0 0] (World.laidAll_os _ _ _) (by kernel_rfl) (by kernel_rfl) (by kernel_rfl)
      (OpenSpec.preRow_of_cond 8 hx (by kernel_rfl) (fun k hk => by cases hk; kernel_rfl) (by kernel_rfl) (by rw [MakeChecks.laidMetH_plain _ _ _ (by kernel_rfl)]; exact laidMet_laidAll _ (by kernel_rfl) (by kernel_rfl)))) ?_
  intro W base args ds gs before hval0 hW _ hk _ hL0 _ _
  have hB := hk _ rfl
  clear hk
  have hL : laidMet Tryz.prog Rows.reportAllUptoRow.laid W := by rw [MakeChecks.laidMetH_plain _ _ _ (by kernel_rfl)] at hL0; exact hL0
  have hval : ∀ (j : Nat) t v, Tryz.f4.params[j]? = some t → args[j]? = some v → Value.okWide Tryz.prog W .any base t v := hval0
  have hW' := hW
  obtain ⟨p, q, hA0, hV, rfl, hfz, hnd⟩ := hW
  have hA : DataW.TrodAll enc Tryz.prog W 0 (fun _ => true) true Tryz.f4.params.toList args.toList ds p := hA0
  rw [Tryz.params4] at hA hval
  obtain ⟨v0, vs0, d0, ds0, p0, q0, hargs, rfl, rfl, h0, r0⟩ := trodAll_cons hA
  obtain ⟨v1, vs1, d1, ds1, p1, q1, rfl, rfl, rfl, h1, r1⟩ := trodAll_cons r0
  obtain ⟨v2, vs2, d2, ds2, p2, q2, rfl, rfl, rfl, h2, r2⟩ := trodAll_cons r1
  obtain ⟨rfl, rfl, rfl⟩ := trodAll_nil r2
  obtain rfl : args = #[v0, v1, v2] := by cases args; simp_all
  obtain ⟨rfl, rfl⟩ := trodVars_none hV
  have lt0 : ∀ x ∈ p0, x.block < W.heap.size := by obtain ⟨m, hm⟩ := h0; exact DataW.trod_lt m _ _ _ hm
  obtain ⟨a0, o0, e0⟩ := AE.open_v (t := (.sl AE.Y_api_Query)) ⟨40, by kernel_rfl⟩ (hval 0 69 v0 rfl rfl) h0
  have lt1 : ∀ x ∈ p1, x.block < W.heap.size := by obtain ⟨m, hm⟩ := h1; exact DataW.trod_lt m _ _ _ hm
  obtain ⟨a1, o1, e1⟩ := AE.open_v (t := (.sl AE.Y_triviumlaw38_Told)) ⟨40, by kernel_rfl⟩ (hval 1 70 v1 rfl rfl) h1
  have lt2 : ∀ x ∈ p2, x.block < W.heap.size := by obtain ⟨m, hm⟩ := h2; exact DataW.trod_lt m _ _ _ hm
  obtain ⟨a2, o2, e2, z2⟩ := AE.open_strs ⟨40, by kernel_rfl⟩ (hval 2 71 v2 rfl rfl) h2
  have hB := of_decide_eq_true hB
  simp only [List.append_nil, Rows.uptoBulkAll] at hB
  clear hA0 hval0
  have h := Pure.ReportAll a0 o0 a1 o1 a2 o2 (by omega)
  have C := AE.law_calls (table hL) (AE.k_triviumlaw38_ReportAll h) (W := W) (args := [v0, v1, v2]) ⟨v0, [v1, v2], rfl, e0, v1, [v2], rfl, e1, v2, [], rfl, e2, rfl⟩
  refine C.mono fun e W' ⟨he, bel⟩ => ?_
  subst he
  exact ⟨_, rfl, _, _, _, [], _, [], hW', trodAll_mk1 (shut_bool Tryz.underlying4 _), (trodAll_cons_mk (Below.trod laidOut (by kernel_rfl) (of_decide_eq_true (by kernel_rfl)) h0 bel lt0) (trodAll_cons_mk (Below.trod laidOut (by kernel_rfl) (of_decide_eq_true (by kernel_rfl)) h1 bel lt1) (trodAll_cons_mk (Below.trod laidOut (by kernel_rfl) (of_decide_eq_true (by kernel_rfl)) h2 bel lt2) trodAll_mk0))), rfl, bel.frame _, fun h => by cases h⟩
theorem over : Rows.reportAllUptoRow.holds Tryz.pinned (Rows.OpenSpec.upto Rows.reportAllSpec) :=
  OpenClaim.holds_of_cond 4 Tryz.f4 rfl rfl rfl rfl rfl rfl rfl ⟨rfl, rfl, rfl, rfl, rfl⟩ rfl rfl rfl rfl rfl (by kernel_rfl) Tryz.func4 (by kernel_rfl)
    (of_decide_eq_true (by kernel_rfl)) (by unfold Func.isWrapper; first | (rw [if_pos (by decide +kernel)]; kernel_rfl) | (rw [if_neg (by decide +kernel)]; exact ⟨rfl, rfl⟩))
    (fun os started H enc _ F => by rw [OpenClaim.pre_eq_preRow]; exact lifted os started H enc F)
theorem proved : Rows.ReportAllUptoSaid := over
theorem plain (f : FuncId) (fn : Func) (hf : Tryz.pinned.checked.prog.funcNamed "trivium/triviumlaw38.ReportAll" = some f) (hfn : Tryz.pinned.checked.prog.funcs[f]? = some fn) :
    false = Tryz.pinned.checked.prog.looks [] ∧ ∀ (j : Nat) t, fn.params[j]? = some t → Tryz.pinned.checked.prog.wantsStandIn t = false := by
  obtain rfl : f = 4 := Option.some.inj ((show Tryz.prog.funcNamed "trivium/triviumlaw38.ReportAll" = some 4 by kernel_rfl).symm.trans hf) |>.symm
  obtain rfl : fn = Tryz.f4 := (Option.some.inj (Tryz.func4.symm.trans hfn)).symm
  exact ⟨by kernel_rfl, fun j t ht => by
    rw [Tryz.params4] at ht
    have hm : t ∈ [69, 70, 71] := by simpa using Array.mem_of_getElem? ht
    have hall : ([69, 70, 71].all fun u => !Tryz.prog.wantsStandIn u) = true := by kernel_rfl
    exact (show Tryz.prog.wantsStandIn t = false by simpa using List.all_eq_true.1 hall t hm)⟩
theorem card : Rows.ReportAllUptoCardSaid :=
  Claim7.holds_tied_plain_at .later [] _ _ _ _ proved (fun _ h => by cases h) (by kernel_rfl) (fun _ h => by cases h) reportAllUpto_row_tie rfl ⟨rfl, rfl⟩ (by kernel_rfl) rfl plain (by kernel_rfl)
#print axioms card
end Go.Proofs.YtkjkipkfndckfaaGreatDoor.reportAll
namespace Go.Proofs.YtkjkipkfndckfaaGreatDoor
/-- The statement, under a short name, for the claim. -/
theorem reportAll_holds : Rows.ReportAllUptoCardSaid := reportAll.card
end Go.Proofs.YtkjkipkfndckfaaGreatDoor
