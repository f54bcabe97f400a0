/- The law RatioPrints holds of every input: the row, and its card. -/
import Derived.Test.YtfboepeadeafmaaGreatDoorQRI5
import Derived.Test.YtfboepeadeafmaaGreatDoorQRI3
import Derived.Lib.Join
import Derived.Lib.SmallJoins
import Derived.Lib.AppendIntMem
import Derived.Lib.ItoaLen
import Derived.KernelRfl
import Derived.Test.YtfboepeadeafmaaGreatDoorCards
import Derived.Test.YtfboepeadeafmaaGreatDoorTie
import Derived.WalkKit
import Derived.ProofKit
import Derived.OpenShut
import Derived.ShutString
import Derived.ChangeOld
import Derived.Below
import Derived.Lay
import Derived.SevenTiedAt
import Derived.Lib.LaidTab
import Derived.Lib.LaidU8
import Derived.Stop.LaidErr
import Derived.LaidMore
/- Dividing by two limbs or more: what the guess is, bits, shifts. -/
namespace Go.Proofs.YtfboepeadeafmaaGreatDoor.AP
open Go Go.Proofs.YtfboepeadeafmaaGreatDoor.Tri
set_option linter.unusedVariables false
set_option linter.unusedSimpArgs false
/-! the guess: no program in sight -/
theorem gs_le {P W R U V Vl Ul g : Int} (hP : 0 < P) (hV : V = Vl + P * W) (hU : U = Ul + P * R) (v0 : 0 ≤ Vl) (u1 : Ul < P) (hg : 0 ≤ g) (h : g * V ≤ U) : g * W ≤ R := by
  have h1 : 0 ≤ g * Vl := Int.mul_nonneg hg v0
  have h2 : P * (g * W) < P * (R + 1) := by
    have e : g * V = g * Vl + P * (g * W) := by rw [hV]; grind
    have e2 : P * (R + 1) = P * R + P := by grind
    omega
  have := Int.lt_of_mul_lt_mul_left h2 (Int.le_of_lt hP)
  omega
theorem gs_up {P W R U V Vl Ul g : Int} (hP : 0 < P) (hV : V = Vl + P * W) (hU : U = Ul + P * R) (v0 : 0 ≤ Vl) (v1 : Vl < P) (u0 : 0 ≤ Ul) (hg : 0 ≤ g) (hg1 : g < (4294967296 : Int)) (hW : (4294967296 : Int) ≤ W) (h : g * W ≤ R) : g * V < U + V := by
  have h1 : g * Vl ≤ g * P := Int.mul_le_mul_of_nonneg_left (Int.le_of_lt v1) hg
  have h2 : g * P < (4294967296 : Int) * P := Int.mul_lt_mul_of_pos_right hg1 hP
  have h3 : (4294967296 : Int) * P ≤ P * W := by rw [Int.mul_comm (4294967296 : Int)]; exact Int.mul_le_mul_of_nonneg_left hW (Int.le_of_lt hP)
  have h4 : P * (g * W) ≤ P * R := Int.mul_le_mul_of_nonneg_left h (Int.le_of_lt hP)
  have e : g * V = g * Vl + P * (g * W) := by rw [hV]; grind
  omega
/-- what a guess must be: with q the quotient -/
theorem gs_fin {U V g : Int} (hV : 0 < V) (h0 : U / V ≤ g) (h : g * V < U + V) : g = U / V ∨ g = U / V + 1 := by
  have : g - 1 ≤ U / V := Int.le_ediv_of_mul_le hV (by have : (g - 1) * V = g * V - V := by grind
                                                       omega)
  omega
/-- the guess's rounds -/
theorem guess_loop (u v : List Int) (i n : Nat) (v1 v0 u0 num q : Int) (hn : 2 ≤ n) (hvl : v.length = n) (hi : i + n < u.length) (hl : u.length ≤ 1000000000000)
    (hv1 : gI v ((n - 1 : Nat) : Int) = v1) (hv0 : gI v ((n - 2 : Nat) : Int) = v0) (hu0 : gI u ((i + n - 2 : Nat) : Int) = u0)
    (b1 : 2147483648 ≤ v1 ∧ v1 < (4294967296 : Int)) (b0 : 0 ≤ v0 ∧ v0 < (4294967296 : Int)) (c0 : 0 ≤ u0 ∧ u0 < (4294967296 : Int)) (hq0 : 0 ≤ q) (hq1 : q < (4294967296 : Int)) (hnum : num < v1 * (4294967296 : Int) + (4294967296 : Int))
    (hstep : ∀ g : Int, 0 ≤ g → num * (4294967296 : Int) + u0 < g * (v1 * (4294967296 : Int) + v0) → q < g) :
    ∀ (k : Nat) (g r : Int), g.toNat ≤ k → 0 ≤ r → r < (4294967296 : Int) → g < (4294967296 : Int) + (4294967296 : Int) → g * v1 + r = num → q ≤ g →
      ∃ g', lp (m_divide_guess_l1 u (i : Int) v) (g, r) = some g' ∧ q ≤ g' ∧ 0 ≤ g' ∧ g' < (4294967296 : Int) ∧ g' * (v1 * (4294967296 : Int) + v0) ≤ num * (4294967296 : Int) + u0
  | k, g, r, hk, r0, r1, hgb, hr, hg => by
    subst hvl
    have x1 : wi64 ((v.length : Int) - 1) = ((v.length - 1 : Nat) : Int) := by rw [wi64_eq (by omega) (by omega)]; omega
    have x2 : wi64 ((v.length : Int) - 2) = ((v.length - 2 : Nat) : Int) := by rw [wi64_eq (by omega) (by omega)]; omega
    have x3 : wi64 ((i : Int) + (v.length : Int)) = ((i + v.length : Nat) : Int) := by rw [wi64_eq (by omega) (by omega)]; omega
    have x4 : wi64 (((i + v.length : Nat) : Int) - 2) = ((i + v.length - 2 : Nat) : Int) := by rw [wi64_eq (by omega) (by omega)]; omega
    have y1 : rd v ((v.length - 1 : Nat) : Int) = some v1 := by rw [rd_I (by omega) (by omega), hv1]
    have y2 : rd v ((v.length - 2 : Nat) : Int) = some v0 := by rw [rd_I (by omega) (by omega), hv0]
    have y3 : rd u ((i + v.length - 2 : Nat) : Int) = some u0 := by rw [rd_I (by omega) (by omega), hu0]
    have z1 : wu64 (g - 1) = g - 1 ∨ g = 0 := by
      by_cases h : g = 0
      · exact .inr h
      · exact .inl (wu64_eq (by omega) (by omega))
    have z2 : wu64 (r + v1) = r + v1 := wu64_eq (by omega) (by omega)
    have z3 := sh32 r r0 r1
    have z4 := or_low r u0 r0 r1 c0.1 c0.2
    have hgv : g < (4294967296 : Int) → wu64 (g * v0) = g * v0 := fun h => by
      have := mul_bound ⟨by omega, h⟩ b0 ⟨Int.le_refl _, by decide⟩ (d := 0) ⟨Int.le_refl _, by decide⟩
      exact wu64_eq this.1 (by omega)
    have hmul : g * (v1 * (4294967296 : Int) + v0) = (num - r) * (4294967296 : Int) + g * v0 := by rw [← hr]; grind
    by_cases hc : (4294967296 : Int) ≤ g ∨ r * (4294967296 : Int) + u0 < g * v0
    · have hqg : q < g := by
        rcases hc with hc | hc
        · omega
        · refine hstep g (by omega) ?_
          rw [hmul]
          have : (num - r) * (4294967296 : Int) = num * (4294967296 : Int) - r * (4294967296 : Int) := by grind
          omega
      have z1' : wu64 (g - 1) = g - 1 := by omega
      have hr' : (g - 1) * v1 + (r + v1) = num := by rw [← hr]; grind
      by_cases hb : (4294967296 : Int) ≤ r + v1
      · have hg2 : g - 1 < (4294967296 : Int) := by
          have : (g - 1) * v1 < (4294967296 : Int) * v1 := by
            have : (4294967296 : Int) * v1 = v1 * (4294967296 : Int) := Int.mul_comm _ _
            omega
          exact Int.lt_of_mul_lt_mul_right this (by omega)
        refine ⟨g - 1, lp_done ?_, by omega, by omega, hg2, ?_⟩
        · have hcond : (if decide (4294967296 ≤ g) = true then some true else bd (rd v (wi64 ((v.length : Int) - 2))) fun x20 => bd (sh .u64 r 32) fun x22 => bd (rd u (wi64 ((wi64 ((i : Int) + (v.length : Int))) - 2))) fun x24 => some (decide ((Go.bits .or .u64 x22 x24) < (wu64 (g * x20))))) = some true := by
            by_cases hgb : 4294967296 ≤ g
            · rw [if_pos (decide_eq_true hgb)]
            · rw [if_neg (by simpa using hgb), x2, y2, bd_some, z3, bd_some, x3, x4, y3, bd_some, z4, hgv (by omega)]
              congr 1
              exact decide_eq_true (by omega)
          simp only [m_divide_guess_l1, hcond, bd_some, x1, y1, if_true, z1', z2, decide_eq_true hb]
        · have := mul_bound ⟨by omega, hg2⟩ b0 ⟨Int.le_refl _, by decide⟩ (d := 0) ⟨Int.le_refl _, by decide⟩
          have e : (g - 1) * (v1 * (4294967296 : Int) + v0) = num * (4294967296 : Int) - (r + v1) * (4294967296 : Int) + (g - 1) * v0 := by rw [← hr']; grind
          have h2 : (4294967296 : Int) * (4294967296 : Int) ≤ (r + v1) * (4294967296 : Int) := Int.mul_le_mul_of_nonneg_right hb (by decide)
          omega
      · cases k with
        | zero => omega
        | succ k =>
          obtain ⟨g', h1, h2⟩ := guess_loop u v i v.length v1 v0 u0 num q hn rfl hi hl hv1 hv0 hu0 b1 b0 c0 hq0 hq1 hnum hstep k (g - 1) (r + v1) (by omega) (by omega) (by omega) (by omega) hr' (by omega)
          refine ⟨g', ?_, h2⟩
          rw [lp_more (s' := (g - 1, r + v1)) ?_]
          · exact h1
          · have hcond : (if decide (4294967296 ≤ g) = true then some true else bd (rd v (wi64 ((v.length : Int) - 2))) fun x20 => bd (sh .u64 r 32) fun x22 => bd (rd u (wi64 ((wi64 ((i : Int) + (v.length : Int))) - 2))) fun x24 => some (decide ((Go.bits .or .u64 x22 x24) < (wu64 (g * x20))))) = some true := by
              by_cases hgb : 4294967296 ≤ g
              · rw [if_pos (decide_eq_true hgb)]
              · rw [if_neg (by simpa using hgb), x2, y2, bd_some, z3, bd_some, x3, x4, y3, bd_some, z4, hgv (by omega)]
                congr 1
                exact decide_eq_true (by omega)
            simp only [m_divide_guess_l1, hcond, bd_some, x1, y1, if_true, z1', z2, show decide (4294967296 ≤ r + v1) = false from decide_eq_false hb]; rfl
    · refine ⟨g, lp_done ?_, hg, by omega, by omega, ?_⟩
      · have hcond : (if decide (4294967296 ≤ g) = true then some true else bd (rd v (wi64 ((v.length : Int) - 2))) fun x20 => bd (sh .u64 r 32) fun x22 => bd (rd u (wi64 ((wi64 ((i : Int) + (v.length : Int))) - 2))) fun x24 => some (decide ((Go.bits .or .u64 x22 x24) < (wu64 (g * x20))))) = some false := by
          by_cases hgb : 4294967296 ≤ g
          · rw [if_pos (decide_eq_true hgb)]; exact absurd hgb (by omega)
          · rw [if_neg (by simpa using hgb), x2, y2, bd_some, z3, bd_some, x3, x4, y3, bd_some, z4, hgv (by omega)]
            congr 1
            exact decide_eq_false (by omega)
        simp only [m_divide_guess_l1, hcond, bd_some]; rfl
      · rw [hmul]
        have : (num - r) * (4294967296 : Int) = num * (4294967296 : Int) - r * (4294967296 : Int) := by grind
        omega
/-! bits of a limb -/
theorem mod_step (a : Int) (k : Nat) : a % 2 ^ (k + 1) = a % 2 ^ k + 2 ^ k * ((a / 2 ^ k) % 2) := by
  have hp : (0 : Int) < 2 ^ k := pow_pos' (by decide) k
  have h1 := Int.mul_ediv_add_emod a (2 ^ k)
  have h2 := Int.mul_ediv_add_emod (a / 2 ^ k) 2
  have h3 := Int.emod_nonneg a (show (2 : Int) ^ k ≠ 0 by omega)
  have h4 := Int.emod_lt_of_pos a hp
  have h5 := Int.emod_nonneg (a / 2 ^ k) (show (2 : Int) ≠ 0 by decide)
  have h6 := Int.emod_lt_of_pos (a / 2 ^ k) (show (0 : Int) < 2 by decide)
  have e := Int.ediv_emod_unique (a := a) (b := 2 ^ (k + 1)) (r := a % 2 ^ k + 2 ^ k * ((a / 2 ^ k) % 2)) (q := a / 2 ^ k / 2) (pow_pos' (by decide) _)
  refine (e.2 ⟨?_, ?_, ?_⟩).2
  · rw [Int.pow_succ]
    generalize a / 2 ^ k / 2 = q2 at *
    generalize (a / 2 ^ k) % 2 = m2 at *
    generalize a / 2 ^ k = q1 at *
    generalize a % 2 ^ k = m1 at *
    subst h2
    rw [← h1]; grind
  · have := Int.mul_nonneg (Int.le_of_lt hp) h5; omega
  · rw [Int.pow_succ]
    have : (2 : Int) ^ k * ((a / 2 ^ k) % 2) ≤ 2 ^ k * 1 := Int.mul_le_mul_of_nonneg_left (by omega) (Int.le_of_lt hp)
    omega
/-- n bits: just as many as a number needs -/
def Nb (a : Int) (n : Nat) : Prop := a < 2 ^ n ∧ (0 < n → 2 ^ (n - 1) ≤ a)
theorem Nb.step {a : Int} {k n : Nat} (hn : n ≤ k) (h : Nb (a % 2 ^ k) n) : Nb (a % 2 ^ (k + 1)) (if (a / 2 ^ k) % 2 = 1 then k + 1 else n) := by
  have hp : (0 : Int) < 2 ^ k := pow_pos' (by decide) k
  have h3 := Int.emod_nonneg a (show (2 : Int) ^ k ≠ 0 by omega)
  have h4 := Int.emod_lt_of_pos a hp
  have h5 := Int.emod_nonneg (a / 2 ^ k) (show (2 : Int) ≠ 0 by decide)
  have h6 := Int.emod_lt_of_pos (a / 2 ^ k) (show (0 : Int) < 2 by decide)
  rw [mod_step]
  by_cases h1 : (a / 2 ^ k) % 2 = 1
  · rw [if_pos h1, h1, Int.mul_one]
    refine ⟨by rw [Int.pow_succ]; omega, fun _ => by rw [Nat.add_sub_cancel]; omega⟩
  · rw [if_neg h1, show (a / 2 ^ k) % 2 = 0 by omega, Int.mul_zero, Int.add_zero]
    exact h
theorem gI_mid (L D R : List Int) (x : Int) : gI (L ++ D ++ x :: R) ((L.length + D.length : Nat) : Int) = x := by
  unfold gI
  rw [Int.toNat_natCast, List.getD_eq_getElem?_getD, List.getElem?_append_right (by simp)]
  simp
theorem set_mid (L D R : List Int) (x y : Int) : (L ++ D ++ x :: R).set (L.length + D.length) y = L ++ (D ++ [y]) ++ R := by
  rw [show L.length + D.length = (L ++ D).length by simp, set_at]; simp
theorem gI_beyond (l : List Int) (i : Nat) (h : l.length ≤ i) : gI l (i : Int) = 0 := by
  unfold gI; rw [List.getD_eq_getElem?_getD, List.getElem?_eq_none (by simpa using h)]; rfl
theorem split_two {n : Nat} {v : List Int} (h : v.length = n + 2) : ∃ l a b, v = l ++ [a, b] ∧ l.length = n := by
  obtain ⟨d, b, rfl, hd⟩ := split_last h
  obtain ⟨l, a, rfl, hl⟩ := split_last hd
  exact ⟨l, a, b, by simp, hl⟩
theorem split_three {n : Nat} {v : List Int} (h : v.length = n + 3) : ∃ l a b c, v = l ++ [a, b, c] ∧ l.length = n := by
  obtain ⟨d, c, rfl, hd⟩ := split_last h
  obtain ⟨l, a, b, rfl, hl⟩ := split_two hd
  exact ⟨l, a, b, c, by simp, hl⟩
/-- the guess: right, or one too great -/
theorem guess_eq (L M R v : List Int) (n : Nat) (hvl : v.length = n + 2) (hM : M.length = v.length + 1) (hv : Dig (4294967296 : Int) v) (hm : Dig (4294967296 : Int) M) (ht : 2147483648 ≤ gI v ((n + 1 : Nat) : Int)) (hU : dv (4294967296 : Int) M < dv (4294967296 : Int) v * (4294967296 : Int))
    (hl : (L ++ M ++ R).length ≤ 1000000000000) : ∃ g, m_divide_guess (L ++ M ++ R) (L.length : Int) v = some g ∧ 0 ≤ g ∧ g < (4294967296 : Int) ∧ (g = dv (4294967296 : Int) M / dv (4294967296 : Int) v ∨ g = dv (4294967296 : Int) M / dv (4294967296 : Int) v + 1) := by
  obtain ⟨Vl, v0, v1, rfl, hVl⟩ := split_two hvl
  obtain ⟨Ml, u0, u1, u2, rfl, hMl⟩ := split_three (v := M) (n := n) (by omega)
  have dV := hv.left
  have dU := hm.left
  have b0 := hv.right.head
  have b1 := hv.right.tail.head
  have c0 := hm.right.head
  have c1 := hm.right.tail.head
  have c2 := hm.right.tail.tail.head
  have ev1 : gI (Vl ++ [v0, v1]) ((n + 1 : Nat) : Int) = v1 := by
    have := gI_mid Vl [v0] [] v1
    rw [hVl] at this
    simpa using this
  rw [ev1] at ht
  have ev0 : gI (Vl ++ [v0, v1]) ((n : Nat) : Int) = v0 := by
    have := gI_mid Vl [] [v1] v0
    rw [hVl] at this
    simpa using this
  have eu0 : gI (L ++ (Ml ++ [u0, u1, u2]) ++ R) ((L.length + n : Nat) : Int) = u0 := by
    have := gI_mid L Ml (u1 :: u2 :: R) u0
    rw [hMl] at this
    simpa using this
  have eu1 : gI (L ++ (Ml ++ [u0, u1, u2]) ++ R) ((L.length + n + 1 : Nat) : Int) = u1 := by
    have := gI_mid L (Ml ++ [u0]) (u2 :: R) u1
    rw [List.length_append, hMl] at this
    simpa [Nat.add_assoc] using this
  have eu2 : gI (L ++ (Ml ++ [u0, u1, u2]) ++ R) ((L.length + n + 2 : Nat) : Int) = u2 := by
    have := gI_mid L (Ml ++ [u0, u1]) R u2
    rw [List.length_append, hMl] at this
    simpa [Nat.add_assoc] using this
  have hlu : (L ++ (Ml ++ [u0, u1, u2]) ++ R).length = L.length + (n + 3) + R.length := by simp [hMl]; omega
  generalize hu : L ++ (Ml ++ [u0, u1, u2]) ++ R = u at *
  have eV : dv (4294967296 : Int) (Vl ++ [v0, v1]) = dv (4294967296 : Int) Vl + (4294967296 : Int) ^ n * (v1 * (4294967296 : Int) + v0) := by
    rw [dv_append, hVl]; simp only [dv]; rw [Int.mul_zero, Int.add_zero, Int.mul_comm (4294967296 : Int) v1, Int.add_comm v0]
  have eU : dv (4294967296 : Int) (Ml ++ [u0, u1, u2]) = dv (4294967296 : Int) Ml + (4294967296 : Int) ^ n * ((u2 * (4294967296 : Int) + u1) * (4294967296 : Int) + u0) := by
    rw [dv_append, hMl]; simp only [dv]
    have : u0 + (4294967296 : Int) * (u1 + (4294967296 : Int) * (u2 + (4294967296 : Int) * 0)) = (u2 * (4294967296 : Int) + u1) * (4294967296 : Int) + u0 := by grind
    rw [this]
  have lV0 := dv_nonneg (by decide) dV
  have lU0 := dv_nonneg (by decide) dU
  have lV := dv_lt (by decide) dV
  have lU := dv_lt (by decide) dU
  rw [hVl] at lV
  rw [hMl] at lU
  have hP := pow_pos' (show (0 : Int) < (4294967296 : Int) by decide) n
  generalize dv (4294967296 : Int) (Vl ++ [v0, v1]) = V at *
  generalize dv (4294967296 : Int) (Ml ++ [u0, u1, u2]) = U at *
  generalize dv (4294967296 : Int) Vl = VL at *
  generalize dv (4294967296 : Int) Ml = UL at *
  generalize hnum : u2 * (4294967296 : Int) + u1 = num at *
  have hVp : 0 < V := by
    have : 0 < (4294967296 : Int) ^ n * (v1 * (4294967296 : Int) + v0) := Int.mul_pos hP (by omega)
    omega
  have hU0 : 0 ≤ U := by
    have : 0 ≤ (4294967296 : Int) ^ n * (num * (4294967296 : Int) + u0) := Int.mul_nonneg (by omega) (by omega)
    omega
  have q0 : 0 ≤ U / V := Int.ediv_nonneg hU0 (by omega)
  have q1 : U / V < (4294967296 : Int) := Int.ediv_lt_of_lt_mul hVp (by rw [Int.mul_comm]; exact hU)
  have hqU : (U / V) * V ≤ U := Int.ediv_mul_le U (by omega)
  have hn2 : num < v1 * (4294967296 : Int) + (4294967296 : Int) := by
    have h1 : (4294967296 : Int) ^ n * (num * (4294967296 : Int) + u0) < (4294967296 : Int) ^ n * ((v1 * (4294967296 : Int) + v0 + 1) * (4294967296 : Int)) := by
      have e2 : V * (4294967296 : Int) < ((4294967296 : Int) ^ n * (v1 * (4294967296 : Int) + v0 + 1)) * (4294967296 : Int) := by
        refine Int.mul_lt_mul_of_pos_right ?_ (by decide)
        rw [eV, Int.mul_add ((4294967296 : Int) ^ n) (v1 * (4294967296 : Int) + v0) 1]; omega
      have e3 : (4294967296 : Int) ^ n * ((v1 * (4294967296 : Int) + v0 + 1) * (4294967296 : Int)) = ((4294967296 : Int) ^ n * (v1 * (4294967296 : Int) + v0 + 1)) * (4294967296 : Int) := by rw [Int.mul_assoc]
      omega
    have := Int.lt_of_mul_lt_mul_left h1 (Int.le_of_lt hP)
    omega
  have g0 : (U / V) * (v1 * (4294967296 : Int) + v0) ≤ num * (4294967296 : Int) + u0 := gs_le hP eV eU lV0 lU q0 hqU
  have g1 : U / V ≤ num / v1 := by
    refine Int.le_ediv_of_mul_le (by omega) ?_
    have h1 : (U / V) * (v1 * (4294967296 : Int) + v0) = (U / V) * v1 * (4294967296 : Int) + (U / V) * v0 := by grind
    have h2 : 0 ≤ (U / V) * v0 := Int.mul_nonneg q0 b0.1
    omega
  have hr1 := Int.emod_nonneg num (show v1 ≠ 0 by omega)
  have hr2 := Int.emod_lt_of_pos num (show 0 < v1 by omega)
  have hr3 := Int.mul_ediv_add_emod num v1
  have hstep : ∀ g : Int, 0 ≤ g → num * (4294967296 : Int) + u0 < g * (v1 * (4294967296 : Int) + v0) → U / V < g := fun g hg hlt => by
    refine Int.ediv_lt_of_lt_mul hVp ?_
    apply Int.lt_of_not_ge
    intro hge
    have := gs_le hP eV eU lV0 lU hg hge
    omega
  have hgb : num / v1 < (4294967296 : Int) + (4294967296 : Int) := by
    refine Int.ediv_lt_of_lt_mul (by omega) ?_
    omega
  obtain ⟨g, r1, r2, r3, r4, r5⟩ := guess_loop u (Vl ++ [v0, v1]) L.length (n + 2) v1 v0 u0 num (U / V) (by omega) (by simp [hVl]) (by omega) (by omega) (by rw [show n + 2 - 1 = n + 1 by omega, ev1]) (by rw [show n + 2 - 2 = n by omega, ev0]) (by rw [show L.length + (n + 2) - 2 = L.length + n by omega, eu0]) ⟨ht, b1.2⟩ b0 c0 q0 q1 hn2 hstep (num / v1).toNat (num / v1) (num % v1) (Nat.le_refl _) hr1 (by omega) hgb (by rw [Int.mul_comm]; exact hr3) g1
  have hfin := gs_up hP eV eU lV0 lV lU0 r3 r4 (by omega) r5
  refine ⟨g, ?_, r3, r4, gs_fin hVp r2 hfin⟩
  have hln : (Vl ++ [v0, v1]).length = n + 2 := by simp [hVl]
  have x1 : wi64 (((n + 2 : Nat) : Int) - 1) = ((n + 1 : Nat) : Int) := by rw [wi64_eq (by omega) (by omega)]; omega
  have x3 : wi64 ((L.length : Int) + ((n + 2 : Nat) : Int)) = ((L.length + n + 2 : Nat) : Int) := by rw [wi64_eq (by omega) (by omega)]; omega
  have x4 : wi64 (((L.length + n + 2 : Nat) : Int) - 1) = ((L.length + n + 1 : Nat) : Int) := by rw [wi64_eq (by omega) (by omega)]; omega
  have y1 : rd (Vl ++ [v0, v1]) ((n + 1 : Nat) : Int) = some v1 := by rw [rd_I (by omega) (by omega), ev1]
  have y2 : rd u ((L.length + n + 2 : Nat) : Int) = some u2 := by rw [rd_I (by omega) (by omega), eu2]
  have y3 : rd u ((L.length + n + 1 : Nat) : Int) = some u1 := by rw [rd_I (by omega) (by omega), eu1]
  unfold m_divide_guess
  rw [hln, x3, y2, bd_some, sh32 u2 c2.1 c2.2, bd_some, x4, y3, bd_some, x1, y1, bd_some, or_low u2 u1 c2.1 c2.2 c1.1 c1.2, hnum, qdU (by omega) (by omega) (by omega), bd_some, bd_some, rm_of (by omega) (by omega), bd_some, r1, bd_some]
end Go.Proofs.YtfboepeadeafmaaGreatDoor.AP
/- Dividing by two limbs or more: taking off, giving back, the rounds. -/
namespace Go.Proofs.YtfboepeadeafmaaGreatDoor.AP
open Go Go.Proofs.YtfboepeadeafmaaGreatDoor.Tri
set_option linter.unusedVariables false
set_option linter.unusedSimpArgs false
theorem eln_eq {α : Type} {a b : List α} (h : a.length = b.length) : eln a b = some () := by unfold eln; simp [h]
theorem divAt_eq (a : List Int) (i : Nat) (hl : a.length ≤ 4611686018427387904) : m_divide_at a (i : Int) = some (gI a (i : Int)) := by
  unfold m_divide_at
  by_cases h : a.length ≤ i
  · rw [if_pos (by simp; omega), gI_beyond a i h]
  · rw [if_neg (by simp; omega), rd_I (by omega) (by omega), bd_some]
theorem take_loop (v L R : List Int) (g : Int) (hv : Dig (4294967296 : Int) v) (hg : 0 ≤ g ∧ g < (4294967296 : Int)) (hl : v.length ≤ 1000000000) (hL : L.length ≤ 1000000000) :
    ∀ (M D : List Int) (ca bo : Int), D.length + M.length = v.length + 1 → Dig (4294967296 : Int) M → Dig (4294967296 : Int) D → (0 ≤ ca ∧ ca < (4294967296 : Int)) → (bo = 0 ∨ bo = 1) → (v.length < D.length → ca = 0) → ∀ X, dv (4294967296 : Int) D - (4294967296 : Int) ^ D.length * (ca + bo) = X - g * dv (4294967296 : Int) (v.take D.length) →
    ∃ D' bo', lp (m_divide_take_M_l1 (L.length : Int) v g) (ca, bo, (D.length : Int), L ++ D ++ (M ++ R)) = some (bo', L ++ D' ++ R) ∧ (bo' = 0 ∨ bo' = 1) ∧ Dig (4294967296 : Int) D' ∧ D'.length = v.length + 1 ∧ dv (4294967296 : Int) D' - (4294967296 : Int) ^ (v.length + 1) * bo' = X + (4294967296 : Int) ^ D.length * dv (4294967296 : Int) M - g * dv (4294967296 : Int) v
  | [], D, ca, bo, hM, hm, hD, hc, hb, hz, X, hX => by
    simp only [List.length_nil, Nat.add_zero] at hM
    have := hz (by omega)
    subst this
    refine ⟨D, bo, lp_done ?_, hb, hD, hM, ?_⟩
    · have a1 : wi64 ((v.length : Int) + 1) = ((v.length + 1 : Nat) : Int) := by rw [wi64_eq (by omega) (by omega)]; omega
      simp only [m_divide_take_M_l1, a1, show decide ((D.length : Int) < ((v.length + 1 : Nat) : Int)) = false from decide_eq_false (by omega)]
      rfl
    · rw [hM, Int.zero_add, List.take_of_length_le (by omega)] at hX
      rw [dv_nil, Int.mul_zero, Int.add_zero]; exact hX
  | m :: M, D, ca, bo, hM, hm, hD, hc, hb, hz, X, hX => by
    simp only [List.length_cons] at hM
    have gv := gI_dig hv (by decide) (D.length : Int)
    obtain ⟨s0, s1⟩ := mul_bound hg gv hc (d := 0) ⟨Int.le_refl _, by decide⟩
    have a8 := limbMul_eq g (gI v (D.length : Int)) ca 0 hg gv hc ⟨Int.le_refl _, by decide⟩
    generalize hs : g * gI v (D.length : Int) + ca + 0 = s at *
    have hsq : s / (4294967296 : Int) < (4294967296 : Int) := Int.ediv_lt_of_lt_mul (by decide) s1
    have a9 := limbSub_eq m (s % (4294967296 : Int)) bo hm.head ⟨by omega, by omega⟩ hb
    generalize hd : (if m < s % (4294967296 : Int) + bo then m + (4294967296 : Int) - (s % (4294967296 : Int) + bo) else m - (s % (4294967296 : Int) + bo)) = d at *
    generalize hb1 : (if m < s % (4294967296 : Int) + bo then (1 : Int) else 0) = b1 at *
    have hmh := hm.head
    have hdb : d = m - (s % (4294967296 : Int) + bo) + (4294967296 : Int) * b1 ∧ (b1 = 0 ∨ b1 = 1) ∧ 0 ≤ d ∧ d < (4294967296 : Int) := by
      subst hd; subst hb1; split <;> omega
    have e1 : m_divide_take_M_l1 (L.length : Int) v g (ca, bo, (D.length : Int), L ++ D ++ (m :: M ++ R)) = some (.inl (s / (4294967296 : Int), b1, ((D.length + 1 : Nat) : Int), L ++ (D ++ [d]) ++ (M ++ R))) := by
      have a1 : wi64 ((v.length : Int) + 1) = ((v.length + 1 : Nat) : Int) := by rw [wi64_eq (by omega) (by omega)]; omega
      have a2 : decide ((D.length : Int) < ((v.length + 1 : Nat) : Int)) = true := decide_eq_true (by omega)
      have a3 : wi64 ((L.length : Int) + (D.length : Int)) = ((L.length + D.length : Nat) : Int) := by rw [wi64_eq (by omega) (by omega)]; omega
      have a4 : rd (L ++ D ++ (m :: M ++ R)) ((L.length + D.length : Nat) : Int) = some m := by rw [rd_I (by omega) (by simp; omega), List.cons_append, gI_mid]
      have a5 : ix (L ++ D ++ (m :: M ++ R)) ((L.length + D.length : Nat) : Int) = some (L.length + D.length) := ix_nat (by simp only [List.length_append, List.length_cons]; omega)
      have a6 : (L ++ D ++ (m :: M ++ R)).set (L.length + D.length) d = L ++ (D ++ [d]) ++ (M ++ R) := by rw [List.cons_append, set_mid]
      have a7 : wi64 ((D.length : Int) + 1) = ((D.length + 1 : Nat) : Int) := by rw [wi64_eq (by omega) (by omega)]; omega
      simp only [m_divide_take_M_l1, a1, a2, if_true, divAt_eq v D.length (by omega), bd_some, a8, a3, a4, a9, a5, lt_eq, a6, a7]
    have ih := take_loop v L R g hv hg hl hL M (D ++ [d]) (s / (4294967296 : Int)) b1 (by simp; omega) hm.tail (hD.snoc hdb.2.2) ⟨by omega, hsq⟩ hdb.2.1 (by
      intro h
      simp at h
      have hgz := gI_beyond v D.length (by omega)
      by_cases h2 : v.length < D.length
      · have := hz h2; rw [hgz, this] at hs; simp at hs; subst hs; rfl
      · rw [hgz] at hs; simp at hs; subst hs; exact Int.ediv_eq_zero_of_lt hc.1 hc.2) (X + (4294967296 : Int) ^ D.length * m) (by
      rw [dv_snoc, List.length_append, List.length_singleton, take_gI', Int.pow_succ]
      have := Int.mul_ediv_add_emod s (4294967296 : Int)
      obtain ⟨h3, -⟩ := hdb
      clear hd hb1 a8 a9 e1
      generalize (4294967296 : Int) ^ D.length = P at *
      generalize gI v (D.length : Int) = g1 at *
      generalize dv (4294967296 : Int) (List.take D.length v) = T at *
      generalize dv (4294967296 : Int) D = DD at *
      generalize s / (4294967296 : Int) = q at *
      generalize s % (4294967296 : Int) = r at *
      have hr : r = g * g1 + ca - (4294967296 : Int) * q := by omega
      subst hr
      subst h3
      grind)
    obtain ⟨D', bo', r1, r2, r3, r4, r5⟩ := ih
    refine ⟨D', bo', ?_, r2, r3, r4, ?_⟩
    · rw [lp_more e1]
      simpa using r1
    · rw [r5, dv_cons, List.length_append, List.length_singleton, Int.pow_succ]
      grind
theorem give_loop (v L R o1 : List Int) (ho : o1.length = L.length + (v.length + 1) + R.length) (hv : Dig (4294967296 : Int) v) (hl : v.length ≤ 1000000000) (hL : L.length ≤ 1000000000) :
    ∀ (M D : List Int) (ca : Int), D.length + M.length = v.length + 1 → Dig (4294967296 : Int) M → Dig (4294967296 : Int) D → (ca = 0 ∨ ca = 1) → ∀ X, dv (4294967296 : Int) D + (4294967296 : Int) ^ D.length * ca = X + dv (4294967296 : Int) (v.take D.length) →
    ∃ D' ca', lp (m_divide_give_M_l1 (L.length : Int) v o1) (ca, (D.length : Int), L ++ D ++ (M ++ R)) = some (L ++ D' ++ R) ∧ (ca' = 0 ∨ ca' = 1) ∧ Dig (4294967296 : Int) D' ∧ D'.length = v.length + 1 ∧ dv (4294967296 : Int) D' + (4294967296 : Int) ^ (v.length + 1) * ca' = X + (4294967296 : Int) ^ D.length * dv (4294967296 : Int) M + dv (4294967296 : Int) v
  | [], D, ca, hM, hm, hD, hc, X, hX => by
    simp only [List.length_nil, Nat.add_zero] at hM
    refine ⟨D, ca, lp_done ?_, hc, hD, hM, ?_⟩
    · have a1 : wi64 ((v.length : Int) + 1) = ((v.length + 1 : Nat) : Int) := by rw [wi64_eq (by omega) (by omega)]; omega
      simp only [m_divide_give_M_l1, a1, show decide ((D.length : Int) < ((v.length + 1 : Nat) : Int)) = false from decide_eq_false (by omega)]
      have e : eln o1 (L ++ D ++ ([] ++ R)) = some () := eln_eq (by simp; omega)
      rw [e]
      rfl
    · rw [hM, List.take_of_length_le (by omega)] at hX
      rw [dv_nil, Int.mul_zero, Int.add_zero]; exact hX
  | m :: M, D, ca, hM, hm, hD, hc, X, hX => by
    simp only [List.length_cons] at hM
    have gv := gI_dig hv (by decide) (D.length : Int)
    have hmh := hm.head
    have a9 := limbAdd_eq m (gI v (D.length : Int)) ca hmh gv (by omega)
    generalize hs : m + gI v (D.length : Int) + ca = s at *
    have e1 : m_divide_give_M_l1 (L.length : Int) v o1 (ca, (D.length : Int), L ++ D ++ (m :: M ++ R)) = some (.inl (s / (4294967296 : Int), ((D.length + 1 : Nat) : Int), L ++ (D ++ [s % (4294967296 : Int)]) ++ (M ++ R))) := by
      have a1 : wi64 ((v.length : Int) + 1) = ((v.length + 1 : Nat) : Int) := by rw [wi64_eq (by omega) (by omega)]; omega
      have a2 : decide ((D.length : Int) < ((v.length + 1 : Nat) : Int)) = true := decide_eq_true (by omega)
      have a3 : wi64 ((L.length : Int) + (D.length : Int)) = ((L.length + D.length : Nat) : Int) := by rw [wi64_eq (by omega) (by omega)]; omega
      have a4 : rd (L ++ D ++ (m :: M ++ R)) ((L.length + D.length : Nat) : Int) = some m := by rw [rd_I (by omega) (by simp; omega), List.cons_append, gI_mid]
      have a5 : ix (L ++ D ++ (m :: M ++ R)) ((L.length + D.length : Nat) : Int) = some (L.length + D.length) := ix_nat (by simp only [List.length_append, List.length_cons]; omega)
      have a6 : (L ++ D ++ (m :: M ++ R)).set (L.length + D.length) (s % (4294967296 : Int)) = L ++ (D ++ [s % (4294967296 : Int)]) ++ (M ++ R) := by rw [List.cons_append, set_mid]
      have a7 : wi64 ((D.length : Int) + 1) = ((D.length + 1 : Nat) : Int) := by rw [wi64_eq (by omega) (by omega)]; omega
      simp only [m_divide_give_M_l1, a1, a2, if_true, divAt_eq v D.length (by omega), bd_some, a3, a4, a9, a5, lt_eq, a6, a7]
    have ih := give_loop v L R o1 ho hv hl hL M (D ++ [s % (4294967296 : Int)]) (s / (4294967296 : Int)) (by simp; omega) hm.tail (hD.snoc ⟨by omega, by omega⟩) (by omega) (X + (4294967296 : Int) ^ D.length * m) (by
      rw [dv_snoc, List.length_append, List.length_singleton, take_gI', Int.pow_succ]
      have := Int.mul_ediv_add_emod s (4294967296 : Int)
      clear a9 e1
      generalize (4294967296 : Int) ^ D.length = P at *
      generalize gI v (D.length : Int) = g1 at *
      generalize dv (4294967296 : Int) (List.take D.length v) = T at *
      generalize dv (4294967296 : Int) D = DD at *
      generalize s / (4294967296 : Int) = q at *
      generalize s % (4294967296 : Int) = r at *
      have hr : r = m + g1 + ca - (4294967296 : Int) * q := by omega
      subst hr
      grind)
    obtain ⟨D', ca', r1, r2, r3, r4, r5⟩ := ih
    refine ⟨D', ca', ?_, r2, r3, r4, ?_⟩
    · rw [lp_more e1]
      simpa using r1
    · rw [r5, dv_cons, List.length_append, List.length_singleton, Int.pow_succ]
      grind
theorem take_eq (L M R v : List Int) (g : Int) (hM : M.length = v.length + 1) (hv : Dig (4294967296 : Int) v) (hm : Dig (4294967296 : Int) M) (hg : 0 ≤ g ∧ g < (4294967296 : Int)) (hl : (L ++ M ++ R).length ≤ 1000000000) (hlv : v.length ≤ 1000000000) :
    ∃ D, m_divide_take_M (L.length : Int) v g (L ++ M ++ R) = some (decide (dv (4294967296 : Int) M < g * dv (4294967296 : Int) v), L ++ D ++ R) ∧ D.length = v.length + 1 ∧ Dig (4294967296 : Int) D ∧ dv (4294967296 : Int) D = dv (4294967296 : Int) M - g * dv (4294967296 : Int) v + (if dv (4294967296 : Int) M < g * dv (4294967296 : Int) v then (4294967296 : Int) ^ (v.length + 1) else 0) := by
  simp only [List.length_append] at hl
  obtain ⟨D', bo', h1, h2, h3, h4, h5⟩ := take_loop v L R g hv hg hlv (by omega) M [] 0 0 (by simp; omega) hm (Dig.nil _) ⟨Int.le_refl _, by decide⟩ (.inl rfl) (fun _ => rfl) 0 (by simp [dv])
  simp only [List.append_nil, List.length_nil, Int.pow_zero, Int.zero_add, Int.one_mul] at h1 h5
  refine ⟨D', ?_, h4, h3, ?_⟩
  · unfold m_divide_take_M
    rw [← List.append_assoc] at h1
    have h1' : lp (m_divide_take_M_l1 (L.length : Int) v g) (0, 0, 0, L ++ M ++ R) = some (bo', L ++ D' ++ R) := h1
    rw [h1', bd_some]
    dsimp only
    rw [eln_eq (by simp; omega), bd_some]
    congr 2
    rw [decide_eq_decide]
    have := dv_lt (by decide) h3
    have := dv_nonneg (by decide) h3
    rw [h4] at *
    rcases h2 with h | h <;> subst h <;> omega
  · have := dv_lt (by decide) h3
    have := dv_nonneg (by decide) h3
    rw [h4] at *
    rcases h2 with h | h <;> subst h <;> split <;> omega
theorem give_eq (L M R v : List Int) (hM : M.length = v.length + 1) (hv : Dig (4294967296 : Int) v) (hm : Dig (4294967296 : Int) M) (hl : (L ++ M ++ R).length ≤ 1000000000) (hlv : v.length ≤ 1000000000) :
    ∃ D c, m_divide_give_M (L.length : Int) v (L ++ M ++ R) = some (L ++ D ++ R) ∧ D.length = v.length + 1 ∧ Dig (4294967296 : Int) D ∧ (c = 0 ∨ c = 1) ∧ dv (4294967296 : Int) D + (4294967296 : Int) ^ (v.length + 1) * c = dv (4294967296 : Int) M + dv (4294967296 : Int) v := by
  simp only [List.length_append] at hl
  obtain ⟨D', c, h1, h2, h3, h4, h5⟩ := give_loop v L R (L ++ M ++ R) (by simp; omega) hv hlv (by omega) M [] 0 (by simp; omega) hm (Dig.nil _) (.inl rfl) 0 (by simp [dv])
  simp only [List.append_nil, List.length_nil, Int.pow_zero, Int.zero_add, Int.one_mul] at h1 h5
  refine ⟨D', c, ?_, h4, h3, h2, h5⟩
  unfold m_divide_give_M
  rw [← List.append_assoc] at h1
  exact h1
end Go.Proofs.YtfboepeadeafmaaGreatDoor.AP
/- Bits of a limb, shifts, and Knuth's division. -/
namespace Go.Proofs.YtfboepeadeafmaaGreatDoor.AP
open Go Go.Proofs.YtfboepeadeafmaaGreatDoor.Tri
set_option linter.unusedVariables false
set_option linter.unusedSimpArgs false
theorem sr_nat (x : Int) (k : Nat) (hk : k ≤ 64) : sr .u64 x (k : Int) = some (x / 2 ^ k) := by
  unfold sr
  rw [if_pos (by omega)]
  have e : min ((k : Int)).toNat IntKind.u64.bits = k := by
    have : IntKind.u64.bits = 64 := rfl
    omega
  rw [e, Int.fdiv_eq_ediv_of_nonneg _ (Int.le_of_lt (pow_pos' (by decide) k))]
theorem sh_nat (x : Int) (k : Nat) (hk : k ≤ 64) : sh .u64 x (k : Int) = some (wu64 (x * 2 ^ k)) := by
  unfold sh
  rw [if_pos (by omega)]
  have e : min ((k : Int)).toNat IntKind.u64.bits = k := by
    have : IntKind.u64.bits = 64 := rfl
    omega
  rw [e]; rfl
theorem and_one (x : Int) (h0 : 0 ≤ x) (h1 : x < 18446744073709551616) : Go.bits .and .u64 x 1 = x % 2 := by
  rw [u64_and x _ h0 h1 (by omega) (by omega)]
  have : (1 : Int).toNat = 2 ^ 1 - 1 := rfl
  rw [this, Nat.and_two_pow_sub_one_eq_mod]
  omega
theorem bits_loop (a : Int) (h0 : 0 ≤ a) (h1 : a < (4294967296 : Int)) : ∀ (r k n : Nat), k + r = 32 → n ≤ k → Nb (a % 2 ^ k) n → ∃ m : Nat, lp (m_limb_Bits_l1 a) ((n : Int), (k : Int)) = some (m : Int) ∧ m ≤ 32 ∧ Nb a m
  | 0, k, n, hk, hn, h => by
    obtain rfl : k = 32 := by omega
    rw [Int.emod_eq_of_lt h0 (by rw [show (2 : Int) ^ 32 = 4294967296 from rfl]; exact h1)] at h
    exact ⟨n, lp_done (by simp [m_limb_Bits_l1]), hn, h⟩
  | r + 1, k, n, hk, hn, h => by
    have hq := Int.ediv_nonneg h0 (Int.le_of_lt (pow_pos' (show (0 : Int) < 2 by decide) k))
    have hq2 : a / 2 ^ k ≤ a := Int.ediv_le_self _ h0
    have a1 : decide ((k : Int) < 32) = true := decide_eq_true (by omega)
    have a2 : wi64 ((k : Int) + 1) = ((k + 1 : Nat) : Int) := by rw [wi64_eq (by omega) (by omega)]; omega
    have e1 : m_limb_Bits_l1 a ((n : Int), (k : Int)) = some (.inl (((if (a / 2 ^ k) % 2 = 1 then k + 1 else n : Nat) : Int), ((k + 1 : Nat) : Int))) := by
      simp only [m_limb_Bits_l1, a1, if_true, sr_nat a k (by omega), bd_some, and_one (a / 2 ^ k) hq (by omega), a2]
      by_cases hb : (a / 2 ^ k) % 2 = 1
      · rw [if_pos (decide_eq_true hb), if_pos hb, bd_some]
      · rw [if_neg (by simpa using hb), if_neg hb, bd_some]
    rw [lp_more e1]
    exact bits_loop a h0 h1 r (k + 1) _ (by omega) (by split <;> omega) (h.step hn)
theorem bits_eq (a : Int) (h0 : 0 ≤ a) (h1 : a < (4294967296 : Int)) : ∃ m : Nat, m_limb_Bits a = some (m : Int) ∧ m ≤ 32 ∧ Nb a m := by
  obtain ⟨m, e, r⟩ := bits_loop a h0 h1 32 0 0 rfl (Nat.le_refl _) ⟨by rw [Int.pow_zero, Int.emod_one]; decide, fun h => absurd h (by decide)⟩
  refine ⟨m, ?_, r⟩
  unfold m_limb_Bits
  have e' : lp (m_limb_Bits_l1 a) (0, 0) = some (m : Int) := e
  rw [e', bd_some]
/-! shifted up -/
theorem lb_pow (s : Nat) (hs : s ≤ 32) : (4294967296 : Int) = 2 ^ s * 2 ^ (32 - s) := by
  rw [← Int.pow_add, show s + (32 - s) = 32 by omega]; rfl
theorem shl_or (c a : Int) (s : Nat) (hs : s < 32) (hc : 0 ≤ c ∧ c < 2 ^ s) (ha : 0 ≤ a ∧ a < (4294967296 : Int)) : Go.bits .or .u64 c (a * 2 ^ s % (4294967296 : Int)) = c + a * 2 ^ s % (4294967296 : Int) ∧ c + a * 2 ^ s % (4294967296 : Int) < (4294967296 : Int) ∧ a * 2 ^ s / (4294967296 : Int) < 2 ^ s := by
  have hp : (0 : Int) < 2 ^ s := pow_pos' (by decide) s
  have hB := lb_pow s (by omega)
  have e : a * 2 ^ s % (4294967296 : Int) = 2 ^ s * (a % 2 ^ (32 - s)) := by
    rw [hB, Int.mul_comm a]; exact Int.mul_emod_mul_of_pos _ _ hp
  have h1 := Int.emod_nonneg a (show (2 : Int) ^ (32 - s) ≠ 0 from Int.ne_of_gt (pow_pos' (by decide) _))
  have h2 := Int.emod_lt_of_pos a (pow_pos' (show (0 : Int) < 2 by decide) (32 - s))
  have h3 : 2 ^ s * (a % 2 ^ (32 - s)) + 2 ^ s ≤ (4294967296 : Int) := by
    have : 2 ^ s * (a % 2 ^ (32 - s) + 1) ≤ 2 ^ s * 2 ^ (32 - s) := Int.mul_le_mul_of_nonneg_left (by omega) (Int.le_of_lt hp)
    rw [← hB, Int.mul_add, Int.mul_one] at this
    exact this
  have h4 : 0 ≤ 2 ^ s * (a % 2 ^ (32 - s)) := Int.mul_nonneg (Int.le_of_lt hp) h1
  have h5 : a * 2 ^ s / (4294967296 : Int) < 2 ^ s := Int.ediv_lt_of_lt_mul (by decide) (by rw [Int.mul_comm (2 ^ s)]; exact Int.mul_lt_mul_of_pos_right ha.2 hp)
  refine ⟨?_, by omega, h5⟩
  rw [u64_or _ _ hc.1 (by omega) (by omega) (by omega), e]
  obtain ⟨C, hC⟩ := Int.eq_ofNat_of_zero_le hc.1
  obtain ⟨W, hW⟩ := Int.eq_ofNat_of_zero_le h1
  rw [hW]
  have e2 : ((2 : Int) ^ s * (W : Int)).toNat = 2 ^ s * W := by
    have : (2 : Int) ^ s * (W : Int) = ((2 ^ s * W : Nat) : Int) := by push_cast; rfl
    rw [this]; rfl
  have e3 : C < 2 ^ s := by
    have := hc.2
    have e : ((2 : Int) ^ s) = ((2 ^ s : Nat) : Int) := by push_cast; rfl
    rw [e, hC] at this
    exact Int.ofNat_lt.1 this
  rw [hC, e2, Int.toNat_natCast, Nat.or_comm, ← Nat.two_pow_add_eq_or_of_lt e3]
  push_cast
  rw [Int.add_comm]
theorem shl_loop (a : List Int) (s : Nat) (hs : s < 32) (ha : Dig (4294967296 : Int) a) (hl : a.length ≤ 1000000000) : ∀ (k i : Nat) (D : List Int) (c : Int), i + k = a.length → D.length = i → Dig (4294967296 : Int) D → (0 ≤ c ∧ c < 2 ^ s) → dv (4294967296 : Int) D + (4294967296 : Int) ^ i * c = dv (4294967296 : Int) (a.take i) * 2 ^ s →
    ∃ r, lp (m_nat_Shl_l1 a (s : Int)) ((i : Int), D ++ c :: List.replicate k 0) = some r ∧ Dig (4294967296 : Int) r ∧ r.length = a.length + 1 ∧ dv (4294967296 : Int) r = dv (4294967296 : Int) a * 2 ^ s
  | 0, i, D, c, hk, hi, hD, hc, hv => by
    obtain rfl : i = a.length := by omega
    have hb := (shl_or c 0 s hs hc ⟨Int.le_refl _, by decide⟩).2.1
    refine ⟨D ++ [c], lp_done (by simp [m_nat_Shl_l1]), hD.snoc ⟨hc.1, by omega⟩, by simp [hi], ?_⟩
    rw [dv_snoc, hi, hv, List.take_length]
  | k + 1, i, D, c, hk, hi, hD, hc, hv => by
    have ga := gI_dig ha (by decide) (i : Int)
    generalize hx : gI a (i : Int) = x at *
    obtain ⟨o1, o2, o3⟩ := shl_or c x s hs hc ga
    have hp : (0 : Int) < 2 ^ s := pow_pos' (by decide) s
    have hpB : (2 : Int) ^ s ≤ (4294967296 : Int) := by
      rw [lb_pow s (by omega)]
      have := pow_pos' (show (0 : Int) < 2 by decide) (32 - s)
      have h : (2 : Int) ^ s * 1 ≤ 2 ^ s * 2 ^ (32 - s) := Int.mul_le_mul_of_nonneg_left (by omega) (Int.le_of_lt hp)
      omega
    have hxs : 0 ≤ x * 2 ^ s := Int.mul_nonneg ga.1 (Int.le_of_lt hp)
    have hxs2 : x * 2 ^ s ≤ 4294967295 * 4294967296 := Int.mul_le_mul (by omega) hpB (Int.le_of_lt hp) (by decide)
    have a1 : decide ((i : Int) < (a.length : Int)) = true := decide_eq_true (by omega)
    have a2 : rd a (i : Int) = some x := by rw [rd_I (by omega) (by omega), hx]
    have a3 : qd .i64 (s : Int) 32 = some 0 := by rw [qd64 (by omega) (by decide) (by omega)]; congr 1; omega
    have a4 : rm .i64 (s : Int) 32 = some (s : Int) := by rw [rm_of (by omega) (by decide)]; congr 1; omega
    have a5 : wi64 ((i : Int) + 0) = (i : Int) := by rw [wi64_eq (by omega) (by omega)]; omega
    have a6 : wi64 ((i : Int) + 1) = ((i + 1 : Nat) : Int) := by rw [wi64_eq (by omega) (by omega)]; omega
    have a7 : rd (D ++ c :: List.replicate (k + 1) 0) (i : Int) = some c := by
      rw [rd_I (by omega) (by simp; omega)]
      have := gI_mid [] D (List.replicate (k + 1) 0) c
      simp only [List.nil_append, List.length_nil, Nat.zero_add, hi] at this
      rw [this]
    have a8 : ix (D ++ c :: List.replicate (k + 1) 0) (i : Int) = some i := ix_nat (by simp; omega)
    have a9 : (D ++ c :: List.replicate (k + 1) 0).set i (c + x * 2 ^ s % (4294967296 : Int)) = (D ++ [c + x * 2 ^ s % (4294967296 : Int)]) ++ 0 :: List.replicate k 0 := by
      rw [← hi, set_at]; rfl
    have b1 : ix ((D ++ [c + x * 2 ^ s % (4294967296 : Int)]) ++ 0 :: List.replicate k 0) ((i + 1 : Nat) : Int) = some (i + 1) := ix_nat (by simp; omega)
    have b2 : ((D ++ [c + x * 2 ^ s % (4294967296 : Int)]) ++ 0 :: List.replicate k 0).set (i + 1) (x * 2 ^ s / (4294967296 : Int)) = (D ++ [c + x * 2 ^ s % (4294967296 : Int)]) ++ (x * 2 ^ s / (4294967296 : Int)) :: List.replicate k 0 := by
      have : i + 1 = (D ++ [c + x * 2 ^ s % (4294967296 : Int)]).length := by simp [hi]
      rw [this, set_at]; simp
    have e1 : m_nat_Shl_l1 a (s : Int) ((i : Int), D ++ c :: List.replicate (k + 1) 0) = some (.inl (((i + 1 : Nat) : Int), (D ++ [c + x * 2 ^ s % (4294967296 : Int)]) ++ (x * 2 ^ s / (4294967296 : Int)) :: List.replicate k 0)) := by
      simp only [m_nat_Shl_l1, a1, if_true, a2, bd_some, a3, a4, sh_nat x s (by omega), wu64_eq hxs (by omega), a5, a7, rm_of hxs (show (0 : Int) < 4294967296 by decide), a8, o1, lt_eq, a9, sr32, a6, b1, b2]
    have h0 := Int.emod_nonneg (x * 2 ^ s) (show (4294967296 : Int) ≠ 0 by decide)
    obtain ⟨r, r1, r2⟩ := shl_loop a s hs ha hl k (i + 1) (D ++ [c + x * 2 ^ s % (4294967296 : Int)]) (x * 2 ^ s / (4294967296 : Int)) (by omega) (by simp [hi]) (hD.snoc ⟨by omega, o2⟩) ⟨Int.ediv_nonneg hxs (by decide), o3⟩ (by
      rw [dv_snoc, take_gI', hi, Int.pow_succ, hx]
      have := Int.mul_ediv_add_emod (x * 2 ^ s) (4294967296 : Int)
      clear e1 b1 b2 a7 a8 a9 o1 o2 o3
      generalize (4294967296 : Int) ^ i = P at *
      generalize dv (4294967296 : Int) (List.take i a) = T at *
      generalize dv (4294967296 : Int) D = DD at *
      generalize x * 2 ^ s / (4294967296 : Int) = q at *
      generalize x * 2 ^ s % (4294967296 : Int) = m at *
      have e : (T + P * x) * 2 ^ s = T * 2 ^ s + P * (x * 2 ^ s) := by rw [Int.add_mul, Int.mul_assoc]
      rw [e, ← hv, ← this]
      grind)
    exact ⟨r, by rw [lp_more e1]; exact r1, r2⟩
theorem shl_eq (x : Int) (s : Nat) (hs : s < 32) (hx : 0 ≤ x) (hl : (nl x).length ≤ 1000000000) : m_nat_Shl (nl x) (s : Int) = some (nl (x * 2 ^ s), 0) := by
  have e0 : m_nat_shift (s : Int) = some 0 := by
    unfold m_nat_shift
    rw [if_neg (by rw [decide_eq_true_eq]; omega), bd_some, if_neg (by rw [decide_eq_true_eq]; omega)]
  unfold m_nat_Shl
  rw [e0, bd_some, if_neg (by decide), bd_some]
  by_cases h0 : nl x = []
  · have hx0 := (nl_nil hx).1 h0
    subst hx0
    rw [h0, if_pos (by rfl), Int.zero_mul, nl_zero]
  · have hlen := List.length_pos_iff.2 h0
    rw [if_neg (by rw [decide_eq_true_eq]; omega)]
    have a3 : qd .i64 (s : Int) 32 = some 0 := by rw [qd64 (by omega) (by decide) (by omega)]; congr 1; omega
    have a4 : wi64 ((wi64 (((nl x).length : Int) + 0)) + 1) = (((nl x).length + 1 : Nat) : Int) := by rw [wi64_eq (x := ((nl x).length : Int) + 0) (by omega) (by omega), wi64_eq (by omega) (by omega)]; omega
    have hp : (0 : Int) < 2 ^ s := pow_pos' (by decide) s
    obtain ⟨r, r1, r2, r3, r4⟩ := shl_loop (nl x) s hs (nl_can x).1 hl (nl x).length 0 [] 0 (by omega) rfl (Dig.nil _) ⟨Int.le_refl _, hp⟩ (by simp [dv])
    have r1' : lp (m_nat_Shl_l1 (nl x) (s : Int)) (0, List.replicate ((nl x).length + 1) 0) = some r := r1
    rw [a3, bd_some, a4, mk_of (by omega), bd_some, show ((((nl x).length + 1 : Nat) : Int)).toNat = (nl x).length + 1 by omega, r1', bd_some, trimN_eq _ (by omega), bd_some, trimz_nl r2 (by rw [r4, nl_dv hx])]
end Go.Proofs.YtfboepeadeafmaaGreatDoor.AP
/- Shifted down; Knuth's rounds; division of any two numbers. -/
namespace Go.Proofs.YtfboepeadeafmaaGreatDoor.AP
open Go Go.Proofs.YtfboepeadeafmaaGreatDoor.Tri
set_option linter.unusedVariables false
set_option linter.unusedSimpArgs false
theorem drop_gI' (B : Int) (l : List Int) (i : Nat) : dv B (l.drop i) = gI l (i : Int) + B * dv B (l.drop (i + 1)) := by
  by_cases h : i < l.length
  · rw [drop_gI l i h, dv_cons]
  · rw [List.drop_of_length_le (by omega), List.drop_of_length_le (by omega), gI_beyond l i (by omega), dv_nil, Int.mul_zero]; rfl
theorem shr_step (a0 a1 T : Int) (s : Nat) (hs : s ≤ 32) (h0 : 0 ≤ a0 ∧ a0 < (4294967296 : Int)) : (a0 + (4294967296 : Int) * (a1 + (4294967296 : Int) * T)) / 2 ^ s = (a0 + (4294967296 : Int) * a1) / 2 ^ s % (4294967296 : Int) + (4294967296 : Int) * ((a1 + (4294967296 : Int) * T) / 2 ^ s) := by
  have hp : (0 : Int) < 2 ^ s := pow_pos' (by decide) s
  have hB := lb_pow s hs
  have e1 : (a0 + (4294967296 : Int) * (a1 + (4294967296 : Int) * T)) / 2 ^ s = (a0 + (4294967296 : Int) * a1) / 2 ^ s + (4294967296 : Int) * (2 ^ (32 - s) * T) := by
    have : a0 + (4294967296 : Int) * (a1 + (4294967296 : Int) * T) = a0 + (4294967296 : Int) * a1 + 2 ^ s * ((4294967296 : Int) * (2 ^ (32 - s) * T)) := by
      have h : (4294967296 : Int) * ((4294967296 : Int) * T) = 2 ^ s * ((4294967296 : Int) * (2 ^ (32 - s) * T)) := by
        conv => lhs; rw [show (4294967296 : Int) * ((4294967296 : Int) * T) = (4294967296 : Int) * T * (4294967296 : Int) from Int.mul_comm _ _]
        conv => lhs; arg 2; rw [hB]
        grind
      rw [← h]; grind
    rw [this, Int.add_mul_ediv_left _ _ (by omega)]
  have e2 : (a1 + (4294967296 : Int) * T) / 2 ^ s = a1 / 2 ^ s + 2 ^ (32 - s) * T := by
    have : a1 + (4294967296 : Int) * T = a1 + 2 ^ s * (2 ^ (32 - s) * T) := by rw [← Int.mul_assoc, ← hB]
    rw [this, Int.add_mul_ediv_left _ _ (by omega)]
  have e3 : (a0 + (4294967296 : Int) * a1) / 2 ^ s / (4294967296 : Int) = a1 / 2 ^ s := by
    rw [Int.ediv_ediv_of_nonneg (Int.le_of_lt hp), Int.mul_comm (2 ^ s), ← Int.ediv_ediv_of_nonneg (show (0 : Int) ≤ (4294967296 : Int) by decide), Int.add_mul_ediv_left _ _ (show (4294967296 : Int) ≠ 0 by decide), Int.ediv_eq_zero_of_lt h0.1 h0.2, Int.zero_add]
  have e4 := Int.mul_ediv_add_emod ((a0 + (4294967296 : Int) * a1) / 2 ^ s) (4294967296 : Int)
  rw [e1, e2, Int.mul_add, ← e3]
  omega
theorem or_high (x y : Int) (h0 : 0 ≤ x) (h1 : x < (4294967296 : Int)) (h2 : 0 ≤ y) (h3 : y < (4294967296 : Int)) : Go.bits .or .u64 y (x * (4294967296 : Int)) = y + (4294967296 : Int) * x := by
  have := or_low x y h0 h1 h2 h3
  rw [u64_or _ _ (by omega) (by omega) h2 (by omega)] at this
  rw [u64_or _ _ h2 (by omega) (by omega) (by omega), Nat.or_comm, this]
  omega
theorem shr_loop (a z : List Int) (s : Nat) (hs : s < 32) (ha : Dig (4294967296 : Int) a) (hl : a.length ≤ 1000000000) (hz : z.length = a.length) : ∀ (k i : Nat) (D : List Int), i + k = a.length → D.length = i → Dig (4294967296 : Int) D → dv (4294967296 : Int) D + (4294967296 : Int) ^ i * (dv (4294967296 : Int) (a.drop i) / 2 ^ s) = dv (4294967296 : Int) a / 2 ^ s →
    ∃ r, lp (m_nat_Shr_l1 a (s : Int) z) ((i : Int), D ++ List.replicate k 0) = some r ∧ Dig (4294967296 : Int) r ∧ r.length = a.length ∧ dv (4294967296 : Int) r = dv (4294967296 : Int) a / 2 ^ s
  | 0, i, D, hk, hi, hD, hv => by
    obtain rfl : i = a.length := by omega
    refine ⟨D, lp_done (by simp [m_nat_Shr_l1, hz]), hD, hi, ?_⟩
    rw [List.drop_length, dv_nil, Int.zero_ediv, Int.mul_zero, Int.add_zero] at hv
    exact hv
  | k + 1, i, D, hk, hi, hD, hv => by
    have g0 := gI_dig ha (by decide) (i : Int)
    have g1 := gI_dig ha (by decide) ((i + 1 : Nat) : Int)
    have hst := shr_step (gI a (i : Int)) (gI a ((i + 1 : Nat) : Int)) (dv (4294967296 : Int) (a.drop (i + 2))) s (by omega) g0
    have d1 := drop_gI' (4294967296 : Int) a (i + 1)
    have d0 := drop_gI' (4294967296 : Int) a i
    rw [show i + 1 + 1 = i + 2 from rfl] at d1
    rw [← d1, ← d0] at hst
    generalize hx : gI a (i : Int) = x at *
    generalize hy : gI a ((i + 1 : Nat) : Int) = y at *
    have hw : 0 ≤ (x + (4294967296 : Int) * y) / 2 ^ s := Int.ediv_nonneg (by omega) (Int.le_of_lt (pow_pos' (by decide) s))
    have a1 : decide ((i : Int) < (z.length : Int)) = true := decide_eq_true (by omega)
    have a2 : rd a (i : Int) = some x := by rw [rd_I (by omega) (by omega), hx]
    have a3 : qd .i64 (s : Int) 32 = some 0 := by rw [qd64 (by omega) (by decide) (by omega)]; congr 1; omega
    have a4 : rm .i64 (s : Int) 32 = some (s : Int) := by rw [rm_of (by omega) (by decide)]; congr 1; omega
    have a5 : wi64 ((i : Int) + 0) = (i : Int) := by rw [wi64_eq (by omega) (by omega)]; omega
    have a6 : wi64 ((i : Int) + 1) = ((i + 1 : Nat) : Int) := by rw [wi64_eq (by omega) (by omega)]; omega
    have a7 := natAt_eq a (i + 1) (by omega)
    rw [hy] at a7
    have a8 : ix (D ++ List.replicate (k + 1) 0) (i : Int) = some i := ix_nat (by simp; omega)
    have a9 : (D ++ List.replicate (k + 1) 0).set i ((x + (4294967296 : Int) * y) / 2 ^ s % (4294967296 : Int)) = (D ++ [(x + (4294967296 : Int) * y) / 2 ^ s % (4294967296 : Int)]) ++ List.replicate k 0 := by
      rw [show List.replicate (k + 1) (0 : Int) = 0 :: List.replicate k 0 from rfl, ← hi, set_at]
    have e1 : m_nat_Shr_l1 a (s : Int) z ((i : Int), D ++ List.replicate (k + 1) 0) = some (.inl (((i + 1 : Nat) : Int), (D ++ [(x + (4294967296 : Int) * y) / 2 ^ s % (4294967296 : Int)]) ++ List.replicate k 0)) := by
      simp only [m_nat_Shr_l1, a1, if_true, a3, bd_some, a5, a2, a6, a7, sh32 y g1.1 g1.2, a4, or_high y x g1.1 g1.2 g0.1 g0.2, sr_nat _ s (by omega), rm_of hw (show (0 : Int) < 4294967296 by decide), a8, lt_eq, a9]
    obtain ⟨r, r1, r2⟩ := shr_loop a z s hs ha hl hz k (i + 1) (D ++ [(x + (4294967296 : Int) * y) / 2 ^ s % (4294967296 : Int)]) (by omega) (by simp [hi]) (hD.snoc ⟨by omega, by omega⟩) (by
      rw [dv_snoc, hi, Int.pow_succ, ← hv, hst]
      grind)
    exact ⟨r, by rw [lp_more e1]; exact r1, r2⟩
theorem shr_eq (x : Int) (s : Nat) (hs : s < 32) (hx : 0 ≤ x) (hl : (nl x).length ≤ 1000000000) : m_nat_Shr (nl x) (s : Int) = some (nl (x / 2 ^ s), 0) := by
  have e0 : m_nat_shift (s : Int) = some 0 := by
    unfold m_nat_shift
    rw [if_neg (by rw [decide_eq_true_eq]; omega), bd_some, if_neg (by rw [decide_eq_true_eq]; omega)]
  have a3 : qd .i64 (s : Int) 32 = some 0 := by rw [qd64 (by omega) (by decide) (by omega)]; congr 1; omega
  unfold m_nat_Shr
  rw [e0, bd_some, if_neg (by decide), a3, bd_some, bd_some, bd_some]
  by_cases h0 : nl x = []
  · have hx0 := (nl_nil hx).1 h0
    subst hx0
    rw [h0, if_pos (by rfl), Int.zero_ediv, nl_zero]
  · have hlen := List.length_pos_iff.2 h0
    rw [if_neg (by rw [decide_eq_true_eq]; omega)]
    have a4 : wi64 (((nl x).length : Int) - 0) = ((nl x).length : Int) := by rw [wi64_eq (by omega) (by omega)]; omega
    obtain ⟨r, r1, r2, r3, r4⟩ := shr_loop (nl x) (List.replicate (nl x).length 0) s hs (nl_can x).1 hl (by simp) (nl x).length 0 [] (by omega) rfl (Dig.nil _) (by simp [dv])
    have r1' : lp (m_nat_Shr_l1 (nl x) (s : Int) (List.replicate (nl x).length 0)) (0, List.replicate (nl x).length 0) = some r := r1
    rw [a4, mk_of (by omega), bd_some, show (((nl x).length : Int)).toNat = (nl x).length by omega, r1', bd_some, trimN_eq _ (by omega), bd_some, trimz_nl r2 (by rw [r4, nl_dv hx])]
theorem dv_zero_of_lt {l : List Int} (hl : Dig (4294967296 : Int) l) {n : Nat} {X : Int} (h0 : 0 ≤ X) (h : X + (4294967296 : Int) ^ n * dv (4294967296 : Int) l < (4294967296 : Int) ^ n) : dv (4294967296 : Int) l = 0 := by
  have h1 := dv_nonneg (by decide) hl
  apply Classical.byContradiction
  intro hne
  have : (4294967296 : Int) ^ n * 1 ≤ (4294967296 : Int) ^ n * dv (4294967296 : Int) l := Int.mul_le_mul_of_nonneg_left (by omega) (Int.le_of_lt (pow_pos' (by decide) n))
  omega
/-- one round -/
theorem knuth_round (v u q : List Int) (n k : Nat) (hvl : v.length = n + 2) (hv : Dig (4294967296 : Int) v) (ht : 2147483648 ≤ gI v ((n + 1 : Nat) : Int)) (hu : Dig (4294967296 : Int) u) (hq : Dig (4294967296 : Int) q) (hku : k + v.length + 1 ≤ u.length) (hkq : k < q.length)
    (hlu : u.length ≤ 1000000000) (hlq : q.length ≤ 1000000000) (hU : dv (4294967296 : Int) (u.drop (k + 1)) < dv (4294967296 : Int) v) :
    ∃ u' q', m_divide_knuth_l1 (v, 0) ((k : Int), u, q) = some (.inl ((k : Int) - 1, u', q')) ∧ Dig (4294967296 : Int) u' ∧ u'.length = u.length ∧ Dig (4294967296 : Int) q' ∧ q'.length = q.length ∧ dv (4294967296 : Int) (u'.drop k) < dv (4294967296 : Int) v ∧ dv (4294967296 : Int) u' + dv (4294967296 : Int) v * ((4294967296 : Int) ^ k * dv (4294967296 : Int) (q'.drop k)) = dv (4294967296 : Int) u + dv (4294967296 : Int) v * ((4294967296 : Int) ^ (k + 1) * dv (4294967296 : Int) (q.drop (k + 1))) := by
  obtain ⟨L, M, R, rfl, hL, hM⟩ : ∃ L M R : List Int, u = L ++ M ++ R ∧ L.length = k ∧ M.length = v.length + 1 := by
    refine ⟨u.take k, (u.drop k).take (v.length + 1), (u.drop k).drop (v.length + 1), ?_, by simp; omega, by simp; omega⟩
    rw [List.append_assoc, List.take_append_drop, List.take_append_drop]
  obtain ⟨m0, M1, rfl⟩ : ∃ a l, M = a :: l := by
    cases M with
    | nil => simp at hM
    | cons a l => exact ⟨a, l, rfl⟩
  have hM1 : M1.length = v.length := by simpa using hM
  have dL := hu.left.left
  have dM := hu.left.right
  have dR := hu.right
  have hlt := dv_lt (by decide) hv
  have hV0 := dv_nonneg (by decide) hv
  have e1 : (L ++ m0 :: M1 ++ R).drop (k + 1) = M1 ++ R := by
    rw [← hL, show L ++ m0 :: M1 ++ R = (L ++ [m0]) ++ (M1 ++ R) by simp, List.drop_left' (by simp)]
  rw [e1, dv_append, hM1] at hU
  have zR : dv (4294967296 : Int) R = 0 := dv_zero_of_lt dR (dv_nonneg (by decide) dM.tail) (Int.lt_trans hU hlt)
  rw [zR, Int.mul_zero, Int.add_zero] at hU
  have hm0 := dM.head
  have hUM : dv (4294967296 : Int) (m0 :: M1) < dv (4294967296 : Int) v * (4294967296 : Int) := by rw [dv_cons]; omega
  simp only [List.length_append] at hlu hku
  have hlen : (L ++ (m0 :: M1) ++ R).length ≤ 1000000000 := by simp only [List.length_append]; exact hlu
  obtain ⟨g, g1, g2, g3, g4⟩ := guess_eq L (m0 :: M1) R v n hvl hM hv dM ht hUM (by omega)
  obtain ⟨D, t1, t2, t3, t4⟩ := take_eq L (m0 :: M1) R v g hM hv dM ⟨g2, g3⟩ hlen (by omega)
  have hVp : 0 < dv (4294967296 : Int) v := by have := dv_nonneg (by decide) dM.tail; omega
  have hU0 := dv_nonneg (by decide) dM
  have q0 : 0 ≤ dv (4294967296 : Int) (m0 :: M1) / dv (4294967296 : Int) v := Int.ediv_nonneg hU0 (by omega)
  have hr1 := Int.emod_nonneg (dv (4294967296 : Int) (m0 :: M1)) (show dv (4294967296 : Int) v ≠ 0 by omega)
  have hr2 := Int.emod_lt_of_pos (dv (4294967296 : Int) (m0 :: M1)) hVp
  have hr3 := Int.mul_ediv_add_emod (dv (4294967296 : Int) (m0 :: M1)) (dv (4294967296 : Int) v)
  have hpw : (4294967296 : Int) ^ (v.length + 1) = (4294967296 : Int) ^ v.length * (4294967296 : Int) := Int.pow_succ _ _
  rw [hL] at g1 t1
  have b1 : decide ((0 : Int) ≤ (k : Int)) = true := decide_eq_true (by omega)
  have b2 : ix q (k : Int) = some k := ix_nat hkq
  have b3 : rd (q.set k g) (k : Int) = some g := by rw [rd_nat]; simp [hkq]
  have b4 : ix (q.set k g) (k : Int) = some k := ix_nat (by simpa using hkq)
  have b5 : wi64 ((k : Int) - 1) = (k : Int) - 1 := wi64_eq (by omega) (by omega)
  -- what comes out, either way
  have main : ∃ E, m_divide_knuth_l1 (v, 0) ((k : Int), L ++ (m0 :: M1) ++ R, q) = some (.inl ((k : Int) - 1, L ++ E ++ R, q.set k (dv (4294967296 : Int) (m0 :: M1) / dv (4294967296 : Int) v))) ∧ Dig (4294967296 : Int) E ∧ E.length = v.length + 1 ∧ dv (4294967296 : Int) E = dv (4294967296 : Int) (m0 :: M1) % dv (4294967296 : Int) v := by
    by_cases hc : dv (4294967296 : Int) (m0 :: M1) < g * dv (4294967296 : Int) v
    · have hg : g = dv (4294967296 : Int) (m0 :: M1) / dv (4294967296 : Int) v + 1 := by
        rcases g4 with h | h
        · rw [h, Int.mul_comm] at hc; omega
        · exact h
      rw [if_pos hc] at t4
      obtain ⟨E, c, s1, s2, s3, s4, s5⟩ := give_eq L D R v t2 hv t3 (by simp only [List.length_append, t2]; omega) (by omega)
      rw [hL] at s1
      have hgV : g * dv (4294967296 : Int) v = dv (4294967296 : Int) v * (dv (4294967296 : Int) (m0 :: M1) / dv (4294967296 : Int) v) + dv (4294967296 : Int) v := by rw [hg]; grind
      have hE := dv_lt (by decide) s3
      have hE0 := dv_nonneg (by decide) s3
      rw [s2] at hE
      have hpos := pow_pos' (show (0 : Int) < (4294967296 : Int) by decide) v.length
      have hc1 : c = 1 := by
        rcases s4 with h | h
        · subst h; rw [Int.mul_zero] at s5; omega
        · exact h
      subst hc1
      refine ⟨E, ?_, s3, s2, by omega⟩
      have c1 : (q.set k g).set k (dv (4294967296 : Int) (m0 :: M1) / dv (4294967296 : Int) v) = q.set k (dv (4294967296 : Int) (m0 :: M1) / dv (4294967296 : Int) v) := by simp
      have c2 : wu64 (g - 1) = dv (4294967296 : Int) (m0 :: M1) / dv (4294967296 : Int) v := by rw [wu64_eq (by omega) (by omega)]; omega
      simp only [m_divide_knuth_l1, b1, if_true, g1, bd_some, b2, lt_eq, b3, t1, decide_eq_true hc, b4, c2, c1, s1, b5]
    · have hg : g = dv (4294967296 : Int) (m0 :: M1) / dv (4294967296 : Int) v := by
        rcases g4 with h | h
        · exact h
        · exfalso
          apply hc
          have : g * dv (4294967296 : Int) v = dv (4294967296 : Int) v * (dv (4294967296 : Int) (m0 :: M1) / dv (4294967296 : Int) v) + dv (4294967296 : Int) v := by rw [h]; grind
          omega
      rw [if_neg hc] at t4
      refine ⟨D, ?_, t3, t2, ?_⟩
      · simp only [m_divide_knuth_l1, b1, if_true, g1, bd_some, b2, lt_eq, b3, t1, decide_eq_false hc, b5]
        rw [← hg]; rfl
      · rw [t4, hg, Int.mul_comm]; omega
  obtain ⟨E, m1, m2, m3, m4⟩ := main
  have hqr : Dig (4294967296 : Int) (q.set k (dv (4294967296 : Int) (m0 :: M1) / dv (4294967296 : Int) v)) := hq.set _ ⟨q0, Int.ediv_lt_of_lt_mul hVp (by rw [Int.mul_comm]; exact hUM)⟩
  refine ⟨L ++ E ++ R, q.set k (dv (4294967296 : Int) (m0 :: M1) / dv (4294967296 : Int) v), m1, (dL.append m2).append dR, by simp only [List.length_append, m3]; simp only [List.length_cons] at hM ⊢; omega, hqr, by simp, ?_, ?_⟩
  · have : (L ++ E ++ R).drop k = E ++ R := by rw [List.append_assoc, List.drop_left' hL]
    rw [this, dv_append, zR, Int.mul_zero, Int.add_zero, m4]
    exact hr2
  · have e2 : (q.set k (dv (4294967296 : Int) (m0 :: M1) / dv (4294967296 : Int) v)).drop k = (dv (4294967296 : Int) (m0 :: M1) / dv (4294967296 : Int) v) :: q.drop (k + 1) := by
      rw [List.drop_set, if_neg (by omega), Nat.sub_self, List.drop_eq_getElem_cons hkq]; rfl
    rw [e2, dv_append, dv_append, dv_append, dv_append, zR, Int.mul_zero, Int.add_zero, Int.mul_zero, Int.add_zero, hL, m4, Int.pow_succ]
    simp only [dv_cons (4294967296 : Int) (dv (4294967296 : Int) (m0 :: M1) / dv (4294967296 : Int) v)]
    generalize dv (4294967296 : Int) (m0 :: M1) = X at *
    generalize dv (4294967296 : Int) v = V at *
    generalize X / V = Q at *
    generalize X % V = W at *
    generalize dv (4294967296 : Int) (q.drop (k + 1)) = Y at *
    generalize (4294967296 : Int) ^ k = P at *
    rw [← hr3]
    grind
end Go.Proofs.YtfboepeadeafmaaGreatDoor.AP
/- Division of any two numbers; floors; the document's floor. -/
namespace Go.Proofs.YtfboepeadeafmaaGreatDoor.AP
open Go Go.Proofs.YtfboepeadeafmaaGreatDoor.Tri
set_option linter.unusedVariables false
set_option linter.unusedSimpArgs false
theorem knuth_loop (v : List Int) (n : Nat) (hvl : v.length = n + 2) (hv : Dig (4294967296 : Int) v) (ht : 2147483648 ≤ gI v ((n + 1 : Nat) : Int)) : ∀ (k : Nat) (u q : List Int), Dig (4294967296 : Int) u → Dig (4294967296 : Int) q → k + v.length ≤ u.length → k ≤ q.length → u.length ≤ 1000000000 → q.length ≤ 1000000000 → dv (4294967296 : Int) (u.drop k) < dv (4294967296 : Int) v →
    ∃ u' q', lp (m_divide_knuth_l1 (v, 0)) ((k : Int) - 1, u, q) = some (u', q') ∧ Dig (4294967296 : Int) u' ∧ u'.length = u.length ∧ Dig (4294967296 : Int) q' ∧ q'.length = q.length ∧ dv (4294967296 : Int) u' < dv (4294967296 : Int) v ∧ dv (4294967296 : Int) u' + dv (4294967296 : Int) v * dv (4294967296 : Int) q' = dv (4294967296 : Int) u + dv (4294967296 : Int) v * ((4294967296 : Int) ^ k * dv (4294967296 : Int) (q.drop k))
  | 0, u, q, hu, hq, h1, h2, h3, h4, h5 => ⟨u, q, lp_done (by simp [m_divide_knuth_l1]), hu, rfl, hq, rfl, by simpa using h5, by simp⟩
  | k + 1, u, q, hu, hq, h1, h2, h3, h4, h5 => by
    obtain ⟨u1, q1, r1, r2, r3, r4, r5, r6, r7⟩ := knuth_round v u q n k hvl hv ht hu hq (by omega) (by omega) h3 h4 h5
    obtain ⟨u2, q2, s1, s2, s3, s4, s5, s6, s7⟩ := knuth_loop v n hvl hv ht k u1 q1 r2 r4 (by omega) (by omega) (by omega) (by omega) r6
    refine ⟨u2, q2, ?_, s2, s3.trans r3, s4, s5.trans r5, s6, s7.trans r7⟩
    rw [show ((k + 1 : Nat) : Int) - 1 = (k : Int) by omega, lp_more r1]
    exact s1
theorem knuth_eq (x y : Int) (hy : (4294967296 : Int) ≤ y) (hxy : y ≤ x) (hl : (nl x).length ≤ 100000000) : m_divide_knuth (nl x) (nl y) = some (nl (x / y), nl (x % y)) := by
  have hlb := nl_mono (by omega) hxy
  obtain ⟨n, hn⟩ : ∃ n, (nl y).length = n + 2 := by
    refine ⟨(nl y).length - 2, ?_⟩
    have h1 := lt_pow_len (x := y) (by omega)
    have : ¬ (nl y).length ≤ 1 := fun h => by
      have := pow_mono (show (0 : Int) < (4294967296 : Int) by decide) h
      rw [Int.pow_one] at this
      omega
    omega
  obtain ⟨Bl, t, hb, hBl⟩ := split_last hn
  have dB := (nl_can y).1
  have hvy := nl_dv (x := y) (by omega)
  have htop := (nl_can y).2
  rw [hb] at dB hvy htop
  have ht0 := Top.snoc.1 htop
  have htd := dB.right.head
  rw [dv_snoc, hBl] at hvy
  have lBl0 := dv_nonneg (by decide) dB.left
  have lBl := dv_lt (by decide) dB.left
  rw [hBl] at lBl
  obtain ⟨m, hm, hm1, hm2, hm3⟩ := bits_eq t htd.1 htd.2
  have hmpos : 0 < m := by
    apply Nat.pos_of_ne_zero
    rintro rfl
    rw [Int.pow_zero] at hm2; omega
  have hm3 := hm3 hmpos
  obtain ⟨s, hs⟩ : ∃ s, s = 32 - m := ⟨_, rfl⟩
  have hs31 : s < 32 := by omega
  have hpw := lb_pow m (by omega)
  rw [← hs] at hpw
  have hp : (0 : Int) < 2 ^ s := pow_pos' (by decide) s
  have hpm : (2 : Int) ^ m = 2 ^ (m - 1) * 2 := by
    have e : m = (m - 1) + 1 := by omega
    conv => lhs; rw [e]
    exact Int.pow_succ _ _
  have hhalf : (2 : Int) ^ (m - 1) * 2 ^ s = 2147483648 := by
    have : (2 : Int) ^ (m - 1) * 2 * 2 ^ s = (4294967296 : Int) := by rw [← hpm, ← hpw]
    have e : (2 : Int) ^ (m - 1) * 2 * 2 ^ s = 2 * (2 ^ (m - 1) * 2 ^ s) := by grind
    omega
  have hs2 : (2 : Int) ^ s ≤ 2147483648 := by
    rw [← hhalf]
    have := pow_pos' (show (0 : Int) < 2 by decide) (m - 1)
    have h : 1 * (2 : Int) ^ s ≤ 2 ^ (m - 1) * 2 ^ s := Int.mul_le_mul_of_nonneg_right (by omega) (Int.le_of_lt hp)
    omega
  have hP := pow_pos' (show (0 : Int) < (4294967296 : Int) by decide) (n + 1)
  have hVlt : y * 2 ^ s < (4294967296 : Int) ^ (n + 2) := by
    have h1 : y < (4294967296 : Int) ^ (n + 1) * 2 ^ m := by
      have : (4294967296 : Int) ^ (n + 1) * (t + 1) ≤ (4294967296 : Int) ^ (n + 1) * 2 ^ m := Int.mul_le_mul_of_nonneg_left (by omega) (Int.le_of_lt hP)
      rw [Int.mul_add, Int.mul_one] at this
      omega
    have h2 := Int.mul_lt_mul_of_pos_right h1 hp
    rw [Int.mul_assoc, ← hpw, ← Int.pow_succ] at h2
    exact h2
  have hVge : (4294967296 : Int) ^ (n + 1) * 2147483648 ≤ y * 2 ^ s := by
    have h1 : (4294967296 : Int) ^ (n + 1) * 2 ^ (m - 1) ≤ y := by
      have : (4294967296 : Int) ^ (n + 1) * 2 ^ (m - 1) ≤ (4294967296 : Int) ^ (n + 1) * t := Int.mul_le_mul_of_nonneg_left hm3 (Int.le_of_lt hP)
      omega
    have h2 := Int.mul_le_mul_of_nonneg_right h1 (Int.le_of_lt hp)
    rw [Int.mul_assoc, hhalf] at h2
    exact h2
  have hV0 : 0 ≤ y * 2 ^ s := by omega
  have hlV : (nl (y * 2 ^ s)).length = n + 2 := by
    have h1 := nl_len hV0 hVlt
    have h2 := lt_pow_len hV0
    have : ¬ (nl (y * 2 ^ s)).length ≤ n + 1 := fun h => by
      have := pow_mono (show (0 : Int) < (4294967296 : Int) by decide) h
      omega
    omega
  have dV := (nl_can (y * 2 ^ s)).1
  have vV := nl_dv hV0
  have htV : 2147483648 ≤ gI (nl (y * 2 ^ s)) ((n + 1 : Nat) : Int) := by
    obtain ⟨Vl, w, hw, hVl⟩ := split_last hlV
    rw [hw] at dV vV ⊢
    have := gI_last Vl w
    rw [hVl] at this
    rw [this]
    rw [dv_snoc, hVl] at vV
    have h1 := dv_lt (by decide) dV.left
    rw [hVl] at h1
    have h2 : (4294967296 : Int) ^ (n + 1) * 2147483648 < (4294967296 : Int) ^ (n + 1) * (w + 1) := by rw [Int.mul_add, Int.mul_one]; omega
    have := Int.lt_of_mul_lt_mul_left h2 (Int.le_of_lt hP)
    omega
  have hx0 : 0 ≤ x := by omega
  have hA0 : 0 ≤ x * 2 ^ s := Int.mul_nonneg hx0 (Int.le_of_lt hp)
  have hA1 : x * 2 ^ s < (4294967296 : Int) ^ (nl x).length * 2 ^ s := Int.mul_lt_mul_of_pos_right (lt_pow_len hx0) hp
  have hPl := pow_pos' (show (0 : Int) < (4294967296 : Int) by decide) (nl x).length
  have hlA : (nl (x * 2 ^ s)).length ≤ (nl x).length + 1 := nl_len hA0 (by
    rw [Int.pow_succ]
    have : (4294967296 : Int) ^ (nl x).length * 2 ^ s ≤ (4294967296 : Int) ^ (nl x).length * (4294967296 : Int) := Int.mul_le_mul_of_nonneg_left (by omega) (Int.le_of_lt hPl)
    omega)
  obtain ⟨z, hz⟩ : ∃ z, z = (nl x).length + 1 - (nl (x * 2 ^ s)).length := ⟨_, rfl⟩
  obtain ⟨k, hk⟩ : ∃ k, k = (nl x).length - (n + 2) + 1 := ⟨_, rfl⟩
  have dA := (nl_can (x * 2 ^ s)).1
  have vA := nl_dv hA0
  have du : Dig (4294967296 : Int) (nl (x * 2 ^ s) ++ List.replicate z 0) := dA.append (Dig.replicate (by decide) z)
  have vu : dv (4294967296 : Int) (nl (x * 2 ^ s) ++ List.replicate z 0) = x * 2 ^ s := by rw [dv_append_zeros, vA]
  have lu : (nl (x * 2 ^ s) ++ List.replicate z 0).length = (nl x).length + 1 := by simp; omega
  have hdrop : dv (4294967296 : Int) ((nl (x * 2 ^ s) ++ List.replicate z 0).drop k) < dv (4294967296 : Int) (nl (y * 2 ^ s)) := by
    have h1 := dv_split (4294967296 : Int) (nl (x * 2 ^ s) ++ List.replicate z 0) k (by omega)
    rw [vu] at h1
    have h2 := dv_nonneg (by decide) (du.take k)
    have h3 : (nl x).length = k + (n + 1) := by omega
    rw [h3, Int.pow_add, Int.mul_assoc] at hA1
    have h4 : (4294967296 : Int) ^ k * dv (4294967296 : Int) ((nl (x * 2 ^ s) ++ List.replicate z 0).drop k) < (4294967296 : Int) ^ k * ((4294967296 : Int) ^ (n + 1) * 2 ^ s) := by omega
    have h5 := Int.lt_of_mul_lt_mul_left h4 (Int.le_of_lt (pow_pos' (by decide) k))
    have h6 : (4294967296 : Int) ^ (n + 1) * 2 ^ s ≤ (4294967296 : Int) ^ (n + 1) * 2147483648 := Int.mul_le_mul_of_nonneg_left hs2 (Int.le_of_lt hP)
    rw [vV]; omega
  obtain ⟨u', q', r1, r2, r3, r4, r5, r6, r7⟩ := knuth_loop (nl (y * 2 ^ s)) n hlV dV htV k (nl (x * 2 ^ s) ++ List.replicate z 0) (List.replicate k 0) du (Dig.replicate (by decide) k) (by omega) (by simp) (by omega) (by simp; omega) hdrop
  rw [vu, vV] at r7
  rw [vV] at r6
  have hd0 : List.drop k (List.replicate k (0 : Int)) = [] := List.drop_of_length_le (by simp)
  rw [hd0, dv_nil, Int.mul_zero, Int.mul_zero, Int.add_zero] at r7
  have hVpos : 0 < y * 2 ^ s := Int.mul_pos (by omega) hp
  obtain ⟨f1, f2⟩ := (Int.ediv_emod_unique (a := x * 2 ^ s) (b := y * 2 ^ s) (r := dv (4294967296 : Int) u') (q := dv (4294967296 : Int) q') hVpos).2 ⟨r7, dv_nonneg (by decide) r2, r6⟩
  rw [Int.mul_ediv_mul_of_pos_left x y hp] at f1
  have f3 : dv (4294967296 : Int) u' / 2 ^ s = x % y := by
    rw [← f2, Int.mul_comm x, Int.mul_comm y, Int.mul_emod_mul_of_pos _ _ hp, Int.mul_ediv_cancel_left _ (Int.ne_of_gt hp)]
  have hlu' : (nl (dv (4294967296 : Int) u')).length ≤ (nl x).length + 1 := by
    refine nl_len (dv_nonneg (by decide) r2) ?_
    have := dv_lt (by decide) r2
    rw [r3, lu] at this
    exact this
  -- the walk
  have hlA2 := lt_pow_len hA0
  have c1 : wi64 (((nl y).length : Int) - 1) = ((n + 1 : Nat) : Int) := by rw [wi64_eq (by omega) (by omega)]; omega
  have c2 : rd (nl y) ((n + 1 : Nat) : Int) = some t := by rw [hb, rd_I (by omega) (by simp; omega), ← hBl, gI_last]
  have c3 : wi64 (32 - (m : Int)) = (s : Int) := by rw [wi64_eq (by omega) (by omega)]; omega
  have c4 : wi64 (((nl x).length : Int) + 1) = (((nl x).length + 1 : Nat) : Int) := by rw [wi64_eq (by omega) (by omega)]; omega
  have c5 : cpy (List.replicate ((nl x).length + 1) (0 : Int)) 0 (nl (x * 2 ^ s)) = some (nl (x * 2 ^ s) ++ List.replicate z 0) := by
    unfold cpy
    rw [if_pos (by rw [List.length_replicate]; omega), List.take_zero, List.nil_append, List.drop_replicate, Nat.zero_add, ← hz]
  have c6 : wi64 (((nl x).length : Int) - ((nl y).length : Int)) = (k : Int) - 1 := by rw [wi64_eq (by omega) (by omega)]; omega
  have c7 : wi64 ((k : Int) - 1 + 1) = (k : Int) := by rw [wi64_eq (by omega) (by omega)]; omega
  unfold m_divide_knuth
  rw [c1, c2, bd_some, hm, bd_some, c3, shl_eq y s hs31 (by omega) (by omega), bd_some, c4, mk_of (by omega), bd_some, shl_eq x s hs31 hx0 (by omega), bd_some, Int.toNat_natCast]
  dsimp only
  rw [c5, bd_some, c6, c7, mk_of (by omega), bd_some, Int.toNat_natCast, lt_eq, r1, bd_some]
  dsimp only
  rw [make_dig q' r4 (by rw [r5]; simp; omega), bd_some, make_dig u' r2 (by omega), bd_some]
  dsimp only
  rw [trimz_nl r2 rfl, shr_eq _ s hs31 (dv_nonneg (by decide) r2) (by omega), bd_some, trimz_nl r4 f1.symm, f3]
theorem div_eq (x y : Int) (hx : 0 ≤ x) (hy : 0 < y) (hl : (nl x).length ≤ 100000000) (hl2 : (nl y).length ≤ 100000000) : m_divide_Div (nl x) (nl y) = some (nl (x / y), nl (x % y), 0) := by
  by_cases h1 : y < (4294967296 : Int)
  · exact div1_eq x y hx hy h1 (by omega)
  · have hlen : 1 < (nl y).length := by
      have h2 := lt_pow_len (x := y) (by omega)
      apply Nat.lt_of_not_le
      intro h
      have := pow_mono (show (0 : Int) < (4294967296 : Int) by decide) h
      rw [Int.pow_one] at this
      omega
    unfold m_divide_Div
    rw [if_neg (by rw [decide_eq_true_eq]; omega), may_can _ (nl_can x) (by omega), bd_some, may_can _ (nl_can y) (by omega)]
    simp only [bd_some, Bool.not_true]
    rw [if_neg (by decide), bd_some, if_neg (by decide), cmpN_eq x y hx (by omega) (by omega), bd_some]
    by_cases hlt : x < y
    · have e1 : sg (x - y) = -1 := by unfold sg; rw [if_pos (by omega)]
      rw [e1, if_pos (by decide), make_nl x (by omega), bd_some, Int.ediv_eq_zero_of_lt hx hlt, Int.emod_eq_of_lt hx hlt, nl_zero]
    · have e1 : ¬ sg (x - y) < 0 := by unfold sg; split <;> (try split) <;> omega
      rw [if_neg (by simpa using e1), if_neg (by rw [decide_eq_true_eq]; omega), knuth_eq x y (by omega) (by omega) hl, bd_some]
end Go.Proofs.YtfboepeadeafmaaGreatDoor.AP
/- Texts: put together, joined, printed numbers. -/
namespace Go.Proofs.YtfboepeadeafmaaGreatDoor.AP
open Go
set_option linter.unusedVariables false
set_option linter.unusedSimpArgs false
theorem data_bs (l : List UInt8) : (bs l).data.toList = l := rfl
theorem bs_size (l : List UInt8) : (bs l).size = l.length := rfl
theorem bs_append (a b : List UInt8) : bs a ++ bs b = bs (a ++ b) := by
  apply ByteArray.ext
  apply Array.toList_inj.1
  rw [ByteArray.data_append]
  simp [bs]
/-- The same text. -/
theorem sq_self (a : ByteArray) : sq a a = true := by unfold sq; simp
theorem sq_bs {a b : List UInt8} : sq (bs a) (bs b) = decide (a = b) := by
  unfold sq
  rw [toList_data, toList_data, data_bs, data_bs]
  by_cases h : a = b
  · subst h; simp
  · rw [decide_eq_false h]; simp [h]
theorem cat_bs {a b : List UInt8} (h : a.length + b.length ≤ 9223372036854775807) : cat (bs a) (bs b) = some (bs (a ++ b)) := by
  unfold cat
  rw [if_pos (by rw [bs_size, bs_size]; exact h), bs_append]
/-! numbers by ten, the document's way -/
def catI {α : Type} (g : Nat → α → List UInt8) : Nat → List α → List UInt8
  | _, [] => []
  | i, x :: l => g i x ++ catI g (i + 1) l
/-! bytes in a builder -/
def i8 (l : List UInt8) : List Int := l.map fun b => (b.toNat : Int)
theorem apS_i8 (a b : List UInt8) (h : a.length + b.length ≤ 140737488355328) : apS_ (i8 a) (bs b) = some (i8 (a ++ b)) := by
  unfold apS_ i8
  rw [if_pos (by rw [List.length_map, bs_size]; exact h), List.map_append]
  rfl
theorem ust_i8 (l : List UInt8) (h : l ≠ []) : ust (i8 l) = some (bs l) := by
  unfold ust
  rw [if_pos]
  · congr 1
    unfold tx bs i8
    rw [List.map_map]
    congr 1
    apply Array.toList_inj.1
    simp only [List.toList_toArray]
    have : ∀ l : List UInt8, l.map ((fun n : Int => UInt8.ofNat n.toNat) ∘ fun b => (b.toNat : Int)) = l := by
      intro l
      induction l with
      | nil => rfl
      | cons x l ih => rw [List.map_cons, ih]; congr 1; simp
    exact this l
  · refine ⟨by cases l with | nil => exact absurd rfl h | cons x l => exact List.cons_ne_nil _ _, ?_⟩
    apply List.all_eq_true.2
    intro z hz
    unfold i8 at hz
    obtain ⟨b, _, rfl⟩ := List.mem_map.1 hz
    have := b.toNat_lt
    rw [Bool.and_eq_true]
    exact ⟨decide_eq_true (by omega), decide_eq_true (by omega)⟩
end Go.Proofs.YtfboepeadeafmaaGreatDoor.AP
/- A number's digits, by ten: the program's way. -/
namespace Go.Proofs.YtfboepeadeafmaaGreatDoor.AP
open Go Go.Proofs.YtfboepeadeafmaaGreatDoor.Tri
set_option linter.unusedVariables false
set_option linter.unusedSimpArgs false
set_option maxRecDepth 4000
/-- n places of a number -/
def padN : Nat → Nat → List UInt8
  | 0, _ => []
  | n + 1, r => padN n (r / 10) ++ [UInt8.ofNat (48 + r % 10)]
theorem padN_len : ∀ (n r : Nat), (padN n r).length = n
  | 0, _ => rfl
  | n + 1, r => by rw [padN, List.length_append, padN_len n]; rfl
theorem padN_cons : ∀ (n r : Nat), padN (n + 1) r = UInt8.ofNat (48 + r / 10 ^ n % 10) :: padN n r
  | 0, r => by simp [padN]
  | n + 1, r => by
    rw [padN, padN_cons n (r / 10), padN]
    rw [Nat.div_div_eq_div_mul, Nat.pow_succ, Nat.mul_comm 10]
    rfl
theorem digit_bt (x : Int) (h0 : 0 ≤ x) (h1 : x < 10) : bt (bs [48, 49, 50, 51, 52, 53, 54, 55, 56, 57, 97, 98, 99, 100, 101, 102, 103, 104, 105, 106, 107, 108, 109, 110, 111, 112, 113, 114, 115, 116, 117, 118, 119, 120, 121, 122]) x = some (48 + x) := by
  have : x = 0 ∨ x = 1 ∨ x = 2 ∨ x = 3 ∨ x = 4 ∨ x = 5 ∨ x = 6 ∨ x = 7 ∨ x = 8 ∨ x = 9 := by omega
  rcases this with rfl | rfl | rfl | rfl | rfl | rfl | rfl | rfl | rfl | rfl <;> rfl
theorem set_back {α : Type} (z : α) (k : Nat) (v : α) (t : List α) : (List.replicate (k + 1) z ++ t).set k v = List.replicate k z ++ v :: t := by
  induction k with
  | zero => rfl
  | succ k ih =>
    show z :: (List.replicate (k + 1) z ++ t).set k v = z :: (List.replicate k z ++ v :: t)
    rw [ih]
theorem piece_loop (r : Nat) (n : Nat) (hn : n ≤ 100) (hr : r < 10000000000000000000) : ∀ (k j : Nat), j + k = n → lp (m_digits_piece_l1 10 (n : Int)) (((r / 10 ^ j : Nat) : Int), (j : Int), List.replicate k 0 ++ i8 (padN j r)) = some (i8 (padN n r)) := by
  intro k
  induction k with
  | zero =>
    intro j hj
    obtain rfl : j = n := by omega
    exact lp_done (by simp [m_digits_piece_l1])
  | succ k ih =>
    intro j hj
    have hle := Nat.div_le_self r (10 ^ j)
    generalize hq : r / 10 ^ j = q at *
    have e1 : decide ((j : Int) < (n : Int)) = true := decide_eq_true (by omega)
    have w10 : wu64 10 = 10 := rfl
    have e2 : rm .u64 (q : Int) (wu64 10) = some (((q % 10 : Nat)) : Int) := by
      rw [w10, rm_of (by omega) (by decide)]; congr 1
    have e3 := digit_bt ((q % 10 : Nat) : Int) (by omega) (by omega)
    have e4 : wi64 ((wi64 ((n : Int) - 1)) - (j : Int)) = (k : Int) := by
      rw [wi64_eq (x := (n : Int) - 1) (by omega) (by omega), wi64_eq (by omega) (by omega)]; omega
    have e5 : ix (List.replicate (k + 1) (0 : Int) ++ i8 (padN j r)) (k : Int) = some k := ix_nat (by simp; omega)
    have e6 : qd .u64 (q : Int) (wu64 10) = some (((q / 10 : Nat)) : Int) := by
      rw [w10, qdU (by omega) (by decide) (by omega)]; congr 1
    have e7 : wi64 ((j : Int) + 1) = ((j + 1 : Nat) : Int) := by rw [wi64_eq (by omega) (by omega)]; omega
    have e8 := set_back (0 : Int) k (48 + ((q % 10 : Nat) : Int)) (i8 (padN j r))
    have e9 : (48 + ((q % 10 : Nat) : Int)) :: i8 (padN j r) = i8 (padN (j + 1) r) := by
      rw [padN_cons, hq]
      show _ = ((UInt8.ofNat (48 + q % 10)).toNat : Int) :: i8 (padN j r)
      congr 1
      rw [UInt8.toNat_ofNat']
      have := Nat.mod_lt q (show 0 < 10 by decide)
      rw [Nat.mod_eq_of_lt (show 48 + q % 10 < 2 ^ 8 by omega)]
      omega
    have hs : m_digits_piece_l1 10 (n : Int) ((q : Int), (j : Int), List.replicate (k + 1) 0 ++ i8 (padN j r)) = some (.inl (((q / 10 : Nat) : Int), ((j + 1 : Nat) : Int), List.replicate k 0 ++ i8 (padN (j + 1) r))) := by
      simp only [m_digits_piece_l1, e1, if_true, e2, bd_some, e3, e4, e5, e8, e9, lt_eq, e6, e7]
    rw [lp_more hs]
    have := ih (j + 1) (by omega)
    rw [Nat.pow_succ, ← Nat.div_div_eq_div_mul, hq] at this
    exact this
theorem piece_eq (r n : Nat) (hn : n ≤ 100) (hr : r < 10000000000000000000) : m_digits_piece (r : Int) 10 (n : Int) = some (bs (padN n r)) := by
  have e1 : AP.mk 1 (0 : Int) (n : Int) (n : Int) = some (List.replicate n 0) := by
    rw [mk_of (by omega)]; simp
  have e2 := piece_loop r n hn hr n 0 (by omega)
  have e2 : lp (m_digits_piece_l1 10 (n : Int)) ((r : Int), 0, List.replicate n 0) = some (i8 (padN n r)) := by
    simpa [padN, i8] using e2
  have e3 : tx (i8 (padN n r)) = bs (padN n r) := by
    by_cases h : padN n r = []
    · rw [h]; rfl
    · have := ust_i8 _ h
      unfold ust at this
      split at this
      · exact Option.some.inj this
      · cases this
  unfold m_digits_piece
  simp only [e1, bd_some, e2, e3]
theorem chunk10 : m_digits_chunk 10 = some (1000000000, 9) := by
  have h : lp (m_digits_chunk_l1 10) (10, 1) = some (1000000000, 9) := by
    rw [lp_more (s' := (100, 2)) (by rfl), lp_more (s' := (1000, 3)) (by rfl), lp_more (s' := (10000, 4)) (by rfl), lp_more (s' := (100000, 5)) (by rfl), lp_more (s' := (1000000, 6)) (by rfl), lp_more (s' := (10000000, 7)) (by rfl), lp_more (s' := (100000000, 8)) (by rfl), lp_more (s' := (1000000000, 9)) (by rfl)]
    exact lp_done (by rfl)
  unfold m_digits_chunk
  have : wu64 10 = 10 := rfl
  rw [this, h]
  rfl
/-- pieces of nine places, the lowest first -/
def pcs (x : Nat) : List (List UInt8) := if h : 0 < x then padN 9 (x % 1000000000) :: pcs (x / 1000000000) else []
termination_by x
decreasing_by exact Nat.div_lt_self h (by decide)
theorem pcs_zero : pcs 0 = [] := by rw [pcs]; rfl
theorem pcs_pos {x : Nat} (h : 0 < x) : pcs x = padN 9 (x % 1000000000) :: pcs (x / 1000000000) := by rw [pcs, dif_pos h]
theorem pcs_len : ∀ (n x : Nat), x < 1000000000 ^ n → (pcs x).length ≤ n
  | 0, x, h => by
    have : x = 0 := by simpa using h
    rw [this, pcs_zero]; simp
  | n + 1, x, h => by
    by_cases hx : 0 < x
    · rw [pcs_pos hx, List.length_cons]
      have := pcs_len n (x / 1000000000) (by rw [Nat.pow_succ] at h; exact Nat.div_lt_of_lt_mul (by rw [Nat.mul_comm]; exact h))
      omega
    · have : x = 0 := by omega
      rw [this, pcs_zero]; simp
theorem nl_nat (x : Nat) : ((nl (x : Int)).length = 0) ↔ x = 0 := by
  rw [List.length_eq_zero_iff, nl_nil (by omega)]
  omega
theorem in_l1 (x : Nat) (hl : (nl (x : Int)).length ≤ 1000000000) : ∀ Ds : List ByteArray, Ds.length + (pcs x).length ≤ 1000000000000 → lp (m_digits_In_l1 10 (1000000000, 9)) (nl (x : Int), Ds) = some (Ds ++ (pcs x).map bs) := by
  induction x using Nat.strongRecOn with
  | _ x ih =>
    intro Ds hD
    by_cases hx : 0 < x
    · have e1 : decide (0 < ((nl (x : Int)).length : Int)) = true := decide_eq_true (by
        have := nl_nat x
        omega)
      have e2 := smallD_eq (x : Int) 1000000000 (by omega) (by decide) (by decide) (by omega)
      have e3 := piece_eq (x % 1000000000) 9 (by decide) (by have := Nat.mod_lt x (show 0 < 1000000000 by decide); omega)
      have e3 : m_digits_piece ((x : Int) % 1000000000) 10 9 = some (bs (padN 9 (x % 1000000000))) := e3
      rw [pcs_pos hx] at hD ⊢
      have e4 : ap 16 Ds [bs (padN 9 (x % 1000000000))] = some (Ds ++ [bs (padN 9 (x % 1000000000))]) := ap_of (by simp at hD ⊢; omega)
      have hs : m_digits_In_l1 10 (1000000000, 9) (nl (x : Int), Ds) = some (.inl (nl ((x / 1000000000 : Nat) : Int), Ds ++ [bs (padN 9 (x % 1000000000))])) := by
        simp only [m_digits_In_l1, e1, if_true, e2, bd_some, e3, e4]
        rfl
      rw [lp_more hs, ih (x / 1000000000) (Nat.div_lt_self hx (by decide)) (Nat.le_trans (nl_mono (by omega) (by omega)) hl) _ (by simp at hD ⊢; omega)]
      simp
    · have : x = 0 := by omega
      subst this
      rw [pcs_zero]
      have : nl ((0 : Nat) : Int) = [] := nl_zero
      rw [this]
      exact lp_done (by simp [m_digits_In_l1])
theorem in_l2 (L : List (List UInt8)) (hL : L.length ≤ 1000000000000) (h9 : ∀ s ∈ L, s.length = 9) : lp (m_digits_In_l2 (L.map bs)) (0, true, []) = some (decide (L = []), i8 L.reverse.flatten) := by
  have key : ∀ (k i : Nat) (c : Bool), i + k = L.length → (c = decide (i = 0)) → lp (m_digits_In_l2 (L.map bs)) ((i : Int), c, i8 (L.reverse.take i).flatten) = some (decide (L = []), i8 L.reverse.flatten) := by
    intro k
    induction k with
    | zero =>
      intro i c hi hc
      obtain rfl : i = L.length := by omega
      have e1 : decide (((L.length : Nat) : Int) < (((L.map bs).length : Nat) : Int)) = false := decide_eq_false (by simp)
      rw [lp_done (x := (c, i8 (L.reverse.take L.length).flatten)) (by simp only [m_digits_In_l2, e1]; rfl)]
      rw [List.take_of_length_le (by simp), hc]
      congr 2
      cases L <;> simp
    | succ k ih =>
      intro i c hi hc
      have e1 : decide ((i : Int) < ((L.map bs).length : Int)) = true := decide_eq_true (by rw [List.length_map]; omega)
      have e2 : wi64 ((wi64 (((L.map bs).length : Int) - 1)) - (i : Int)) = ((L.length - 1 - i : Nat) : Int) := by
        rw [List.length_map, wi64_eq (x := (L.length : Int) - 1) (by omega) (by omega), wi64_eq (by omega) (by omega)]; omega
      have hk : L.length - 1 - i < L.length := by omega
      have e3 : rd (L.map bs) ((L.length - 1 - i : Nat) : Int) = some (bs L[L.length - 1 - i]) := by
        rw [rd_nat, List.getElem?_map, List.getElem?_eq_getElem hk]; rfl
      have hr : L.reverse[i]? = some L[L.length - 1 - i] := by
        rw [List.getElem?_reverse (by omega), List.getElem?_eq_getElem hk]
      have hlen : (L.reverse.take i).flatten.length = i * 9 := by
        have : ∀ M : List (List UInt8), (∀ s ∈ M, s.length = 9) → M.flatten.length = M.length * 9 := by
          intro M
          induction M with
          | nil => intro _; rfl
          | cons s M ih =>
            intro h
            rw [List.flatten_cons, List.length_append, h s (by simp), ih (fun t ht => h t (by simp [ht])), List.length_cons, Nat.succ_mul]
            omega
        rw [this _ (fun s hs => h9 s (List.mem_reverse.1 (List.mem_of_mem_take hs))), List.length_take, List.length_reverse, Nat.min_eq_left (by omega)]
      have h9' := h9 L[L.length - 1 - i] (List.getElem_mem _)
      have e4 := apS_i8 (L.reverse.take i).flatten L[L.length - 1 - i] (by rw [hlen, h9']; omega)
      have e5 : m_strings_Builder_copyCheck_M c (i8 (L.reverse.take i).flatten) = some false := by
        unfold m_strings_Builder_copyCheck_M
        cases c <;> rfl
      have e7 : wi64 ((i : Int) + 1) = (i : Int) + 1 := wi64_eq (by omega) (by omega)
      have hs : m_digits_In_l2 (L.map bs) ((i : Int), c, i8 (L.reverse.take i).flatten) = some (.inl ((i : Int) + 1, false, i8 (L.reverse.take (i + 1)).flatten)) := by
        rw [List.take_add_one, hr, List.flatten_append]
        simp only [Option.toList, List.flatten_cons, List.flatten_nil, List.append_nil]
        simp only [m_digits_In_l2, e1, if_true, e2, e3, bd_some, m_strings_Builder_WriteString_M, e5, e4, e7]
      rw [lp_more hs]
      have := ih (i + 1) false (by omega) (by simp)
      simpa using this
  have := key L.length 0 true (by omega) rfl
  simpa [i8] using this
/-- without noughts ahead -/
def trimL : List UInt8 → List UInt8
  | [] => []
  | x :: l => if x = 48 then trimL l else x :: l
theorem trim_loop (l : List UInt8) : lp (m_strings_trimLeftByte_l1 48) (bs l) = some (bs (trimL l)) := by
  induction l with
  | nil => exact lp_done (by rfl)
  | cons x l ih =>
    have e1 : decide (0 < (((bs (x :: l)).size : Nat) : Int)) = true := decide_eq_true (by rw [bs_size]; simp)
    have e2 : bt (bs (x :: l)) 0 = some (x.toNat : Int) := by
      unfold bt
      rw [if_pos (by rw [bs_size]; simp)]
      rfl
    have e3 : (decide ((x.toNat : Int) = 48)) = decide (x = 48) := by
      by_cases h : x = 48
      · subst h; rfl
      · rw [decide_eq_false h, decide_eq_false]
        intro h2
        apply h
        apply UInt8.toNat_inj.1
        have : x.toNat = 48 := by omega
        rw [this]; rfl
    unfold trimL
    by_cases h : x = 48
    · have e4 : cs (bs (x :: l)) 1 ((bs (x :: l)).size : Int) = some (bs l) := by
        unfold cs
        rw [if_pos (by rw [bs_size]; simp; omega)]
        congr 1
        apply ByteArray.ext
        apply Array.toList_inj.1
        rw [ByteArray.data_extract, Array.toList_extract]
        simp [bs, ByteArray.size]
      rw [lp_more (s' := bs l) (by simp only [m_strings_trimLeftByte_l1, e1, if_true, e2, bd_some, e3, decide_eq_true h, e4]), if_pos h]
      exact ih
    · rw [if_neg h]
      exact lp_done (by simp only [m_strings_trimLeftByte_l1, e1, if_true, e2, bd_some, e3, decide_eq_false h, Bool.false_eq_true, if_false])
theorem trimLeft_eq (l : List UInt8) : m_strings_TrimLeft (bs l) (bs [48]) = some (bs (trimL l)) := by
  unfold m_strings_TrimLeft
  by_cases h : l = []
  · subst h; simp only [sq_self, if_true, bd_some]; rfl
  · have e1 : sq (bs l) (bs []) = false := by rw [sq_bs]; exact decide_eq_false h
    have e2 : sq (bs [48]) (bs []) = false := by rw [sq_bs]; rfl
    have e3 : bt (bs [48]) 0 = some 48 := rfl
    have e4 : decide (((bs [48]).size : Int) = 1) = true := rfl
    have e5 : m_strings_trimLeftByte (bs l) 48 = some (bs (trimL l)) := by
      unfold m_strings_trimLeftByte
      rw [trim_loop]; rfl
    simp only [e1, Bool.false_eq_true, if_false, e2, bd_some, e4, if_true, e3, e5]
    rfl
theorem trimL_pad : ∀ (n r : Nat), 0 < r → r < 10 ^ n → trimL (padN n r) = Lib.decDigits r
  | 0, r, h0, h1 => by simp at h1; omega
  | n + 1, r, h0, h1 => by
    have key : ∀ (l : List UInt8) (d : UInt8), trimL (l ++ [d]) = if trimL l = [] then trimL [d] else trimL l ++ [d] := by
      intro l d
      induction l with
      | nil => simp [trimL]
      | cons x l ih =>
        show (if x = 48 then trimL (l ++ [d]) else x :: (l ++ [d])) = _
        by_cases h : x = 48
        · rw [if_pos h, ih]
          have : trimL (x :: l) = trimL l := by show (if x = 48 then trimL l else x :: l) = _; rw [if_pos h]
          rw [this]
        · have : trimL (x :: l) = x :: l := by show (if x = 48 then trimL l else x :: l) = _; rw [if_neg h]
          rw [this, if_neg h, if_neg (by simp)]
          rfl
    rw [padN, key]
    by_cases hb : r < 10
    · have h10 : r / 10 = 0 := by omega
      have hz : ∀ m, trimL (padN m 0) = [] := by
        intro m
        induction m with
        | zero => rfl
        | succ m ih => rw [padN_cons]; show (if _ = (48 : UInt8) then _ else _) = _; rw [if_pos (by simp)]; exact ih
      rw [h10, hz, if_pos rfl, Lib.decDigits, dif_pos hb, Nat.mod_eq_of_lt hb]
      show (if UInt8.ofNat (48 + r) = (48 : UInt8) then trimL [] else [UInt8.ofNat (48 + r)]) = _
      rw [if_neg]
      intro h
      have h2 := congrArg UInt8.toNat h
      rw [UInt8.toNat_ofNat', Nat.mod_eq_of_lt (by omega)] at h2
      have : (48 : UInt8).toNat = 48 := rfl
      omega
    · rw [trimL_pad n (r / 10) (by omega) (by rw [Nat.pow_succ] at h1; exact Nat.div_lt_of_lt_mul (by rw [Nat.mul_comm]; exact h1))]
      have hne : Lib.decDigits (r / 10) ≠ [] := by
        intro h
        have h2 := Lib.decDigits_length (r / 10)
        rw [h] at h2
        have := Lib.nDigits_pos (r / 10)
        simp at h2; omega
      rw [if_neg hne]
      conv => rhs; rw [Lib.decDigits, dif_neg hb]
theorem padN_split : ∀ (m n r : Nat), padN (n + m) r = padN n (r / 10 ^ m) ++ padN m (r % 10 ^ m)
  | 0, n, r => by simp [padN]
  | m + 1, n, r => by
    show padN (n + m + 1) r = _
    rw [padN, padN_split m n (r / 10), padN, List.append_assoc]
    have e1 : r / 10 / 10 ^ m = r / 10 ^ (m + 1) := by rw [Nat.div_div_eq_div_mul, Nat.pow_succ, Nat.mul_comm 10]
    have e2 : r / 10 % 10 ^ m = r % 10 ^ (m + 1) / 10 := by
      rw [Nat.pow_succ, Nat.mul_comm, Nat.mod_mul_right_div_self]
    have e3 : r % 10 = r % 10 ^ (m + 1) % 10 := by rw [Nat.pow_succ, Nat.mul_comm, Nat.mod_mul_right_mod]
    rw [e1, e2, e3]
theorem pcs_pad : ∀ (x : Nat), (pcs x).reverse.flatten = padN (9 * (pcs x).length) x := by
  intro x
  induction x using Nat.strongRecOn with
  | _ x ih =>
    by_cases hx : 0 < x
    · rw [pcs_pos hx, List.reverse_cons, List.flatten_append, ih (x / 1000000000) (Nat.div_lt_self hx (by decide)), List.length_cons]
      have := padN_split 9 (9 * (pcs (x / 1000000000)).length) x
      rw [show 9 * ((pcs (x / 1000000000)).length + 1) = 9 * (pcs (x / 1000000000)).length + 9 by omega, this]
      simp
    · have : x = 0 := by omega
      subst this
      rw [pcs_zero]; rfl
theorem pcs_lt : ∀ (x : Nat), x < 10 ^ (9 * (pcs x).length) := by
  intro x
  induction x using Nat.strongRecOn with
  | _ x ih =>
    by_cases hx : 0 < x
    · have := ih (x / 1000000000) (Nat.div_lt_self hx (by decide))
      rw [pcs_pos hx, List.length_cons, show 9 * ((pcs (x / 1000000000)).length + 1) = 9 * (pcs (x / 1000000000)).length + 9 by omega, Nat.pow_add]
      have h2 : x < (x / 1000000000 + 1) * 1000000000 := by omega
      exact Nat.lt_of_lt_of_le h2 (Nat.mul_le_mul_right 1000000000 this)
    · have : x = 0 := by omega
      subst this
      exact Nat.pow_pos (by decide)
theorem digitsPrint_eq (x : Nat) (hl : (nl (x : Int)).length ≤ 1000000000) : m_digits_Print (nl (x : Int)) = some (bs (Lib.decDigits x)) := by
  have hpl : (pcs x).length ≤ 1000000000000 := by
    have h1 : x < 1000000000 ^ (2 * (nl (x : Int)).length) := by
      have h2 := dv_lt (B := (4294967296 : Int)) (by decide) (nl_can (x : Int)).1
      rw [nl_dv (by omega)] at h2
      have h3 : (4294967296 : Int) ^ (nl (x : Int)).length ≤ (1000000000 : Int) ^ (2 * (nl (x : Int)).length) := by
        rw [Int.pow_mul]; exact pow_le (by decide) (by decide) _
      have h4 : (x : Int) < (((1000000000 ^ (2 * (nl (x : Int)).length) : Nat)) : Int) := by
        rw [Int.natCast_pow]
        exact Int.lt_of_lt_of_le h2 h3
      omega
    have := pcs_len _ x h1
    omega
  have h9 : ∀ s ∈ pcs x, s.length = 9 := by
    have : ∀ x, ∀ s ∈ pcs x, s.length = 9 := by
      intro x
      induction x using Nat.strongRecOn with
      | _ x ih =>
        intro s hs
        by_cases hx : 0 < x
        · rw [pcs_pos hx] at hs
          rcases List.mem_cons.1 hs with rfl | hs
          · exact padN_len 9 _
          · exact ih (x / 1000000000) (Nat.div_lt_self hx (by decide)) s hs
        · have : x = 0 := by omega
          subst this
          rw [pcs_zero] at hs; cases hs
    exact this x
  have e0 : m_digits_based 10 = some 0 := rfl
  have e1 := make_nl (x : Int) (by omega)
  have e2 := in_l1 x hl [] (by simp; omega)
  have e3 := in_l2 (pcs x) hpl h9
  have e5 : m_strings_Builder_String_M (decide (pcs x = [])) (i8 (pcs x).reverse.flatten) = some (bs (pcs x).reverse.flatten) := by
    unfold m_strings_Builder_String_M
    by_cases h : (pcs x).reverse.flatten = []
    · rw [h]; rfl
    · have hz : (i8 (pcs x).reverse.flatten).length ≠ 0 := by
        unfold i8; rw [List.length_map]; intro h0; exact h (List.length_eq_zero_iff.1 h0)
      rw [decide_eq_false hz, ust_i8 _ h]; rfl
  have e6 := trimLeft_eq (pcs x).reverse.flatten
  unfold m_digits_Print m_digits_In
  rw [List.nil_append] at e2
  simp only [e0, bd_some, decide_true, Bool.not_true, Bool.false_eq_true, if_false, chunk10, e1, e2, e3, e5, e6, sq_bs]
  by_cases hx : 0 < x
  · have h7 : trimL (pcs x).reverse.flatten = Lib.decDigits x := by rw [pcs_pad]; exact trimL_pad _ x hx (pcs_lt x)
    have hne : Lib.decDigits x ≠ [] := by
      intro h
      have h2 := Lib.decDigits_length x
      rw [h] at h2
      have := Lib.nDigits_pos x
      simp at h2; omega
    rw [h7, decide_eq_false hne]
    rfl
  · have : x = 0 := by omega
    subst this
    rw [pcs_zero]
    have : Lib.decDigits 0 = [48] := by rw [Lib.decDigits, dif_pos (by decide)]; rfl
    rw [this]
    rfl
end Go.Proofs.YtfboepeadeafmaaGreatDoor.AP
/- Numbers and fractions printed, by both. -/
namespace Go.Proofs.YtfboepeadeafmaaGreatDoor.AP
open Go Go.Proofs.YtfboepeadeafmaaGreatDoor.Tri
set_option linter.unusedVariables false
set_option linter.unusedSimpArgs false
theorem nd_pow : ∀ (j n : Nat), n < 10 ^ (j + 1) → Lib.nDigits n ≤ j + 1
  | 0, n, hn => by rw [Lib.nDigits_small (by simpa using hn)]; omega
  | j + 1, n, hn => by
    by_cases h : n < 10
    · rw [Lib.nDigits_small h]; omega
    · rw [Lib.nDigits_big h]
      have := nd_pow j (n / 10) (by rw [Nat.pow_succ] at hn; omega)
      omega
theorem nd_zl (x : Nat) : Lib.nDigits x ≤ 4 * (zl (x : Int)).length + 1 := by
  apply nd_pow
  have h2 := dv_lt (B := (10000 : Int)) (by decide) (zl_can (x : Int)).1
  rw [zl_dv (by omega)] at h2
  have h3 : ((10000 : Int) ^ (zl (x : Int)).length) = (((10 ^ (4 * (zl (x : Int)).length) : Nat)) : Int) := by
    rw [Int.natCast_pow, Int.pow_mul]
    rfl
  rw [h3] at h2
  have h4 : (10 : Nat) ^ (4 * (zl (x : Int)).length) ≤ 10 ^ (4 * (zl (x : Int)).length + 1) := Nat.pow_le_pow_right (by decide) (by omega)
  omega
theorem dd_len (x : Nat) : (Lib.decDigits x).length ≤ 4 * (zl (x : Int)).length + 1 := by rw [Lib.decDigits_length]; exact nd_zl x
theorem i8_cons (d : Nat) (h : d < 10) (l : List UInt8) : wu8 (wi64 (48 + (d : Int))) :: i8 l = i8 (UInt8.ofNat (48 + d) :: l) := by
  show _ = ((UInt8.ofNat (48 + d)).toNat : Int) :: i8 l
  congr 1
  rw [UInt8.toNat_ofNat', Nat.mod_eq_of_lt (show 48 + d < 2 ^ 8 by omega), wi64_eq (by omega) (by omega), wu8_eq (by omega) (by omega)]
  omega
theorem refText_loop (x : Nat) (hl : (zl (x : Int)).length ≤ 1000000000) : ∀ acc : List UInt8, acc.length + Lib.nDigits x ≤ 100000000000 → 0 < x → lp m_triviumref02_Text_l1 (zl (x : Int), i8 acc) = some (i8 (Lib.decDigits x ++ acc)) := by
  induction x using Nat.strongRecOn with
  | _ x ih =>
    intro acc ha hx
    have hnd := Lib.nDigits_pos x
    have e1 : decide (0 < ((zl (x : Int)).length : Int)) = true := decide_eq_true (by
      have : (zl (x : Int)).length ≠ 0 := by
        intro h
        have := (zl_nil (x := (x : Int)) (by omega)).1 (List.length_eq_zero_iff.1 h)
        omega
      omega)
    have e2 := refDivSmall_eq (x : Int) 10 (by omega) (by decide) (by decide) (by omega)
    have e3 : ((x : Int) % 10) = ((x % 10 : Nat) : Int) := by omega
    have e4 : ((x : Int) / 10) = ((x / 10 : Nat) : Int) := by omega
    rw [e3, e4] at e2
    have e5 : ap 1 [wu8 (wi64 (48 + ((x % 10 : Nat) : Int)))] (i8 acc) = some (i8 (UInt8.ofNat (48 + x % 10) :: acc)) := by
      rw [ap_of (by unfold i8; simp; omega)]
      congr 1
      exact i8_cons (x % 10) (Nat.mod_lt _ (by decide)) acc
    have hs : m_triviumref02_Text_l1 (zl (x : Int), i8 acc) = some (.inl (zl ((x / 10 : Nat) : Int), i8 (UInt8.ofNat (48 + x % 10) :: acc))) := by
      simp only [m_triviumref02_Text_l1, e1, if_true, e2, bd_some, e5]
    rw [lp_more hs]
    by_cases h : x < 10
    · have h0 : x / 10 = 0 := by omega
      have h1 : x % 10 = x := by omega
      rw [h0, h1]
      have hz : zl ((0 : Nat) : Int) = [] := zl_zero
      rw [hz, lp_done (x := i8 (UInt8.ofNat (48 + x) :: acc)) (by simp [m_triviumref02_Text_l1]), Lib.decDigits, dif_pos h]
      rfl
    · have h4 := Lib.nDigits_big h
      rw [ih (x / 10) (by omega) (Nat.le_trans (zl_mono (by omega) (by omega)) hl) _ (by simp; omega) (by omega)]
      conv => rhs; rw [Lib.decDigits, dif_neg h]
      simp
theorem tx_i8 (l : List UInt8) : tx (i8 l) = bs l := by
  by_cases h : l = []
  · rw [h]; rfl
  · have := ust_i8 _ h
    unfold ust at this
    split at this
    · exact Option.some.inj this
    · cases this
theorem refText_eq2 (x : Nat) (hl : (zl (x : Int)).length ≤ 1000000000) : m_triviumref02_Text (zl (x : Int)) = some (bs (Lib.decDigits x)) := by
  unfold m_triviumref02_Text
  by_cases hx : 0 < x
  · have e1 : decide (((zl (x : Int)).length : Int) = 0) = false := decide_eq_false (by
      intro h
      have := (zl_nil (x := (x : Int)) (by omega)).1 (List.length_eq_zero_iff.1 (by omega))
      omega)
    have e2 := refText_loop x hl [] (by have := nd_zl x; simp; omega) hx
    rw [List.append_nil] at e2
    have e2 : lp m_triviumref02_Text_l1 (zl (x : Int), []) = some (i8 (Lib.decDigits x)) := e2
    rw [e1]
    simp only [Bool.false_eq_true, if_false, e2, bd_some, tx_i8]
  · have : x = 0 := by omega
    subst this
    have hz : zl ((0 : Nat) : Int) = [] := zl_zero
    rw [hz, Lib.decDigits, dif_pos (by decide)]
    rfl
/-- a number with its sign -/
def zsL (a : Int) : List UInt8 := if a < 0 then 45 :: Lib.decDigits a.natAbs else Lib.decDigits a.natAbs
theorem zsL_len (a : Int) : (zsL a).length ≤ 4 * (zl (a.natAbs : Int)).length + 2 := by
  have := dd_len a.natAbs
  unfold zsL
  split
  · rw [List.length_cons]; omega
  · omega
theorem wholePrint_eq (a : Int) (hl : (zl (a.natAbs : Int)).length ≤ 100000000) : m_whole_Print (zI a) = some (bs (zsL a)) := by
  have h1 := digitsPrint_eq a.natAbs (by have := nl_zl_len (x := (a.natAbs : Int)) (by omega); omega)
  have h2 := dd_len a.natAbs
  have c := cat_bs (a := [45]) (b := Lib.decDigits a.natAbs) (by simp; omega)
  unfold m_whole_Print zI zsL
  by_cases h : a < 0
  · simp only [decide_eq_true h, if_true, h1, bd_some, c, if_pos h]
    rfl
  · simp only [decide_eq_false h, Bool.false_eq_true, if_false, h1, bd_some, if_neg h]
theorem ref07Print_eq (a : Int) (hl : (zl (a.natAbs : Int)).length ≤ 100000000) : m_triviumref07_Print (zZ a) = some (bs (zsL a)) := by
  have h1 := refText_eq2 a.natAbs (by omega)
  have h2 := dd_len a.natAbs
  have c := cat_bs (a := [45]) (b := Lib.decDigits a.natAbs) (by simp; omega)
  unfold m_triviumref07_Print zZ zsL
  by_cases h : a < 0
  · simp only [decide_eq_true h, if_true, h1, bd_some, c, if_pos h]
    rfl
  · simp only [decide_eq_false h, Bool.false_eq_true, if_false, h1, bd_some, if_neg h]
theorem sg_ne {b : Int} (h : ¬ b = 1) : ¬ sg (b - 1) = 0 := by
  unfold sg
  split
  · decide
  · split <;> omega
/-- a fraction -/
def rtL (a b : Int) : List UInt8 := if b = 1 then zsL a else zsL a ++ 47 :: Lib.decDigits b.toNat
theorem one_nl : m_nat_Of 1 = some (nl 1) := natOf_eq 1 (by decide) (by decide)
theorem ratioPrint_eq (a b : Int) (hb : 0 ≤ b) (hla : (zl (a.natAbs : Int)).length ≤ 100000000) (hlb : (zl b).length ≤ 100000000) : m_ratio_Print (rI a b) = some (bs (rtL a b)) := by
  have h1 := wholePrint_eq a hla
  have h2 := zsL_len a
  have h3 := digitsPrint_eq b.toNat (by
    have e : ((b.toNat : Nat) : Int) = b := by omega
    rw [e]; have := nl_zl_len (x := b) hb; omega)
  have h4 := dd_len b.toNat
  have e : ((b.toNat : Nat) : Int) = b := by omega
  rw [e] at h3 h4
  have h5 := cmpN_eq b 1 hb (by decide) (by have := nl_zl_len (x := b) hb; omega)
  have c1 := cat_bs (a := zsL a) (b := [47]) (by simp; omega)
  have c2 := cat_bs (a := zsL a ++ [47]) (b := Lib.decDigits b.toNat) (by rw [List.length_append]; simp; omega)
  have h1 : m_whole_Print ((zI a).1, (zI a).2) = some (bs (zsL a)) := h1
  unfold m_ratio_Print rI rtL
  by_cases hb1 : b = 1
  · have : sg (b - 1) = 0 := by rw [hb1]; rfl
    simp only [h1, bd_some, one_nl, h5, this, decide_true, if_true, if_pos hb1]
  · have : ¬ sg (b - 1) = 0 := sg_ne hb1
    simp only [h1, bd_some, one_nl, h5, decide_eq_false this, Bool.false_eq_true, if_false, c1, h3, c2, if_neg hb1]
    simp
theorem ref_one : m_triviumref02_Num 1 = some (zl 1) := by
  have := mulAdd_eq 0 1 1 (by decide) (by decide) (by decide) (by decide) (by decide) (by rw [zl_zero]; decide)
  rw [zl_zero] at this
  unfold m_triviumref02_Num
  rw [this]
  rfl
theorem ref09Print_eq (a b : Int) (hb : 0 ≤ b) (hla : (zl (a.natAbs : Int)).length ≤ 100000000) (hlb : (zl b).length ≤ 100000000) : m_triviumref09_Print (rQ a b) = some (bs (rtL a b)) := by
  have h1 := ref07Print_eq a hla
  have h2 := zsL_len a
  have e : ((b.toNat : Nat) : Int) = b := by omega
  have h3 := refText_eq2 b.toNat (by rw [e]; omega)
  have h4 := dd_len b.toNat
  rw [e] at h3 h4
  have h5 := refCmp_eq b 1 hb (by decide) (by omega)
  have c1 := cat_bs (a := zsL a) (b := [47]) (by simp; omega)
  have c2 := cat_bs (a := zsL a ++ [47]) (b := Lib.decDigits b.toNat) (by rw [List.length_append]; simp; omega)
  have h1 : m_triviumref07_Print ((zZ a).1, (zZ a).2) = some (bs (zsL a)) := h1
  unfold m_triviumref09_Print rQ rtL
  by_cases hb1 : b = 1
  · have : sg (b - 1) = 0 := by rw [hb1]; rfl
    simp only [h1, bd_some, ref_one, h5, this, decide_true, if_true, if_pos hb1]
  · have : ¬ sg (b - 1) = 0 := sg_ne hb1
    simp only [h1, bd_some, ref_one, h5, decide_eq_false this, Bool.false_eq_true, if_false, c1, h3, c2, if_neg hb1]
    simp
end Go.Proofs.YtfboepeadeafmaaGreatDoor.AP
/- WholeAdds: the chapter's example; the plain law. -/
namespace Go.Proofs.YtfboepeadeafmaaGreatDoor.AP
open Go Go.Proofs.YtfboepeadeafmaaGreatDoor.Tri
set_option linter.unusedVariables false
set_option linter.unusedSimpArgs false
end Go.Proofs.YtfboepeadeafmaaGreatDoor.AP
namespace Go.Proofs.YtfboepeadeafmaaGreatDoor.Pure
open Go Go.Proofs.YtfboepeadeafmaaGreatDoor.AP Go.Proofs.YtfboepeadeafmaaGreatDoor.AE
theorem u64lim {l : List Int} (h : Ty.ok (.sl (.int .u64)) l) : Limbs l := fun x hx => by
  obtain ⟨i, hi⟩ := List.getElem?_of_mem hx
  have h : (decide (IntKind.u64.min ≤ x) && decide (x ≤ IntKind.u64.max)) = true := h.2 i x hi
  rw [Bool.and_eq_true, decide_eq_true_eq, decide_eq_true_eq] at h
  exact ⟨h.1, Int.lt_add_one_of_le h.2⟩
end Go.Proofs.YtfboepeadeafmaaGreatDoor.Pure
/- Floors, of the program and of the document; the plain laws of divisions and of the ring. -/
namespace Go.Proofs.YtfboepeadeafmaaGreatDoor.AP
open Go Go.Proofs.YtfboepeadeafmaaGreatDoor.Tri
set_option linter.unusedVariables false
set_option linter.unusedSimpArgs false
/-- apart: the signs are not the same, and something is left -/
def fgo (a b : Int) : Bool := !(decide (a < 0) == decide (b < 0)) && decide (0 < (a.natAbs : Int) % (b.natAbs : Int))
/-- the floor's quotient, and rest: sizes -/
def fA (a b : Int) : Int := if fgo a b then (a.natAbs : Int) / (b.natAbs : Int) + 1 else (a.natAbs : Int) / (b.natAbs : Int)
def fR (a b : Int) : Int := if fgo a b then (b.natAbs : Int) - (a.natAbs : Int) % (b.natAbs : Int) else (a.natAbs : Int) % (b.natAbs : Int)
def fq (a b : Int) : Int := if (!(decide (a < 0) == decide (b < 0))) = true then -fA a b else fA a b
end Go.Proofs.YtfboepeadeafmaaGreatDoor.AP
/- Digits read, by ten: the program's way and the document's. -/
namespace Go.Proofs.YtfboepeadeafmaaGreatDoor.AP
open Go Go.Proofs.YtfboepeadeafmaaGreatDoor.Tri
set_option linter.unusedVariables false
set_option linter.unusedSimpArgs false
set_option maxRecDepth 4000
/-! texts, by bytes -/
theorem drop_more {l : List UInt8} {i : Nat} {c : UInt8} {r : List UInt8} (h : l.drop i = c :: r) : l.drop (i + 1) = r := by
  rw [← List.drop_drop, h]; rfl
theorem drop_lt {l : List UInt8} {i : Nat} {c : UInt8} {r : List UInt8} (h : l.drop i = c :: r) : i < l.length := by
  apply Nat.lt_of_not_le
  intro hle
  rw [List.drop_of_length_le hle] at h; cases h
theorem cs_bs (l : List UInt8) (a b : Nat) (h : a ≤ b) (hb : b ≤ l.length) : cs (bs l) (a : Int) (b : Int) = some (bs ((l.take b).drop a)) := by
  unfold cs
  rw [if_pos ⟨by omega, by omega, by show (b : Int) ≤ (l.length : Int); omega⟩, Int.toNat_natCast, Int.toNat_natCast]
  congr 1
  apply ByteArray.ext
  apply Array.ext'
  rw [ByteArray.data_extract, Array.toList_extract]
  show (List.extract l a b) = _
  rw [List.extract_eq_take_drop, List.drop_take]
  rfl
/-! runes -/
theorem dc_low (l : List UInt8) (i : Nat) (c : UInt8) (r : List UInt8) (h : l.drop i = c :: r) (hc : c.toNat < 128) : dc1 (bs l) i = (c.toNat : Int) ∧ dcn (bs l) i = i + 1 := by
  have hi := drop_lt h
  have hg : (bs l).get! (i + 0) = c := by
    have hcc : l[i] = c := by
      have := List.drop_eq_getElem_cons hi
      rw [h] at this
      exact (List.cons.inj this).1.symm
    show (l.toArray)[i + 0]! = c
    rw [Nat.add_zero, List.getElem!_toArray, List.getElem!_eq_getElem?_getD, List.getElem?_eq_getElem hi, hcc]; rfl
  unfold dc1 dcn Utf8.decode
  simp only [hg]
  rw [if_pos (by omega)]
  exact ⟨rfl, rfl⟩
theorem dc_high (l : List UInt8) (i : Nat) (c : UInt8) (r : List UInt8) (h : l.drop i = c :: r) (hc : 128 ≤ c.toNat) : 128 ≤ dc1 (bs l) i := by
  have hi := drop_lt h
  have hg : (bs l).get! (i + 0) = c := by
    have hcc : l[i] = c := by
      have := List.drop_eq_getElem_cons hi
      rw [h] at this
      exact (List.cons.inj this).1.symm
    show (l.toArray)[i + 0]! = c
    rw [Nat.add_zero, List.getElem!_toArray, List.getElem!_eq_getElem?_getD, List.getElem?_eq_getElem hi, hcc]; rfl
  unfold dc1 Utf8.decode
  simp only [hg]
  rw [if_neg (by omega)]
  have hr : (128 : Nat) ≤ Utf8.runeError := by decide
  repeat' split
  all_goals first
    | (simp only; omega)
    | (rename_i h1; rw [Bool.and_eq_true, decide_eq_true_eq] at h1; simp only; omega)
/-! what a text says -/
def dgt (c : UInt8) : Option Nat := if 48 ≤ c.toNat ∧ c.toNat ≤ 57 then some (c.toNat - 48) else none
def rdN : List UInt8 → Nat → Option Nat
  | [], v => some v
  | c :: l, v => match dgt c with
    | none => none
    | some d => rdN l (v * 10 + d)
def rd10 (l : List UInt8) : Option Nat := if l = [] then none else rdN l 0
theorem dgt_lt {c : UInt8} {d : Nat} (h : dgt c = some d) : d < 10 := by
  unfold dgt at h; split at h
  · cases h; omega
  · cases h
theorem rdN_lt : ∀ (l : List UInt8) (v w k : Nat), rdN l v = some w → v < 10 ^ k → w < 10 ^ (k + l.length)
  | [], v, w, k, h, hv => by cases h; exact hv
  | c :: l, v, w, k, h, hv => by
    unfold rdN at h
    cases hd : dgt c with
    | none => rw [hd] at h; cases h
    | some d =>
      rw [hd] at h
      have := dgt_lt hd
      have := rdN_lt l (v * 10 + d) w (k + 1) h (by rw [Nat.pow_succ]; omega)
      rw [List.length_cons]
      rwa [show k + (l.length + 1) = k + 1 + l.length by omega]
theorem rd10_lt {l : List UInt8} {w : Nat} (h : rd10 l = some w) : w < 10 ^ l.length := by
  unfold rd10 at h; split at h
  · cases h
  · have := rdN_lt l 0 w 0 h (by decide); simpa using this
/-! a limb's multiple -/
theorem mulSmall_loop (a : List Int) (p : Int) (ha : Dig (4294967296 : Int) a) (hp : 0 ≤ p ∧ p < (4294967296 : Int)) (hl : a.length ≤ 1000000000) (s : Int) : ∀ (k i : Nat) (c : Int) (D : List Int), i + k = a.length → D.length = i → Dig (4294967296 : Int) D → (0 ≤ c ∧ c < (4294967296 : Int)) → dv (4294967296 : Int) D + (4294967296 : Int) ^ i * c = dv (4294967296 : Int) (a.take i) * p + s →
    ∃ c' D', lp (m_mul_Small_l1 a p) (c, (i : Int), D ++ List.replicate (k + 1) 0) = some (c', D' ++ [0]) ∧ Dig (4294967296 : Int) D' ∧ D'.length = a.length ∧ (0 ≤ c' ∧ c' < (4294967296 : Int)) ∧ dv (4294967296 : Int) D' + (4294967296 : Int) ^ a.length * c' = dv (4294967296 : Int) a * p + s
  | 0, i, c, D, hk, hi, hD, hc, hv => by
    obtain rfl : i = a.length := by omega
    exact ⟨c, D, lp_done (by simp [m_mul_Small_l1]), hD, hi, hc, by rw [hv, List.take_length]⟩
  | k + 1, i, c, D, hk, hi, hD, hc, hv => by
    have ga := gI_dig ha (by decide) (i : Int)
    obtain ⟨s0, s1⟩ := mul_bound ga hp hc (d := 0) ⟨Int.le_refl _, by decide⟩
    have a8 := limbMul_eq (gI a (i : Int)) p c 0 ga hp hc ⟨Int.le_refl _, by decide⟩
    generalize hx : gI a (i : Int) * p + c + 0 = x at *
    have hx0 : 0 ≤ x := by omega
    have hq : x / (4294967296 : Int) < (4294967296 : Int) := Int.ediv_lt_of_lt_mul (by decide) s1
    have a1 : decide ((i : Int) < (a.length : Int)) = true := decide_eq_true (by omega)
    have a2 : rd a (i : Int) = some (gI a (i : Int)) := rd_I (by omega) (by omega)
    have a5 : wi64 ((i : Int) + 1) = ((i + 1 : Nat) : Int) := by rw [wi64_eq (by omega) (by omega)]; omega
    have a6 : ix (D ++ List.replicate (k + 2) 0) (i : Int) = some i := ix_nat (by simp; omega)
    have a7 : (D ++ List.replicate (k + 2) 0).set i (x % (4294967296 : Int)) = (D ++ [x % (4294967296 : Int)]) ++ List.replicate (k + 1) 0 := by
      rw [show List.replicate (k + 2) (0 : Int) = 0 :: List.replicate (k + 1) 0 from rfl, ← hi, set_at]
    have e1 : m_mul_Small_l1 a p (c, (i : Int), D ++ List.replicate (k + 2) 0) = some (.inl (x / (4294967296 : Int), ((i + 1 : Nat) : Int), (D ++ [x % (4294967296 : Int)]) ++ List.replicate (k + 1) 0)) := by
      simp only [m_mul_Small_l1, a1, if_true, a2, bd_some, a8, a6, lt_eq, a7, a5]
    obtain ⟨c', D', r1, r2⟩ := mulSmall_loop a p ha hp hl s k (i + 1) (x / (4294967296 : Int)) (D ++ [x % (4294967296 : Int)]) (by omega) (by simp [hi]) (hD.snoc ⟨by omega, by omega⟩) ⟨Int.ediv_nonneg hx0 (by decide), hq⟩ (by
      rw [dv_snoc, take_gI', hi, Int.pow_succ]
      have := Int.mul_ediv_add_emod x (4294967296 : Int)
      clear e1 a7 a6 a8
      generalize (4294967296 : Int) ^ i = P at *
      generalize gI a (i : Int) = g1 at *
      generalize dv (4294967296 : Int) (List.take i a) = T at *
      generalize dv (4294967296 : Int) D = DD at *
      generalize x / (4294967296 : Int) = q at *
      generalize x % (4294967296 : Int) = r at *
      have hr : r = g1 * p + c - (4294967296 : Int) * q := by omega
      subst hr
      grind)
    exact ⟨c', D', by rw [lp_more e1]; exact r1, r2⟩
theorem mulSmall_eq (x p s : Int) (hx : 0 ≤ x) (hp : 0 ≤ p ∧ p < (4294967296 : Int)) (hs : 0 ≤ s ∧ s < (4294967296 : Int)) (hl : (nl x).length ≤ 1000000000) : m_mul_Small (nl x) p s = some (nl (x * p + s)) := by
  obtain ⟨c', D', r1, r2, r3, r4, r5⟩ := mulSmall_loop (nl x) p (nl_can x).1 hp hl s (nl x).length 0 s [] (by omega) rfl (Dig.nil _) hs (by simp [dv])
  have r1' : lp (m_mul_Small_l1 (nl x) p) (s, 0, List.replicate ((nl x).length + 1) 0) = some (c', D' ++ [0]) := r1
  have e1 : wi64 (((nl x).length : Int) + 1) = (((nl x).length + 1 : Nat) : Int) := by rw [wi64_eq (by omega) (by omega)]; omega
  unfold m_mul_Small
  rw [e1, mk_of (by omega), bd_some, limbAdd_eq s 0 0 hs ⟨by decide, by decide⟩ ⟨by decide, by decide⟩, bd_some]
  dsimp only
  rw [Int.toNat_natCast, show (s + 0 + 0) % (4294967296 : Int) = s by omega, r1', bd_some]
  dsimp only
  rw [ix_nat (by simp [r3]), bd_some, lt_eq, ← r3, set_at, List.append_nil, made_eq _ (r2.snoc r4) (by simp; omega), bd_some, dv_snoc, r3, r5, nl_dv hx]
/-! read by the program -/
theorem value_all : (List.range 128).all (fun n => match m_digits_value (n : Int) 10 with | some (x, b) => (b == (dgt (UInt8.ofNat n)).isSome) && (match dgt (UInt8.ofNat n) with | some d => x == (d : Int) | none => true) | none => false) = true := by kernel_rfl
theorem value_low (c : UInt8) (hc : c.toNat < 128) : ∃ x, m_digits_value (c.toNat : Int) 10 = some (x, (dgt c).isSome) ∧ ∀ d, dgt c = some d → x = (d : Int) := by
  have h := (List.all_eq_true.1 value_all) c.toNat (List.mem_range.2 hc)
  rw [UInt8.ofNat_toNat] at h
  cases hv : m_digits_value (c.toNat : Int) 10 with
  | none => rw [hv] at h; cases h
  | some y =>
    obtain ⟨x, b⟩ := y
    rw [hv] at h
    simp only [Bool.and_eq_true, beq_iff_eq] at h
    refine ⟨x, by rw [h.1], fun d hd => ?_⟩
    have h2 := h.2
    rw [hd] at h2
    exact eq_of_beq h2
theorem value_high (r : Int) (h : 128 ≤ r) : ∃ x, m_digits_value r 10 = some (x, false) := by
  unfold m_digits_value m_strings_IndexByte m_internal_stringslite_IndexByte
  rw [bd_some, bd_some, if_neg (by simpa using h)]
  exact ⟨_, rfl⟩
theorem from_loop (l : List UInt8) (hl : l.length ≤ 1000000) : ∀ (r : List UInt8) (i : Nat) (A : Int) (p s : Int), l.drop i = r → i ≤ l.length → 0 ≤ A → (nl A).length ≤ i → (1 ≤ p ∧ p < (4294967296 : Int)) → (0 ≤ s ∧ s < p) → ∀ V : Nat, A * p + s = V →
    lp (m_digits_From_l1 (bs l) 10) (nl A, p, s, i) = some (match rdN r V with | some v => (nl (v : Int), 0) | none => ([], 5))
  | [], i, A, p, s, hr, hi, hA, hA2, hp, hs, V, hV => by
    have hi2 : i = l.length := by
      have := congrArg List.length hr
      simp at this; omega
    refine lp_done ?_
    have e1 : decide (i < (bs l).size) = false := decide_eq_false (by rw [bs_size]; omega)
    have e2 := mulSmall_eq A p s hA ⟨by omega, hp.2⟩ ⟨hs.1, by omega⟩ (by omega)
    simp only [m_digits_From_l1, e1, e2, bd_some, hV, rdN]
    rfl
  | c :: r, i, A, p, s, hr, hi, hA, hA2, hp, hs, V, hV => by
    have hlt := drop_lt hr
    have e1 : decide (i < (bs l).size) = true := decide_eq_true (by rw [bs_size]; exact hlt)
    have w10 : wu64 10 = 10 := rfl
    by_cases hc : c.toNat < 128
    · obtain ⟨d1, d2⟩ := dc_low l i c r hr hc
      obtain ⟨x, hx, hx2⟩ := value_low c hc
      cases hd : dgt c with
      | none =>
        rw [hd] at hx
        refine lp_done ?_
        simp only [m_digits_From_l1, e1, if_true, d1, hx, bd_some, Option.isSome_none, Bool.not_false, rdN, hd]
      | some d =>
        have hxd := hx2 d hd
        have hd10 := dgt_lt hd
        rw [hd, hxd] at hx
        have e2 : wu64 (p * 10) = p * 10 := wu64_eq (by omega) (by omega)
        by_cases hbig : (4294967296 : Int) ≤ p * 10
        · have e3 := mulSmall_eq A p s hA ⟨by omega, hp.2⟩ ⟨hs.1, by omega⟩ (by omega)
          have e4 : wu64 (1 * 10) = 10 := rfl
          have e5 : wu64 (0 * 10) = 0 := rfl
          have e6 : wu64 (0 + (d : Int)) = (d : Int) := by rw [wu64_eq (by omega) (by omega)]; omega
          have st : m_digits_From_l1 (bs l) 10 (nl A, p, s, i) = some (.inl (nl (A * p + s), 10, (d : Int), i + 1)) := by
            simp only [m_digits_From_l1, e1, if_true, d1, hx, bd_some, Option.isSome_some, Bool.not_true, if_false, Bool.false_eq_true, w10, e2, decide_eq_true hbig, e3, d2, e4, e5, lt_eq, e6]
          rw [lp_more st]
          have hAp : 0 ≤ A * p := Int.mul_nonneg hA (by omega)
          have := from_loop l hl r (i + 1) (A * p + s) 10 (d : Int) (drop_more hr) (by omega) (by omega) (by
            refine nl_len (by omega) ?_
            have h1 := Int.lt_of_lt_of_le (lt_pow_len hA) (pow_mono (show (0 : Int) < (4294967296 : Int) by decide) hA2)
            have h2 : A * p ≤ ((4294967296 : Int) ^ i - 1) * p := Int.mul_le_mul_of_nonneg_right (by omega) (by omega)
            have h3 : ((4294967296 : Int) ^ i - 1) * p = (4294967296 : Int) ^ i * p - p := by rw [Int.sub_mul, Int.one_mul]
            have h4 : (4294967296 : Int) ^ i * p ≤ (4294967296 : Int) ^ i * (4294967296 : Int) := Int.mul_le_mul_of_nonneg_left (by omega) (Int.le_of_lt (pow_pos' (by decide) i))
            rw [Int.pow_succ]; omega) ⟨by decide, by decide⟩ ⟨by omega, by omega⟩ (V * 10 + d) (by push_cast; omega)
          rw [this]
          simp only [rdN, hd]
        · have e5 : wu64 (s * 10) = s * 10 := wu64_eq (by omega) (by omega)
          have e6 : wu64 (s * 10 + (d : Int)) = s * 10 + (d : Int) := wu64_eq (by omega) (by omega)
          have st : m_digits_From_l1 (bs l) 10 (nl A, p, s, i) = some (.inl (nl A, p * 10, s * 10 + (d : Int), i + 1)) := by
            simp only [m_digits_From_l1, e1, if_true, d1, hx, bd_some, Option.isSome_some, Bool.not_true, if_false, Bool.false_eq_true, w10, e2, decide_eq_false hbig, d2, lt_eq, e5, e6]
          rw [lp_more st]
          have := from_loop l hl r (i + 1) A (p * 10) (s * 10 + (d : Int)) (drop_more hr) (by omega) hA (by omega) ⟨by omega, by omega⟩ ⟨by omega, by omega⟩ (V * 10 + d) (by
            push_cast
            rw [← Int.mul_assoc]
            omega)
          rw [this]
          simp only [rdN, hd]
    · have hh := dc_high l i c r hr (by omega)
      obtain ⟨x, hx⟩ := value_high _ hh
      have hd : dgt c = none := by unfold dgt; rw [if_neg (by omega)]
      refine lp_done ?_
      simp only [m_digits_From_l1, e1, if_true, hx, bd_some, Bool.not_false, rdN, hd]
/-- how a number that is read is told -/
def tld (o : Option Nat) : List Int × Int := match o with | some v => (nl (v : Int), 0) | none => ([], 5)
theorem digFrom_eq (l : List UInt8) (hl : l.length ≤ 1000000) : m_digits_From (bs l) 10 = some (tld (rd10 l)) := by
  have hb : m_digits_based 10 = some 0 := rfl
  unfold m_digits_From
  rw [hb, bd_some, if_neg (by decide)]
  by_cases h : l = []
  · subst h
    rw [if_pos (sq_self _)]; rfl
  · have : sq (bs l) (bs []) = false := by rw [sq_bs]; exact decide_eq_false h
    rw [this, if_neg (by decide)]
    have := from_loop l hl l 0 0 1 0 rfl (by omega) (Int.le_refl _) (by rw [nl_zero]; exact Nat.le_refl _) ⟨by decide, by decide⟩ ⟨by decide, by decide⟩ 0 (by decide)
    rw [nl_zero] at this
    rw [this]
    unfold rd10 tld
    rw [if_neg h]
theorem parseD_eq (l : List UInt8) (hl : l.length ≤ 1000000) : m_digits_Parse (bs l) = some (tld (rd10 l)) := by
  unfold m_digits_Parse
  rw [digFrom_eq l hl, bd_some]
theorem nl_pow10 {v n : Nat} (h : v < 10 ^ n) : (nl (v : Int)).length ≤ n := by
  refine nl_len (by omega) ?_
  have h1 : ((v : Nat) : Int) < ((10 ^ n : Nat) : Int) := by omega
  have h2 : ((10 ^ n : Nat) : Int) = (10 : Int) ^ n := by push_cast; rfl
  have h3 : (10 : Int) ^ n ≤ (4294967296 : Int) ^ n := pow_le (by decide) (by decide) n
  omega
theorem zl_pow10 {v n : Nat} (h : v < 10 ^ n) : (zl (v : Int)).length ≤ n := by
  refine zl_len (by omega) ?_
  have h1 : ((v : Nat) : Int) < ((10 ^ n : Nat) : Int) := by omega
  have h2 : ((10 ^ n : Nat) : Int) = (10 : Int) ^ n := by push_cast; rfl
  have h3 : (10 : Int) ^ n ≤ (10000 : Int) ^ n := pow_le (by decide) (by decide) n
  omega
end Go.Proofs.YtfboepeadeafmaaGreatDoor.AP
/- Fractions of the program: the greatest divisor of any numbers, lowest terms, powers. -/
namespace Go.Proofs.YtfboepeadeafmaaGreatDoor.AP
open Go Go.Proofs.YtfboepeadeafmaaGreatDoor.Tri
set_option linter.unusedVariables false
set_option linter.unusedSimpArgs false
theorem gcdN_eq (x y : Int) (hx : 0 ≤ x) (hy : 0 ≤ y) (hlx : (nl x).length ≤ 1000000) (hly : (nl y).length ≤ 1000000) : m_gcd_Euclid (nl x) (nl y) = some (nl (Int.gcd x y)) := by
  have main : ∀ (n : Nat) (x y : Int), y.toNat ≤ n → 0 ≤ x → 0 ≤ y → (nl x).length ≤ 1000000 → (nl y).length ≤ 1000000 → lp m_gcd_Euclid_l1 (nl x, nl y) = some (nl (Int.gcd x y)) := by
    intro n
    induction n with
    | zero =>
      intro x y hn hx hy hlx hly
      obtain rfl : y = 0 := by omega
      have hxx : ((Int.gcd x 0 : Nat) : Int) = x := by rw [Int.gcd_zero_right]; omega
      have e : m_gcd_Euclid_l1 (nl x, nl 0) = some (.inr (nl x)) := by simp [m_gcd_Euclid_l1, nl_zero]
      rw [lp_done e, hxx]
    | succ n ih =>
      intro x y hn hx hy hlx hly
      by_cases h0 : y = 0
      · exact ih x y (by omega) hx hy hlx hly
      · have hpos : 0 < y := by omega
        have hne : nl y ≠ [] := fun h => h0 ((nl_nil hy).1 h)
        have hlen : 0 < (nl y).length := List.length_pos_iff.2 hne
        have h2 := Int.emod_lt_of_pos x hpos
        have h3 := Int.emod_nonneg x (show y ≠ 0 by omega)
        have h4 := nl_mono h3 (Int.le_of_lt h2)
        have e : m_gcd_Euclid_l1 (nl x, nl y) = some (.inl (nl y, nl (x % y))) := by
          simp only [m_gcd_Euclid_l1, m_divide_Mod, decide_eq_true (show (0 : Int) < ((nl y).length : Int) by omega), if_true, div_eq x y hx hpos (by omega) (by omega), bd_some]
        rw [lp_more e, ih y (x % y) (by omega) hy h3 (by omega) (by omega), gcd_mod x y hx]
  unfold m_gcd_Euclid
  rw [make_nl x (by omega), bd_some, make_nl y (by omega), bd_some]
  dsimp only
  rw [main y.toNat x y (Nat.le_refl _) hx hy hlx hly, bd_some]
theorem exactN_eq (x y : Int) (hx : 0 ≤ x) (hy : 0 < y) (hd : x % y = 0) (hl : (nl x).length ≤ 1000000) (hl2 : (nl y).length ≤ 1000000) : m_divide_Exact (nl x) (nl y) = some (nl (x / y), 0) := by
  unfold m_divide_Exact
  rw [div_eq x y hx hy (by omega) (by omega), bd_some]
  dsimp only
  rw [if_neg (show ¬ (!decide ((0 : Int) = 0)) = true by decide), hd, nl_zero, if_neg (show ¬ decide ((0 : Int) < (([] : List Int).length : Int)) = true by decide)]
theorem zI_of_nonneg {x : Int} (h : 0 ≤ x) : zI x = (false, nl x) := by
  unfold zI; rw [decide_eq_false (by omega), show ((x.natAbs : Nat) : Int) = x by omega]
theorem rLow_eq {n : Nat} (a b : Int) (hb : 0 < b) (ha : Lm n a) (hbl : Lm n b) (hn : n ≤ 100000) : m_rat_low (zI a) (nl b) = some (rI (a / Int.gcd a b) (b / Int.gcd a b)) := by
  have la := ha.len
  have lb := hbl.len' (by omega)
  have hg : 0 < (Int.gcd a b : Int) := by
    have := Int.gcd_pos_of_ne_zero_right a (show b ≠ 0 by omega); omega
  have hga : Int.gcd (a.natAbs : Int) b = Int.gcd a b := gcd_abs a b
  have d1 : (Int.gcd a b : Int) ∣ (a.natAbs : Int) := by rw [← hga]; exact Int.gcd_dvd_left _ _
  have d2 : (Int.gcd a b : Int) ∣ b := Int.gcd_dvd_right a b
  have d0 : (Int.gcd a b : Int) ∣ a := Int.gcd_dvd_left a b
  have lg : (nl (Int.gcd a b : Int)).length ≤ n := by
    have h := Int.le_of_dvd hb d2
    have := nl_mono (x := (Int.gcd a b : Int)) (by omega) h
    omega
  have hq0 : 0 ≤ (a.natAbs : Int) / (Int.gcd a b : Int) := Int.ediv_nonneg (by omega) (by omega)
  have hq1 : (a.natAbs : Int) / (Int.gcd a b : Int) ≤ (a.natAbs : Int) := Int.ediv_le_self _ (by omega)
  have lq := nl_mono hq0 hq1
  unfold m_rat_low
  show bd (m_gcd_Euclid (nl (a.natAbs : Int)) (nl b)) _ = _
  rw [gcdN_eq _ b (by omega) (by omega) (by omega) (by omega), bd_some, hga]
  show bd (m_divide_Exact (nl (a.natAbs : Int)) (nl (Int.gcd a b : Int))) _ = _
  rw [exactN_eq _ _ (by omega) hg (Int.emod_eq_zero_of_dvd d1) (by omega) (by omega), bd_some, exactN_eq _ _ (by omega) hg (Int.emod_eq_zero_of_dvd d2) (by omega) (by omega), bd_some]
  dsimp only
  show bd (m_whole_Made (decide (a < 0)) (nl ((a.natAbs : Int) / (Int.gcd a b : Int)))) _ = _
  rw [wMade_eq _ _ hq0 (by omega), bd_some]
  have e : (if decide (a < 0) = true then -((a.natAbs : Int) / (Int.gcd a b : Int)) else (a.natAbs : Int) / (Int.gcd a b : Int)) = a / (Int.gcd a b : Int) := by
    by_cases h : a < 0
    · rw [if_pos (decide_eq_true h), show (a.natAbs : Int) = -a by omega, Int.neg_ediv_of_dvd d0, Int.neg_neg]
    · rw [if_neg (by simpa using h), show (a.natAbs : Int) = a by omega]
  rw [e]
  rfl
theorem rMake_eq {n : Nat} (a b : Int) (hb : 0 < b) (ha : Lm n a) (hbl : Lm n b) (hn : n ≤ 100000) : m_rat_Make (zI a) (zI b) = some (rI (a / Int.gcd a b) (b / Int.gcd a b), 0) := by
  have la := ha.len
  have hz := zI_of_nonneg (x := b) (by omega)
  unfold m_rat_Make
  show bd (m_whole_Sign (zI b)) _ = _
  rw [wSign_eq, bd_some, if_neg (by rw [decide_eq_true_eq]; unfold sg; rw [if_neg (by omega), if_pos hb]; decide)]
  show bd (m_whole_Made (!(decide (a < 0) == (zI b).1)) (nl (a.natAbs : Int))) _ = _
  rw [hz, wMade_eq _ _ (by omega) (by omega), bd_some]
  have e : (if (!(decide (a < 0) == false)) = true then -(a.natAbs : Int) else (a.natAbs : Int)) = a := by
    by_cases h : a < 0
    · rw [decide_eq_true h]; simp; omega
    · rw [decide_eq_false h]; simp; omega
  rw [e, rLow_eq a b hb ha hbl hn, bd_some]
theorem rMake_zero (a : Int) : m_rat_Make (zI a) (zI 0) = some (((false, []), []), 3) := by
  unfold m_rat_Make
  show bd (m_whole_Sign (zI 0)) _ = _
  rw [wSign_eq, bd_some, if_pos (by rfl)]
/-! powers -/
theorem pow_loop (m : Nat) (hm : m ≤ 100000) : ∀ (k : Nat) (n : Nat) (r b : Int), n ≤ k → 0 ≤ r → 0 ≤ b → (nl r).length ≤ m → r * b ^ n < (4294967296 : Int) ^ m → (0 < n → b < (4294967296 : Int) ^ m) → n ≤ 10000 → 1 ≤ r → 2 ≤ b →
    lp m_mul_Pow_l1 ((n : Int), nl r, nl b) = some (nl (r * b ^ n))
  | k, n, r, b, hk, hr, hb, hlr, hlt, hbl, hn, hr1, hb2 => by
    by_cases h0 : n = 0
    · subst h0
      rw [Int.pow_zero, Int.mul_one]
      exact lp_done (by simp [m_mul_Pow_l1])
    · cases k with
      | zero => omega
      | succ k =>
        have hp : ∀ j : Nat, 0 < b ^ j := fun j => pow_pos' (by omega) j
        have hlb : (nl b).length ≤ m := nl_len hb (hbl (by omega))
        have a1 : decide (0 < (n : Int)) = true := decide_eq_true (by omega)
        have a2 : rm .i64 (n : Int) 2 = some ((n % 2 : Nat) : Int) := by rw [rm_of (by omega) (by decide)]; congr 1
        have a3 : qd .i64 (n : Int) 2 = some ((n / 2 : Nat) : Int) := by rw [qd64 (by omega) (by decide) (by omega)]; congr 1
        have hsplit : b ^ n = b ^ (n % 2) * (b * b) ^ (n / 2) := by
          rw [show b * b = b ^ 2 by rw [Int.pow_succ, Int.pow_succ, Int.pow_zero, Int.one_mul], ← Int.pow_mul, ← Int.pow_add]
          congr 1
          omega
        obtain ⟨r2, hr2, e1⟩ : ∃ r2, r2 = r * b ^ (n % 2) ∧ (bd (bd (rm .i64 (n : Int) 2) fun x14 => if decide (x14 = 1) = true then bd (m_mul_Mul (nl r) (nl b)) fun x17 => some x17 else some (nl r)) fun x => some x) = some (nl r2) := by
          refine ⟨_, rfl, ?_⟩
          rw [a2, bd_some]
          by_cases h1 : n % 2 = 1
          · rw [if_pos (by rw [h1]; rfl), mulN_eq r b hr hb (by omega) (by omega), bd_some, bd_some, h1, Int.pow_one]
          · rw [if_neg (by rw [decide_eq_true_eq]; omega), bd_some, show n % 2 = 0 by omega, Int.pow_zero, Int.mul_one]
        have hbp : 1 ≤ b ^ (n % 2) := hp _
        have hbb : 1 ≤ (b * b) ^ (n / 2) := pow_pos' (Int.mul_pos (by omega) (by omega)) _
        have hr21 : 1 ≤ r2 := by rw [hr2]; exact Int.mul_pos (by omega) (hp _)
        have hlt2 : r2 * (b * b) ^ (n / 2) < (4294967296 : Int) ^ m := by rw [hr2, Int.mul_assoc, ← hsplit]; exact hlt
        have hr2lt : r2 < (4294967296 : Int) ^ m := by
          have : r2 * 1 ≤ r2 * (b * b) ^ (n / 2) := Int.mul_le_mul_of_nonneg_left hbb (by omega)
          omega
        have e2 : ∀ {X : Type} (f : List Int → Option X) , (bd (bd (rm .i64 (n : Int) 2) fun x14 => if decide (x14 = 1) = true then bd (m_mul_Mul (nl r) (nl b)) fun x17 => some x17 else some (nl r)) f) = f (nl r2) := by
          intro X f
          cases hA : (bd (rm .i64 (n : Int) 2) fun x14 => if decide (x14 = 1) = true then bd (m_mul_Mul (nl r) (nl b)) fun x17 => some x17 else some (nl r)) with
          | none => rw [hA] at e1; cases e1
          | some v => rw [hA, bd_some] at e1; cases e1; rfl
        have e3 : m_mul_Pow_l1 ((n : Int), nl r, nl b) = some (.inl (((n / 2 : Nat) : Int), nl r2, if 1 < n then nl (b * b) else nl b)) := by
          simp only [m_mul_Pow_l1, a1, if_true, e2]
          by_cases h1 : 1 < n
          · have : m_mul_Square (nl b) = some (nl (b * b)) := by
              unfold m_mul_Square
              rw [mulN_eq b b hb hb (by omega) (by omega)]; rfl
            rw [if_pos (decide_eq_true (by omega)), this, bd_some, bd_some]
            dsimp only
            rw [a3, bd_some, if_pos h1]
          · rw [if_neg (by rw [decide_eq_true_eq]; omega), bd_some]
            dsimp only
            rw [a3, bd_some, if_neg h1]
        rw [lp_more e3]
        by_cases h1 : 1 < n
        · rw [if_pos h1, pow_loop m hm k (n / 2) r2 (b * b) (by omega) (by omega) (Int.mul_nonneg hb hb) (nl_len (by omega) hr2lt) hlt2 (fun hpos => by
            have h5 : (b * b) ^ 1 ≤ (b * b) ^ (n / 2) := by
              have : (0 : Int) < b * b := Int.mul_pos (by omega) (by omega)
              exact pow_mono this hpos
            rw [Int.pow_one] at h5
            have : 1 * (b * b) ^ (n / 2) ≤ r2 * (b * b) ^ (n / 2) := Int.mul_le_mul_of_nonneg_right hr21 (by omega)
            omega) (by omega) hr21 (by
            have : 2 * 1 ≤ b * b := Int.mul_le_mul hb2 (by omega) (by decide) hb
            omega), hr2, Int.mul_assoc, ← hsplit]
        · have : n = 1 := by omega
          subst this
          rw [if_neg h1]
          have : lp m_mul_Pow_l1 (((1 / 2 : Nat) : Int), nl r2, nl b) = some (nl r2) := lp_done (by simp [m_mul_Pow_l1])
          rw [this, hr2]
theorem pow10_lt (n : Nat) : (10 : Int) ^ n < (4294967296 : Int) ^ (n + 1) := by
  have h4 : (10 : Int) ^ n ≤ (4294967296 : Int) ^ n := pow_le (by decide) (by decide) n
  have h6 := pow_pos' (show (0 : Int) < (4294967296 : Int) by decide) n
  rw [Int.pow_succ]
  omega
theorem mulPow_eq (n : Nat) (hn : n ≤ 10000) : m_mul_Pow (nl 10) (n : Int) = some (nl (10 ^ n), 0) := by
  unfold m_mul_Pow
  rw [if_neg (by rw [decide_eq_true_eq]; omega), bd_some, if_neg (by rw [decide_eq_true_eq]; omega), natOf_eq 1 (by decide) (by decide), bd_some]
  have h1 : (nl 1).length ≤ 1 := nl_len (by decide) (by decide)
  have hb : (10 : Int) < (4294967296 : Int) ^ (n + 1) := by
    have h6 := pow_pos' (show (0 : Int) < (4294967296 : Int) by decide) n
    rw [Int.pow_succ]; omega
  have := pow_loop (n + 1) (by omega) n n 1 10 (Nat.le_refl _) (by decide) (by decide) (by omega) (by rw [Int.one_mul]; exact pow10_lt n) (fun _ => hb) hn (Int.le_refl _) (by decide)
  rw [this, bd_some, Int.one_mul]
end Go.Proofs.YtfboepeadeafmaaGreatDoor.AP
/- Fractions read: the program's way and the document's. -/
namespace Go.Proofs.YtfboepeadeafmaaGreatDoor.AP
open Go Go.Proofs.YtfboepeadeafmaaGreatDoor.Tri
set_option linter.unusedVariables false
set_option linter.unusedSimpArgs false
set_option maxRecDepth 4000
/-- a text before a byte, and behind it -/
def cutB (c : UInt8) : List UInt8 → List UInt8 × List UInt8 × Bool
  | [] => ([], [], false)
  | x :: l => if x = c then ([], l, true) else (x :: (cutB c l).1, (cutB c l).2.1, (cutB c l).2.2)
theorem cutB_app (c : UInt8) : ∀ l : List UInt8, l = (cutB c l).1 ++ (if (cutB c l).2.2 then c :: (cutB c l).2.1 else []) ∧ ((cutB c l).2.2 = false → (cutB c l).2.1 = [])
  | [] => ⟨rfl, fun _ => rfl⟩
  | x :: l => by
    obtain ⟨h1, h2⟩ := cutB_app c l
    unfold cutB
    by_cases h : x = c
    · rw [if_pos h]; exact ⟨by rw [h]; rfl, fun h => by cases h⟩
    · rw [if_neg h]
      refine ⟨?_, h2⟩
      show x :: l = x :: (_ ++ _)
      rw [← h1]
theorem cutB_idx (c : UInt8) : ∀ l : List UInt8, Lib.indexByte l c = if (cutB c l).2.2 then ((cutB c l).1.length : Int) else -1
  | [] => rfl
  | x :: l => by
    have ih := cutB_idx c l
    unfold Lib.indexByte cutB
    by_cases h : x = c
    · subst h; simp
    · rw [if_neg (show ¬ (x == c) = true by simpa using h), if_neg h, ih]
      dsimp only
      cases hf : (cutB c l).2.2 with
      | true => rw [if_pos rfl, if_pos rfl, if_neg (by rw [beq_iff_eq]; omega)]; simp
      | false => rfl
theorem index1 (l : List UInt8) (c : UInt8) : m_stringslite_Index (bs l) (bs [c]) = some (if (cutB c l).2.2 then ((cutB c l).1.length : Int) else -1) := by
  show some (Lib.indexByte l c) = _
  rw [cutB_idx]
theorem cut1 (l : List UInt8) (c : UInt8) (hl : l.length ≤ 1000000) : m_strings_Cut (bs l) (bs [c]) = some (bs (cutB c l).1, bs (cutB c l).2.1, (cutB c l).2.2) := by
  obtain ⟨h1, h2⟩ := cutB_app c l
  unfold m_strings_Cut m_internal_stringslite_Cut
  rw [index1, bd_some]
  generalize hA : (cutB c l).1 = a at *
  generalize hB : (cutB c l).2.1 = b at *
  cases hC : (cutB c l).2.2 with
  | true =>
    rw [hC, if_pos rfl] at h1
    have hlen := congrArg List.length h1
    simp only [List.length_append, List.length_cons] at hlen
    have e1 : cs (bs l) 0 ((a.length : Nat) : Int) = some (bs a) := by
      have := cs_bs l 0 a.length (by omega) (by omega)
      rw [List.drop_zero] at this
      conv at this => rhs; rw [h1]
      rw [List.take_left' rfl] at this
      exact this
    have e2 : wi64 ((a.length : Int) + (((bs [c]).size : Nat) : Int)) = ((a.length + 1 : Nat) : Int) := by
      show wi64 ((a.length : Int) + 1) = _
      rw [wi64_eq (by omega) (by omega)]; omega
    have e3 : cs (bs l) ((a.length + 1 : Nat) : Int) (((bs l).size : Nat) : Int) = some (bs b) := by
      have := cs_bs l (a.length + 1) l.length (by omega) (Nat.le_refl _)
      rw [List.take_length] at this
      conv at this => rhs; rw [h1]
      rw [show a ++ c :: b = (a ++ [c]) ++ b by simp, List.drop_left' (by simp)] at this
      exact this
    rw [if_pos rfl, if_pos (decide_eq_true (by omega)), e1, bd_some, e2, e3, bd_some, bd_some]
  | false =>
    rw [hC] at h1 h2
    rw [h2 rfl]
    rw [if_neg (by decide), List.append_nil] at h1
    rw [if_neg (show ¬ decide ((0 : Int) ≤ if false = true then (a.length : Int) else -1) = true by simp), bd_some, ← h1]
theorem has1 (l : List UInt8) (c : UInt8) : m_strings_Contains (bs l) (bs [c]) = some (cutB c l).2.2 := by
  unfold m_strings_Contains m_strings_Index
  rw [index1, bd_some, bd_some]
  cases (cutB c l).2.2 with
  | true => rw [if_pos rfl, decide_eq_true (by omega)]
  | false => rfl
/-- a fraction's parts: before the first line or point, and behind it -/
def spl : List UInt8 → List UInt8 × Option (UInt8 × List UInt8)
  | [] => ([], none)
  | c :: l => if c = 47 ∨ c = 46 then ([], some (c, l)) else (c :: (spl l).1, (spl l).2)
theorem spl_cut : ∀ l : List UInt8, spl l = if (cutB 47 l).2.2 = true ∧ (cutB 46 (cutB 47 l).1).2.2 = false then ((cutB 47 l).1, some (47, (cutB 47 l).2.1)) else if (cutB 46 l).2.2 = true then ((cutB 46 l).1, some (46, (cutB 46 l).2.1)) else (l, none)
  | [] => rfl
  | x :: l => by
    have ih := spl_cut l
    unfold spl
    by_cases h1 : x = 47
    · subst h1
      rw [if_pos (.inl rfl)]
      have : cutB 47 (47 :: l) = ([], l, true) := by unfold cutB; rw [if_pos rfl]
      rw [this, if_pos ⟨rfl, rfl⟩]
    · by_cases h2 : x = 46
      · subst h2
        rw [if_pos (.inr rfl)]
        have e1 : cutB 46 (46 :: l) = ([], l, true) := by unfold cutB; rw [if_pos rfl]
        have e2 : cutB 47 (46 :: l) = (46 :: (cutB 47 l).1, (cutB 47 l).2.1, (cutB 47 l).2.2) := by
          show (if (46 : UInt8) = 47 then _ else _) = _
          rw [if_neg h1]
        have e3 : (cutB 46 (46 :: (cutB 47 l).1)).2.2 = true := by unfold cutB; rw [if_pos rfl]
        rw [e1, e2]
        dsimp only
        rw [e3, if_neg (fun h => by cases h.2), if_pos rfl]
      · rw [if_neg (by rintro (h | h); exact h1 h; exact h2 h), ih]
        have e1 : cutB 46 (x :: l) = (x :: (cutB 46 l).1, (cutB 46 l).2.1, (cutB 46 l).2.2) := by
          show (if x = 46 then _ else _) = _
          rw [if_neg h2]
        have e2 : cutB 47 (x :: l) = (x :: (cutB 47 l).1, (cutB 47 l).2.1, (cutB 47 l).2.2) := by
          show (if x = 47 then _ else _) = _
          rw [if_neg h1]
        have e3 : (cutB 46 (x :: (cutB 47 l).1)).2.2 = (cutB 46 (cutB 47 l).1).2.2 := by
          show (if x = 46 then _ else _ : List UInt8 × List UInt8 × Bool).2.2 = _
          rw [if_neg h2]
        rw [e1, e2]
        dsimp only
        rw [e3]
        by_cases c1 : (cutB 47 l).2.2 = true ∧ (cutB 46 (cutB 47 l).1).2.2 = false
        · rw [if_pos c1, if_pos c1]
        · rw [if_neg c1, if_neg c1]
          by_cases c2 : (cutB 46 l).2.2 = true
          · rw [if_pos c2, if_pos c2]
          · rw [if_neg c2, if_neg c2]
theorem spl_app : ∀ l : List UInt8, l = (spl l).1 ++ (match (spl l).2 with | none => [] | some (c, r) => c :: r) ∧ ∀ c r, (spl l).2 = some (c, r) → c = 47 ∨ c = 46
  | [] => ⟨rfl, fun c r h => by cases h⟩
  | x :: l => by
    obtain ⟨h1, h2⟩ := spl_app l
    unfold spl
    by_cases h : x = 47 ∨ x = 46
    · rw [if_pos h]
      exact ⟨rfl, fun c r hh => by cases hh; exact h⟩
    · rw [if_neg h]
      refine ⟨?_, h2⟩
      show x :: l = x :: (_ ++ _)
      rw [← h1]
/-- both parts of a fraction's text -/
def prt (l : List UInt8) : Int ⊕ (Nat × Nat) := match (spl l).2 with
  | none => match rd10 (spl l).1 with
    | none => .inl 5
    | some x => .inr (x, 1)
  | some (c, b) => match rd10 (spl l).1 with
    | none => .inl 5
    | some x => match rd10 b with
      | none => .inl 5
      | some y => if c = 47 then .inr (x, y) else .inr (x * 10 ^ b.length + y, 10 ^ b.length)
theorem spl_len (l : List UInt8) : (spl l).1.length ≤ l.length ∧ ∀ c r, (spl l).2 = some (c, r) → (spl l).1.length + r.length + 1 = l.length := by
  have h := congrArg List.length (spl_app l).1
  rw [List.length_append] at h
  refine ⟨by omega, fun c r hh => ?_⟩
  rw [hh] at h
  simp only [List.length_cons] at h
  omega
theorem prt_bound {l : List UInt8} {x y : Nat} (h : prt l = .inr (x, y)) : x < 10 ^ l.length ∧ y < 10 ^ (l.length + 1) := by
  have hl := spl_len l
  have mono : ∀ {a b : Nat}, a ≤ b → (10 : Nat) ^ a ≤ 10 ^ b := fun h => Nat.pow_le_pow_right (by decide) h
  unfold prt at h
  cases h2 : (spl l).2 with
  | none =>
    rw [h2] at h
    cases hr : rd10 (spl l).1 with
    | none => rw [hr] at h; cases h
    | some v =>
      rw [hr] at h
      cases h
      have := rd10_lt hr
      have := mono hl.1
      have h3 := mono (show 1 ≤ l.length + 1 by omega)
      rw [Nat.pow_one] at h3
      exact ⟨by omega, by omega⟩
  | some cb =>
    obtain ⟨c, b⟩ := cb
    have hlb := hl.2 c b h2
    rw [h2] at h
    cases hr : rd10 (spl l).1 with
    | none => rw [hr] at h; cases h
    | some v =>
      cases hr2 : rd10 b with
      | none => rw [hr] at h; dsimp only at h; rw [hr2] at h; cases h
      | some w =>
        rw [hr] at h
        dsimp only at h
        rw [hr2] at h
        dsimp only at h
        have b1 := rd10_lt hr
        have b2 := rd10_lt hr2
        have m1 := mono hl.1
        have m2 := mono (show b.length ≤ l.length + 1 by omega)
        have m3 := mono (show b.length + 1 ≤ l.length + 1 by omega)
        rw [Nat.pow_succ] at m3
        split at h
        · cases h; exact ⟨by omega, by omega⟩
        · cases h
          have m4 : 10 ^ (spl l).1.length * 10 ^ b.length ≤ 10 ^ l.length := by rw [← Nat.pow_add]; exact mono (by omega)
          have m5 : (v + 1) * 10 ^ b.length ≤ 10 ^ (spl l).1.length * 10 ^ b.length := Nat.mul_le_mul_right _ b1
          rw [Nat.add_mul, Nat.one_mul] at m5
          have := Nat.pow_pos (n := b.length) (show 0 < 10 by decide)
          exact ⟨by omega, by omega⟩
theorem lm_pow10 {v n : Nat} (h : v < 10 ^ n) : Lm n (v : Int) := by
  unfold Lm
  have h1 : ((v : Nat) : Int) < ((10 ^ n : Nat) : Int) := by omega
  have h2 : ((10 ^ n : Nat) : Int) = (10 : Int) ^ n := by push_cast; rfl
  have h3 : (10 : Int) ^ n ≤ (4294967296 : Int) ^ n := pow_le (by decide) (by decide) n
  rw [show (((v : Int).natAbs : Nat) : Int) = (v : Int) by omega]
  omega
theorem pair_eq (a b : List UInt8) (ha : a.length ≤ 1000000) (hb : b.length ≤ 1000000) : m_ratio_pair (bs a) (bs b) = some (match rd10 a with | none => ([], [], 5) | some x => (nl (x : Int), (tld (rd10 b)).1, (tld (rd10 b)).2)) := by
  unfold m_ratio_pair
  rw [parseD_eq a ha, bd_some]
  cases hr : rd10 a with
  | none => rfl
  | some x =>
    unfold tld
    dsimp only
    rw [if_neg (show ¬ (!decide ((0 : Int) = 0)) = true by decide), parseD_eq b hb, bd_some]
    rfl
theorem parts_eq (l : List UInt8) (hl : l.length ≤ 5000) : ∃ r, m_ratio_parts (bs l) = some r ∧ match prt l with | .inl e => r.2.2 = 5 ∧ e = 5 | .inr (x, y) => r = (nl (x : Int), nl (y : Int), 0) := by
  have hs := spl_cut l
  have hl47 := congrArg List.length (cutB_app 47 l).1
  rw [List.length_append] at hl47
  unfold m_ratio_parts
  rw [cut1 l 47 (by omega), bd_some]
  dsimp only
  have hpost : (cutB 47 l).2.2 = true → (cutB 47 l).2.1.length ≤ l.length := fun h => by
    rw [h, if_pos rfl, List.length_cons] at hl47; omega
  have ev3 : (if (cutB 47 l).2.2 = true then bd (m_strings_Contains (bs (cutB 47 l).1) (bs [46])) fun x5 => some (!x5) else some false) = some (decide ((cutB 47 l).2.2 = true ∧ (cutB 46 (cutB 47 l).1).2.2 = false)) := by
    rw [has1, bd_some]
    cases (cutB 47 l).2.2 <;> cases (cutB 46 (cutB 47 l).1).2.2 <;> rfl
  rw [ev3, bd_some]
  by_cases c1 : (cutB 47 l).2.2 = true ∧ (cutB 46 (cutB 47 l).1).2.2 = false
  · rw [if_pos c1] at hs
    rw [if_pos (decide_eq_true c1), pair_eq _ _ (by omega) (by have := hpost c1.1; omega), bd_some]
    refine ⟨_, rfl, ?_⟩
    unfold prt
    rw [hs]
    dsimp only
    cases h1 : rd10 (cutB 47 l).1 with
    | none => exact ⟨rfl, rfl⟩
    | some x =>
      cases h2 : rd10 (cutB 47 l).2.1 with
      | none => exact ⟨rfl, rfl⟩
      | some y => rfl
  · rw [if_neg c1] at hs
    have hl46 := congrArg List.length (cutB_app 46 l).1
    rw [List.length_append] at hl46
    rw [if_neg (by simpa using c1), cut1 l 46 (by omega), bd_some]
    dsimp only
    rw [parseD_eq _ (by omega), bd_some]
    have h10 : m_nat_Of 10 = some (nl 10) := natOf_eq 10 (by decide) (by decide)
    by_cases c2 : (cutB 46 l).2.2 = true
    · rw [if_pos c2] at hs
      rw [c2, if_pos rfl, List.length_cons] at hl46
      unfold prt
      rw [hs, c2]
      dsimp only
      cases h1 : rd10 (cutB 46 l).1 with
      | none =>
        refine ⟨([], nl 1, 5), ?_, rfl, rfl⟩
        unfold tld
        dsimp only
        rw [if_pos (show (!decide ((5 : Int) = 0)) = true by decide), bd_some, if_pos rfl, natOf_eq 1 (by decide) (by decide), bd_some]
      | some x =>
        unfold tld
        dsimp only
        rw [if_neg (show ¬ (!decide ((0 : Int) = 0)) = true by decide), bd_some, if_neg (by decide), parseD_eq _ (by omega), bd_some]
        cases h2 : rd10 (cutB 46 l).2.1 with
        | none => exact ⟨_, rfl, rfl, rfl⟩
        | some y =>
          have b1 := rd10_lt h1
          have b2 := rd10_lt h2
          have lx := nl_pow10 b1
          have ly := nl_pow10 b2
          have hp : (nl ((10 : Int) ^ (cutB 46 l).2.1.length)).length ≤ (cutB 46 l).2.1.length + 1 := nl_len (Int.le_of_lt (pow_pos' (by decide) _)) (pow10_lt _)
          have hp0 := pow_pos' (show (0 : Int) < 10 by decide) (cutB 46 l).2.1.length
          have lm := nl_mul_len (x := (x : Int)) (y := (10 : Int) ^ (cutB 46 l).2.1.length) (by omega) (by omega) (Int.lt_of_lt_of_le (lt_pow_len (by omega)) (pow_mono (by decide) lx)) (pow10_lt _)
          unfold tld
          dsimp only
          rw [if_neg (show ¬ (!decide ((0 : Int) = 0)) = true by decide), h10, bd_some, bs_size, mulPow_eq _ (by omega), bd_some]
          dsimp only
          rw [mulN_eq _ _ (by omega) (by omega) (by omega) (by omega), bd_some, addN_eq _ _ (Int.mul_nonneg (by omega) (by omega)) (by omega) (by omega) (by omega), bd_some]
          refine ⟨_, rfl, ?_⟩
          rw [if_neg (by decide)]
          push_cast
          rfl
    · have hc2 : (cutB 46 l).2.2 = false := by simpa using c2
      rw [if_neg c2] at hs
      have hpre : (cutB 46 l).1 = l := by
        have := (cutB_app 46 l).1
        rw [hc2, if_neg (by decide), List.append_nil] at this
        exact this.symm
      unfold prt
      rw [hs, hc2, hpre]
      dsimp only
      have ev : (if (!decide ((tld (rd10 l)).2 = 0)) = true then some true else some (!false)) = some true := by split <;> rfl
      rw [ev, bd_some, if_pos rfl, natOf_eq 1 (by decide) (by decide), bd_some]
      cases h1 : rd10 l with
      | none => exact ⟨_, rfl, rfl, rfl⟩
      | some x => exact ⟨_, rfl, rfl⟩
end Go.Proofs.YtfboepeadeafmaaGreatDoor.AP
/- Fractions read, whole texts: the program's way and the document's. -/
namespace Go.Proofs.YtfboepeadeafmaaGreatDoor.AP
open Go Go.Proofs.YtfboepeadeafmaaGreatDoor.Tri
set_option linter.unusedVariables false
set_option linter.unusedSimpArgs false
set_option maxRecDepth 4000
theorem eq_snocB {l : List UInt8} (h : l ≠ []) : ∃ d x, l = d ++ [x] := ⟨l.dropLast, l.getLast h, (List.dropLast_concat_getLast h).symm⟩
/-- without its percent sign, if it has one -/
def pct (l : List UInt8) : List UInt8 × Bool := if l.getLast? = some 37 then (l.dropLast, true) else (l, false)
theorem pct_snoc (d : List UInt8) (x : UInt8) : pct (d ++ [x]) = if x = 37 then (d, true) else (d ++ [x], false) := by
  unfold pct
  rw [List.getLast?_concat, List.dropLast_concat]
  by_cases h : x = 37
  · rw [if_pos (by rw [h]), if_pos h]
  · rw [if_neg (by simpa using h), if_neg h]
theorem pct_len (l : List UInt8) : (pct l).1.length ≤ l.length := by
  unfold pct
  split
  · simp
  · exact Nat.le_refl _
theorem cutPct (l : List UInt8) (hl : l.length ≤ 1000000) : m_strings_CutSuffix (bs l) (bs [37]) = some (bs (pct l).1, (pct l).2) := by
  unfold m_strings_CutSuffix m_internal_stringslite_CutSuffix m_internal_stringslite_HasSuffix
  by_cases h0 : l = []
  · subst h0; rfl
  · obtain ⟨d, x, rfl⟩ := eq_snocB h0
    have hlen : (d ++ [x]).length = d.length + 1 := by simp
    have e0 : wi64 ((((bs (d ++ [x])).size : Nat) : Int) - (((bs [37]).size : Nat) : Int)) = ((d.length : Nat) : Int) := by
      rw [bs_size, bs_size, hlen]
      show wi64 (((d.length + 1 : Nat) : Int) - 1) = _
      rw [wi64_eq (by omega) (by omega)]; omega
    have e1 : cs (bs (d ++ [x])) ((d.length : Nat) : Int) (((bs (d ++ [x])).size : Nat) : Int) = some (bs [x]) := by
      have := cs_bs (d ++ [x]) d.length (d ++ [x]).length (by simp) (Nat.le_refl _)
      rw [List.take_length, List.drop_left' rfl] at this
      exact this
    have e2 : cs (bs (d ++ [x])) 0 ((d.length : Nat) : Int) = some (bs d) := by
      have := cs_bs (d ++ [x]) 0 d.length (by omega) (by simp)
      rw [List.drop_zero, List.take_left' rfl] at this
      exact this
    rw [e0, if_pos (decide_eq_true (by rw [bs_size, bs_size, hlen]; simp only [List.length_cons, List.length_nil]; omega)), e1, bd_some, bd_some, sq_bs, pct_snoc]
    by_cases h : x = 37
    · rw [decide_eq_true (by rw [h]), if_neg (by decide), e2, bd_some, bd_some, if_pos h]
    · rw [decide_eq_false (fun e => h (List.cons.inj e).1), if_pos (by decide), bd_some, if_neg h]
/-- what a fraction's text says -/
def prs (l : List UInt8) : Int ⊕ (Nat × Nat) := match prt (pct l).1 with
  | .inl e => .inl e
  | .inr (x, y) => if y = 0 then .inl 3 else .inr (x, if (pct l).2 then y * 100 else y)
theorem rParse_eq (l : List UInt8) (hl : l.length ≤ 5000) : m_ratio_Parse (bs l) = some (match prs l with | .inl e => (((false, []), []), e) | .inr (x, y) => (rI ((x : Int) / (Int.gcd x y : Int)) ((y : Int) / (Int.gcd x y : Int)), 0)) := by
  have hpl := pct_len l
  obtain ⟨r, hr, hm⟩ := parts_eq (pct l).1 (by omega)
  unfold m_ratio_Parse
  rw [cutPct l (by omega), bd_some]
  dsimp only
  rw [hr, bd_some]
  unfold prs
  cases hp : prt (pct l).1 with
  | inl e =>
    rw [hp] at hm
    dsimp only at hm ⊢
    rw [hm.1, hm.2, if_pos (show (!decide ((5 : Int) = 0)) = true by decide)]
  | inr xy =>
    obtain ⟨x, y⟩ := xy
    rw [hp] at hm
    dsimp only at hm ⊢
    obtain ⟨b1, b2⟩ := prt_bound hp
    have lx := nl_pow10 b1
    have ly := nl_pow10 b2
    subst hm
    dsimp only
    rw [if_neg (show ¬ (!decide ((0 : Int) = 0)) = true by decide)]
    have e1 : (if (pct l).2 = true then bd (m_mul_Small (nl (y : Int)) 100 0) fun x8 => some x8 else some (nl (y : Int))) = some (nl (((if (pct l).2 then y * 100 else y : Nat)) : Int)) := by
      cases (pct l).2 with
      | true =>
        rw [if_pos rfl, mulSmall_eq (y : Int) 100 0 (by omega) ⟨by decide, by decide⟩ ⟨by decide, by decide⟩ (by omega), bd_some, if_pos rfl]
        push_cast; rfl
      | false => rfl
    have hy3 : (if (pct l).2 = true then y * 100 else y) < 10 ^ ((pct l).1.length + 3) := by
      have e : 10 ^ ((pct l).1.length + 3) = 10 ^ ((pct l).1.length + 1) * 100 := by rw [show (pct l).1.length + 3 = (pct l).1.length + 1 + 2 by omega, Nat.pow_add _ ((pct l).1.length + 1)]
      rw [e]; split <;> omega
    have hy0 : y = 0 ↔ (if (pct l).2 = true then y * 100 else y) = 0 := by split <;> omega
    rw [e1, bd_some]
    generalize (if (pct l).2 = true then y * 100 else y) = z at *
    have lz := nl_pow10 hy3
    rw [wMade_eq _ _ (by omega) (by omega), bd_some, wMade_eq _ _ (by omega) (by omega), bd_some]
    show bd (m_rat_Make (zI (x : Int)) (zI (z : Int))) _ = _
    by_cases h0 : y = 0
    · have hz : z = 0 := hy0.1 h0
      subst hz
      rw [if_pos h0]
      show bd (m_rat_Make (zI (x : Int)) (zI 0)) _ = _
      rw [rMake_zero, bd_some]
    · have hz : z ≠ 0 := fun h => h0 (hy0.2 h)
      rw [if_neg h0, rMake_eq (n := (pct l).1.length + 3) (x : Int) (z : Int) (by omega) ((lm_pow10 b1).mono (by omega)) (lm_pow10 hy3) (by omega), bd_some]
/-! the document's -/
theorem ten_loop (n : Nat) (hn : n ≤ 100000) : ∀ (k i : Nat), i + k = n → lp (m_triviumref09_ten_l1 (n : Int)) (zl ((10 ^ i : Nat) : Int), (i : Int)) = some (zl ((10 ^ n : Nat) : Int))
  | 0, i, hk => by
    obtain rfl : i = n := by omega
    exact lp_done (by simp [m_triviumref09_ten_l1])
  | k + 1, i, hk => by
    have h1 := zl_pow10 (v := 10 ^ i) (n := i + 1) (by rw [Nat.pow_succ]; have := Nat.pow_pos (n := i) (show 0 < 10 by decide); omega)
    have e1 : decide ((i : Int) < (n : Int)) = true := decide_eq_true (by omega)
    have e5 := mulAdd_eq ((10 ^ i : Nat) : Int) 10 0 (Int.natCast_nonneg _) (by decide) (by decide) (by omega) (by omega) (by omega)
    have e6 : wi64 ((i : Int) + 1) = ((i + 1 : Nat) : Int) := by rw [wi64_eq (by omega) (by omega)]; omega
    have e7 : ((10 ^ i : Nat) : Int) * 10 + 0 = ((10 ^ (i + 1) : Nat) : Int) := by rw [Nat.pow_succ]; push_cast; omega
    rw [e7] at e5
    rw [lp_more (s' := (zl ((10 ^ (i + 1) : Nat) : Int), ((i + 1 : Nat) : Int))) (by simp only [m_triviumref09_ten_l1, e1, if_true, e5, bd_some, e6])]
    exact ten_loop n hn k (i + 1) (by omega)
theorem ten_eq (n : Nat) (hn : n ≤ 100000) : m_triviumref09_ten (n : Int) = some (zl ((10 ^ n : Nat) : Int)) := by
  unfold m_triviumref09_ten
  rw [refNum_eq 1 (by decide) (by decide), bd_some]
  have : lp (m_triviumref09_ten_l1 (n : Int)) (zl 1, 0) = some (zl ((10 ^ n : Nat) : Int)) := ten_loop n hn n 0 (by omega)
  rw [this, bd_some]
end Go.Proofs.YtfboepeadeafmaaGreatDoor.AP
/- Fractions by tenths: when there is such a text, and which. -/
namespace Go.Proofs.YtfboepeadeafmaaGreatDoor.AP
open Go Go.Proofs.YtfboepeadeafmaaGreatDoor.Tri
set_option linter.unusedVariables false
set_option linter.unusedSimpArgs false
set_option maxRecDepth 4000
/-! numbers: no program in sight -/
theorem cop2 {m : Nat} (h : m % 2 ≠ 0) : Nat.Coprime m 2 := by
  have : m % 2 = 1 := by omega
  rw [Nat.coprime_comm]
  unfold Nat.Coprime
  rw [Nat.gcd_rec, this]
  rfl
theorem cop5 {m : Nat} (h : m % 5 ≠ 0) : Nat.Coprime m 5 := by
  rw [Nat.coprime_comm]
  unfold Nat.Coprime
  rw [Nat.gcd_rec]
  have : m % 5 = 1 ∨ m % 5 = 2 ∨ m % 5 = 3 ∨ m % 5 = 4 := by omega
  rcases this with h | h | h | h <;> rw [h] <;> rfl
theorem ten_pow (n : Nat) : (10 : Nat) ^ n = 2 ^ n * 5 ^ n := by rw [← Nat.mul_pow]
theorem tenths (a b i j m n : Nat) (hb : b = 2 ^ i * (5 ^ j * m)) (h2 : (5 ^ j * m) % 2 ≠ 0) (h5 : m % 5 ≠ 0) (hg : Nat.gcd a b = 1) : b ∣ a * 10 ^ n ↔ m = 1 ∧ i ≤ n ∧ j ≤ n := by
  constructor
  · intro h
    have hc : Nat.Coprime b a := by rw [Nat.coprime_comm]; exact hg
    have h10 : b ∣ 10 ^ n := hc.dvd_of_dvd_mul_left h
    rw [ten_pow] at h10
    have d1 : 2 ^ i ∣ 2 ^ n * 5 ^ n := Nat.dvd_trans ⟨_, hb⟩ h10
    have d2 : 5 ^ j ∣ 2 ^ n * 5 ^ n := Nat.dvd_trans ⟨2 ^ i * m, by rw [hb, Nat.mul_left_comm]⟩ h10
    have d3 : m ∣ 2 ^ n * 5 ^ n := Nat.dvd_trans ⟨2 ^ i * 5 ^ j, by rw [hb, Nat.mul_comm m, Nat.mul_assoc]⟩ h10
    have c25 : Nat.Coprime 2 5 := by decide
    have e1 : 2 ^ i ∣ 2 ^ n := (Nat.Coprime.pow i n c25).dvd_of_dvd_mul_right d1
    have e2 : 5 ^ j ∣ 5 ^ n := (Nat.Coprime.pow j n c25.symm).dvd_of_dvd_mul_left d2
    have cm2 : Nat.Coprime m 2 := (cop2 h2).coprime_dvd_left ⟨5 ^ j, Nat.mul_comm _ _⟩
    have e3 : m ∣ 5 ^ n := (cm2.pow_right n).dvd_of_dvd_mul_left d3
    refine ⟨((cop5 h5).pow_right n).eq_one_of_dvd e3, (Nat.pow_dvd_pow_iff_le_right (by decide)).1 e1, (Nat.pow_dvd_pow_iff_le_right (by decide)).1 e2⟩
  · rintro ⟨rfl, hi, hj⟩
    rw [hb, Nat.mul_one]
    refine Nat.dvd_trans ?_ (Nat.dvd_mul_left _ a)
    rw [ten_pow]
    exact Nat.mul_dvd_mul (Nat.pow_dvd_pow 2 hi) (Nat.pow_dvd_pow 5 hj)
/-- lowest terms are the same, however they are come to -/
theorem lowest (a b X Y : Nat) (hg : Nat.gcd a b = 1) (hb : 0 < b) (hY : 0 < Y) (h : X * b = a * Y) : X / Nat.gcd X Y = a ∧ Y / Nat.gcd X Y = b := by
  have hc : Nat.Coprime b a := by rw [Nat.coprime_comm]; exact hg
  have hd : b ∣ Y := hc.dvd_of_dvd_mul_left ⟨X, by rw [← h, Nat.mul_comm]⟩
  obtain ⟨k, rfl⟩ := hd
  have hk : 0 < k := by
    apply Nat.pos_of_ne_zero
    rintro rfl
    simp at hY
  have hX : X = a * k := by
    apply Nat.eq_of_mul_eq_mul_right hb
    rw [h, Nat.mul_assoc, Nat.mul_comm k b]
  subst hX
  rw [Nat.gcd_mul_right, hg, Nat.one_mul, Nat.mul_div_cancel _ hk, Nat.mul_div_cancel _ hk]
  exact ⟨rfl, rfl⟩
/-! how often a limb divides a number -/
theorem mult_loop (p : Nat) (hp : 2 ≤ p) (hp2 : p < 4294967296) : ∀ (K d j : Nat), 0 < d → d < 2 ^ K → j + K ≤ 1000000000 → (nl (d : Int)).length ≤ 1000000 →
    ∃ i m : Nat, lp (m_ratio_places_1_M_l1 (p : Int)) ((j : Int), nl (d : Int)) = some (((j + i : Nat) : Int), nl (m : Int)) ∧ d = p ^ i * m ∧ m % p ≠ 0 ∧ i ≤ K
  | 0, d, j, h0, hd, hj, hl => by simp at hd; omega
  | K + 1, d, j, h0, hd, hj, hl => by
    have e1 := smallD_eq (d : Int) (p : Int) (by omega) (by omega) (by omega) (by omega)
    have hlen : ¬ (((nl (d : Int)).length : Int) = 0) := fun e => by
      have := (nl_nil (x := (d : Int)) (by omega)).1 (List.length_eq_zero_iff.1 (by omega))
      omega
    by_cases hr : d % p = 0
    · have e2 : (d : Int) % (p : Int) = 0 := by rw [← Int.natCast_emod, hr]; rfl
      have e3 : (d : Int) / (p : Int) = ((d / p : Nat) : Int) := by rw [Int.natCast_ediv]
      have e4 : wi64 ((j : Int) + 1) = ((j + 1 : Nat) : Int) := by rw [wi64_eq (by omega) (by omega)]; omega
      rw [e2, e3] at e1
      have st : m_ratio_places_1_M_l1 (p : Int) ((j : Int), nl (d : Int)) = some (.inl (((j + 1 : Nat) : Int), nl ((d / p : Nat) : Int))) := by
        simp only [m_ratio_places_1_M_l1, e1, bd_some, decide_true, Bool.not_true, Bool.false_eq_true, if_false, decide_eq_false hlen, e4]
      have hmul : p * (d / p) = d := Nat.mul_div_cancel' (Nat.dvd_of_mod_eq_zero hr)
      have hq0 : 0 < d / p := by
        apply Nat.pos_of_ne_zero
        intro h
        rw [h] at hmul; omega
      have hq1 : 2 * (d / p) ≤ d := by
        have : 2 * (d / p) ≤ p * (d / p) := Nat.mul_le_mul_right _ hp
        omega
      obtain ⟨i, m, h1, h2, h3, h4⟩ := mult_loop p hp hp2 K (d / p) (j + 1) hq0 (by rw [Nat.pow_succ] at hd; omega) (by omega) (by
        have := nl_mono (x := ((d / p : Nat) : Int)) (y := (d : Int)) (by omega) (by omega)
        omega)
      refine ⟨i + 1, m, ?_, ?_, h3, by omega⟩
      · rw [lp_more st, h1, show j + 1 + i = j + (i + 1) by omega]
      · rw [Nat.pow_succ, Nat.mul_comm (p ^ i) p, Nat.mul_assoc, ← h2, hmul]
    · have e2 : ¬ ((d : Int) % (p : Int) = 0) := by rw [← Int.natCast_emod]; omega
      refine ⟨0, d, lp_done ?_, by simp, hr, by omega⟩
      simp only [m_ratio_places_1_M_l1, e1, bd_some, decide_true, Bool.not_true, Bool.false_eq_true, if_false, decide_eq_false e2, Bool.not_false, if_true]
      rfl
theorem places_eq (K b : Nat) (hb : 0 < b) (hK : b < 2 ^ K) (hK2 : K ≤ 100000) (hl : (nl (b : Int)).length ≤ 1000000) : ∃ i j m : Nat, m_ratio_places (nl (b : Int)) = some (((max i j : Nat) : Int), decide (m = 1)) ∧ b = 2 ^ i * (5 ^ j * m) ∧ (5 ^ j * m) % 2 ≠ 0 ∧ m % 5 ≠ 0 ∧ i ≤ K ∧ j ≤ K := by
  obtain ⟨i, m1, h1, h2, h3, h4⟩ := mult_loop 2 (by decide) (by decide) K b 0 hb hK (by omega) hl
  have hm1 : 0 < m1 := by omega
  have hle : m1 ≤ b := by
    rw [h2]
    have := Nat.pow_pos (n := i) (show 0 < 2 by decide)
    have h : 1 * m1 ≤ 2 ^ i * m1 := Nat.mul_le_mul_right _ this
    omega
  have hl1 := nl_mono (x := (m1 : Int)) (y := (b : Int)) (by omega) (by omega)
  obtain ⟨j, m, k1, k2, k3, k4⟩ := mult_loop 5 (by decide) (by decide) K m1 0 hm1 (by omega) (by omega) (by omega)
  have hm : 0 < m := by omega
  refine ⟨i, j, m, ?_, by rw [h2, k2], by rw [← k2]; exact h3, k3, h4, k4⟩
  unfold m_ratio_places m_ratio_places_1_M
  have h1' : lp (m_ratio_places_1_M_l1 2) (0, nl (b : Int)) = some ((i : Int), nl (m1 : Int)) := by
    have := h1
    rw [Nat.zero_add] at this
    exact this
  have k1' : lp (m_ratio_places_1_M_l1 5) (0, nl (m1 : Int)) = some ((j : Int), nl (m : Int)) := by
    have := k1
    rw [Nat.zero_add] at this
    exact this
  have hlm : (nl (m : Int)).length ≤ 1000000 := by
    have hle2 : m ≤ m1 := by
      rw [k2]
      have := Nat.pow_pos (n := j) (show 0 < 5 by decide)
      have h : 1 * m ≤ 5 ^ j * m := Nat.mul_le_mul_right _ this
      omega
    have := nl_mono (x := (m : Int)) (y := (m1 : Int)) (by omega) (by omega)
    omega
  rw [h1', bd_some]
  dsimp only
  rw [k1', bd_some, natOf_eq 1 (by decide) (by decide), bd_some]
  dsimp only
  rw [cmpN_eq (m : Int) 1 (by omega) (by decide) (by omega), bd_some]
  have e : decide (sg ((m : Int) - 1) = 0) = decide (m = 1) := by
    rw [decide_eq_decide]
    unfold sg
    split <;> (try split) <;> omega
  rw [e, show max (i : Int) (j : Int) = ((max i j : Nat) : Int) by omega]
/-! the text -/
def padL (n : Nat) (l : List UInt8) : List UInt8 := List.replicate (n + 1 - l.length) 48 ++ l
def putL (n : Nat) (p : List UInt8) : List UInt8 := if 0 < n then p.take (p.length - n) ++ 46 :: p.drop (p.length - n) else p
def decL (neg : Bool) (x n : Nat) : List UInt8 := if neg then 45 :: putL n (padL n (Lib.decDigits x)) else putL n (padL n (Lib.decDigits x))
theorem padL_len (n : Nat) (l : List UInt8) : (padL n l).length = max l.length (n + 1) := by
  unfold padL
  rw [List.length_append, List.length_replicate]; omega
theorem repeat48 : ∀ k : Nat, Lib.repeatL [48] k = List.replicate k 48
  | 0 => rfl
  | k + 1 => by rw [Lib.repeatL, repeat48 k]; rfl
theorem repeat_eq (k : Nat) (hk : k ≤ 1000000) : m_strings_Repeat (bs [48]) (k : Int) = some (bs (List.replicate k 48)) := by
  unfold m_strings_Repeat
  rw [if_pos ⟨by omega, by omega, by show 1 * (k : Int).toNat ≤ _; omega⟩]
  show some (bs (Lib.repeatL [48] (k : Int).toNat)) = _
  rw [Int.toNat_natCast, repeat48]
/-- with its point put, by either way -/
theorem put_eq (n : Nat) (p : List UInt8) (hp : n < p.length) (hl : p.length ≤ 1000000) {X : Type} (f : ByteArray → Option X) : (bd (if decide (0 < (n : Int)) = true then
      bd (cs (bs p) 0 (wi64 ((((bs p).size : Nat) : Int) - (n : Int)))) fun x23 => bd (cat x23 (bs [46])) fun x25 => bd (cs (bs p) (wi64 ((((bs p).size : Nat) : Int) - (n : Int))) (((bs p).size : Nat) : Int)) fun x27 => bd (cat x25 x27) fun x29 => some x29
      else some (bs p)) f) = f (bs (putL n p)) := by
  unfold putL
  by_cases h : 0 < n
  · have e0 : wi64 ((((bs p).size : Nat) : Int) - (n : Int)) = ((p.length - n : Nat) : Int) := by rw [bs_size, wi64_eq (by omega) (by omega)]; omega
    have e1 : cs (bs p) 0 ((p.length - n : Nat) : Int) = some (bs (p.take (p.length - n))) := by
      have := cs_bs p 0 (p.length - n) (by omega) (by omega)
      rw [List.drop_zero] at this; exact this
    have e2 : cs (bs p) ((p.length - n : Nat) : Int) (((bs p).size : Nat) : Int) = some (bs (p.drop (p.length - n))) := by
      have := cs_bs p (p.length - n) p.length (by omega) (Nat.le_refl _)
      rw [List.take_length] at this; exact this
    have l1 : (p.take (p.length - n)).length ≤ 1000000 := by rw [List.length_take]; omega
    have l2 : (p.drop (p.length - n)).length ≤ 1000000 := by rw [List.length_drop]; omega
    rw [if_pos (decide_eq_true (by omega)), e0, e1, bd_some, cat_bs (by simp only [List.length_cons, List.length_nil]; omega), bd_some, e2, bd_some, cat_bs (by rw [List.length_append]; simp only [List.length_cons, List.length_nil]; omega), bd_some, bd_some, if_pos h]
    rw [List.append_assoc]; rfl
  · rw [if_neg (by rw [decide_eq_true_eq]; omega), bd_some, if_neg h]
theorem sign_eq (b : Bool) (p : List UInt8) (hl : p.length ≤ 2000000) {X : Type} (f : ByteArray → Option X) : (bd (if b = true then bd (cat (bs [45]) (bs p)) fun x33 => some x33 else some (bs p)) f) = f (bs (if b then 45 :: p else p)) := by
  cases b with
  | true => rw [if_pos rfl, cat_bs (by simp only [List.length_cons, List.length_nil]; omega), bd_some, bd_some]; rfl
  | false => rw [if_neg (by decide), bd_some]; rfl
theorem putL_len (n : Nat) (p : List UInt8) : (putL n p).length ≤ p.length + 1 := by
  unfold putL
  split
  · simp only [List.length_append, List.length_cons, List.length_take, List.length_drop]; omega
  · omega
theorem dd_pow (x n : Nat) (hn : x < 10 ^ n) (h0 : 0 < n) : (Lib.decDigits x).length ≤ n := by
  rw [Lib.decDigits_length]
  obtain ⟨k, rfl⟩ : ∃ k, n = k + 1 := ⟨n - 1, by omega⟩
  exact nd_pow k x hn
/-- the program's text by tenths -/
theorem rDecimal_eq (K : Nat) (a : Int) (b i j m : Nat) (hK2 : K ≤ 1000) (hb0 : 0 < b) (hl : (nl (b : Int)).length ≤ 1000) (hla : (nl (a.natAbs : Int)).length ≤ 1000) (hg : Nat.gcd a.natAbs b = 1)
    (hpl : m_ratio_places (nl (b : Int)) = some (((max i j : Nat) : Int), decide (m = 1))) (hb : b = 2 ^ i * (5 ^ j * m)) (h2 : (5 ^ j * m) % 2 ≠ 0) (h5 : m % 5 ≠ 0) (hi : i ≤ K) (hj : j ≤ K) :
    m_ratio_Decimal (rI a (b : Int)) = some (if m = 1 then (bs (decL (decide (a < 0)) (a.natAbs * 10 ^ max i j / b) (max i j)), true) else (bs [], false)) := by
  unfold m_ratio_Decimal
  show bd (m_ratio_places (nl (b : Int))) _ = _
  rw [hpl, bd_some]
  dsimp only
  by_cases hm : m = 1
  · obtain ⟨n, hn⟩ : ∃ n, n = max i j := ⟨_, rfl⟩
    rw [← hn]
    have hdv : b ∣ a.natAbs * 10 ^ n := (tenths a.natAbs b i j m n hb h2 h5 hg).2 ⟨hm, by omega, by omega⟩
    have hnK : n ≤ K := by omega
    have hp : (nl ((10 : Int) ^ n)).length ≤ n + 1 := nl_len (Int.le_of_lt (pow_pos' (by decide) _)) (pow10_lt _)
    have hp0 := pow_pos' (show (0 : Int) < 10 by decide) n
    have lm := nl_mul_len (x := (a.natAbs : Int)) (y := (10 : Int) ^ n) (by omega) (by omega) (Int.lt_of_lt_of_le (lt_pow_len (by omega)) (pow_mono (by decide) hla)) (pow10_lt _)
    have e0 : (a.natAbs : Int) * (10 : Int) ^ n = ((a.natAbs * 10 ^ n : Nat) : Int) := by push_cast; rfl
    have e1 : ((a.natAbs * 10 ^ n : Nat) : Int) % (b : Int) = 0 := by rw [← Int.natCast_emod, Nat.mod_eq_zero_of_dvd hdv]; rfl
    have e2 : ((a.natAbs * 10 ^ n : Nat) : Int) / (b : Int) = ((a.natAbs * 10 ^ n / b : Nat) : Int) := by rw [Int.natCast_ediv]
    have h10 : m_nat_Of 10 = some (nl 10) := natOf_eq 10 (by decide) (by decide)
    rw [if_neg (by rw [decide_eq_true hm]; decide), h10, bd_some, mulPow_eq n (by omega), bd_some]
    dsimp only
    show bd (m_mul_Mul (nl (a.natAbs : Int)) (nl ((10 : Int) ^ n))) (fun x8 => bd (m_divide_Exact x8 (nl (b : Int))) _) = _
    rw [mulN_eq _ _ (by omega) (by omega) (by omega) (by omega), bd_some]
    rw [e0] at lm ⊢
    rw [exactN_eq _ _ (Int.natCast_nonneg _) (by omega) e1 (by omega) (by omega), bd_some]
    dsimp only
    rw [if_neg (show ¬ (!decide ((0 : Int) = 0)) = true by decide), e2]
    have hle : a.natAbs * 10 ^ n / b ≤ a.natAbs * 10 ^ n := Nat.div_le_self _ _
    have lx := nl_mono (x := ((a.natAbs * 10 ^ n / b : Nat) : Int)) (y := ((a.natAbs * 10 ^ n : Nat) : Int)) (Int.natCast_nonneg _) (by omega)
    generalize hx : a.natAbs * 10 ^ n / b = x at *
    rw [digitsPrint_eq x (by omega), bd_some]
    have hdd : (Lib.decDigits x).length ≤ 100000 := by
      have h1 := dd_len x
      have h2 := zl_nl_len (x := (x : Int)) (by omega)
      omega
    have epad : (if decide ((((bs (Lib.decDigits x)).size : Nat) : Int) ≤ (n : Int)) = true then bd (m_strings_Repeat (bs [48]) (wi64 ((wi64 ((n : Int) + 1)) - (((bs (Lib.decDigits x)).size : Nat) : Int)))) fun x17 => bd (cat x17 (bs (Lib.decDigits x))) fun x19 => some x19 else some (bs (Lib.decDigits x))) = some (bs (padL n (Lib.decDigits x))) := by
      unfold padL
      by_cases h : (Lib.decDigits x).length ≤ n
      · have e : wi64 ((wi64 ((n : Int) + 1)) - (((bs (Lib.decDigits x)).size : Nat) : Int)) = ((n + 1 - (Lib.decDigits x).length : Nat) : Int) := by
          rw [bs_size, wi64_eq (x := (n : Int) + 1) (by omega) (by omega), wi64_eq (by omega) (by omega)]; omega
        rw [if_pos (decide_eq_true (by rw [bs_size]; omega)), e, repeat_eq _ (by omega), bd_some, cat_bs (by rw [List.length_replicate]; omega), bd_some]
      · rw [if_neg (by rw [decide_eq_true_eq, bs_size]; omega), show n + 1 - (Lib.decDigits x).length = 0 by omega]
        rfl
    rw [epad, bd_some]
    have hpl := padL_len n (Lib.decDigits x)
    have hput := putL_len n (padL n (Lib.decDigits x))
    rw [put_eq n _ (by omega) (by omega)]
    show bd (if decide (a < 0) = true then bd (cat (bs [45]) _) fun x33 => some x33 else some _) _ = _
    rw [sign_eq (decide (a < 0)) _ (by omega), if_pos hm]
    rfl
  · rw [decide_eq_false hm, if_pos (by rfl), if_neg hm]
end Go.Proofs.YtfboepeadeafmaaGreatDoor.AP
/- Fractions by tenths: the document's way; both together. -/
namespace Go.Proofs.YtfboepeadeafmaaGreatDoor.AP
open Go Go.Proofs.YtfboepeadeafmaaGreatDoor.Tri
set_option linter.unusedVariables false
set_option linter.unusedSimpArgs false
set_option maxRecDepth 4000
theorem refBits_loop : ∀ (K x k : Nat), x < 2 ^ K → k + K ≤ 1000000000 → (zl (x : Int)).length ≤ 1000000 → ∃ m : Nat, lp m_triviumref02_Bits_l1 (zl (x : Int), (k : Int)) = some ((k + m : Nat) : Int) ∧ x < 2 ^ m ∧ m ≤ K
  | 0, x, k, hx, hk, hl => by
    have : x = 0 := by simpa using hx
    subst this
    refine ⟨0, lp_done ?_, by decide, Nat.le_refl _⟩
    rw [show ((0 : Nat) : Int) = 0 from rfl, zl_zero]; rfl
  | K + 1, x, k, hx, hk, hl => by
    by_cases h0 : x = 0
    · subst h0
      refine ⟨0, lp_done ?_, by decide, by omega⟩
      rw [show ((0 : Nat) : Int) = 0 from rfl, zl_zero]; rfl
    · have hlen : 0 < ((zl (x : Int)).length : Int) := by
        have : (zl (x : Int)).length ≠ 0 := fun e => by
          have := (zl_nil (x := (x : Int)) (by omega)).1 (List.length_eq_zero_iff.1 e)
          omega
        omega
      have e1 := refDivSmall_eq (x : Int) 2 (by omega) (by decide) (by decide) (by omega)
      have e2 : (x : Int) / 2 = ((x / 2 : Nat) : Int) := by omega
      have e3 : wi64 ((k : Int) + 1) = ((k + 1 : Nat) : Int) := by rw [wi64_eq (by omega) (by omega)]; omega
      rw [e2] at e1
      have st : m_triviumref02_Bits_l1 (zl (x : Int), (k : Int)) = some (.inl (zl ((x / 2 : Nat) : Int), ((k + 1 : Nat) : Int))) := by
        simp only [m_triviumref02_Bits_l1, decide_eq_true hlen, if_true, e1, bd_some, e3]
      obtain ⟨m, h1, h2, h3⟩ := refBits_loop K (x / 2) (k + 1) (by rw [Nat.pow_succ] at hx; omega) (by omega) (by
        have := zl_mono (x := ((x / 2 : Nat) : Int)) (y := (x : Int)) (by omega) (by omega)
        omega)
      refine ⟨m + 1, ?_, by rw [Nat.pow_succ]; omega, by omega⟩
      rw [lp_more st, h1, show k + 1 + m = k + (m + 1) by omega]
theorem refBits_eq (K x : Nat) (hx : x < 2 ^ K) (hK : K ≤ 1000000) (hl : (zl (x : Int)).length ≤ 1000000) : ∃ m : Nat, m_triviumref02_Bits (zl (x : Int)) = some (m : Int) ∧ x < 2 ^ m ∧ m ≤ K := by
  obtain ⟨m, h1, h2, h3⟩ := refBits_loop K x 0 hx (by omega) hl
  rw [Nat.zero_add] at h1
  refine ⟨m, ?_, h2, h3⟩
  unfold m_triviumref02_Bits
  have h1' : lp m_triviumref02_Bits_l1 (zl (x : Int), 0) = some (m : Int) := h1
  rw [h1', bd_some]
theorem pad_loop (n : Nat) (hn : n ≤ 900000) : ∀ (k : Nat) (l : List UInt8), n + 1 ≤ l.length + k → l.length ≤ 1000000 → lp (m_triviumref09_Decimal_l2 (n : Int)) (bs l) = some (bs (padL n l))
  | 0, l, hk, hl => by
    refine lp_done ?_
    have : padL n l = l := by unfold padL; rw [show n + 1 - l.length = 0 by omega]; rfl
    rw [this]
    unfold m_triviumref09_Decimal_l2
    rw [if_neg (by rw [decide_eq_true_eq, bs_size]; omega)]
  | k + 1, l, hk, hl => by
    by_cases h : l.length ≤ n
    · have st : m_triviumref09_Decimal_l2 (n : Int) (bs l) = some (.inl (bs (48 :: l))) := by
        unfold m_triviumref09_Decimal_l2
        rw [if_pos (decide_eq_true (by rw [bs_size]; omega)), cat_bs (by simp only [List.length_cons, List.length_nil]; omega), bd_some]
        rfl
      rw [lp_more st, pad_loop n hn k (48 :: l) (by rw [List.length_cons]; omega) (by rw [List.length_cons]; omega)]
      congr 2
      unfold padL
      rw [List.length_cons, show n + 1 - l.length = (n + 1 - (l.length + 1)) + 1 by omega, List.replicate_succ']
      simp
    · refine lp_done ?_
      have : padL n l = l := by unfold padL; rw [show n + 1 - l.length = 0 by omega]; rfl
      rw [this]
      unfold m_triviumref09_Decimal_l2
      rw [if_neg (by rw [decide_eq_true_eq, bs_size]; omega)]
/-- one try of the document -/
theorem refDec_step (K : Nat) (a : Int) (b B v : Nat) (hK2 : K ≤ 1000) (hb0 : 0 < b) (hlb : (zl (b : Int)).length ≤ 1000) (hla : (zl (a.natAbs : Int)).length ≤ 1000) (hB : m_triviumref02_Bits (zl (b : Int)) = some (B : Int)) (hv : v ≤ B) (hB2 : B ≤ K) :
    m_triviumref09_Decimal_l1 (rQ a (b : Int)) (v : Int) = some (if b ∣ a.natAbs * 10 ^ v then .inr (bs (decL (decide (a < 0)) (a.natAbs * 10 ^ v / b) v), true) else .inl ((v + 1 : Nat) : Int)) := by
  have hp10 := Nat.pow_pos (n := v) (show 0 < 10 by decide)
  have lp10 := zl_pow10 (v := 10 ^ v) (n := v + 1) (by rw [Nat.pow_succ]; omega)
  have e1 := refMul_eq (a.natAbs : Int) ((10 ^ v : Nat) : Int) (by omega) (Int.natCast_nonneg _) (by omega) (by omega)
  have e2 : (a.natAbs : Int) * ((10 ^ v : Nat) : Int) = ((a.natAbs * 10 ^ v : Nat) : Int) := by push_cast; rfl
  rw [e2] at e1
  have lz : (zl ((a.natAbs * 10 ^ v : Nat) : Int)).length ≤ 1000 + (v + 1) := by
    refine zl_len (Int.natCast_nonneg _) ?_
    rw [← e2, Int.pow_add]
    have h1 := dv_lt (by decide) (zl_can (a.natAbs : Int)).1
    rw [zl_dv (by omega)] at h1
    have h1 : (a.natAbs : Int) < (10000 : Int) ^ 1000 := Int.lt_of_lt_of_le h1 (pow_mono (by decide) hla)
    have h3 := dv_lt (by decide) (zl_can ((10 ^ v : Nat) : Int)).1
    rw [zl_dv (Int.natCast_nonneg _)] at h3
    have h3 : ((10 ^ v : Nat) : Int) < (10000 : Int) ^ (v + 1) := Int.lt_of_lt_of_le h3 (pow_mono (by decide) lp10)
    have hp := pow_pos' (show (0 : Int) < (10000 : Int) by decide) 1000
    have hq : (0 : Int) < ((10 ^ v : Nat) : Int) := by omega
    generalize ((10 ^ v : Nat) : Int) = T at *
    generalize ((10000 : Int) : Int) ^ 1000 = P at *
    generalize ((10000 : Int) : Int) ^ (v + 1) = Q at *
    exact Int.lt_of_le_of_lt (Int.mul_le_mul_of_nonneg_right (Int.le_of_lt h1) (Int.le_of_lt hq)) (Int.mul_lt_mul_of_pos_left h3 hp)
  have e3 := refDiv_eq ((a.natAbs * 10 ^ v : Nat) : Int) (b : Int) (Int.natCast_nonneg _) (by omega) (by omega) (by omega)
  have e4 : ((a.natAbs * 10 ^ v : Nat) : Int) / (b : Int) = ((a.natAbs * 10 ^ v / b : Nat) : Int) := by rw [Int.natCast_ediv]
  have e5 : ((a.natAbs * 10 ^ v : Nat) : Int) % (b : Int) = ((a.natAbs * 10 ^ v % b : Nat) : Int) := by rw [Int.natCast_emod]
  rw [e4, e5] at e3
  unfold m_triviumref09_Decimal_l1
  show bd (m_triviumref02_Bits (zl (b : Int))) _ = _
  rw [hB, bd_some, if_pos (decide_eq_true (by omega)), ten_eq v (by omega), bd_some]
  show bd (m_triviumref02_Mul (zl (a.natAbs : Int)) (zl ((10 ^ v : Nat) : Int))) (fun x7 => bd (m_triviumref02_Div x7 (zl (b : Int))) _) = _
  rw [e1, bd_some, e3, bd_some]
  dsimp only
  rw [neg_or_zl (Int.natCast_nonneg _)]
  by_cases hd : b ∣ a.natAbs * 10 ^ v
  · have hz := Nat.mod_eq_zero_of_dvd hd
    rw [hz, if_neg (by decide), if_pos hd]
    have hle : a.natAbs * 10 ^ v / b ≤ a.natAbs * 10 ^ v := Nat.div_le_self _ _
    have lx := zl_mono (x := ((a.natAbs * 10 ^ v / b : Nat) : Int)) (y := ((a.natAbs * 10 ^ v : Nat) : Int)) (Int.natCast_nonneg _) (by omega)
    generalize a.natAbs * 10 ^ v / b = x at *
    have hdd := dd_len x
    have hpl := padL_len v (Lib.decDigits x)
    have hput := putL_len v (padL v (Lib.decDigits x))
    rw [refText_eq2 x (by omega), bd_some, pad_loop v (by omega) (v + 1) (Lib.decDigits x) (by omega) (by omega), bd_some, put_eq v _ (by omega) (by omega)]
    show bd (if decide (a < 0) = true then bd (cat (bs [45]) _) fun x31 => some x31 else some _) _ = _
    rw [sign_eq (decide (a < 0)) _ (by omega)]
    rfl
  · have hz : 0 < a.natAbs * 10 ^ v % b := Nat.pos_of_ne_zero fun h => hd (Nat.dvd_of_mod_eq_zero h)
    have e6 : wi64 ((v : Int) + 1) = ((v + 1 : Nat) : Int) := by rw [wi64_eq (by omega) (by omega)]; omega
    rw [if_pos (decide_eq_true (by omega)), if_neg hd, e6]
theorem refDec_end (a : Int) (b B v : Nat) (hB : m_triviumref02_Bits (zl (b : Int)) = some (B : Int)) (hv : B < v) : m_triviumref09_Decimal_l1 (rQ a (b : Int)) (v : Int) = some (.inr (bs [], false)) := by
  unfold m_triviumref09_Decimal_l1
  show bd (m_triviumref02_Bits (zl (b : Int))) _ = _
  rw [hB, bd_some, if_neg (by rw [decide_eq_true_eq]; omega)]
/-- both ways tell the same -/
theorem decimal_both (K : Nat) (a : Int) (b : Nat) (hK : b < 2 ^ K) (hK2 : K ≤ 1000) (hb0 : 0 < b) (hl : (nl (b : Int)).length ≤ 300) (hla : (nl (a.natAbs : Int)).length ≤ 300) (hg : Nat.gcd a.natAbs b = 1) :
    ∃ o : Option Nat, m_ratio_Decimal (rI a (b : Int)) = some (match o with | some n => (bs (decL (decide (a < 0)) (a.natAbs * 10 ^ n / b) n), true) | none => (bs [], false)) ∧
      m_triviumref09_Decimal (rQ a (b : Int)) = some (match o with | some n => (bs (decL (decide (a < 0)) (a.natAbs * 10 ^ n / b) n), true) | none => (bs [], false)) ∧
      (∀ n, o = some n → b ∣ a.natAbs * 10 ^ n ∧ n ≤ K ∧ ∀ k, k < n → ¬ b ∣ a.natAbs * 10 ^ k) ∧ (o = none → ∀ n, ¬ b ∣ a.natAbs * 10 ^ n) := by
  obtain ⟨i, j, m, h1, h2, h3, h4, h5, h6⟩ := places_eq K b hb0 hK (by omega) (by omega)
  have r1 := rDecimal_eq K a b i j m hK2 hb0 (by omega) (by omega) hg h1 h2 h3 h4 h5 h6
  have lzb := zl_nl_len (x := (b : Int)) (by omega)
  have lza := zl_nl_len (x := (a.natAbs : Int)) (by omega)
  obtain ⟨B, hB, hB2, hB3⟩ := refBits_eq K b hK (by omega) (by omega)
  have key := fun n => tenths a.natAbs b i j m n h2 h3 h4 hg
  by_cases hm : m = 1
  · rw [if_pos hm] at r1
    refine ⟨some (max i j), r1, ?_, ?_, fun h => by cases h⟩
    · have hiB : i ≤ B := by
        have hle : 2 ^ i ≤ b := Nat.le_of_dvd hb0 ⟨_, h2⟩
        exact Nat.le_of_lt ((Nat.pow_lt_pow_iff_right (show 1 < 2 by decide)).1 (Nat.lt_of_le_of_lt hle hB2))
      have hjB : j ≤ B := by
        have hle : 5 ^ j ≤ b := Nat.le_of_dvd hb0 ⟨2 ^ i * m, by rw [h2, Nat.mul_left_comm]⟩
        have hle2 : 2 ^ j ≤ 5 ^ j := Nat.pow_le_pow_left (by decide) j
        exact Nat.le_of_lt ((Nat.pow_lt_pow_iff_right (show 1 < 2 by decide)).1 (Nat.lt_of_le_of_lt (Nat.le_trans hle2 hle) hB2))
      have run : ∀ (k v : Nat), v + k = max i j → lp (m_triviumref09_Decimal_l1 (rQ a (b : Int))) (v : Int) = some (bs (decL (decide (a < 0)) (a.natAbs * 10 ^ max i j / b) (max i j)), true) := by
        intro k
        induction k with
        | zero =>
          intro v hv
          have hvv : v = max i j := by omega
          rw [hvv]
          refine lp_done ?_
          rw [refDec_step K a b B (max i j) hK2 hb0 (by omega) (by omega) hB (by omega) hB3, if_pos ((key _).2 ⟨hm, by omega, by omega⟩)]
        | succ k ih =>
          intro v hv
          rw [lp_more (s' := ((v + 1 : Nat) : Int)) (by rw [refDec_step K a b B v hK2 hb0 (by omega) (by omega) hB (by omega) hB3, if_neg (fun h => by have := (key _).1 h; omega)])]
          exact ih (v + 1) (by omega)
      unfold m_triviumref09_Decimal
      exact run (max i j) 0 (by omega)
    · intro n hn
      cases hn
      refine ⟨(key _).2 ⟨hm, by omega, by omega⟩, by omega, fun k hk h => ?_⟩
      have := (key _).1 h
      omega
  · rw [if_neg hm] at r1
    refine ⟨none, r1, ?_, fun n h => (by cases h), fun _ n h => hm ((key n).1 h).1⟩
    have run : ∀ (k v : Nat), v + k = B + 1 → lp (m_triviumref09_Decimal_l1 (rQ a (b : Int))) (v : Int) = some (bs [], false) := by
      intro k
      induction k with
      | zero =>
        intro v hv
        exact lp_done (refDec_end a b B v hB (by omega))
      | succ k ih =>
        intro v hv
        rw [lp_more (s' := ((v + 1 : Nat) : Int)) (by rw [refDec_step K a b B v hK2 hb0 (by omega) (by omega) hB (by omega) hB3, if_neg (fun h => hm ((key _).1 h).1)])]
        exact ih (v + 1) (by omega)
    unfold m_triviumref09_Decimal
    exact run (B + 1) 0 (by omega)
/-! the product of fractions -/
theorem rMul_eq {n : Nat} (a b c d : Int) (hb : 0 < b) (hd : 0 < d) (h1 : Lm n a) (h2 : Lm n b) (h3 : Lm n c) (h4 : Lm n d) (hn : n ≤ 10000) : m_rat_Mul (rI a b) (rI c d) = some (rI (a * c / Int.gcd (a * c) (b * d)) (b * d / Int.gcd (a * c) (b * d))) := by
  have lb := h2.len' (by omega)
  have ld := h4.len' (by omega)
  unfold m_rat_Mul
  show bd (m_whole_Mul (zI a) (zI c)) (fun x1 => bd (m_rat_up (rI a b)) fun x3 => bd (m_rat_up (rI c d)) _) = _
  rw [wMulN_eq a c h1 h3 (by omega), bd_some, rUp_eq a b (by omega) (by omega), bd_some, rUp_eq c d (by omega) (by omega), bd_some, wMulN_eq b d h2 h4 (by omega), bd_some, rMake_eq (n := n + n) _ _ (Int.mul_pos hb hd) (h1.mul h3) (h2.mul h4) (by omega), bd_some]
theorem refMulQ_eq {n : Nat} (a b c d : Int) (hb : 0 < b) (hd : 0 < d) (h1 : Sm n a) (h2 : Sm n b) (h3 : Sm n c) (h4 : Sm n d) (hn : n ≤ 1000000) : m_triviumref08_Mul (rQ a b) (rQ c d) = some (rQ (a * c / Int.gcd (a * c) (b * d)) (b * d / Int.gcd (a * c) (b * d))) := by
  have lb := h2.len' (by omega)
  have ld := h4.len' (by omega)
  have l1 := (h1.mul h3).len
  have l2 := (h2.mul h4).len' (Int.le_of_lt (Int.mul_pos hb hd))
  unfold m_triviumref08_Mul
  show bd (m_triviumref07_Mul (zZ a) (zZ c)) (fun x1 => bd (m_triviumref02_Mul (zl b) (zl d)) _) = _
  rw [ref07Mul_eq a c h1 h3 (by omega) (by omega), bd_some, refMul_eq b d (by omega) (by omega) (by omega) (by omega), bd_some, ref08Low_eq _ _ (Int.mul_pos hb hd) (by omega) (by omega), bd_some]
theorem rSame_eq (a b : Int) (hb : 0 ≤ b) (h1 : (nl (a.natAbs : Int)).length ≤ 1000000) (h2 : (nl b).length ≤ 1000000) : m_rat_Same (rI a b) (rI a b) = some true := by
  have s0 : ∀ x : Int, sg (x - x) = 0 := fun x => by rw [Int.sub_self]; rfl
  unfold m_rat_Same rI zI
  dsimp only
  rw [if_pos (by simp), cmpN_eq _ _ (by omega) (by omega) (by omega), bd_some, s0, if_pos (by rfl), cmpN_eq _ _ hb hb (by omega), bd_some, s0]
  rfl
end Go.Proofs.YtfboepeadeafmaaGreatDoor.AP
/- Fractions: the chapter's example; what is printed is read; the plain laws. -/
namespace Go.Proofs.YtfboepeadeafmaaGreatDoor.AP
open Go Go.Proofs.YtfboepeadeafmaaGreatDoor.Tri
set_option linter.unusedVariables false
set_option linter.unusedSimpArgs false
set_option maxRecDepth 4000
theorem nl1 (x : Int) (h0 : 0 ≤ x) (h1 : x < 4294967296) : (nl x).length ≤ 1 := nl_len h0 (by rw [Int.pow_one]; exact h1)
theorem zl3 (x : Int) (h0 : 0 ≤ x) (h1 : x < 4294967296) : (zl x).length ≤ 3 := zl_len h0 (by have : (10000 : Int) ^ 3 = 1000000000000 := (by decide); omega)
theorem works09 : m_triviumlaw09_works = some true := by
  have p1 := rParse_eq [49, 50, 46, 53, 37] (by decide)
  have p2 := rParse_eq [49, 47, 56] (by decide)
  have q1 : prs [49, 50, 46, 53, 37] = .inr (125, 1000) := by rfl
  have q2 : prs [49, 47, 56] = .inr (1, 8) := by rfl
  rw [q1] at p1
  rw [q2] at p2
  have p1 : m_ratio_Parse (bs [49, 50, 46, 53, 37]) = some (rI 1 8, 0) := p1
  have p2 : m_ratio_Parse (bs [49, 47, 56]) = some (rI 1 8, 0) := p2
  have l1 := nl1 1 (by decide) (by decide)
  have l8 := nl1 8 (by decide) (by decide)
  obtain ⟨o, d1, -, d3, d4⟩ := decimal_both 10 1 8 (by decide) (by decide) (by decide) (by show (nl 8).length ≤ _; omega) (by show (nl 1).length ≤ _; omega) (by decide)
  have ho : o = some 3 := by
    cases o with
    | none => exact absurd ⟨125, by decide⟩ (d4 rfl 3)
    | some n =>
      obtain ⟨e1, -, e3⟩ := d3 n rfl
      have hn : n ≤ 3 := by
        apply Nat.le_of_not_lt
        intro h
        exact e3 3 h ⟨125, by decide⟩
      have : n = 0 ∨ n = 1 ∨ n = 2 ∨ n = 3 := by omega
      rcases this with rfl | rfl | rfl | rfl
      · revert e1; decide
      · revert e1; decide
      · revert e1; decide
      · rfl
  subst ho
  have hdec : Lib.decDigits 125 = [49, 50, 53] := by
    rw [Lib.decDigits, dif_neg (by decide), Lib.decDigits_two (by decide) (by decide)]; rfl
  have hd : decL (decide ((1 : Int) < 0)) ((1 : Int).natAbs * 10 ^ 3 / 8) 3 = [48, 46, 49, 50, 53] := by
    show decL false 125 3 = _
    unfold decL
    rw [hdec]; rfl
  have d1 : m_ratio_Decimal (rI 1 8) = some (bs (decL (decide ((1 : Int) < 0)) ((1 : Int).natAbs * 10 ^ 3 / 8) 3), true) := d1
  rw [hd] at d1
  have s1 := rSame_eq 1 8 (by decide) (by show (nl 1).length ≤ _; omega) (by omega)
  have z1 := zl3 1 (by decide) (by decide)
  have z8 := zl3 8 (by decide) (by decide)
  have pr := ratioPrint_eq 1 8 (by decide) (by show (zl 1).length ≤ _; omega) (by omega)
  have ht : rtL 1 8 = [49, 47, 56] := by
    unfold rtL zsL
    rw [if_neg (by decide), if_neg (by decide)]
    show Lib.decDigits 1 ++ 47 :: Lib.decDigits 8 = _
    rw [Lib.decDigits_one (by decide), Lib.decDigits_one (by decide)]; rfl
  rw [ht] at pr
  unfold m_triviumlaw09_works
  rw [p1, bd_some, p2, bd_some]
  show bd (m_ratio_Decimal (rI 1 8)) (fun x5 => if decide ((0 : Int) = 0) = true then if decide ((0 : Int) = 0) = true then bd (m_rat_Same (rI 1 8) (rI 1 8)) (fun x9 => if x9 = true then bd (m_ratio_Print (rI 1 8)) _ else _) else _ else _) = _
  rw [d1, bd_some, if_pos (by decide), if_pos (by decide), s1, bd_some, if_pos rfl, pr, bd_some, sq_self, if_pos rfl, sq_self, if_pos rfl]
/-! any text -/
/-! what is printed -/
theorem decL_len (neg : Bool) (x n M : Nat) (hx : x < 10 ^ M) (hn : n < M) : (decL neg x n).length ≤ M + 2 := by
  have h1 := dd_pow x M hx (by omega)
  have h2 := padL_len n (Lib.decDigits x)
  have h3 := putL_len n (padL n (Lib.decDigits x))
  unfold decL
  split
  · rw [List.length_cons]; omega
  · omega
/-- a text, or none -/
def dres (o : Option Nat) (f : Nat → List UInt8) : ByteArray × Bool := match o with | some n => (bs (f n), true) | none => (bs [], false)
/-- a fraction that is clean, of two limbs: as Decimal and Percent tell it -/
theorem dec_facts (a : Int) (b : Nat) (hb0 : 0 < b) (hb : (b : Int) < (4294967296 : Int) ^ 2) (ha : (a.natAbs : Int) < (4294967296 : Int) ^ 3) (hg : Int.gcd a (b : Int) = 1) :
    ∃ o : Option Nat, m_ratio_Decimal (rI a (b : Int)) = some (dres o fun n => decL (decide (a < 0)) (a.natAbs * 10 ^ n / b) n) ∧
      m_triviumref09_Decimal (rQ a (b : Int)) = some (dres o fun n => decL (decide (a < 0)) (a.natAbs * 10 ^ n / b) n) ∧
      ∀ n, o = some n → b ∣ a.natAbs * 10 ^ n ∧ n ≤ 64 ∧ (decL (decide (a < 0)) (a.natAbs * 10 ^ n / b) n).length ≤ 100 := by
  have e2 : (4294967296 : Int) ^ 2 = 18446744073709551616 := by decide
  have e3 : (4294967296 : Int) ^ 3 = 79228162514264337593543950336 := by decide
  obtain ⟨o, d1, d2, d3, d4⟩ := decimal_both 64 a b (by have : (2 : Nat) ^ 64 = 18446744073709551616 := (by decide); omega) (by decide) hb0 (by have := nl_len (x := (b : Int)) (n := 2) (by omega) hb; omega) (by have := nl_len (x := (a.natAbs : Int)) (n := 3) (by omega) ha; omega) (by
    have : Int.gcd a (b : Int) = Nat.gcd a.natAbs b := rfl
    rw [← this]; exact hg)
  refine ⟨o, by rw [d1]; cases o <;> rfl, by rw [d2]; cases o <;> rfl, fun n hn => ?_⟩
  obtain ⟨f1, f2, f3⟩ := d3 n hn
  refine ⟨f1, f2, ?_⟩
  refine decL_len _ _ _ 98 ?_ (by omega)
  have h1 : a.natAbs * 10 ^ n / b ≤ a.natAbs * 10 ^ n := Nat.div_le_self _ _
  have h2 : a.natAbs * 10 ^ n ≤ a.natAbs * 10 ^ 64 := Nat.mul_le_mul_left _ (Nat.pow_le_pow_right (by decide) f2)
  have h3 : a.natAbs < 10 ^ 30 := by
    have : (10 : Nat) ^ 30 = 1000000000000000000000000000000 := by decide
    omega
  have h4 : a.natAbs * 10 ^ 64 < 10 ^ 30 * 10 ^ 64 := Nat.mul_lt_mul_of_pos_right h3 (Nat.pow_pos (by decide))
  rw [← Nat.pow_add] at h4
  have h5 : (10 : Nat) ^ (30 + 64) ≤ 10 ^ 98 := Nat.pow_le_pow_right (by decide) (by decide)
  omega
/-- a hundred times a fraction, in lowest terms -/
theorem hund (a : Int) (b : Nat) (hb0 : 0 < b) (hb : (b : Int) < (4294967296 : Int) ^ 2) (ha : (a.natAbs : Int) < (4294967296 : Int) ^ 2) : ∃ (A : Int) (B : Nat), a * 100 / (Int.gcd (a * 100) ((b : Int) * 1) : Int) = A ∧ (b : Int) * 1 / (Int.gcd (a * 100) ((b : Int) * 1) : Int) = (B : Int) ∧ 0 < B ∧ (B : Int) < (4294967296 : Int) ^ 2 ∧ (A.natAbs : Int) < (4294967296 : Int) ^ 3 ∧ Int.gcd A (B : Int) = 1 ∧ A.natAbs * b = a.natAbs * 100 * B ∧ (decide (A < 0) = decide (a < 0)) := by
  have hbz : (b : Int) * 1 ≠ 0 := by omega
  have hgp : 0 < Int.gcd (a * 100) ((b : Int) * 1) := Int.gcd_pos_of_ne_zero_right _ hbz
  have hB0 : 0 ≤ (b : Int) * 1 / (Int.gcd (a * 100) ((b : Int) * 1) : Int) := Int.ediv_nonneg (by omega) (by omega)
  have hco := Int.gcd_ediv_gcd_ediv_gcd (i := a * 100) (j := (b : Int) * 1) hgp
  have d1 : (Int.gcd (a * 100) ((b : Int) * 1) : Int) ∣ a * 100 := Int.gcd_dvd_left _ _
  have d2 : (Int.gcd (a * 100) ((b : Int) * 1) : Int) ∣ (b : Int) * 1 := Int.gcd_dvd_right _ _
  have hbpos : 0 < (b : Int) * 1 / (Int.gcd (a * 100) ((b : Int) * 1) : Int) := Int.ediv_pos_of_pos_of_dvd (by omega) (by omega) d2
  have hble : (b : Int) * 1 / (Int.gcd (a * 100) ((b : Int) * 1) : Int) ≤ (b : Int) * 1 := Int.ediv_le_self _ (by omega)
  have hale : (a * 100 / (Int.gcd (a * 100) ((b : Int) * 1) : Int)).natAbs ≤ (a * 100).natAbs := Int.natAbs_ediv_le_natAbs _ _
  have m1 := Int.mul_ediv_cancel' d1
  have m2 := Int.mul_ediv_cancel' d2
  have hs : (decide (a * 100 / (Int.gcd (a * 100) ((b : Int) * 1) : Int) < 0) = decide (a < 0)) := by
    rw [decide_eq_decide]
    generalize a * 100 / (Int.gcd (a * 100) ((b : Int) * 1) : Int) = A at *
    have hgi : 0 < (Int.gcd (a * 100) ((b : Int) * 1) : Int) := by omega
    generalize (Int.gcd (a * 100) ((b : Int) * 1) : Int) = g at *
    constructor
    · intro h
      have : g * A < 0 := Int.mul_neg_of_pos_of_neg hgi h
      omega
    · intro h
      apply Int.lt_of_not_ge
      intro h2
      have : 0 ≤ g * A := Int.mul_nonneg (by omega) h2
      omega
  obtain ⟨B, hB⟩ := Int.eq_ofNat_of_zero_le hB0
  refine ⟨_, B, rfl, hB, by omega, by omega, ?_, by rw [← hB]; exact hco, ?_, hs⟩
  · have e2 : (4294967296 : Int) ^ 2 = 18446744073709551616 := by decide
    have e3 : (4294967296 : Int) ^ 3 = 79228162514264337593543950336 := by decide
    omega
  · rw [hB] at m2
    have h1 : (a * 100 / (Int.gcd (a * 100) ((b : Int) * 1) : Int)) * (b : Int) = a * 100 * (B : Int) := by
      generalize a * 100 / (Int.gcd (a * 100) ((b : Int) * 1) : Int) = A at *
      generalize (Int.gcd (a * 100) ((b : Int) * 1) : Int) = g at *
      rw [← m1, show (b : Int) = g * (B : Int) by omega]
      grind
    have h2 := congrArg Int.natAbs h1
    rw [Int.natAbs_mul, Int.natAbs_mul, Int.natAbs_mul, Int.natAbs_natCast, Int.natAbs_natCast] at h2
    exact h2
theorem rOf100 : m_rat_Of 100 = some (rI 100 1) := by
  unfold m_rat_Of m_rat_one m_whole_Of
  rw [if_neg (by decide), show wu64 100 = 100 from wu64_eq (by decide) (by decide), natOf_eq 100 (by decide) (by decide), bd_some, wMade_eq _ _ (by decide) (by rw [nl_one (by decide) (by decide)]; decide), bd_some, if_neg (by decide), natOf_eq 1 (by decide) (by decide)]
  rfl
theorem num100 : m_triviumref08_Num 100 1 = some (rQ 100 1) := by
  have := ref08Num_eq 100 1 (by decide) (by decide) (by decide) (by decide)
  exact this
theorem percent_facts (a : Int) (b : Nat) (hb0 : 0 < b) (hb : (b : Int) < (4294967296 : Int) ^ 2) (ha : (a.natAbs : Int) < (4294967296 : Int) ^ 2) :
    ∃ (A : Int) (B : Nat), m_rat_Mul (rI a (b : Int)) (rI 100 1) = some (rI A (B : Int)) ∧ m_triviumref08_Mul (rQ a (b : Int)) (rQ 100 1) = some (rQ A (B : Int)) ∧ 0 < B ∧ (B : Int) < (4294967296 : Int) ^ 2 ∧ (A.natAbs : Int) < (4294967296 : Int) ^ 3 ∧ Int.gcd A (B : Int) = 1 ∧ A.natAbs * b = a.natAbs * 100 * B ∧ (decide (A < 0) = decide (a < 0)) := by
  obtain ⟨A, B, h1, h2, h3⟩ := hund a b hb0 hb ha
  have e2 : (4294967296 : Int) ^ 2 = 18446744073709551616 := by decide
  have lb : Lm 2 (b : Int) := by unfold Lm; rw [show (((b : Int).natAbs : Nat) : Int) = (b : Int) by omega]; exact hb
  have l100 : Lm 2 (100 : Int) := by unfold Lm; rw [e2]; decide
  have l1 : Lm 2 (1 : Int) := by unfold Lm; rw [e2]; decide
  have m1 := rMul_eq (n := 2) a (b : Int) 100 1 (by omega) (by decide) ha lb l100 l1 (by decide)
  have m2 := refMulQ_eq (n := 6) a (b : Int) 100 1 (by omega) (by decide) (Sm.limb (n := 2) ha) (Sm.limb (n := 2) lb) (Sm.limb (n := 2) l100) (Sm.limb (n := 2) l1) (by decide)
  rw [h1, h2] at m1 m2
  exact ⟨A, B, m1, m2, h3⟩
theorem ratioPrints_plain (p : D_api_Rat) (h1 : Limbs p.1.2) (h2 : Limbs p.2) (k1 : p.1.2.length ≤ 9223372036854775807) (k2 : p.2.length ≤ 9223372036854775807) : m_triviumlaw09_RatioPrints p = some true := by
  have c1 : m_triviumref08_Clean ((p.1.1, p.1.2), p.2) 2 = some (rI (cleanN p 2) (cleanD p 2)) := ref08Clean_eq p 2 h1 h2 (by decide) (by decide) k1 k2 (by decide)
  have hbp := cleanD_pos p 2
  have hbl := cleanD_lt p 2 (by decide)
  have hal := cleanN_lt p 2
  have hco := clean_coprime p 2
  generalize cleanN p 2 = a at *
  generalize cleanD p 2 = b' at *
  obtain ⟨b, rfl⟩ := Int.eq_ofNat_of_zero_le (Int.le_of_lt hbp)
  have e2 : (4294967296 : Int) ^ 2 = 18446744073709551616 := by decide
  have e3 : (4294967296 : Int) ^ 3 = 79228162514264337593543950336 := by decide
  have la := nl_len (x := (a.natAbs : Int)) (n := 2) (by omega) hal
  have lb := nl_len (x := (b : Int)) (n := 2) (by omega) hbl
  have za := zl_nl_len (x := (a.natAbs : Int)) (by omega)
  have zb := zl_nl_len (x := (b : Int)) (by omega)
  obtain ⟨o, d1, d2, d3⟩ := dec_facts a b (by omega) hbl (by omega) hco
  obtain ⟨A, B, m1, m2, f1, f2, f3, f4, f5, f6⟩ := percent_facts a b (by omega) hbl hal
  obtain ⟨o2, g1, g2, g3⟩ := dec_facts A B f1 f2 f3 f4
  have q1 : m_triviumref08_Of (rI a (b : Int)) = some (rQ a (b : Int)) := ref08Of_eq a (b : Int) (by omega) (by omega) (by omega)
  have pr1 := ratioPrint_eq a (b : Int) (by omega) (by omega) (by omega)
  have pr2 := ref09Print_eq a (b : Int) (by omega) (by omega) (by omega)
  have dg : m_ratio_Digits (rI a (b : Int)) = some (((bs (Lib.decDigits b)).size : Nat) : Int) := by
    unfold m_ratio_Digits m_digits_Count
    show bd (bd (m_digits_Print (nl (b : Int))) _) _ = _
    rw [digitsPrint_eq b (by omega), bd_some, bd_some]
  have tx2 := refText_eq2 b (by omega)
  have per : m_ratio_Percent (rI a (b : Int)) = some (dres o2 fun n => decL (decide (A < 0)) (A.natAbs * 10 ^ n / B) n ++ [37]) := by
    unfold m_ratio_Percent
    rw [rOf100, bd_some]
    show bd (m_rat_Mul (rI a (b : Int)) (rI 100 1)) _ = _
    rw [m1, bd_some, g1, bd_some]
    cases o2 with
    | none => rfl
    | some n =>
      have := (g3 n rfl).2.2
      show (if (!true) = true then _ else bd (cat (bs (decL (decide (A < 0)) (A.natAbs * 10 ^ n / B) n)) (bs [37])) fun x8 => some (x8, true)) = _
      rw [if_neg (by decide), cat_bs (by simp only [List.length_cons, List.length_nil]; omega), bd_some]
      rfl
  have v17 : (if (dres o2 fun n => decL (decide (A < 0)) (A.natAbs * 10 ^ n / B) n).2 = true then bd (cat (dres o2 fun n => decL (decide (A < 0)) (A.natAbs * 10 ^ n / B) n).1 (bs [37])) fun x19 => some x19 else some (dres o2 fun n => decL (decide (A < 0)) (A.natAbs * 10 ^ n / B) n).1) = some (dres o2 fun n => decL (decide (A < 0)) (A.natAbs * 10 ^ n / B) n ++ [37]).1 := by
    cases o2 with
    | none => rfl
    | some n =>
      have := (g3 n rfl).2.2
      show (if true = true then bd (cat (bs (decL (decide (A < 0)) (A.natAbs * 10 ^ n / B) n)) (bs [37])) fun x19 => some x19 else _) = _
      rw [if_pos rfl, cat_bs (by simp only [List.length_cons, List.length_nil]; omega), bd_some]
      rfl
  have hP2 : (dres o2 fun n => decL (decide (A < 0)) (A.natAbs * 10 ^ n / B) n ++ [37]).2 = (dres o2 fun n => decL (decide (A < 0)) (A.natAbs * 10 ^ n / B) n).2 := by cases o2 <;> rfl
  generalize (dres o2 fun n => decL (decide (A < 0)) (A.natAbs * 10 ^ n / B) n ++ [37]) = P2 at *
  generalize (dres o2 fun n => decL (decide (A < 0)) (A.natAbs * 10 ^ n / B) n) = D2 at *
  generalize (dres o fun n => decL (decide (a < 0)) (a.natAbs * 10 ^ n / b) n) = D1 at *
  unfold m_triviumlaw09_RatioPrints
  rw [c1, bd_some]
  show bd (m_triviumref08_Of (rI a (b : Int))) (fun x3 => bd (m_ratio_Decimal (rI a (b : Int))) fun x5 => bd (m_triviumref09_Decimal x3) fun x7 => bd (m_ratio_Percent (rI a (b : Int))) fun x9 => bd (m_triviumref08_Num 100 1) fun x11 => bd (m_triviumref08_Mul x3 x11) fun x13 => bd (m_triviumref09_Decimal x13) fun x15 =>
    bd (if x15.2 = true then bd (cat x15.1 (bs [37])) fun x19 => some x19 else some x15.1) fun v17 => bd (m_ratio_Print (rI a (b : Int))) fun x21 => bd (m_triviumref09_Print x3) fun x23 => if sq x21 x23 = true then if sq x5.1 x7.1 = true then if (x5.2 == x7.2) = true then if sq x9.1 v17 = true then if (x9.2 == x15.2) = true then
      bd (m_ratio_Digits (rI a (b : Int))) (fun x30 => bd (m_triviumref02_Text x3.2) _) else _ else _ else _ else _ else _) = _
  rw [q1, bd_some, d1, bd_some, d2, bd_some, per, bd_some, num100, bd_some, m2, bd_some, g2, bd_some, v17, bd_some, pr1, bd_some, pr2, bd_some, sq_self, if_pos rfl, sq_self, if_pos rfl, if_pos (by simp), sq_self, if_pos rfl, if_pos (by rw [hP2]; simp), dg, bd_some]
  show bd (m_triviumref02_Text (zl (b : Int))) _ = _
  rw [tx2, bd_some, if_pos (decide_eq_true rfl), works09, bd_some]
end Go.Proofs.YtfboepeadeafmaaGreatDoor.AP
/- RatioPrints: the plain law, of all that may be handed in. -/
namespace Go.Proofs.YtfboepeadeafmaaGreatDoor.Pure
open Go Go.Proofs.YtfboepeadeafmaaGreatDoor.AP Go.Proofs.YtfboepeadeafmaaGreatDoor.AE
theorem RatioPrints (y0 : D_api_Rat) (h0 : Ty.ok Y_api_Rat y0) : m_triviumlaw09_RatioPrints y0 = some true :=
  ratioPrints_plain y0 (u64lim h0.1.2) (u64lim h0.2) h0.1.2.1 h0.2.1
end Go.Proofs.YtfboepeadeafmaaGreatDoor.Pure
/- The law RatioPrints holds of every input: the row, and its card. -/
namespace Go.Proofs.YtfboepeadeafmaaGreatDoor.ratioPrints
open Go.ChangeShapes Go.WideShapes Go.ChangeAt Go.RowKit
set_option linter.unusedVariables false
theorem own : ownKnob Tryz.prog.godebug = none := by kernel_rfl
theorem laidOut : laidOutB Tryz.prog = true := by kernel_rfl
theorem table {W : World} (h : laidMet Tryz.prog Rows.ratioPrintsRow.laid W) : AE.Glo W := trivial
set_option maxRecDepth 100000 in
theorem lifted (os : Os) (started : os.Started) (H : Type) (enc : TypeId × Value → H) :
    ReturnsInHanded {} Tryz.checked os 5 .any (fun w args => (Rows.ratioPrintsSpec.pre enc Tryz.prog Tryz.f5 [] false w args ∧ laidMetH Tryz.prog Rows.ratioPrintsRow.laid w) ∧ sizedMet enc Tryz.prog Tryz.f5 (OpenSpec.ofChange Rows.ratioPrintsSpec) false w args)
      (Rows.ratioPrintsSpec.post enc Tryz.prog Tryz.f5 false true false false) := by
  refine returnsInHanded_of_change_and (C := Tryz.checked) (X := fun w _ => laidMetH Tryz.prog Rows.ratioPrintsRow.laid w) (fun _ _ _ hh h => h.of_heap hh) own started (by kernel_rfl) Tryz.func5
    (ChangeSpec.witness_shaped (enc := enc) (C := Tryz.checked) (os := os) (X := fun w _ => laidMetH Tryz.prog Rows.ratioPrintsRow.laid w) false (World.laidAll Tryz.prog os Rows.ratioPrintsRow.laid) #[.agg #[.bool false, .slice none 0 0, .slice none 0 0]] 8 (World.laidAll_os _ _ _)
      (World.shaped_of_ZipB (by kernel_rfl) (by kernel_rfl)) (by kernel_rfl) (by kernel_rfl) (by kernel_rfl)
      (by rw [MakeChecks.laidMetH_plain _ _ _ (by kernel_rfl)]; exact laidMet_laidAll _ (by kernel_rfl) (by kernel_rfl))) ?_
  intro W base args ds gs before hval0 hW _ hsz0 hL0 _
  have hL : laidMet Tryz.prog Rows.ratioPrintsRow.laid W := by rw [MakeChecks.laidMetH_plain _ _ _ (by kernel_rfl)] at hL0; exact hL0
  clear hsz0
  have hval : ∀ (j : Nat) t v, Tryz.f5.params[j]? = some t → args[j]? = some v → Value.okWide Tryz.prog W .any base t v := hval0
  have hW' := hW
  obtain ⟨p, q, hA0, hV, rfl, hfz, hnd⟩ := hW
  have hA : DataW.TrodAll enc Tryz.prog W 0 (fun _ => true) true Tryz.f5.params.toList args.toList ds p := hA0
  rw [Tryz.params5] at hA hval
  obtain ⟨v0, vs0, d0, ds0, p0, q0, hargs, rfl, rfl, h0, r0⟩ := trodAll_cons hA
  obtain ⟨rfl, rfl, rfl⟩ := trodAll_nil r0
  obtain rfl : args = #[v0] := by cases args; simp_all
  obtain ⟨rfl, rfl⟩ := trodVars_none hV
  have lt0 : ∀ x ∈ p0, x.block < W.heap.size := by obtain ⟨m, hm⟩ := h0; exact DataW.trod_lt m _ _ _ hm
  obtain ⟨a0, o0, e0⟩ := AE.open_v (t := AE.Y_api_Rat) ⟨40, by kernel_rfl⟩ (hval 0 27 v0 rfl rfl) h0
  clear hA0 hval0
  have h := Pure.RatioPrints a0 o0
  have C := AE.law_calls (table hL) (AE.k_triviumlaw09_RatioPrints h) (W := W) (args := [v0]) ⟨v0, [], rfl, e0, rfl⟩
  refine C.mono fun e W' ⟨he, bel⟩ => ?_
  subst he
  exact ⟨_, rfl, _, _, _, [], _, [], hW', trodAll_mk1 (shut_bool Tryz.underlying4 _), (trodAll_cons_mk (Below.trod laidOut (by kernel_rfl) (of_decide_eq_true (by kernel_rfl)) h0 bel lt0) trodAll_mk0), rfl, bel.frame _, fun h => by cases h⟩
theorem over : Rows.ratioPrintsRow.holds Tryz.pinned (OpenSpec.ofChange Rows.ratioPrintsSpec) :=
  OpenClaim.holds_of_wide 5 Tryz.f5 rfl rfl rfl rfl rfl rfl rfl ⟨rfl, rfl, rfl, rfl, rfl⟩ rfl rfl rfl rfl rfl (by kernel_rfl) Tryz.func5 (by kernel_rfl)
    (of_decide_eq_true (by kernel_rfl)) (by unfold Func.isWrapper; first | (rw [if_pos (by decide +kernel)]; kernel_rfl) | (rw [if_neg (by decide +kernel)]; exact ⟨rfl, rfl⟩))
    (fun os started H enc _ => lifted os started H enc)
theorem proved : Rows.RatioPrintsSaid := over
theorem plain (f : FuncId) (fn : Func) (hf : Tryz.pinned.checked.prog.funcNamed "trivium/triviumlaw09.RatioPrints" = some f) (hfn : Tryz.pinned.checked.prog.funcs[f]? = some fn) :
    false = Tryz.pinned.checked.prog.looks [] ∧ ∀ (j : Nat) t, fn.params[j]? = some t → Tryz.pinned.checked.prog.wantsStandIn t = false := by
  obtain rfl : f = 5 := Option.some.inj ((show Tryz.prog.funcNamed "trivium/triviumlaw09.RatioPrints" = some 5 by kernel_rfl).symm.trans hf) |>.symm
  obtain rfl : fn = Tryz.f5 := (Option.some.inj (Tryz.func5.symm.trans hfn)).symm
  exact ⟨by kernel_rfl, fun j t ht => by
    rw [Tryz.params5] at ht
    have hm : t ∈ [27] := by simpa using Array.mem_of_getElem? ht
    have hall : ([27].all fun u => !Tryz.prog.wantsStandIn u) = true := by kernel_rfl
    exact (show Tryz.prog.wantsStandIn t = false by simpa using List.all_eq_true.1 hall t hm)⟩
theorem card : Rows.RatioPrintsCardSaid :=
  Claim7.holds_tied_plain_at .later [] _ _ _ _ proved (fun _ h => by cases h) (by kernel_rfl) (fun _ h => by cases h) ratioPrints_row_tie rfl ⟨rfl, rfl⟩ (by kernel_rfl) rfl plain (by kernel_rfl)
#print axioms card
end Go.Proofs.YtfboepeadeafmaaGreatDoor.ratioPrints
namespace Go.Proofs.YtfboepeadeafmaaGreatDoor
/-- The statement, under a short name, for the claim. -/
theorem ratioPrints_holds : Rows.RatioPrintsCardSaid := ratioPrints.card
end Go.Proofs.YtfboepeadeafmaaGreatDoor
