/- The law AskreadBehind holds of every input: the row, and its card. -/
import Derived.Test.YtboghejfmmigkaaDoorQAB24
import Derived.Test.YtboghejfmmigkaaDoorQAB23
import Derived.Lib.Join
import Derived.Lib.SmallJoins
import Derived.Lib.AppendIntMem
import Derived.Lib.ItoaLen
import Derived.Laws.BitsAllLaws
import Derived.KernelRfl
import Derived.Lib.Bytealg
import Derived.Test.YtboghejfmmigkaaDoorCards
import Derived.Test.YtboghejfmmigkaaDoorTie
import Derived.WalkKit
import Derived.ProofKit
import Derived.OpenShut
import Derived.ShutString
import Derived.ChangeOld
import Derived.Below
import Derived.Lay
import Derived.SevenTiedAt
import Derived.Lib.LaidTab
import Derived.Lib.LaidU8
import Derived.Stop.LaidErr
import Derived.LaidMore
/- Texts: put together, joined, printed numbers. -/
namespace Go.Proofs.YtboghejfmmigkaaDoor.AP
open Go
set_option linter.unusedVariables false
set_option linter.unusedSimpArgs false
theorem data_bs (l : List UInt8) : (bs l).data.toList = l := rfl
theorem bs_data (s : ByteArray) : bs s.data.toList = s := rfl
theorem bs_size (l : List UInt8) : (bs l).size = l.length := rfl
theorem bs_append (a b : List UInt8) : bs a ++ bs b = bs (a ++ b) := by
  apply ByteArray.ext
  apply Array.toList_inj.1
  rw [ByteArray.data_append]
  simp [bs]
/-- The same text. -/
theorem sq_self (a : ByteArray) : sq a a = true := by unfold sq; simp
theorem sq_bs {a b : List UInt8} : sq (bs a) (bs b) = decide (a = b) := by
  unfold sq
  rw [toList_data, toList_data, data_bs, data_bs]
  by_cases h : a = b
  · subst h; simp
  · rw [decide_eq_false h]; simp [h]
theorem cat_bs {a b : List UInt8} (h : a.length + b.length ≤ 9223372036854775807) : cat (bs a) (bs b) = some (bs (a ++ b)) := by
  unfold cat
  rw [if_pos (by rw [bs_size, bs_size]; exact h), bs_append]
/-! numbers by ten, the document's way -/
def catI {α : Type} (g : Nat → α → List UInt8) : Nat → List α → List UInt8
  | _, [] => []
  | i, x :: l => g i x ++ catI g (i + 1) l
/-! bytes in a builder -/
def i8 (l : List UInt8) : List Int := l.map fun b => (b.toNat : Int)
theorem apS_i8 (a b : List UInt8) (h : a.length + b.length ≤ 140737488355328) : apS_ (i8 a) (bs b) = some (i8 (a ++ b)) := by
  unfold apS_ i8
  rw [if_pos (by rw [List.length_map, bs_size]; exact h), List.map_append]
  rfl
theorem ust_i8 (l : List UInt8) (h : l ≠ []) : ust (i8 l) = some (bs l) := by
  unfold ust
  rw [if_pos]
  · congr 1
    unfold tx bs i8
    rw [List.map_map]
    congr 1
    apply Array.toList_inj.1
    simp only [List.toList_toArray]
    have : ∀ l : List UInt8, l.map ((fun n : Int => UInt8.ofNat n.toNat) ∘ fun b => (b.toNat : Int)) = l := by
      intro l
      induction l with
      | nil => rfl
      | cons x l ih => rw [List.map_cons, ih]; congr 1; simp
    exact this l
  · refine ⟨by cases l with | nil => exact absurd rfl h | cons x l => exact List.cons_ne_nil _ _, ?_⟩
    apply List.all_eq_true.2
    intro z hz
    unfold i8 at hz
    obtain ⟨b, _, rfl⟩ := List.mem_map.1 hz
    have := b.toNat_lt
    rw [Bool.and_eq_true]
    exact ⟨decide_eq_true (by omega), decide_eq_true (by omega)⟩
end Go.Proofs.YtboghejfmmigkaaDoor.AP
/- The document's numbers, as printed: what they come to. -/
namespace Go.Proofs.YtboghejfmmigkaaDoor.AP
open Go Go.Proofs.YtboghejfmmigkaaDoor.Tri
set_option linter.unusedVariables false
set_option linter.unusedSimpArgs false
theorem split_last {n : Nat} {a : List Int} (h : a.length = n + 1) : ∃ d x, a = d ++ [x] ∧ d.length = n := by
  have hne : a ≠ [] := by rintro rfl; simp at h
  obtain ⟨d, x, rfl⟩ := eq_snoc hne
  exact ⟨d, x, rfl, by simpa using h⟩
end Go.Proofs.YtboghejfmmigkaaDoor.AP
/- The document's numbers, as printed: compared, taken off, divided. -/
namespace Go.Proofs.YtboghejfmmigkaaDoor.AP
open Go Go.Proofs.YtboghejfmmigkaaDoor.Tri
set_option linter.unusedVariables false
set_option linter.unusedSimpArgs false
theorem take_gI' (B : Int) (l : List Int) (i : Nat) : dv B (l.take (i + 1)) = dv B (l.take i) + B ^ i * gI l (i : Int) := by
  by_cases h : i < l.length
  · exact take_gI B l i h
  · rw [List.take_of_length_le (by omega), List.take_of_length_le (by omega)]
    have : gI l (i : Int) = 0 := by unfold gI; rw [List.getD_eq_getElem?_getD, List.getElem?_eq_none (by omega)]; rfl
    rw [this]; simp
theorem set_down (q : List Int) (j : Nat) (v : Int) : (List.replicate (j + 1) 0 ++ q).set j v = List.replicate j 0 ++ v :: q := by
  rw [List.set_append_left _ _ (by simp), show List.replicate (j + 1) (0 : Int) = List.replicate j 0 ++ [0] from List.replicate_succ', List.set_append_right _ _ (by simp)]
  simp
end Go.Proofs.YtboghejfmmigkaaDoor.AP
/- The program's numbers, as printed: noughts, limbs, compared, added. -/
namespace Go.Proofs.YtboghejfmmigkaaDoor.AP
open Go Go.Proofs.YtboghejfmmigkaaDoor.Tri
set_option linter.unusedVariables false
set_option linter.unusedSimpArgs false
theorem trimN_loop (p0 : List Int) (hl : p0.length ≤ 4611686018427387904) : ∀ (n : Nat) (a b : List Int), a.length = n → p0 = a ++ b → ∃ k : Nat, lp (m_nat_trim_l1 p0) (n : Int) = some (k : Int) ∧ k ≤ n ∧ a.take k = trimz a
  | 0, a, b, h, hp => by
    have : a = [] := List.eq_nil_of_length_eq_zero h
    subst this
    exact ⟨0, by rw [lp_go]; simp [m_nat_trim_l1], Nat.le_refl _, rfl⟩
  | n + 1, a, b, h, hp => by
    obtain ⟨d, x, rfl, hd⟩ := split_last h
    have hlen : p0.length = n + 1 + b.length := by rw [hp]; simp [hd]; omega
    have hx : gI p0 (n : Int) = x := by rw [hp, List.append_assoc]; unfold gI; rw [List.getD_eq_getElem?_getD, List.getElem?_append_right (by simp [hd])]; simp [hd]
    have hstep : m_nat_trim_l1 p0 ((n + 1 : Nat) : Int) = if x = 0 then some (.inl (n : Int)) else some (.inr ((n + 1 : Nat) : Int)) := by
      have e1 : wi64 (((n + 1 : Nat) : Int) - 1) = (n : Int) := by rw [wi64_eq (by omega) (by omega)]; omega
      have e2 : rd p0 (n : Int) = some x := by rw [rd_I (by omega) (by omega), hx]
      have e3 : decide (0 < ((n + 1 : Nat) : Int)) = true := decide_eq_true (by omega)
      simp only [m_nat_trim_l1, e3, if_true, e1, e2, bd_some, decide_eq_true_eq]
    by_cases h0 : x = 0
    · subst h0
      rw [lp_more (by rw [hstep, if_pos rfl])]
      obtain ⟨k, h1, h2, h3⟩ := trimN_loop p0 hl n d ([0] ++ b) hd (by rw [hp]; simp)
      refine ⟨k, h1, by omega, ?_⟩
      rw [trimz_snoc_zero, ← h3, List.take_append_of_le_length (by omega)]
    · refine ⟨n + 1, lp_done (by rw [hstep, if_neg h0]), Nat.le_refl _, ?_⟩
      rw [List.take_of_length_le (by omega), trimz_of_top (Top.snoc.2 h0)]
theorem trimN_eq (a : List Int) (hl : a.length ≤ 4611686018427387904) : m_nat_trim a = some (trimz a) := by
  obtain ⟨k, h1, h2, h3⟩ := trimN_loop a hl a.length a [] rfl (by simp)
  unfold m_nat_trim
  rw [h1, bd_some, ct_of (by omega), bd_some]
  simp [h3]
theorem make_loop (p0 : List Int) (hd : Dig (4294967296 : Int) p0) (hl : p0.length ≤ 10000000000000) : ∀ (k i : Nat), i + k = p0.length → lp (m_nat_Make_l1 p0) ((i : Int), p0.take i) = some (trimz p0, 0)
  | 0, i, hk => by
    obtain rfl : i = p0.length := by omega
    refine lp_done ?_
    simp only [m_nat_Make_l1, List.take_length, trimN_eq p0 (by omega), bd_some]
    simp
  | k + 1, i, hk => by
    have g := gI_dig hd (by decide) (i : Int)
    have e1 : decide ((i : Int) < (p0.length : Int)) = true := decide_eq_true (by omega)
    have e2 : rd p0 (i : Int) = some (gI p0 (i : Int)) := rd_I (by omega) (by omega)
    have e3 : decide ((4294967296 : Int) ≤ gI p0 (i : Int)) = false := decide_eq_false (by omega)
    have e4 : wi64 ((i : Int) + 1) = ((i + 1 : Nat) : Int) := by rw [wi64_eq (by omega) (by omega)]; omega
    have e5 : ap 8 (p0.take i) [gI p0 (i : Int)] = some (p0.take (i + 1)) := by
      rw [ap_of (by simp; omega), List.take_add_one, List.getElem?_eq_getElem (by omega)]
      have : gI p0 (i : Int) = p0[i] := by simp [gI, show i < p0.length by omega]
      rw [this]; rfl
    rw [lp_more (s' := (((i + 1 : Nat) : Int), p0.take (i + 1))) (by simp only [m_nat_Make_l1, e1, if_true, e2, bd_some, e3, e5, e4]; rfl)]
    exact make_loop p0 hd hl k (i + 1) (by omega)
theorem make_dig (a : List Int) (hd : Dig (4294967296 : Int) a) (hl : a.length ≤ 10000000000000) : m_nat_Make a = some (trimz a, 0) := by
  unfold m_nat_Make
  rw [mk_of (by omega), bd_some]
  have := make_loop a hd hl a.length 0 (by omega)
  simpa using this
theorem make_nl (x : Int) (hl : (nl x).length ≤ 10000000000000) : m_nat_Make (nl x) = some (nl x, 0) := by
  rw [make_dig _ (nl_can x).1 hl, trimz_of_top (nl_can x).2]
theorem and_low (x : Int) (h0 : 0 ≤ x) (h1 : x < 18446744073709551616) : Go.bits .and .u64 x 4294967295 = x % 4294967296 := by
  rw [u64_and x _ h0 h1 (by omega) (by omega)]
  have : (4294967295 : Int).toNat = 2 ^ 32 - 1 := rfl
  rw [this, Nat.and_two_pow_sub_one_eq_mod]
  omega
theorem and_limb (x : Int) (h0 : 0 ≤ x) (h1 : x < (4294967296 : Int)) : Go.bits .and .u64 x 4294967295 = x := by
  rw [and_low x h0 (by omega)]; omega
theorem sr32 (x : Int) : sr .u64 x 32 = some (x / (4294967296 : Int)) := by
  unfold sr
  rw [if_pos (by decide)]
  have e : (2 : Int) ^ (min (32 : Int).toNat IntKind.u64.bits) = (4294967296 : Int) := by decide
  rw [e, Int.fdiv_eq_ediv_of_nonneg _ (by decide)]
theorem sh32 (x : Int) (h0 : 0 ≤ x) (h1 : x < (4294967296 : Int)) : sh .u64 x 32 = some (x * (4294967296 : Int)) := by
  unfold sh
  rw [if_pos (by decide)]
  have e : (2 : Int) ^ (min (32 : Int).toNat IntKind.u64.bits) = (4294967296 : Int) := by decide
  rw [e]
  congr 1
  exact wu64_eq (by omega) (by omega)
theorem or_low (x y : Int) (h0 : 0 ≤ x) (h1 : x < (4294967296 : Int)) (h2 : 0 ≤ y) (h3 : y < (4294967296 : Int)) : Go.bits .or .u64 (x * (4294967296 : Int)) y = x * (4294967296 : Int) + y := by
  rw [u64_or _ _ (by omega) (by omega) h2 (by omega)]
  obtain ⟨X, rfl⟩ := Int.eq_ofNat_of_zero_le h0
  obtain ⟨Y, rfl⟩ := Int.eq_ofNat_of_zero_le h2
  have e1 : ((X : Int) * (4294967296 : Int)).toNat = 2 ^ 32 * X := by omega
  rw [e1, Int.toNat_natCast, ← Nat.two_pow_add_eq_or_of_lt (by omega)]
  omega
theorem mul_bound {a b c d : Int} (ha : 0 ≤ a ∧ a < (4294967296 : Int)) (hb : 0 ≤ b ∧ b < (4294967296 : Int)) (hc : 0 ≤ c ∧ c < (4294967296 : Int)) (hd : 0 ≤ d ∧ d < (4294967296 : Int)) : 0 ≤ a * b ∧ a * b + c + d < (4294967296 : Int) * (4294967296 : Int) := by
  have h1 : 0 ≤ a * b := Int.mul_nonneg ha.1 hb.1
  have h2 : a * b ≤ ((4294967296 : Int) - 1) * ((4294967296 : Int) - 1) := by
    have h3 : a * b ≤ ((4294967296 : Int) - 1) * b := Int.mul_le_mul_of_nonneg_right (by omega) hb.1
    have h4 : ((4294967296 : Int) - 1) * b ≤ ((4294967296 : Int) - 1) * ((4294967296 : Int) - 1) := Int.mul_le_mul_of_nonneg_left (by omega) (by decide)
    omega
  refine ⟨h1, ?_⟩
  have e : (4294967296 - 1) * (4294967296 - 1) = (18446744065119617025 : Int) := by decide
  have e2 : 4294967296 * 4294967296 = (18446744073709551616 : Int) := by decide
  omega
theorem limbMul_eq (a b c d : Int) (ha : 0 ≤ a ∧ a < (4294967296 : Int)) (hb : 0 ≤ b ∧ b < (4294967296 : Int)) (hc : 0 ≤ c ∧ c < (4294967296 : Int)) (hd : 0 ≤ d ∧ d < (4294967296 : Int)) : m_limb_Mul a b c d = some ((a * b + c + d) % (4294967296 : Int), (a * b + c + d) / (4294967296 : Int)) := by
  unfold m_limb_Mul
  obtain ⟨h1, h2⟩ := mul_bound ha hb hc hd
  have e2 : 4294967296 * 4294967296 = (18446744073709551616 : Int) := by decide
  rw [and_limb a ha.1 ha.2, and_limb b hb.1 hb.2, and_limb c hc.1 hc.2, and_limb d hd.1 hd.2]
  have hc1 := hc.1
  have hd1 := hd.1
  generalize a * b = p at h1 h2
  rw [lt_eq, wu64_eq (x := p) (by omega) (by omega), wu64_eq (x := p + c) (by omega) (by omega), wu64_eq (x := p + c + d) (by omega) (by omega), sr32, bd_some, and_low _ (by omega) (by omega)]
theorem limbAdd_eq (a b c : Int) (ha : 0 ≤ a ∧ a < (4294967296 : Int)) (hb : 0 ≤ b ∧ b < (4294967296 : Int)) (hc : 0 ≤ c ∧ c < (4294967296 : Int)) : m_limb_Add a b c = some ((a + b + c) % (4294967296 : Int), (a + b + c) / (4294967296 : Int)) := by
  unfold m_limb_Add
  rw [and_limb a ha.1 ha.2, and_limb b hb.1 hb.2, and_limb c hc.1 hc.2]
  rw [lt_eq, wu64_eq (x := a + b) (by omega) (by omega), wu64_eq (x := a + b + c) (by omega) (by omega), sr32, bd_some, and_low _ (by omega) (by omega)]
theorem limbDiv_eq (h l d : Int) (hh : 0 ≤ h ∧ h < d) (hl : 0 ≤ l ∧ l < (4294967296 : Int)) (hd : 0 < d ∧ d < (4294967296 : Int)) : m_limb_Div h l d = some ((h * (4294967296 : Int) + l) / d, (h * (4294967296 : Int) + l) % d, 0) := by
  unfold m_limb_Div
  rw [and_limb h hh.1 (by omega), and_limb l hl.1 hl.2, and_limb d (by omega) hd.2]
  rw [lt_eq, if_neg (by simp; omega), lt_eq, if_neg (by simp; omega), sh32 h hh.1 (by omega), bd_some, or_low h l hh.1 (by omega) hl.1 hl.2, lt_eq, qdU (by omega) hd.1 (by omega), bd_some, rm_of (by omega) hd.1, bd_some]
theorem set_at {α : Type} (d : List α) (x y : α) (r : List α) : (d ++ x :: r).set d.length y = (d ++ [y]) ++ r := by simp
theorem made_eq (a : List Int) (hd : Dig (4294967296 : Int) a) (hl : a.length ≤ 10000000000000) : m_mul_made a = some (nl (dv (4294967296 : Int) a)) := by
  unfold m_mul_made
  rw [make_dig a hd hl, bd_some, trimz_nl hd rfl]
end Go.Proofs.YtboghejfmmigkaaDoor.AP
/- What is cleaned: numbers, fractions. -/
namespace Go.Proofs.YtboghejfmmigkaaDoor.AP
open Go Go.Proofs.YtboghejfmmigkaaDoor.Tri
set_option linter.unusedVariables false
set_option linter.unusedSimpArgs false
def Limbs (l : List Int) : Prop := ∀ x ∈ l, 0 ≤ x ∧ x < 18446744073709551616
def cleanL (l : List Int) (n : Nat) : List Int := trimz ((l.take n).map fun x => x % (4294967296 : Int))
def cleanV (l : List Int) (n : Nat) : Int := dv (4294967296 : Int) (cleanL l n)
end Go.Proofs.YtboghejfmmigkaaDoor.AP
/- A number divided by a limb. -/
namespace Go.Proofs.YtboghejfmmigkaaDoor.AP
open Go Go.Proofs.YtboghejfmmigkaaDoor.Tri
set_option linter.unusedVariables false
set_option linter.unusedSimpArgs false
theorem smallD_loop (x d : Int) (hx : 0 ≤ x) (hd0 : 0 < d) (hd1 : d < (4294967296 : Int)) (hl : (nl x).length ≤ 1000000000000) : ∀ (n i : Nat) (r : Int) (q : List Int), i + n = (nl x).length → 0 ≤ r → r < d → q.length = i → Dig (4294967296 : Int) q → dv (4294967296 : Int) ((nl x).drop n) = dv (4294967296 : Int) q * d + r →
    ∃ q', lp (m_divide_Small_l1 (nl x) d) (r, (i : Int), List.replicate n 0 ++ q) = some (x % d, q') ∧ q'.length = (nl x).length ∧ Dig (4294967296 : Int) q' ∧ dv (4294967296 : Int) q' = x / d
  | 0, i, r, q, hn, h0, h1, hq, hd, hv => by
    rw [List.drop_zero, nl_dv hx] at hv
    have e := Int.ediv_emod_unique (a := x) (b := d) (r := r) (q := dv (4294967296 : Int) q) hd0
    obtain ⟨e1, e2⟩ := e.2 ⟨by rw [hv, Int.mul_comm d]; omega, h0, h1⟩
    obtain rfl : i = (nl x).length := by omega
    exact ⟨q, lp_done (by simp [m_divide_Small_l1, e2]), by omega, hd, e1.symm⟩
  | n + 1, i, r, q, hn, h0, h1, hq, hd, hv => by
    have g := gI_dig (nl_can x).1 (by decide) (n : Int)
    generalize hs : r * (4294967296 : Int) + gI (nl x) (n : Int) = s
    have hs0 : 0 ≤ s := by omega
    have hsy : s < (4294967296 : Int) * d := by omega
    have hqd : s / d < 4294967296 := Int.ediv_lt_of_lt_mul hd0 hsy
    have hqd0 : 0 ≤ s / d := Int.ediv_nonneg hs0 (by omega)
    have a1 : decide ((i : Int) < ((nl x).length : Int)) = true := decide_eq_true (by omega)
    have a0 : wi64 ((wi64 (((nl x).length : Int) - 1)) - (i : Int)) = (n : Int) := by rw [wi64_eq (x := ((nl x).length : Int) - 1) (by omega) (by omega), wi64_eq (by omega) (by omega)]; omega
    have a2 : rd (nl x) (n : Int) = some (gI (nl x) (n : Int)) := rd_I (by omega) (by omega)
    have a3 := limbDiv_eq r (gI (nl x) (n : Int)) d ⟨h0, h1⟩ g ⟨hd0, hd1⟩
    rw [hs] at a3
    have a6 : ix (List.replicate (n + 1) 0 ++ q) (n : Int) = some n := ix_nat (by simp; omega)
    have b1 : wi64 ((i : Int) + 1) = ((i + 1 : Nat) : Int) := by rw [wi64_eq (by omega) (by omega)]; omega
    have e : m_divide_Small_l1 (nl x) d (r, (i : Int), List.replicate (n + 1) 0 ++ q) = some (.inl (s % d, ((i + 1 : Nat) : Int), List.replicate n 0 ++ (s / d) :: q)) := by
      simp only [m_divide_Small_l1, a1, if_true, a0, a2, bd_some, a3, a6, lt_eq, set_down, b1]
    rw [lp_more e]
    exact smallD_loop x d hx hd0 hd1 hl n (i + 1) (s % d) (s / d :: q) (by omega) (Int.emod_nonneg _ (by omega)) (Int.emod_lt_of_pos _ hd0) (by simp; omega) (Dig.cons ⟨hqd0, hqd⟩ hd) (by
      rw [drop_gI (nl x) n (by omega), dv_cons, dv_cons, hv]
      have := Int.mul_ediv_add_emod s d
      generalize s / d = t at *
      generalize s % d = u at *
      generalize gI (nl x) (n : Int) = gg at *
      subst hs
      have h9 : u = r * (4294967296 : Int) + gg - d * t := by omega
      subst h9
      grind)
theorem smallD_eq (x d : Int) (hx : 0 ≤ x) (hd0 : 0 < d) (hd1 : d < (4294967296 : Int)) (hl : (nl x).length ≤ 1000000000000) : m_divide_Small (nl x) d = some (nl (x / d), x % d, 0) := by
  obtain ⟨q', h1, h2, h3, h4⟩ := smallD_loop x d hx hd0 hd1 hl (nl x).length 0 0 [] (by omega) (Int.le_refl _) hd0 rfl (Dig.nil _) (by rw [List.drop_length]; simp [dv])
  unfold m_divide_Small
  have e : d % (4294967296 : Int) = d := Int.emod_eq_of_lt (by omega) hd1
  rw [rm_of (by omega) (by decide), bd_some, e, if_neg (by simp; omega), mk_of (by omega), bd_some]
  rw [List.append_nil] at h1
  rw [show ((nl x).length : Int).toNat = (nl x).length by omega]
  rw [show ((0 : Int), (0 : Int), List.replicate (nl x).length (0 : Int)) = ((0 : Int), ((0 : Nat) : Int), List.replicate (nl x).length (0 : Int)) from rfl, h1, bd_some]
  dsimp only
  rw [make_dig q' h3 (by omega), bd_some, trimz_nl h3 h4]
end Go.Proofs.YtboghejfmmigkaaDoor.AP
/- A number's digits, by ten: the program's way. -/
namespace Go.Proofs.YtboghejfmmigkaaDoor.AP
open Go Go.Proofs.YtboghejfmmigkaaDoor.Tri
set_option linter.unusedVariables false
set_option linter.unusedSimpArgs false
set_option maxRecDepth 4000
/-- n places of a number -/
def padN : Nat → Nat → List UInt8
  | 0, _ => []
  | n + 1, r => padN n (r / 10) ++ [UInt8.ofNat (48 + r % 10)]
theorem padN_len : ∀ (n r : Nat), (padN n r).length = n
  | 0, _ => rfl
  | n + 1, r => by rw [padN, List.length_append, padN_len n]; rfl
theorem padN_cons : ∀ (n r : Nat), padN (n + 1) r = UInt8.ofNat (48 + r / 10 ^ n % 10) :: padN n r
  | 0, r => by simp [padN]
  | n + 1, r => by
    rw [padN, padN_cons n (r / 10), padN]
    rw [Nat.div_div_eq_div_mul, Nat.pow_succ, Nat.mul_comm 10]
    rfl
theorem digit_bt (x : Int) (h0 : 0 ≤ x) (h1 : x < 10) : bt (bs [48, 49, 50, 51, 52, 53, 54, 55, 56, 57, 97, 98, 99, 100, 101, 102, 103, 104, 105, 106, 107, 108, 109, 110, 111, 112, 113, 114, 115, 116, 117, 118, 119, 120, 121, 122]) x = some (48 + x) := by
  have : x = 0 ∨ x = 1 ∨ x = 2 ∨ x = 3 ∨ x = 4 ∨ x = 5 ∨ x = 6 ∨ x = 7 ∨ x = 8 ∨ x = 9 := by omega
  rcases this with rfl | rfl | rfl | rfl | rfl | rfl | rfl | rfl | rfl | rfl <;> rfl
theorem set_back {α : Type} (z : α) (k : Nat) (v : α) (t : List α) : (List.replicate (k + 1) z ++ t).set k v = List.replicate k z ++ v :: t := by
  induction k with
  | zero => rfl
  | succ k ih =>
    show z :: (List.replicate (k + 1) z ++ t).set k v = z :: (List.replicate k z ++ v :: t)
    rw [ih]
theorem piece_loop (r : Nat) (n : Nat) (hn : n ≤ 100) (hr : r < 10000000000000000000) : ∀ (k j : Nat), j + k = n → lp (m_digits_piece_l1 10 (n : Int)) (((r / 10 ^ j : Nat) : Int), (j : Int), List.replicate k 0 ++ i8 (padN j r)) = some (i8 (padN n r)) := by
  intro k
  induction k with
  | zero =>
    intro j hj
    obtain rfl : j = n := by omega
    exact lp_done (by simp [m_digits_piece_l1])
  | succ k ih =>
    intro j hj
    have hle := Nat.div_le_self r (10 ^ j)
    generalize hq : r / 10 ^ j = q at *
    have e1 : decide ((j : Int) < (n : Int)) = true := decide_eq_true (by omega)
    have w10 : wu64 10 = 10 := rfl
    have e2 : rm .u64 (q : Int) (wu64 10) = some (((q % 10 : Nat)) : Int) := by
      rw [w10, rm_of (by omega) (by decide)]; congr 1
    have e3 := digit_bt ((q % 10 : Nat) : Int) (by omega) (by omega)
    have e4 : wi64 ((wi64 ((n : Int) - 1)) - (j : Int)) = (k : Int) := by
      rw [wi64_eq (x := (n : Int) - 1) (by omega) (by omega), wi64_eq (by omega) (by omega)]; omega
    have e5 : ix (List.replicate (k + 1) (0 : Int) ++ i8 (padN j r)) (k : Int) = some k := ix_nat (by simp; omega)
    have e6 : qd .u64 (q : Int) (wu64 10) = some (((q / 10 : Nat)) : Int) := by
      rw [w10, qdU (by omega) (by decide) (by omega)]; congr 1
    have e7 : wi64 ((j : Int) + 1) = ((j + 1 : Nat) : Int) := by rw [wi64_eq (by omega) (by omega)]; omega
    have e8 := set_back (0 : Int) k (48 + ((q % 10 : Nat) : Int)) (i8 (padN j r))
    have e9 : (48 + ((q % 10 : Nat) : Int)) :: i8 (padN j r) = i8 (padN (j + 1) r) := by
      rw [padN_cons, hq]
      show _ = ((UInt8.ofNat (48 + q % 10)).toNat : Int) :: i8 (padN j r)
      congr 1
      rw [UInt8.toNat_ofNat']
      have := Nat.mod_lt q (show 0 < 10 by decide)
      rw [Nat.mod_eq_of_lt (show 48 + q % 10 < 2 ^ 8 by omega)]
      omega
    have hs : m_digits_piece_l1 10 (n : Int) ((q : Int), (j : Int), List.replicate (k + 1) 0 ++ i8 (padN j r)) = some (.inl (((q / 10 : Nat) : Int), ((j + 1 : Nat) : Int), List.replicate k 0 ++ i8 (padN (j + 1) r))) := by
      simp only [m_digits_piece_l1, e1, if_true, e2, bd_some, e3, e4, e5, e8, e9, lt_eq, e6, e7]
    rw [lp_more hs]
    have := ih (j + 1) (by omega)
    rw [Nat.pow_succ, ← Nat.div_div_eq_div_mul, hq] at this
    exact this
theorem piece_eq (r n : Nat) (hn : n ≤ 100) (hr : r < 10000000000000000000) : m_digits_piece (r : Int) 10 (n : Int) = some (bs (padN n r)) := by
  have e1 : AP.mk 1 (0 : Int) (n : Int) (n : Int) = some (List.replicate n 0) := by
    rw [mk_of (by omega)]; simp
  have e2 := piece_loop r n hn hr n 0 (by omega)
  have e2 : lp (m_digits_piece_l1 10 (n : Int)) ((r : Int), 0, List.replicate n 0) = some (i8 (padN n r)) := by
    simpa [padN, i8] using e2
  have e3 : tx (i8 (padN n r)) = bs (padN n r) := by
    by_cases h : padN n r = []
    · rw [h]; rfl
    · have := ust_i8 _ h
      unfold ust at this
      split at this
      · exact Option.some.inj this
      · cases this
  unfold m_digits_piece
  simp only [e1, bd_some, e2, e3]
theorem chunk10 : m_digits_chunk 10 = some (1000000000, 9) := by
  have h : lp (m_digits_chunk_l1 10) (10, 1) = some (1000000000, 9) := by
    rw [lp_more (s' := (100, 2)) (by rfl), lp_more (s' := (1000, 3)) (by rfl), lp_more (s' := (10000, 4)) (by rfl), lp_more (s' := (100000, 5)) (by rfl), lp_more (s' := (1000000, 6)) (by rfl), lp_more (s' := (10000000, 7)) (by rfl), lp_more (s' := (100000000, 8)) (by rfl), lp_more (s' := (1000000000, 9)) (by rfl)]
    exact lp_done (by rfl)
  unfold m_digits_chunk
  have : wu64 10 = 10 := rfl
  rw [this, h]
  rfl
/-- pieces of nine places, the lowest first -/
def pcs (x : Nat) : List (List UInt8) := if h : 0 < x then padN 9 (x % 1000000000) :: pcs (x / 1000000000) else []
termination_by x
decreasing_by exact Nat.div_lt_self h (by decide)
theorem pcs_zero : pcs 0 = [] := by rw [pcs]; rfl
theorem pcs_pos {x : Nat} (h : 0 < x) : pcs x = padN 9 (x % 1000000000) :: pcs (x / 1000000000) := by rw [pcs, dif_pos h]
theorem pcs_len : ∀ (n x : Nat), x < 1000000000 ^ n → (pcs x).length ≤ n
  | 0, x, h => by
    have : x = 0 := by simpa using h
    rw [this, pcs_zero]; simp
  | n + 1, x, h => by
    by_cases hx : 0 < x
    · rw [pcs_pos hx, List.length_cons]
      have := pcs_len n (x / 1000000000) (by rw [Nat.pow_succ] at h; exact Nat.div_lt_of_lt_mul (by rw [Nat.mul_comm]; exact h))
      omega
    · have : x = 0 := by omega
      rw [this, pcs_zero]; simp
theorem nl_nat (x : Nat) : ((nl (x : Int)).length = 0) ↔ x = 0 := by
  rw [List.length_eq_zero_iff, nl_nil (by omega)]
  omega
theorem in_l1 (x : Nat) (hl : (nl (x : Int)).length ≤ 1000000000) : ∀ Ds : List ByteArray, Ds.length + (pcs x).length ≤ 1000000000000 → lp (m_digits_In_l1 10 (1000000000, 9)) (nl (x : Int), Ds) = some (Ds ++ (pcs x).map bs) := by
  induction x using Nat.strongRecOn with
  | _ x ih =>
    intro Ds hD
    by_cases hx : 0 < x
    · have e1 : decide (0 < ((nl (x : Int)).length : Int)) = true := decide_eq_true (by
        have := nl_nat x
        omega)
      have e2 := smallD_eq (x : Int) 1000000000 (by omega) (by decide) (by decide) (by omega)
      have e3 := piece_eq (x % 1000000000) 9 (by decide) (by have := Nat.mod_lt x (show 0 < 1000000000 by decide); omega)
      have e3 : m_digits_piece ((x : Int) % 1000000000) 10 9 = some (bs (padN 9 (x % 1000000000))) := e3
      rw [pcs_pos hx] at hD ⊢
      have e4 : ap 16 Ds [bs (padN 9 (x % 1000000000))] = some (Ds ++ [bs (padN 9 (x % 1000000000))]) := ap_of (by simp at hD ⊢; omega)
      have hs : m_digits_In_l1 10 (1000000000, 9) (nl (x : Int), Ds) = some (.inl (nl ((x / 1000000000 : Nat) : Int), Ds ++ [bs (padN 9 (x % 1000000000))])) := by
        simp only [m_digits_In_l1, e1, if_true, e2, bd_some, e3, e4]
        rfl
      rw [lp_more hs, ih (x / 1000000000) (Nat.div_lt_self hx (by decide)) (Nat.le_trans (nl_mono (by omega) (by omega)) hl) _ (by simp at hD ⊢; omega)]
      simp
    · have : x = 0 := by omega
      subst this
      rw [pcs_zero]
      have : nl ((0 : Nat) : Int) = [] := nl_zero
      rw [this]
      exact lp_done (by simp [m_digits_In_l1])
theorem in_l2 (L : List (List UInt8)) (hL : L.length ≤ 1000000000000) (h9 : ∀ s ∈ L, s.length = 9) : lp (m_digits_In_l2 (L.map bs)) (0, true, []) = some (decide (L = []), i8 L.reverse.flatten) := by
  have key : ∀ (k i : Nat) (c : Bool), i + k = L.length → (c = decide (i = 0)) → lp (m_digits_In_l2 (L.map bs)) ((i : Int), c, i8 (L.reverse.take i).flatten) = some (decide (L = []), i8 L.reverse.flatten) := by
    intro k
    induction k with
    | zero =>
      intro i c hi hc
      obtain rfl : i = L.length := by omega
      have e1 : decide (((L.length : Nat) : Int) < (((L.map bs).length : Nat) : Int)) = false := decide_eq_false (by simp)
      rw [lp_done (x := (c, i8 (L.reverse.take L.length).flatten)) (by simp only [m_digits_In_l2, e1]; rfl)]
      rw [List.take_of_length_le (by simp), hc]
      congr 2
      cases L <;> simp
    | succ k ih =>
      intro i c hi hc
      have e1 : decide ((i : Int) < ((L.map bs).length : Int)) = true := decide_eq_true (by rw [List.length_map]; omega)
      have e2 : wi64 ((wi64 (((L.map bs).length : Int) - 1)) - (i : Int)) = ((L.length - 1 - i : Nat) : Int) := by
        rw [List.length_map, wi64_eq (x := (L.length : Int) - 1) (by omega) (by omega), wi64_eq (by omega) (by omega)]; omega
      have hk : L.length - 1 - i < L.length := by omega
      have e3 : rd (L.map bs) ((L.length - 1 - i : Nat) : Int) = some (bs L[L.length - 1 - i]) := by
        rw [rd_nat, List.getElem?_map, List.getElem?_eq_getElem hk]; rfl
      have hr : L.reverse[i]? = some L[L.length - 1 - i] := by
        rw [List.getElem?_reverse (by omega), List.getElem?_eq_getElem hk]
      have hlen : (L.reverse.take i).flatten.length = i * 9 := by
        have : ∀ M : List (List UInt8), (∀ s ∈ M, s.length = 9) → M.flatten.length = M.length * 9 := by
          intro M
          induction M with
          | nil => intro _; rfl
          | cons s M ih =>
            intro h
            rw [List.flatten_cons, List.length_append, h s (by simp), ih (fun t ht => h t (by simp [ht])), List.length_cons, Nat.succ_mul]
            omega
        rw [this _ (fun s hs => h9 s (List.mem_reverse.1 (List.mem_of_mem_take hs))), List.length_take, List.length_reverse, Nat.min_eq_left (by omega)]
      have h9' := h9 L[L.length - 1 - i] (List.getElem_mem _)
      have e4 := apS_i8 (L.reverse.take i).flatten L[L.length - 1 - i] (by rw [hlen, h9']; omega)
      have e5 : m_strings_Builder_copyCheck_M c (i8 (L.reverse.take i).flatten) = some false := by
        unfold m_strings_Builder_copyCheck_M
        cases c <;> rfl
      have e7 : wi64 ((i : Int) + 1) = (i : Int) + 1 := wi64_eq (by omega) (by omega)
      have hs : m_digits_In_l2 (L.map bs) ((i : Int), c, i8 (L.reverse.take i).flatten) = some (.inl ((i : Int) + 1, false, i8 (L.reverse.take (i + 1)).flatten)) := by
        rw [List.take_add_one, hr, List.flatten_append]
        simp only [Option.toList, List.flatten_cons, List.flatten_nil, List.append_nil]
        simp only [m_digits_In_l2, e1, if_true, e2, e3, bd_some, m_strings_Builder_WriteString_M, e5, e4, e7]
      rw [lp_more hs]
      have := ih (i + 1) false (by omega) (by simp)
      simpa using this
  have := key L.length 0 true (by omega) rfl
  simpa [i8] using this
/-- without noughts ahead -/
def trimL : List UInt8 → List UInt8
  | [] => []
  | x :: l => if x = 48 then trimL l else x :: l
theorem trim_loop (l : List UInt8) : lp (m_strings_trimLeftByte_l1 48) (bs l) = some (bs (trimL l)) := by
  induction l with
  | nil => exact lp_done (by rfl)
  | cons x l ih =>
    have e1 : decide (0 < (((bs (x :: l)).size : Nat) : Int)) = true := decide_eq_true (by rw [bs_size]; simp)
    have e2 : bt (bs (x :: l)) 0 = some (x.toNat : Int) := by
      unfold bt
      rw [if_pos (by rw [bs_size]; simp)]
      rfl
    have e3 : (decide ((x.toNat : Int) = 48)) = decide (x = 48) := by
      by_cases h : x = 48
      · subst h; rfl
      · rw [decide_eq_false h, decide_eq_false]
        intro h2
        apply h
        apply UInt8.toNat_inj.1
        have : x.toNat = 48 := by omega
        rw [this]; rfl
    unfold trimL
    by_cases h : x = 48
    · have e4 : cs (bs (x :: l)) 1 ((bs (x :: l)).size : Int) = some (bs l) := by
        unfold cs
        rw [if_pos (by rw [bs_size]; simp; omega)]
        congr 1
        apply ByteArray.ext
        apply Array.toList_inj.1
        rw [ByteArray.data_extract, Array.toList_extract]
        simp [bs, ByteArray.size]
      rw [lp_more (s' := bs l) (by simp only [m_strings_trimLeftByte_l1, e1, if_true, e2, bd_some, e3, decide_eq_true h, e4]), if_pos h]
      exact ih
    · rw [if_neg h]
      exact lp_done (by simp only [m_strings_trimLeftByte_l1, e1, if_true, e2, bd_some, e3, decide_eq_false h, Bool.false_eq_true, if_false])
theorem trimLeft_eq (l : List UInt8) : m_strings_TrimLeft (bs l) (bs [48]) = some (bs (trimL l)) := by
  unfold m_strings_TrimLeft
  by_cases h : l = []
  · subst h; simp only [sq_self, if_true, bd_some]; rfl
  · have e1 : sq (bs l) (bs []) = false := by rw [sq_bs]; exact decide_eq_false h
    have e2 : sq (bs [48]) (bs []) = false := by rw [sq_bs]; rfl
    have e3 : bt (bs [48]) 0 = some 48 := rfl
    have e4 : decide (((bs [48]).size : Int) = 1) = true := rfl
    have e5 : m_strings_trimLeftByte (bs l) 48 = some (bs (trimL l)) := by
      unfold m_strings_trimLeftByte
      rw [trim_loop]; rfl
    simp only [e1, Bool.false_eq_true, if_false, e2, bd_some, e4, if_true, e3, e5]
    rfl
theorem trimL_pad : ∀ (n r : Nat), 0 < r → r < 10 ^ n → trimL (padN n r) = Lib.decDigits r
  | 0, r, h0, h1 => by simp at h1; omega
  | n + 1, r, h0, h1 => by
    have key : ∀ (l : List UInt8) (d : UInt8), trimL (l ++ [d]) = if trimL l = [] then trimL [d] else trimL l ++ [d] := by
      intro l d
      induction l with
      | nil => simp [trimL]
      | cons x l ih =>
        show (if x = 48 then trimL (l ++ [d]) else x :: (l ++ [d])) = _
        by_cases h : x = 48
        · rw [if_pos h, ih]
          have : trimL (x :: l) = trimL l := by show (if x = 48 then trimL l else x :: l) = _; rw [if_pos h]
          rw [this]
        · have : trimL (x :: l) = x :: l := by show (if x = 48 then trimL l else x :: l) = _; rw [if_neg h]
          rw [this, if_neg h, if_neg (by simp)]
          rfl
    rw [padN, key]
    by_cases hb : r < 10
    · have h10 : r / 10 = 0 := by omega
      have hz : ∀ m, trimL (padN m 0) = [] := by
        intro m
        induction m with
        | zero => rfl
        | succ m ih => rw [padN_cons]; show (if _ = (48 : UInt8) then _ else _) = _; rw [if_pos (by simp)]; exact ih
      rw [h10, hz, if_pos rfl, Lib.decDigits, dif_pos hb, Nat.mod_eq_of_lt hb]
      show (if UInt8.ofNat (48 + r) = (48 : UInt8) then trimL [] else [UInt8.ofNat (48 + r)]) = _
      rw [if_neg]
      intro h
      have h2 := congrArg UInt8.toNat h
      rw [UInt8.toNat_ofNat', Nat.mod_eq_of_lt (by omega)] at h2
      have : (48 : UInt8).toNat = 48 := rfl
      omega
    · rw [trimL_pad n (r / 10) (by omega) (by rw [Nat.pow_succ] at h1; exact Nat.div_lt_of_lt_mul (by rw [Nat.mul_comm]; exact h1))]
      have hne : Lib.decDigits (r / 10) ≠ [] := by
        intro h
        have h2 := Lib.decDigits_length (r / 10)
        rw [h] at h2
        have := Lib.nDigits_pos (r / 10)
        simp at h2; omega
      rw [if_neg hne]
      conv => rhs; rw [Lib.decDigits, dif_neg hb]
theorem padN_split : ∀ (m n r : Nat), padN (n + m) r = padN n (r / 10 ^ m) ++ padN m (r % 10 ^ m)
  | 0, n, r => by simp [padN]
  | m + 1, n, r => by
    show padN (n + m + 1) r = _
    rw [padN, padN_split m n (r / 10), padN, List.append_assoc]
    have e1 : r / 10 / 10 ^ m = r / 10 ^ (m + 1) := by rw [Nat.div_div_eq_div_mul, Nat.pow_succ, Nat.mul_comm 10]
    have e2 : r / 10 % 10 ^ m = r % 10 ^ (m + 1) / 10 := by
      rw [Nat.pow_succ, Nat.mul_comm, Nat.mod_mul_right_div_self]
    have e3 : r % 10 = r % 10 ^ (m + 1) % 10 := by rw [Nat.pow_succ, Nat.mul_comm, Nat.mod_mul_right_mod]
    rw [e1, e2, e3]
theorem pcs_pad : ∀ (x : Nat), (pcs x).reverse.flatten = padN (9 * (pcs x).length) x := by
  intro x
  induction x using Nat.strongRecOn with
  | _ x ih =>
    by_cases hx : 0 < x
    · rw [pcs_pos hx, List.reverse_cons, List.flatten_append, ih (x / 1000000000) (Nat.div_lt_self hx (by decide)), List.length_cons]
      have := padN_split 9 (9 * (pcs (x / 1000000000)).length) x
      rw [show 9 * ((pcs (x / 1000000000)).length + 1) = 9 * (pcs (x / 1000000000)).length + 9 by omega, this]
      simp
    · have : x = 0 := by omega
      subst this
      rw [pcs_zero]; rfl
theorem pcs_lt : ∀ (x : Nat), x < 10 ^ (9 * (pcs x).length) := by
  intro x
  induction x using Nat.strongRecOn with
  | _ x ih =>
    by_cases hx : 0 < x
    · have := ih (x / 1000000000) (Nat.div_lt_self hx (by decide))
      rw [pcs_pos hx, List.length_cons, show 9 * ((pcs (x / 1000000000)).length + 1) = 9 * (pcs (x / 1000000000)).length + 9 by omega, Nat.pow_add]
      have h2 : x < (x / 1000000000 + 1) * 1000000000 := by omega
      exact Nat.lt_of_lt_of_le h2 (Nat.mul_le_mul_right 1000000000 this)
    · have : x = 0 := by omega
      subst this
      exact Nat.pow_pos (by decide)
theorem digitsPrint_eq (x : Nat) (hl : (nl (x : Int)).length ≤ 1000000000) : m_digits_Print (nl (x : Int)) = some (bs (Lib.decDigits x)) := by
  have hpl : (pcs x).length ≤ 1000000000000 := by
    have h1 : x < 1000000000 ^ (2 * (nl (x : Int)).length) := by
      have h2 := dv_lt (B := (4294967296 : Int)) (by decide) (nl_can (x : Int)).1
      rw [nl_dv (by omega)] at h2
      have h3 : (4294967296 : Int) ^ (nl (x : Int)).length ≤ (1000000000 : Int) ^ (2 * (nl (x : Int)).length) := by
        rw [Int.pow_mul]; exact pow_le (by decide) (by decide) _
      have h4 : (x : Int) < (((1000000000 ^ (2 * (nl (x : Int)).length) : Nat)) : Int) := by
        rw [Int.natCast_pow]
        exact Int.lt_of_lt_of_le h2 h3
      omega
    have := pcs_len _ x h1
    omega
  have h9 : ∀ s ∈ pcs x, s.length = 9 := by
    have : ∀ x, ∀ s ∈ pcs x, s.length = 9 := by
      intro x
      induction x using Nat.strongRecOn with
      | _ x ih =>
        intro s hs
        by_cases hx : 0 < x
        · rw [pcs_pos hx] at hs
          rcases List.mem_cons.1 hs with rfl | hs
          · exact padN_len 9 _
          · exact ih (x / 1000000000) (Nat.div_lt_self hx (by decide)) s hs
        · have : x = 0 := by omega
          subst this
          rw [pcs_zero] at hs; cases hs
    exact this x
  have e0 : m_digits_based 10 = some 0 := rfl
  have e1 := make_nl (x : Int) (by omega)
  have e2 := in_l1 x hl [] (by simp; omega)
  have e3 := in_l2 (pcs x) hpl h9
  have e5 : m_strings_Builder_String_M (decide (pcs x = [])) (i8 (pcs x).reverse.flatten) = some (bs (pcs x).reverse.flatten) := by
    unfold m_strings_Builder_String_M
    by_cases h : (pcs x).reverse.flatten = []
    · rw [h]; rfl
    · have hz : (i8 (pcs x).reverse.flatten).length ≠ 0 := by
        unfold i8; rw [List.length_map]; intro h0; exact h (List.length_eq_zero_iff.1 h0)
      rw [decide_eq_false hz, ust_i8 _ h]; rfl
  have e6 := trimLeft_eq (pcs x).reverse.flatten
  unfold m_digits_Print m_digits_In
  rw [List.nil_append] at e2
  simp only [e0, bd_some, decide_true, Bool.not_true, Bool.false_eq_true, if_false, chunk10, e1, e2, e3, e5, e6, sq_bs]
  by_cases hx : 0 < x
  · have h7 : trimL (pcs x).reverse.flatten = Lib.decDigits x := by rw [pcs_pad]; exact trimL_pad _ x hx (pcs_lt x)
    have hne : Lib.decDigits x ≠ [] := by
      intro h
      have h2 := Lib.decDigits_length x
      rw [h] at h2
      have := Lib.nDigits_pos x
      simp at h2; omega
    rw [h7, decide_eq_false hne]
    rfl
  · have : x = 0 := by omega
    subst this
    rw [pcs_zero]
    have : Lib.decDigits 0 = [48] := by rw [Lib.decDigits, dif_pos (by decide)]; rfl
    rw [this]
    rfl
end Go.Proofs.YtboghejfmmigkaaDoor.AP
/- Numbers and fractions printed, by both. -/
namespace Go.Proofs.YtboghejfmmigkaaDoor.AP
open Go Go.Proofs.YtboghejfmmigkaaDoor.Tri
set_option linter.unusedVariables false
set_option linter.unusedSimpArgs false
/-- a number with its sign -/
def zsL (a : Int) : List UInt8 := if a < 0 then 45 :: Lib.decDigits a.natAbs else Lib.decDigits a.natAbs
/-- a fraction -/
def rtL (a b : Int) : List UInt8 := if b = 1 then zsL a else zsL a ++ 47 :: Lib.decDigits b.toNat
end Go.Proofs.YtboghejfmmigkaaDoor.AP
/- The program's numbers, as printed: divided by a limb, multiplied; with signs; fractions. -/
namespace Go.Proofs.YtboghejfmmigkaaDoor.AP
open Go Go.Proofs.YtboghejfmmigkaaDoor.Tri
set_option linter.unusedVariables false
set_option linter.unusedSimpArgs false
end Go.Proofs.YtboghejfmmigkaaDoor.AP
/- Limbs: taking off, cutting, sums, and the product by Karatsuba's way. -/
namespace Go.Proofs.YtboghejfmmigkaaDoor.AP
open Go Go.Proofs.YtboghejfmmigkaaDoor.Tri
set_option linter.unusedVariables false
set_option linter.unusedSimpArgs false
theorem lt_pow_len {x : Int} (hx : 0 ≤ x) : x < (4294967296 : Int) ^ (nl x).length := by
  have := dv_lt (by decide) (nl_can x).1
  rwa [nl_dv hx] at this
end Go.Proofs.YtboghejfmmigkaaDoor.AP
/- Digits read, by ten: the program's way and the document's. -/
namespace Go.Proofs.YtboghejfmmigkaaDoor.AP
open Go Go.Proofs.YtboghejfmmigkaaDoor.Tri
set_option linter.unusedVariables false
set_option linter.unusedSimpArgs false
set_option maxRecDepth 4000
/-! texts, by bytes -/
theorem bt_at (l : List UInt8) (i : Nat) (c : UInt8) (r : List UInt8) (h : l.drop i = c :: r) : bt (bs l) (i : Int) = some (c.toNat : Int) := by
  have hi : i < l.length := by
    apply Nat.lt_of_not_le
    intro hle
    rw [List.drop_of_length_le hle] at h; cases h
  have hc : l[i] = c := by
    have := List.drop_eq_getElem_cons hi
    rw [h] at this
    exact (List.cons.inj this).1.symm
  unfold bt
  rw [if_pos ⟨by omega, by show (i : Int) < (l.length : Int); omega⟩]
  show some (((l.getD (i : Int).toNat 0).toNat : Int)) = _
  rw [Int.toNat_natCast, List.getD_eq_getElem?_getD, List.getElem?_eq_getElem hi, hc]; rfl
theorem drop_more {l : List UInt8} {i : Nat} {c : UInt8} {r : List UInt8} (h : l.drop i = c :: r) : l.drop (i + 1) = r := by
  rw [← List.drop_drop, h]; rfl
theorem drop_lt {l : List UInt8} {i : Nat} {c : UInt8} {r : List UInt8} (h : l.drop i = c :: r) : i < l.length := by
  apply Nat.lt_of_not_le
  intro hle
  rw [List.drop_of_length_le hle] at h; cases h
theorem cs_bs (l : List UInt8) (a b : Nat) (h : a ≤ b) (hb : b ≤ l.length) : cs (bs l) (a : Int) (b : Int) = some (bs ((l.take b).drop a)) := by
  unfold cs
  rw [if_pos ⟨by omega, by omega, by show (b : Int) ≤ (l.length : Int); omega⟩, Int.toNat_natCast, Int.toNat_natCast]
  congr 1
  apply ByteArray.ext
  apply Array.ext'
  rw [ByteArray.data_extract, Array.toList_extract]
  show (List.extract l a b) = _
  rw [List.extract_eq_take_drop, List.drop_take]
  rfl
/-! runes -/
theorem dc_low (l : List UInt8) (i : Nat) (c : UInt8) (r : List UInt8) (h : l.drop i = c :: r) (hc : c.toNat < 128) : dc1 (bs l) i = (c.toNat : Int) ∧ dcn (bs l) i = i + 1 := by
  have hi := drop_lt h
  have hg : (bs l).get! (i + 0) = c := by
    have hcc : l[i] = c := by
      have := List.drop_eq_getElem_cons hi
      rw [h] at this
      exact (List.cons.inj this).1.symm
    show (l.toArray)[i + 0]! = c
    rw [Nat.add_zero, List.getElem!_toArray, List.getElem!_eq_getElem?_getD, List.getElem?_eq_getElem hi, hcc]; rfl
  unfold dc1 dcn Utf8.decode
  simp only [hg]
  rw [if_pos (by omega)]
  exact ⟨rfl, rfl⟩
theorem dc_high (l : List UInt8) (i : Nat) (c : UInt8) (r : List UInt8) (h : l.drop i = c :: r) (hc : 128 ≤ c.toNat) : 128 ≤ dc1 (bs l) i := by
  have hi := drop_lt h
  have hg : (bs l).get! (i + 0) = c := by
    have hcc : l[i] = c := by
      have := List.drop_eq_getElem_cons hi
      rw [h] at this
      exact (List.cons.inj this).1.symm
    show (l.toArray)[i + 0]! = c
    rw [Nat.add_zero, List.getElem!_toArray, List.getElem!_eq_getElem?_getD, List.getElem?_eq_getElem hi, hcc]; rfl
  unfold dc1 Utf8.decode
  simp only [hg]
  rw [if_neg (by omega)]
  have hr : (128 : Nat) ≤ Utf8.runeError := by decide
  repeat' split
  all_goals first
    | (simp only; omega)
    | (rename_i h1; rw [Bool.and_eq_true, decide_eq_true_eq] at h1; simp only; omega)
/-! what a text says -/
def dgt (c : UInt8) : Option Nat := if 48 ≤ c.toNat ∧ c.toNat ≤ 57 then some (c.toNat - 48) else none
def rdN : List UInt8 → Nat → Option Nat
  | [], v => some v
  | c :: l, v => match dgt c with
    | none => none
    | some d => rdN l (v * 10 + d)
def rd10 (l : List UInt8) : Option Nat := if l = [] then none else rdN l 0
theorem dgt_lt {c : UInt8} {d : Nat} (h : dgt c = some d) : d < 10 := by
  unfold dgt at h; split at h
  · cases h; omega
  · cases h
theorem rdN_append : ∀ (a b : List UInt8) (v : Nat), rdN (a ++ b) v = (rdN a v).bind (rdN b)
  | [], b, v => rfl
  | c :: a, b, v => by
    show rdN (c :: (a ++ b)) v = _
    unfold rdN
    cases dgt c with
    | none => rfl
    | some d => exact rdN_append a b _
theorem dgt_of (d : Nat) (h : d < 10) : dgt (UInt8.ofNat (48 + d)) = some d := by
  unfold dgt
  have : (UInt8.ofNat (48 + d)).toNat = 48 + d := by rw [UInt8.toNat_ofNat']; omega
  rw [this, if_pos (by omega)]; congr 1; omega
theorem rdN_dec (n : Nat) : rdN (Lib.decDigits n) 0 = some n := by
  induction n using Nat.strongRecOn with
  | _ n ih =>
    by_cases h : n < 10
    · rw [Lib.decDigits_one h]
      unfold rdN
      rw [dgt_of n h]
      show some (0 * 10 + n) = some n
      rw [Nat.zero_mul, Nat.zero_add]
    · rw [Lib.decDigits, dif_neg h, rdN_append, ih (n / 10) (by omega)]
      show rdN [UInt8.ofNat (48 + n % 10)] (n / 10) = some n
      unfold rdN
      rw [dgt_of (n % 10) (by omega)]
      show some (n / 10 * 10 + n % 10) = some n
      congr 1; omega
theorem dec_ne (n : Nat) : Lib.decDigits n ≠ [] := fun h => by
  have := congrArg List.length h
  rw [Lib.decDigits_length] at this
  have := Lib.nDigits_pos n
  simp at *; omega
theorem rd10_dec (n : Nat) : rd10 (Lib.decDigits n) = some n := by unfold rd10; rw [if_neg (dec_ne n), rdN_dec]
theorem rdN_lt : ∀ (l : List UInt8) (v w k : Nat), rdN l v = some w → v < 10 ^ k → w < 10 ^ (k + l.length)
  | [], v, w, k, h, hv => by cases h; exact hv
  | c :: l, v, w, k, h, hv => by
    unfold rdN at h
    cases hd : dgt c with
    | none => rw [hd] at h; cases h
    | some d =>
      rw [hd] at h
      have := dgt_lt hd
      have := rdN_lt l (v * 10 + d) w (k + 1) h (by rw [Nat.pow_succ]; omega)
      rw [List.length_cons]
      rwa [show k + (l.length + 1) = k + 1 + l.length by omega]
theorem rd10_lt {l : List UInt8} {w : Nat} (h : rd10 l = some w) : w < 10 ^ l.length := by
  unfold rd10 at h; split at h
  · cases h
  · have := rdN_lt l 0 w 0 h (by decide); simpa using this
/-! a limb's multiple -/
theorem mulSmall_loop (a : List Int) (p : Int) (ha : Dig (4294967296 : Int) a) (hp : 0 ≤ p ∧ p < (4294967296 : Int)) (hl : a.length ≤ 1000000000) (s : Int) : ∀ (k i : Nat) (c : Int) (D : List Int), i + k = a.length → D.length = i → Dig (4294967296 : Int) D → (0 ≤ c ∧ c < (4294967296 : Int)) → dv (4294967296 : Int) D + (4294967296 : Int) ^ i * c = dv (4294967296 : Int) (a.take i) * p + s →
    ∃ c' D', lp (m_mul_Small_l1 a p) (c, (i : Int), D ++ List.replicate (k + 1) 0) = some (c', D' ++ [0]) ∧ Dig (4294967296 : Int) D' ∧ D'.length = a.length ∧ (0 ≤ c' ∧ c' < (4294967296 : Int)) ∧ dv (4294967296 : Int) D' + (4294967296 : Int) ^ a.length * c' = dv (4294967296 : Int) a * p + s
  | 0, i, c, D, hk, hi, hD, hc, hv => by
    obtain rfl : i = a.length := by omega
    exact ⟨c, D, lp_done (by simp [m_mul_Small_l1]), hD, hi, hc, by rw [hv, List.take_length]⟩
  | k + 1, i, c, D, hk, hi, hD, hc, hv => by
    have ga := gI_dig ha (by decide) (i : Int)
    obtain ⟨s0, s1⟩ := mul_bound ga hp hc (d := 0) ⟨Int.le_refl _, by decide⟩
    have a8 := limbMul_eq (gI a (i : Int)) p c 0 ga hp hc ⟨Int.le_refl _, by decide⟩
    generalize hx : gI a (i : Int) * p + c + 0 = x at *
    have hx0 : 0 ≤ x := by omega
    have hq : x / (4294967296 : Int) < (4294967296 : Int) := Int.ediv_lt_of_lt_mul (by decide) s1
    have a1 : decide ((i : Int) < (a.length : Int)) = true := decide_eq_true (by omega)
    have a2 : rd a (i : Int) = some (gI a (i : Int)) := rd_I (by omega) (by omega)
    have a5 : wi64 ((i : Int) + 1) = ((i + 1 : Nat) : Int) := by rw [wi64_eq (by omega) (by omega)]; omega
    have a6 : ix (D ++ List.replicate (k + 2) 0) (i : Int) = some i := ix_nat (by simp; omega)
    have a7 : (D ++ List.replicate (k + 2) 0).set i (x % (4294967296 : Int)) = (D ++ [x % (4294967296 : Int)]) ++ List.replicate (k + 1) 0 := by
      rw [show List.replicate (k + 2) (0 : Int) = 0 :: List.replicate (k + 1) 0 from rfl, ← hi, set_at]
    have e1 : m_mul_Small_l1 a p (c, (i : Int), D ++ List.replicate (k + 2) 0) = some (.inl (x / (4294967296 : Int), ((i + 1 : Nat) : Int), (D ++ [x % (4294967296 : Int)]) ++ List.replicate (k + 1) 0)) := by
      simp only [m_mul_Small_l1, a1, if_true, a2, bd_some, a8, a6, lt_eq, a7, a5]
    obtain ⟨c', D', r1, r2⟩ := mulSmall_loop a p ha hp hl s k (i + 1) (x / (4294967296 : Int)) (D ++ [x % (4294967296 : Int)]) (by omega) (by simp [hi]) (hD.snoc ⟨by omega, by omega⟩) ⟨Int.ediv_nonneg hx0 (by decide), hq⟩ (by
      rw [dv_snoc, take_gI', hi, Int.pow_succ]
      have := Int.mul_ediv_add_emod x (4294967296 : Int)
      clear e1 a7 a6 a8
      generalize (4294967296 : Int) ^ i = P at *
      generalize gI a (i : Int) = g1 at *
      generalize dv (4294967296 : Int) (List.take i a) = T at *
      generalize dv (4294967296 : Int) D = DD at *
      generalize x / (4294967296 : Int) = q at *
      generalize x % (4294967296 : Int) = r at *
      have hr : r = g1 * p + c - (4294967296 : Int) * q := by omega
      subst hr
      grind)
    exact ⟨c', D', by rw [lp_more e1]; exact r1, r2⟩
theorem mulSmall_eq (x p s : Int) (hx : 0 ≤ x) (hp : 0 ≤ p ∧ p < (4294967296 : Int)) (hs : 0 ≤ s ∧ s < (4294967296 : Int)) (hl : (nl x).length ≤ 1000000000) : m_mul_Small (nl x) p s = some (nl (x * p + s)) := by
  obtain ⟨c', D', r1, r2, r3, r4, r5⟩ := mulSmall_loop (nl x) p (nl_can x).1 hp hl s (nl x).length 0 s [] (by omega) rfl (Dig.nil _) hs (by simp [dv])
  have r1' : lp (m_mul_Small_l1 (nl x) p) (s, 0, List.replicate ((nl x).length + 1) 0) = some (c', D' ++ [0]) := r1
  have e1 : wi64 (((nl x).length : Int) + 1) = (((nl x).length + 1 : Nat) : Int) := by rw [wi64_eq (by omega) (by omega)]; omega
  unfold m_mul_Small
  rw [e1, mk_of (by omega), bd_some, limbAdd_eq s 0 0 hs ⟨by decide, by decide⟩ ⟨by decide, by decide⟩, bd_some]
  dsimp only
  rw [Int.toNat_natCast, show (s + 0 + 0) % (4294967296 : Int) = s by omega, r1', bd_some]
  dsimp only
  rw [ix_nat (by simp [r3]), bd_some, lt_eq, ← r3, set_at, List.append_nil, made_eq _ (r2.snoc r4) (by simp; omega), bd_some, dv_snoc, r3, r5, nl_dv hx]
/-! read by the program -/
theorem value_all : (List.range 128).all (fun n => match m_digits_value (n : Int) 10 with | some (x, b) => (b == (dgt (UInt8.ofNat n)).isSome) && (match dgt (UInt8.ofNat n) with | some d => x == (d : Int) | none => true) | none => false) = true := by kernel_rfl
theorem value_low (c : UInt8) (hc : c.toNat < 128) : ∃ x, m_digits_value (c.toNat : Int) 10 = some (x, (dgt c).isSome) ∧ ∀ d, dgt c = some d → x = (d : Int) := by
  have h := (List.all_eq_true.1 value_all) c.toNat (List.mem_range.2 hc)
  rw [UInt8.ofNat_toNat] at h
  cases hv : m_digits_value (c.toNat : Int) 10 with
  | none => rw [hv] at h; cases h
  | some y =>
    obtain ⟨x, b⟩ := y
    rw [hv] at h
    simp only [Bool.and_eq_true, beq_iff_eq] at h
    refine ⟨x, by rw [h.1], fun d hd => ?_⟩
    have h2 := h.2
    rw [hd] at h2
    exact eq_of_beq h2
theorem value_high (r : Int) (h : 128 ≤ r) : ∃ x, m_digits_value r 10 = some (x, false) := by
  unfold m_digits_value m_strings_IndexByte m_internal_stringslite_IndexByte
  rw [bd_some, bd_some, if_neg (by simpa using h)]
  exact ⟨_, rfl⟩
theorem from_loop (l : List UInt8) (hl : l.length ≤ 1000000) : ∀ (r : List UInt8) (i : Nat) (A : Int) (p s : Int), l.drop i = r → i ≤ l.length → 0 ≤ A → (nl A).length ≤ i → (1 ≤ p ∧ p < (4294967296 : Int)) → (0 ≤ s ∧ s < p) → ∀ V : Nat, A * p + s = V →
    lp (m_digits_From_l1 (bs l) 10) (nl A, p, s, i) = some (match rdN r V with | some v => (nl (v : Int), 0) | none => ([], 5))
  | [], i, A, p, s, hr, hi, hA, hA2, hp, hs, V, hV => by
    have hi2 : i = l.length := by
      have := congrArg List.length hr
      simp at this; omega
    refine lp_done ?_
    have e1 : decide (i < (bs l).size) = false := decide_eq_false (by rw [bs_size]; omega)
    have e2 := mulSmall_eq A p s hA ⟨by omega, hp.2⟩ ⟨hs.1, by omega⟩ (by omega)
    simp only [m_digits_From_l1, e1, e2, bd_some, hV, rdN]
    rfl
  | c :: r, i, A, p, s, hr, hi, hA, hA2, hp, hs, V, hV => by
    have hlt := drop_lt hr
    have e1 : decide (i < (bs l).size) = true := decide_eq_true (by rw [bs_size]; exact hlt)
    have w10 : wu64 10 = 10 := rfl
    by_cases hc : c.toNat < 128
    · obtain ⟨d1, d2⟩ := dc_low l i c r hr hc
      obtain ⟨x, hx, hx2⟩ := value_low c hc
      cases hd : dgt c with
      | none =>
        rw [hd] at hx
        refine lp_done ?_
        simp only [m_digits_From_l1, e1, if_true, d1, hx, bd_some, Option.isSome_none, Bool.not_false, rdN, hd]
      | some d =>
        have hxd := hx2 d hd
        have hd10 := dgt_lt hd
        rw [hd, hxd] at hx
        have e2 : wu64 (p * 10) = p * 10 := wu64_eq (by omega) (by omega)
        by_cases hbig : (4294967296 : Int) ≤ p * 10
        · have e3 := mulSmall_eq A p s hA ⟨by omega, hp.2⟩ ⟨hs.1, by omega⟩ (by omega)
          have e4 : wu64 (1 * 10) = 10 := rfl
          have e5 : wu64 (0 * 10) = 0 := rfl
          have e6 : wu64 (0 + (d : Int)) = (d : Int) := by rw [wu64_eq (by omega) (by omega)]; omega
          have st : m_digits_From_l1 (bs l) 10 (nl A, p, s, i) = some (.inl (nl (A * p + s), 10, (d : Int), i + 1)) := by
            simp only [m_digits_From_l1, e1, if_true, d1, hx, bd_some, Option.isSome_some, Bool.not_true, if_false, Bool.false_eq_true, w10, e2, decide_eq_true hbig, e3, d2, e4, e5, lt_eq, e6]
          rw [lp_more st]
          have hAp : 0 ≤ A * p := Int.mul_nonneg hA (by omega)
          have := from_loop l hl r (i + 1) (A * p + s) 10 (d : Int) (drop_more hr) (by omega) (by omega) (by
            refine nl_len (by omega) ?_
            have h1 := Int.lt_of_lt_of_le (lt_pow_len hA) (pow_mono (show (0 : Int) < (4294967296 : Int) by decide) hA2)
            have h2 : A * p ≤ ((4294967296 : Int) ^ i - 1) * p := Int.mul_le_mul_of_nonneg_right (by omega) (by omega)
            have h3 : ((4294967296 : Int) ^ i - 1) * p = (4294967296 : Int) ^ i * p - p := by rw [Int.sub_mul, Int.one_mul]
            have h4 : (4294967296 : Int) ^ i * p ≤ (4294967296 : Int) ^ i * (4294967296 : Int) := Int.mul_le_mul_of_nonneg_left (by omega) (Int.le_of_lt (pow_pos' (by decide) i))
            rw [Int.pow_succ]; omega) ⟨by decide, by decide⟩ ⟨by omega, by omega⟩ (V * 10 + d) (by push_cast; omega)
          rw [this]
          simp only [rdN, hd]
        · have e5 : wu64 (s * 10) = s * 10 := wu64_eq (by omega) (by omega)
          have e6 : wu64 (s * 10 + (d : Int)) = s * 10 + (d : Int) := wu64_eq (by omega) (by omega)
          have st : m_digits_From_l1 (bs l) 10 (nl A, p, s, i) = some (.inl (nl A, p * 10, s * 10 + (d : Int), i + 1)) := by
            simp only [m_digits_From_l1, e1, if_true, d1, hx, bd_some, Option.isSome_some, Bool.not_true, if_false, Bool.false_eq_true, w10, e2, decide_eq_false hbig, d2, lt_eq, e5, e6]
          rw [lp_more st]
          have := from_loop l hl r (i + 1) A (p * 10) (s * 10 + (d : Int)) (drop_more hr) (by omega) hA (by omega) ⟨by omega, by omega⟩ ⟨by omega, by omega⟩ (V * 10 + d) (by
            push_cast
            rw [← Int.mul_assoc]
            omega)
          rw [this]
          simp only [rdN, hd]
    · have hh := dc_high l i c r hr (by omega)
      obtain ⟨x, hx⟩ := value_high _ hh
      have hd : dgt c = none := by unfold dgt; rw [if_neg (by omega)]
      refine lp_done ?_
      simp only [m_digits_From_l1, e1, if_true, hx, bd_some, Bool.not_false, rdN, hd]
/-- how a number that is read is told -/
def tld (o : Option Nat) : List Int × Int := match o with | some v => (nl (v : Int), 0) | none => ([], 5)
theorem digFrom_eq (l : List UInt8) (hl : l.length ≤ 1000000) : m_digits_From (bs l) 10 = some (tld (rd10 l)) := by
  have hb : m_digits_based 10 = some 0 := rfl
  unfold m_digits_From
  rw [hb, bd_some, if_neg (by decide)]
  by_cases h : l = []
  · subst h
    rw [if_pos (sq_self _)]; rfl
  · have : sq (bs l) (bs []) = false := by rw [sq_bs]; exact decide_eq_false h
    rw [this, if_neg (by decide)]
    have := from_loop l hl l 0 0 1 0 rfl (by omega) (Int.le_refl _) (by rw [nl_zero]; exact Nat.le_refl _) ⟨by decide, by decide⟩ ⟨by decide, by decide⟩ 0 (by decide)
    rw [nl_zero] at this
    rw [this]
    unfold rd10 tld
    rw [if_neg h]
theorem parseD_eq (l : List UInt8) (hl : l.length ≤ 1000000) : m_digits_Parse (bs l) = some (tld (rd10 l)) := by
  unfold m_digits_Parse
  rw [digFrom_eq l hl, bd_some]
theorem nl_pow10 {v n : Nat} (h : v < 10 ^ n) : (nl (v : Int)).length ≤ n := by
  refine nl_len (by omega) ?_
  have h1 : ((v : Nat) : Int) < ((10 ^ n : Nat) : Int) := by omega
  have h2 : ((10 ^ n : Nat) : Int) = (10 : Int) ^ n := by push_cast; rfl
  have h3 : (10 : Int) ^ n ≤ (4294967296 : Int) ^ n := pow_le (by decide) (by decide) n
  omega
end Go.Proofs.YtboghejfmmigkaaDoor.AP
/- Tokens of a text: what they are, and that the program comes to them. -/
namespace Go.Proofs.YtboghejfmmigkaaDoor.AP
open Go Go.Proofs.YtboghejfmmigkaaDoor.Tri
set_option linter.unusedVariables false
set_option linter.unusedSimpArgs false
set_option maxRecDepth 4000
def isLet (c : UInt8) : Bool := decide (97 ≤ c.toNat) && decide (c.toNat ≤ 122)
def isDig (c : UInt8) : Bool := decide (48 ≤ c.toNat) && decide (c.toNat ≤ 57)
def isWo (c : UInt8) : Bool := isLet c || isDig c || decide (c.toNat = 45) || decide (c.toNat = 95)
def isFig (c : UInt8) : Bool := isDig c || decide (c.toNat = 46) || decide (c.toNat = 47) || decide (c.toNat = 37)
def isMk (c : UInt8) : Bool := decide (c.toNat = 123) || decide (c.toNat = 125) || decide (c.toNat = 59) || decide (c.toNat = 44) || decide (c.toNat = 42)
def notLf (c : UInt8) : Bool := decide (c.toNat ≠ 10)
abbrev LX := List Tok × Int × List UInt8
def push (t : Tok) (x : LX) : LX := (t :: x.1, x.2)
/-- tokens, the line at the end, and what is left; by so many steps -/
def lxF : Nat → List UInt8 → Int → LX
  | 0, l, ln => ([], ln, l)
  | k + 1, [], ln => ([], ln, [])
  | k + 1, c :: r, ln =>
    if c.toNat = 10 then lxF k r (ln + 1)
    else if c.toNat = 32 ∨ c.toNat = 9 then lxF k r ln
    else if c.toNat = 35 then lxF k (r.dropWhile notLf) ln
    else if isMk c = true then push (3, bs [c], ln) (lxF k r ln)
    else if isDig c = true then push (2, bs (c :: r.takeWhile isFig), ln) (lxF k (r.dropWhile isFig) ln)
    else if isLet c = true then push (1, bs (c :: r.takeWhile isWo), ln) (lxF k (r.dropWhile isWo) ln)
    else ([], ln, c :: r)
def lx (l : List UInt8) (ln : Int) : LX := lxF l.length l ln
theorem dw_le {α : Type} (p : α → Bool) (l : List α) : (l.dropWhile p).length ≤ l.length := (List.dropWhile_sublist p).length_le
theorem lxF_fuel : ∀ (k m : Nat) (l : List UInt8) (ln : Int), l.length ≤ k → l.length ≤ m → lxF k l ln = lxF m l ln
  | 0, 0, _, _, _, _ => rfl
  | 0, m + 1, [], ln, _, _ => rfl
  | 0, m + 1, c :: r, ln, h, _ => by simp at h
  | k + 1, 0, [], ln, _, _ => rfl
  | k + 1, 0, c :: r, ln, _, h => by simp at h
  | k + 1, m + 1, [], ln, _, _ => rfl
  | k + 1, m + 1, c :: r, ln, h1, h2 => by
    have h1 : r.length ≤ k := by simpa using h1
    have h2 : r.length ≤ m := by simpa using h2
    unfold lxF
    rw [lxF_fuel k m r _ h1 h2, lxF_fuel k m r _ h1 h2, lxF_fuel k m (r.dropWhile notLf) _ (Nat.le_trans (dw_le _ _) h1) (Nat.le_trans (dw_le _ _) h2),
      lxF_fuel k m (r.dropWhile isFig) _ (Nat.le_trans (dw_le _ _) h1) (Nat.le_trans (dw_le _ _) h2), lxF_fuel k m (r.dropWhile isWo) _ (Nat.le_trans (dw_le _ _) h1) (Nat.le_trans (dw_le _ _) h2)]
theorem lx_nil (ln : Int) : lx [] ln = ([], ln, []) := rfl
theorem lx_cons (c : UInt8) (r : List UInt8) (ln : Int) : lx (c :: r) ln =
    if c.toNat = 10 then lx r (ln + 1)
    else if c.toNat = 32 ∨ c.toNat = 9 then lx r ln
    else if c.toNat = 35 then lx (r.dropWhile notLf) ln
    else if isMk c = true then push (3, bs [c], ln) (lx r ln)
    else if isDig c = true then push (2, bs (c :: r.takeWhile isFig), ln) (lx (r.dropWhile isFig) ln)
    else if isLet c = true then push (1, bs (c :: r.takeWhile isWo), ln) (lx (r.dropWhile isWo) ln)
    else ([], ln, c :: r) := by
  show lxF (r.length + 1) (c :: r) ln = _
  unfold lxF lx
  rw [lxF_fuel r.length (r.dropWhile notLf).length (r.dropWhile notLf) _ (dw_le _ _) (Nat.le_refl _),
    lxF_fuel r.length (r.dropWhile isFig).length (r.dropWhile isFig) _ (dw_le _ _) (Nat.le_refl _), lxF_fuel r.length (r.dropWhile isWo).length (r.dropWhile isWo) _ (dw_le _ _) (Nat.le_refl _)]
/-! what tokens are -/
def wordB : List UInt8 → Bool
  | [] => false
  | c :: r => isLet c && r.all isWo
/-- what a token of a text is -/
def TokOk (t : Tok) : Prop := 1 ≤ t.2.2 ∧ ((t.1 = 1 ∧ ∃ w, t.2.1 = bs w ∧ wordB w = true) ∨ (t.1 = 2 ∧ ∃ c w, t.2.1 = bs (c :: w) ∧ isDig c = true ∧ w.all isFig = true) ∨ (t.1 = 3 ∧ ∃ c, t.2.1 = bs [c] ∧ isMk c = true))
theorem tw_all {α : Type} (p : α → Bool) : ∀ l : List α, (l.takeWhile p).all p = true
  | [] => rfl
  | x :: l => by
    rw [List.takeWhile_cons]
    split
    · rename_i h; rw [List.all_cons, h, tw_all p l]; rfl
    · rfl
theorem lx_ok : ∀ (k : Nat) (l : List UInt8) (ln : Int), l.length ≤ k → 1 ≤ ln → (∀ t ∈ (lx l ln).1, TokOk t ∧ t.2.1.size ≤ l.length ∧ t.2.2 ≤ ln + l.length) ∧ ln ≤ (lx l ln).2.1 ∧ (lx l ln).2.1 ≤ ln + l.length ∧ (lx l ln).1.length ≤ l.length
  | k, [], ln, _, h => ⟨fun t ht => (by cases ht), Int.le_refl _, by simp [lx_nil], Nat.le_refl _⟩
  | 0, c :: r, ln, hk, h => by simp at hk
  | k + 1, c :: r, ln, hk, h => by
    have hk : r.length ≤ k := by simpa using hk
    have up : ∀ (m : Nat) (P : LX) (ln2 : Int), m ≤ r.length → ln ≤ ln2 → ln2 ≤ ln + 1 → ((∀ t ∈ P.1, TokOk t ∧ t.2.1.size ≤ m ∧ t.2.2 ≤ ln2 + m) ∧ ln2 ≤ P.2.1 ∧ P.2.1 ≤ ln2 + m ∧ P.1.length ≤ m) →
        ((∀ t ∈ P.1, TokOk t ∧ t.2.1.size ≤ (c :: r).length ∧ t.2.2 ≤ ln + (c :: r).length) ∧ ln ≤ P.2.1 ∧ P.2.1 ≤ ln + (c :: r).length ∧ P.1.length ≤ (c :: r).length) := by
      intro m P ln2 hm h1 h2 hP
      simp only [List.length_cons]
      refine ⟨fun t ht => ⟨(hP.1 t ht).1, by have := (hP.1 t ht).2.1; omega, by have := (hP.1 t ht).2.2; omega⟩, by have := hP.2.1; omega, by have := hP.2.2.1; omega, by have := hP.2.2.2; omega⟩
    have upP : ∀ (m : Nat) (P : LX) (t : Tok), m ≤ r.length → TokOk t → t.2.1.size ≤ r.length + 1 → t.2.2 = ln → ((∀ t ∈ P.1, TokOk t ∧ t.2.1.size ≤ m ∧ t.2.2 ≤ ln + m) ∧ ln ≤ P.2.1 ∧ P.2.1 ≤ ln + m ∧ P.1.length ≤ m) →
        ((∀ t' ∈ (push t P).1, TokOk t' ∧ t'.2.1.size ≤ (c :: r).length ∧ t'.2.2 ≤ ln + (c :: r).length) ∧ ln ≤ (push t P).2.1 ∧ (push t P).2.1 ≤ ln + (c :: r).length ∧ (push t P).1.length ≤ (c :: r).length) := by
      intro m P t hm ht1 ht2 ht3 hP
      unfold push
      simp only [List.length_cons]
      refine ⟨fun t' ht => ?_, by have := hP.2.1; omega, by have := hP.2.2.1; omega, by have := hP.2.2.2; omega⟩
      rcases List.mem_cons.1 ht with rfl | ht
      · exact ⟨ht1, ht2, by omega⟩
      · exact ⟨(hP.1 t' ht).1, by have := (hP.1 t' ht).2.1; omega, by have := (hP.1 t' ht).2.2; omega⟩
    have tl : ∀ p : UInt8 → Bool, (r.takeWhile p).length ≤ r.length := fun p => (List.takeWhile_sublist p).length_le
    rw [lx_cons]
    split
    · exact up _ _ (ln + 1) (Nat.le_refl _) (by omega) (by omega) (lx_ok k r (ln + 1) hk (by omega))
    split
    · exact up _ _ ln (Nat.le_refl _) (by omega) (by omega) (lx_ok k r ln hk h)
    split
    · exact up _ _ ln (dw_le _ _) (by omega) (by omega) (lx_ok k _ ln (Nat.le_trans (dw_le _ _) hk) h)
    split
    · rename_i hm; exact upP _ _ _ (Nat.le_refl _) ⟨h, .inr (.inr ⟨rfl, c, rfl, hm⟩)⟩ (by simp [bs_size]) rfl (lx_ok k r ln hk h)
    split
    · rename_i hm; exact upP _ _ _ (dw_le _ _) ⟨h, .inr (.inl ⟨rfl, c, _, rfl, hm, tw_all _ _⟩)⟩ (by have := tl isFig; simp [bs_size]; exact this) rfl (lx_ok k _ ln (Nat.le_trans (dw_le _ _) hk) h)
    split
    · rename_i hm; exact upP _ _ _ (dw_le _ _) ⟨h, .inl ⟨rfl, _, rfl, by show (isLet c && _) = true; rw [hm, tw_all]; rfl⟩⟩ (by have := tl isWo; simp [bs_size]; exact this) rfl (lx_ok k _ ln (Nat.le_trans (dw_le _ _) hk) h)
    · exact ⟨fun t ht => (by cases ht), Int.le_refl _, by simp only [List.length_cons]; omega, by simp⟩
/-! the program -/
def wordsB : List UInt8 := [97, 98, 99, 100, 101, 102, 103, 104, 105, 106, 107, 108, 109, 110, 111, 112, 113, 114, 115, 116, 117, 118, 119, 120, 121, 122, 48, 49, 50, 51, 52, 53, 54, 55, 56, 57, 45, 95]
def figsB : List UInt8 := [48, 49, 50, 51, 52, 53, 54, 55, 56, 57, 46, 47, 37]
def kd (c : UInt8) : Int := if isLet c then 1 else if isDig c then 2 else if isMk c then 3 else 0
def mr (c : UInt8) : List UInt8 := if isLet c then wordsB else if isDig c then figsB else []
def isBl (c : UInt8) : Bool := decide (c.toNat = 10) || decide (c.toNat = 32) || decide (c.toNat = 9)
theorem byte_all {P : UInt8 → Bool} (h : (List.range 256).all (fun n => P (UInt8.ofNat n)) = true) (c : UInt8) : P c = true := by
  have := (List.all_eq_true.1 h) c.toNat (List.mem_range.2 (by have := c.toNat_lt; omega))
  rwa [UInt8.ofNat_toNat] at this
def opI (o : Option Int) (b : Bool) : Bool := match o with | some x => decide (0 ≤ x) == b | none => false
theorem opI_of {o : Option Int} {b : Bool} (h : opI o b = true) : ∃ x, o = some x ∧ decide (0 ≤ x) = b := by
  cases o with
  | none => cases h
  | some x => exact ⟨x, rfl, eq_of_beq h⟩
theorem kind_eq (c : UInt8) : m_lex_kind (c.toNat : Int) = some (kd c, bs (mr c)) := by
  have h := byte_all (P := fun c => match m_lex_kind (c.toNat : Int) with | some (k, t) => decide (k = kd c) && (t.data.toList == mr c) | none => false) (by kernel_rfl) c
  cases hv : m_lex_kind (c.toNat : Int) with
  | none => rw [hv] at h; cases h
  | some y =>
    obtain ⟨k, t⟩ := y
    rw [hv] at h
    simp only [Bool.and_eq_true, decide_eq_true_eq, beq_iff_eq] at h
    rw [h.1, ← h.2, bs_data]
theorem blank_eq (c : UInt8) : ∃ x, m_strings_IndexByte (bs [32, 9, 10]) (c.toNat : Int) = some x ∧ decide (0 ≤ x) = isBl c :=
  opI_of (byte_all (P := fun c => opI (m_strings_IndexByte (bs [32, 9, 10]) (c.toNat : Int)) (isBl c)) (by kernel_rfl) c)
theorem words_eq (c : UInt8) : ∃ x, m_strings_IndexByte (bs wordsB) (c.toNat : Int) = some x ∧ decide (0 ≤ x) = isWo c :=
  opI_of (byte_all (P := fun c => opI (m_strings_IndexByte (bs wordsB) (c.toNat : Int)) (isWo c)) (by kernel_rfl) c)
theorem figs_eq (c : UInt8) : ∃ x, m_strings_IndexByte (bs figsB) (c.toNat : Int) = some x ∧ decide (0 ≤ x) = isFig c :=
  opI_of (byte_all (P := fun c => opI (m_strings_IndexByte (bs figsB) (c.toNat : Int)) (isFig c)) (by kernel_rfl) c)
theorem none_eq (c : UInt8) : ∃ x, m_strings_IndexByte (bs []) (c.toNat : Int) = some x ∧ decide (0 ≤ x) = false :=
  opI_of (byte_all (P := fun c => opI (m_strings_IndexByte (bs []) (c.toNat : Int)) false) (by kernel_rfl) c)
theorem length_loop (l more : List UInt8) (p : UInt8 → Bool) (hp : ∀ b : UInt8, ∃ x, m_strings_IndexByte (bs more) (b.toNat : Int) = some x ∧ decide (0 ≤ x) = p b) (hl : l.length ≤ 1000000000) :
    ∀ (q : List UInt8) (i : Nat), l.drop i = q → i ≤ l.length → lp (m_lex_length_l1 (bs l) (bs more)) (i : Int) = some (((i + (q.takeWhile p).length : Nat) : Int))
  | [], i, hq, hi => by
    have : i = l.length := by
      have := congrArg List.length hq
      simp at this; omega
    have e1 : decide ((i : Int) < (((bs l).size : Nat) : Int)) = false := decide_eq_false (by rw [bs_size]; omega)
    exact lp_done (by simp only [m_lex_length_l1, e1, Bool.false_eq_true, if_false, bd_some]; rfl)
  | c :: q, i, hq, hi => by
    have hlt := drop_lt hq
    have e1 : decide ((i : Int) < (((bs l).size : Nat) : Int)) = true := decide_eq_true (by rw [bs_size]; omega)
    have e2 := bt_at l i c q hq
    obtain ⟨x, e3, e4⟩ := hp c
    rw [List.takeWhile_cons]
    cases hc : p c with
    | true =>
      rw [hc] at e4
      rw [lp_more (s' := ((i + 1 : Nat) : Int)) (by simp only [m_lex_length_l1, e1, if_true, e2, bd_some, e3, e4]; rw [wi64_eq (by omega) (by omega)]; rfl), length_loop l more p hp hl q (i + 1) (drop_more hq) (by omega)]
      rw [if_pos rfl]
      simp only [List.length_cons]
      congr 1; congr 1; omega
    | false =>
      rw [hc] at e4
      exact lp_done (by simp only [m_lex_length_l1, e1, if_true, e2, bd_some, e3, e4, Bool.false_eq_true, if_false]; rfl)
theorem length_eq (c : UInt8) (r more : List UInt8) (p : UInt8 → Bool) (hp : ∀ b : UInt8, ∃ x, m_strings_IndexByte (bs more) (b.toNat : Int) = some x ∧ decide (0 ≤ x) = p b) (hl : r.length < 1000000000) :
    m_lex_length (bs (c :: r)) (bs more) = some ((1 + (r.takeWhile p).length : Nat) : Int) := by
  unfold m_lex_length
  have := length_loop (c :: r) more p hp (by simp; omega) r 1 rfl (by simp)
  rw [show ((1 : Nat) : Int) = 1 from rfl] at this
  rw [this, bd_some]
theorem idx_lf : ∀ l : List UInt8, Lib.indexByte l 10 = if (l.takeWhile notLf).length < l.length then ((l.takeWhile notLf).length : Int) else -1
  | [] => rfl
  | b :: l => by
    unfold Lib.indexByte
    rw [idx_lf l, List.takeWhile_cons]
    have hn : notLf b = !(b == 10) := by
      unfold notLf
      by_cases h : b = 10
      · subst h; rfl
      · have h2 : b.toNat ≠ 10 := fun e => h (UInt8.toNat_inj.1 e)
        rw [decide_eq_true h2, beq_false_of_ne h]; rfl
    rw [hn]
    cases hb : (b == 10) with
    | true => simp
    | false =>
      simp only [Bool.false_eq_true, if_false, Bool.not_false, if_true, List.length_cons]
      split
      · rename_i h; rw [if_neg (by simp), if_pos (by omega)]; omega
      · rename_i h; rw [if_pos (by simp), if_neg (by omega)]
theorem pass_hash (r : List UInt8) (hl : r.length < 1000000000) : m_lex_pass (bs (35 :: r)) = some ((1 + (r.takeWhile notLf).length : Nat) : Int) := by
  have e1 : bt (bs (35 :: r)) 0 = some 35 := bt_at (35 :: r) 0 35 r rfl
  have e2 : m_strings_IndexByte (bs (35 :: r)) 10 = some (Lib.indexByte (35 :: r) 10) := by
    unfold m_strings_IndexByte m_internal_stringslite_IndexByte
    rw [bd_some]
    congr 1
    exact Lib.firstIdx_eq (bs (35 :: r)) 10
  have e3 : ((35 : UInt8) :: r).takeWhile notLf = 35 :: r.takeWhile notLf := rfl
  unfold m_lex_pass
  rw [e1, bd_some, if_neg (by decide), e2, bd_some, idx_lf, e3]
  simp only [List.length_cons]
  have h := (List.takeWhile_sublist notLf (l := r)).length_le
  by_cases hc : (r.takeWhile notLf).length + 1 < r.length + 1
  · rw [if_pos hc, if_pos (decide_eq_true (by omega))]; congr 1; omega
  · rw [if_neg hc, if_neg (by decide), bs_size]; simp only [List.length_cons]; congr 1; omega
theorem pass_one (c : UInt8) (r : List UInt8) (h : c.toNat ≠ 35) : m_lex_pass (bs (c :: r)) = some 1 := by
  unfold m_lex_pass
  rw [show bt (bs (c :: r)) 0 = some (c.toNat : Int) from bt_at (c :: r) 0 c r rfl, bd_some, if_pos (by simp; omega)]
theorem drop_dw {α : Type} (p : α → Bool) : ∀ l : List α, l.drop (l.takeWhile p).length = l.dropWhile p
  | [] => rfl
  | x :: l => by
    rw [List.takeWhile_cons, List.dropWhile_cons]
    split
    · simpa using drop_dw p l
    · rfl
theorem take_tw {α : Type} (p : α → Bool) : ∀ l : List α, l.take (l.takeWhile p).length = l.takeWhile p
  | [] => rfl
  | x :: l => by
    rw [List.takeWhile_cons]
    split
    · simpa using take_tw p l
    · rfl
theorem ext_drop (l : List UInt8) (n : Nat) : (bs l).extract n (bs l).size = bs (l.drop n) := by
  apply ByteArray.ext
  apply Array.ext'
  rw [ByteArray.data_extract, Array.toList_extract]
  show List.extract l n l.length = _
  rw [List.extract_eq_take_drop, List.take_of_length_le (by simp)]
  rfl
theorem ext_take (l : List UInt8) (n : Nat) : (bs l).extract 0 n = bs (l.take n) := by
  apply ByteArray.ext
  apply Array.ext'
  rw [ByteArray.data_extract, Array.toList_extract]
  show List.extract l 0 n = _
  rw [List.extract_eq_take_drop]
  simp [bs]
theorem tokR_eq : ∀ (k : Nat) (l : List UInt8) (ln : Int), l.length < k → l.length < 1000000000 → 1 ≤ ln → ln + l.length ≤ 1000000000000 →
    tokR k (bs l) ln = some ((lx l ln).1 ++ [(0, bs (lx l ln).2.2, (lx l ln).2.1)])
  | 0, _, _, h, _, _, _ => absurd h (Nat.not_lt_zero _)
  | k + 1, [], ln, _, _, _, _ => by unfold tokR; rw [if_pos (show (bs []).size = 0 from rfl)]; rfl
  | k + 1, c :: r, ln, hk, hl, h1, h2 => by
    have hk : r.length < k := by simpa using hk
    have hl' : r.length < 1000000000 := by simp at hl; omega
    have h2 : ln + r.length + 1 ≤ 1000000000000 := by simp at h2; omega
    have e1 : bt (bs (c :: r)) 0 = some (c.toNat : Int) := bt_at (c :: r) 0 c r rfl
    obtain ⟨x, e3, e4⟩ := blank_eq c
    have hx : (0 ≤ x) ↔ isBl c = true := by rw [← e4]; simp
    have hsz : (bs (c :: r)).size = r.length + 1 := by rw [bs_size]; rfl
    unfold tokR
    rw [if_neg (by rw [hsz]; omega), e1, bd_some, kind_eq, bd_some, e3, bd_some]
    have h35 : ((c.toNat : Int) = 35) ↔ c.toNat = 35 := by omega
    have h10 : ((c.toNat : Int) = 10) ↔ c.toNat = 10 := by omega
    have go : ∀ (n : Nat) (ln2 : Int) (m : Nat), 1 ≤ n → n ≤ r.length + 1 → (c :: r).drop n = r.drop m → m ≤ r.length → 1 ≤ ln2 → ln2 ≤ ln + 1 → tokR k ((bs (c :: r)).extract ((n : Int).toNat) (bs (c :: r)).size) ln2 = some ((lx (r.drop m) ln2).1 ++ [(0, bs (lx (r.drop m) ln2).2.2, (lx (r.drop m) ln2).2.1)]) := by
      intro n ln2 m g1 g2 g3 g4 g5 g6
      rw [Int.toNat_natCast, ext_drop, g3]
      exact tokR_eq k _ ln2 (by simp; omega) (by simp; omega) g5 (by simp; omega)
    have g1 : ∀ m, (c :: r).drop (1 + m) = r.drop m := fun m => by rw [Nat.add_comm]; rfl
    have tl : ∀ p : UInt8 → Bool, (r.takeWhile p).length ≤ r.length := fun p => (List.takeWhile_sublist p).length_le
    rw [lx_cons]
    by_cases hbl : isBl c = true
    · -- blanks
      have hc35 : c.toNat ≠ 35 := by intro h; unfold isBl at hbl; rw [h] at hbl; cases hbl
      have hcon : ¬ ((c.toNat : Int) ≠ 35 ∧ ¬ 0 ≤ x ∧ kd c = 0) := fun h => h.2.1 (hx.2 hbl)
      have hor : ((c.toNat : Int) = 35 ∨ 0 ≤ x) := .inr (hx.2 hbl)
      have hmr : mr c = [] := by
        unfold mr
        have a1 : isLet c = false := by unfold isBl at hbl; unfold isLet; simp only [Bool.or_eq_true, decide_eq_true_eq] at hbl; simp only [Bool.and_eq_false_iff, decide_eq_false_iff_not]; omega
        have a2 : isDig c = false := by unfold isBl at hbl; unfold isDig; simp only [Bool.or_eq_true, decide_eq_true_eq] at hbl; simp only [Bool.and_eq_false_iff, decide_eq_false_iff_not]; omega
        rw [a1, a2]; rfl
      rw [if_neg hcon, hmr, length_eq c r [] _ none_eq hl', bd_some, if_pos hor, pass_one c r hc35, bd_some, if_pos (by rw [hsz]; omega)]
      by_cases hc : c.toNat = 10
      · have g := go 1 (ln + 1) 0 (by omega) (by omega) (g1 0) (by omega) (by omega) (by omega)
        rw [if_pos (h10.2 hc), wi64_eq (by omega) (by omega)]
        rw [show ((1 : Nat) : Int) = 1 from rfl] at g
        rw [g, bd_some, if_pos hor, if_pos hc]; rfl
      · have g := go 1 ln 0 (by omega) (by omega) (g1 0) (by omega) (by omega) (by omega)
        have hc2 : c.toNat = 32 ∨ c.toNat = 9 := by unfold isBl at hbl; simp only [Bool.or_eq_true, decide_eq_true_eq] at hbl; omega
        rw [if_neg (fun h => hc (h10.1 h))]
        rw [show ((1 : Nat) : Int) = 1 from rfl] at g
        rw [g, bd_some, if_pos hor, if_neg hc, if_pos hc2]; rfl
    · have hbl' : isBl c = false := by simpa using hbl
      have hn10 : c.toNat ≠ 10 := by intro h; apply hbl; unfold isBl; rw [h]; rfl
      have hn32 : ¬ (c.toNat = 32 ∨ c.toNat = 9) := by rintro (h | h) <;> (apply hbl; unfold isBl; rw [h]; rfl)
      rw [if_neg hn10, if_neg hn32]
      by_cases hh : c.toNat = 35
      · have hcon : ¬ ((c.toNat : Int) ≠ 35 ∧ ¬ 0 ≤ x ∧ kd c = 0) := fun h => h.1 (h35.2 hh)
        have hor : ((c.toNat : Int) = 35 ∨ 0 ≤ x) := .inl (h35.2 hh)
        obtain rfl : c = 35 := UInt8.toNat_inj.1 hh
        have g := go (1 + (r.takeWhile notLf).length) ln (r.takeWhile notLf).length (by omega) (by have := tl notLf; omega) (g1 _) (tl _) h1 (by omega)
        rw [if_neg hcon, show mr (35 : UInt8) = [] from rfl, length_eq 35 r [] _ none_eq hl', bd_some, if_pos hor, pass_hash r hl', bd_some, if_pos (by rw [hsz]; have := tl notLf; omega), if_neg (fun h => hn10 (h10.1 h)), g, bd_some, if_pos hor, if_pos hh, drop_dw]
      · have hor : ¬ ((c.toNat : Int) = 35 ∨ 0 ≤ x) := fun h => h.elim (fun h => hh (h35.1 h)) (fun h => hbl (hx.1 h))
        rw [if_neg hh]
        have fin : ∀ (p : UInt8 → Bool) (K : Int), kd c = K → K ≠ 0 → (∀ b : UInt8, ∃ x, m_strings_IndexByte (bs (mr c)) (b.toNat : Int) = some x ∧ decide (0 ≤ x) = p b) →
            (if (c.toNat : Int) ≠ 35 ∧ ¬ 0 ≤ x ∧ kd c = 0 then some [(0, bs (c :: r), ln)] else
              bd (m_lex_length (bs (c :: r)) (bs (mr c))) fun n1 => bd (if (c.toNat : Int) = 35 ∨ 0 ≤ x then m_lex_pass (bs (c :: r)) else some n1) fun n =>
              if 1 ≤ n ∧ n ≤ (bs (c :: r)).size then bd (tokR k ((bs (c :: r)).extract n.toNat (bs (c :: r)).size) (if (c.toNat : Int) = 10 then wi64 (ln + 1) else ln)) fun r_1 =>
                some (if (c.toNat : Int) = 35 ∨ 0 ≤ x then r_1 else (kd c, (bs (c :: r)).extract 0 n.toNat, ln) :: r_1) else none) =
            some ((push (K, bs (c :: r.takeWhile p), ln) (lx (r.dropWhile p) ln)).1 ++ [(0, bs (push (K, bs (c :: r.takeWhile p), ln) (lx (r.dropWhile p) ln)).2.2, (push (K, bs (c :: r.takeWhile p), ln) (lx (r.dropWhile p) ln)).2.1)]) := by
          intro p K hK hK0 hp
          have g := go (1 + (r.takeWhile p).length) ln (r.takeWhile p).length (by omega) (by have := tl p; omega) (g1 _) (tl _) h1 (by omega)
          rw [if_neg (fun h => hK0 (hK ▸ h.2.2)), length_eq c r (mr c) p hp hl', bd_some, if_neg hor, bd_some, if_pos (by rw [hsz]; have := tl p; omega), if_neg (fun h => hn10 (h10.1 h)), g, bd_some, if_neg hor, drop_dw, Int.toNat_natCast, ext_take, hK]
          rw [show (c :: r).take (1 + (r.takeWhile p).length) = c :: r.takeWhile p by rw [Nat.add_comm, List.take_succ_cons, take_tw]]
          rfl
        by_cases hL : isLet c = true
        · have hmk : isMk c = false := by unfold isLet at hL; unfold isMk; simp only [Bool.and_eq_true, decide_eq_true_eq] at hL; simp only [Bool.or_eq_false_iff, decide_eq_false_iff_not]; omega
          have hdg : isDig c = false := by unfold isLet at hL; unfold isDig; simp only [Bool.and_eq_true, decide_eq_true_eq] at hL; simp only [Bool.and_eq_false_iff, decide_eq_false_iff_not]; omega
          rw [hmk, hdg, if_neg Bool.false_ne_true, if_neg Bool.false_ne_true, if_pos hL]
          exact fin isWo 1 (by unfold kd; rw [hL]; rfl) (by decide) (by unfold mr; rw [hL]; exact words_eq)
        · have hL' : isLet c = false := by simpa using hL
          rw [hL']
          by_cases hD : isDig c = true
          · have hmk : isMk c = false := by unfold isDig at hD; unfold isMk; simp only [Bool.and_eq_true, decide_eq_true_eq] at hD; simp only [Bool.or_eq_false_iff, decide_eq_false_iff_not]; omega
            rw [hmk, if_neg Bool.false_ne_true, if_pos hD]
            exact fin isFig 2 (by unfold kd; rw [hL', hD]; rfl) (by decide) (by unfold mr; rw [hL', hD]; exact figs_eq)
          · have hD' : isDig c = false := by simpa using hD
            rw [hD']
            by_cases hM : isMk c = true
            · rw [if_pos hM]
              have := fin (fun _ => false) 3 (by unfold kd; rw [hL', hD', hM]; rfl) (by decide) (by unfold mr; rw [hL', hD']; exact none_eq)
              rw [this]
              have t1 : r.takeWhile (fun _ => false) = [] := by cases r <;> rfl
              have t2 : r.dropWhile (fun _ => false) = r := by cases r <;> rfl
              rw [t1, t2]
            · rw [if_neg hM, if_neg Bool.false_ne_true, if_neg Bool.false_ne_true, if_pos ⟨fun h => hh (h35.1 h), fun h => hbl (hx.1 h), by unfold kd; rw [hL', hD']; simp [hM]⟩]
              rfl
/-- all tokens, the last line, and whether the text is one of tokens -/
def allV (l : List UInt8) : List Tok × Int × Int := if (lx l 1).2.2 = [] then ((lx l 1).1, (lx l 1).2.1, 0) else ([], (lx l 1).2.1, 21)
theorem kind_ne {t : Tok} (h : TokOk t) : t.1 ≠ 0 := by
  rcases h.2 with h | h | h <;> (rw [h.1]; decide)
theorem lexAll_eq (l : List UInt8) (hl : l.length ≤ 1000000) : m_lex_All (bs l) = some (allV l) := by
  obtain ⟨h1, h2, h3, h4⟩ := lx_ok l.length l 1 (Nat.le_refl _) (by omega)
  unfold m_lex_All
  rw [tokR_eq _ l 1 (by rw [bs_size]; omega) (by omega) (by omega) (by omega), bd_some, if_pos (by simp; omega)]
  congr 1
  have hk : ∀ t ∈ (lx l 1).1, t.1 ≠ 0 := fun t ht => kind_ne (h1 t ht).1
  have hf : List.find? (fun t : Tok => t.1 == 0 && !(t.2.1.size == 0)) (lx l 1).1 = none := List.find?_eq_none.2 (fun t ht => by
    have := hk t ht
    simp [this])
  unfold allR firstBad allV
  rw [List.find?_append, hf]
  by_cases hr : (lx l 1).2.2 = []
  · rw [if_pos hr, hr]
    have : kept ((lx l 1).1 ++ [(0, bs [], (lx l 1).2.1)]) = (lx l 1).1 := by
      unfold kept
      rw [List.filter_append, List.filter_eq_self.2 (fun t ht => by simpa using hk t ht)]
      simp
    rw [this]
    show (_, lastLine _, _) = _
    unfold lastLine
    simp
  · rw [if_neg hr]
    have : (bs (lx l 1).2.2).size ≠ 0 := by rw [bs_size]; exact fun h => hr (List.eq_nil_of_length_eq_zero h)
    simp [this]
end Go.Proofs.YtboghejfmmigkaaDoor.AP
/- Tokens of a text: the document's way comes to the same. -/
namespace Go.Proofs.YtboghejfmmigkaaDoor.AP
open Go Go.Proofs.YtboghejfmmigkaaDoor.Tri
set_option linter.unusedVariables false
set_option linter.unusedSimpArgs false
set_option maxRecDepth 4000
def finV (acc : List Tok) (x : LX) : List Tok × Int × Int := if x.2.2 = [] then (acc ++ x.1, x.2.1, 0) else ([], x.2.1, 21)
end Go.Proofs.YtboghejfmmigkaaDoor.AP
/- Masks and prefixes, plain. -/
namespace Go.Proofs.YtboghejfmmigkaaDoor.AP
open Go
set_option linter.unusedVariables false
set_option linter.unusedSimpArgs false
/-- how many addresses begin with the same n bits -/
def S32 (n : Int) : Int := 2 ^ (32 - n).toNat

theorem S32_pos (n : Int) : 0 < S32 n := Int.pow_pos (by decide)
theorem S32_le (n : Int) (h : 0 ≤ n) : S32 n ≤ 4294967296 := by
  have h1 : (32 - n).toNat ≤ 32 := by omega
  obtain ⟨d, hd⟩ := Nat.exists_eq_add_of_le h1
  have h2 : (4294967296 : Int) = 2 ^ (32 - n).toNat * 2 ^ d := by rw [← Int.pow_add, ← hd]; decide
  have h3 : (1 : Int) ≤ 2 ^ d := by have : (0 : Int) < 2 ^ d := Int.pow_pos (by decide); omega
  have h4 : (0 : Int) < 2 ^ (32 - n).toNat := Int.pow_pos (by decide)
  unfold S32
  rw [h2]
  have := Int.mul_le_mul_of_nonneg_left h3 (Int.le_of_lt h4)
  omega
theorem S32_nat (n : Int) : S32 n = ((2 ^ (32 - n).toNat : Nat) : Int) := by unfold S32; simp

theorem bits_andNot_mask (a n : Int) (ha0 : 0 ≤ a) (ha : a < 4294967296) (h0 : 0 ≤ n) : Go.bits .andNot .u32 a (4294967296 - S32 n) = a % S32 n := by
  have hS := S32_le n h0
  have hp := S32_pos n
  rw [u32_andNot a _ ha0 ha (by omega) (by omega)]
  obtain ⟨x, rfl⟩ := Int.eq_ofNat_of_zero_le ha0
  have e2 : 4294967295 - (4294967296 - S32 n).toNat = 2 ^ (32 - n).toNat - 1 := by
    rw [S32_nat] at hS hp ⊢; omega
  rw [e2, Int.toNat_natCast, Nat.and_two_pow_sub_one_eq_mod, S32_nat]
  simp

theorem mask_eq (n : Int) (h0 : 0 ≤ n) (h1 : n ≤ 32) : m_addr_Mask n = some (4294967296 - S32 n) := by
  have key : ∀ m : Int, 0 ≤ m → m ≤ 32 → (IntKind.u64.wrap (4294967295 * 2 ^ (min (32 - m).toNat IntKind.u64.bits))) % 4294967296 = 4294967296 - S32 m := by
    intro m h0 h1
    have h2 : m = 0 ∨ m = 1 ∨ m = 2 ∨ m = 3 ∨ m = 4 ∨ m = 5 ∨ m = 6 ∨ m = 7 ∨ m = 8 ∨ m = 9 ∨ m = 10 ∨ m = 11 ∨ m = 12 ∨ m = 13 ∨ m = 14 ∨ m = 15 ∨ m = 16 ∨ m = 17 ∨ m = 18 ∨ m = 19 ∨ m = 20 ∨ m = 21 ∨ m = 22 ∨ m = 23 ∨ m = 24 ∨ m = 25 ∨ m = 26 ∨ m = 27 ∨ m = 28 ∨ m = 29 ∨ m = 30 ∨ m = 31 ∨ m = 32 := by omega
    unfold S32
    rcases h2 with rfl | rfl | rfl | rfl | rfl | rfl | rfl | rfl | rfl | rfl | rfl | rfl | rfl | rfl | rfl | rfl | rfl | rfl | rfl | rfl | rfl | rfl | rfl | rfl | rfl | rfl | rfl | rfl | rfl | rfl | rfl | rfl | rfl <;> decide
  unfold m_addr_Mask
  rw [Int.max_eq_left h0, Int.min_eq_left h1, wi64_eq (by omega) (by omega)]
  unfold sh
  rw [if_pos (by omega), bd_some, wu32_mod, key n h0 h1]
/-- may a prefix be? -/
def mayP (p : D_api_Prefix) : Bool := decide (0 ≤ p.2) && decide (p.2 ≤ 32) && decide (p.1 % S32 p.2 = 0)
theorem may_eq (p : D_api_Prefix) (h0 : 0 ≤ p.1) (h1 : p.1 < 4294967296) : m_addr_May p = some (mayP p) := by
  unfold m_addr_May mayP
  by_cases a : 0 ≤ p.2
  · by_cases b : p.2 ≤ 32
    · rw [if_pos (decide_eq_true a), if_pos (decide_eq_true b), mask_eq _ a b, bd_some, lt_eq, bits_andNot_mask p.1 p.2 h0 h1 a]
      simp [a, b]
    · rw [if_pos (decide_eq_true a), if_neg (by simpa using b)]
      simp [a, b]
  · rw [if_neg (by simpa using a)]
    simp [a]
end Go.Proofs.YtboghejfmmigkaaDoor.AP
/- Addresses and prefixes of texts: the program's way and the document's. -/
namespace Go.Proofs.YtboghejfmmigkaaDoor.AP
open Go Go.RowKit Go.Proofs.YtboghejfmmigkaaDoor.Tri
set_option linter.unusedVariables false
set_option linter.unusedSimpArgs false
set_option maxRecDepth 4000
/-- a text before a byte, and behind it -/
def cutC (c : UInt8) : List UInt8 → List UInt8 × List UInt8 × Bool
  | [] => ([], [], false)
  | x :: l => if x = c then ([], l, true) else (x :: (cutC c l).1, (cutC c l).2.1, (cutC c l).2.2)
theorem cutC_app (c : UInt8) : ∀ l : List UInt8, l = (cutC c l).1 ++ (if (cutC c l).2.2 then c :: (cutC c l).2.1 else []) ∧ ((cutC c l).2.2 = false → (cutC c l).2.1 = [])
  | [] => ⟨rfl, fun _ => rfl⟩
  | x :: l => by
    obtain ⟨h1, h2⟩ := cutC_app c l
    unfold cutC
    split
    · rename_i h; subst h; exact ⟨rfl, fun h => by cases h⟩
    · refine ⟨?_, h2⟩
      rw [List.cons_append, ← h1]
theorem cutC_idx (c : UInt8) : ∀ l : List UInt8, Lib.indexByte l c = if (cutC c l).2.2 then ((cutC c l).1.length : Int) else -1
  | [] => rfl
  | x :: l => by
    have ih := cutC_idx c l
    unfold Lib.indexByte cutC
    by_cases h : x = c
    · subst h; simp
    · rw [if_neg (show ¬ (x == c) = true by simpa using h), if_neg h, ih]
      dsimp only
      cases hf : (cutC c l).2.2 with
      | true => rw [if_pos rfl, if_pos rfl, if_neg (by rw [beq_iff_eq]; omega)]; simp
      | false => rfl
theorem byteIdx (l : List UInt8) (c : UInt8) : m_internal_stringslite_IndexByte (bs l) (c.toNat : Int) = some (Lib.indexByte l c) := by
  unfold m_internal_stringslite_IndexByte
  congr 1
  have := Lib.firstIdx_eq (bs l) ((c.toNat : Int).toNat.toUInt8)
  rw [show (c.toNat : Int).toNat.toUInt8 = c by simp] at this
  unfold ixb
  rw [show (c.toNat : Int).toNat.toUInt8 = c by simp]
  exact this
theorem index1c (l : List UInt8) (c : UInt8) : m_internal_stringslite_Index (bs l) (bs [c]) = some (if (cutC c l).2.2 then ((cutC c l).1.length : Int) else -1) := by
  have e1 : decide ((((bs [c]).size : Nat) : Int) = 0) = false := by rw [bs_size]; rfl
  have e2 : decide ((((bs [c]).size : Nat) : Int) = 1) = true := by rw [bs_size]; rfl
  have e3 : bt (bs [c]) 0 = some (c.toNat : Int) := bt_at [c] 0 c [] rfl
  unfold m_internal_stringslite_Index
  rw [e1, if_neg Bool.false_ne_true, bd_some, sq_bs]
  by_cases h : [c] = l
  · rw [decide_eq_true h, if_pos rfl, ← h]
    unfold cutC
    rw [if_pos rfl]
    rfl
  · rw [decide_eq_false h, if_neg Bool.false_ne_true, e2, if_pos rfl, e3, bd_some, byteIdx, bd_some, cutC_idx]
theorem cut1c (l : List UInt8) (c : UInt8) (hl : l.length ≤ 1000000) : m_strings_Cut (bs l) (bs [c]) = some (bs (cutC c l).1, bs (cutC c l).2.1, (cutC c l).2.2) := by
  obtain ⟨h1, h2⟩ := cutC_app c l
  unfold m_strings_Cut m_internal_stringslite_Cut
  rw [index1c, bd_some]
  generalize hA : (cutC c l).1 = a at *
  generalize hB : (cutC c l).2.1 = b at *
  cases hC : (cutC c l).2.2 with
  | true =>
    rw [hC, if_pos rfl] at h1
    have hlen := congrArg List.length h1
    simp only [List.length_append, List.length_cons] at hlen
    have e1 : cs (bs l) 0 ((a.length : Nat) : Int) = some (bs a) := by
      have := cs_bs l 0 a.length (by omega) (by omega)
      rw [List.drop_zero] at this
      conv at this => rhs; rw [h1]
      rw [List.take_left' rfl] at this
      exact this
    have e2 : wi64 ((a.length : Int) + (((bs [c]).size : Nat) : Int)) = ((a.length + 1 : Nat) : Int) := by
      show wi64 ((a.length : Int) + 1) = _
      rw [wi64_eq (by omega) (by omega)]; omega
    have e3 : cs (bs l) ((a.length + 1 : Nat) : Int) (((bs l).size : Nat) : Int) = some (bs b) := by
      have := cs_bs l (a.length + 1) l.length (by omega) (Nat.le_refl _)
      rw [List.take_length] at this
      conv at this => rhs; rw [h1]
      rw [show a ++ c :: b = (a ++ [c]) ++ b by simp, List.drop_left' (by simp)] at this
      exact this
    rw [if_pos rfl, if_pos (decide_eq_true (by omega)), e1, bd_some, e2, e3, bd_some, bd_some]
  | false =>
    rw [hC] at h1 h2
    rw [h2 rfl]
    rw [if_neg (by decide), List.append_nil] at h1
    rw [if_neg (show ¬ decide ((0 : Int) ≤ if false = true then (a.length : Int) else -1) = true by simp), bd_some, ← h1]
/-- a text's pieces -/
def spB (c : UInt8) : List UInt8 → List (List UInt8)
  | [] => [[]]
  | x :: r => if x = c then [] :: spB c r else match spB c r with | p :: ps => (x :: p) :: ps | [] => [[x]]
theorem spB_ne (c : UInt8) : ∀ l, spB c l ≠ []
  | [] => by unfold spB; simp
  | x :: r => by
    unfold spB
    split
    · simp
    · split <;> simp
theorem spB_cons (c x : UInt8) (r : List UInt8) : spB c (x :: r) = if x = c then [] :: spB c r else match spB c r with | p :: ps => (x :: p) :: ps | [] => [[x]] := rfl
theorem cutC_cons (c x : UInt8) (r : List UInt8) : cutC c (x :: r) = if x = c then ([], r, true) else (x :: (cutC c r).1, (cutC c r).2.1, (cutC c r).2.2) := rfl
theorem spB_cut (c : UInt8) : ∀ l, spB c l = if (cutC c l).2.2 then (cutC c l).1 :: spB c (cutC c l).2.1 else [(cutC c l).1]
  | [] => rfl
  | x :: r => by
    rw [spB_cons, cutC_cons]
    by_cases h : x = c
    · rw [if_pos h, if_pos h]; simp
    · rw [if_neg h, if_neg h, spB_cut c r]
      dsimp only
      cases hf : (cutC c r).2.2 with
      | true => simp
      | false => simp
/-- a number of three digits at most -/
def numB (l : List UInt8) : Option Nat := if l = [] ∨ 3 < l.length ∨ (1 < l.length ∧ l.head? = some 48) then none else rdN l 0
theorem numB_lt {l : List UInt8} {n : Nat} (h : numB l = some n) : n < 1000 := by
  unfold numB at h
  split at h
  · cases h
  · rename_i hc
    have := rdN_lt l 0 n 0 h (by decide)
    have h2 : 10 ^ (0 + l.length) ≤ 10 ^ 3 := Nat.pow_le_pow_right (by decide) (by omega)
    omega
def numR (o : Option Nat) : Int × Int := match o with | some n => ((n : Int), 0) | none => (0, 5)
theorem num_head (l : List UInt8) : (if sq (bs l) (bs []) = true then some true else if decide (3 < (((bs l).size : Nat) : Int)) = true then some true else if decide (1 < (((bs l).size : Nat) : Int)) = true then bd (bt (bs l) 0) (fun x5 => some (decide (x5 = 48))) else some false) =
    some (decide (l = [] ∨ 3 < l.length ∨ (1 < l.length ∧ l.head? = some 48))) := by
  rw [sq_bs, bs_size]
  cases l with
  | nil => rfl
  | cons c r =>
    have e : bt (bs (c :: r)) 0 = some (c.toNat : Int) := bt_at (c :: r) 0 c r rfl
    have h48 : ((c.toNat : Int) = 48) ↔ (c :: r).head? = some 48 := by
      constructor
      · intro h; have : c.toNat = 48 := by omega
        rw [show c = 48 from UInt8.toNat_inj.1 this]; rfl
      · intro h; have : c = 48 := by simpa using h
        rw [this]; rfl
    rw [if_neg (by simp), e, bd_some]
    by_cases h3 : 3 < (c :: r).length
    · rw [if_pos (decide_eq_true (by omega)), decide_eq_true (.inr (.inl h3))]
    · rw [if_neg (by rw [decide_eq_true_eq]; omega)]
      by_cases h1 : 1 < (c :: r).length
      · rw [if_pos (decide_eq_true (by omega))]
        congr 1
        apply decide_eq_decide.2
        rw [h48]
        constructor
        · intro h; exact .inr (.inr ⟨h1, h⟩)
        · rintro (h | h | h)
          · cases h
          · exact absurd h h3
          · exact h.2
      · rw [if_neg (by rw [decide_eq_true_eq]; omega), decide_eq_false]
        rintro (h | h | h)
        · cases h
        · exact h3 h
        · exact h1 h.1
theorem number_loop (l : List UInt8) (hl : l.length ≤ 3) : ∀ (q : List UInt8) (i : Nat) (v : Nat), l.drop i = q → i ≤ l.length → v < 10 ^ i →
    lp (m_addr_number_l1 (bs l)) ((v : Int), i) = some (numR (rdN q v))
  | [], i, v, hq, hi, hv => by
    have : i = l.length := by
      have := congrArg List.length hq
      simp at this; omega
    have e1 : decide (i < (bs l).size) = false := decide_eq_false (by rw [bs_size]; omega)
    exact lp_done (by simp only [m_addr_number_l1, e1, Bool.false_eq_true, if_false]; rfl)
  | c :: q, i, v, hq, hi, hv => by
    have hlt := drop_lt hq
    have e1 : decide (i < (bs l).size) = true := decide_eq_true (by rw [bs_size]; omega)
    have hv2 : v < 1000 := Nat.lt_of_lt_of_le hv (Nat.pow_le_pow_right (by decide) (show i ≤ 3 by omega))
    have bad : ∀ x : Int, dc1 (bs l) i = x → (x < 48 ∨ 57 < x) → dgt c = none → lp (m_addr_number_l1 (bs l)) ((v : Int), i) = some (numR (rdN (c :: q) v)) := by
      intro x hx hb hd
      refine lp_done ?_
      simp only [m_addr_number_l1, e1, if_true, hx]
      unfold rdN
      rw [hd]
      rcases hb with hb | hb
      · rw [if_pos (decide_eq_true hb)]; rfl
      · rw [if_neg (by rw [decide_eq_true_eq]; omega), decide_eq_true hb]; rfl
    by_cases hc : c.toNat < 128
    · obtain ⟨d1, d2⟩ := dc_low l i c q hq hc
      by_cases hd : 48 ≤ c.toNat ∧ c.toNat ≤ 57
      · have hdg : dgt c = some (c.toNat - 48) := by unfold dgt; rw [if_pos hd]
        have w : wi64 (wi64 (10 * (v : Int)) + wi64 (wi32 ((c.toNat : Int) - 48))) = ((v * 10 + (c.toNat - 48) : Nat) : Int) := by
          rw [wi32_eq (by omega) (by omega), wi64_eq (x := 10 * (v : Int)) (by omega) (by omega), wi64_eq (x := (c.toNat : Int) - 48) (by omega) (by omega), wi64_eq (by omega) (by omega)]; omega
        rw [lp_more (s' := (((v * 10 + (c.toNat - 48) : Nat) : Int), i + 1)) (by
          simp only [m_addr_number_l1, e1, if_true, d1, d2]
          rw [if_neg (by rw [decide_eq_true_eq]; omega), bd_some]
          dsimp only
          rw [if_neg (by rw [decide_eq_true_eq]; omega), lt_eq, w])]
        rw [number_loop l hl q (i + 1) _ (drop_more hq) (by omega) (by rw [Nat.pow_succ]; omega)]
        congr 2
        conv => rhs; unfold rdN
        rw [hdg]
      · refine bad _ d1 (by omega) (by unfold dgt; rw [if_neg hd])
    · exact bad _ rfl (.inr (by have := dc_high l i c q hq (by omega); omega)) (by unfold dgt; rw [if_neg (by omega)])
theorem number_eq (l : List UInt8) : m_addr_number (bs l) = some (numR (numB l)) := by
  unfold m_addr_number numB
  rw [num_head, bd_some]
  by_cases h : l = [] ∨ 3 < l.length ∨ (1 < l.length ∧ l.head? = some 48)
  · rw [if_pos (decide_eq_true h), if_pos h]; rfl
  · rw [if_neg (by rw [decide_eq_true_eq]; exact h), if_neg h]
    exact number_loop l (by omega) l 0 0 rfl (by omega) (by decide)
/-- an address of its pieces -/
def adr : Nat → Int → Bool → List (List UInt8) → Int × Int
  | 0, v, g, ps => if ps ≠ [] then (0, 5) else if g then (0, 22) else (v, 0)
  | k + 1, v, g, [] => (0, 5)
  | k + 1, v, g, p :: ps => match numB p with
    | none => (0, 5)
    | some n => adr k (v * 256 + ((n % 256 : Nat) : Int)) (g || decide (255 < n)) ps
def addrB (l : List UInt8) : Int × Int := adr 4 0 false (spB 46 l)
theorem and255i (n : Int) : Go.bits .and .i64 n 255 = n % 256 := by
  have h255 : (BitVec.ofInt 64 255).toNat = 2 ^ 8 - 1 := by decide
  have key : (BitVec.ofInt 64 n &&& BitVec.ofInt 64 255).toNat = (n % ((2 ^ 64 : Nat) : Int)).toNat % 2 ^ 8 := by
    rw [BitVec.toNat_and, BitVec.toNat_ofInt, h255, Nat.and_two_pow_sub_one_eq_mod]
  show IntKind.i64.wrap ((BitVec.ofInt 64 n &&& BitVec.ofInt 64 255).toNat : Nat) = n % 256
  rw [key, IntKind.wrap_i64]
  omega
theorem or8 (v : Int) (m : Nat) (h0 : 0 ≤ v) (h1 : v < 16777216) (hm : m < 256) : Go.bits .or .u32 (v * 256) (m : Int) = v * 256 + m := by
  rw [u32_or _ _ (by omega) (by omega) (by omega) (by omega)]
  obtain ⟨X, rfl⟩ := Int.eq_ofNat_of_zero_le h0
  have e1 : ((X : Int) * 256).toNat = 2 ^ 8 * X := by omega
  rw [e1, Int.toNat_natCast, ← Nat.two_pow_add_eq_or_of_lt (by omega)]
  omega
theorem sh8 (v : Int) (h0 : 0 ≤ v) (h1 : v < 16777216) : sh .u32 v 8 = some (v * 256) := by
  unfold sh
  rw [if_pos (by decide)]
  have e : (2 : Int) ^ (min (8 : Int).toNat IntKind.u32.bits) = 256 := by decide
  rw [e]
  congr 1
  exact wu32_eq (by omega) (by omega)
theorem parseA_loop : ∀ (k i : Nat) (v : Int) (g m : Bool) (l : List UInt8), k + i = 4 → 0 ≤ v → v < 256 ^ i → l.length ≤ 1000000 →
    lp m_addr_Parse_l1 (v, g, bs l, m, (i : Int)) = some (adr k v g (if m then spB 46 l else []))
  | 0, i, v, g, m, l, hk, h0, h1, hl => by
    have e1 : decide ((i : Int) < 4) = false := decide_eq_false (by omega)
    refine lp_done ?_
    simp only [m_addr_Parse_l1, e1, Bool.false_eq_true, if_false]
    cases m with
    | true =>
      rw [if_pos rfl, if_pos rfl]
      unfold adr
      rw [if_pos (spB_ne 46 l)]
    | false => cases g <;> simp [adr]
  | k + 1, i, v, g, m, l, hk, h0, h1, hl => by
    have e1 : decide ((i : Int) < 4) = true := decide_eq_true (by omega)
    have hv : v < 16777216 := Int.lt_of_lt_of_le h1 (by
      have h : i = 0 ∨ i = 1 ∨ i = 2 ∨ i = 3 := by omega
      rcases h with rfl | rfl | rfl | rfl <;> decide)
    cases m with
    | false =>
      exact lp_done (by simp only [m_addr_Parse_l1, e1, if_true, Bool.not_false]; rfl)
    | true =>
      rw [if_pos rfl, spB_cut]
      have hc := cut1c l 46 hl
      obtain ⟨ha, hb⟩ := cutC_app 46 l
      generalize hcc : cutC 46 l = cc at *
      obtain ⟨p, r, f⟩ := cc
      dsimp only at *
      have hr : r.length ≤ 1000000 := by
        cases f with
        | true => rw [if_pos rfl] at ha; rw [ha] at hl; simp at hl; omega
        | false => rw [hb rfl]; simp
      have fin : lp m_addr_Parse_l1 (v, g, bs l, true, (i : Int)) = some (adr (k + 1) v g (p :: (if f then spB 46 r else []))) := by
        unfold adr
        cases hn : numB p with
        | none =>
          refine lp_done ?_
          simp only [m_addr_Parse_l1, e1, if_true, Bool.not_true, Bool.false_eq_true, if_false]
          rw [hc, bd_some, number_eq, bd_some, hn]
          rfl
        | some n =>
          have hn1 := numB_lt hn
          have w : Go.bits .or .u32 (v * 256) (wu32 (Go.bits .and .i64 (n : Int) 255)) = v * 256 + ((n % 256 : Nat) : Int) := by
            rw [and255i, show ((n : Int) % 256) = ((n % 256 : Nat) : Int) by omega, wu32_eq (by omega) (by omega), or8 v (n % 256) h0 hv (by omega)]
          have hg : (if g = true then some true else some (decide (255 < ((n : Nat) : Int)))) = some (g || decide (255 < n)) := by
            cases g with
            | true => rfl
            | false => rw [if_neg Bool.false_ne_true, Bool.false_or]; congr 1; exact decide_eq_decide.2 (by omega)
          rw [lp_more (s' := (v * 256 + ((n % 256 : Nat) : Int), g || decide (255 < n), bs r, f, ((i + 1 : Nat) : Int))) (by
            simp only [m_addr_Parse_l1, e1, if_true, Bool.not_true, Bool.false_eq_true, if_false]
            rw [hc, bd_some, number_eq, bd_some, hn]
            dsimp only [numR]
            show bd (if g = true then some true else some (decide (255 < ((n : Nat) : Int)))) _ = _
            rw [hg, bd_some, sh8 v h0 hv, bd_some, lt_eq, w, wi64_eq (by omega) (by omega)]; rfl)]
          exact parseA_loop k (i + 1) _ _ f r (by omega) (by omega) (by rw [Int.pow_succ]; omega) hr
      rw [fin]
      cases f <;> rfl
theorem addrParse_eq (l : List UInt8) (hl : l.length ≤ 1000000) : m_addr_Parse (bs l) = some (addrB l) :=
  parseA_loop 4 0 0 false true l rfl (by decide) (by decide) hl
/-! the document -/
def prefB (l : List UInt8) : D_api_Prefix × Int :=
  if (cutC 47 l).2.2 = false then ((0, 0), 5) else
  match numB (cutC 47 l).2.1 with
  | none => ((0, 0), 5)
  | some n => if (addrB (cutC 47 l).1).2 ≠ 0 then ((0, 0), (addrB (cutC 47 l).1).2)
    else if mayP ((addrB (cutC 47 l).1).1, (n : Int)) = true then (((addrB (cutC 47 l).1).1, (n : Int)), 0) else ((0, 0), 22)
theorem adr_bad : 0 ≤ ((0 : Int), (5 : Int)).1 ∧ ((0 : Int), (5 : Int)).1 < 4294967296 ∧ (((0 : Int), (5 : Int)).2 = 0 ∨ ((0 : Int), (5 : Int)).2 = 5 ∨ ((0 : Int), (5 : Int)).2 = 22) := by decide
theorem adr_ok : ∀ (k i : Nat) (v : Int) (g : Bool) (ps : List (List UInt8)), k + i = 4 → 0 ≤ v → v < 256 ^ i → 0 ≤ (adr k v g ps).1 ∧ (adr k v g ps).1 < 4294967296 ∧ ((adr k v g ps).2 = 0 ∨ (adr k v g ps).2 = 5 ∨ (adr k v g ps).2 = 22)
  | 0, i, v, g, ps, hk, h0, h1 => by
    unfold adr
    split
    · exact ⟨by decide, by decide, .inr (.inl rfl)⟩
    · split
      · exact ⟨by decide, by decide, .inr (.inr rfl)⟩
      · obtain rfl : i = 4 := by omega
        exact ⟨h0, Int.lt_of_lt_of_le h1 (by decide), .inl rfl⟩
  | k + 1, i, v, g, [], hk, h0, h1 => adr_bad
  | k + 1, i, v, g, p :: ps, hk, h0, h1 => by
    unfold adr
    cases numB p with
    | none => exact adr_bad
    | some n => exact adr_ok k (i + 1) _ _ ps (by omega) (by omega) (by rw [Int.pow_succ]; omega)
theorem addrB_ok (l : List UInt8) : 0 ≤ (addrB l).1 ∧ (addrB l).1 < 4294967296 ∧ ((addrB l).2 = 0 ∨ (addrB l).2 = 5 ∨ (addrB l).2 = 22) := adr_ok 4 0 0 false _ rfl (by decide) (by decide)
theorem cut_lens (c : UInt8) (l : List UInt8) : (cutC c l).1.length ≤ l.length ∧ (cutC c l).2.1.length ≤ l.length := by
  obtain ⟨ha, hb⟩ := cutC_app c l
  have hl := congrArg List.length ha
  rw [List.length_append] at hl
  refine ⟨by omega, ?_⟩
  cases hf : (cutC c l).2.2 with
  | true => rw [hf, if_pos rfl, List.length_cons] at hl; omega
  | false => rw [hb hf]; exact Nat.zero_le _
theorem addrPrefix_eq (l : List UInt8) (hl : l.length ≤ 1000000) : m_addr_Prefix (bs l) = some (prefB l) := by
  obtain ⟨g1, g2⟩ := cut_lens 47 l
  unfold m_addr_Prefix prefB
  rw [cut1c l 47 hl, bd_some]
  dsimp only
  rw [number_eq, bd_some]
  cases hf : (cutC 47 l).2.2 with
  | false => rw [if_pos rfl]; rfl
  | true =>
    rw [Bool.not_true, if_neg Bool.false_ne_true, if_neg (by decide)]
    cases hn : numB (cutC 47 l).2.1 with
    | none => rfl
    | some n =>
      obtain ⟨a0, a1, a2⟩ := addrB_ok (cutC 47 l).1
      have hnl := numB_lt hn
      dsimp only [numR]
      show bd (m_addr_Parse (bs (cutC 47 l).1)) _ = _
      rw [addrParse_eq _ (by omega), bd_some]
      by_cases he : (addrB (cutC 47 l).1).2 = 0
      · rw [if_neg (by simpa using he), if_neg (show ¬ ((addrB (cutC 47 l).1).2 ≠ 0) from fun h => h he), may_eq ((addrB (cutC 47 l).1).1, (n : Int)) a0 a1, bd_some, he]
        cases mayP ((addrB (cutC 47 l).1).1, (n : Int)) <;> rfl
      · rw [if_pos (by simpa using he), if_pos he]
end Go.Proofs.YtboghejfmmigkaaDoor.AP
/- The document's numbers and fractions, as printed: added, multiplied. -/
namespace Go.Proofs.YtboghejfmmigkaaDoor.AP
open Go Go.Proofs.YtboghejfmmigkaaDoor.Tri
set_option linter.unusedVariables false
set_option linter.unusedSimpArgs false
end Go.Proofs.YtboghejfmmigkaaDoor.AP
/- The document's fractions, as printed. -/
namespace Go.Proofs.YtboghejfmmigkaaDoor.AP
open Go Go.Proofs.YtboghejfmmigkaaDoor.Tri
set_option linter.unusedVariables false
set_option linter.unusedSimpArgs false
/-- of at most n digits -/
def Sm (n : Nat) (x : Int) : Prop := (x.natAbs : Int) < (10000 : Int) ^ n
theorem Sm.len {n : Nat} {x : Int} (h : Sm n x) : (zl (x.natAbs : Int)).length ≤ n := zl_len (by omega) h
theorem Sm.mono {n m : Nat} {x : Int} (h : Sm n x) (k : n ≤ m) : Sm m x := Int.lt_of_lt_of_le h (pow_mono (by decide) k)
theorem Sm.mul {n m : Nat} {x y : Int} (h : Sm n x) (k : Sm m y) : Sm (n + m) (x * y) := by
  unfold Sm at *
  rw [Int.natAbs_mul, Int.natCast_mul, Int.pow_add]
  have h1 : (x.natAbs : Int) * (y.natAbs : Int) ≤ (x.natAbs : Int) * (10000 : Int) ^ m := Int.mul_le_mul_of_nonneg_left (Int.le_of_lt k) (by omega)
  have h2 : (x.natAbs : Int) * (10000 : Int) ^ m < (10000 : Int) ^ n * (10000 : Int) ^ m := Int.mul_lt_mul_of_pos_right h (pow_pos' (by decide) m)
  omega
theorem Sm.add {n : Nat} {x y : Int} (h : Sm n x) (k : Sm n y) : Sm (n + 1) (x + y) := by
  unfold Sm at *
  have : (x + y).natAbs ≤ x.natAbs + y.natAbs := Int.natAbs_add_le x y
  rw [Int.pow_succ]
  have := pow_pos' (B := (10000 : Int)) (by decide) n
  omega
theorem Sm.limb {x : Int} {n : Nat} (h : (x.natAbs : Int) < (4294967296 : Int) ^ n) : Sm (3 * n) x := Int.lt_of_lt_of_le h (lb_zb n)
end Go.Proofs.YtboghejfmmigkaaDoor.AP
/- The program's fractions, as printed: parts of a limb. -/
namespace Go.Proofs.YtboghejfmmigkaaDoor.AP
open Go Go.Proofs.YtboghejfmmigkaaDoor.Tri
set_option linter.unusedVariables false
set_option linter.unusedSimpArgs false
/-- of at most n limbs -/
def Lm (n : Nat) (x : Int) : Prop := (x.natAbs : Int) < (4294967296 : Int) ^ n
theorem Lm.len {n : Nat} {x : Int} (h : Lm n x) : (nl (x.natAbs : Int)).length ≤ n := nl_len (by omega) h
theorem Lm.mul {n m : Nat} {x y : Int} (h : Lm n x) (k : Lm m y) : Lm (n + m) (x * y) := by
  unfold Lm at *
  rw [Int.natAbs_mul, Int.natCast_mul, Int.pow_add]
  have h1 : (x.natAbs : Int) * (y.natAbs : Int) ≤ (x.natAbs : Int) * (4294967296 : Int) ^ m := Int.mul_le_mul_of_nonneg_left (Int.le_of_lt k) (by omega)
  have h2 : (x.natAbs : Int) * (4294967296 : Int) ^ m < (4294967296 : Int) ^ n * (4294967296 : Int) ^ m := Int.mul_lt_mul_of_pos_right h (pow_pos' (by decide) m)
  omega
end Go.Proofs.YtboghejfmmigkaaDoor.AP
/- Products of any length; whole numbers of any length: add, take off, multiply; the document's ones. -/
namespace Go.Proofs.YtboghejfmmigkaaDoor.AP
open Go Go.Proofs.YtboghejfmmigkaaDoor.Tri
set_option linter.unusedVariables false
set_option linter.unusedSimpArgs false
theorem Lm.add {n : Nat} {x y : Int} (h : Lm n x) (k : Lm n y) : Lm (n + 1) (x + y) := by
  unfold Lm at *
  have := pow_pos' (show (0 : Int) < (4294967296 : Int) by decide) n
  rw [Int.pow_succ]; omega
theorem Lm.mono {n m : Nat} {x : Int} (h : Lm n x) (k : n ≤ m) : Lm m x := Int.lt_of_lt_of_le h (pow_mono (by decide) k)
end Go.Proofs.YtboghejfmmigkaaDoor.AP
/- Dividing by two limbs or more: what the guess is, bits, shifts. -/
namespace Go.Proofs.YtboghejfmmigkaaDoor.AP
open Go Go.Proofs.YtboghejfmmigkaaDoor.Tri
set_option linter.unusedVariables false
set_option linter.unusedSimpArgs false
/-! the guess: no program in sight -/
theorem mod_step (a : Int) (k : Nat) : a % 2 ^ (k + 1) = a % 2 ^ k + 2 ^ k * ((a / 2 ^ k) % 2) := by
  have hp : (0 : Int) < 2 ^ k := pow_pos' (by decide) k
  have h1 := Int.mul_ediv_add_emod a (2 ^ k)
  have h2 := Int.mul_ediv_add_emod (a / 2 ^ k) 2
  have h3 := Int.emod_nonneg a (show (2 : Int) ^ k ≠ 0 by omega)
  have h4 := Int.emod_lt_of_pos a hp
  have h5 := Int.emod_nonneg (a / 2 ^ k) (show (2 : Int) ≠ 0 by decide)
  have h6 := Int.emod_lt_of_pos (a / 2 ^ k) (show (0 : Int) < 2 by decide)
  have e := Int.ediv_emod_unique (a := a) (b := 2 ^ (k + 1)) (r := a % 2 ^ k + 2 ^ k * ((a / 2 ^ k) % 2)) (q := a / 2 ^ k / 2) (pow_pos' (by decide) _)
  refine (e.2 ⟨?_, ?_, ?_⟩).2
  · rw [Int.pow_succ]
    generalize a / 2 ^ k / 2 = q2 at *
    generalize (a / 2 ^ k) % 2 = m2 at *
    generalize a / 2 ^ k = q1 at *
    generalize a % 2 ^ k = m1 at *
    subst h2
    rw [← h1]; grind
  · have := Int.mul_nonneg (Int.le_of_lt hp) h5; omega
  · rw [Int.pow_succ]
    have : (2 : Int) ^ k * ((a / 2 ^ k) % 2) ≤ 2 ^ k * 1 := Int.mul_le_mul_of_nonneg_left (by omega) (Int.le_of_lt hp)
    omega
/-- n bits: just as many as a number needs -/
def Nb (a : Int) (n : Nat) : Prop := a < 2 ^ n ∧ (0 < n → 2 ^ (n - 1) ≤ a)
theorem Nb.step {a : Int} {k n : Nat} (hn : n ≤ k) (h : Nb (a % 2 ^ k) n) : Nb (a % 2 ^ (k + 1)) (if (a / 2 ^ k) % 2 = 1 then k + 1 else n) := by
  have hp : (0 : Int) < 2 ^ k := pow_pos' (by decide) k
  have h3 := Int.emod_nonneg a (show (2 : Int) ^ k ≠ 0 by omega)
  have h4 := Int.emod_lt_of_pos a hp
  have h5 := Int.emod_nonneg (a / 2 ^ k) (show (2 : Int) ≠ 0 by decide)
  have h6 := Int.emod_lt_of_pos (a / 2 ^ k) (show (0 : Int) < 2 by decide)
  rw [mod_step]
  by_cases h1 : (a / 2 ^ k) % 2 = 1
  · rw [if_pos h1, h1, Int.mul_one]
    refine ⟨by rw [Int.pow_succ]; omega, fun _ => by rw [Nat.add_sub_cancel]; omega⟩
  · rw [if_neg h1, show (a / 2 ^ k) % 2 = 0 by omega, Int.mul_zero, Int.add_zero]
    exact h
end Go.Proofs.YtboghejfmmigkaaDoor.AP
/- Dividing by two limbs or more: taking off, giving back, the rounds. -/
namespace Go.Proofs.YtboghejfmmigkaaDoor.AP
open Go Go.Proofs.YtboghejfmmigkaaDoor.Tri
set_option linter.unusedVariables false
set_option linter.unusedSimpArgs false
end Go.Proofs.YtboghejfmmigkaaDoor.AP
/- Bits of a limb, shifts, and Knuth's division. -/
namespace Go.Proofs.YtboghejfmmigkaaDoor.AP
open Go Go.Proofs.YtboghejfmmigkaaDoor.Tri
set_option linter.unusedVariables false
set_option linter.unusedSimpArgs false
theorem sr_nat (x : Int) (k : Nat) (hk : k ≤ 64) : sr .u64 x (k : Int) = some (x / 2 ^ k) := by
  unfold sr
  rw [if_pos (by omega)]
  have e : min ((k : Int)).toNat IntKind.u64.bits = k := by
    have : IntKind.u64.bits = 64 := rfl
    omega
  rw [e, Int.fdiv_eq_ediv_of_nonneg _ (Int.le_of_lt (pow_pos' (by decide) k))]
theorem and_one (x : Int) (h0 : 0 ≤ x) (h1 : x < 18446744073709551616) : Go.bits .and .u64 x 1 = x % 2 := by
  rw [u64_and x _ h0 h1 (by omega) (by omega)]
  have : (1 : Int).toNat = 2 ^ 1 - 1 := rfl
  rw [this, Nat.and_two_pow_sub_one_eq_mod]
  omega
theorem bits_loop (a : Int) (h0 : 0 ≤ a) (h1 : a < (4294967296 : Int)) : ∀ (r k n : Nat), k + r = 32 → n ≤ k → Nb (a % 2 ^ k) n → ∃ m : Nat, lp (m_limb_Bits_l1 a) ((n : Int), (k : Int)) = some (m : Int) ∧ m ≤ 32 ∧ Nb a m
  | 0, k, n, hk, hn, h => by
    obtain rfl : k = 32 := by omega
    rw [Int.emod_eq_of_lt h0 (by rw [show (2 : Int) ^ 32 = 4294967296 from rfl]; exact h1)] at h
    exact ⟨n, lp_done (by simp [m_limb_Bits_l1]), hn, h⟩
  | r + 1, k, n, hk, hn, h => by
    have hq := Int.ediv_nonneg h0 (Int.le_of_lt (pow_pos' (show (0 : Int) < 2 by decide) k))
    have hq2 : a / 2 ^ k ≤ a := Int.ediv_le_self _ h0
    have a1 : decide ((k : Int) < 32) = true := decide_eq_true (by omega)
    have a2 : wi64 ((k : Int) + 1) = ((k + 1 : Nat) : Int) := by rw [wi64_eq (by omega) (by omega)]; omega
    have e1 : m_limb_Bits_l1 a ((n : Int), (k : Int)) = some (.inl (((if (a / 2 ^ k) % 2 = 1 then k + 1 else n : Nat) : Int), ((k + 1 : Nat) : Int))) := by
      simp only [m_limb_Bits_l1, a1, if_true, sr_nat a k (by omega), bd_some, and_one (a / 2 ^ k) hq (by omega), a2]
      by_cases hb : (a / 2 ^ k) % 2 = 1
      · rw [if_pos (decide_eq_true hb), if_pos hb, bd_some]
      · rw [if_neg (by simpa using hb), if_neg hb, bd_some]
    rw [lp_more e1]
    exact bits_loop a h0 h1 r (k + 1) _ (by omega) (by split <;> omega) (h.step hn)
theorem bits_eq (a : Int) (h0 : 0 ≤ a) (h1 : a < (4294967296 : Int)) : ∃ m : Nat, m_limb_Bits a = some (m : Int) ∧ m ≤ 32 ∧ Nb a m := by
  obtain ⟨m, e, r⟩ := bits_loop a h0 h1 32 0 0 rfl (Nat.le_refl _) ⟨by rw [Int.pow_zero, Int.emod_one]; decide, fun h => absurd h (by decide)⟩
  refine ⟨m, ?_, r⟩
  unfold m_limb_Bits
  have e' : lp (m_limb_Bits_l1 a) (0, 0) = some (m : Int) := e
  rw [e', bd_some]
/-! shifted up -/
end Go.Proofs.YtboghejfmmigkaaDoor.AP
/- Counts: the program's way and the document's. -/
namespace Go.Proofs.YtboghejfmmigkaaDoor.AP
open Go Go.RowKit Go.Proofs.YtboghejfmmigkaaDoor.Tri
set_option linter.unusedVariables false
set_option linter.unusedSimpArgs false
set_option maxRecDepth 4000
def cntV (o : Option Nat) : Int × Int := match o with | none => (0, 5) | some v => if v ≤ 999999999 then ((v : Int), 0) else (1073741824, 0)
def cntB (l : List UInt8) : Int × Int := cntV (rd10 l)
theorem dec_len : ∀ (k n : Nat), n < 10 ^ (k + 1) → (Lib.decDigits n).length ≤ k + 1
  | 0, n, h => by rw [Lib.decDigits, dif_pos (by omega)]; simp
  | k + 1, n, h => by
    rw [Lib.decDigits]
    split
    · simp
    · have := dec_len k (n / 10) (by rw [Nat.pow_succ] at h; omega)
      simp; omega
theorem dec9 (n : Nat) : (Lib.decDigits n).length ≤ 9 ↔ n ≤ 999999999 := by
  constructor
  · intro h
    have h1 := rd10_lt (rd10_dec n)
    have h2 : 10 ^ (Lib.decDigits n).length ≤ 10 ^ 9 := Nat.pow_le_pow_right (by decide) h
    omega
  · intro h; exact dec_len 8 n (by omega)
theorem small_nl (v : Nat) (h : v ≤ 999999999) : m_nat_Small (nl (v : Int)) = some ((v : Int), true) := by
  by_cases h0 : v = 0
  · subst h0
    rw [show ((0 : Nat) : Int) = 0 from rfl, nl_zero]
    unfold m_nat_Small m_nat_Bits
    rw [if_pos (by decide), bd_some, if_neg (by decide)]
    rw [lp_done (x := 0) (by rfl), bd_some]
  · have e : nl (v : Int) = [(v : Int)] := by
      unfold nl
      rw [Int.toNat_natCast, num, dif_pos ⟨by decide, by omega⟩, num, dif_neg (by omega)]
      congr 1
      omega
    obtain ⟨m, hm, hm2, _⟩ := bits_eq (v : Int) (by omega) (by omega)
    have hb : m_nat_Bits [(v : Int)] = some (m : Int) := by
      have e0 : wi64 ((([(v : Int)].length : Nat) : Int) - 1) = 0 := by simp [wi64_eq]
      unfold m_nat_Bits
      rw [e0, if_neg (show ¬ (decide ((0 : Int) < 0) = true) by decide)]
      show bd (m_limb_Bits (v : Int)) _ = _
      rw [hm, bd_some, lt_eq]
      congr 1
      show wi64 (wi64 (32 * 0) + (m : Int)) = _
      rw [wi64_eq (x := 32 * 0) (by decide) (by decide), wi64_eq (by omega) (by omega)]; omega
    rw [e]
    unfold m_nat_Small
    rw [hb, bd_some, if_neg (by rw [decide_eq_true_eq]; omega)]
    have e1 : lp (m_nat_Small_l1 [(v : Int)]) (0, wi64 ((([(v : Int)].length : Nat) : Int) - 1)) = some (v : Int) := by
      have s1 : m_nat_Small_l1 [(v : Int)] (0, 0) = some (.inl ((v : Int), -1)) := by
        have := or_low 0 (v : Int) (by decide) (by decide) (by omega) (by omega)
        simp only [m_nat_Small_l1, decide_true, if_true]
        show some (Sum.inl (Go.bits .or .u64 (0 * 4294967296) (v : Int), wi64 (0 - 1))) = _
        rw [this]
        simp [wi64_eq]
      rw [show wi64 ((([(v : Int)].length : Nat) : Int) - 1) = 0 from by simp [wi64_eq], lp_more s1]
      exact lp_done (by rfl)
    rw [e1, bd_some]
theorem count_eq (l : List UInt8) (hl : l.length ≤ 1000000) : m_netread_Count (bs l) = some (cntB l) := by
  unfold m_netread_Count cntB
  rw [parseD_eq l hl, bd_some]
  cases hr : rd10 l with
  | none => rfl
  | some v =>
    have hv := rd10_lt hr
    have hn : (nl (v : Int)).length ≤ 1000000000 := by have := nl_pow10 hv; omega
    show bd (m_digits_Count (nl (v : Int))) _ = _
    unfold m_digits_Count
    rw [digitsPrint_eq v hn, bd_some, bd_some, bs_size]
    unfold cntV
    dsimp only
    by_cases h9 : v ≤ 999999999
    · rw [if_neg (by rw [decide_eq_true_eq]; have := (dec9 v).2 h9; omega), if_pos h9]
      show bd (m_nat_Small (nl (v : Int))) _ = _
      rw [small_nl v h9, bd_some, wi64_eq (by omega) (by omega)]; rfl
    · rw [if_pos (by rw [decide_eq_true_eq]; have := mt (dec9 v).1 h9; omega), if_neg h9]; rfl
/-! the document -/
end Go.Proofs.YtboghejfmmigkaaDoor.AP
/- Readers: names, words, figures; the program's way and the document's. -/
namespace Go.Proofs.YtboghejfmmigkaaDoor.AP
open Go Go.RowKit Go.Proofs.YtboghejfmmigkaaDoor.Tri
set_option linter.unusedVariables false
set_option linter.unusedSimpArgs false
set_option maxRecDepth 4000
def kws : List (List UInt8) := [[110, 101, 116, 119, 111, 114, 107], [110, 111, 100, 101], [104, 111, 109, 101], [108, 105, 110, 107], [102, 97, 105, 108], [114, 117, 108, 101], [100, 114, 111, 112], [118, 105, 97], [101, 108, 115, 101], [112, 114, 111, 98], [104, 111, 112, 115], [119, 105, 116, 104, 105, 110], [99, 111, 109, 112, 97, 114, 101]]
def kwB (w : List UInt8) : Bool := kws.any fun k => decide (k = w)
theorem kw_eq (w : List UInt8) : m_name_Keyword (bs w) = some (kwB w) := by
  have hk : m_name_Keywords = some (kws.map bs) := rfl
  have h := lp_first (f := m_slices_Index_string_string_l1 (kws.map bs) (bs w)) kws (fun k => decide (k = w)) (fun i => (i : Int)) (some (-1))
    (fun i k hi => by
      have hlt := (List.getElem?_eq_some_iff.1 hi).1
      have e1 : decide ((i : Int) < (((kws.map bs).length : Nat) : Int)) = true := decide_eq_true (by rw [List.length_map]; omega)
      have e2 : rd (kws.map bs) (i : Int) = some (bs k) := by rw [rd_nat, List.getElem?_map, hi]; rfl
      have h13 : kws.length = 13 := rfl
      have e3 : sq (bs w) (bs k) = decide (k = w) := by rw [sq_bs]; exact decide_eq_decide.2 ⟨fun h => h.symm, fun h => h.symm⟩
      simp only [m_slices_Index_string_string_l1, e1, if_true, e2, bd_some, e3]
      cases decide (k = w) with
      | true => rfl
      | false => rw [if_neg Bool.false_ne_true, if_neg Bool.false_ne_true, wi64_eq (by omega) (by omega)])
    (lp_done (by
      have e1 : decide (((kws.length : Nat) : Int) < (((kws.map bs).length : Nat) : Int)) = false := decide_eq_false (by rw [List.length_map]; omega)
      simp only [m_slices_Index_string_string_l1, e1, Bool.false_eq_true, if_false]))
  unfold m_name_Keyword m_slices_Contains_string_string m_slices_Index_string_string
  rw [hk, bd_some, h]
  unfold kwB
  rw [← fst_any]
  by_cases hf : fst_ (fun k => decide (k = w)) kws < kws.length
  · rw [if_pos hf, bd_some, bd_some, decide_eq_true hf, decide_eq_true (by omega)]
  · rw [if_neg hf, bd_some, bd_some, decide_eq_false hf]; rfl
/-- the program's word: letters first, by runes -/
theorem word_loop (l : List UInt8) (hl : l.length ≤ 1000000000) : ∀ (q : List UInt8) (i : Nat), l.drop i = q → i ≤ l.length → (i ≠ 0 ∨ ∃ c r, l = c :: r ∧ isLet c = true) → q.all isWo = true →
    lp (m_name_Word_l1 (bs l)) i = some (decide (l ≠ []))
  | [], i, hq, hi, _, _ => by
    have : i = l.length := by
      have := congrArg List.length hq
      simp at this; omega
    have e1 : decide (i < (bs l).size) = false := decide_eq_false (by rw [bs_size]; omega)
    refine lp_done ?_
    simp only [m_name_Word_l1, e1, Bool.false_eq_true, if_false, sq_bs]
    by_cases h : l = [] <;> simp [h]
  | c :: q, i, hq, hi, h0, hall => by
    have hlt := drop_lt hq
    have e1 : decide (i < (bs l).size) = true := decide_eq_true (by rw [bs_size]; omega)
    rw [List.all_cons, Bool.and_eq_true] at hall
    have hc : isWo c = true := hall.1
    have hlow : c.toNat < 128 := by
      unfold isWo isLet isDig at hc
      simp only [Bool.or_eq_true, Bool.and_eq_true, decide_eq_true_eq] at hc
      omega
    obtain ⟨d1, d2⟩ := dc_low l i c q hq hlow
    have lt : m_name_letter (c.toNat : Int) = some (isLet c) := by
      unfold m_name_letter isLet
      by_cases h : 97 ≤ c.toNat
      · rw [if_pos (decide_eq_true (by omega)), decide_eq_true h, Bool.true_and]; congr 1; exact decide_eq_decide.2 (by omega)
      · rw [if_neg (by rw [decide_eq_true_eq]; omega), decide_eq_false h, Bool.false_and]
    have step : m_name_Word_l1 (bs l) i = some (.inl (i + 1)) := by
      simp only [m_name_Word_l1, e1, if_true, d1, d2, lt, bd_some]
      cases hL : isLet c with
      | true => rfl
      | false =>
        have hi0 : i ≠ 0 := by
          rcases h0 with h | ⟨c', r', e, h⟩
          · exact h
          · intro hz; subst hz
            rw [List.drop_zero, e] at hq
            cases hq
            rw [hL] at h; cases h
        have ot : m_name_other (c.toNat : Int) = some true := by
          have hc2 : (48 ≤ c.toNat ∧ c.toNat ≤ 57) ∨ c.toNat = 45 ∨ c.toNat = 95 := by
            unfold isWo at hc
            rw [hL] at hc
            unfold isDig at hc
            simp only [Bool.or_eq_true, Bool.and_eq_true, decide_eq_true_eq, Bool.false_eq_true, false_or] at hc
            omega
          unfold m_name_other
          rcases hc2 with h | h | h
          · rw [if_pos (decide_eq_true (by omega)), if_pos (decide_eq_true (by omega))]
          · rw [h]; rfl
          · rw [h]; rfl
        have e0 : decide ((i : Int) = 0) = false := decide_eq_false (by omega)
        simp only [Bool.not_false, if_true, e0, Bool.false_eq_true, if_false, ot, bd_some, Bool.not_true]
    rw [lp_more step]
    exact word_loop l hl q (i + 1) (drop_more hq) (by omega) (.inl (by omega)) hall.2
theorem word_true (l : List UInt8) (hl : l.length ≤ 1000000000) (h : wordB l = true) : m_name_Word (bs l) = some true := by
  unfold m_name_Word
  cases l with
  | nil => cases h
  | cons c r =>
    have h : (isLet c && r.all isWo) = true := h
    rw [Bool.and_eq_true] at h
    rw [word_loop (c :: r) hl (c :: r) 0 rfl (by omega) (.inr ⟨c, r, rfl, h.1⟩) (by rw [List.all_cons, h.2]; unfold isWo; rw [h.1]; rfl)]
    simp
/-! what may be read -/
def ebd {α β : Type} (x : Except Int α) (f : α → Except Int β) : Except Int β := match x with | .ok a => f a | .error b => .error b
def lnO (e : Int) : List Tok → Int | [] => e | t :: _ => t.2.2
def isNm (t : Tok) : Bool := decide (t.1 = 1) && !kwB t.2.1.data.toList
def pName (e : Int) : List Tok → Except Int (ByteArray × List Tok)
  | [] => .error e
  | t :: r => if isNm t then .ok (t.2.1, r) else .error t.2.2
def pTok (e : Int) (w : List UInt8) : List Tok → Except Int (List Tok)
  | [] => .error e
  | t :: r => if t.2.1.data.toList = w then .ok r else .error t.2.2
def pFig {α : Type} (e : Int) (f : List UInt8 → α × Int) (fo : Int) : List Tok → Except Int (α × List Tok × Int)
  | [] => .error e
  | t :: r => if t.1 = 2 ∧ (f t.2.1.data.toList).2 ≠ 5 then .ok ((f t.2.1.data.toList).1, r, if (f t.2.1.data.toList).2 ≠ 0 ∧ fo = 0 then t.2.2 else fo) else .error t.2.2
theorem pName_cons (e : Int) (t : Tok) (r : List Tok) : pName e (t :: r) = if isNm t then .ok (t.2.1, r) else .error t.2.2 := rfl
theorem pTok_cons (e : Int) (w : List UInt8) (t : Tok) (r : List Tok) : pTok e w (t :: r) = if t.2.1.data.toList = w then .ok r else .error t.2.2 := rfl
theorem pFig_cons {α : Type} (e : Int) (f : List UInt8 → α × Int) (fo : Int) (t : Tok) (r : List Tok) : pFig e f fo (t :: r) = if t.1 = 2 ∧ (f t.2.1.data.toList).2 ≠ 5 then .ok ((f t.2.1.data.toList).1, r, if (f t.2.1.data.toList).2 ≠ 0 ∧ fo = 0 then t.2.2 else fo) else .error t.2.2 := rfl
/-- tokens of a text -/
def Toks (l : List Tok) : Prop := ∀ t ∈ l, TokOk t ∧ t.2.1.size ≤ 1000000
theorem Toks.tail {t : Tok} {l : List Tok} (h : Toks (t :: l)) : Toks l := fun x hx => h x (List.mem_cons_of_mem _ hx)
theorem Toks.head {t : Tok} {l : List Tok} (h : Toks (t :: l)) : TokOk t ∧ t.2.1.size ≤ 1000000 := h t (List.mem_cons_self ..)
theorem Toks.drop {l : List Tok} (h : Toks l) (n : Nat) : Toks (l.drop n) := fun x hx => h x (List.mem_of_mem_drop hx)
theorem tok_bs (b : ByteArray) : b = bs b.data.toList := rfl
theorem size_list (b : ByteArray) : b.size = b.data.toList.length := rfl
theorem rd0 {α : Type} (t : α) (r : List α) : rd (t :: r) 0 = some t := rfl
theorem ct1 {α : Type} (t : α) (r : List α) : ct (t :: r) 1 (((t :: r).length : Nat) : Int) = some r := by
  rw [ct_of ⟨by decide, by simp; omega, Int.le_refl _⟩]
  simp
theorem name1_eq {t : Tok} (h : TokOk t ∧ t.2.1.size ≤ 1000000) : m_lex_Reader_Name_1 t = some (isNm t) := by
  unfold m_lex_Reader_Name_1 isNm
  by_cases h1 : t.1 = 1
  · rw [decide_eq_true h1, if_pos rfl, Bool.true_and]
    have hw : wordB t.2.1.data.toList = true := by
      rcases h.1.2 with ⟨_, w, e, hw⟩ | ⟨e, _⟩ | ⟨e, _⟩
      · rw [e]; exact hw
      · rw [h1] at e; cases e
      · rw [h1] at e; cases e
    unfold m_name_Name
    have hw2 := word_true t.2.1.data.toList (by have := h.2; rw [size_list] at this; omega) hw
    rw [show bs t.2.1.data.toList = t.2.1 from rfl] at hw2
    have hk := kw_eq t.2.1.data.toList
    rw [show bs t.2.1.data.toList = t.2.1 from rfl] at hk
    rw [hw2, bd_some, if_pos rfl, hk, bd_some, bd_some]
  · rw [decide_eq_false h1, if_neg Bool.false_ne_true, Bool.false_and]
theorem line_eq (l : List Tok) (e : Int) : m_lex_Reader_Line_M_2 l e = some (lnO e l) := by
  cases l with
  | nil => rfl
  | cons t r =>
    unfold m_lex_Reader_Line_M_2 lnO
    rw [if_neg (by rw [decide_eq_true_eq]; simp; omega), rd0, bd_some]
theorem nameM_eq (l : List Tok) (e : Int) (h : Toks l) : m_lex_Reader_Name_M_2 l e = some (match pName e l with | .ok (v, r) => (v, true, r) | .error _ => (bs [], false, l)) := by
  unfold m_lex_Reader_Name_M_2 m_lex_Reader_take__lex_Reader_Name_1_M_2 m_lex_Reader_Done_M_2
  cases l with
  | nil => rfl
  | cons t r =>
    rw [bd_some, if_neg (by rw [decide_eq_true_eq]; simp; omega), rd0, bd_some, name1_eq h.head, bd_some, bd_some]
    rw [pName_cons]
    cases hn : isNm t with
    | true => rw [if_neg (by decide), bd_some, ct1]; rfl
    | false => rw [if_pos (by decide), bd_some]; rfl
def figT : List Tok → Option (Tok × List Tok) | [] => none | t :: r => if t.1 = 2 then some (t, r) else none
theorem figT_cons (t : Tok) (r : List Tok) : figT (t :: r) = if t.1 = 2 then some (t, r) else none := rfl
theorem figM_eq (l : List Tok) (e : Int) : m_lex_Reader_Figure_M_2 l e = some (match figT l with | some (t, r) => (t.2.1, true, r) | none => (bs [], false, l)) := by
  unfold m_lex_Reader_Figure_M_2 m_lex_Reader_take__lex_Reader_Figure_1_M_2 m_lex_Reader_Done_M_2 m_lex_Reader_Figure_1
  cases l with
  | nil => rfl
  | cons t r =>
    rw [bd_some, if_neg (by rw [decide_eq_true_eq]; simp; omega), rd0, bd_some, bd_some, bd_some]
    rw [figT_cons]
    by_cases h : t.1 = 2
    · rw [decide_eq_true h, if_neg (by decide), bd_some, ct1, bd_some, bd_some, if_pos h]
    · rw [decide_eq_false h, if_pos (by decide), bd_some, if_neg h]
theorem pFig_none {α : Type} {e : Int} {f : List UInt8 → α × Int} {fo : Int} {l : List Tok} (h : figT l = none) : pFig e f fo l = .error (lnO e l) := by
  cases l with
  | nil => rfl
  | cons t r =>
    rw [figT_cons] at h
    rw [pFig_cons]
    by_cases h2 : t.1 = 2
    · rw [if_pos h2] at h; cases h
    · rw [if_neg (fun hh => h2 hh.1)]; rfl
theorem pFig_some {α : Type} {e : Int} {f : List UInt8 → α × Int} {fo : Int} {l : List Tok} {t : Tok} {r : List Tok} (h : figT l = some (t, r)) :
    l = t :: r ∧ pFig e f fo l = if (f t.2.1.data.toList).2 = 5 then .error (lnO e l) else .ok ((f t.2.1.data.toList).1, r, if (f t.2.1.data.toList).2 ≠ 0 ∧ fo = 0 then t.2.2 else fo) := by
  cases l with
  | nil => cases h
  | cons t' r' =>
    rw [figT_cons] at h
    by_cases h2 : t'.1 = 2
    · rw [if_pos h2] at h
      cases h
      refine ⟨rfl, ?_⟩
      rw [pFig_cons]
      by_cases h5 : (f t.2.1.data.toList).2 = 5
      · rw [if_neg (fun hh => hh.2 h5), if_pos h5]; rfl
      · rw [if_pos ⟨h2, h5⟩, if_neg h5]
    · rw [if_neg h2] at h; cases h
theorem pName_err {e : Int} {l : List Tok} {c : Int} (h : pName e l = .error c) : c = lnO e l := by
  cases l with
  | nil => cases h; rfl
  | cons t r => rw [pName_cons] at h; cases hn : isNm t <;> rw [hn] at h <;> cases h; rfl
theorem pName_ok {e : Int} {l r : List Tok} {v : ByteArray} (h : pName e l = .ok (v, r)) : ∃ t, l = t :: r ∧ t.2.1 = v := by
  cases l with
  | nil => cases h
  | cons t r' => rw [pName_cons] at h; cases hn : isNm t <;> rw [hn] at h <;> cases h; exact ⟨t, rfl, rfl⟩
theorem lnO_pos {e : Int} {l : List Tok} (he : 1 ≤ e) (h : Toks l) : lnO e l ≠ 0 := by
  cases l with
  | nil => show e ≠ 0; omega
  | cons t r => have := h.head.1.1; show t.2.2 ≠ 0; omega
theorem take_eq1 (w : List UInt8) (l : List Tok) (e : Int) : m_lex_Reader_Take_M (bs w) l e = some (match pTok e w l with | .ok r => (true, r) | .error _ => (false, l)) := by
  unfold m_lex_Reader_Take_M m_lex_Reader_Is_M m_lex_Reader_Done_M_2
  cases l with
  | nil => rfl
  | cons t r =>
    have e1 : decide ((((t :: r).length : Nat) : Int) = 0) = false := decide_eq_false (by simp; omega)
    have e2 : sq t.2.1 (bs w) = decide (t.2.1.data.toList = w) := by rw [tok_bs t.2.1, sq_bs]; rfl
    rw [bd_some, e1, Bool.not_false, if_pos rfl, rd0, bd_some, e2, bd_some]
    rw [pTok_cons]
    by_cases h : t.2.1.data.toList = w
    · rw [decide_eq_true h, if_pos rfl, ct1, bd_some, bd_some, if_pos h]
    · rw [decide_eq_false h, if_neg Bool.false_ne_true, bd_some, if_neg h]
/-! the document's reader -/
theorem drop_rd {l r : List Tok} {t : Tok} {i : Nat} (h : l.drop i = t :: r) : i < l.length ∧ rd l (i : Int) = some t ∧ l.drop (i + 1) = r := by
  have hi : i < l.length := by
    apply Nat.lt_of_not_le
    intro hle
    rw [List.drop_of_length_le hle] at h; cases h
  have h2 := List.drop_eq_getElem_cons hi
  rw [h] at h2
  injection h2 with h3 h4
  exact ⟨hi, by rw [rd_at hi, h3], h4.symm⟩
theorem pTok_err {e : Int} {w : List UInt8} {l : List Tok} {c : Int} (h : pTok e w l = .error c) : c = lnO e l := by
  cases l with
  | nil => cases h; rfl
  | cons t r =>
    rw [pTok_cons] at h
    by_cases hw : t.2.1.data.toList = w
    · rw [if_pos hw] at h; cases h
    · rw [if_neg hw] at h; cases h; rfl
theorem pTok_ok {e : Int} {w : List UInt8} {l r : List Tok} (h : pTok e w l = .ok r) : ∃ t, l = t :: r ∧ t.2.1.data.toList = w := by
  cases l with
  | nil => cases h
  | cons t r' =>
    rw [pTok_cons] at h
    by_cases hw : t.2.1.data.toList = w
    · rw [if_pos hw] at h; cases h; exact ⟨t, rfl, hw⟩
    · rw [if_neg hw] at h; cases h
end Go.Proofs.YtboghejfmmigkaaDoor.AP
/- Queries of tokens: what they are; the program's way and the document's. -/
namespace Go.Proofs.YtboghejfmmigkaaDoor.AP
open Go Go.RowKit Go.Proofs.YtboghejfmmigkaaDoor.Tri
set_option linter.unusedVariables false
set_option linter.unusedSimpArgs false
set_option maxRecDepth 4000
theorem ebd_ok {α β : Type} (a : α) (f : α → Except Int β) : ebd (.ok a) f = f a := rfl
theorem ebd_er {α β : Type} (b : Int) (f : α → Except Int β) : ebd (.error b) f = .error b := rfl
def asks : List (List UInt8 × Int) := [([112, 114, 111, 98], 1), ([104, 111, 112, 115], 2), ([119, 105, 116, 104, 105, 110], 3), ([99, 111, 109, 112, 97, 114, 101], 4)]
def pKindL (e : Int) : List (List UInt8 × Int) → List Tok → Except Int (Int × List Tok)
  | [], l => .error (lnO e l)
  | a :: as_, l => match pTok e a.1 l with | .ok r => .ok (a.2, r) | .error _ => pKindL e as_ l
def pKind (e : Int) (l : List Tok) : Except Int (Int × List Tok) := pKindL e asks l
def fDest (k : Int) (w : List UInt8) : (Int × D_api_Prefix) × Int := if k = 4 then ((0, (prefB w).1), (prefB w).2) else (((addrB w).1, (0, 0)), (addrB w).2)
def pOther (e k : Int) (l : List Tok) : Except Int (ByteArray × List Tok) := if k = 4 then pName e l else .ok (bs [], l)
def pCount (e k fo : Int) (l : List Tok) : Except Int (Int × List Tok × Int) := if k = 3 then pFig e cntB fo l else .ok (0, l, fo)
def pQuery (e fo : Int) (l : List Tok) : Except Int (D_api_Query × List Tok × Int) :=
  ebd (pKind e l) fun k => ebd (pName e k.2) fun n => ebd (pOther e k.1 n.2) fun o => ebd (pName e o.2) fun f =>
  ebd (pFig e (fDest k.1) fo f.2) fun d => ebd (pCount e k.1 d.2.2 d.2.1) fun c => ebd (pTok e [59] c.2.1) fun r =>
  .ok ((k.1, n.1, o.1, f.1, d.1.1, d.1.2, c.1), r, c.2.2)
/-! the program -/
theorem askKind_eq (fo e : Int) (l : List Tok) : m_askread_reader_kind_M_2 0 fo l e = some (match pKind e l with | .ok (k, r) => (k, 0, r) | .error c => (0, c, l)) := by
  have hA : m_askread_asks = some (asks.map fun a => (bs a.1, a.2)) := rfl
  unfold m_askread_reader_kind_M_2 pKind
  rw [hA, bd_some]
  have key : ∀ (rest : List (List UInt8 × Int)) (i : Nat), asks.drop i = rest → i ≤ 4 → lp (m_askread_reader_kind_M_2_l1 0 fo e (asks.map fun a => (bs a.1, a.2))) ((i : Int), l) = some (match pKindL e rest l with | .ok (k, r) => (k, 0, r) | .error c => (0, c, l)) := by
    intro rest
    induction rest with
    | nil =>
      intro i hd hi
      have h4 : asks.length = 4 := rfl
      have : asks.length ≤ i := by simpa using hd
      have e1 : decide ((i : Int) < (((asks.map fun a => (bs a.1, a.2)).length : Nat) : Int)) = false := decide_eq_false (by rw [List.length_map]; omega)
      refine lp_done ?_
      simp only [m_askread_reader_kind_M_2_l1, e1, Bool.false_eq_true, if_false, line_eq, bd_some]
      rfl
    | cons a rest ih =>
      intro i hd hi
      have h4 : asks.length = 4 := rfl
      have hlt : i < asks.length := by
        apply Nat.lt_of_not_le
        intro hle
        rw [List.drop_of_length_le hle] at hd; cases hd
      have ha : asks[i]? = some a := by
        have := List.drop_eq_getElem_cons hlt
        rw [hd] at this
        rw [List.getElem?_eq_getElem hlt, (List.cons.inj this).1]
      have hr : asks.drop (i + 1) = rest := by rw [← List.drop_drop, hd]; rfl
      have e1 : decide ((i : Int) < (((asks.map fun a => (bs a.1, a.2)).length : Nat) : Int)) = true := decide_eq_true (by rw [List.length_map]; omega)
      have e2 : rd (asks.map fun a => (bs a.1, a.2)) (i : Int) = some (bs a.1, a.2) := by rw [rd_nat, List.getElem?_map, ha]; rfl
      have e3 := take_eq1 a.1 l e
      show lp _ _ = some (match (match pTok e a.1 l with | .ok r => Except.ok (a.2, r) | .error _ => pKindL e rest l) with | .ok (k, r) => (k, 0, r) | .error c => (0, c, l))
      cases hp : pTok e a.1 l with
      | ok r =>
        rw [hp] at e3
        exact lp_done (by simp only [m_askread_reader_kind_M_2_l1, e1, if_true, e2, bd_some, e3])
      | error c =>
        rw [hp] at e3
        rw [lp_more (s' := (((i + 1 : Nat) : Int), l)) (by
          simp only [m_askread_reader_kind_M_2_l1, e1, if_true, e2, bd_some, e3, Bool.false_eq_true, if_false]
          rw [wi64_eq (by omega) (by omega)]; rfl)]
        exact ih (i + 1) hr (by omega)
  exact key asks 0 rfl (by decide)
theorem askIdent_bad (b fo e : Int) (l : List Tok) (hb : b ≠ 0) : m_askread_reader_ident_M_2 b fo l e = some (bs [], b, l) := by
  unfold m_askread_reader_ident_M_2
  rw [line_eq, bd_some, decide_eq_false hb, Bool.not_false, if_pos rfl]
theorem askIdent_eq (fo e : Int) (l : List Tok) (h : Toks l) : m_askread_reader_ident_M_2 0 fo l e = some (match pName e l with | .ok (v, r) => (v, 0, r) | .error c => (bs [], c, l)) := by
  unfold m_askread_reader_ident_M_2
  rw [line_eq, bd_some, decide_eq_true rfl, Bool.not_true, if_neg Bool.false_ne_true, nameM_eq l e h, bd_some]
  cases hp : pName e l with
  | ok v => rfl
  | error c =>
    rw [pName_err hp]
    rfl
theorem fig1_bad (b fo k : Int) (n o f : ByteArray) (d p1 p2 c e : Int) (l : List Tok) (hb : b ≠ 0) : m_askread_reader_figure__askread_reader_query_1_M_2 b fo k n o f d p1 p2 c l e = some (b, fo, d, p1, p2, l) := by
  unfold m_askread_reader_figure__askread_reader_query_1_M_2
  rw [line_eq, bd_some, decide_eq_false hb, Bool.not_false, if_pos rfl]
theorem fig2_bad (b fo k : Int) (n o f : ByteArray) (d p1 p2 c e : Int) (l : List Tok) (hb : b ≠ 0) : m_askread_reader_figure__askread_reader_query_2_M_2 b fo k n o f d p1 p2 c l e = some (b, fo, c, l) := by
  unfold m_askread_reader_figure__askread_reader_query_2_M_2
  rw [line_eq, bd_some, decide_eq_false hb, Bool.not_false, if_pos rfl]
theorem fig1_eq (fo k : Int) (n o f : ByteArray) (c e : Int) (l : List Tok) (h : Toks l) :
    match pFig e (fDest k) fo l with
    | .ok (v, r, fo') => m_askread_reader_figure__askread_reader_query_1_M_2 0 fo k n o f 0 0 0 c l e = some (0, fo', v.1, v.2.1, v.2.2, r)
    | .error b => ∃ d p1 p2 r, m_askread_reader_figure__askread_reader_query_1_M_2 0 fo k n o f 0 0 0 c l e = some (b, fo, d, p1, p2, r) := by
  unfold m_askread_reader_figure__askread_reader_query_1_M_2
  rw [line_eq, bd_some, decide_eq_true rfl, Bool.not_true, if_neg Bool.false_ne_true, figM_eq, bd_some]
  cases hf : figT l with
  | none =>
    rw [pFig_none hf]
    exact ⟨_, _, _, _, rfl⟩
  | some tr =>
    obtain ⟨t, r⟩ := tr
    obtain ⟨rfl, hp⟩ := pFig_some (e := e) (f := fDest k) (fo := fo) hf
    rw [hp]
    have hsz := h.head.2
    rw [size_list] at hsz
    have hq : m_askread_reader_query_1_M t.2.1 k n o f 0 0 0 c = some ((fDest k t.2.1.data.toList).2, (fDest k t.2.1.data.toList).1.1, (fDest k t.2.1.data.toList).1.2.1, (fDest k t.2.1.data.toList).1.2.2) := by
      unfold m_askread_reader_query_1_M fDest
      by_cases h4 : k = 4
      · have := addrPrefix_eq t.2.1.data.toList hsz
        rw [show bs t.2.1.data.toList = t.2.1 from rfl] at this
        rw [if_pos (decide_eq_true h4), this, bd_some, if_pos h4]
      · have := addrParse_eq t.2.1.data.toList hsz
        rw [show bs t.2.1.data.toList = t.2.1 from rfl] at this
        rw [if_neg (by rw [decide_eq_true_eq]; exact h4), this, bd_some, if_neg h4]
    dsimp only
    rw [Bool.not_true, if_neg Bool.false_ne_true, hq, bd_some]
    dsimp only
    generalize fDest k t.2.1.data.toList = F
    obtain ⟨⟨v1, v2, v3⟩, er⟩ := F
    dsimp only
    by_cases h5 : er = 5
    · rw [if_pos h5, if_pos (decide_eq_true h5)]
      exact ⟨_, _, _, _, rfl⟩
    · rw [if_neg h5, decide_eq_false h5, if_neg Bool.false_ne_true]
      dsimp only
      by_cases h0 : er = 0
      · rw [decide_eq_true h0, if_neg (show ¬ (er ≠ 0 ∧ fo = 0) from fun hh => hh.1 h0)]; rfl
      · rw [decide_eq_false h0]
        by_cases hfo : fo = 0
        · rw [if_pos (show er ≠ 0 ∧ fo = 0 from ⟨h0, hfo⟩), hfo]; rfl
        · rw [if_neg (show ¬ (er ≠ 0 ∧ fo = 0) from fun hh => hfo hh.2), decide_eq_false hfo]; rfl
theorem fig2_eq (fo k : Int) (n o f : ByteArray) (d p1 p2 e : Int) (l : List Tok) (h : Toks l) :
    match pFig e cntB fo l with
    | .ok (v, r, fo') => m_askread_reader_figure__askread_reader_query_2_M_2 0 fo k n o f d p1 p2 0 l e = some (0, fo', v, r)
    | .error b => ∃ c r, m_askread_reader_figure__askread_reader_query_2_M_2 0 fo k n o f d p1 p2 0 l e = some (b, fo, c, r) := by
  unfold m_askread_reader_figure__askread_reader_query_2_M_2
  rw [line_eq, bd_some, decide_eq_true rfl, Bool.not_true, if_neg Bool.false_ne_true, figM_eq, bd_some]
  cases hf : figT l with
  | none =>
    rw [pFig_none hf]
    exact ⟨_, _, rfl⟩
  | some tr =>
    obtain ⟨t, r⟩ := tr
    obtain ⟨rfl, hp⟩ := pFig_some (e := e) (f := cntB) (fo := fo) hf
    rw [hp]
    have hsz := h.head.2
    rw [size_list] at hsz
    have hq : m_askread_reader_query_2_M t.2.1 k n o f d p1 p2 0 = some ((cntB t.2.1.data.toList).2, (cntB t.2.1.data.toList).1) := by
      unfold m_askread_reader_query_2_M
      have := count_eq t.2.1.data.toList hsz
      rw [show bs t.2.1.data.toList = t.2.1 from rfl] at this
      rw [this, bd_some]
    dsimp only
    rw [Bool.not_true, if_neg Bool.false_ne_true, hq, bd_some]
    dsimp only
    generalize cntB t.2.1.data.toList = F
    obtain ⟨v1, er⟩ := F
    dsimp only
    by_cases h5 : er = 5
    · rw [if_pos h5, if_pos (decide_eq_true h5)]
      exact ⟨_, _, rfl⟩
    · rw [if_neg h5, decide_eq_false h5, if_neg Bool.false_ne_true]
      dsimp only
      by_cases h0 : er = 0
      · rw [decide_eq_true h0, if_neg (show ¬ (er ≠ 0 ∧ fo = 0) from fun hh => hh.1 h0)]; rfl
      · rw [decide_eq_false h0]
        by_cases hfo : fo = 0
        · rw [if_pos (show er ≠ 0 ∧ fo = 0 from ⟨h0, hfo⟩), hfo]; rfl
        · rw [if_neg (show ¬ (er ≠ 0 ∧ fo = 0) from fun hh => hfo hh.2), decide_eq_false hfo]; rfl
theorem pFig_pos {α : Type} {e : Int} {f : List UInt8 → α × Int} {fo : Int} {l : List Tok} {c : Int} (h : pFig e f fo l = .error c) : c = lnO e l := by
  cases l with
  | nil => cases h; rfl
  | cons t r =>
    rw [pFig_cons] at h
    by_cases hh : t.1 = 2 ∧ (f t.2.1.data.toList).2 ≠ 5
    · rw [if_pos hh] at h; cases h
    · rw [if_neg hh] at h; cases h; rfl
theorem pFig_ok {α : Type} {e : Int} {f : List UInt8 → α × Int} {fo : Int} {l r : List Tok} {v : α} {g : Int} (h : pFig e f fo l = .ok (v, r, g)) : ∃ t, l = t :: r ∧ v = (f t.2.1.data.toList).1 := by
  cases l with
  | nil => cases h
  | cons t r' =>
    rw [pFig_cons] at h
    by_cases hh : t.1 = 2 ∧ (f t.2.1.data.toList).2 ≠ 5
    · rw [if_pos hh] at h; cases h; exact ⟨t, rfl, rfl⟩
    · rw [if_neg hh] at h; cases h
theorem pKindL_err {e : Int} {l : List Tok} {c : Int} : ∀ as_ : List (List UInt8 × Int), pKindL e as_ l = .error c → c = lnO e l
  | [], h => by cases h; rfl
  | a :: as_, h => by
    have h : (match pTok e a.1 l with | .ok r => Except.ok (a.2, r) | .error _ => pKindL e as_ l) = Except.error c := h
    cases hp : pTok e a.1 l with
    | ok r => rw [hp] at h; cases h
    | error b => rw [hp] at h; exact pKindL_err as_ h
theorem pKindL_ok {e : Int} {l r : List Tok} {k : Int} : ∀ as_ : List (List UInt8 × Int), pKindL e as_ l = .ok (k, r) → ∃ t, l = t :: r
  | [], h => by cases h
  | a :: as_, h => by
    have h : (match pTok e a.1 l with | .ok r => Except.ok (a.2, r) | .error _ => pKindL e as_ l) = Except.ok (k, r) := h
    cases hp : pTok e a.1 l with
    | ok r => rw [hp] at h; cases h; obtain ⟨t, e1, _⟩ := pTok_ok hp; exact ⟨t, e1⟩
    | error b => rw [hp] at h; exact pKindL_ok as_ h
/-- the last part of a query -/
def askEnd (v15 v16 : Int) (v17 : List Tok) (o2_1 : Int) : Option (Int × List Tok) :=
  bd (m_lex_Reader_Line_M_2 v17 o2_1) fun x25 =>
    bd (
      if decide (v15 = 0) then (
        bd (m_lex_Reader_Take_M (bs [59]) v17 o2_1) fun x30 =>
        some (!x30.1, x30.2))
      else (
        some (false, v17))) fun (v26, v27) =>
    if v26 then (
      bd (m_askread_reader_wrong_M_2 x25 v15 v16 v27 o2_1) fun x33 =>
      some (x33, v27))
    else (
      some (v15, v27))
theorem askEnd_bad (b fo e : Int) (l : List Tok) (hb : b ≠ 0) : askEnd b fo l e = some (b, l) := by
  unfold askEnd
  rw [line_eq, bd_some, decide_eq_false hb, if_neg Bool.false_ne_true, bd_some]
  rfl
theorem askEnd_eq (fo e : Int) (l : List Tok) : askEnd 0 fo l e = some (match pTok e [59] l with | .ok r => (0, r) | .error c => (c, l)) := by
  unfold askEnd
  rw [line_eq, bd_some, decide_eq_true rfl, if_pos rfl, take_eq1, bd_some]
  cases hp : pTok e [59] l with
  | ok r => rfl
  | error c => rw [pTok_err hp]; rfl
theorem askQuery_eq (fo e : Int) (l : List Tok) (h : Toks l) (he : 1 ≤ e) :
    match pQuery e fo l with
    | .ok (q, r, fo') => m_askread_reader_query_M 0 fo l e = some (q, 0, fo', r)
    | .error b => b ≠ 0 ∧ ∃ q fo' r, m_askread_reader_query_M 0 fo l e = some (q, b, fo', r) := by
  have hE : m_askread_reader_query_M 0 fo l e = bd (m_askread_reader_kind_M_2 0 fo l e) fun x2 =>
      bd (m_askread_reader_ident_M_2 x2.2.1 fo x2.2.2 e) fun x4 =>
      bd (if decide (x2.1 = 4) then (bd (m_askread_reader_ident_M_2 x4.2.1 fo x4.2.2 e) fun x10 => some (x10.2.1, x10.2.2, x10.1)) else (some (x4.2.1, x4.2.2, (bs [])))) fun (v5, v6, v7) =>
      bd (m_askread_reader_ident_M_2 v5 fo v6 e) fun x12 =>
      bd (m_askread_reader_figure__askread_reader_query_1_M_2 x12.2.1 fo x2.1 x4.1 v7 x12.1 0 0 0 0 x12.2.2 e) fun x14 =>
      bd (if decide (x2.1 = 3) then (bd (m_askread_reader_figure__askread_reader_query_2_M_2 x14.1 x14.2.1 x2.1 x4.1 v7 x12.1 x14.2.2.1 x14.2.2.2.1 x14.2.2.2.2.1 0 x14.2.2.2.2.2 e) fun x21 => some (x21.1, x21.2.1, x21.2.2.2, x21.2.2.1)) else (some (x14.1, x14.2.1, x14.2.2.2.2.2, 0))) fun (v15, v16, v17, v18) =>
      bd (askEnd v15 v16 v17 e) fun (v22, v23) =>
      some ((x2.1, x4.1, v7, x12.1, x14.2.2.1, (x14.2.2.2.1, x14.2.2.2.2.1), v18), v22, v16, v23) := rfl
  rw [hE]
  unfold pQuery
  have dead : ∀ (b : Int) (k : Int) (n : ByteArray) (l2 : List Tok) (d p1 p2 : Int) (o f : ByteArray) (fo2 : Int), b ≠ 0 → ∃ q fo' r, (bd (if decide (k = 3) then (bd (m_askread_reader_figure__askread_reader_query_2_M_2 b fo2 k n o f d p1 p2 0 l2 e) fun x21 => some (x21.1, x21.2.1, x21.2.2.2, x21.2.2.1)) else (some (b, fo2, l2, 0))) fun (v15, v16, v17, v18) =>
      bd (askEnd v15 v16 v17 e) fun (v22, v23) => some ((k, n, o, f, d, (p1, p2), v18), v22, v16, v23)) = some (q, b, fo', r) := by
    intro b k n l2 d p1 p2 o f fo2 hb
    by_cases h3 : k = 3
    · rw [if_pos (decide_eq_true h3), fig2_bad _ _ _ _ _ _ _ _ _ _ _ _ hb, bd_some, bd_some]
      dsimp only
      rw [askEnd_bad _ _ _ _ hb, bd_some]
      exact ⟨_, _, _, rfl⟩
    · rw [if_neg (by rw [decide_eq_true_eq]; exact h3), bd_some]
      dsimp only
      rw [askEnd_bad _ _ _ _ hb, bd_some]
      exact ⟨_, _, _, rfl⟩
  have dead3 : ∀ (b : Int) (k : Int) (n o : ByteArray) (l2 : List Tok), b ≠ 0 → ∃ q fo' r, (bd (m_askread_reader_ident_M_2 b fo l2 e) fun x12 =>
      bd (m_askread_reader_figure__askread_reader_query_1_M_2 x12.2.1 fo k n o x12.1 0 0 0 0 x12.2.2 e) fun x14 =>
      bd (if decide (k = 3) then (bd (m_askread_reader_figure__askread_reader_query_2_M_2 x14.1 x14.2.1 k n o x12.1 x14.2.2.1 x14.2.2.2.1 x14.2.2.2.2.1 0 x14.2.2.2.2.2 e) fun x21 => some (x21.1, x21.2.1, x21.2.2.2, x21.2.2.1)) else (some (x14.1, x14.2.1, x14.2.2.2.2.2, 0))) fun (v15, v16, v17, v18) =>
      bd (askEnd v15 v16 v17 e) fun (v22, v23) => some ((k, n, o, x12.1, x14.2.2.1, (x14.2.2.2.1, x14.2.2.2.2.1), v18), v22, v16, v23)) = some (q, b, fo', r) := by
    intro b k n o l2 hb
    rw [askIdent_bad _ _ _ _ hb, bd_some, fig1_bad _ _ _ _ _ _ _ _ _ _ _ _ hb, bd_some]
    exact dead b k n l2 0 0 0 o (bs []) fo hb
  have dead2 : ∀ (b : Int) (k : Int) (n : ByteArray) (l2 : List Tok), b ≠ 0 → ∃ q fo' r, (bd (if decide (k = 4) then (bd (m_askread_reader_ident_M_2 b fo l2 e) fun x10 => some (x10.2.1, x10.2.2, x10.1)) else (some (b, l2, (bs [])))) fun (v5, v6, v7) =>
      bd (m_askread_reader_ident_M_2 v5 fo v6 e) fun x12 =>
      bd (m_askread_reader_figure__askread_reader_query_1_M_2 x12.2.1 fo k n v7 x12.1 0 0 0 0 x12.2.2 e) fun x14 =>
      bd (if decide (k = 3) then (bd (m_askread_reader_figure__askread_reader_query_2_M_2 x14.1 x14.2.1 k n v7 x12.1 x14.2.2.1 x14.2.2.2.1 x14.2.2.2.2.1 0 x14.2.2.2.2.2 e) fun x21 => some (x21.1, x21.2.1, x21.2.2.2, x21.2.2.1)) else (some (x14.1, x14.2.1, x14.2.2.2.2.2, 0))) fun (v15, v16, v17, v18) =>
      bd (askEnd v15 v16 v17 e) fun (v22, v23) => some ((k, n, v7, x12.1, x14.2.2.1, (x14.2.2.2.1, x14.2.2.2.2.1), v18), v22, v16, v23)) = some (q, b, fo', r) := by
    intro b k n l2 hb
    by_cases h4 : k = 4
    · rw [if_pos (decide_eq_true h4), askIdent_bad _ _ _ _ hb, bd_some, bd_some]
      exact dead3 b k n (bs []) l2 hb
    · rw [if_neg (by rw [decide_eq_true_eq]; exact h4), bd_some]
      exact dead3 b k n (bs []) l2 hb
  rw [askKind_eq, bd_some]
  cases hk : pKind e l with
  | error b =>
    have hb : b ≠ 0 := pKindL_err _ hk ▸ lnO_pos he h
    rw [ebd_er]
    dsimp only
    refine ⟨hb, ?_⟩
    rw [askIdent_bad _ _ _ _ hb, bd_some]
    exact dead2 b 0 (bs []) l hb
  | ok kr =>
    obtain ⟨k, r1⟩ := kr
    obtain ⟨t1, rfl⟩ := pKindL_ok _ hk
    have h1 := h.tail
    rw [ebd_ok]
    dsimp only
    rw [askIdent_eq fo e r1 h1, bd_some]
    cases hn : pName e r1 with
    | error b =>
      have hb : b ≠ 0 := pName_err hn ▸ lnO_pos he h1
      rw [ebd_er]
      exact ⟨hb, dead2 b k (bs []) r1 hb⟩
    | ok nr =>
      obtain ⟨n, r2⟩ := nr
      obtain ⟨t2, rfl, _⟩ := pName_ok hn
      have h2 := h1.tail
      rw [ebd_ok]
      dsimp only
      have tail4 : ∀ (o : ByteArray) (r3 : List Tok), Toks r3 →
          match ebd (pName e r3) fun f => ebd (pFig e (fDest k) fo f.2) fun d => ebd (pCount e k d.2.2 d.2.1) fun c => ebd (pTok e [59] c.2.1) fun r => (.ok ((k, n, o, f.1, d.1.1, d.1.2, c.1), r, c.2.2) : Except Int (D_api_Query × List Tok × Int)) with
          | .ok (q, r, fo') => (bd (m_askread_reader_ident_M_2 0 fo r3 e) fun x12 =>
              bd (m_askread_reader_figure__askread_reader_query_1_M_2 x12.2.1 fo k n o x12.1 0 0 0 0 x12.2.2 e) fun x14 =>
              bd (if decide (k = 3) then (bd (m_askread_reader_figure__askread_reader_query_2_M_2 x14.1 x14.2.1 k n o x12.1 x14.2.2.1 x14.2.2.2.1 x14.2.2.2.2.1 0 x14.2.2.2.2.2 e) fun x21 => some (x21.1, x21.2.1, x21.2.2.2, x21.2.2.1)) else (some (x14.1, x14.2.1, x14.2.2.2.2.2, 0))) fun (v15, v16, v17, v18) =>
              bd (askEnd v15 v16 v17 e) fun (v22, v23) => some ((k, n, o, x12.1, x14.2.2.1, (x14.2.2.2.1, x14.2.2.2.2.1), v18), v22, v16, v23)) = some (q, 0, fo', r)
          | .error b => b ≠ 0 ∧ ∃ q fo' r, (bd (m_askread_reader_ident_M_2 0 fo r3 e) fun x12 =>
              bd (m_askread_reader_figure__askread_reader_query_1_M_2 x12.2.1 fo k n o x12.1 0 0 0 0 x12.2.2 e) fun x14 =>
              bd (if decide (k = 3) then (bd (m_askread_reader_figure__askread_reader_query_2_M_2 x14.1 x14.2.1 k n o x12.1 x14.2.2.1 x14.2.2.2.1 x14.2.2.2.2.1 0 x14.2.2.2.2.2 e) fun x21 => some (x21.1, x21.2.1, x21.2.2.2, x21.2.2.1)) else (some (x14.1, x14.2.1, x14.2.2.2.2.2, 0))) fun (v15, v16, v17, v18) =>
              bd (askEnd v15 v16 v17 e) fun (v22, v23) => some ((k, n, o, x12.1, x14.2.2.1, (x14.2.2.2.1, x14.2.2.2.2.1), v18), v22, v16, v23)) = some (q, b, fo', r) := by
        intro o r3 h3
        rw [askIdent_eq fo e r3 h3, bd_some]
        cases hf : pName e r3 with
        | error b =>
          have hb : b ≠ 0 := pName_err hf ▸ lnO_pos he h3
          rw [ebd_er]
          refine ⟨hb, ?_⟩
          dsimp only
          rw [fig1_bad _ _ _ _ _ _ _ _ _ _ _ _ hb, bd_some]
          exact dead b k n r3 0 0 0 o (bs []) fo hb
        | ok fr =>
          obtain ⟨f, r4⟩ := fr
          obtain ⟨t3, rfl, _⟩ := pName_ok hf
          have h4 := h3.tail
          rw [ebd_ok]
          dsimp only
          have hg := fig1_eq fo k n o f 0 e r4 h4
          cases hd : pFig e (fDest k) fo r4 with
          | error b =>
            have hb : b ≠ 0 := pFig_pos hd ▸ lnO_pos he h4
            rw [hd] at hg
            obtain ⟨d, p1, p2, r, hg⟩ := hg
            rw [ebd_er, hg, bd_some]
            exact ⟨hb, dead b k n r d p1 p2 o f fo hb⟩
          | ok dr =>
            obtain ⟨⟨d, p1, p2⟩, r5, fo2⟩ := dr
            obtain ⟨t4, rfl, _⟩ := pFig_ok hd
            have h5 := h4.tail
            rw [hd] at hg
            dsimp only at hg
            rw [ebd_ok, hg, bd_some]
            dsimp only
            unfold pCount
            have endOf : ∀ (c : Int) (r6 : List Tok) (fo3 : Int), Toks r6 →
                match ebd (pTok e [59] r6) fun r => (.ok ((k, n, o, f, d, (p1, p2), c), r, fo3) : Except Int (D_api_Query × List Tok × Int)) with
                | .ok (q, r, fo') => (bd (askEnd 0 fo3 r6 e) fun (v22, v23) => some (((k, n, o, f, d, (p1, p2), c) : D_api_Query), v22, fo3, v23)) = some (q, 0, fo', r)
                | .error b => b ≠ 0 ∧ ∃ q fo' r, (bd (askEnd 0 fo3 r6 e) fun (v22, v23) => some (((k, n, o, f, d, (p1, p2), c) : D_api_Query), v22, fo3, v23)) = some (q, b, fo', r) := by
              intro c r6 fo3 h6
              rw [askEnd_eq, bd_some]
              cases ht : pTok e [59] r6 with
              | error b =>
                have hb : b ≠ 0 := pTok_err ht ▸ lnO_pos he h6
                rw [ebd_er]
                exact ⟨hb, _, _, _, rfl⟩
              | ok r => rw [ebd_ok]
            by_cases h3k : k = 3
            · rw [if_pos h3k, if_pos (decide_eq_true h3k)]
              have hg2 := fig2_eq fo2 k n o f d p1 p2 e r5 h5
              cases hc : pFig e cntB fo2 r5 with
              | error b =>
                have hb : b ≠ 0 := pFig_pos hc ▸ lnO_pos he h5
                rw [hc] at hg2
                obtain ⟨c, r, hg2⟩ := hg2
                rw [ebd_er, hg2, bd_some, bd_some]
                dsimp only
                rw [askEnd_bad _ _ _ _ hb, bd_some]
                exact ⟨hb, _, _, _, rfl⟩
              | ok cr =>
                obtain ⟨c, r6, fo3⟩ := cr
                obtain ⟨t5, rfl, _⟩ := pFig_ok hc
                rw [hc] at hg2
                dsimp only at hg2
                rw [ebd_ok, hg2, bd_some, bd_some]
                exact endOf c r6 fo3 h5.tail
            · rw [if_neg h3k, if_neg (by rw [decide_eq_true_eq]; exact h3k), ebd_ok, bd_some]
              exact endOf 0 r5 fo2 h5
      unfold pOther
      by_cases h4k : k = 4
      · rw [if_pos h4k, if_pos (decide_eq_true h4k), askIdent_eq fo e r2 h2, bd_some]
        cases ho : pName e r2 with
        | error b =>
          have hb : b ≠ 0 := pName_err ho ▸ lnO_pos he h2
          rw [ebd_er, bd_some]
          exact ⟨hb, dead3 b k n (bs []) r2 hb⟩
        | ok or_ =>
          obtain ⟨o, r3⟩ := or_
          obtain ⟨t6, rfl, _⟩ := pName_ok ho
          rw [ebd_ok, bd_some]
          exact tail4 o r3 h2.tail
      · rw [if_neg h4k, if_neg (by rw [decide_eq_true_eq]; exact h4k), ebd_ok, bd_some]
        exact tail4 (bs []) r2 h2
end Go.Proofs.YtboghejfmmigkaaDoor.AP
/- Queries of tokens: the document's way; texts read as queries. -/
namespace Go.Proofs.YtboghejfmmigkaaDoor.AP
open Go Go.RowKit Go.Proofs.YtboghejfmmigkaaDoor.Tri
set_option linter.unusedVariables false
set_option linter.unusedSimpArgs false
set_option maxRecDepth 4000
end Go.Proofs.YtboghejfmmigkaaDoor.AP
/- Texts read as queries: the program's way and the document's; the plain laws. -/
namespace Go.Proofs.YtboghejfmmigkaaDoor.AP
open Go Go.RowKit Go.Proofs.YtboghejfmmigkaaDoor.Tri
set_option linter.unusedVariables false
set_option linter.unusedSimpArgs false
set_option maxRecDepth 4000
abbrev AskR := List D_api_Query × Int × Int
/-- all queries of tokens -/
def pAll (e : Int) : Nat → List Tok → Int → List D_api_Query → AskR
  | _, [], fo, acc => if fo = 0 then (acc, 0, 0) else ([], fo, 22)
  | 0, _ :: _, fo, acc => ([], 0, 0)
  | k + 1, t :: r, fo, acc => match pQuery e fo (t :: r) with
    | .error b => ([], b, 21)
    | .ok (q, l, fo') => pAll e k l fo' (acc ++ [q])
/-- a text's queries -/
def askV (l : List UInt8) : AskR := if (allV l).2.2 = 0 then pAll (allV l).2.1 (allV l).1.length (allV l).1 0 [] else ([], (allV l).2.1, (allV l).2.2)
theorem allV_err (l : List UInt8) : (allV l).2.2 = 0 ∨ (allV l).2.2 = 21 := by
  unfold allV
  split
  · exact .inl rfl
  · exact .inr rfl
theorem allV_toks (l : List UInt8) (hl : l.length ≤ 1000000) : Toks (allV l).1 ∧ 1 ≤ (allV l).2.1 ∧ (allV l).1.length ≤ l.length := by
  obtain ⟨h1, h2, h3, h4⟩ := lx_ok l.length l 1 (Nat.le_refl _) (by omega)
  unfold allV
  split
  · exact ⟨fun t ht => ⟨(h1 t ht).1, by have := (h1 t ht).2.1; omega⟩, h2, h4⟩
  · exact ⟨fun t ht => (by cases ht), h2, Nat.zero_le _⟩
theorem pQuery_len {e fo fo' : Int} {l r : List Tok} {q : D_api_Query} (h : pQuery e fo l = .ok (q, r, fo')) : ∃ n, 0 < n ∧ n ≤ l.length ∧ r = l.drop n := by
  unfold pQuery at h
  cases hk : pKind e l with
  | error b => rw [hk] at h; cases h
  | ok kr =>
    obtain ⟨k, r1⟩ := kr
    obtain ⟨t1, rfl⟩ := pKindL_ok _ hk
    rw [hk, ebd_ok] at h
    dsimp only at h
    cases hn : pName e r1 with
    | error b => rw [hn] at h; cases h
    | ok nr =>
      obtain ⟨n, r2⟩ := nr
      obtain ⟨t2, rfl, _⟩ := pName_ok hn
      rw [hn, ebd_ok] at h
      dsimp only at h
      have tail : ∀ (o : ByteArray) (r3 : List Tok) (m : Nat), m ≤ (t1 :: t2 :: r2).length → r3 = (t1 :: t2 :: r2).drop m →
          (ebd (pName e r3) fun f => ebd (pFig e (fDest k) fo f.2) fun d => ebd (pCount e k d.2.2 d.2.1) fun c => ebd (pTok e [59] c.2.1) fun r => (.ok ((k, n, o, f.1, d.1.1, d.1.2, c.1), r, c.2.2) : Except Int (D_api_Query × List Tok × Int))) = .ok (q, r, fo') → ∃ n, 0 < n ∧ n ≤ (t1 :: t2 :: r2).length ∧ r = (t1 :: t2 :: r2).drop n := by
        intro o r3 m hm hr3 h
        cases hf : pName e r3 with
        | error b => rw [hf] at h; cases h
        | ok fr =>
          obtain ⟨f, r4⟩ := fr
          obtain ⟨t3, rfl, _⟩ := pName_ok hf
          rw [hf, ebd_ok] at h
          dsimp only at h
          obtain ⟨l4, _, e4⟩ := drop_rd hr3.symm
          cases hd : pFig e (fDest k) fo r4 with
          | error b => rw [hd] at h; cases h
          | ok dr =>
            obtain ⟨d, r5, fo2⟩ := dr
            obtain ⟨t4, rfl, _⟩ := pFig_ok hd
            rw [hd, ebd_ok] at h
            dsimp only at h
            obtain ⟨l5, _, e5⟩ := drop_rd e4
            have fin : ∀ (c : Int) (r6 : List Tok) (fo3 : Int) (m6 : Nat), (t1 :: t2 :: r2).drop m6 = r6 → ebd (pTok e [59] r6) (fun r => (.ok ((k, n, o, f, d.1, d.2, c), r, fo3) : Except Int (D_api_Query × List Tok × Int))) = .ok (q, r, fo') → ∃ n, 0 < n ∧ n ≤ (t1 :: t2 :: r2).length ∧ r = (t1 :: t2 :: r2).drop n := by
              intro c r6 fo3 m6 e6 h
              cases ht : pTok e [59] r6 with
              | error b => rw [ht] at h; cases h
              | ok r7 =>
                obtain ⟨t7, rfl, _⟩ := pTok_ok ht
                rw [ht, ebd_ok] at h
                obtain ⟨l7, _, e7⟩ := drop_rd e6
                cases h
                exact ⟨m6 + 1, by omega, by omega, e7.symm⟩
            unfold pCount at h
            by_cases h3 : k = 3
            · rw [if_pos h3] at h
              cases hc : pFig e cntB fo2 r5 with
              | error b => rw [hc] at h; cases h
              | ok cr =>
                obtain ⟨c, r6, fo3⟩ := cr
                obtain ⟨t5, rfl, _⟩ := pFig_ok hc
                rw [hc, ebd_ok] at h
                obtain ⟨l6, _, e6⟩ := drop_rd e5
                exact fin c r6 fo3 _ e6 h
            · rw [if_neg h3, ebd_ok] at h
              exact fin 0 r5 fo2 _ e5 h
      unfold pOther at h
      by_cases h4 : k = 4
      · rw [if_pos h4] at h
        cases ho : pName e r2 with
        | error b => rw [ho] at h; cases h
        | ok or_ =>
          obtain ⟨o, r3⟩ := or_
          obtain ⟨t6, rfl, _⟩ := pName_ok ho
          rw [ho, ebd_ok] at h
          exact tail o r3 3 (by simp) rfl h
      · rw [if_neg h4, ebd_ok] at h
        exact tail (bs []) r2 2 (by simp) rfl h
theorem askRead_loop (line er e : Int) (he : 1 ≤ e) (L : List Tok) (X : List Tok) : ∀ (k : Nat) (l : List Tok) (fo : Int) (acc : List D_api_Query), l.length ≤ k → Toks l → acc.length + l.length ≤ 1000000 →
    ∃ v12 v13 v14 v15, lp (m_askread_Read_l2 (line, er, X, e)) (0, fo, acc, l) = some (v12, v13, v14, v15) ∧ (if v12 ≠ 0 then ([], v12, 21) else if v13 ≠ 0 then ([], v13, 22) else (v14, 0, 0)) = pAll e k l fo acc
  | k, [], fo, acc, hk, hl, ha => by
    refine ⟨0, fo, acc, [], lp_done (by rfl), ?_⟩
    rw [if_neg (show ¬ ((0 : Int) ≠ 0) from fun h => h rfl)]
    unfold pAll
    by_cases h : fo = 0
    · rw [if_neg (show ¬ (fo ≠ 0) from fun hh => hh h), if_pos h]
    · rw [if_pos h, if_neg h]
  | 0, t :: r, fo, acc, hk, hl, ha => by simp at hk
  | k + 1, t :: r, fo, acc, hk, hl, ha => by
    have hq := askQuery_eq fo e (t :: r) hl he
    have e1 : decide ((((t :: r).length : Nat) : Int) = 0) = false := decide_eq_false (by simp; omega)
    have hap : ∀ q : D_api_Query, ap 88 acc [q] = some (acc ++ [q]) := fun q => ap_of (by simp at ha ⊢; omega)
    unfold pAll
    cases hp : pQuery e fo (t :: r) with
    | error b =>
      rw [hp] at hq
      obtain ⟨hb, q, fo', r', hq⟩ := hq
      refine ⟨b, fo', acc ++ [q], r', ?_, by rw [if_pos hb]⟩
      rw [lp_more (s' := (b, fo', acc ++ [q], r')) (by
        simp only [m_askread_Read_l2, decide_true, if_true, m_lex_Reader_Done_M_2, bd_some, e1, Bool.not_false]
        rw [hq, bd_some, hap, bd_some])]
      exact lp_done (by simp only [m_askread_Read_l2, decide_eq_false hb, Bool.false_eq_true, if_false, bd_some])
    | ok v =>
      obtain ⟨q, r', fo'⟩ := v
      obtain ⟨n, hn0, hn1, hn⟩ := pQuery_len hp
      rw [hp] at hq
      dsimp only at hq ⊢
      have hlen : r'.length + n = (t :: r).length := by rw [hn, List.length_drop]; omega
      obtain ⟨v12, v13, v14, v15, g1, g2⟩ := askRead_loop line er e he L X k r' fo' (acc ++ [q]) (by omega) (by rw [hn]; exact hl.drop n) (by simp at ha hlen ⊢; omega)
      refine ⟨v12, v13, v14, v15, ?_, g2⟩
      rw [lp_more (s' := (0, fo', acc ++ [q], r')) (by
        simp only [m_askread_Read_l2, decide_true, if_true, m_lex_Reader_Done_M_2, bd_some, e1, Bool.not_false]
        rw [hq, bd_some, hap, bd_some])]
      exact g1
theorem askRead_eq (l : List UInt8) (hl : l.length ≤ 1000000) : m_askread_Read (bs l) = some (askV l) := by
  obtain ⟨h1, h2, h3⟩ := allV_toks l hl
  unfold m_askread_Read m_lex_New_M askV
  rw [lexAll_eq l hl, bd_some]
  rcases allV_err l with h0 | h0
  · rw [h0, if_neg (show ¬ ((!decide ((0 : Int) = 0)) = true) by decide), bd_some, alt2_r, if_pos rfl]
    dsimp only
    rw [if_neg (show ¬ ((!decide ((0 : Int) = 0)) = true) by decide)]
    obtain ⟨v12, v13, v14, v15, g1, g2⟩ := askRead_loop (allV l).2.1 0 (allV l).2.1 h2 [] (allV l).1 (allV l).1.length (allV l).1 0 [] (Nat.le_refl _) h1 (by simp; omega)
    rw [g1, bd_some, ← g2]
    dsimp only
    by_cases a : v12 = 0
    · rw [decide_eq_true a, Bool.not_true, if_neg Bool.false_ne_true, if_neg (show ¬ (v12 ≠ 0) from fun h => h a)]
      by_cases b : v13 = 0
      · rw [decide_eq_true b, Bool.not_true, if_neg Bool.false_ne_true, if_neg (show ¬ (v13 ≠ 0) from fun h => h b)]
      · rw [decide_eq_false b, Bool.not_false, if_pos rfl, if_pos b]
    · rw [decide_eq_false a, Bool.not_false, if_pos rfl, if_pos a]
  · rw [h0, if_pos (show ((!decide ((21 : Int) = 0)) = true) by decide), bd_some, alt2_l, if_pos (show ((!decide ((21 : Int) = 0)) = true) by decide), if_neg (by decide)]
theorem sq_refl (a : ByteArray) : sq a a = true := sq_iff.2 rfl
theorem askSame_eq (l : List D_api_Query) (hl : l.length ≤ 1000000000) : m_triviumref21_Same l l = some true := by
  unfold m_triviumref21_Same
  rw [decide_eq_true rfl, Bool.not_true, if_neg Bool.false_ne_true]
  have h : ∀ i, i < l.length → m_triviumref21_Same_l1 l l ((i : Nat) : Int) = some (.inl (((i + 1 : Nat)) : Int)) := by
    intro i hi
    have e1 : decide ((i : Int) < ((l.length : Nat) : Int)) = true := decide_eq_true (by omega)
    have e2 : rd l (i : Int) = some l[i] := rd_at hi
    simp only [m_triviumref21_Same_l1, e1, if_true, e2, bd_some, sq_refl, decide_true, Bool.and_true, Bool.not_true, Bool.false_eq_true, if_false]
    rw [wi64_eq (by omega) (by omega)]; rfl
  have := lp_ind (f := m_triviumref21_Same_l1 l l) (fun i => (i : Int)) l.length (some true) h (lp_done (by
    have e1 : decide (((l.length : Nat) : Int) < ((l.length : Nat) : Int)) = false := decide_eq_false (by omega)
    simp only [m_triviumref21_Same_l1, e1, Bool.false_eq_true, if_false]))
  exact this
theorem pAll_len (e : Int) : ∀ (k : Nat) (l : List Tok) (fo : Int) (acc : List D_api_Query), l.length ≤ k → (pAll e k l fo acc).1.length ≤ acc.length + l.length
  | k, [], fo, acc, hk => by unfold pAll; split <;> simp
  | 0, t :: r, fo, acc, hk => by simp at hk
  | k + 1, t :: r, fo, acc, hk => by
    unfold pAll
    cases hp : pQuery e fo (t :: r) with
    | error b => simp
    | ok v =>
      obtain ⟨q, r', fo'⟩ := v
      obtain ⟨n, hn0, hn1, hn⟩ := pQuery_len hp
      have hlen : r'.length + n = (t :: r).length := by rw [hn, List.length_drop]; omega
      have := pAll_len e k r' fo' (acc ++ [q]) (by omega)
      dsimp only
      simp at this hlen ⊢
      omega
theorem askV_len (l : List UInt8) (hl : l.length ≤ 1000000) : (askV l).1.length ≤ 1000000 := by
  obtain ⟨h1, h2, h3⟩ := allV_toks l hl
  unfold askV
  split
  · have := pAll_len (allV l).2.1 (allV l).1.length (allV l).1 0 [] (Nat.le_refl _)
    simp at this; omega
  · simp
def askEx : List UInt8 := [112, 114, 111, 98, 32, 97, 32, 114, 32, 49, 48, 46, 48, 46, 48, 46, 49, 59]
theorem askEx_eq : askV askEx = ([(1, bs [97], bs [], bs [114], 167772161, (0, 0), 0)], 0, 0) := by kernel_rfl
theorem works21 : m_triviumlaw21_works = some true := by
  unfold m_triviumlaw21_works
  rw [show (bs [112, 114, 111, 98, 32, 97, 32, 114, 32, 49, 48, 46, 48, 46, 48, 46, 49, 59]) = bs askEx from rfl, askRead_eq askEx (by decide), bd_some, askEx_eq]
  rw [if_pos (by rfl), if_pos (by rfl), if_pos (by rfl)]
  show bd (rd [_] 0) _ = _
  rw [rd0, bd_some, lt_eq]
  simp [sq_refl]
theorem cs_min (b : ByteArray) (m : Nat) : cs b 0 (min (b.size : Int) (m : Int)) = some (bs (b.data.toList.take m)) := by
  have h := cs_bs b.data.toList 0 (min b.data.toList.length m) (by omega) (by omega)
  rw [show bs b.data.toList = b from rfl, List.drop_zero] at h
  have e1 : ((min b.data.toList.length m : Nat) : Int) = min (b.size : Int) (m : Int) := by
    rw [size_list]; omega
  rw [show ((0 : Nat) : Int) = 0 from rfl, e1] at h
  rw [h]
  congr 2
  by_cases hle : b.data.toList.length ≤ m
  · rw [Nat.min_eq_left hle, List.take_length, List.take_of_length_le hle]
  · rw [Nat.min_eq_right (by omega)]
end Go.Proofs.YtboghejfmmigkaaDoor.AP
/- Queries of two texts, one behind the other. -/
namespace Go.Proofs.YtboghejfmmigkaaDoor.AP
open Go Go.RowKit Go.Proofs.YtboghejfmmigkaaDoor.Tri
set_option linter.unusedVariables false
set_option linter.unusedSimpArgs false
set_option maxRecDepth 4000
/-- a token but for its line -/
def key (t : Tok) : Int × ByteArray := (t.1, t.2.1)
theorem key_cons {t : Tok} {r l' : List Tok} {z : List (Int × ByteArray)} (h : l'.map key = (t :: r).map key ++ z) : ∃ t' r', l' = t' :: r' ∧ t'.1 = t.1 ∧ t'.2.1 = t.2.1 ∧ r'.map key = r.map key ++ z := by
  cases l' with
  | nil => cases h
  | cons t' r' =>
    rw [List.map_cons, List.map_cons, List.cons_append] at h
    injection h with h1 h2
    unfold key at h1
    injection h1 with h3 h4
    exact ⟨t', r', rfl, h3, h4, h2⟩
theorem pName_key {e e' : Int} {l r l' : List Tok} {v : ByteArray} {z : List (Int × ByteArray)} (h : pName e l = .ok (v, r)) (hk : l'.map key = l.map key ++ z) : ∃ r', pName e' l' = .ok (v, r') ∧ r'.map key = r.map key ++ z := by
  cases l with
  | nil => cases h
  | cons t r0 =>
    obtain ⟨t', r', rfl, h1, h2, h3⟩ := key_cons hk
    have hn : isNm t' = isNm t := by unfold isNm; rw [h1, h2]
    rw [pName_cons] at h
    cases hi : isNm t with
    | false => rw [hi] at h; cases h
    | true =>
      rw [hi] at h
      cases h
      exact ⟨r', by rw [pName_cons, hn, hi, h2]; rfl, h3⟩
theorem pTok_key {e e' : Int} {w : List UInt8} {l r l' : List Tok} {z : List (Int × ByteArray)} (h : pTok e w l = .ok r) (hk : l'.map key = l.map key ++ z) : ∃ r', pTok e' w l' = .ok r' ∧ r'.map key = r.map key ++ z := by
  cases l with
  | nil => cases h
  | cons t r0 =>
    obtain ⟨t', r', rfl, h1, h2, h3⟩ := key_cons hk
    rw [pTok_cons] at h
    by_cases hw : t.2.1.data.toList = w
    · rw [if_pos hw] at h
      cases h
      exact ⟨r', by rw [pTok_cons, if_pos (by rw [h2]; exact hw)], h3⟩
    · rw [if_neg hw] at h; cases h
theorem pKindL_key {e e' : Int} {l r l' : List Tok} {k : Int} {z : List (Int × ByteArray)} (hk : l'.map key = l.map key ++ z) : ∀ as_ : List (List UInt8 × Int), pKindL e as_ l = .ok (k, r) → ∃ r', pKindL e' as_ l' = .ok (k, r') ∧ r'.map key = r.map key ++ z
  | [], h => by cases h
  | a :: as_, h => by
    obtain ⟨t, e1⟩ := pKindL_ok _ h
    subst e1
    obtain ⟨t', r', rfl, h1, h2, h3⟩ := key_cons hk
    have h : (match pTok e a.1 (t :: r) with | .ok r => Except.ok (a.2, r) | .error _ => pKindL e as_ (t :: r)) = Except.ok (k, r) := h
    show ∃ r'', (match pTok e' a.1 (t' :: r') with | .ok r => Except.ok (a.2, r) | .error _ => pKindL e' as_ (t' :: r')) = Except.ok (k, r'') ∧ _
    rw [pTok_cons] at h ⊢
    rw [h2]
    by_cases hw : t.2.1.data.toList = a.1
    · rw [if_pos hw] at h ⊢
      cases h
      exact ⟨r', rfl, h3⟩
    · rw [if_neg hw] at h ⊢
      exact pKindL_key hk as_ h
theorem pFig_key {α : Type} {e e' : Int} {f : List UInt8 → α × Int} {l r l' : List Tok} {v : α} {z : List (Int × ByteArray)} (hl : Toks l) (h : pFig e f 0 l = .ok (v, r, 0)) (hk : l'.map key = l.map key ++ z) : ∃ r', pFig e' f 0 l' = .ok (v, r', 0) ∧ r'.map key = r.map key ++ z := by
  cases l with
  | nil => cases h
  | cons t r0 =>
    obtain ⟨t', r', rfl, h1, h2, h3⟩ := key_cons hk
    have hln := hl.head.1.1
    rw [pFig_cons] at h
    by_cases hh : t.1 = 2 ∧ (f t.2.1.data.toList).2 ≠ 5
    · rw [if_pos hh] at h
      by_cases h0 : (f t.2.1.data.toList).2 = 0
      · rw [if_neg (show ¬ ((f t.2.1.data.toList).2 ≠ 0 ∧ (0 : Int) = 0) from fun x => x.1 h0)] at h
        cases h
        exact ⟨r', by rw [pFig_cons, h1, h2, if_pos hh, if_neg (show ¬ ((f t.2.1.data.toList).2 ≠ 0 ∧ (0 : Int) = 0) from fun x => x.1 h0)], h3⟩
      · rw [if_pos (show ((f t.2.1.data.toList).2 ≠ 0 ∧ (0 : Int) = 0) from ⟨h0, rfl⟩)] at h
        injection h with h
        injection h with _ h
        injection h with _ h
        omega
    · rw [if_neg hh] at h; cases h
theorem pFig_fo {α : Type} {e fo fo' : Int} {f : List UInt8 → α × Int} {l r : List Tok} {v : α} (h : pFig e f fo l = .ok (v, r, fo')) (h0 : fo ≠ 0) : fo' = fo := by
  cases l with
  | nil => cases h
  | cons t r0 =>
    rw [pFig_cons] at h
    by_cases hh : t.1 = 2 ∧ (f t.2.1.data.toList).2 ≠ 5
    · rw [if_pos hh, if_neg (show ¬ ((f t.2.1.data.toList).2 ≠ 0 ∧ fo = 0) from fun x => h0 x.2)] at h
      cases h; rfl
    · rw [if_neg hh] at h; cases h
theorem pQuery_key {e e' fo fo' : Int} {l r l' : List Tok} {q : D_api_Query} {z : List (Int × ByteArray)} (hl : Toks l) (h : pQuery e fo l = .ok (q, r, fo')) : (fo ≠ 0 → fo' = fo) ∧ (fo = 0 → fo' = 0 → l'.map key = l.map key ++ z → ∃ r', pQuery e' 0 l' = .ok (q, r', 0) ∧ r'.map key = r.map key ++ z) := by
  unfold pQuery at h
  cases hk : pKind e l with
  | error b => rw [hk] at h; cases h
  | ok kr =>
    obtain ⟨k, r1⟩ := kr
    obtain ⟨t1, rfl⟩ := pKindL_ok _ hk
    rw [hk, ebd_ok] at h
    dsimp only at h
    cases hn : pName e r1 with
    | error b => rw [hn] at h; cases h
    | ok nr =>
      obtain ⟨n, r2⟩ := nr
      obtain ⟨t2, rfl, _⟩ := pName_ok hn
      have hl2 := hl.tail.tail
      rw [hn, ebd_ok] at h
      dsimp only at h
      cases ho : pOther e k r2 with
      | error b => rw [ho] at h; cases h
      | ok or_ =>
        obtain ⟨o, r3⟩ := or_
        have ho3 : Toks r3 ∧ ∀ l'', l''.map key = r2.map key ++ z → ∃ r', pOther e' k l'' = .ok (o, r') ∧ r'.map key = r3.map key ++ z := by
          unfold pOther at ho ⊢
          by_cases h4 : k = 4
          · rw [if_pos h4] at ho
            obtain ⟨t6, rfl, _⟩ := pName_ok ho
            exact ⟨hl2.tail, fun l'' hk' => by rw [if_pos h4]; exact pName_key ho hk'⟩
          · rw [if_neg h4] at ho
            cases ho
            exact ⟨hl2, fun l'' hk' => ⟨l'', by rw [if_neg h4], hk'⟩⟩
        rw [ho, ebd_ok] at h
        dsimp only at h
        cases hf : pName e r3 with
        | error b => rw [hf] at h; cases h
        | ok fr =>
          obtain ⟨f, r4⟩ := fr
          obtain ⟨t3, rfl, _⟩ := pName_ok hf
          have hl4 := ho3.1.tail
          rw [hf, ebd_ok] at h
          dsimp only at h
          cases hd : pFig e (fDest k) fo r4 with
          | error b => rw [hd] at h; cases h
          | ok dr =>
            obtain ⟨d, r5, fo2⟩ := dr
            obtain ⟨t4, rfl, _⟩ := pFig_ok hd
            have hl5 := hl4.tail
            rw [hd, ebd_ok] at h
            dsimp only at h
            cases hc : pCount e k fo2 r5 with
            | error b => rw [hc] at h; cases h
            | ok cr =>
              obtain ⟨c, r6, fo3⟩ := cr
              rw [hc, ebd_ok] at h
              dsimp only at h
              cases ht : pTok e [59] r6 with
              | error b => rw [ht] at h; cases h
              | ok r7 =>
                rw [ht, ebd_ok] at h
                cases h
                have hc0 : fo2 ≠ 0 → fo' = fo2 := by
                  intro hh
                  unfold pCount at hc
                  by_cases h3 : k = 3
                  · rw [if_pos h3] at hc; exact pFig_fo hc hh
                  · rw [if_neg h3] at hc; cases hc; rfl
                refine ⟨fun hh => ?_, fun hfo hfo' hkey => ?_⟩
                · have h2 := pFig_fo hd hh
                  rw [hc0 (by rw [h2]; exact hh), h2]
                · subst hfo hfo'
                  have h20 : fo2 = 0 := by
                    by_cases hh : fo2 = 0
                    · exact hh
                    · exact (hc0 hh).symm
                  subst h20
                  unfold pQuery
                  obtain ⟨s1, g1, k1⟩ := pKindL_key (e' := e') hkey _ hk
                  obtain ⟨s2, g2, k2⟩ := pName_key (e' := e') hn k1
                  obtain ⟨s3, g3, k3⟩ := ho3.2 _ k2
                  obtain ⟨s4, g4, k4⟩ := pName_key (e' := e') hf k3
                  obtain ⟨s5, g5, k5⟩ := pFig_key (e' := e') hl4 hd k4
                  have hc2 : ∃ s6, pCount e' k 0 s5 = .ok (c, s6, 0) ∧ s6.map key = r6.map key ++ z := by
                    unfold pCount at hc ⊢
                    by_cases h3 : k = 3
                    · rw [if_pos h3] at hc ⊢; exact pFig_key hl5 hc k5
                    · rw [if_neg h3] at hc ⊢; cases hc; exact ⟨_, rfl, k5⟩
                  obtain ⟨s6, g6, k6⟩ := hc2
                  obtain ⟨s7, g7, k7⟩ := pTok_key (e' := e') ht k6
                  refine ⟨s7, ?_, k7⟩
                  rw [show pKind e' l' = .ok (k, s1) from g1, ebd_ok]
                  dsimp only
                  rw [g2, ebd_ok]
                  dsimp only
                  rw [g3, ebd_ok]
                  dsimp only
                  rw [g4, ebd_ok]
                  dsimp only
                  rw [g5, ebd_ok]
                  dsimp only
                  rw [g6, ebd_ok]
                  dsimp only
                  rw [g7, ebd_ok]
theorem pAll_cons (e : Int) (k : Nat) (t : Tok) (r : List Tok) (fo : Int) (acc : List D_api_Query) : pAll e (k + 1) (t :: r) fo acc = match pQuery e fo (t :: r) with | .error b => ([], b, 21) | .ok (q, l, fo') => pAll e k l fo' (acc ++ [q]) := rfl
theorem pAll_fo (e : Int) : ∀ (k : Nat) (l : List Tok) (fo : Int) (acc : List D_api_Query), l.length ≤ k → Toks l → fo ≠ 0 → (pAll e k l fo acc).2.2 ≠ 0
  | k, [], fo, acc, hk, hl, h => by unfold pAll; rw [if_neg h]; show (22 : Int) ≠ 0; decide
  | 0, t :: r, fo, acc, hk, hl, h => by simp at hk
  | k + 1, t :: r, fo, acc, hk, hl, h => by
    unfold pAll
    cases hp : pQuery e fo (t :: r) with
    | error b => show (21 : Int) ≠ 0; decide
    | ok v =>
      obtain ⟨q, r', fo'⟩ := v
      obtain ⟨n, hn0, hn1, hn⟩ := pQuery_len hp
      have hlen : r'.length + n = (t :: r).length := by rw [hn, List.length_drop]; omega
      have h2 := (pQuery_key (e' := e) (l' := []) (z := []) hl hp).1 h
      dsimp only
      exact pAll_fo e k r' fo' _ (by omega) (by rw [hn]; exact hl.drop n) (by rw [h2]; exact h)
theorem pAll_key (e : Int) : ∀ (k : Nat) (l : List Tok) (acc : List D_api_Query), l.length ≤ k → Toks l → (pAll e k l 0 acc).2.2 = 0 →
    ∃ B, pAll e k l 0 acc = (acc ++ B, 0, 0) ∧ ∀ (e' : Int) (l' : List Tok) (z : List (Int × ByteArray)) (k' : Nat) (acc' : List D_api_Query), l'.map key = l.map key ++ z → l'.length ≤ k' →
      ∃ z' k2, z'.map key = z ∧ z'.length ≤ k2 ∧ pAll e' k' l' 0 acc' = pAll e' k2 z' 0 (acc' ++ B)
  | k, [], acc, hk, hl, h => by
    refine ⟨[], ?_, fun e' l' z k' acc' hkey hk' => ⟨l', k', hkey, hk', by rw [List.append_nil]⟩⟩
    unfold pAll
    rw [if_pos rfl, List.append_nil]
  | 0, t :: r, acc, hk, hl, h => by simp at hk
  | k + 1, t :: r, acc, hk, hl, h => by
    rw [pAll_cons] at h ⊢
    cases hp : pQuery e 0 (t :: r) with
    | error b => rw [hp] at h; cases h
    | ok v =>
      obtain ⟨q, r', fo'⟩ := v
      obtain ⟨n, hn0, hn1, hn⟩ := pQuery_len hp
      have hlen : r'.length + n = (t :: r).length := by rw [hn, List.length_drop]; omega
      have hr' : Toks r' := by rw [hn]; exact hl.drop n
      rw [hp] at h
      dsimp only at h ⊢
      have h0 : fo' = 0 := by
        by_cases hh : fo' = 0
        · exact hh
        · exact absurd h (pAll_fo e k r' fo' _ (by omega) hr' hh)
      subst h0
      obtain ⟨B, h1, h2⟩ := pAll_key e k r' (acc ++ [q]) (by omega) hr' h
      refine ⟨q :: B, by rw [h1]; simp, fun e' l' z k' acc' hkey hk' => ?_⟩
      obtain ⟨s, g1, g2⟩ := (pQuery_key (e' := e') hl hp).2 rfl rfl hkey
      obtain ⟨t', r'', rfl, _, _, _⟩ := key_cons hkey
      obtain ⟨m, hm0, hm1, hm⟩ := pQuery_len g1
      have hlen2 : s.length + m = (t' :: r'').length := by rw [hm, List.length_drop]; omega
      cases k' with
      | zero => simp at hk'
      | succ k' =>
        obtain ⟨z', k2, a1, a2, a3⟩ := h2 e' s z k' (acc' ++ [q]) g2 (by omega)
        refine ⟨z', k2, a1, a2, ?_⟩
        rw [pAll_cons, g1]
        dsimp only
        rw [a3, List.append_assoc]; rfl
theorem askV_ok {l : List UInt8} (h : (askV l).2.2 = 0) : (allV l).2.2 = 0 ∧ askV l = pAll (allV l).2.1 (allV l).1.length (allV l).1 0 [] := by
  rcases allV_err l with h0 | h0
  · refine ⟨h0, ?_⟩
    unfold askV
    rw [if_pos h0]
  · unfold askV at h
    rw [h0, if_neg (by decide)] at h
    cases h
/-! tokens of two texts -/
theorem tw_lf (p : UInt8 → Bool) (hp : p 10 = false) : ∀ (r t : List UInt8), (r ++ 10 :: t).takeWhile p = r.takeWhile p ∧ (r ++ 10 :: t).dropWhile p = r.dropWhile p ++ 10 :: t
  | [], t => by
    rw [List.nil_append, List.takeWhile_cons, List.dropWhile_cons, hp]
    exact ⟨rfl, rfl⟩
  | c :: r, t => by
    obtain ⟨h1, h2⟩ := tw_lf p hp r t
    rw [List.cons_append, List.takeWhile_cons, List.dropWhile_cons, List.takeWhile_cons, List.dropWhile_cons, h1, h2]
    cases p c with
    | true => exact ⟨rfl, rfl⟩
    | false => exact ⟨rfl, rfl⟩
theorem push_rest (t : Tok) (x : LX) : (push t x).2 = x.2 := rfl
theorem lx_append : ∀ (k : Nat) (s t : List UInt8) (ln : Int), s.length ≤ k → (lx s ln).2.2 = [] → lx (s ++ 10 :: t) ln = ((lx s ln).1 ++ (lx t ((lx s ln).2.1 + 1)).1, (lx t ((lx s ln).2.1 + 1)).2)
  | k, [], t, ln, hk, h => by
    rw [List.nil_append, lx_cons, if_pos (show (10 : UInt8).toNat = 10 from rfl), lx_nil]
    rfl
  | 0, c :: r, t, ln, hk, h => by simp at hk
  | k + 1, c :: r, t, ln, hk, h => by
    have hk : r.length ≤ k := by simpa using hk
    rw [List.cons_append, lx_cons, lx_cons]
    rw [lx_cons] at h
    obtain ⟨_, d1⟩ := tw_lf notLf rfl r t
    obtain ⟨w2, d2⟩ := tw_lf isFig rfl r t
    obtain ⟨w3, d3⟩ := tw_lf isWo rfl r t
    rw [d1, w2, d2, w3, d3]
    by_cases h10 : c.toNat = 10
    · rw [if_pos h10] at h ⊢; rw [if_pos h10]
      exact lx_append k r t (ln + 1) hk h
    rw [if_neg h10] at h ⊢; rw [if_neg h10]
    by_cases hb : c.toNat = 32 ∨ c.toNat = 9
    · rw [if_pos hb] at h ⊢; rw [if_pos hb]
      exact lx_append k r t ln hk h
    rw [if_neg hb] at h ⊢; rw [if_neg hb]
    by_cases h35 : c.toNat = 35
    · rw [if_pos h35] at h ⊢; rw [if_pos h35]
      exact lx_append k _ t ln (Nat.le_trans (dw_le _ _) hk) h
    rw [if_neg h35] at h ⊢; rw [if_neg h35]
    by_cases hM : isMk c = true
    · rw [if_pos hM] at h ⊢; rw [if_pos hM]
      rw [push_rest] at h ⊢
      rw [lx_append k r t ln hk h]; rfl
    rw [if_neg hM] at h ⊢; rw [if_neg hM]
    by_cases hD : isDig c = true
    · rw [if_pos hD] at h ⊢; rw [if_pos hD]
      rw [push_rest] at h ⊢
      rw [lx_append k _ t ln (Nat.le_trans (dw_le _ _) hk) h]; rfl
    rw [if_neg hD] at h ⊢; rw [if_neg hD]
    by_cases hL : isLet c = true
    · rw [if_pos hL] at h ⊢; rw [if_pos hL]
      rw [push_rest] at h ⊢
      rw [lx_append k _ t ln (Nat.le_trans (dw_le _ _) hk) h]; rfl
    rw [if_neg hL] at h
    cases h
theorem lx_lines : ∀ (k : Nat) (l : List UInt8) (a b : Int), l.length ≤ k → (lx l a).1.map key = (lx l b).1.map key ∧ (lx l a).2.2 = (lx l b).2.2
  | k, [], a, b, hk => ⟨rfl, rfl⟩
  | 0, c :: r, a, b, hk => by simp at hk
  | k + 1, c :: r, a, b, hk => by
    have hk : r.length ≤ k := by simpa using hk
    have hp : ∀ (n : Int) (w : ByteArray) (x y : LX), x.1.map key = y.1.map key ∧ x.2.2 = y.2.2 → (push (n, w, a) x).1.map key = (push (n, w, b) y).1.map key ∧ (push (n, w, a) x).2.2 = (push (n, w, b) y).2.2 := by
      rintro n w x y ⟨h1, h2⟩
      refine ⟨?_, h2⟩
      unfold push
      rw [List.map_cons, List.map_cons, h1]; rfl
    rw [lx_cons, lx_cons]
    split
    · exact lx_lines k r _ _ hk
    split
    · exact lx_lines k r _ _ hk
    split
    · exact lx_lines k _ _ _ (Nat.le_trans (dw_le _ _) hk)
    split
    · exact hp _ _ _ _ (lx_lines k r _ _ hk)
    split
    · exact hp _ _ _ _ (lx_lines k _ _ _ (Nat.le_trans (dw_le _ _) hk))
    split
    · exact hp _ _ _ _ (lx_lines k _ _ _ (Nat.le_trans (dw_le _ _) hk))
    · exact ⟨rfl, rfl⟩
theorem allV_ok {l : List UInt8} (h : (allV l).2.2 = 0) : (lx l 1).2.2 = [] ∧ (allV l).1 = (lx l 1).1 ∧ (allV l).2.1 = (lx l 1).2.1 := by
  unfold allV at h ⊢
  by_cases hr : (lx l 1).2.2 = []
  · rw [if_pos hr]; exact ⟨hr, rfl, rfl⟩
  · rw [if_neg hr] at h; cases h
theorem behind (s t : List UInt8) (hs : s.length ≤ 400000) (ht : t.length ≤ 400000) (h1 : (askV s).2.2 = 0) (h2 : (askV t).2.2 = 0) : askV (s ++ 10 :: t) = ((askV s).1 ++ (askV t).1, 0, 0) := by
  obtain ⟨a1, a2⟩ := askV_ok h1
  obtain ⟨b1, b2⟩ := askV_ok h2
  obtain ⟨s1, s2, s3⟩ := allV_ok a1
  obtain ⟨t1, t2, t3⟩ := allV_ok b1
  obtain ⟨sT, _, _⟩ := allV_toks s (by omega)
  obtain ⟨tT, _, _⟩ := allV_toks t (by omega)
  have hx := lx_append s.length s t 1 (Nat.le_refl _) s1
  obtain ⟨l1, l2⟩ := lx_lines t.length t ((lx s 1).2.1 + 1) 1 (Nat.le_refl _)
  have hr : (lx (s ++ 10 :: t) 1).2.2 = [] := by rw [hx]; exact l2.trans t1
  have hV : allV (s ++ 10 :: t) = ((lx (s ++ 10 :: t) 1).1, (lx (s ++ 10 :: t) 1).2.1, 0) := by unfold allV; rw [if_pos hr]
  have hkey : ((lx (s ++ 10 :: t) 1).1).map key = ((allV s).1).map key ++ ((allV t).1).map key := by
    rw [hx, s2, t2, List.map_append, l1]
  rw [a2] at h1
  rw [b2] at h2
  obtain ⟨B1, c1, c2⟩ := pAll_key _ _ _ [] (Nat.le_refl _) sT h1
  obtain ⟨B2, d1, d2⟩ := pAll_key _ _ _ [] (Nat.le_refl _) tT h2
  rw [a2, b2, c1, d1]
  unfold askV
  rw [hV, if_pos rfl]
  dsimp only
  obtain ⟨z, k2, e1, e2, e3⟩ := c2 (lx (s ++ 10 :: t) 1).2.1 _ _ _ [] hkey (Nat.le_refl _)
  rw [e3]
  obtain ⟨z', k3, f1, f2, f3⟩ := d2 (lx (s ++ 10 :: t) 1).2.1 z [] k2 ([] ++ B1) (by rw [e1, List.append_nil]) e2
  rw [f3]
  have hz : z' = [] := by
    cases z' with
    | nil => rfl
    | cons => cases f1
  rw [hz]
  unfold pAll
  rw [if_pos rfl]
  simp
theorem pAll_err (e : Int) : ∀ (k : Nat) (l : List Tok) (fo : Int) (acc : List D_api_Query), l.length ≤ k → (pAll e k l fo acc).2.2 = 0 ∨ (pAll e k l fo acc).2.2 = 21 ∨ (pAll e k l fo acc).2.2 = 22
  | k, [], fo, acc, hk => by
    unfold pAll
    split
    · exact .inl rfl
    · exact .inr (.inr rfl)
  | 0, t :: r, fo, acc, hk => by simp at hk
  | k + 1, t :: r, fo, acc, hk => by
    unfold pAll
    cases hp : pQuery e fo (t :: r) with
    | error b => exact .inr (.inl rfl)
    | ok v =>
      obtain ⟨q, r', fo'⟩ := v
      obtain ⟨n, hn0, hn1, hn⟩ := pQuery_len hp
      have hlen : r'.length + n = (t :: r).length := by rw [hn, List.length_drop]; omega
      dsimp only
      exact pAll_err e k r' fo' _ (by omega)
theorem askV_err (l : List UInt8) : (askV l).2.2 = 0 ∨ (askV l).2.2 = 21 ∨ (askV l).2.2 = 22 := by
  rcases allV_err l with h0 | h0
  · unfold askV; rw [if_pos h0]; exact pAll_err _ _ _ _ _ (Nat.le_refl _)
  · unfold askV; rw [if_neg (by rw [h0]; decide)]; exact .inr (.inl h0)
theorem askreadBehind_plain (s t : ByteArray) : m_triviumlaw21_AskreadBehind s t = some true := by
  have hs : (s.data.toList.take 1500).length ≤ 1500 := by rw [List.length_take]; omega
  have ht : (t.data.toList.take 1500).length ≤ 1500 := by rw [List.length_take]; omega
  unfold m_triviumlaw21_AskreadBehind
  rw [works21, bd_some, if_neg (by decide), show (1500 : Int) = ((1500 : Nat) : Int) from rfl, cs_min s 1500, bd_some, cs_min t 1500, bd_some]
  generalize s.data.toList.take 1500 = a at hs ⊢
  generalize t.data.toList.take 1500 = b at ht ⊢
  rw [askRead_eq a (by omega), bd_some, askRead_eq b (by omega), bd_some, cat_bs (by simp; omega), bd_some, cat_bs (by simp; omega), bd_some, askRead_eq _ (by simp; omega), bd_some, List.append_assoc]
  rw [show ([10] : List UInt8) ++ b = 10 :: b from rfl]
  have ea := askV_err a
  have eb := askV_err b
  by_cases ha : (askV a).2.2 = 0
  · by_cases hb : (askV b).2.2 = 0
    · have la := askV_len a (by omega)
      have lb := askV_len b (by omega)
      rw [behind a b (by omega) (by omega) ha hb]
      dsimp only
      rw [decide_eq_true ha, Bool.not_true, if_neg Bool.false_ne_true, decide_eq_true hb, Bool.not_true, bd_some, if_neg Bool.false_ne_true, if_pos (show (decide ((0 : Int) = 0)) = true from rfl), ap_of (by simp; omega), bd_some, ap_of (by simp; omega), bd_some, List.nil_append, askSame_eq _ (by simp; omega), bd_some]
    · have hb2 := eb.resolve_left hb
      rw [decide_eq_true ha, Bool.not_true, if_neg Bool.false_ne_true, decide_eq_false hb, Bool.not_false, bd_some, if_pos rfl]
      have n1 : decide ((askV a).2.2 = 21) = false := by rw [ha]; rfl
      have n2 : decide ((askV a).2.2 = 22) = false := by rw [ha]; rfl
      rw [n1, if_neg Bool.false_ne_true, n2, if_neg Bool.false_ne_true]
      rcases hb2 with h | h <;> rw [h] <;> rfl
  · have ha2 := ea.resolve_left ha
    rw [decide_eq_false ha, Bool.not_false, if_pos rfl, bd_some, if_pos rfl]
    rcases ha2 with h | h <;> rw [h] <;> rfl
end Go.Proofs.YtboghejfmmigkaaDoor.AP
/- AskreadBehind: the plain law, of all that may be handed in. -/
namespace Go.Proofs.YtboghejfmmigkaaDoor.Pure
open Go Go.Proofs.YtboghejfmmigkaaDoor.AP Go.Proofs.YtboghejfmmigkaaDoor.AE
theorem AskreadBehind (y0 : ByteArray) (h0 : Ty.ok .str y0) (y1 : ByteArray) (h1 : Ty.ok .str y1) : m_triviumlaw21_AskreadBehind y0 y1 = some true := askreadBehind_plain y0 y1
end Go.Proofs.YtboghejfmmigkaaDoor.Pure
/- The law AskreadBehind holds of every input: the row, and its card. -/
namespace Go.Proofs.YtboghejfmmigkaaDoor.askreadBehind
open Go.ChangeShapes Go.WideShapes Go.ChangeAt Go.RowKit
set_option linter.unusedVariables false
theorem own : ownKnob Tryd.prog.godebug = none := by kernel_rfl
theorem laidOut : laidOutB Tryd.prog = true := by kernel_rfl
theorem table {W : World} (h : laidMet Tryd.prog Rows.askreadBehindRow.laid W) : AE.Glo W := trivial
set_option maxRecDepth 100000 in
theorem lifted (os : Os) (started : os.Started) (H : Type) (enc : TypeId × Value → H) :
    ReturnsInHanded {} Tryd.checked os 3 .any (fun w args => (Rows.askreadBehindSpec.pre enc Tryd.prog Tryd.f3 [] false w args ∧ laidMetH Tryd.prog Rows.askreadBehindRow.laid w) ∧ sizedMet enc Tryd.prog Tryd.f3 (OpenSpec.ofChange Rows.askreadBehindSpec) false w args)
      (Rows.askreadBehindSpec.post enc Tryd.prog Tryd.f3 false true false false) := by
  refine returnsInHanded_of_change_and (C := Tryd.checked) (X := fun w _ => laidMetH Tryd.prog Rows.askreadBehindRow.laid w) (fun _ _ _ hh h => h.of_heap hh) own started (by kernel_rfl) Tryd.func3
    (ChangeSpec.witness_shaped (enc := enc) (C := Tryd.checked) (os := os) (X := fun w _ => laidMetH Tryd.prog Rows.askreadBehindRow.laid w) false (World.laidAll Tryd.prog os Rows.askreadBehindRow.laid) #[.string ByteArray.empty, .string ByteArray.empty] 8 (World.laidAll_os _ _ _)
      (World.shaped_of_ZipB (by kernel_rfl) (by kernel_rfl)) (by kernel_rfl) (by kernel_rfl) (by kernel_rfl)
      (by rw [MakeChecks.laidMetH_plain _ _ _ (by kernel_rfl)]; exact laidMet_laidAll _ (by kernel_rfl) (by kernel_rfl))) ?_
  intro W base args ds gs before hval0 hW _ hsz0 hL0 _
  have hL : laidMet Tryd.prog Rows.askreadBehindRow.laid W := by rw [MakeChecks.laidMetH_plain _ _ _ (by kernel_rfl)] at hL0; exact hL0
  clear hsz0
  have hval : ∀ (j : Nat) t v, Tryd.f3.params[j]? = some t → args[j]? = some v → Value.okWide Tryd.prog W .any base t v := hval0
  have hW' := hW
  obtain ⟨p, q, hA0, hV, rfl, hfz, hnd⟩ := hW
  have hA : DataW.TrodAll enc Tryd.prog W 0 (fun _ => true) true Tryd.f3.params.toList args.toList ds p := hA0
  rw [Tryd.params3] at hA hval
  obtain ⟨v0, vs0, d0, ds0, p0, q0, hargs, rfl, rfl, h0, r0⟩ := trodAll_cons hA
  obtain ⟨v1, vs1, d1, ds1, p1, q1, rfl, rfl, rfl, h1, r1⟩ := trodAll_cons r0
  obtain ⟨rfl, rfl, rfl⟩ := trodAll_nil r1
  obtain rfl : args = #[v0, v1] := by cases args; simp_all
  obtain ⟨rfl, rfl⟩ := trodVars_none hV
  have lt0 : ∀ x ∈ p0, x.block < W.heap.size := by obtain ⟨m, hm⟩ := h0; exact DataW.trod_lt m _ _ _ hm
  obtain ⟨a0, o0, e0⟩ := AE.open_v (t := .str) ⟨40, by kernel_rfl⟩ (hval 0 9 v0 rfl rfl) h0
  have lt1 : ∀ x ∈ p1, x.block < W.heap.size := by obtain ⟨m, hm⟩ := h1; exact DataW.trod_lt m _ _ _ hm
  obtain ⟨a1, o1, e1⟩ := AE.open_v (t := .str) ⟨40, by kernel_rfl⟩ (hval 1 9 v1 rfl rfl) h1
  clear hA0 hval0
  have h := Pure.AskreadBehind a0 o0 a1 o1
  have C := AE.law_calls (table hL) (AE.k_triviumlaw21_AskreadBehind h) (W := W) (args := [v0, v1]) ⟨v0, [v1], rfl, e0, v1, [], rfl, e1, rfl⟩
  refine C.mono fun e W' ⟨he, bel⟩ => ?_
  subst he
  exact ⟨_, rfl, _, _, _, [], _, [], hW', trodAll_mk1 (shut_bool Tryd.underlying4 _), (trodAll_cons_mk (Below.trod laidOut (by kernel_rfl) (of_decide_eq_true (by kernel_rfl)) h0 bel lt0) (trodAll_cons_mk (Below.trod laidOut (by kernel_rfl) (of_decide_eq_true (by kernel_rfl)) h1 bel lt1) trodAll_mk0)), rfl, bel.frame _, fun h => by cases h⟩
theorem over : Rows.askreadBehindRow.holds Tryd.pinned (OpenSpec.ofChange Rows.askreadBehindSpec) :=
  OpenClaim.holds_of_wide 3 Tryd.f3 rfl rfl rfl rfl rfl rfl rfl ⟨rfl, rfl, rfl, rfl, rfl⟩ rfl rfl rfl rfl rfl (by kernel_rfl) Tryd.func3 (by kernel_rfl)
    (of_decide_eq_true (by kernel_rfl)) (by unfold Func.isWrapper; first | (rw [if_pos (by decide +kernel)]; kernel_rfl) | (rw [if_neg (by decide +kernel)]; exact ⟨rfl, rfl⟩))
    (fun os started H enc _ => lifted os started H enc)
theorem proved : Rows.AskreadBehindSaid := over
theorem plain (f : FuncId) (fn : Func) (hf : Tryd.pinned.checked.prog.funcNamed "trivium/triviumlaw21.AskreadBehind" = some f) (hfn : Tryd.pinned.checked.prog.funcs[f]? = some fn) :
    false = Tryd.pinned.checked.prog.looks [] ∧ ∀ (j : Nat) t, fn.params[j]? = some t → Tryd.pinned.checked.prog.wantsStandIn t = false := by
  obtain rfl : f = 3 := Option.some.inj ((show Tryd.prog.funcNamed "trivium/triviumlaw21.AskreadBehind" = some 3 by kernel_rfl).symm.trans hf) |>.symm
  obtain rfl : fn = Tryd.f3 := (Option.some.inj (Tryd.func3.symm.trans hfn)).symm
  exact ⟨by kernel_rfl, fun j t ht => by
    rw [Tryd.params3] at ht
    have hm : t ∈ [9, 9] := by simpa using Array.mem_of_getElem? ht
    have hall : ([9, 9].all fun u => !Tryd.prog.wantsStandIn u) = true := by kernel_rfl
    exact (show Tryd.prog.wantsStandIn t = false by simpa using List.all_eq_true.1 hall t hm)⟩
theorem card : Rows.AskreadBehindCardSaid :=
  Claim7.holds_tied_plain_at .later [] _ _ _ _ proved (fun _ h => by cases h) (by kernel_rfl) (fun _ h => by cases h) askreadBehind_row_tie rfl ⟨rfl, rfl⟩ (by kernel_rfl) rfl plain (by kernel_rfl)
#print axioms card
end Go.Proofs.YtboghejfmmigkaaDoor.askreadBehind
namespace Go.Proofs.YtboghejfmmigkaaDoor
/-- The statement, under a short name, for the claim. -/
theorem askreadBehind_holds : Rows.AskreadBehindCardSaid := askreadBehind.card
end Go.Proofs.YtboghejfmmigkaaDoor
