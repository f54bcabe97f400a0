/- The law WholeTexts holds of every input: the row, and its card. -/
import Derived.Test.YtihaljbhcnflfaaDoorQWT4
import Derived.Test.YtihaljbhcnflfaaDoorQWT3
import Derived.Lib.Join
import Derived.Lib.SmallJoins
import Derived.Lib.AppendIntMem
import Derived.Lib.ItoaLen
import Derived.Laws.BitsAllLaws
import Derived.KernelRfl
import Derived.Test.YtihaljbhcnflfaaDoorCards
import Derived.Test.YtihaljbhcnflfaaDoorTie
import Derived.WalkKit
import Derived.ProofKit
import Derived.OpenShut
import Derived.ShutString
import Derived.ChangeOld
import Derived.Below
import Derived.Lay
import Derived.SevenTiedAt
import Derived.Lib.LaidTab
import Derived.Lib.LaidU8
import Derived.Stop.LaidErr
import Derived.LaidMore
/- Texts: put together, joined, printed numbers. -/
namespace Go.Proofs.YtihaljbhcnflfaaDoor.AP
open Go
set_option linter.unusedVariables false
set_option linter.unusedSimpArgs false
theorem data_bs (l : List UInt8) : (bs l).data.toList = l := rfl
theorem bs_data (s : ByteArray) : bs s.data.toList = s := rfl
theorem bs_size (l : List UInt8) : (bs l).size = l.length := rfl
theorem size_data (s : ByteArray) : s.size = s.data.toList.length := rfl
theorem bs_append (a b : List UInt8) : bs a ++ bs b = bs (a ++ b) := by
  apply ByteArray.ext
  apply Array.toList_inj.1
  rw [ByteArray.data_append]
  simp [bs]
theorem bs_inj {a b : List UInt8} (h : bs a = bs b) : a = b := by rw [← data_bs a, h, data_bs]
/-- The same text. -/
theorem sq_self (a : ByteArray) : sq a a = true := by unfold sq; simp
theorem sq_bs {a b : List UInt8} : sq (bs a) (bs b) = decide (a = b) := by
  unfold sq
  rw [toList_data, toList_data, data_bs, data_bs]
  by_cases h : a = b
  · subst h; simp
  · rw [decide_eq_false h]; simp [h]
theorem cat_bs {a b : List UInt8} (h : a.length + b.length ≤ 9223372036854775807) : cat (bs a) (bs b) = some (bs (a ++ b)) := by
  unfold cat
  rw [if_pos (by rw [bs_size, bs_size]; exact h), bs_append]
theorem join2 (s x y : List UInt8) (l : List (List UInt8)) : Lib.join (x :: y :: l) s = x ++ (s ++ Lib.join (y :: l) s) := by
  rw [Lib.join_cons, Lib.join_cons]
  simp [Lib.joinTail, List.append_assoc]
/-- a bound of a join's length -/
theorem join_len (s : List UInt8) (c : Nat) : ∀ l : List (List UInt8), (∀ x ∈ l, x.length ≤ c) → (Lib.join l s).length ≤ l.length * (c + s.length)
  | [], _ => by rw [Lib.join_nil]; simp
  | [x], h => by
    rw [Lib.join_one]
    have := h x (by simp)
    simp; omega
  | x :: y :: l, h => by
    have h1 := h x (by simp)
    have h2 := join_len s c (y :: l) (fun z hz => h z (by simp [hz]))
    rw [join2]
    simp only [List.length_append, List.length_cons] at h2 ⊢
    rw [Nat.succ_mul]
    omega
theorem nd_le (n : Nat) (h : n ≤ 9223372036854775808) : Lib.nDigits n ≤ 19 := by
  have hd : ∀ (j n : Nat), n < 10 ^ (j + 1) → Lib.nDigits n ≤ j + 1 := by
    intro j
    induction j with
    | zero => intro n hn; rw [Lib.nDigits_small (by simpa using hn)]; omega
    | succ j ih =>
      intro n hn
      by_cases h : n < 10
      · rw [Lib.nDigits_small h]; omega
      · rw [Lib.nDigits_big h]
        have := ih (n / 10) (by rw [Nat.pow_succ] at hn; omega)
        omega
  exact hd 18 n (by omega)
theorem itoa_len (n : Int) (h0 : -9223372036854775808 ≤ n) (h1 : n ≤ 9223372036854775807) : (Lib.itoa n).length ≤ 20 := by
  unfold Lib.itoa
  split
  · rw [List.length_cons, Lib.decDigits_length]
    have := nd_le n.natAbs (by omega)
    omega
  · rw [Lib.decDigits_length]
    have := nd_le n.toNat (by omega)
    omega
/-- a loop that fills a row with what is made of each -/
theorem lp_fill {α β : Type} {f : (Int × List β) → Option ((Int × List β) ⊕ (List β))} (l : List α) (g : α → β)
    (h : ∀ (i : Nat) x v, l[i]? = some x → v.length = l.length → f ((i : Int), v) = some (.inl ((i : Int) + 1, v.set i (g x)))) (he : ∀ v, f ((l.length : Int), v) = some (.inr v)) (v0 : List β) (hv : v0.length = l.length) : lp f (0, v0) = some (l.map g) := by
  have key : ∀ (k i : Nat) (v : List β), i + k = l.length → v.length = l.length → v.take i = (l.take i).map g → lp f ((i : Int), v) = some (l.map g) := by
    intro k
    induction k with
    | zero =>
      intro i v hk hv ht
      obtain rfl : i = l.length := by omega
      rw [lp_done (he v)]
      rw [List.take_of_length_le (by omega), List.take_of_length_le (Nat.le_refl _)] at ht
      rw [ht]
    | succ k ih =>
      intro i v hk hv ht
      have hi : l[i]? = some l[i] := List.getElem?_eq_getElem (by omega)
      rw [lp_more (h i _ v hi hv)]
      have := ih (i + 1) (v.set i (g l[i])) (by omega) (by rw [List.length_set]; exact hv) (by
        rw [List.take_add_one, List.take_add_one, hi, List.take_set_of_le (Nat.le_refl i), ht, List.map_append]
        congr 1
        rw [List.getElem?_set_self (by omega)]
        rfl)
      simpa using this
  exact key l.length 0 v0 (by omega) hv (by simp)
theorem mk16 (n : Nat) (h : n ≤ 4294967296) : AP.mk 16 (bs []) (n : Int) (n : Int) = some (List.replicate n (bs [])) := by
  rw [mk_of (by omega)]
  simp

/-! numbers by ten, the document's way -/
theorem tx_one (d : Nat) (h : d < 10) : tx [wu8 (wi64 (48 + (d : Int)))] = bs [UInt8.ofNat (48 + d)] := by
  rw [wi64_eq (by omega) (by omega), wu8_eq (by omega) (by omega)]
  unfold tx bs
  have : (48 + (d : Int)).toNat = 48 + d := by omega
  simp [this]
def catI {α : Type} (g : Nat → α → List UInt8) : Nat → List α → List UInt8
  | _, [] => []
  | i, x :: l => g i x ++ catI g (i + 1) l
theorem catI_snoc {α : Type} (g : Nat → α → List UInt8) : ∀ (l : List α) (i : Nat) (x : α), catI g i (l ++ [x]) = catI g i l ++ g (i + l.length) x
  | [], i, x => by simp [catI]
  | y :: l, i, x => by
    show g i y ++ catI g (i + 1) (l ++ [x]) = (g i y ++ catI g (i + 1) l) ++ _
    rw [catI_snoc g l (i + 1) x, List.append_assoc, List.length_cons, show i + 1 + l.length = i + (l.length + 1) by omega]
theorem catI_flat {α : Type} (g : α → List UInt8) : ∀ (l : List α) (i : Nat), catI (fun _ => g) i l = (l.map g).flatten
  | [], _ => rfl
  | x :: l, i => by
    show g x ++ catI (fun _ => g) (i + 1) l = _
    rw [catI_flat g l (i + 1)]
    rfl
theorem catI_congr {α : Type} {g h : Nat → α → List UInt8} : ∀ (l : List α) (i : Nat), (∀ j x, i ≤ j → g j x = h j x) → catI g i l = catI h i l
  | [], _, _ => rfl
  | x :: l, i, e => by
    show g i x ++ _ = h i x ++ _
    rw [e i x (Nat.le_refl _), catI_congr l (i + 1) (fun j x hj => e j x (by omega))]
/-- with a sign between: a join -/
theorem catI_join {α : Type} (s : List UInt8) (g : α → List UInt8) (x : α) (l : List α) : catI (fun i y => if i = 0 then g y else s ++ g y) 0 (x :: l) = Lib.join ((x :: l).map g) s := by
  show g x ++ catI _ 1 l = _
  rw [catI_congr (h := fun _ y => s ++ g y) l 1 (fun j y hj => by rw [if_neg (by omega)]), catI_flat, List.map_cons, Lib.join_cons]
  congr 1
  unfold Lib.joinTail
  rw [List.map_map]
  rfl
theorem catI_len {α : Type} (g : Nat → α → List UInt8) (c : Nat) : ∀ (l : List α) (i : Nat), (∀ j x, l[j]? = some x → (g (i + j) x).length ≤ c) → (catI g i l).length ≤ l.length * c
  | [], _, _ => by simp [catI]
  | x :: l, i, h => by
    have h1 := h 0 x rfl
    have h2 := catI_len g c l (i + 1) (fun j y hj => by have := h (j + 1) y hj; rwa [show i + (j + 1) = i + 1 + j by omega] at this)
    show (g i x ++ catI g (i + 1) l).length ≤ _
    rw [List.length_append, List.length_cons, Nat.succ_mul]
    have h1 : (g i x).length ≤ c := h1
    omega
theorem catI_take {α : Type} (g : Nat → α → List UInt8) (l : List α) (i : Nat) (x : α) (h : l[i]? = some x) : catI g 0 (l.take (i + 1)) = catI g 0 (l.take i) ++ g i x := by
  have hi := (List.getElem?_eq_some_iff.1 h).1
  rw [List.take_add_one, h]
  show catI g 0 (l.take i ++ [x]) = _
  rw [catI_snoc, List.length_take, Nat.min_eq_left (Nat.le_of_lt hi), Nat.zero_add]
/-- a loop that puts more behind a text -/
theorem lp_acc {α X : Type} (l : List α) (g : Nat → α → List UInt8) (c : Nat) (a0 : List UInt8) {f : (ByteArray × Int) → Option ((ByteArray × Int) ⊕ X)} {r : Option X}
    (hg : ∀ i x, l[i]? = some x → (g i x).length ≤ c)
    (h : ∀ (i : Nat) (x : α) (acc : List UInt8), l[i]? = some x → acc.length ≤ a0.length + l.length * c → f (bs acc, (i : Int)) = some (.inl (bs (acc ++ g i x), (i : Int) + 1)))
    (he : lp f (bs (a0 ++ catI g 0 l), (l.length : Int)) = r) : lp f (bs a0, 0) = r := by
  have key : ∀ (k i : Nat), i + k = l.length → lp f (bs (a0 ++ catI g 0 (l.take i)), (i : Int)) = r := by
    intro k
    induction k with
    | zero =>
      intro i hk
      obtain rfl : i = l.length := by omega
      rw [List.take_of_length_le (Nat.le_refl _)]
      exact he
    | succ k ih =>
      intro i hk
      have hi : l[i]? = some l[i] := List.getElem?_eq_getElem (by omega)
      have hlen : (catI g 0 (l.take i)).length ≤ l.length * c := by
        have := catI_len g c (l.take i) 0 (fun j x hj => by
          rw [Nat.zero_add]
          refine hg j x ?_
          rw [List.getElem?_take] at hj
          split at hj
          · exact hj
          · cases hj)
        rw [List.length_take, Nat.min_eq_left (by omega)] at this
        exact Nat.le_trans this (Nat.mul_le_mul_right _ (by omega))
      rw [lp_more (h i _ (a0 ++ catI g 0 (l.take i)) hi (by rw [List.length_append]; omega)), List.append_assoc, ← catI_take g l i _ hi]
      have := ih (i + 1) (by omega)
      simpa using this
  simpa [catI] using key l.length 0 (by omega)
/-! bytes in a builder -/
def i8 (l : List UInt8) : List Int := l.map fun b => (b.toNat : Int)
theorem apS_i8 (a b : List UInt8) (h : a.length + b.length ≤ 140737488355328) : apS_ (i8 a) (bs b) = some (i8 (a ++ b)) := by
  unfold apS_ i8
  rw [if_pos (by rw [List.length_map, bs_size]; exact h), List.map_append]
  rfl
theorem nem_i8 (l : List UInt8) (h : l ≠ []) : nem (i8 l) = some () := by
  cases l with
  | nil => exact absurd rfl h
  | cons x l => rfl
theorem ust_i8 (l : List UInt8) (h : l ≠ []) : ust (i8 l) = some (bs l) := by
  unfold ust
  rw [if_pos]
  · congr 1
    unfold tx bs i8
    rw [List.map_map]
    congr 1
    apply Array.toList_inj.1
    simp only [List.toList_toArray]
    have : ∀ l : List UInt8, l.map ((fun n : Int => UInt8.ofNat n.toNat) ∘ fun b => (b.toNat : Int)) = l := by
      intro l
      induction l with
      | nil => rfl
      | cons x l ih => rw [List.map_cons, ih]; congr 1; simp
    exact this l
  · refine ⟨by cases l with | nil => exact absurd rfl h | cons x l => exact List.cons_ne_nil _ _, ?_⟩
    apply List.all_eq_true.2
    intro z hz
    unfold i8 at hz
    obtain ⟨b, _, rfl⟩ := List.mem_map.1 hz
    have := b.toNat_lt
    rw [Bool.and_eq_true]
    exact ⟨decide_eq_true (by omega), decide_eq_true (by omega)⟩
end Go.Proofs.YtihaljbhcnflfaaDoor.AP
/- The document's numbers, as printed: what they come to. -/
namespace Go.Proofs.YtihaljbhcnflfaaDoor.AP
open Go Go.Proofs.YtihaljbhcnflfaaDoor.Tri
set_option linter.unusedVariables false
set_option linter.unusedSimpArgs false
theorem split_last {n : Nat} {a : List Int} (h : a.length = n + 1) : ∃ d x, a = d ++ [x] ∧ d.length = n := by
  have hne : a ≠ [] := by rintro rfl; simp at h
  obtain ⟨d, x, rfl⟩ := eq_snoc hne
  exact ⟨d, x, rfl, by simpa using h⟩
theorem take_self_append (d : List Int) (x : Int) : (d ++ [x]).take d.length = d := by simp
theorem refTrim_loop (p0 : List Int) (hl : p0.length ≤ 4611686018427387904) : ∀ (n : Nat) (a b : List Int), a.length = n → p0 = a ++ b → ∃ k : Nat, lp (m_triviumref02_Trim_l1 p0) (n : Int) = some (k : Int) ∧ k ≤ n ∧ a.take k = trimz a
  | 0, a, b, h, hp => by
    have : a = [] := List.eq_nil_of_length_eq_zero h
    subst this
    exact ⟨0, by rw [lp_go]; simp [m_triviumref02_Trim_l1], Nat.le_refl _, rfl⟩
  | n + 1, a, b, h, hp => by
    obtain ⟨d, x, rfl, hd⟩ := split_last h
    have hlen : p0.length = n + 1 + b.length := by rw [hp]; simp [hd]; omega
    have hx : gI p0 (n : Int) = x := by rw [hp, List.append_assoc]; unfold gI; rw [List.getD_eq_getElem?_getD, List.getElem?_append_right (by simp [hd])]; simp [hd]
    have hstep : m_triviumref02_Trim_l1 p0 ((n + 1 : Nat) : Int) = if x = 0 then some (.inl (n : Int)) else some (.inr ((n + 1 : Nat) : Int)) := by
      have e1 : wi64 (((n + 1 : Nat) : Int) - 1) = (n : Int) := by rw [wi64_eq (by omega) (by omega)]; omega
      have e2 : rd p0 (n : Int) = some x := by rw [rd_I (by omega) (by omega), hx]
      have e3 : decide (0 < ((n + 1 : Nat) : Int)) = true := decide_eq_true (by omega)
      simp only [m_triviumref02_Trim_l1, e3, if_true, e1, e2, bd_some, decide_eq_true_eq]
    by_cases h0 : x = 0
    · subst h0
      rw [lp_more (by rw [hstep, if_pos rfl])]
      obtain ⟨k, h1, h2, h3⟩ := refTrim_loop p0 hl n d ([0] ++ b) hd (by rw [hp]; simp)
      refine ⟨k, h1, by omega, ?_⟩
      rw [trimz_snoc_zero, ← h3, List.take_append_of_le_length (by omega)]
    · refine ⟨n + 1, lp_done (by rw [hstep, if_neg h0]), Nat.le_refl _, ?_⟩
      rw [List.take_of_length_le (by omega), trimz_of_top (Top.snoc.2 h0)]
theorem refTrim_eq (a : List Int) (hl : a.length ≤ 10000000000000) : m_triviumref02_Trim a = some (trimz a) := by
  obtain ⟨k, h1, h2, h3⟩ := refTrim_loop a (by omega) a.length a [] rfl (by simp)
  unfold m_triviumref02_Trim
  rw [h1, bd_some, ct_of (by omega), bd_some, ap_of (by simp; omega), bd_some]
  simp [h3]
theorem carry_loop : ∀ (n : Nat) (c : Int) (d : List Int), 0 ≤ c → c < (10000 : Int) ^ n → c < 1000000000000000000 → Dig (10000 : Int) d → d.length + n ≤ 1000000000000 →
    ∃ r, lp m_triviumref02_MulAdd_l2 (c, d) = some r ∧ Dig (10000 : Int) r ∧ dv (10000 : Int) r = dv (10000 : Int) d + (10000 : Int) ^ d.length * c ∧ r.length ≤ d.length + n
  | n, c, d, h0, h1, h2, hd, hl => by
    by_cases hc : 0 < c
    · cases n with
      | zero => simp at h1; omega
      | succ n =>
        have e1 : m_triviumref02_MulAdd_l2 (c, d) = some (.inl (c / (10000 : Int), d ++ [c % (10000 : Int)])) := by
          simp only [m_triviumref02_MulAdd_l2, decide_eq_true hc, if_true, rm_of h0 (show (0 : Int) < 10000 by decide), bd_some, ap_of (l := d) (m := [c % 10000]) (b := 8) (by simp; omega), qd64 h0 (show (0 : Int) < 10000 by decide) (by omega)]
        have hq : c / (10000 : Int) < (10000 : Int) ^ n := Int.ediv_lt_of_lt_mul (by decide) (by rw [← Int.pow_succ]; exact h1)
        obtain ⟨r, r1, r2, r3, r4⟩ := carry_loop n (c / (10000 : Int)) (d ++ [c % (10000 : Int)]) (Int.ediv_nonneg h0 (by decide)) hq (by have : c / (10000 : Int) ≤ c := Int.ediv_le_self _ h0; omega) (Dig.snoc hd ⟨by omega, by omega⟩) (by simp; omega)
        refine ⟨r, by rw [lp_more e1]; exact r1, r2, ?_, by simp at r4; omega⟩
        rw [r3, dv_snoc, List.length_append, List.length_singleton, Int.pow_succ]
        have := Int.mul_ediv_add_emod c (10000 : Int)
        generalize (10000 : Int) ^ d.length = p at *
        generalize c / (10000 : Int) = q at *
        have e : c = (10000 : Int) * q + c % (10000 : Int) := this.symm
        generalize c % (10000 : Int) = m at *
        subst e
        grind
    · have : c = 0 := by omega
      subst this
      refine ⟨d, lp_done (by simp [m_triviumref02_MulAdd_l2]), hd, by simp, by omega⟩
theorem mulAdd_loop (p0 : List Int) (p1 : Int) (ha : Dig (10000 : Int) p0) (hm0 : 0 ≤ p1) (hm1 : p1 ≤ 4294967296) (hl : p0.length ≤ 100000000000) (c0 : Int) : ∀ (k i : Nat) (c : Int) (d : List Int), i + k = p0.length → d.length = i → 0 ≤ c → c ≤ 4294967296 → Dig (10000 : Int) d → dv (10000 : Int) d + (10000 : Int) ^ i * c = dv (10000 : Int) (p0.take i) * p1 + c0 →
    ∃ c' d', lp (m_triviumref02_MulAdd_l1 p0 p1) (c, (i : Int), d) = some (c', d') ∧ d'.length = p0.length ∧ 0 ≤ c' ∧ c' ≤ 4294967296 ∧ Dig (10000 : Int) d' ∧ dv (10000 : Int) d' + (10000 : Int) ^ p0.length * c' = dv (10000 : Int) p0 * p1 + c0
  | 0, i, c, d, hk, hi, h0, h1, hd, hv => by
    obtain rfl : i = p0.length := by omega
    refine ⟨c, d, lp_done (by simp [m_triviumref02_MulAdd_l1]), hi, h0, h1, hd, by rw [hv, List.take_length]⟩
  | k + 1, i, c, d, hk, hi, h0, h1, hd, hv => by
    have g := gI_dig ha (by decide) (i : Int)
    have hp0 : 0 ≤ gI p0 (i : Int) * p1 := Int.mul_nonneg g.1 hm0
    have hp1 : gI p0 (i : Int) * p1 ≤ 9999 * 4294967296 := Int.mul_le_mul (by omega) hm1 hm0 (by decide)
    generalize hx : c + gI p0 (i : Int) * p1 = x
    have hx0 : 0 ≤ x := by omega
    have e1 : m_triviumref02_MulAdd_l1 p0 p1 (c, (i : Int), d) = some (.inl (x / (10000 : Int), ((i + 1 : Nat) : Int), d ++ [x % (10000 : Int)])) := by
      have a1 : decide ((i : Int) < (p0.length : Int)) = true := decide_eq_true (by omega)
      have a2 : rd p0 (i : Int) = some (gI p0 (i : Int)) := rd_I (by omega) (by omega)
      have a3 : wi64 (gI p0 (i : Int) * p1) = gI p0 (i : Int) * p1 := wi64_eq (by omega) (by omega)
      have a4 : wi64 (c + gI p0 (i : Int) * p1) = x := by rw [hx]; exact wi64_eq (by omega) (by omega)
      have a5 : wi64 ((i : Int) + 1) = ((i + 1 : Nat) : Int) := by rw [wi64_eq (by omega) (by omega)]; omega
      simp only [m_triviumref02_MulAdd_l1, a1, if_true, a2, bd_some, a3, a4, rm_of hx0 (show (0 : Int) < 10000 by decide), ap_of (l := d) (m := [x % 10000]) (b := 8) (by simp; omega), qd64 hx0 (show (0 : Int) < 10000 by decide) (by omega), a5]
    obtain ⟨c', d', r1, r2⟩ := mulAdd_loop p0 p1 ha hm0 hm1 hl c0 k (i + 1) (x / (10000 : Int)) (d ++ [x % (10000 : Int)]) (by omega) (by simp [hi]) (Int.ediv_nonneg hx0 (by decide)) (by omega) (Dig.snoc hd ⟨by omega, by omega⟩) (by
      rw [dv_snoc, take_gI (10000 : Int) p0 i (by omega), hi, Int.pow_succ]
      have := Int.mul_ediv_add_emod x (10000 : Int)
      generalize (10000 : Int) ^ i = p at *
      generalize x / (10000 : Int) = q at *
      generalize x % (10000 : Int) = m at *
      generalize gI p0 (i : Int) = gg at *
      subst hx
      generalize dv (10000 : Int) (List.take i p0) = T at *
      have h3 : m = c + gg * p1 - (10000 : Int) * q := by omega
      subst h3
      grind)
    exact ⟨c', d', by rw [lp_more e1]; exact r1, r2⟩
theorem mulAdd_dig (a : List Int) (m c : Int) (ha : Dig (10000 : Int) a) (hm0 : 0 ≤ m) (hm1 : m ≤ 4294967296) (hc0 : 0 ≤ c) (hc1 : c ≤ 4294967296) (hl : a.length ≤ 100000000000) : m_triviumref02_MulAdd a m c = some (zl (dv (10000 : Int) a * m + c)) := by
  obtain ⟨c', d', h1, h2, h3, h4, h5, h6⟩ := mulAdd_loop a m ha hm0 hm1 hl c a.length 0 c [] (by omega) rfl hc0 hc1 (Dig.nil _) (by simp [dv])
  obtain ⟨r, r1, r2, r3, r4⟩ := carry_loop 3 c' d' h3 (by have : (10000 : Int) ^ 3 = 1000000000000 := by decide
                                                          omega) (by omega) h5 (by omega)
  unfold m_triviumref02_MulAdd
  rw [show ((0 : Int)) = ((0 : Nat) : Int) from rfl, h1, bd_some]
  dsimp only
  rw [r1, bd_some, refTrim_eq r (by omega), bd_some, trimz_zl r2 (by rw [r3, h2, h6])]
theorem mulAdd_eq (x m c : Int) (hx : 0 ≤ x) (hm0 : 0 ≤ m) (hm1 : m ≤ 4294967296) (hc0 : 0 ≤ c) (hc1 : c ≤ 4294967296) (hl : (zl x).length ≤ 100000000000) : m_triviumref02_MulAdd (zl x) m c = some (zl (x * m + c)) := by
  rw [mulAdd_dig _ _ _ (zl_can x).1 hm0 hm1 hc0 hc1 hl, zl_dv hx]
theorem of_loop (a : List Int) (ha : Dig (4294967296 : Int) a) (hl : a.length ≤ 30000000000) : ∀ (n : Nat), n ≤ a.length → lp (m_triviumref02_Of_l1 a) (zl (dv (4294967296 : Int) (a.drop n)), (n : Int) - 1) = some (zl (dv (4294967296 : Int) a))
  | 0, _ => by
    refine lp_done ?_
    simp [m_triviumref02_Of_l1]
  | n + 1, h => by
    have g := gI_dig ha (by decide) (n : Int)
    have hd : Dig (4294967296 : Int) (a.drop (n + 1)) := ha.drop _
    have h0 := dv_nonneg (by decide) hd
    have hlen : (zl (dv (4294967296 : Int) (a.drop (n + 1)))).length ≤ 100000000000 := by
      have h1 := dv_lt (by decide) hd
      have := zl_len h0 (n := 3 * (a.drop (n + 1)).length) (Int.lt_of_lt_of_le h1 (lb_zb _))
      simp at this ⊢; omega
    have hv : dv (4294967296 : Int) (a.drop n) = dv (4294967296 : Int) (a.drop (n + 1)) * 4294967296 + gI a (n : Int) := by
      rw [drop_gI a n (by omega), dv_cons]; omega
    have e1 : m_triviumref02_Of_l1 a (zl (dv (4294967296 : Int) (a.drop (n + 1))), ((n + 1 : Nat) : Int) - 1) = some (.inl (zl (dv (4294967296 : Int) (a.drop n)), (n : Int) - 1)) := by
      have a0 : ((n + 1 : Nat) : Int) - 1 = (n : Int) := by omega
      have a1 : decide ((0 : Int) ≤ (n : Int)) = true := decide_eq_true (by omega)
      have a2 : rd a (n : Int) = some (gI a (n : Int)) := rd_I (by omega) (by omega)
      have a3 : gI a (n : Int) % 4294967296 = gI a (n : Int) := Int.emod_eq_of_lt g.1 g.2
      have a4 : wi64 (gI a (n : Int)) = gI a (n : Int) := wi64_eq (by omega) (by omega)
      have a5 : wi64 ((n : Int) - 1) = (n : Int) - 1 := wi64_eq (by omega) (by omega)
      rw [a0]
      simp only [m_triviumref02_Of_l1, a1, if_true, a2, bd_some, rm_of g.1 (show (0 : Int) < 4294967296 by decide), a3, a4, mulAdd_eq _ _ _ h0 (show (0 : Int) ≤ 4294967296 by decide) (Int.le_refl _) g.1 (by omega) hlen, a5, hv]
    rw [lp_more e1]
    exact of_loop a ha hl n (by omega)
theorem refOf_dig (a : List Int) (ha : Dig (4294967296 : Int) a) (hl : a.length ≤ 30000000000) : m_triviumref02_Of a = some (zl (dv (4294967296 : Int) a)) := by
  unfold m_triviumref02_Of
  have e : wi64 ((a.length : Int) - 1) = (a.length : Int) - 1 := wi64_eq (by omega) (by omega)
  have := of_loop a ha hl a.length (Nat.le_refl _)
  rw [List.drop_length, dv_nil, zl_zero] at this
  rw [e, this]; rfl
theorem refOf_eq (x : Int) (hx : 0 ≤ x) (hl : (nl x).length ≤ 30000000000) : m_triviumref02_Of (nl x) = some (zl x) := by
  rw [refOf_dig _ (nl_can x).1 hl, nl_dv hx]
end Go.Proofs.YtihaljbhcnflfaaDoor.AP
/- The document's numbers, as printed: compared, taken off, divided. -/
namespace Go.Proofs.YtihaljbhcnflfaaDoor.AP
open Go Go.Proofs.YtihaljbhcnflfaaDoor.Tri
set_option linter.unusedVariables false
set_option linter.unusedSimpArgs false
theorem dv_split (B : Int) (a : List Int) (n : Nat) (h : n ≤ a.length) : dv B a = dv B (a.take n) + B ^ n * dv B (a.drop n) := by
  have := dv_append B (a.take n) (a.drop n)
  rw [List.take_append_drop, List.length_take, Nat.min_eq_left h] at this
  exact this
theorem dv_take_lt {B : Int} (hB : 0 < B) {a : List Int} (h : Dig B a) (n : Nat) : dv B (a.take n) < B ^ n := by
  have h1 := dv_lt hB (h.take n)
  have h2 := pow_mono hB (show (a.take n).length ≤ n by simp; omega)
  omega
theorem digit_lt {B : Int} (hB : 0 < B) {a b : List Int} (ha : Dig B a) (hb : Dig B b) (q : Nat) (hqa : q < a.length) (hqb : q < b.length) (ht : dv B (a.drop (q + 1)) = dv B (b.drop (q + 1))) (h : gI a (q : Int) < gI b (q : Int)) : dv B a < dv B b := by
  rw [dv_split B a q (by omega), dv_split B b q (by omega), drop_gI a q hqa, drop_gI b q hqb, dv_cons, dv_cons, ht]
  have h1 := dv_take_lt hB ha q
  have h2 := dv_nonneg hB (hb.take q)
  have h3 := pow_pos' hB q
  have h4 : B ^ q * (gI a (q : Int) + 1) ≤ B ^ q * gI b (q : Int) := Int.mul_le_mul_of_nonneg_left (by omega) (by omega)
  rw [Int.mul_add, Int.mul_add]
  rw [Int.mul_add, Int.mul_one] at h4
  omega
theorem take_gI' (B : Int) (l : List Int) (i : Nat) : dv B (l.take (i + 1)) = dv B (l.take i) + B ^ i * gI l (i : Int) := by
  by_cases h : i < l.length
  · exact take_gI B l i h
  · rw [List.take_of_length_le (by omega), List.take_of_length_le (by omega)]
    have : gI l (i : Int) = 0 := by unfold gI; rw [List.getD_eq_getElem?_getD, List.getElem?_eq_none (by omega)]; rfl
    rw [this]; simp
theorem set_down (q : List Int) (j : Nat) (v : Int) : (List.replicate (j + 1) 0 ++ q).set j v = List.replicate j 0 ++ v :: q := by
  rw [List.set_append_left _ _ (by simp), show List.replicate (j + 1) (0 : Int) = List.replicate j 0 ++ [0] from List.replicate_succ', List.set_append_right _ _ (by simp)]
  simp
theorem gcd_mod (x y : Int) (hx : 0 ≤ x) : Int.gcd y (x % y) = Int.gcd x y := by
  rw [Int.gcd_comm y, Int.gcd_comm x]
  have e : (x % y).natAbs = x.natAbs % y.natAbs := by rw [Int.natAbs_emod_of_nonneg hx]
  unfold Int.gcd
  rw [e, ← Nat.gcd_rec]
theorem refDivSmall_loop (x d : Int) (hx : 0 ≤ x) (hd0 : 0 < d) (hd1 : d ≤ 4294967296) (hl : (zl x).length ≤ 1000000000000) : ∀ (n : Nat) (r : Int) (q : List Int), n ≤ (zl x).length → 0 ≤ r → r < d → q.length + n = (zl x).length → Dig (10000 : Int) q → dv (10000 : Int) ((zl x).drop n) = dv (10000 : Int) q * d + r →
    ∃ q', lp (m_triviumref02_DivSmall_l1 (zl x) d) (r, (n : Int) - 1, List.replicate n 0 ++ q) = some (x % d, q') ∧ q'.length = (zl x).length ∧ Dig (10000 : Int) q' ∧ dv (10000 : Int) q' = x / d
  | 0, r, q, hn, h0, h1, hq, hd, hv => by
    rw [List.drop_zero, zl_dv hx] at hv
    have e := Int.ediv_emod_unique (a := x) (b := d) (r := r) (q := dv (10000 : Int) q) hd0
    obtain ⟨e1, e2⟩ := e.2 ⟨by rw [hv, Int.mul_comm d]; omega, h0, h1⟩
    exact ⟨q, lp_done (by simp [m_triviumref02_DivSmall_l1, e2]), by omega, hd, e1.symm⟩
  | n + 1, r, q, hn, h0, h1, hq, hd, hv => by
    have g := gI_dig (zl_can x).1 (by decide) (n : Int)
    generalize hs : (10000 : Int) * r + gI (zl x) (n : Int) = s
    have hs0 : 0 ≤ s := by omega
    have hsy : s < (10000 : Int) * d := by omega
    have hqd : s / d < 10000 := Int.ediv_lt_of_lt_mul hd0 hsy
    have hqd0 : 0 ≤ s / d := Int.ediv_nonneg hs0 (by omega)
    have a0 : ((n + 1 : Nat) : Int) - 1 = (n : Int) := by omega
    have a1 : decide ((0 : Int) ≤ (n : Int)) = true := decide_eq_true (by omega)
    have a2 : rd (zl x) (n : Int) = some (gI (zl x) (n : Int)) := rd_I (by omega) (by omega)
    have a3 : wi64 ((wi64 (10000 * r)) + gI (zl x) (n : Int)) = s := by rw [wi64_eq (x := 10000 * r) (by omega) (by omega), hs, wi64_eq (by omega) (by omega)]
    have a4 : qd .i64 s d = some (s / d) := qd64 hs0 hd0 (by omega)
    have a5 : rm .i64 s d = some (s % d) := rm_of hs0 hd0
    have a6 : ix (List.replicate (n + 1) 0 ++ q) (n : Int) = some n := ix_nat (by simp; omega)
    have b1 : wi64 ((n : Int) - 1) = (n : Int) - 1 := wi64_eq (by omega) (by omega)
    have e : m_triviumref02_DivSmall_l1 (zl x) d (r, ((n + 1 : Nat) : Int) - 1, List.replicate (n + 1) 0 ++ q) = some (.inl (s % d, (n : Int) - 1, List.replicate n 0 ++ (s / d) :: q)) := by
      rw [a0]
      simp only [m_triviumref02_DivSmall_l1, a1, if_true, a2, bd_some, a3, a4, a5, a6, lt_eq, set_down, b1]
    rw [lp_more e]
    exact refDivSmall_loop x d hx hd0 hd1 hl n (s % d) (s / d :: q) (by omega) (Int.emod_nonneg _ (by omega)) (Int.emod_lt_of_pos _ hd0) (by simp; omega) (Dig.cons ⟨hqd0, hqd⟩ hd) (by
      rw [drop_gI (zl x) n (by omega), dv_cons, dv_cons, hv]
      have := Int.mul_ediv_add_emod s d
      generalize s / d = t at *
      generalize s % d = u at *
      generalize gI (zl x) (n : Int) = gg at *
      subst hs
      have h9 : u = (10000 : Int) * r + gg - d * t := by omega
      subst h9
      grind)
theorem refDivSmall_eq (x d : Int) (hx : 0 ≤ x) (hd0 : 0 < d) (hd1 : d ≤ 4294967296) (hl : (zl x).length ≤ 1000000000000) : m_triviumref02_DivSmall (zl x) d = some (zl (x / d), x % d) := by
  obtain ⟨q', h1, h2, h3, h4⟩ := refDivSmall_loop x d hx hd0 hd1 hl (zl x).length 0 [] (Nat.le_refl _) (Int.le_refl _) hd0 (by simp) (Dig.nil _) (by rw [List.drop_length]; simp [dv])
  unfold m_triviumref02_DivSmall
  rw [mk_of (by omega), bd_some, wi64_eq (by omega) (by omega)]
  rw [List.append_nil] at h1
  rw [show ((zl x).length : Int).toNat = (zl x).length by omega, h1, bd_some]
  dsimp only
  rw [refTrim_eq q' (by omega), bd_some, trimz_zl h3 h4]
theorem refBack_loop : ∀ (n : Nat) (x : Int) (d : List Int), 0 ≤ x → x.toNat ≤ n → (zl x).length ≤ 100000000000 → Dig (4294967296 : Int) d → d.length + (nl x).length ≤ 1000000000000 →
    ∃ r, lp m_triviumref02_Back_l1 (zl x, d) = some r ∧ r = d ++ nl x
  | n, x, d, h0, hn, hl, hd, hd2 => by
    by_cases hx : x = 0
    · subst hx
      exact ⟨d, lp_done (by simp [m_triviumref02_Back_l1, zl_zero]), by simp [nl_zero]⟩
    · cases n with
      | zero => omega
      | succ n =>
        have hpos : 0 < x := by omega
        have hlen : 0 < (zl x).length := List.length_pos_iff.2 (fun h => hx ((zl_nil h0).1 h))
        have hm : x % (4294967296 : Int) < (4294967296 : Int) := Int.emod_lt_of_pos _ (by decide)
        have hm0 : 0 ≤ x % (4294967296 : Int) := Int.emod_nonneg _ (by decide)
        have hnl : nl x = (x % (4294967296 : Int)) :: nl (x / (4294967296 : Int)) := by
          show num 4294967296 x.toNat = _
          rw [num, dif_pos ⟨by decide, by omega⟩]
          unfold nl
          congr 1
          · omega
          · congr 1; omega
        have a1 : wu64 (x % (4294967296 : Int)) = x % (4294967296 : Int) := wu64_eq hm0 (by omega)
        have a2 : ap 8 d [x % (4294967296 : Int)] = some (d ++ [x % (4294967296 : Int)]) := ap_of (by simp; omega)
        have e : m_triviumref02_Back_l1 (zl x, d) = some (.inl (zl (x / (4294967296 : Int)), d ++ [x % (4294967296 : Int)])) := by
          simp only [m_triviumref02_Back_l1, decide_eq_true (show (0 : Int) < ((zl x).length : Int) by omega), if_true, refDivSmall_eq x (4294967296 : Int) h0 (by decide) (Int.le_refl _) (by omega), bd_some, a1, a2]
        have hq : x / (4294967296 : Int) < x := Int.ediv_lt_of_lt_mul (by decide) (by omega)
        have hq0 : 0 ≤ x / (4294967296 : Int) := Int.ediv_nonneg h0 (by decide)
        rw [hnl] at hd2
        obtain ⟨r, r1, r2⟩ := refBack_loop n (x / (4294967296 : Int)) (d ++ [x % (4294967296 : Int)]) hq0 (by omega) (Nat.le_trans (zl_mono hq0 (by omega)) hl) (Dig.snoc hd ⟨hm0, hm⟩) (by simp at hd2 ⊢; omega)
        exact ⟨r, by rw [lp_more e]; exact r1, by rw [r2, hnl]; simp⟩
theorem nl_zl_len {x : Int} (h : 0 ≤ x) : (nl x).length ≤ (zl x).length := by
  have h1 := dv_lt (by decide) (zl_can x).1
  rw [zl_dv h] at h1
  exact nl_len h (Int.lt_of_lt_of_le h1 (zb_lb _))
theorem zl_nl_len {x : Int} (h : 0 ≤ x) : (zl x).length ≤ 3 * (nl x).length := by
  have h1 := dv_lt (by decide) (nl_can x).1
  rw [nl_dv h] at h1
  exact zl_len h (Int.lt_of_lt_of_le h1 (lb_zb _))
theorem refBack_eq (x : Int) (hx : 0 ≤ x) (hl : (zl x).length ≤ 100000000000) : m_triviumref02_Back (zl x) = some (nl x) := by
  obtain ⟨r, h1, h2⟩ := refBack_loop x.toNat x [] hx (Nat.le_refl _) hl (Dig.nil _) (by have := nl_zl_len hx; simp; omega)
  unfold m_triviumref02_Back
  rw [h1, bd_some, h2, List.nil_append]
end Go.Proofs.YtihaljbhcnflfaaDoor.AP
/- The program's numbers, as printed: noughts, limbs, compared, added. -/
namespace Go.Proofs.YtihaljbhcnflfaaDoor.AP
open Go Go.Proofs.YtihaljbhcnflfaaDoor.Tri
set_option linter.unusedVariables false
set_option linter.unusedSimpArgs false
theorem trimN_loop (p0 : List Int) (hl : p0.length ≤ 4611686018427387904) : ∀ (n : Nat) (a b : List Int), a.length = n → p0 = a ++ b → ∃ k : Nat, lp (m_nat_trim_l1 p0) (n : Int) = some (k : Int) ∧ k ≤ n ∧ a.take k = trimz a
  | 0, a, b, h, hp => by
    have : a = [] := List.eq_nil_of_length_eq_zero h
    subst this
    exact ⟨0, by rw [lp_go]; simp [m_nat_trim_l1], Nat.le_refl _, rfl⟩
  | n + 1, a, b, h, hp => by
    obtain ⟨d, x, rfl, hd⟩ := split_last h
    have hlen : p0.length = n + 1 + b.length := by rw [hp]; simp [hd]; omega
    have hx : gI p0 (n : Int) = x := by rw [hp, List.append_assoc]; unfold gI; rw [List.getD_eq_getElem?_getD, List.getElem?_append_right (by simp [hd])]; simp [hd]
    have hstep : m_nat_trim_l1 p0 ((n + 1 : Nat) : Int) = if x = 0 then some (.inl (n : Int)) else some (.inr ((n + 1 : Nat) : Int)) := by
      have e1 : wi64 (((n + 1 : Nat) : Int) - 1) = (n : Int) := by rw [wi64_eq (by omega) (by omega)]; omega
      have e2 : rd p0 (n : Int) = some x := by rw [rd_I (by omega) (by omega), hx]
      have e3 : decide (0 < ((n + 1 : Nat) : Int)) = true := decide_eq_true (by omega)
      simp only [m_nat_trim_l1, e3, if_true, e1, e2, bd_some, decide_eq_true_eq]
    by_cases h0 : x = 0
    · subst h0
      rw [lp_more (by rw [hstep, if_pos rfl])]
      obtain ⟨k, h1, h2, h3⟩ := trimN_loop p0 hl n d ([0] ++ b) hd (by rw [hp]; simp)
      refine ⟨k, h1, by omega, ?_⟩
      rw [trimz_snoc_zero, ← h3, List.take_append_of_le_length (by omega)]
    · refine ⟨n + 1, lp_done (by rw [hstep, if_neg h0]), Nat.le_refl _, ?_⟩
      rw [List.take_of_length_le (by omega), trimz_of_top (Top.snoc.2 h0)]
theorem trimN_eq (a : List Int) (hl : a.length ≤ 4611686018427387904) : m_nat_trim a = some (trimz a) := by
  obtain ⟨k, h1, h2, h3⟩ := trimN_loop a hl a.length a [] rfl (by simp)
  unfold m_nat_trim
  rw [h1, bd_some, ct_of (by omega), bd_some]
  simp [h3]
theorem make_loop (p0 : List Int) (hd : Dig (4294967296 : Int) p0) (hl : p0.length ≤ 10000000000000) : ∀ (k i : Nat), i + k = p0.length → lp (m_nat_Make_l1 p0) ((i : Int), p0.take i) = some (trimz p0, 0)
  | 0, i, hk => by
    obtain rfl : i = p0.length := by omega
    refine lp_done ?_
    simp only [m_nat_Make_l1, List.take_length, trimN_eq p0 (by omega), bd_some]
    simp
  | k + 1, i, hk => by
    have g := gI_dig hd (by decide) (i : Int)
    have e1 : decide ((i : Int) < (p0.length : Int)) = true := decide_eq_true (by omega)
    have e2 : rd p0 (i : Int) = some (gI p0 (i : Int)) := rd_I (by omega) (by omega)
    have e3 : decide ((4294967296 : Int) ≤ gI p0 (i : Int)) = false := decide_eq_false (by omega)
    have e4 : wi64 ((i : Int) + 1) = ((i + 1 : Nat) : Int) := by rw [wi64_eq (by omega) (by omega)]; omega
    have e5 : ap 8 (p0.take i) [gI p0 (i : Int)] = some (p0.take (i + 1)) := by
      rw [ap_of (by simp; omega), List.take_add_one, List.getElem?_eq_getElem (by omega)]
      have : gI p0 (i : Int) = p0[i] := by simp [gI, show i < p0.length by omega]
      rw [this]; rfl
    rw [lp_more (s' := (((i + 1 : Nat) : Int), p0.take (i + 1))) (by simp only [m_nat_Make_l1, e1, if_true, e2, bd_some, e3, e5, e4]; rfl)]
    exact make_loop p0 hd hl k (i + 1) (by omega)
theorem make_dig (a : List Int) (hd : Dig (4294967296 : Int) a) (hl : a.length ≤ 10000000000000) : m_nat_Make a = some (trimz a, 0) := by
  unfold m_nat_Make
  rw [mk_of (by omega), bd_some]
  have := make_loop a hd hl a.length 0 (by omega)
  simpa using this
theorem make_nl (x : Int) (hl : (nl x).length ≤ 10000000000000) : m_nat_Make (nl x) = some (nl x, 0) := by
  rw [make_dig _ (nl_can x).1 hl, trimz_of_top (nl_can x).2]
theorem may_can (a : List Int) (h : Tri.Can (4294967296 : Int) a) (hl : a.length ≤ 4611686018427387904) : m_nat_May a = some true := by
  have key : ∀ (k i : Nat), i + k = a.length → lp (m_nat_May_l1 a) (i : Int) = some true := by
    intro k
    induction k with
    | zero =>
      intro i hk
      obtain rfl : i = a.length := by omega
      refine lp_done ?_
      by_cases h0 : a = []
      · subst h0; simp [m_nat_May_l1]
      · obtain ⟨d, x, rfl⟩ := eq_snoc h0
        have hx := Top.snoc.1 h.2
        have e1 : wi64 (((d ++ [x]).length : Int) - 1) = (d.length : Int) := by rw [wi64_eq (by omega) (by omega)]; simp
        have e2 : rd (d ++ [x]) (d.length : Int) = some x := by rw [rd_I (by omega) (by simp; omega), gI_last]
        have e3 : decide (((d ++ [x]).length : Int) = 0) = false := decide_eq_false (by simp; omega)
        simp only [m_nat_May_l1, show decide (((d ++ [x]).length : Int) < ((d ++ [x]).length : Int)) = false by simp, e3, e1, e2, bd_some]
        simp [hx]
    | succ k ih =>
      intro i hk
      have g := gI_dig h.1 (by decide) (i : Int)
      have e1 : decide ((i : Int) < (a.length : Int)) = true := decide_eq_true (by omega)
      have e2 : rd a (i : Int) = some (gI a (i : Int)) := rd_I (by omega) (by omega)
      have e3 : decide ((4294967296 : Int) ≤ gI a (i : Int)) = false := decide_eq_false (by omega)
      have e4 : wi64 ((i : Int) + 1) = ((i + 1 : Nat) : Int) := by rw [wi64_eq (by omega) (by omega)]; omega
      rw [lp_more (s' := ((i + 1 : Nat) : Int)) (by simp only [m_nat_May_l1, e1, if_true, e2, bd_some, e3, e4]; rfl)]
      exact ih (i + 1) (by omega)
  exact key a.length 0 (by omega)
theorem cmpN_loop (a b : List Int) (ha : Dig (4294967296 : Int) a) (hb : Dig (4294967296 : Int) b) (he : a.length = b.length) (hl : a.length ≤ 4611686018427387904) : ∀ n : Nat, n ≤ a.length → dv (4294967296 : Int) (a.drop n) = dv (4294967296 : Int) (b.drop n) → lp (m_nat_Cmp_l1 a b) ((n : Int) - 1) = some (sg (dv (4294967296 : Int) a - dv (4294967296 : Int) b))
  | 0, _, h => by
    rw [List.drop_zero, List.drop_zero] at h
    refine lp_done ?_
    rw [h, Int.sub_self]
    simp [m_nat_Cmp_l1, sg]
  | n + 1, hn, h => by
    have ga := gI_dig ha (by decide) (n : Int)
    have gb := gI_dig hb (by decide) (n : Int)
    have a0 : ((n + 1 : Nat) : Int) - 1 = (n : Int) := by omega
    have a1 : decide ((0 : Int) ≤ (n : Int)) = true := decide_eq_true (by omega)
    have a2 : rd a (n : Int) = some (gI a (n : Int)) := rd_I (by omega) (by omega)
    have a3 : rd b (n : Int) = some (gI b (n : Int)) := rd_I (by omega) (by omega)
    have a5 : wi64 ((n : Int) - 1) = (n : Int) - 1 := wi64_eq (by omega) (by omega)
    have e : m_nat_Cmp_l1 a b (((n + 1 : Nat) : Int) - 1) = if gI a (n : Int) < gI b (n : Int) then some (.inr (-1)) else if gI b (n : Int) < gI a (n : Int) then some (.inr 1) else some (.inl ((n : Int) - 1)) := by
      rw [a0]
      simp only [m_nat_Cmp_l1, a1, if_true, a2, a3, bd_some, a5, decide_eq_true_eq]
    rcases Int.lt_trichotomy (gI a (n : Int)) (gI b (n : Int)) with hlt | heq | hgt
    · have := digit_lt (by decide) ha hb n (by omega) (by omega) h hlt
      rw [lp_done (by rw [e, if_pos hlt])]
      unfold sg; rw [if_pos (by omega)]
    · rw [lp_more (by rw [e, if_neg (by omega), if_neg (by omega)])]
      refine cmpN_loop a b ha hb he hl n (by omega) ?_
      rw [drop_gI a n (by omega), drop_gI b n (by omega), dv_cons, dv_cons, h, heq]
    · have := digit_lt (by decide) hb ha n (by omega) (by omega) h.symm hgt
      rw [lp_done (by rw [e, if_neg (by omega), if_pos hgt])]
      unfold sg; rw [if_neg (by omega), if_pos (by omega)]
theorem cmpN_can (a b : List Int) (ha : Tri.Can (4294967296 : Int) a) (hb : Tri.Can (4294967296 : Int) b) (hl : a.length ≤ 4611686018427387904) : m_nat_Cmp a b = some (sg (dv (4294967296 : Int) a - dv (4294967296 : Int) b)) := by
  unfold m_nat_Cmp
  rcases Nat.lt_trichotomy a.length b.length with h | h | h
  · have := Can.lt_of_length (by decide) ha.1 hb h
    rw [lt_eq, if_pos (by simp; omega)]
    unfold sg; rw [if_pos (by omega)]
  · rw [lt_eq, if_neg (by simp; omega), lt_eq, if_neg (by simp; omega), wi64_eq (by omega) (by omega)]
    exact cmpN_loop a b ha.1 hb.1 h hl a.length (Nat.le_refl _) (by rw [List.drop_length, h, List.drop_length])
  · have := Can.lt_of_length (by decide) hb.1 ha h
    rw [lt_eq, if_neg (by simp; omega), lt_eq, if_pos (by simp; omega)]
    unfold sg; rw [if_neg (by omega), if_pos (by omega)]
theorem cmpN_eq (x y : Int) (hx : 0 ≤ x) (hy : 0 ≤ y) (hl : (nl x).length ≤ 4611686018427387904) : m_nat_Cmp (nl x) (nl y) = some (sg (x - y)) := by
  rw [cmpN_can _ _ (nl_can x) (nl_can y) hl, nl_dv hx, nl_dv hy]
/-! limbs -/
theorem and_low (x : Int) (h0 : 0 ≤ x) (h1 : x < 18446744073709551616) : Go.bits .and .u64 x 4294967295 = x % 4294967296 := by
  rw [u64_and x _ h0 h1 (by omega) (by omega)]
  have : (4294967295 : Int).toNat = 2 ^ 32 - 1 := rfl
  rw [this, Nat.and_two_pow_sub_one_eq_mod]
  omega
theorem and_limb (x : Int) (h0 : 0 ≤ x) (h1 : x < (4294967296 : Int)) : Go.bits .and .u64 x 4294967295 = x := by
  rw [and_low x h0 (by omega)]; omega
theorem sr32 (x : Int) : sr .u64 x 32 = some (x / (4294967296 : Int)) := by
  unfold sr
  rw [if_pos (by decide)]
  have e : (2 : Int) ^ (min (32 : Int).toNat IntKind.u64.bits) = (4294967296 : Int) := by decide
  rw [e, Int.fdiv_eq_ediv_of_nonneg _ (by decide)]
theorem sh32 (x : Int) (h0 : 0 ≤ x) (h1 : x < (4294967296 : Int)) : sh .u64 x 32 = some (x * (4294967296 : Int)) := by
  unfold sh
  rw [if_pos (by decide)]
  have e : (2 : Int) ^ (min (32 : Int).toNat IntKind.u64.bits) = (4294967296 : Int) := by decide
  rw [e]
  congr 1
  exact wu64_eq (by omega) (by omega)
theorem or_low (x y : Int) (h0 : 0 ≤ x) (h1 : x < (4294967296 : Int)) (h2 : 0 ≤ y) (h3 : y < (4294967296 : Int)) : Go.bits .or .u64 (x * (4294967296 : Int)) y = x * (4294967296 : Int) + y := by
  rw [u64_or _ _ (by omega) (by omega) h2 (by omega)]
  obtain ⟨X, rfl⟩ := Int.eq_ofNat_of_zero_le h0
  obtain ⟨Y, rfl⟩ := Int.eq_ofNat_of_zero_le h2
  have e1 : ((X : Int) * (4294967296 : Int)).toNat = 2 ^ 32 * X := by omega
  rw [e1, Int.toNat_natCast, ← Nat.two_pow_add_eq_or_of_lt (by omega)]
  omega
theorem mul_bound {a b c d : Int} (ha : 0 ≤ a ∧ a < (4294967296 : Int)) (hb : 0 ≤ b ∧ b < (4294967296 : Int)) (hc : 0 ≤ c ∧ c < (4294967296 : Int)) (hd : 0 ≤ d ∧ d < (4294967296 : Int)) : 0 ≤ a * b ∧ a * b + c + d < (4294967296 : Int) * (4294967296 : Int) := by
  have h1 : 0 ≤ a * b := Int.mul_nonneg ha.1 hb.1
  have h2 : a * b ≤ ((4294967296 : Int) - 1) * ((4294967296 : Int) - 1) := by
    have h3 : a * b ≤ ((4294967296 : Int) - 1) * b := Int.mul_le_mul_of_nonneg_right (by omega) hb.1
    have h4 : ((4294967296 : Int) - 1) * b ≤ ((4294967296 : Int) - 1) * ((4294967296 : Int) - 1) := Int.mul_le_mul_of_nonneg_left (by omega) (by decide)
    omega
  refine ⟨h1, ?_⟩
  have e : (4294967296 - 1) * (4294967296 - 1) = (18446744065119617025 : Int) := by decide
  have e2 : 4294967296 * 4294967296 = (18446744073709551616 : Int) := by decide
  omega
theorem limbMul_eq (a b c d : Int) (ha : 0 ≤ a ∧ a < (4294967296 : Int)) (hb : 0 ≤ b ∧ b < (4294967296 : Int)) (hc : 0 ≤ c ∧ c < (4294967296 : Int)) (hd : 0 ≤ d ∧ d < (4294967296 : Int)) : m_limb_Mul a b c d = some ((a * b + c + d) % (4294967296 : Int), (a * b + c + d) / (4294967296 : Int)) := by
  unfold m_limb_Mul
  obtain ⟨h1, h2⟩ := mul_bound ha hb hc hd
  have e2 : 4294967296 * 4294967296 = (18446744073709551616 : Int) := by decide
  rw [and_limb a ha.1 ha.2, and_limb b hb.1 hb.2, and_limb c hc.1 hc.2, and_limb d hd.1 hd.2]
  have hc1 := hc.1
  have hd1 := hd.1
  generalize a * b = p at h1 h2
  rw [lt_eq, wu64_eq (x := p) (by omega) (by omega), wu64_eq (x := p + c) (by omega) (by omega), wu64_eq (x := p + c + d) (by omega) (by omega), sr32, bd_some, and_low _ (by omega) (by omega)]
theorem limbAdd_eq (a b c : Int) (ha : 0 ≤ a ∧ a < (4294967296 : Int)) (hb : 0 ≤ b ∧ b < (4294967296 : Int)) (hc : 0 ≤ c ∧ c < (4294967296 : Int)) : m_limb_Add a b c = some ((a + b + c) % (4294967296 : Int), (a + b + c) / (4294967296 : Int)) := by
  unfold m_limb_Add
  rw [and_limb a ha.1 ha.2, and_limb b hb.1 hb.2, and_limb c hc.1 hc.2]
  rw [lt_eq, wu64_eq (x := a + b) (by omega) (by omega), wu64_eq (x := a + b + c) (by omega) (by omega), sr32, bd_some, and_low _ (by omega) (by omega)]
theorem limbDiv_eq (h l d : Int) (hh : 0 ≤ h ∧ h < d) (hl : 0 ≤ l ∧ l < (4294967296 : Int)) (hd : 0 < d ∧ d < (4294967296 : Int)) : m_limb_Div h l d = some ((h * (4294967296 : Int) + l) / d, (h * (4294967296 : Int) + l) % d, 0) := by
  unfold m_limb_Div
  rw [and_limb h hh.1 (by omega), and_limb l hl.1 hl.2, and_limb d (by omega) hd.2]
  rw [lt_eq, if_neg (by simp; omega), lt_eq, if_neg (by simp; omega), sh32 h hh.1 (by omega), bd_some, or_low h l hh.1 (by omega) hl.1 hl.2, lt_eq, qdU (by omega) hd.1 (by omega), bd_some, rm_of (by omega) hd.1, bd_some]
theorem natOf_eq (x : Int) (h0 : 0 ≤ x) (h1 : x < 18446744073709551616) : m_nat_Of x = some (nl x) := by
  unfold m_nat_Of
  rw [rm_of h0 (by decide), bd_some, sr32, bd_some, trimN_eq _ (by simp), bd_some]
  rw [trimz_nl (Dig.cons ⟨by omega, by omega⟩ (Dig.cons ⟨by omega, by omega⟩ (Dig.nil _))) (x := x) (by simp only [dv]; omega)]
theorem natAt_eq (a : List Int) (i : Nat) (hl : a.length ≤ 4611686018427387904) : m_nat_at a (i : Int) = some (gI a (i : Int)) := by
  unfold m_nat_at
  by_cases h : a.length ≤ i
  · rw [if_pos (by simp; omega)]
    have : gI a (i : Int) = 0 := by unfold gI; rw [List.getD_eq_getElem?_getD, List.getElem?_eq_none (by omega)]; rfl
    rw [this]
  · rw [if_neg (by simp; omega), rd_I (by omega) (by omega), bd_some]
theorem set_at {α : Type} (d : List α) (x y : α) (r : List α) : (d ++ x :: r).set d.length y = (d ++ [y]) ++ r := by simp
theorem made_eq (a : List Int) (hd : Dig (4294967296 : Int) a) (hl : a.length ≤ 10000000000000) : m_mul_made a = some (nl (dv (4294967296 : Int) a)) := by
  unfold m_mul_made
  rw [make_dig a hd hl, bd_some, trimz_nl hd rfl]
/-- adding -/
theorem addN_loop (a b : List Int) (ha : Dig (4294967296 : Int) a) (hb : Dig (4294967296 : Int) b) (m : Nat) (hm : m ≤ 1000000000000) (hla : a.length ≤ 1000000000000) (hlb : b.length ≤ 1000000000000) : ∀ (k i : Nat) (c : Int) (d : List Int), i + k = m → d.length = i → 0 ≤ c → c ≤ 1 → Dig (4294967296 : Int) d → dv (4294967296 : Int) d + (4294967296 : Int) ^ i * c = dv (4294967296 : Int) (a.take i) + dv (4294967296 : Int) (b.take i) →
    ∃ c' d', lp (m_nat_Add_l1 a b (m : Int)) (c, (i : Int), d ++ List.replicate (k + 1) 0) = some (c', d' ++ [0]) ∧ d'.length = m ∧ 0 ≤ c' ∧ c' ≤ 1 ∧ Dig (4294967296 : Int) d' ∧ dv (4294967296 : Int) d' + (4294967296 : Int) ^ m * c' = dv (4294967296 : Int) (a.take m) + dv (4294967296 : Int) (b.take m)
  | 0, i, c, d, hk, hi, h0, h1, hd, hv => by
    obtain rfl : i = m := by omega
    exact ⟨c, d, lp_done (by simp [m_nat_Add_l1]), hi, h0, h1, hd, hv⟩
  | k + 1, i, c, d, hk, hi, h0, h1, hd, hv => by
    have ga := gI_dig ha (by decide) (i : Int)
    have gb := gI_dig hb (by decide) (i : Int)
    generalize hx : gI a (i : Int) + gI b (i : Int) + c = x
    have a1 : decide ((i : Int) < (m : Int)) = true := decide_eq_true (by omega)
    have a5 : wi64 ((i : Int) + 1) = ((i + 1 : Nat) : Int) := by rw [wi64_eq (by omega) (by omega)]; omega
    have a6 : ix (d ++ List.replicate (k + 2) 0) (i : Int) = some i := ix_nat (by simp; omega)
    have a7 : (d ++ List.replicate (k + 2) 0).set i (x % (4294967296 : Int)) = (d ++ [x % (4294967296 : Int)]) ++ List.replicate (k + 1) 0 := by
      rw [show List.replicate (k + 2) (0 : Int) = 0 :: List.replicate (k + 1) 0 from rfl, ← hi, set_at]
    have a8 := limbAdd_eq (gI a (i : Int)) (gI b (i : Int)) c ga gb ⟨h0, by omega⟩
    rw [hx] at a8
    have e1 : m_nat_Add_l1 a b (m : Int) (c, (i : Int), d ++ List.replicate (k + 2) 0) = some (.inl (x / (4294967296 : Int), ((i + 1 : Nat) : Int), (d ++ [x % (4294967296 : Int)]) ++ List.replicate (k + 1) 0)) := by
      simp only [m_nat_Add_l1, a1, if_true, natAt_eq a i (by omega), natAt_eq b i (by omega), bd_some, a8, a6, lt_eq, a7, a5]
    obtain ⟨c', d', r1, r2⟩ := addN_loop a b ha hb m hm hla hlb k (i + 1) (x / (4294967296 : Int)) (d ++ [x % (4294967296 : Int)]) (by omega) (by simp [hi]) (by omega) (by omega) (Dig.snoc hd ⟨by omega, by omega⟩) (by
      rw [dv_snoc, take_gI' (4294967296 : Int) a i, take_gI' (4294967296 : Int) b i, hi, Int.pow_succ]
      have := Int.mul_ediv_add_emod x (4294967296 : Int)
      generalize (4294967296 : Int) ^ i = p at *
      generalize x / (4294967296 : Int) = q at *
      generalize x % (4294967296 : Int) = r at *
      generalize gI a (i : Int) = g1 at *
      generalize gI b (i : Int) = g2 at *
      subst hx
      generalize dv (4294967296 : Int) (List.take i a) = T at *
      generalize dv (4294967296 : Int) (List.take i b) = U at *
      have h3 : r = g1 + g2 + c - (4294967296 : Int) * q := by omega
      subst h3
      grind)
    exact ⟨c', d', by rw [lp_more e1]; exact r1, r2⟩
theorem addN_eq (x y : Int) (hx : 0 ≤ x) (hy : 0 ≤ y) (hlx : (nl x).length ≤ 100000000000) (hly : (nl y).length ≤ 100000000000) : m_nat_Add (nl x) (nl y) = some (nl (x + y)) := by
  obtain ⟨m, hm⟩ : ∃ m : Nat, m = max (nl x).length (nl y).length := ⟨_, rfl⟩
  have em : max ((nl x).length : Int) ((nl y).length : Int) = (m : Int) := by omega
  obtain ⟨c', d', h1, h2, h3, h4, h5, h6⟩ := addN_loop (nl x) (nl y) (nl_can x).1 (nl_can y).1 m (by omega) (by omega) (by omega) m 0 0 [] (by omega) rfl (Int.le_refl _) (by decide) (Dig.nil _) (by simp [dv])
  rw [List.take_of_length_le (show (nl x).length ≤ m by omega), List.take_of_length_le (show (nl y).length ≤ m by omega), nl_dv hx, nl_dv hy] at h6
  unfold m_nat_Add
  rw [em, lt_eq, wi64_eq (by omega) (by omega), mk_of (by omega), bd_some]
  rw [show ((m : Int) + 1).toNat = m + 1 by omega]
  rw [List.nil_append] at h1
  rw [show ((0 : Int), (0 : Int), List.replicate (m + 1) (0 : Int)) = ((0 : Int), ((0 : Nat) : Int), List.replicate (m + 1) (0 : Int)) from rfl, h1, bd_some]
  dsimp only
  rw [ix_nat (by simp [h2]), bd_some, lt_eq, ← h2, set_at, List.append_nil, trimN_eq _ (by simp; omega), bd_some]
  rw [trimz_nl (Dig.snoc h5 ⟨h3, by omega⟩) (x := x + y) (by rw [dv_snoc, h2, h6])]
end Go.Proofs.YtihaljbhcnflfaaDoor.AP
/- What is cleaned: numbers, fractions. -/
namespace Go.Proofs.YtihaljbhcnflfaaDoor.AP
open Go Go.Proofs.YtihaljbhcnflfaaDoor.Tri
set_option linter.unusedVariables false
set_option linter.unusedSimpArgs false
/-- a loop that puts something of each of the first N behind a row -/
theorem lp_mapN {α β X : Type} {f : (Int × List β) → Option ((Int × List β) ⊕ X)} (l : List α) (N : Nat) (h : α → β) (e : Option X)
    (hs : ∀ (i : Nat) x acc, l[i]? = some x → i < N → acc.length = i → f ((i : Int), acc) = some (.inl ((i : Int) + 1, acc ++ [h x])))
    (he : lp f (((l.take N).length : Int), (l.take N).map h) = e) : lp f (0, []) = e := by
  have key : ∀ (k i : Nat), i + k = (l.take N).length → lp f ((i : Int), (l.take i).map h) = e := by
    intro k
    induction k with
    | zero =>
      intro i hk
      have hk : i = (l.take N).length := by omega
      have e1 : l.take i = l.take N := by rw [hk, List.take_eq_take_iff]; simp
      rw [e1, hk]; exact he
    | succ k ih =>
      intro i hk
      have hlt : i < l.length ∧ i < N := by simp at hk; omega
      have := hs i l[i] ((l.take i).map h) (List.getElem?_eq_getElem hlt.1) hlt.2 (by simp; omega)
      rw [lp_more this]
      have h2 := ih (i + 1) (by omega)
      rw [List.take_add_one, List.getElem?_eq_getElem hlt.1, List.map_append] at h2
      exact h2
  simpa using key _ 0 (by rw [Nat.zero_add])
theorem len_of_get {α : Type} {l : List α} {i : Nat} {x : α} (h : l[i]? = some x) : i < l.length := (List.getElem?_eq_some_iff.1 h).1
def Limbs (l : List Int) : Prop := ∀ x ∈ l, 0 ≤ x ∧ x < 18446744073709551616
def cleanL (l : List Int) (n : Nat) : List Int := trimz ((l.take n).map fun x => x % (4294967296 : Int))
theorem cleanL_can (l : List Int) (n : Nat) : Tri.Can (4294967296 : Int) (cleanL l n) := trimz_can fun x hx => by
  obtain ⟨y, _, rfl⟩ := List.mem_map.1 hx
  exact ⟨Int.emod_nonneg _ (by decide), Int.emod_lt_of_pos _ (by decide)⟩
def cleanV (l : List Int) (n : Nat) : Int := dv (4294967296 : Int) (cleanL l n)
theorem cleanL_nl (l : List Int) (n : Nat) : cleanL l n = nl (cleanV l n) := can_nl (cleanL_can l n) rfl
theorem cleanV_nonneg (l : List Int) (n : Nat) : 0 ≤ cleanV l n := dv_nonneg (by decide) (cleanL_can l n).1
theorem cleanV_lt (l : List Int) (n : Nat) : cleanV l n < (4294967296 : Int) ^ n := by
  have h1 := dv_lt (by decide) (cleanL_can l n).1
  have h2 : (cleanL l n).length ≤ n := by
    have h3 := trimz_length ((l.take n).map fun x => x % (4294967296 : Int))
    rw [List.length_map, List.length_take] at h3; unfold cleanL; omega
  exact Int.lt_of_lt_of_le h1 (pow_mono (by decide) h2)
theorem trim2_loop : ∀ (n : Nat) (a : List Int), a.length = n → n ≤ 4611686018427387904 → lp m_triviumref02_Clean_l2 a = some (trimz a)
  | 0, a, h, _ => by
    obtain rfl := List.eq_nil_of_length_eq_zero h
    rw [lp_go]; simp [m_triviumref02_Clean_l2, trimz]
  | n + 1, a, h, hn => by
    obtain ⟨d, x, rfl, hd⟩ := split_last h
    have e1 : wi64 (((d ++ [x]).length : Int) - 1) = (n : Int) := by rw [wi64_eq (by omega) (by omega)]; omega
    have e2 : rd (d ++ [x]) (n : Int) = some x := by rw [rd_I (by omega) (by omega), ← hd, gI_last]
    have e3 : decide ((0 : Int) < ((d ++ [x]).length : Int)) = true := decide_eq_true (by omega)
    have e4 : ct (d ++ [x]) 0 (n : Int) = some d := by rw [ct_of (by omega)]; simp [← hd]
    have e : m_triviumref02_Clean_l2 (d ++ [x]) = if x = 0 then some (.inl d) else some (.inr (d ++ [x])) := by
      simp only [m_triviumref02_Clean_l2, e3, if_true, e1, e2, bd_some, decide_eq_true_eq, e4]
    by_cases h0 : x = 0
    · subst h0
      rw [lp_more (by rw [e, if_pos rfl]), trimz_snoc_zero]
      exact trim2_loop n d hd (by omega)
    · rw [lp_done (by rw [e, if_neg h0]), trimz_of_top (Top.snoc.2 h0)]
theorem refClean_eq (l : List Int) (n : Nat) (hl : Limbs l) (hn : n ≤ 1000000) (hlen : l.length ≤ 9223372036854775807) : m_triviumref02_Clean l (n : Int) = some (nl (cleanV l n)) := by
  unfold m_triviumref02_Clean
  rw [lp_mapN l n (fun x => x % (4294967296 : Int)) (some ((l.take n).map fun x => x % (4294967296 : Int)))]
  · rw [bd_some, trim2_loop _ _ rfl (by simp; omega), bd_some, ← cleanL_nl]; rfl
  · intro i x acc hx hi ha
    have hlt := len_of_get hx
    have h0 := hl x (List.mem_of_getElem? hx)
    have e1 : decide ((i : Int) < (l.length : Int)) = true := decide_eq_true (by omega)
    have e2 : decide ((i : Int) < (n : Int)) = true := decide_eq_true (by omega)
    have e3 : rd l (i : Int) = some x := by rw [rd_nat]; exact hx
    have e4 : wi64 ((i : Int) + 1) = (i : Int) + 1 := wi64_eq (by omega) (by omega)
    simp only [m_triviumref02_Clean_l1, e1, if_true, e2, bd_some, e3, rm_of h0.1 (show (0 : Int) < 4294967296 by decide), ap_of (l := acc) (m := [x % 4294967296]) (b := 8) (by simp; omega), e4]
  · refine lp_done ?_
    by_cases hle : l.length ≤ n
    · have e1 : decide (((l.take n).length : Int) < (l.length : Int)) = false := decide_eq_false (by simp; omega)
      simp only [m_triviumref02_Clean_l1, e1, bd_some]; rfl
    · have e1 : decide (((l.take n).length : Int) < (l.length : Int)) = true := decide_eq_true (by simp; omega)
      have e2 : decide (((l.take n).length : Int) < (n : Int)) = false := decide_eq_false (by simp; omega)
      simp only [m_triviumref02_Clean_l1, e1, if_true, e2, bd_some]; rfl
/-- a number with a sign -/
def zI (z : Int) : D_api_Int := (decide (z < 0), nl (z.natAbs : Int))
def zZ (z : Int) : D_triviumref07_Z := (decide (z < 0), zl (z.natAbs : Int))
def cleanZ (p : D_api_Int) (n : Nat) : Int := if p.1 then -cleanV p.2 n else cleanV p.2 n
theorem cleanZ_abs (p : D_api_Int) (n : Nat) : ((cleanZ p n).natAbs : Int) = cleanV p.2 n := by
  have := cleanV_nonneg p.2 n
  unfold cleanZ; split <;> omega
theorem neg_or_nil {x : Int} (h : 0 ≤ x) : decide (0 < ((nl x).length : Int)) = decide (0 < x) := by
  have := nl_nil h
  by_cases hx : x = 0
  · rw [this.2 hx]; simp [hx]
  · have : nl x ≠ [] := fun e => hx (this.1 e)
    have := List.length_pos_iff.2 this
    rw [decide_eq_true (by omega), decide_eq_true (by omega)]
theorem neg_or_zl {x : Int} (h : 0 ≤ x) : decide (0 < ((zl x).length : Int)) = decide (0 < x) := by
  have := zl_nil h
  by_cases hx : x = 0
  · rw [this.2 hx]; simp [hx]
  · have : zl x ≠ [] := fun e => hx (this.1 e)
    have := List.length_pos_iff.2 this
    rw [decide_eq_true (by omega), decide_eq_true (by omega)]
theorem ref07Clean_eq (p : D_api_Int) (n : Nat) (hl : Limbs p.2) (hn : n ≤ 1000000) (hlen : p.2.length ≤ 9223372036854775807) : m_triviumref07_Clean p (n : Int) = some (zI (cleanZ p n)) := by
  unfold m_triviumref07_Clean
  have h0 := cleanV_nonneg p.2 n
  rw [refClean_eq p.2 n hl hn hlen, bd_some]
  unfold zI
  rw [cleanZ_abs]
  unfold cleanZ
  by_cases hp : p.1 = true
  · rw [if_pos hp, if_pos hp, neg_or_nil h0]; congr 2; rw [decide_eq_decide]; omega
  · rw [if_neg hp, if_neg hp]; congr 2; rw [decide_eq_false (by omega)]
theorem ref07Made_eq (b : Bool) (x : Int) (h : 0 ≤ x) : m_triviumref07_made b (zl x) = some (zZ (if b then -x else x)) := by
  unfold m_triviumref07_made zZ
  cases b with
  | true => rw [if_pos rfl, if_pos rfl, neg_or_zl h]; rw [show (((-x).natAbs : Nat) : Int) = x by omega]; congr 2; rw [decide_eq_decide]; omega
  | false => rw [if_neg (by decide), if_neg (by decide), decide_eq_false (by omega), show ((x.natAbs : Nat) : Int) = x by omega]
theorem signed (z : Int) : (if decide (z < 0) = true then -(z.natAbs : Int) else (z.natAbs : Int)) = z := by
  by_cases h : z < 0
  · rw [if_pos (decide_eq_true h)]; omega
  · rw [if_neg (by simpa using h)]; omega
theorem ref07Of_eq (z : Int) (hl : (nl (z.natAbs : Int)).length ≤ 30000000000) : m_triviumref07_Of (zI z) = some (zZ z) := by
  unfold m_triviumref07_Of
  show bd (m_triviumref02_Of (nl (z.natAbs : Int))) _ = _
  rw [refOf_eq _ (by omega) hl, bd_some, ref07Made_eq _ _ (by omega), bd_some]
  show some (zZ (if decide (z < 0) = true then -(z.natAbs : Int) else (z.natAbs : Int))) = _
  rw [signed]
theorem gcd_abs (a b : Int) : Int.gcd (a.natAbs : Int) b = Int.gcd a b := by
  unfold Int.gcd; rw [Int.natAbs_natCast]
/-- what is clean stays -/
theorem cleanV_nl (x : Int) (h0 : 0 ≤ x) (n : Nat) (hx : x < (4294967296 : Int) ^ n) : cleanV (nl x) n = x := by
  unfold cleanV cleanL
  rw [List.take_of_length_le (nl_len h0 hx)]
  have : (nl x).map (fun y => y % (4294967296 : Int)) = nl x := by
    rw [List.map_congr_left (g := id)]
    · simp
    · intro y hy; have := (nl_can x).1 y hy; exact Int.emod_eq_of_lt this.1 this.2
  rw [this, trimz_dv, nl_dv h0]
theorem limbs_nl (x : Int) : Limbs (nl x) := fun y hy => by have := (nl_can x).1 y hy; omega
end Go.Proofs.YtihaljbhcnflfaaDoor.AP
/- A number divided by a limb. -/
namespace Go.Proofs.YtihaljbhcnflfaaDoor.AP
open Go Go.Proofs.YtihaljbhcnflfaaDoor.Tri
set_option linter.unusedVariables false
set_option linter.unusedSimpArgs false
theorem smallD_loop (x d : Int) (hx : 0 ≤ x) (hd0 : 0 < d) (hd1 : d < (4294967296 : Int)) (hl : (nl x).length ≤ 1000000000000) : ∀ (n i : Nat) (r : Int) (q : List Int), i + n = (nl x).length → 0 ≤ r → r < d → q.length = i → Dig (4294967296 : Int) q → dv (4294967296 : Int) ((nl x).drop n) = dv (4294967296 : Int) q * d + r →
    ∃ q', lp (m_divide_Small_l1 (nl x) d) (r, (i : Int), List.replicate n 0 ++ q) = some (x % d, q') ∧ q'.length = (nl x).length ∧ Dig (4294967296 : Int) q' ∧ dv (4294967296 : Int) q' = x / d
  | 0, i, r, q, hn, h0, h1, hq, hd, hv => by
    rw [List.drop_zero, nl_dv hx] at hv
    have e := Int.ediv_emod_unique (a := x) (b := d) (r := r) (q := dv (4294967296 : Int) q) hd0
    obtain ⟨e1, e2⟩ := e.2 ⟨by rw [hv, Int.mul_comm d]; omega, h0, h1⟩
    obtain rfl : i = (nl x).length := by omega
    exact ⟨q, lp_done (by simp [m_divide_Small_l1, e2]), by omega, hd, e1.symm⟩
  | n + 1, i, r, q, hn, h0, h1, hq, hd, hv => by
    have g := gI_dig (nl_can x).1 (by decide) (n : Int)
    generalize hs : r * (4294967296 : Int) + gI (nl x) (n : Int) = s
    have hs0 : 0 ≤ s := by omega
    have hsy : s < (4294967296 : Int) * d := by omega
    have hqd : s / d < 4294967296 := Int.ediv_lt_of_lt_mul hd0 hsy
    have hqd0 : 0 ≤ s / d := Int.ediv_nonneg hs0 (by omega)
    have a1 : decide ((i : Int) < ((nl x).length : Int)) = true := decide_eq_true (by omega)
    have a0 : wi64 ((wi64 (((nl x).length : Int) - 1)) - (i : Int)) = (n : Int) := by rw [wi64_eq (x := ((nl x).length : Int) - 1) (by omega) (by omega), wi64_eq (by omega) (by omega)]; omega
    have a2 : rd (nl x) (n : Int) = some (gI (nl x) (n : Int)) := rd_I (by omega) (by omega)
    have a3 := limbDiv_eq r (gI (nl x) (n : Int)) d ⟨h0, h1⟩ g ⟨hd0, hd1⟩
    rw [hs] at a3
    have a6 : ix (List.replicate (n + 1) 0 ++ q) (n : Int) = some n := ix_nat (by simp; omega)
    have b1 : wi64 ((i : Int) + 1) = ((i + 1 : Nat) : Int) := by rw [wi64_eq (by omega) (by omega)]; omega
    have e : m_divide_Small_l1 (nl x) d (r, (i : Int), List.replicate (n + 1) 0 ++ q) = some (.inl (s % d, ((i + 1 : Nat) : Int), List.replicate n 0 ++ (s / d) :: q)) := by
      simp only [m_divide_Small_l1, a1, if_true, a0, a2, bd_some, a3, a6, lt_eq, set_down, b1]
    rw [lp_more e]
    exact smallD_loop x d hx hd0 hd1 hl n (i + 1) (s % d) (s / d :: q) (by omega) (Int.emod_nonneg _ (by omega)) (Int.emod_lt_of_pos _ hd0) (by simp; omega) (Dig.cons ⟨hqd0, hqd⟩ hd) (by
      rw [drop_gI (nl x) n (by omega), dv_cons, dv_cons, hv]
      have := Int.mul_ediv_add_emod s d
      generalize s / d = t at *
      generalize s % d = u at *
      generalize gI (nl x) (n : Int) = gg at *
      subst hs
      have h9 : u = r * (4294967296 : Int) + gg - d * t := by omega
      subst h9
      grind)
theorem smallD_eq (x d : Int) (hx : 0 ≤ x) (hd0 : 0 < d) (hd1 : d < (4294967296 : Int)) (hl : (nl x).length ≤ 1000000000000) : m_divide_Small (nl x) d = some (nl (x / d), x % d, 0) := by
  obtain ⟨q', h1, h2, h3, h4⟩ := smallD_loop x d hx hd0 hd1 hl (nl x).length 0 0 [] (by omega) (Int.le_refl _) hd0 rfl (Dig.nil _) (by rw [List.drop_length]; simp [dv])
  unfold m_divide_Small
  have e : d % (4294967296 : Int) = d := Int.emod_eq_of_lt (by omega) hd1
  rw [rm_of (by omega) (by decide), bd_some, e, if_neg (by simp; omega), mk_of (by omega), bd_some]
  rw [List.append_nil] at h1
  rw [show ((nl x).length : Int).toNat = (nl x).length by omega]
  rw [show ((0 : Int), (0 : Int), List.replicate (nl x).length (0 : Int)) = ((0 : Int), ((0 : Nat) : Int), List.replicate (nl x).length (0 : Int)) from rfl, h1, bd_some]
  dsimp only
  rw [make_dig q' h3 (by omega), bd_some, trimz_nl h3 h4]
theorem nl_one {d : Int} (h0 : 0 < d) (h1 : d < (4294967296 : Int)) : nl d = [d] := by
  unfold nl
  rw [num, dif_pos ⟨by decide, by omega⟩]
  have e1 : d.toNat % 4294967296 = d.toNat := Nat.mod_eq_of_lt (by omega)
  have e2 : d.toNat / 4294967296 = 0 := Nat.div_eq_of_lt (by omega)
  rw [e1, e2, num, dif_neg (by omega)]
  congr 1; omega
end Go.Proofs.YtihaljbhcnflfaaDoor.AP
/- A number's digits, by ten: the program's way. -/
namespace Go.Proofs.YtihaljbhcnflfaaDoor.AP
open Go Go.Proofs.YtihaljbhcnflfaaDoor.Tri
set_option linter.unusedVariables false
set_option linter.unusedSimpArgs false
set_option maxRecDepth 4000
/-- n places of a number -/
def padN : Nat → Nat → List UInt8
  | 0, _ => []
  | n + 1, r => padN n (r / 10) ++ [UInt8.ofNat (48 + r % 10)]
theorem padN_len : ∀ (n r : Nat), (padN n r).length = n
  | 0, _ => rfl
  | n + 1, r => by rw [padN, List.length_append, padN_len n]; rfl
theorem padN_cons : ∀ (n r : Nat), padN (n + 1) r = UInt8.ofNat (48 + r / 10 ^ n % 10) :: padN n r
  | 0, r => by simp [padN]
  | n + 1, r => by
    rw [padN, padN_cons n (r / 10), padN]
    rw [Nat.div_div_eq_div_mul, Nat.pow_succ, Nat.mul_comm 10]
    rfl
theorem digit_bt (x : Int) (h0 : 0 ≤ x) (h1 : x < 10) : bt (bs [48, 49, 50, 51, 52, 53, 54, 55, 56, 57, 97, 98, 99, 100, 101, 102, 103, 104, 105, 106, 107, 108, 109, 110, 111, 112, 113, 114, 115, 116, 117, 118, 119, 120, 121, 122]) x = some (48 + x) := by
  have : x = 0 ∨ x = 1 ∨ x = 2 ∨ x = 3 ∨ x = 4 ∨ x = 5 ∨ x = 6 ∨ x = 7 ∨ x = 8 ∨ x = 9 := by omega
  rcases this with rfl | rfl | rfl | rfl | rfl | rfl | rfl | rfl | rfl | rfl <;> rfl
theorem set_back {α : Type} (z : α) (k : Nat) (v : α) (t : List α) : (List.replicate (k + 1) z ++ t).set k v = List.replicate k z ++ v :: t := by
  induction k with
  | zero => rfl
  | succ k ih =>
    show z :: (List.replicate (k + 1) z ++ t).set k v = z :: (List.replicate k z ++ v :: t)
    rw [ih]
theorem piece_loop (r : Nat) (n : Nat) (hn : n ≤ 100) (hr : r < 10000000000000000000) : ∀ (k j : Nat), j + k = n → lp (m_digits_piece_l1 10 (n : Int)) (((r / 10 ^ j : Nat) : Int), (j : Int), List.replicate k 0 ++ i8 (padN j r)) = some (i8 (padN n r)) := by
  intro k
  induction k with
  | zero =>
    intro j hj
    obtain rfl : j = n := by omega
    exact lp_done (by simp [m_digits_piece_l1])
  | succ k ih =>
    intro j hj
    have hle := Nat.div_le_self r (10 ^ j)
    generalize hq : r / 10 ^ j = q at *
    have e1 : decide ((j : Int) < (n : Int)) = true := decide_eq_true (by omega)
    have w10 : wu64 10 = 10 := rfl
    have e2 : rm .u64 (q : Int) (wu64 10) = some (((q % 10 : Nat)) : Int) := by
      rw [w10, rm_of (by omega) (by decide)]; congr 1
    have e3 := digit_bt ((q % 10 : Nat) : Int) (by omega) (by omega)
    have e4 : wi64 ((wi64 ((n : Int) - 1)) - (j : Int)) = (k : Int) := by
      rw [wi64_eq (x := (n : Int) - 1) (by omega) (by omega), wi64_eq (by omega) (by omega)]; omega
    have e5 : ix (List.replicate (k + 1) (0 : Int) ++ i8 (padN j r)) (k : Int) = some k := ix_nat (by simp; omega)
    have e6 : qd .u64 (q : Int) (wu64 10) = some (((q / 10 : Nat)) : Int) := by
      rw [w10, qdU (by omega) (by decide) (by omega)]; congr 1
    have e7 : wi64 ((j : Int) + 1) = ((j + 1 : Nat) : Int) := by rw [wi64_eq (by omega) (by omega)]; omega
    have e8 := set_back (0 : Int) k (48 + ((q % 10 : Nat) : Int)) (i8 (padN j r))
    have e9 : (48 + ((q % 10 : Nat) : Int)) :: i8 (padN j r) = i8 (padN (j + 1) r) := by
      rw [padN_cons, hq]
      show _ = ((UInt8.ofNat (48 + q % 10)).toNat : Int) :: i8 (padN j r)
      congr 1
      rw [UInt8.toNat_ofNat']
      have := Nat.mod_lt q (show 0 < 10 by decide)
      rw [Nat.mod_eq_of_lt (show 48 + q % 10 < 2 ^ 8 by omega)]
      omega
    have hs : m_digits_piece_l1 10 (n : Int) ((q : Int), (j : Int), List.replicate (k + 1) 0 ++ i8 (padN j r)) = some (.inl (((q / 10 : Nat) : Int), ((j + 1 : Nat) : Int), List.replicate k 0 ++ i8 (padN (j + 1) r))) := by
      simp only [m_digits_piece_l1, e1, if_true, e2, bd_some, e3, e4, e5, e8, e9, lt_eq, e6, e7]
    rw [lp_more hs]
    have := ih (j + 1) (by omega)
    rw [Nat.pow_succ, ← Nat.div_div_eq_div_mul, hq] at this
    exact this
theorem piece_eq (r n : Nat) (hn : n ≤ 100) (hr : r < 10000000000000000000) : m_digits_piece (r : Int) 10 (n : Int) = some (bs (padN n r)) := by
  have e1 : AP.mk 1 (0 : Int) (n : Int) (n : Int) = some (List.replicate n 0) := by
    rw [mk_of (by omega)]; simp
  have e2 := piece_loop r n hn hr n 0 (by omega)
  have e2 : lp (m_digits_piece_l1 10 (n : Int)) ((r : Int), 0, List.replicate n 0) = some (i8 (padN n r)) := by
    simpa [padN, i8] using e2
  have e3 : tx (i8 (padN n r)) = bs (padN n r) := by
    by_cases h : padN n r = []
    · rw [h]; rfl
    · have := ust_i8 _ h
      unfold ust at this
      split at this
      · exact Option.some.inj this
      · cases this
  unfold m_digits_piece
  simp only [e1, bd_some, e2, e3]
theorem chunk10 : m_digits_chunk 10 = some (1000000000, 9) := by
  have h : lp (m_digits_chunk_l1 10) (10, 1) = some (1000000000, 9) := by
    rw [lp_more (s' := (100, 2)) (by rfl), lp_more (s' := (1000, 3)) (by rfl), lp_more (s' := (10000, 4)) (by rfl), lp_more (s' := (100000, 5)) (by rfl), lp_more (s' := (1000000, 6)) (by rfl), lp_more (s' := (10000000, 7)) (by rfl), lp_more (s' := (100000000, 8)) (by rfl), lp_more (s' := (1000000000, 9)) (by rfl)]
    exact lp_done (by rfl)
  unfold m_digits_chunk
  have : wu64 10 = 10 := rfl
  rw [this, h]
  rfl
/-- pieces of nine places, the lowest first -/
def pcs (x : Nat) : List (List UInt8) := if h : 0 < x then padN 9 (x % 1000000000) :: pcs (x / 1000000000) else []
termination_by x
decreasing_by exact Nat.div_lt_self h (by decide)
theorem pcs_zero : pcs 0 = [] := by rw [pcs]; rfl
theorem pcs_pos {x : Nat} (h : 0 < x) : pcs x = padN 9 (x % 1000000000) :: pcs (x / 1000000000) := by rw [pcs, dif_pos h]
theorem pcs_len : ∀ (n x : Nat), x < 1000000000 ^ n → (pcs x).length ≤ n
  | 0, x, h => by
    have : x = 0 := by simpa using h
    rw [this, pcs_zero]; simp
  | n + 1, x, h => by
    by_cases hx : 0 < x
    · rw [pcs_pos hx, List.length_cons]
      have := pcs_len n (x / 1000000000) (by rw [Nat.pow_succ] at h; exact Nat.div_lt_of_lt_mul (by rw [Nat.mul_comm]; exact h))
      omega
    · have : x = 0 := by omega
      rw [this, pcs_zero]; simp
theorem nl_nat (x : Nat) : ((nl (x : Int)).length = 0) ↔ x = 0 := by
  rw [List.length_eq_zero_iff, nl_nil (by omega)]
  omega
theorem in_l1 (x : Nat) (hl : (nl (x : Int)).length ≤ 1000000000) : ∀ Ds : List ByteArray, Ds.length + (pcs x).length ≤ 1000000000000 → lp (m_digits_In_l1 10 (1000000000, 9)) (nl (x : Int), Ds) = some (Ds ++ (pcs x).map bs) := by
  induction x using Nat.strongRecOn with
  | _ x ih =>
    intro Ds hD
    by_cases hx : 0 < x
    · have e1 : decide (0 < ((nl (x : Int)).length : Int)) = true := decide_eq_true (by
        have := nl_nat x
        omega)
      have e2 := smallD_eq (x : Int) 1000000000 (by omega) (by decide) (by decide) (by omega)
      have e3 := piece_eq (x % 1000000000) 9 (by decide) (by have := Nat.mod_lt x (show 0 < 1000000000 by decide); omega)
      have e3 : m_digits_piece ((x : Int) % 1000000000) 10 9 = some (bs (padN 9 (x % 1000000000))) := e3
      rw [pcs_pos hx] at hD ⊢
      have e4 : ap 16 Ds [bs (padN 9 (x % 1000000000))] = some (Ds ++ [bs (padN 9 (x % 1000000000))]) := ap_of (by simp at hD ⊢; omega)
      have hs : m_digits_In_l1 10 (1000000000, 9) (nl (x : Int), Ds) = some (.inl (nl ((x / 1000000000 : Nat) : Int), Ds ++ [bs (padN 9 (x % 1000000000))])) := by
        simp only [m_digits_In_l1, e1, if_true, e2, bd_some, e3, e4]
        rfl
      rw [lp_more hs, ih (x / 1000000000) (Nat.div_lt_self hx (by decide)) (Nat.le_trans (nl_mono (by omega) (by omega)) hl) _ (by simp at hD ⊢; omega)]
      simp
    · have : x = 0 := by omega
      subst this
      rw [pcs_zero]
      have : nl ((0 : Nat) : Int) = [] := nl_zero
      rw [this]
      exact lp_done (by simp [m_digits_In_l1])
theorem in_l2 (L : List (List UInt8)) (hL : L.length ≤ 1000000000000) (h9 : ∀ s ∈ L, s.length = 9) : lp (m_digits_In_l2 (L.map bs)) (0, true, []) = some (decide (L = []), i8 L.reverse.flatten) := by
  have key : ∀ (k i : Nat) (c : Bool), i + k = L.length → (c = decide (i = 0)) → lp (m_digits_In_l2 (L.map bs)) ((i : Int), c, i8 (L.reverse.take i).flatten) = some (decide (L = []), i8 L.reverse.flatten) := by
    intro k
    induction k with
    | zero =>
      intro i c hi hc
      obtain rfl : i = L.length := by omega
      have e1 : decide (((L.length : Nat) : Int) < (((L.map bs).length : Nat) : Int)) = false := decide_eq_false (by simp)
      rw [lp_done (x := (c, i8 (L.reverse.take L.length).flatten)) (by simp only [m_digits_In_l2, e1]; rfl)]
      rw [List.take_of_length_le (by simp), hc]
      congr 2
      cases L <;> simp
    | succ k ih =>
      intro i c hi hc
      have e1 : decide ((i : Int) < ((L.map bs).length : Int)) = true := decide_eq_true (by rw [List.length_map]; omega)
      have e2 : wi64 ((wi64 (((L.map bs).length : Int) - 1)) - (i : Int)) = ((L.length - 1 - i : Nat) : Int) := by
        rw [List.length_map, wi64_eq (x := (L.length : Int) - 1) (by omega) (by omega), wi64_eq (by omega) (by omega)]; omega
      have hk : L.length - 1 - i < L.length := by omega
      have e3 : rd (L.map bs) ((L.length - 1 - i : Nat) : Int) = some (bs L[L.length - 1 - i]) := by
        rw [rd_nat, List.getElem?_map, List.getElem?_eq_getElem hk]; rfl
      have hr : L.reverse[i]? = some L[L.length - 1 - i] := by
        rw [List.getElem?_reverse (by omega), List.getElem?_eq_getElem hk]
      have hlen : (L.reverse.take i).flatten.length = i * 9 := by
        have : ∀ M : List (List UInt8), (∀ s ∈ M, s.length = 9) → M.flatten.length = M.length * 9 := by
          intro M
          induction M with
          | nil => intro _; rfl
          | cons s M ih =>
            intro h
            rw [List.flatten_cons, List.length_append, h s (by simp), ih (fun t ht => h t (by simp [ht])), List.length_cons, Nat.succ_mul]
            omega
        rw [this _ (fun s hs => h9 s (List.mem_reverse.1 (List.mem_of_mem_take hs))), List.length_take, List.length_reverse, Nat.min_eq_left (by omega)]
      have h9' := h9 L[L.length - 1 - i] (List.getElem_mem _)
      have e4 := apS_i8 (L.reverse.take i).flatten L[L.length - 1 - i] (by rw [hlen, h9']; omega)
      have e5 : m_strings_Builder_copyCheck_M c (i8 (L.reverse.take i).flatten) = some false := by
        unfold m_strings_Builder_copyCheck_M
        cases c <;> rfl
      have e7 : wi64 ((i : Int) + 1) = (i : Int) + 1 := wi64_eq (by omega) (by omega)
      have hs : m_digits_In_l2 (L.map bs) ((i : Int), c, i8 (L.reverse.take i).flatten) = some (.inl ((i : Int) + 1, false, i8 (L.reverse.take (i + 1)).flatten)) := by
        rw [List.take_add_one, hr, List.flatten_append]
        simp only [Option.toList, List.flatten_cons, List.flatten_nil, List.append_nil]
        simp only [m_digits_In_l2, e1, if_true, e2, e3, bd_some, m_strings_Builder_WriteString_M, e5, e4, e7]
      rw [lp_more hs]
      have := ih (i + 1) false (by omega) (by simp)
      simpa using this
  have := key L.length 0 true (by omega) rfl
  simpa [i8] using this
/-- without noughts ahead -/
def trimL : List UInt8 → List UInt8
  | [] => []
  | x :: l => if x = 48 then trimL l else x :: l
theorem trim_loop (l : List UInt8) : lp (m_strings_trimLeftByte_l1 48) (bs l) = some (bs (trimL l)) := by
  induction l with
  | nil => exact lp_done (by rfl)
  | cons x l ih =>
    have e1 : decide (0 < (((bs (x :: l)).size : Nat) : Int)) = true := decide_eq_true (by rw [bs_size]; simp)
    have e2 : bt (bs (x :: l)) 0 = some (x.toNat : Int) := by
      unfold bt
      rw [if_pos (by rw [bs_size]; simp)]
      rfl
    have e3 : (decide ((x.toNat : Int) = 48)) = decide (x = 48) := by
      by_cases h : x = 48
      · subst h; rfl
      · rw [decide_eq_false h, decide_eq_false]
        intro h2
        apply h
        apply UInt8.toNat_inj.1
        have : x.toNat = 48 := by omega
        rw [this]; rfl
    unfold trimL
    by_cases h : x = 48
    · have e4 : cs (bs (x :: l)) 1 ((bs (x :: l)).size : Int) = some (bs l) := by
        unfold cs
        rw [if_pos (by rw [bs_size]; simp; omega)]
        congr 1
        apply ByteArray.ext
        apply Array.toList_inj.1
        rw [ByteArray.data_extract, Array.toList_extract]
        simp [bs, ByteArray.size]
      rw [lp_more (s' := bs l) (by simp only [m_strings_trimLeftByte_l1, e1, if_true, e2, bd_some, e3, decide_eq_true h, e4]), if_pos h]
      exact ih
    · rw [if_neg h]
      exact lp_done (by simp only [m_strings_trimLeftByte_l1, e1, if_true, e2, bd_some, e3, decide_eq_false h, Bool.false_eq_true, if_false])
theorem trimLeft_eq (l : List UInt8) : m_strings_TrimLeft (bs l) (bs [48]) = some (bs (trimL l)) := by
  unfold m_strings_TrimLeft
  by_cases h : l = []
  · subst h; simp only [sq_self, if_true, bd_some]; rfl
  · have e1 : sq (bs l) (bs []) = false := by rw [sq_bs]; exact decide_eq_false h
    have e2 : sq (bs [48]) (bs []) = false := by rw [sq_bs]; rfl
    have e3 : bt (bs [48]) 0 = some 48 := rfl
    have e4 : decide (((bs [48]).size : Int) = 1) = true := rfl
    have e5 : m_strings_trimLeftByte (bs l) 48 = some (bs (trimL l)) := by
      unfold m_strings_trimLeftByte
      rw [trim_loop]; rfl
    simp only [e1, Bool.false_eq_true, if_false, e2, bd_some, e4, if_true, e3, e5]
    rfl
theorem trimL_pad : ∀ (n r : Nat), 0 < r → r < 10 ^ n → trimL (padN n r) = Lib.decDigits r
  | 0, r, h0, h1 => by simp at h1; omega
  | n + 1, r, h0, h1 => by
    have key : ∀ (l : List UInt8) (d : UInt8), trimL (l ++ [d]) = if trimL l = [] then trimL [d] else trimL l ++ [d] := by
      intro l d
      induction l with
      | nil => simp [trimL]
      | cons x l ih =>
        show (if x = 48 then trimL (l ++ [d]) else x :: (l ++ [d])) = _
        by_cases h : x = 48
        · rw [if_pos h, ih]
          have : trimL (x :: l) = trimL l := by show (if x = 48 then trimL l else x :: l) = _; rw [if_pos h]
          rw [this]
        · have : trimL (x :: l) = x :: l := by show (if x = 48 then trimL l else x :: l) = _; rw [if_neg h]
          rw [this, if_neg h, if_neg (by simp)]
          rfl
    rw [padN, key]
    by_cases hb : r < 10
    · have h10 : r / 10 = 0 := by omega
      have hz : ∀ m, trimL (padN m 0) = [] := by
        intro m
        induction m with
        | zero => rfl
        | succ m ih => rw [padN_cons]; show (if _ = (48 : UInt8) then _ else _) = _; rw [if_pos (by simp)]; exact ih
      rw [h10, hz, if_pos rfl, Lib.decDigits, dif_pos hb, Nat.mod_eq_of_lt hb]
      show (if UInt8.ofNat (48 + r) = (48 : UInt8) then trimL [] else [UInt8.ofNat (48 + r)]) = _
      rw [if_neg]
      intro h
      have h2 := congrArg UInt8.toNat h
      rw [UInt8.toNat_ofNat', Nat.mod_eq_of_lt (by omega)] at h2
      have : (48 : UInt8).toNat = 48 := rfl
      omega
    · rw [trimL_pad n (r / 10) (by omega) (by rw [Nat.pow_succ] at h1; exact Nat.div_lt_of_lt_mul (by rw [Nat.mul_comm]; exact h1))]
      have hne : Lib.decDigits (r / 10) ≠ [] := by
        intro h
        have h2 := Lib.decDigits_length (r / 10)
        rw [h] at h2
        have := Lib.nDigits_pos (r / 10)
        simp at h2; omega
      rw [if_neg hne]
      conv => rhs; rw [Lib.decDigits, dif_neg hb]
theorem padN_split : ∀ (m n r : Nat), padN (n + m) r = padN n (r / 10 ^ m) ++ padN m (r % 10 ^ m)
  | 0, n, r => by simp [padN]
  | m + 1, n, r => by
    show padN (n + m + 1) r = _
    rw [padN, padN_split m n (r / 10), padN, List.append_assoc]
    have e1 : r / 10 / 10 ^ m = r / 10 ^ (m + 1) := by rw [Nat.div_div_eq_div_mul, Nat.pow_succ, Nat.mul_comm 10]
    have e2 : r / 10 % 10 ^ m = r % 10 ^ (m + 1) / 10 := by
      rw [Nat.pow_succ, Nat.mul_comm, Nat.mod_mul_right_div_self]
    have e3 : r % 10 = r % 10 ^ (m + 1) % 10 := by rw [Nat.pow_succ, Nat.mul_comm, Nat.mod_mul_right_mod]
    rw [e1, e2, e3]
theorem pcs_pad : ∀ (x : Nat), (pcs x).reverse.flatten = padN (9 * (pcs x).length) x := by
  intro x
  induction x using Nat.strongRecOn with
  | _ x ih =>
    by_cases hx : 0 < x
    · rw [pcs_pos hx, List.reverse_cons, List.flatten_append, ih (x / 1000000000) (Nat.div_lt_self hx (by decide)), List.length_cons]
      have := padN_split 9 (9 * (pcs (x / 1000000000)).length) x
      rw [show 9 * ((pcs (x / 1000000000)).length + 1) = 9 * (pcs (x / 1000000000)).length + 9 by omega, this]
      simp
    · have : x = 0 := by omega
      subst this
      rw [pcs_zero]; rfl
theorem pcs_lt : ∀ (x : Nat), x < 10 ^ (9 * (pcs x).length) := by
  intro x
  induction x using Nat.strongRecOn with
  | _ x ih =>
    by_cases hx : 0 < x
    · have := ih (x / 1000000000) (Nat.div_lt_self hx (by decide))
      rw [pcs_pos hx, List.length_cons, show 9 * ((pcs (x / 1000000000)).length + 1) = 9 * (pcs (x / 1000000000)).length + 9 by omega, Nat.pow_add]
      have h2 : x < (x / 1000000000 + 1) * 1000000000 := by omega
      exact Nat.lt_of_lt_of_le h2 (Nat.mul_le_mul_right 1000000000 this)
    · have : x = 0 := by omega
      subst this
      exact Nat.pow_pos (by decide)
theorem digitsPrint_eq (x : Nat) (hl : (nl (x : Int)).length ≤ 1000000000) : m_digits_Print (nl (x : Int)) = some (bs (Lib.decDigits x)) := by
  have hpl : (pcs x).length ≤ 1000000000000 := by
    have h1 : x < 1000000000 ^ (2 * (nl (x : Int)).length) := by
      have h2 := dv_lt (B := (4294967296 : Int)) (by decide) (nl_can (x : Int)).1
      rw [nl_dv (by omega)] at h2
      have h3 : (4294967296 : Int) ^ (nl (x : Int)).length ≤ (1000000000 : Int) ^ (2 * (nl (x : Int)).length) := by
        rw [Int.pow_mul]; exact pow_le (by decide) (by decide) _
      have h4 : (x : Int) < (((1000000000 ^ (2 * (nl (x : Int)).length) : Nat)) : Int) := by
        rw [Int.natCast_pow]
        exact Int.lt_of_lt_of_le h2 h3
      omega
    have := pcs_len _ x h1
    omega
  have h9 : ∀ s ∈ pcs x, s.length = 9 := by
    have : ∀ x, ∀ s ∈ pcs x, s.length = 9 := by
      intro x
      induction x using Nat.strongRecOn with
      | _ x ih =>
        intro s hs
        by_cases hx : 0 < x
        · rw [pcs_pos hx] at hs
          rcases List.mem_cons.1 hs with rfl | hs
          · exact padN_len 9 _
          · exact ih (x / 1000000000) (Nat.div_lt_self hx (by decide)) s hs
        · have : x = 0 := by omega
          subst this
          rw [pcs_zero] at hs; cases hs
    exact this x
  have e0 : m_digits_based 10 = some 0 := rfl
  have e1 := make_nl (x : Int) (by omega)
  have e2 := in_l1 x hl [] (by simp; omega)
  have e3 := in_l2 (pcs x) hpl h9
  have e5 : m_strings_Builder_String_M (decide (pcs x = [])) (i8 (pcs x).reverse.flatten) = some (bs (pcs x).reverse.flatten) := by
    unfold m_strings_Builder_String_M
    by_cases h : (pcs x).reverse.flatten = []
    · rw [h]; rfl
    · have hz : (i8 (pcs x).reverse.flatten).length ≠ 0 := by
        unfold i8; rw [List.length_map]; intro h0; exact h (List.length_eq_zero_iff.1 h0)
      rw [decide_eq_false hz, ust_i8 _ h]; rfl
  have e6 := trimLeft_eq (pcs x).reverse.flatten
  unfold m_digits_Print m_digits_In
  rw [List.nil_append] at e2
  simp only [e0, bd_some, decide_true, Bool.not_true, Bool.false_eq_true, if_false, chunk10, e1, e2, e3, e5, e6, sq_bs]
  by_cases hx : 0 < x
  · have h7 : trimL (pcs x).reverse.flatten = Lib.decDigits x := by rw [pcs_pad]; exact trimL_pad _ x hx (pcs_lt x)
    have hne : Lib.decDigits x ≠ [] := by
      intro h
      have h2 := Lib.decDigits_length x
      rw [h] at h2
      have := Lib.nDigits_pos x
      simp at h2; omega
    rw [h7, decide_eq_false hne]
    rfl
  · have : x = 0 := by omega
    subst this
    rw [pcs_zero]
    have : Lib.decDigits 0 = [48] := by rw [Lib.decDigits, dif_pos (by decide)]; rfl
    rw [this]
    rfl
end Go.Proofs.YtihaljbhcnflfaaDoor.AP
/- Numbers and fractions printed, by both. -/
namespace Go.Proofs.YtihaljbhcnflfaaDoor.AP
open Go Go.Proofs.YtihaljbhcnflfaaDoor.Tri
set_option linter.unusedVariables false
set_option linter.unusedSimpArgs false
theorem nd_pow : ∀ (j n : Nat), n < 10 ^ (j + 1) → Lib.nDigits n ≤ j + 1
  | 0, n, hn => by rw [Lib.nDigits_small (by simpa using hn)]; omega
  | j + 1, n, hn => by
    by_cases h : n < 10
    · rw [Lib.nDigits_small h]; omega
    · rw [Lib.nDigits_big h]
      have := nd_pow j (n / 10) (by rw [Nat.pow_succ] at hn; omega)
      omega
theorem nd_zl (x : Nat) : Lib.nDigits x ≤ 4 * (zl (x : Int)).length + 1 := by
  apply nd_pow
  have h2 := dv_lt (B := (10000 : Int)) (by decide) (zl_can (x : Int)).1
  rw [zl_dv (by omega)] at h2
  have h3 : ((10000 : Int) ^ (zl (x : Int)).length) = (((10 ^ (4 * (zl (x : Int)).length) : Nat)) : Int) := by
    rw [Int.natCast_pow, Int.pow_mul]
    rfl
  rw [h3] at h2
  have h4 : (10 : Nat) ^ (4 * (zl (x : Int)).length) ≤ 10 ^ (4 * (zl (x : Int)).length + 1) := Nat.pow_le_pow_right (by decide) (by omega)
  omega
theorem dd_len (x : Nat) : (Lib.decDigits x).length ≤ 4 * (zl (x : Int)).length + 1 := by rw [Lib.decDigits_length]; exact nd_zl x
theorem i8_cons (d : Nat) (h : d < 10) (l : List UInt8) : wu8 (wi64 (48 + (d : Int))) :: i8 l = i8 (UInt8.ofNat (48 + d) :: l) := by
  show _ = ((UInt8.ofNat (48 + d)).toNat : Int) :: i8 l
  congr 1
  rw [UInt8.toNat_ofNat', Nat.mod_eq_of_lt (show 48 + d < 2 ^ 8 by omega), wi64_eq (by omega) (by omega), wu8_eq (by omega) (by omega)]
  omega
theorem refText_loop (x : Nat) (hl : (zl (x : Int)).length ≤ 1000000000) : ∀ acc : List UInt8, acc.length + Lib.nDigits x ≤ 100000000000 → 0 < x → lp m_triviumref02_Text_l1 (zl (x : Int), i8 acc) = some (i8 (Lib.decDigits x ++ acc)) := by
  induction x using Nat.strongRecOn with
  | _ x ih =>
    intro acc ha hx
    have hnd := Lib.nDigits_pos x
    have e1 : decide (0 < ((zl (x : Int)).length : Int)) = true := decide_eq_true (by
      have : (zl (x : Int)).length ≠ 0 := by
        intro h
        have := (zl_nil (x := (x : Int)) (by omega)).1 (List.length_eq_zero_iff.1 h)
        omega
      omega)
    have e2 := refDivSmall_eq (x : Int) 10 (by omega) (by decide) (by decide) (by omega)
    have e3 : ((x : Int) % 10) = ((x % 10 : Nat) : Int) := by omega
    have e4 : ((x : Int) / 10) = ((x / 10 : Nat) : Int) := by omega
    rw [e3, e4] at e2
    have e5 : ap 1 [wu8 (wi64 (48 + ((x % 10 : Nat) : Int)))] (i8 acc) = some (i8 (UInt8.ofNat (48 + x % 10) :: acc)) := by
      rw [ap_of (by unfold i8; simp; omega)]
      congr 1
      exact i8_cons (x % 10) (Nat.mod_lt _ (by decide)) acc
    have hs : m_triviumref02_Text_l1 (zl (x : Int), i8 acc) = some (.inl (zl ((x / 10 : Nat) : Int), i8 (UInt8.ofNat (48 + x % 10) :: acc))) := by
      simp only [m_triviumref02_Text_l1, e1, if_true, e2, bd_some, e5]
    rw [lp_more hs]
    by_cases h : x < 10
    · have h0 : x / 10 = 0 := by omega
      have h1 : x % 10 = x := by omega
      rw [h0, h1]
      have hz : zl ((0 : Nat) : Int) = [] := zl_zero
      rw [hz, lp_done (x := i8 (UInt8.ofNat (48 + x) :: acc)) (by simp [m_triviumref02_Text_l1]), Lib.decDigits, dif_pos h]
      rfl
    · have h4 := Lib.nDigits_big h
      rw [ih (x / 10) (by omega) (Nat.le_trans (zl_mono (by omega) (by omega)) hl) _ (by simp; omega) (by omega)]
      conv => rhs; rw [Lib.decDigits, dif_neg h]
      simp
theorem tx_i8 (l : List UInt8) : tx (i8 l) = bs l := by
  by_cases h : l = []
  · rw [h]; rfl
  · have := ust_i8 _ h
    unfold ust at this
    split at this
    · exact Option.some.inj this
    · cases this
theorem refText_eq2 (x : Nat) (hl : (zl (x : Int)).length ≤ 1000000000) : m_triviumref02_Text (zl (x : Int)) = some (bs (Lib.decDigits x)) := by
  unfold m_triviumref02_Text
  by_cases hx : 0 < x
  · have e1 : decide (((zl (x : Int)).length : Int) = 0) = false := decide_eq_false (by
      intro h
      have := (zl_nil (x := (x : Int)) (by omega)).1 (List.length_eq_zero_iff.1 (by omega))
      omega)
    have e2 := refText_loop x hl [] (by have := nd_zl x; simp; omega) hx
    rw [List.append_nil] at e2
    have e2 : lp m_triviumref02_Text_l1 (zl (x : Int), []) = some (i8 (Lib.decDigits x)) := e2
    rw [e1]
    simp only [Bool.false_eq_true, if_false, e2, bd_some, tx_i8]
  · have : x = 0 := by omega
    subst this
    have hz : zl ((0 : Nat) : Int) = [] := zl_zero
    rw [hz, Lib.decDigits, dif_pos (by decide)]
    rfl
/-- a number with its sign -/
def zsL (a : Int) : List UInt8 := if a < 0 then 45 :: Lib.decDigits a.natAbs else Lib.decDigits a.natAbs
theorem zsL_len (a : Int) : (zsL a).length ≤ 4 * (zl (a.natAbs : Int)).length + 2 := by
  have := dd_len a.natAbs
  unfold zsL
  split
  · rw [List.length_cons]; omega
  · omega
theorem wholePrint_eq (a : Int) (hl : (zl (a.natAbs : Int)).length ≤ 100000000) : m_whole_Print (zI a) = some (bs (zsL a)) := by
  have h1 := digitsPrint_eq a.natAbs (by have := nl_zl_len (x := (a.natAbs : Int)) (by omega); omega)
  have h2 := dd_len a.natAbs
  have c := cat_bs (a := [45]) (b := Lib.decDigits a.natAbs) (by simp; omega)
  unfold m_whole_Print zI zsL
  by_cases h : a < 0
  · simp only [decide_eq_true h, if_true, h1, bd_some, c, if_pos h]
    rfl
  · simp only [decide_eq_false h, Bool.false_eq_true, if_false, h1, bd_some, if_neg h]
theorem ref07Print_eq (a : Int) (hl : (zl (a.natAbs : Int)).length ≤ 100000000) : m_triviumref07_Print (zZ a) = some (bs (zsL a)) := by
  have h1 := refText_eq2 a.natAbs (by omega)
  have h2 := dd_len a.natAbs
  have c := cat_bs (a := [45]) (b := Lib.decDigits a.natAbs) (by simp; omega)
  unfold m_triviumref07_Print zZ zsL
  by_cases h : a < 0
  · simp only [decide_eq_true h, if_true, h1, bd_some, c, if_pos h]
    rfl
  · simp only [decide_eq_false h, Bool.false_eq_true, if_false, h1, bd_some, if_neg h]
theorem sg_ne {b : Int} (h : ¬ b = 1) : ¬ sg (b - 1) = 0 := by
  unfold sg
  split
  · decide
  · split <;> omega
/-- a fraction -/
def rtL (a b : Int) : List UInt8 := if b = 1 then zsL a else zsL a ++ 47 :: Lib.decDigits b.toNat
theorem rtL_len (a b : Int) (hb : 0 ≤ b) : (rtL a b).length ≤ 4 * (zl (a.natAbs : Int)).length + 4 * (zl b).length + 10 := by
  have h1 := zsL_len a
  have h2 := dd_len b.toNat
  have e : ((b.toNat : Nat) : Int) = b := by omega
  rw [e] at h2
  unfold rtL
  split
  · omega
  · rw [List.length_append, List.length_cons]; omega
theorem one_nl : m_nat_Of 1 = some (nl 1) := natOf_eq 1 (by decide) (by decide)
end Go.Proofs.YtihaljbhcnflfaaDoor.AP
/- The program's numbers, as printed: divided by a limb, multiplied; with signs; fractions. -/
namespace Go.Proofs.YtihaljbhcnflfaaDoor.AP
open Go Go.Proofs.YtihaljbhcnflfaaDoor.Tri
set_option linter.unusedVariables false
set_option linter.unusedSimpArgs false
/-- divided by a limb -/
theorem div1_eq (x d : Int) (hx : 0 ≤ x) (hd0 : 0 < d) (hd1 : d < (4294967296 : Int)) (hl : (nl x).length ≤ 1000000000000) : m_divide_Div (nl x) (nl d) = some (nl (x / d), nl (x % d), 0) := by
  have hr : (nl d).length = 1 := by rw [nl_one hd0 hd1]; rfl
  have h0 := Int.emod_nonneg x (show d ≠ 0 by omega)
  have h1 := Int.emod_lt_of_pos x hd0
  unfold m_divide_Div
  rw [if_neg (by rw [hr]; decide), may_can _ (nl_can x) (by omega), bd_some, may_can _ (nl_can d) (by omega)]
  simp only [bd_some, Bool.not_true]
  rw [if_neg (by decide), bd_some, if_neg (by decide), cmpN_eq x d hx (by omega) (by omega), bd_some]
  by_cases hlt : x < d
  · have e1 : sg (x - d) = -1 := by unfold sg; rw [if_pos (by omega)]
    rw [e1, if_pos (by decide), make_nl x (by omega), bd_some, Int.ediv_eq_zero_of_lt hx hlt, Int.emod_eq_of_lt hx hlt, nl_zero]
  · have e1 : ¬ sg (x - d) < 0 := by unfold sg; split <;> (try split) <;> omega
    rw [if_neg (by simpa using e1), if_pos (by simp; omega)]
    have e2 : rd (nl d) 0 = some d := by rw [nl_one hd0 hd1]; rfl
    rw [e2, bd_some, smallD_eq x d hx hd0 hd1 hl, bd_some]
    dsimp only
    rw [natOf_eq _ h0 (by omega), bd_some]
theorem dv_set (B : Int) : ∀ (l : List Int) (k : Nat) (v : Int), k < l.length → dv B (l.set k v) = dv B l + B ^ k * (v - gI l (k : Int))
  | [], k, v, h => by simp at h
  | x :: l, 0, v, h => by simp [dv, gI]; omega
  | x :: l, k + 1, v, h => by
    have := dv_set B l k v (by simpa using h)
    have e : gI (x :: l) ((k + 1 : Nat) : Int) = gI l (k : Int) := by simp [gI]
    rw [List.set_cons_succ, dv_cons, dv_cons, this, e, Int.pow_succ]
    grind
theorem gI_set_ne {l : List Int} {k j : Nat} {v : Int} (h : k ≠ j) : gI (l.set k v) (j : Int) = gI l (j : Int) := by
  simp [gI, List.getElem?_set, h]
theorem gI_rep (n : Nat) (m : Int) : gI (List.replicate n 0) m = 0 := by
  unfold gI; rw [List.getD_eq_getElem?_getD, List.getElem?_replicate]; split <;> rfl
end Go.Proofs.YtihaljbhcnflfaaDoor.AP
/- Limbs: taking off, cutting, sums, and the product by Karatsuba's way. -/
namespace Go.Proofs.YtihaljbhcnflfaaDoor.AP
open Go Go.Proofs.YtihaljbhcnflfaaDoor.Tri
set_option linter.unusedVariables false
set_option linter.unusedSimpArgs false
theorem limbSub_eq (a b c : Int) (ha : 0 ≤ a ∧ a < (4294967296 : Int)) (hb : 0 ≤ b ∧ b < (4294967296 : Int)) (hc : c = 0 ∨ c = 1) : m_limb_Sub a b c = some (if a < b + c then a + (4294967296 : Int) - (b + c) else a - (b + c), if a < b + c then 1 else 0) := by
  unfold m_limb_Sub
  rw [and_limb a ha.1 ha.2, and_limb b hb.1 hb.2, and_limb c (by omega) (by omega)]
  rw [lt_eq, wu64_eq (x := b + c) (by omega) (by omega)]
  by_cases h : a < b + c
  · rw [if_pos (decide_eq_true h), if_pos h, if_pos h, wu64_eq (x := b + c - a) (by omega) (by omega), wu64_eq (x := b + c - a + 4294967295) (by omega) (by omega), sr32, bd_some, bd_some]
    rw [show (b + c - a + 4294967295) / (4294967296 : Int) = 1 by omega, sh32 1 (by decide) (by decide), bd_some, lt_eq, wu64_eq (x := a + 1 * (4294967296 : Int)) (by omega) (by omega), wu64_eq (x := a + 1 * (4294967296 : Int) - (b + c)) (by omega) (by omega), Int.one_mul]
  · rw [if_neg (by simpa using h), if_neg h, if_neg h, bd_some, sh32 0 (by decide) (by decide), bd_some, lt_eq, Int.zero_mul, wu64_eq (x := a + 0) (by omega) (by omega), Int.add_zero, wu64_eq (x := a - (b + c)) (by omega) (by omega)]
theorem subN_loop (a b z : List Int) (ha : Dig (4294967296 : Int) a) (hb : Dig (4294967296 : Int) b) (hz : z.length = a.length) (hl : a.length ≤ 1000000000000) (hlb : b.length ≤ 1000000000000) : ∀ (k i : Nat) (c : Int) (d : List Int), i + k = a.length → d.length = i → (c = 0 ∨ c = 1) → Dig (4294967296 : Int) d → dv (4294967296 : Int) d - (4294967296 : Int) ^ i * c = dv (4294967296 : Int) (a.take i) - dv (4294967296 : Int) (b.take i) →
    ∃ c' d', lp (m_nat_Sub_l1 a b z) (c, (i : Int), d ++ List.replicate k 0) = some d' ∧ d'.length = a.length ∧ (c' = 0 ∨ c' = 1) ∧ Dig (4294967296 : Int) d' ∧ dv (4294967296 : Int) d' - (4294967296 : Int) ^ a.length * c' = dv (4294967296 : Int) a - dv (4294967296 : Int) (b.take a.length)
  | 0, i, c, d, hk, hi, hc, hd, hv => by
    obtain rfl : i = a.length := by omega
    exact ⟨c, d, lp_done (by simp [m_nat_Sub_l1, hz]), hi, hc, hd, by rw [hv, List.take_length]⟩
  | k + 1, i, c, d, hk, hi, hc, hd, hv => by
    have ga := gI_dig ha (by decide) (i : Int)
    have gb := gI_dig hb (by decide) (i : Int)
    have a1 : decide ((i : Int) < (z.length : Int)) = true := decide_eq_true (by omega)
    have a2 : rd a (i : Int) = some (gI a (i : Int)) := rd_I (by omega) (by omega)
    have a5 : wi64 ((i : Int) + 1) = ((i + 1 : Nat) : Int) := by rw [wi64_eq (by omega) (by omega)]; omega
    have a6 : ix (d ++ List.replicate (k + 1) 0) (i : Int) = some i := ix_nat (by simp; omega)
    have a8 := limbSub_eq (gI a (i : Int)) (gI b (i : Int)) c ga gb hc
    generalize hg1 : gI a (i : Int) = g1 at *
    generalize hg2 : gI b (i : Int) = g2 at *
    generalize hv1 : (if g1 < g2 + c then g1 + (4294967296 : Int) - (g2 + c) else g1 - (g2 + c)) = v at *
    generalize hc1 : (if g1 < g2 + c then (1 : Int) else 0) = c1 at *
    have hvc : v = g1 - (g2 + c) + (4294967296 : Int) * c1 ∧ (c1 = 0 ∨ c1 = 1) ∧ 0 ≤ v ∧ v < (4294967296 : Int) := by
      subst hv1; subst hc1; split <;> omega
    have a7 : (d ++ List.replicate (k + 1) 0).set i v = (d ++ [v]) ++ List.replicate k 0 := by
      rw [show List.replicate (k + 1) (0 : Int) = 0 :: List.replicate k 0 from rfl, ← hi, set_at]
    have e1 : m_nat_Sub_l1 a b z (c, (i : Int), d ++ List.replicate (k + 1) 0) = some (.inl (c1, ((i + 1 : Nat) : Int), (d ++ [v]) ++ List.replicate k 0)) := by
      simp only [m_nat_Sub_l1, a1, if_true, a2, natAt_eq b i (by omega), hg2, bd_some, a8, a6, lt_eq, a7, a5]
    obtain ⟨c', d', r1, r2⟩ := subN_loop a b z ha hb hz hl hlb k (i + 1) c1 (d ++ [v]) (by omega) (by simp [hi]) hvc.2.1 (Dig.snoc hd hvc.2.2) (by
      rw [dv_snoc, take_gI' (4294967296 : Int) a i, take_gI' (4294967296 : Int) b i, hi, Int.pow_succ, hg1, hg2]
      obtain ⟨h3, -⟩ := hvc
      generalize (4294967296 : Int) ^ i = p at *
      generalize dv (4294967296 : Int) (List.take i a) = T at *
      generalize dv (4294967296 : Int) (List.take i b) = U at *
      clear hv1 hc1
      subst h3
      grind)
    exact ⟨c', d', by rw [lp_more e1]; exact r1, r2⟩
theorem subN_eq (x y : Int) (hy : 0 ≤ y) (hxy : y ≤ x) (hl : (nl x).length ≤ 100000000000) : m_nat_Sub (nl x) (nl y) = some (nl (x - y), 0) := by
  have hm := nl_mono hy hxy
  obtain ⟨c', d', h1, h2, h3, h4, h5⟩ := subN_loop (nl x) (nl y) (List.replicate (nl x).length 0) (nl_can x).1 (nl_can y).1 (by simp) (by omega) (by omega) _ 0 0 [] (Nat.zero_add _) rfl (.inl rfl) (Dig.nil _) (by simp [dv])
  rw [List.take_of_length_le hm, nl_dv (by omega), nl_dv hy] at h5
  have hc : c' = 0 := by
    rcases h3 with h3 | h3
    · exact h3
    · subst h3
      have := dv_lt (by decide) h4
      rw [h2] at this
      omega
  subst hc
  unfold m_nat_Sub
  rw [cmpN_eq x y (by omega) hy (by omega), bd_some, if_neg (by unfold sg; simp; split <;> (try split) <;> omega), mk_of (by omega), bd_some, show ((nl x).length : Int).toNat = (nl x).length by omega]
  rw [List.nil_append] at h1
  rw [show ((0 : Int), (0 : Int), List.replicate (nl x).length (0 : Int)) = ((0 : Int), ((0 : Nat) : Int), List.replicate (nl x).length (0 : Int)) from rfl, h1, bd_some, trimN_eq _ (by omega), bd_some, trimz_nl (x := x - y) h4 (by rw [Int.mul_zero] at h5; omega)]
theorem subN_less (x y : Int) (hx : 0 ≤ x) (hxy : x < y) (hl : (nl x).length ≤ 100000000000) : m_nat_Sub (nl x) (nl y) = some ([], 6) := by
  unfold m_nat_Sub
  rw [cmpN_eq x y hx (by omega) (by omega), bd_some, if_pos (by unfold sg; rw [if_pos (by omega)]; rfl)]
theorem nl_add_len {x y : Int} {n : Nat} (hx : 0 ≤ x) (hy : 0 ≤ y) (h1 : x < (4294967296 : Int) ^ n) (h2 : y < (4294967296 : Int) ^ n) : (nl (x + y)).length ≤ n + 1 :=
  nl_len (by omega) (by rw [Int.pow_succ]; have := pow_pos' (show (0 : Int) < (4294967296 : Int) by decide) n; omega)
theorem nl_mul_len {x y : Int} {n m : Nat} (hx : 0 ≤ x) (hy : 0 ≤ y) (h1 : x < (4294967296 : Int) ^ n) (h2 : y < (4294967296 : Int) ^ m) : (nl (x * y)).length ≤ n + m :=
  nl_len (Int.mul_nonneg hx hy) (by
    rw [Int.pow_add]
    have := pow_pos' (show (0 : Int) < (4294967296 : Int) by decide) n
    exact Int.lt_of_le_of_lt (Int.mul_le_mul_of_nonneg_right (Int.le_of_lt h1) hy) (Int.mul_lt_mul_of_pos_left h2 this))
theorem lt_pow_len {x : Int} (hx : 0 ≤ x) : x < (4294967296 : Int) ^ (nl x).length := by
  have := dv_lt (by decide) (nl_can x).1
  rwa [nl_dv hx] at this
theorem mid_eq (a b c d p : Int) : (a + p * b) * (c + p * d) = a * c + p * ((a + b) * (c + d) - a * c - b * d) + p * p * (b * d) := by grind
end Go.Proofs.YtihaljbhcnflfaaDoor.AP
/- Digits read, by ten: the program's way and the document's. -/
namespace Go.Proofs.YtihaljbhcnflfaaDoor.AP
open Go Go.Proofs.YtihaljbhcnflfaaDoor.Tri
set_option linter.unusedVariables false
set_option linter.unusedSimpArgs false
set_option maxRecDepth 4000
/-! texts, by bytes -/
theorem bt_at (l : List UInt8) (i : Nat) (c : UInt8) (r : List UInt8) (h : l.drop i = c :: r) : bt (bs l) (i : Int) = some (c.toNat : Int) := by
  have hi : i < l.length := by
    apply Nat.lt_of_not_le
    intro hle
    rw [List.drop_of_length_le hle] at h; cases h
  have hc : l[i] = c := by
    have := List.drop_eq_getElem_cons hi
    rw [h] at this
    exact (List.cons.inj this).1.symm
  unfold bt
  rw [if_pos ⟨by omega, by show (i : Int) < (l.length : Int); omega⟩]
  show some (((l.getD (i : Int).toNat 0).toNat : Int)) = _
  rw [Int.toNat_natCast, List.getD_eq_getElem?_getD, List.getElem?_eq_getElem hi, hc]; rfl
theorem drop_more {l : List UInt8} {i : Nat} {c : UInt8} {r : List UInt8} (h : l.drop i = c :: r) : l.drop (i + 1) = r := by
  rw [← List.drop_drop, h]; rfl
theorem drop_lt {l : List UInt8} {i : Nat} {c : UInt8} {r : List UInt8} (h : l.drop i = c :: r) : i < l.length := by
  apply Nat.lt_of_not_le
  intro hle
  rw [List.drop_of_length_le hle] at h; cases h
theorem cs_bs (l : List UInt8) (a b : Nat) (h : a ≤ b) (hb : b ≤ l.length) : cs (bs l) (a : Int) (b : Int) = some (bs ((l.take b).drop a)) := by
  unfold cs
  rw [if_pos ⟨by omega, by omega, by show (b : Int) ≤ (l.length : Int); omega⟩, Int.toNat_natCast, Int.toNat_natCast]
  congr 1
  apply ByteArray.ext
  apply Array.ext'
  rw [ByteArray.data_extract, Array.toList_extract]
  show (List.extract l a b) = _
  rw [List.extract_eq_take_drop, List.drop_take]
  rfl
/-! runes -/
theorem dc_low (l : List UInt8) (i : Nat) (c : UInt8) (r : List UInt8) (h : l.drop i = c :: r) (hc : c.toNat < 128) : dc1 (bs l) i = (c.toNat : Int) ∧ dcn (bs l) i = i + 1 := by
  have hi := drop_lt h
  have hg : (bs l).get! (i + 0) = c := by
    have hcc : l[i] = c := by
      have := List.drop_eq_getElem_cons hi
      rw [h] at this
      exact (List.cons.inj this).1.symm
    show (l.toArray)[i + 0]! = c
    rw [Nat.add_zero, List.getElem!_toArray, List.getElem!_eq_getElem?_getD, List.getElem?_eq_getElem hi, hcc]; rfl
  unfold dc1 dcn Utf8.decode
  simp only [hg]
  rw [if_pos (by omega)]
  exact ⟨rfl, rfl⟩
theorem dc_high (l : List UInt8) (i : Nat) (c : UInt8) (r : List UInt8) (h : l.drop i = c :: r) (hc : 128 ≤ c.toNat) : 128 ≤ dc1 (bs l) i := by
  have hi := drop_lt h
  have hg : (bs l).get! (i + 0) = c := by
    have hcc : l[i] = c := by
      have := List.drop_eq_getElem_cons hi
      rw [h] at this
      exact (List.cons.inj this).1.symm
    show (l.toArray)[i + 0]! = c
    rw [Nat.add_zero, List.getElem!_toArray, List.getElem!_eq_getElem?_getD, List.getElem?_eq_getElem hi, hcc]; rfl
  unfold dc1 Utf8.decode
  simp only [hg]
  rw [if_neg (by omega)]
  have hr : (128 : Nat) ≤ Utf8.runeError := by decide
  repeat' split
  all_goals first
    | (simp only; omega)
    | (rename_i h1; rw [Bool.and_eq_true, decide_eq_true_eq] at h1; simp only; omega)
/-! what a text says -/
def dgt (c : UInt8) : Option Nat := if 48 ≤ c.toNat ∧ c.toNat ≤ 57 then some (c.toNat - 48) else none
def rdN : List UInt8 → Nat → Option Nat
  | [], v => some v
  | c :: l, v => match dgt c with
    | none => none
    | some d => rdN l (v * 10 + d)
def rd10 (l : List UInt8) : Option Nat := if l = [] then none else rdN l 0
theorem dgt_lt {c : UInt8} {d : Nat} (h : dgt c = some d) : d < 10 := by
  unfold dgt at h; split at h
  · cases h; omega
  · cases h
theorem rdN_append : ∀ (a b : List UInt8) (v : Nat), rdN (a ++ b) v = (rdN a v).bind (rdN b)
  | [], b, v => rfl
  | c :: a, b, v => by
    show rdN (c :: (a ++ b)) v = _
    unfold rdN
    cases dgt c with
    | none => rfl
    | some d => exact rdN_append a b _
theorem dgt_of (d : Nat) (h : d < 10) : dgt (UInt8.ofNat (48 + d)) = some d := by
  unfold dgt
  have : (UInt8.ofNat (48 + d)).toNat = 48 + d := by rw [UInt8.toNat_ofNat']; omega
  rw [this, if_pos (by omega)]; congr 1; omega
theorem rdN_dec (n : Nat) : rdN (Lib.decDigits n) 0 = some n := by
  induction n using Nat.strongRecOn with
  | _ n ih =>
    by_cases h : n < 10
    · rw [Lib.decDigits_one h]
      unfold rdN
      rw [dgt_of n h]
      show some (0 * 10 + n) = some n
      rw [Nat.zero_mul, Nat.zero_add]
    · rw [Lib.decDigits, dif_neg h, rdN_append, ih (n / 10) (by omega)]
      show rdN [UInt8.ofNat (48 + n % 10)] (n / 10) = some n
      unfold rdN
      rw [dgt_of (n % 10) (by omega)]
      show some (n / 10 * 10 + n % 10) = some n
      congr 1; omega
theorem dec_ne (n : Nat) : Lib.decDigits n ≠ [] := fun h => by
  have := congrArg List.length h
  rw [Lib.decDigits_length] at this
  have := Lib.nDigits_pos n
  simp at *; omega
theorem rd10_dec (n : Nat) : rd10 (Lib.decDigits n) = some n := by unfold rd10; rw [if_neg (dec_ne n), rdN_dec]
theorem rdN_lt : ∀ (l : List UInt8) (v w k : Nat), rdN l v = some w → v < 10 ^ k → w < 10 ^ (k + l.length)
  | [], v, w, k, h, hv => by cases h; exact hv
  | c :: l, v, w, k, h, hv => by
    unfold rdN at h
    cases hd : dgt c with
    | none => rw [hd] at h; cases h
    | some d =>
      rw [hd] at h
      have := dgt_lt hd
      have := rdN_lt l (v * 10 + d) w (k + 1) h (by rw [Nat.pow_succ]; omega)
      rw [List.length_cons]
      rwa [show k + (l.length + 1) = k + 1 + l.length by omega]
theorem rd10_lt {l : List UInt8} {w : Nat} (h : rd10 l = some w) : w < 10 ^ l.length := by
  unfold rd10 at h; split at h
  · cases h
  · have := rdN_lt l 0 w 0 h (by decide); simpa using this
/-! a limb's multiple -/
theorem mulSmall_loop (a : List Int) (p : Int) (ha : Dig (4294967296 : Int) a) (hp : 0 ≤ p ∧ p < (4294967296 : Int)) (hl : a.length ≤ 1000000000) (s : Int) : ∀ (k i : Nat) (c : Int) (D : List Int), i + k = a.length → D.length = i → Dig (4294967296 : Int) D → (0 ≤ c ∧ c < (4294967296 : Int)) → dv (4294967296 : Int) D + (4294967296 : Int) ^ i * c = dv (4294967296 : Int) (a.take i) * p + s →
    ∃ c' D', lp (m_mul_Small_l1 a p) (c, (i : Int), D ++ List.replicate (k + 1) 0) = some (c', D' ++ [0]) ∧ Dig (4294967296 : Int) D' ∧ D'.length = a.length ∧ (0 ≤ c' ∧ c' < (4294967296 : Int)) ∧ dv (4294967296 : Int) D' + (4294967296 : Int) ^ a.length * c' = dv (4294967296 : Int) a * p + s
  | 0, i, c, D, hk, hi, hD, hc, hv => by
    obtain rfl : i = a.length := by omega
    exact ⟨c, D, lp_done (by simp [m_mul_Small_l1]), hD, hi, hc, by rw [hv, List.take_length]⟩
  | k + 1, i, c, D, hk, hi, hD, hc, hv => by
    have ga := gI_dig ha (by decide) (i : Int)
    obtain ⟨s0, s1⟩ := mul_bound ga hp hc (d := 0) ⟨Int.le_refl _, by decide⟩
    have a8 := limbMul_eq (gI a (i : Int)) p c 0 ga hp hc ⟨Int.le_refl _, by decide⟩
    generalize hx : gI a (i : Int) * p + c + 0 = x at *
    have hx0 : 0 ≤ x := by omega
    have hq : x / (4294967296 : Int) < (4294967296 : Int) := Int.ediv_lt_of_lt_mul (by decide) s1
    have a1 : decide ((i : Int) < (a.length : Int)) = true := decide_eq_true (by omega)
    have a2 : rd a (i : Int) = some (gI a (i : Int)) := rd_I (by omega) (by omega)
    have a5 : wi64 ((i : Int) + 1) = ((i + 1 : Nat) : Int) := by rw [wi64_eq (by omega) (by omega)]; omega
    have a6 : ix (D ++ List.replicate (k + 2) 0) (i : Int) = some i := ix_nat (by simp; omega)
    have a7 : (D ++ List.replicate (k + 2) 0).set i (x % (4294967296 : Int)) = (D ++ [x % (4294967296 : Int)]) ++ List.replicate (k + 1) 0 := by
      rw [show List.replicate (k + 2) (0 : Int) = 0 :: List.replicate (k + 1) 0 from rfl, ← hi, set_at]
    have e1 : m_mul_Small_l1 a p (c, (i : Int), D ++ List.replicate (k + 2) 0) = some (.inl (x / (4294967296 : Int), ((i + 1 : Nat) : Int), (D ++ [x % (4294967296 : Int)]) ++ List.replicate (k + 1) 0)) := by
      simp only [m_mul_Small_l1, a1, if_true, a2, bd_some, a8, a6, lt_eq, a7, a5]
    obtain ⟨c', D', r1, r2⟩ := mulSmall_loop a p ha hp hl s k (i + 1) (x / (4294967296 : Int)) (D ++ [x % (4294967296 : Int)]) (by omega) (by simp [hi]) (hD.snoc ⟨by omega, by omega⟩) ⟨Int.ediv_nonneg hx0 (by decide), hq⟩ (by
      rw [dv_snoc, take_gI', hi, Int.pow_succ]
      have := Int.mul_ediv_add_emod x (4294967296 : Int)
      clear e1 a7 a6 a8
      generalize (4294967296 : Int) ^ i = P at *
      generalize gI a (i : Int) = g1 at *
      generalize dv (4294967296 : Int) (List.take i a) = T at *
      generalize dv (4294967296 : Int) D = DD at *
      generalize x / (4294967296 : Int) = q at *
      generalize x % (4294967296 : Int) = r at *
      have hr : r = g1 * p + c - (4294967296 : Int) * q := by omega
      subst hr
      grind)
    exact ⟨c', D', by rw [lp_more e1]; exact r1, r2⟩
theorem mulSmall_eq (x p s : Int) (hx : 0 ≤ x) (hp : 0 ≤ p ∧ p < (4294967296 : Int)) (hs : 0 ≤ s ∧ s < (4294967296 : Int)) (hl : (nl x).length ≤ 1000000000) : m_mul_Small (nl x) p s = some (nl (x * p + s)) := by
  obtain ⟨c', D', r1, r2, r3, r4, r5⟩ := mulSmall_loop (nl x) p (nl_can x).1 hp hl s (nl x).length 0 s [] (by omega) rfl (Dig.nil _) hs (by simp [dv])
  have r1' : lp (m_mul_Small_l1 (nl x) p) (s, 0, List.replicate ((nl x).length + 1) 0) = some (c', D' ++ [0]) := r1
  have e1 : wi64 (((nl x).length : Int) + 1) = (((nl x).length + 1 : Nat) : Int) := by rw [wi64_eq (by omega) (by omega)]; omega
  unfold m_mul_Small
  rw [e1, mk_of (by omega), bd_some, limbAdd_eq s 0 0 hs ⟨by decide, by decide⟩ ⟨by decide, by decide⟩, bd_some]
  dsimp only
  rw [Int.toNat_natCast, show (s + 0 + 0) % (4294967296 : Int) = s by omega, r1', bd_some]
  dsimp only
  rw [ix_nat (by simp [r3]), bd_some, lt_eq, ← r3, set_at, List.append_nil, made_eq _ (r2.snoc r4) (by simp; omega), bd_some, dv_snoc, r3, r5, nl_dv hx]
/-! read by the program -/
theorem value_all : (List.range 128).all (fun n => match m_digits_value (n : Int) 10 with | some (x, b) => (b == (dgt (UInt8.ofNat n)).isSome) && (match dgt (UInt8.ofNat n) with | some d => x == (d : Int) | none => true) | none => false) = true := by kernel_rfl
theorem value_low (c : UInt8) (hc : c.toNat < 128) : ∃ x, m_digits_value (c.toNat : Int) 10 = some (x, (dgt c).isSome) ∧ ∀ d, dgt c = some d → x = (d : Int) := by
  have h := (List.all_eq_true.1 value_all) c.toNat (List.mem_range.2 hc)
  rw [UInt8.ofNat_toNat] at h
  cases hv : m_digits_value (c.toNat : Int) 10 with
  | none => rw [hv] at h; cases h
  | some y =>
    obtain ⟨x, b⟩ := y
    rw [hv] at h
    simp only [Bool.and_eq_true, beq_iff_eq] at h
    refine ⟨x, by rw [h.1], fun d hd => ?_⟩
    have h2 := h.2
    rw [hd] at h2
    exact eq_of_beq h2
theorem value_high (r : Int) (h : 128 ≤ r) : ∃ x, m_digits_value r 10 = some (x, false) := by
  unfold m_digits_value m_strings_IndexByte m_internal_stringslite_IndexByte
  rw [bd_some, bd_some, if_neg (by simpa using h)]
  exact ⟨_, rfl⟩
theorem from_loop (l : List UInt8) (hl : l.length ≤ 1000000) : ∀ (r : List UInt8) (i : Nat) (A : Int) (p s : Int), l.drop i = r → i ≤ l.length → 0 ≤ A → (nl A).length ≤ i → (1 ≤ p ∧ p < (4294967296 : Int)) → (0 ≤ s ∧ s < p) → ∀ V : Nat, A * p + s = V →
    lp (m_digits_From_l1 (bs l) 10) (nl A, p, s, i) = some (match rdN r V with | some v => (nl (v : Int), 0) | none => ([], 5))
  | [], i, A, p, s, hr, hi, hA, hA2, hp, hs, V, hV => by
    have hi2 : i = l.length := by
      have := congrArg List.length hr
      simp at this; omega
    refine lp_done ?_
    have e1 : decide (i < (bs l).size) = false := decide_eq_false (by rw [bs_size]; omega)
    have e2 := mulSmall_eq A p s hA ⟨by omega, hp.2⟩ ⟨hs.1, by omega⟩ (by omega)
    simp only [m_digits_From_l1, e1, e2, bd_some, hV, rdN]
    rfl
  | c :: r, i, A, p, s, hr, hi, hA, hA2, hp, hs, V, hV => by
    have hlt := drop_lt hr
    have e1 : decide (i < (bs l).size) = true := decide_eq_true (by rw [bs_size]; exact hlt)
    have w10 : wu64 10 = 10 := rfl
    by_cases hc : c.toNat < 128
    · obtain ⟨d1, d2⟩ := dc_low l i c r hr hc
      obtain ⟨x, hx, hx2⟩ := value_low c hc
      cases hd : dgt c with
      | none =>
        rw [hd] at hx
        refine lp_done ?_
        simp only [m_digits_From_l1, e1, if_true, d1, hx, bd_some, Option.isSome_none, Bool.not_false, rdN, hd]
      | some d =>
        have hxd := hx2 d hd
        have hd10 := dgt_lt hd
        rw [hd, hxd] at hx
        have e2 : wu64 (p * 10) = p * 10 := wu64_eq (by omega) (by omega)
        by_cases hbig : (4294967296 : Int) ≤ p * 10
        · have e3 := mulSmall_eq A p s hA ⟨by omega, hp.2⟩ ⟨hs.1, by omega⟩ (by omega)
          have e4 : wu64 (1 * 10) = 10 := rfl
          have e5 : wu64 (0 * 10) = 0 := rfl
          have e6 : wu64 (0 + (d : Int)) = (d : Int) := by rw [wu64_eq (by omega) (by omega)]; omega
          have st : m_digits_From_l1 (bs l) 10 (nl A, p, s, i) = some (.inl (nl (A * p + s), 10, (d : Int), i + 1)) := by
            simp only [m_digits_From_l1, e1, if_true, d1, hx, bd_some, Option.isSome_some, Bool.not_true, if_false, Bool.false_eq_true, w10, e2, decide_eq_true hbig, e3, d2, e4, e5, lt_eq, e6]
          rw [lp_more st]
          have hAp : 0 ≤ A * p := Int.mul_nonneg hA (by omega)
          have := from_loop l hl r (i + 1) (A * p + s) 10 (d : Int) (drop_more hr) (by omega) (by omega) (by
            refine nl_len (by omega) ?_
            have h1 := Int.lt_of_lt_of_le (lt_pow_len hA) (pow_mono (show (0 : Int) < (4294967296 : Int) by decide) hA2)
            have h2 : A * p ≤ ((4294967296 : Int) ^ i - 1) * p := Int.mul_le_mul_of_nonneg_right (by omega) (by omega)
            have h3 : ((4294967296 : Int) ^ i - 1) * p = (4294967296 : Int) ^ i * p - p := by rw [Int.sub_mul, Int.one_mul]
            have h4 : (4294967296 : Int) ^ i * p ≤ (4294967296 : Int) ^ i * (4294967296 : Int) := Int.mul_le_mul_of_nonneg_left (by omega) (Int.le_of_lt (pow_pos' (by decide) i))
            rw [Int.pow_succ]; omega) ⟨by decide, by decide⟩ ⟨by omega, by omega⟩ (V * 10 + d) (by push_cast; omega)
          rw [this]
          simp only [rdN, hd]
        · have e5 : wu64 (s * 10) = s * 10 := wu64_eq (by omega) (by omega)
          have e6 : wu64 (s * 10 + (d : Int)) = s * 10 + (d : Int) := wu64_eq (by omega) (by omega)
          have st : m_digits_From_l1 (bs l) 10 (nl A, p, s, i) = some (.inl (nl A, p * 10, s * 10 + (d : Int), i + 1)) := by
            simp only [m_digits_From_l1, e1, if_true, d1, hx, bd_some, Option.isSome_some, Bool.not_true, if_false, Bool.false_eq_true, w10, e2, decide_eq_false hbig, d2, lt_eq, e5, e6]
          rw [lp_more st]
          have := from_loop l hl r (i + 1) A (p * 10) (s * 10 + (d : Int)) (drop_more hr) (by omega) hA (by omega) ⟨by omega, by omega⟩ ⟨by omega, by omega⟩ (V * 10 + d) (by
            push_cast
            rw [← Int.mul_assoc]
            omega)
          rw [this]
          simp only [rdN, hd]
    · have hh := dc_high l i c r hr (by omega)
      obtain ⟨x, hx⟩ := value_high _ hh
      have hd : dgt c = none := by unfold dgt; rw [if_neg (by omega)]
      refine lp_done ?_
      simp only [m_digits_From_l1, e1, if_true, hx, bd_some, Bool.not_false, rdN, hd]
/-- how a number that is read is told -/
def tld (o : Option Nat) : List Int × Int := match o with | some v => (nl (v : Int), 0) | none => ([], 5)
theorem digFrom_eq (l : List UInt8) (hl : l.length ≤ 1000000) : m_digits_From (bs l) 10 = some (tld (rd10 l)) := by
  have hb : m_digits_based 10 = some 0 := rfl
  unfold m_digits_From
  rw [hb, bd_some, if_neg (by decide)]
  by_cases h : l = []
  · subst h
    rw [if_pos (sq_self _)]; rfl
  · have : sq (bs l) (bs []) = false := by rw [sq_bs]; exact decide_eq_false h
    rw [this, if_neg (by decide)]
    have := from_loop l hl l 0 0 1 0 rfl (by omega) (Int.le_refl _) (by rw [nl_zero]; exact Nat.le_refl _) ⟨by decide, by decide⟩ ⟨by decide, by decide⟩ 0 (by decide)
    rw [nl_zero] at this
    rw [this]
    unfold rd10 tld
    rw [if_neg h]
theorem parseD_eq (l : List UInt8) (hl : l.length ≤ 1000000) : m_digits_Parse (bs l) = some (tld (rd10 l)) := by
  unfold m_digits_Parse
  rw [digFrom_eq l hl, bd_some]
end Go.Proofs.YtihaljbhcnflfaaDoor.AP
/- The document's numbers and fractions, as printed: added, multiplied. -/
namespace Go.Proofs.YtihaljbhcnflfaaDoor.AP
open Go Go.Proofs.YtihaljbhcnflfaaDoor.Tri
set_option linter.unusedVariables false
set_option linter.unusedSimpArgs false
theorem gI_out {a : List Int} {i : Nat} (h : a.length ≤ i) : gI a (i : Int) = 0 := by unfold gI; rw [List.getD_eq_getElem?_getD, List.getElem?_eq_none (by omega)]; rfl
theorem plus_at (a : List Int) (ha : Dig (10000 : Int) a) (i : Nat) (c : Int) (h0 : 0 ≤ c) (h1 : c ≤ 20000) (hl : a.length ≤ 1000000000000) :
    (if decide ((i : Int) < (a.length : Int)) = true then (bd (rd a (i : Int)) fun x => some (wi64 (c + x))) else some c) = some (c + gI a (i : Int)) := by
  have g := gI_dig ha (by decide) (i : Int)
  by_cases h : i < a.length
  · rw [if_pos (decide_eq_true (by omega)), rd_I (by omega) (by omega), bd_some, wi64_eq (by omega) (by omega)]
  · rw [if_neg (by simp; omega), gI_out (by omega), Int.add_zero]
end Go.Proofs.YtihaljbhcnflfaaDoor.AP
/- The document's fractions, as printed. -/
namespace Go.Proofs.YtihaljbhcnflfaaDoor.AP
open Go Go.Proofs.YtihaljbhcnflfaaDoor.Tri
set_option linter.unusedVariables false
set_option linter.unusedSimpArgs false
/-- of at most n digits -/
def Sm (n : Nat) (x : Int) : Prop := (x.natAbs : Int) < (10000 : Int) ^ n
theorem Sm.len {n : Nat} {x : Int} (h : Sm n x) : (zl (x.natAbs : Int)).length ≤ n := zl_len (by omega) h
theorem Sm.len' {n : Nat} {x : Int} (h : Sm n x) (h0 : 0 ≤ x) : (zl x).length ≤ n := by
  have := h.len; rwa [show ((x.natAbs : Nat) : Int) = x by omega] at this
theorem Sm.mono {n m : Nat} {x : Int} (h : Sm n x) (k : n ≤ m) : Sm m x := Int.lt_of_lt_of_le h (pow_mono (by decide) k)
theorem Sm.neg {n : Nat} {x : Int} (h : Sm n x) : Sm n (-x) := by unfold Sm; rw [Int.natAbs_neg]; exact h
theorem Sm.mul {n m : Nat} {x y : Int} (h : Sm n x) (k : Sm m y) : Sm (n + m) (x * y) := by
  unfold Sm at *
  rw [Int.natAbs_mul, Int.natCast_mul, Int.pow_add]
  have h1 : (x.natAbs : Int) * (y.natAbs : Int) ≤ (x.natAbs : Int) * (10000 : Int) ^ m := Int.mul_le_mul_of_nonneg_left (Int.le_of_lt k) (by omega)
  have h2 : (x.natAbs : Int) * (10000 : Int) ^ m < (10000 : Int) ^ n * (10000 : Int) ^ m := Int.mul_lt_mul_of_pos_right h (pow_pos' (by decide) m)
  omega
theorem Sm.add {n : Nat} {x y : Int} (h : Sm n x) (k : Sm n y) : Sm (n + 1) (x + y) := by
  unfold Sm at *
  have : (x + y).natAbs ≤ x.natAbs + y.natAbs := Int.natAbs_add_le x y
  rw [Int.pow_succ]
  have := pow_pos' (B := (10000 : Int)) (by decide) n
  omega
theorem Sm.limb {x : Int} {n : Nat} (h : (x.natAbs : Int) < (4294967296 : Int) ^ n) : Sm (3 * n) x := Int.lt_of_lt_of_le h (lb_zb n)
theorem sameR_refl (a : List Int) (hl : a.length ≤ 4611686018427387904) : m_triviumref02_Same a a = some true := by
  have key : ∀ (k i : Nat), i + k = a.length → lp (m_triviumref02_Same_l1 a a) (i : Int) = some true := by
    intro k
    induction k with
    | zero =>
      intro i hk
      obtain rfl : i = a.length := by omega
      exact lp_done (by simp [m_triviumref02_Same_l1])
    | succ k ih =>
      intro i hk
      have e1 : decide ((i : Int) < (a.length : Int)) = true := decide_eq_true (by omega)
      have e2 : rd a (i : Int) = some (gI a (i : Int)) := rd_I (by omega) (by omega)
      have e4 : wi64 ((i : Int) + 1) = ((i + 1 : Nat) : Int) := by rw [wi64_eq (by omega) (by omega)]; omega
      rw [lp_more (s' := ((i + 1 : Nat) : Int)) (by simp only [m_triviumref02_Same_l1, e1, if_true, e2, bd_some, e4]; simp)]
      exact ih (i + 1) (by omega)
  unfold m_triviumref02_Same
  rw [if_neg (by simp)]
  exact key a.length 0 (by omega)
theorem sign_mul (a b : Int) : (if (!(decide (a < 0) == decide (b < 0))) = true then -((a.natAbs : Int) * (b.natAbs : Int)) else (a.natAbs : Int) * (b.natAbs : Int)) = a * b := by
  rcases Int.lt_or_le a 0 with h | h <;> rcases Int.lt_or_le b 0 with k | k
  · obtain ⟨x, rfl⟩ : ∃ x : Int, a = -x := ⟨-a, by omega⟩
    obtain ⟨y, rfl⟩ : ∃ y : Int, b = -y := ⟨-b, by omega⟩
    rw [if_neg (by rw [decide_eq_true h, decide_eq_true k]; decide), show (((-x).natAbs : Nat) : Int) = x by omega, show (((-y).natAbs : Nat) : Int) = y by omega]; grind
  · obtain ⟨x, rfl⟩ : ∃ x : Int, a = -x := ⟨-a, by omega⟩
    rw [if_pos (by simp [h]; omega), show (((-x).natAbs : Nat) : Int) = x by omega, show ((b.natAbs : Nat) : Int) = b by omega]; grind
  · obtain ⟨y, rfl⟩ : ∃ y : Int, b = -y := ⟨-b, by omega⟩
    rw [if_pos (by simp [k]; omega), show (((-y).natAbs : Nat) : Int) = y by omega, show ((a.natAbs : Nat) : Int) = a by omega]; grind
  · have h' : ¬ a < 0 := by omega
    have k' : ¬ b < 0 := by omega
    rw [if_neg (by simp [h', k']), show ((a.natAbs : Nat) : Int) = a by omega, show ((b.natAbs : Nat) : Int) = b by omega]
theorem ref08Low_sg (a b : Int) (hb : 0 < b) : sg (a / Int.gcd a b) = sg a := by
  have hg : 0 < (Int.gcd a b : Int) := by
    have := Int.gcd_pos_of_ne_zero_right a (show b ≠ 0 by omega); omega
  have hd : (Int.gcd a b : Int) ∣ a := Int.gcd_dvd_left a b
  generalize (Int.gcd a b : Int) = g at *
  obtain ⟨q, rfl⟩ := hd
  rw [Int.mul_ediv_cancel_left q (by omega)]
  have e3 : (g * q < 0) ↔ (q < 0) := by
    constructor
    · intro h; apply Int.lt_of_not_ge; intro h2; have := Int.mul_nonneg (Int.le_of_lt hg) h2; omega
    · intro h; exact Int.mul_neg_of_pos_of_neg hg h
  have e4 : (0 < g * q) ↔ (0 < q) := by
    constructor
    · intro h; apply Int.lt_of_not_ge; intro h2; have := Int.mul_nonneg (Int.le_of_lt hg) (show 0 ≤ -q by omega); rw [Int.mul_neg] at this; omega
    · intro h; exact Int.mul_pos hg h
  unfold sg
  simp only [e3, e4]
end Go.Proofs.YtihaljbhcnflfaaDoor.AP
/- The program's fractions, as printed: parts of a limb. -/
namespace Go.Proofs.YtihaljbhcnflfaaDoor.AP
open Go Go.Proofs.YtihaljbhcnflfaaDoor.Tri
set_option linter.unusedVariables false
set_option linter.unusedSimpArgs false
theorem wMade_eq (b : Bool) (x : Int) (h : 0 ≤ x) (hl : (nl x).length ≤ 10000000000000) : m_whole_Made b (nl x) = some (zI (if b then -x else x)) := by
  unfold m_whole_Made zI
  rw [make_nl x hl, bd_some]
  dsimp only
  cases b with
  | true => rw [if_pos rfl, if_pos rfl, neg_or_nil h, show (((-x).natAbs : Nat) : Int) = x by omega]; congr 2; rw [decide_eq_decide]; omega
  | false => rw [if_neg (by decide), if_neg (by decide), decide_eq_false (by omega), show ((x.natAbs : Nat) : Int) = x by omega]
/-- of at most n limbs -/
def Lm (n : Nat) (x : Int) : Prop := (x.natAbs : Int) < (4294967296 : Int) ^ n
theorem Lm.len {n : Nat} {x : Int} (h : Lm n x) : (nl (x.natAbs : Int)).length ≤ n := nl_len (by omega) h
theorem Lm.len' {n : Nat} {x : Int} (h : Lm n x) (h0 : 0 ≤ x) : (nl x).length ≤ n := by
  have := h.len; rwa [show ((x.natAbs : Nat) : Int) = x by omega] at this
theorem Lm.mul {n m : Nat} {x y : Int} (h : Lm n x) (k : Lm m y) : Lm (n + m) (x * y) := by
  unfold Lm at *
  rw [Int.natAbs_mul, Int.natCast_mul, Int.pow_add]
  have h1 : (x.natAbs : Int) * (y.natAbs : Int) ≤ (x.natAbs : Int) * (4294967296 : Int) ^ m := Int.mul_le_mul_of_nonneg_left (Int.le_of_lt k) (by omega)
  have h2 : (x.natAbs : Int) * (4294967296 : Int) ^ m < (4294967296 : Int) ^ n * (4294967296 : Int) ^ m := Int.mul_lt_mul_of_pos_right h (pow_pos' (by decide) m)
  omega
end Go.Proofs.YtihaljbhcnflfaaDoor.AP
/- Products of any length; whole numbers of any length: add, take off, multiply; the document's ones. -/
namespace Go.Proofs.YtihaljbhcnflfaaDoor.AP
open Go Go.Proofs.YtihaljbhcnflfaaDoor.Tri
set_option linter.unusedVariables false
set_option linter.unusedSimpArgs false
theorem Lm.neg {n : Nat} {x : Int} (h : Lm n x) : Lm n (-x) := by unfold Lm; rw [Int.natAbs_neg]; exact h
theorem Lm.add {n : Nat} {x y : Int} (h : Lm n x) (k : Lm n y) : Lm (n + 1) (x + y) := by
  unfold Lm at *
  have := pow_pos' (show (0 : Int) < (4294967296 : Int) by decide) n
  rw [Int.pow_succ]; omega
theorem Lm.mono {n m : Nat} {x : Int} (h : Lm n x) (k : n ≤ m) : Lm m x := Int.lt_of_lt_of_le h (pow_mono (by decide) k)
theorem same07 (z : Int) (hl : (nl (z.natAbs : Int)).length ≤ 4611686018427387904) : m_triviumref07_Same (zI z) (zI z) = some true := by
  unfold m_triviumref07_Same
  rw [if_pos (by simp)]
  show bd (m_triviumref02_Same (nl (z.natAbs : Int)) (nl (z.natAbs : Int))) _ = _
  rw [sameR_refl _ hl]; rfl
end Go.Proofs.YtihaljbhcnflfaaDoor.AP
/- WholeAdds: the chapter's example; the plain law. -/
namespace Go.Proofs.YtihaljbhcnflfaaDoor.AP
open Go Go.Proofs.YtihaljbhcnflfaaDoor.Tri
set_option linter.unusedVariables false
set_option linter.unusedSimpArgs false
theorem wOf2 : m_whole_Of 2 = some (zI 2) := by
  unfold m_whole_Of
  rw [if_neg (by decide)]
  show bd (m_nat_Of 2) _ = _
  rw [natOf_eq 2 (by decide) (by decide), bd_some, wMade_eq false 2 (by decide) (by have := nl_len (x := 2) (n := 1) (by decide) (by decide); omega), bd_some]; rfl
theorem wOf7 : m_whole_Of (-7) = some (zI (-7)) := by
  unfold m_whole_Of
  rw [if_pos (by decide)]
  show bd (m_nat_Of 6) _ = _
  have l6 := nl_len (x := 6) (n := 1) (by decide) (by decide)
  have l1 := nl_len (x := 1) (n := 1) (by decide) (by decide)
  have l7 := nl_len (x := 6 + 1) (n := 1) (by decide) (by decide)
  rw [natOf_eq 6 (by decide) (by decide), bd_some, natOf_eq 1 (by decide) (by decide), bd_some, addN_eq 6 1 (by decide) (by decide) (by omega) (by omega), bd_some, wMade_eq true (6 + 1) (by decide) (by omega), bd_some]; rfl
theorem works07 : m_triviumlaw07_works = some true := by
  have l7 := nl_len (x := 7) (n := 1) (by decide) (by decide)
  have l3 := nl_len (x := 3) (n := 1) (by decide) (by decide)
  have l1 := nl_len (x := 1) (n := 1) (by decide) (by decide)
  have l2 := nl_len (x := 2) (n := 1) (by decide) (by decide)
  have l4 := nl_len (x := 4) (n := 1) (by decide) (by decide)
  have z4 := zl_len (x := 4) (n := 1) (by decide) (by decide)
  have z1 := zl_len (x := 1) (n := 1) (by decide) (by decide)
  have hF : m_whole_Floor (zI (-7)) (zI 2) = some (zI (-4), zI 1, 0) := by
    unfold m_whole_Floor
    show bd (m_divide_Div (nl 7) (nl 2)) _ = _
    have hd := div1_eq 7 2 (by decide) (by decide) (by decide) (by omega)
    rw [show (7 : Int) / 2 = 3 from rfl, show (7 : Int) % 2 = 1 from rfl] at hd
    rw [hd, bd_some]
    dsimp only
    have n1 : nl 1 = [1] := nl_one (by decide) (by decide)
    rw [if_neg (by decide)]
    show bd (bd (bd (some (decide (0 < ((nl 1).length : Int)))) _) _) _ = _
    rw [n1]
    show bd (bd (m_nat_Of 1) _) _ = _
    rw [natOf_eq 1 (by decide) (by decide), bd_some, addN_eq 3 1 (by decide) (by decide) (by omega) (by omega), bd_some]
    show bd (bd (m_nat_Sub (nl 2) [1]) _) _ = _
    rw [← n1, subN_eq 2 1 (by decide) (by decide) (by omega), bd_some, bd_some]
    show bd (m_whole_Made true (nl (3 + 1))) _ = _
    rw [wMade_eq true (3 + 1) (by decide) (by rw [show (3 : Int) + 1 = 4 from rfl]; omega), bd_some]
    show bd (m_whole_Made false (nl (2 - 1))) _ = _
    rw [wMade_eq false (2 - 1) (by decide) (by rw [show (2 : Int) - 1 = 1 from rfl]; omega), bd_some]; rfl
  have p4 := wholePrint_eq (-4) (by show (zl 4).length ≤ _; omega)
  have p1 := wholePrint_eq 1 (by show (zl 1).length ≤ _; omega)
  unfold m_triviumlaw07_works
  rw [wOf7, bd_some, wOf2, bd_some, hF, bd_some]
  dsimp only
  rw [if_pos (by decide)]
  show bd (m_whole_Print (zI (-4))) _ = _
  rw [p4, bd_some, show zsL (-4) = [45, 52] from congrArg (45 :: ·) (Lib.decDigits_one (i := 4) (by decide)), sq_self, if_pos rfl]
  show bd (m_whole_Print (zI 1)) _ = _
  rw [p1, bd_some, show zsL 1 = [49] from Lib.decDigits_one (i := 1) (by decide), sq_self]
theorem cleanZ_Lm (p : D_api_Int) (n : Nat) : Lm n (cleanZ p n) := by unfold Lm; rw [cleanZ_abs]; exact cleanV_lt _ _
end Go.Proofs.YtihaljbhcnflfaaDoor.AP
namespace Go.Proofs.YtihaljbhcnflfaaDoor.Pure
open Go Go.Proofs.YtihaljbhcnflfaaDoor.AP Go.Proofs.YtihaljbhcnflfaaDoor.AE
theorem u64lim {l : List Int} (h : Ty.ok (.sl (.int .u64)) l) : Limbs l := fun x hx => by
  obtain ⟨i, hi⟩ := List.getElem?_of_mem hx
  have h : (decide (IntKind.u64.min ≤ x) && decide (x ≤ IntKind.u64.max)) = true := h.2 i x hi
  rw [Bool.and_eq_true, decide_eq_true_eq, decide_eq_true_eq] at h
  exact ⟨h.1, Int.lt_add_one_of_le h.2⟩
end Go.Proofs.YtihaljbhcnflfaaDoor.Pure
/- Whole numbers read; the plain law of texts. -/
namespace Go.Proofs.YtihaljbhcnflfaaDoor.AP
open Go Go.Proofs.YtihaljbhcnflfaaDoor.Tri
set_option linter.unusedVariables false
set_option linter.unusedSimpArgs false
set_option maxRecDepth 4000
theorem sq_bs' (a b : List UInt8) : sq (bs a) (bs b) = decide (a = b) := sq_bs
theorem cutMinus (l : List UInt8) (hl : l.length ≤ 1000000) : m_strings_CutPrefix (bs l) (bs [45]) = some (match l with | c :: r => if c = 45 then (bs r, true) else (bs l, false) | [] => (bs [], false)) := by
  unfold m_strings_CutPrefix m_internal_stringslite_CutPrefix m_internal_stringslite_HasPrefix
  cases l with
  | nil => rfl
  | cons c r =>
    have e1 : cs (bs (c :: r)) 0 (((bs [45]).size : Nat) : Int) = some (bs [c]) := cs_bs (c :: r) 0 1 (by omega) (by simp)
    have e2 : cs (bs (c :: r)) (((bs [45]).size : Nat) : Int) (((bs (c :: r)).size : Nat) : Int) = some (bs r) := by
      have := cs_bs (c :: r) 1 (c :: r).length (by simp) (Nat.le_refl _)
      rw [List.take_length] at this
      exact this
    rw [if_pos (decide_eq_true (by rw [bs_size, bs_size]; simp only [List.length_cons, List.length_nil]; omega)), e1, bd_some, bd_some, sq_bs]
    by_cases hc : c = 45
    · rw [decide_eq_true (by rw [hc])]
      rw [if_neg (by decide), e2, bd_some, bd_some]
      simp only [hc, if_true]
    · rw [decide_eq_false (by intro h; exact hc (List.cons.inj h).1)]
      rw [if_pos (by decide), bd_some]
      simp only [if_neg hc]
/-- a text's sign, and what is left -/
def sgnL (l : List UInt8) : List UInt8 × Bool := match l with | c :: r => if c = 45 then (r, true) else (l, false) | [] => ([], false)
theorem cutMinus' (l : List UInt8) (hl : l.length ≤ 1000000) : m_strings_CutPrefix (bs l) (bs [45]) = some (bs (sgnL l).1, (sgnL l).2) := by
  rw [cutMinus l hl]
  cases l with
  | nil => rfl
  | cons c r =>
    unfold sgnL
    by_cases hc : c = 45
    · simp only [if_pos hc]
    · simp only [if_neg hc]
theorem sgnL_len (l : List UInt8) : (sgnL l).1.length ≤ l.length := by
  unfold sgnL
  split
  · split
    · simp
    · exact Nat.le_refl _
  · exact Nat.le_refl _
theorem nl_pow10 {v n : Nat} (h : v < 10 ^ n) : (nl (v : Int)).length ≤ n := by
  refine nl_len (by omega) ?_
  have h1 : ((v : Nat) : Int) < ((10 ^ n : Nat) : Int) := by omega
  have h2 : ((10 ^ n : Nat) : Int) = (10 : Int) ^ n := by push_cast; rfl
  have h3 : (10 : Int) ^ n ≤ (4294967296 : Int) ^ n := pow_le (by decide) (by decide) n
  omega
/-- what a whole number's text says -/
def wrd (l : List UInt8) : D_api_Int × Int := match rd10 (sgnL l).1 with
  | some v => (zI (if (sgnL l).2 then -(v : Int) else (v : Int)), 0)
  | none => ((false, []), 5)
theorem wParse_eq (l : List UInt8) (hl : l.length ≤ 1000000) : m_whole_Parse (bs l) = some (wrd l) := by
  have h1 := sgnL_len l
  unfold m_whole_Parse
  rw [cutMinus' l hl, bd_some]
  dsimp only
  rw [parseD_eq _ (by omega), bd_some]
  unfold wrd
  cases hr : rd10 (sgnL l).1 with
  | none => rfl
  | some v =>
    have h2 := nl_pow10 (rd10_lt hr)
    show bd (m_whole_Made (sgnL l).2 (nl (v : Int))) _ = _
    rw [wMade_eq _ _ (by omega) (by omega), bd_some]
    rfl
/-! read by the document -/
theorem digit_all : (List.range 256).all (fun n => decide (m_triviumref06_digit (n : Int) 10 = some (match dgt (UInt8.ofNat n) with | some d => (d : Int) | none => -1))) = true := by kernel_rfl
theorem digit_eq (c : UInt8) : m_triviumref06_digit (c.toNat : Int) 10 = some (match dgt c with | some d => (d : Int) | none => -1) := by
  have h := (List.all_eq_true.1 digit_all) c.toNat (List.mem_range.2 c.toNat_lt)
  rw [decide_eq_true_eq, UInt8.ofNat_toNat] at h
  exact h
theorem zl_pow10 {v n : Nat} (h : v < 10 ^ n) : (zl (v : Int)).length ≤ n := by
  refine zl_len (by omega) ?_
  have h1 : ((v : Nat) : Int) < ((10 ^ n : Nat) : Int) := by omega
  have h2 : ((10 ^ n : Nat) : Int) = (10 : Int) ^ n := by push_cast; rfl
  have h3 : (10 : Int) ^ n ≤ (10000 : Int) ^ n := pow_le (by decide) (by decide) n
  omega
theorem refFrom_loop (l : List UInt8) (hl : l.length ≤ 1000000) : ∀ (r : List UInt8) (i V : Nat), l.drop i = r → i ≤ l.length → V < 10 ^ i → lp (m_triviumref06_From_l1 (bs l) 10) (zl (V : Int), (i : Int)) = some (tld (rdN r V))
  | [], i, V, hr, hi, hV => by
    have hi2 : i = l.length := by
      have := congrArg List.length hr
      simp at this; omega
    have h1 := zl_pow10 hV
    refine lp_done ?_
    have e1 : decide ((i : Int) < (((bs l).size : Nat) : Int)) = false := decide_eq_false (by rw [bs_size]; omega)
    simp only [m_triviumref06_From_l1, e1, refBack_eq (V : Int) (by omega) (by omega), bd_some, rdN, tld]
    rfl
  | c :: r, i, V, hr, hi, hV => by
    have hlt := drop_lt hr
    have h1 := zl_pow10 hV
    have e1 : decide ((i : Int) < (((bs l).size : Nat) : Int)) = true := decide_eq_true (by rw [bs_size]; omega)
    have e2 := bt_at l i c r hr
    have e3 := digit_eq c
    cases hd : dgt c with
    | none =>
      rw [hd] at e3
      refine lp_done ?_
      simp only [m_triviumref06_From_l1, e1, if_true, e2, e3, bd_some, rdN, hd, tld]
      rfl
    | some d =>
      rw [hd] at e3
      have hd10 := dgt_lt hd
      have e4 : decide ((d : Int) < 0) = false := decide_eq_false (by omega)
      have e5 := mulAdd_eq (V : Int) 10 (d : Int) (by omega) (by decide) (by decide) (by omega) (by omega) (by omega)
      have e6 : wi64 ((i : Int) + 1) = ((i + 1 : Nat) : Int) := by rw [wi64_eq (by omega) (by omega)]; omega
      have st : m_triviumref06_From_l1 (bs l) 10 (zl (V : Int), (i : Int)) = some (.inl (zl ((V * 10 + d : Nat) : Int), ((i + 1 : Nat) : Int))) := by
        simp only [m_triviumref06_From_l1, e1, if_true, e2, e3, bd_some, e4, Bool.false_eq_true, if_false, e5, e6]
        push_cast; rfl
      rw [lp_more st, refFrom_loop l hl r (i + 1) (V * 10 + d) (drop_more hr) (by omega) (by rw [Nat.pow_succ]; omega)]
      simp only [rdN, hd]
theorem refFrom_eq (l : List UInt8) (hl : l.length ≤ 1000000) : m_triviumref06_From (bs l) 10 = some (tld (rd10 l)) := by
  unfold m_triviumref06_From
  rw [if_neg (by decide), bd_some, if_neg (by decide)]
  by_cases h : l = []
  · subst h
    rw [if_pos (by rfl)]; rfl
  · have hlen := List.length_pos_iff.2 h
    rw [if_neg (by rw [decide_eq_true_eq, bs_size]; omega)]
    have := refFrom_loop l hl l 0 0 rfl (by omega) (by decide)
    rw [show ((0 : Nat) : Int) = 0 from rfl, zl_zero] at this
    rw [this]
    unfold rd10
    rw [if_neg h]
/-! the law -/
theorem sgnL_zs (a : Int) : sgnL (zsL a) = (Lib.decDigits a.natAbs, decide (a < 0)) := by
  have hne : ∀ n : Nat, ∀ c r, Lib.decDigits n = c :: r → c ≠ 45 := fun n c r h hc => by
    have h1 := rdN_dec n
    rw [h, hc] at h1
    have : dgt 45 = none := rfl
    unfold rdN at h1
    rw [this] at h1
    cases h1
  unfold zsL
  by_cases h : a < 0
  · rw [if_pos h, decide_eq_true h]; rfl
  · rw [if_neg h, decide_eq_false h]
    unfold sgnL
    split
    · rename_i c r hcr
      rw [if_neg (hne _ _ _ hcr)]
    · rename_i hn
      exact absurd hn (dec_ne _)
theorem wrd_zs (a : Int) : wrd (zsL a) = (zI a, 0) := by
  unfold wrd
  rw [sgnL_zs]
  dsimp only
  rw [rd10_dec]
  dsimp only
  congr 2
  by_cases h : a < 0
  · rw [if_pos (decide_eq_true h)]; omega
  · rw [if_neg (by simpa using h)]; omega
theorem tail_eq (l : List UInt8) (hl : l.length ≤ 1000000) : (bd (if decide (0 < (((bs l).size : Nat) : Int)) = true then bd (bt (bs l) 0) fun x9 => some (decide (x9 = 45)) else some false) fun v7 =>
    bd (if v7 = true then bd (cs (bs l) 1 (((bs l).size : Nat) : Int)) fun x13 => some x13 else some (bs l)) fun v11 => some (v7, v11)) = some ((sgnL l).2, bs (sgnL l).1) := by
  cases l with
  | nil => rfl
  | cons c r =>
    have e1 : bt (bs (c :: r)) 0 = some (c.toNat : Int) := bt_at (c :: r) 0 c r rfl
    have e2 : cs (bs (c :: r)) 1 (((bs (c :: r)).size : Nat) : Int) = some (bs r) := by
      have := cs_bs (c :: r) 1 (c :: r).length (by simp) (Nat.le_refl _)
      rw [List.take_length] at this
      exact this
    rw [if_pos (decide_eq_true (by rw [bs_size]; simp)), e1, bd_some, bd_some]
    unfold sgnL
    by_cases hc : c = 45
    · rw [if_pos (by rw [hc]; rfl), e2, bd_some, bd_some]
      simp only [hc, if_true]; rfl
    · have : ¬ (c.toNat : Int) = 45 := fun h => hc (by
        apply UInt8.toNat_inj.1
        have : c.toNat = 45 := by omega
        rw [this]; rfl)
      rw [if_neg (by simpa using this), bd_some]
      simp only [if_neg hc, decide_eq_false this]
theorem same_zero (a : List Int) : m_triviumref07_Same (false, []) (false, []) = some true := by
  have := same07 0 (by rw [show (((0 : Int).natAbs : Nat) : Int) = 0 from rfl, nl_zero]; decide)
  have e : zI 0 = (false, []) := by unfold zI; rw [show (((0 : Int).natAbs : Nat) : Int) = 0 from rfl, nl_zero]; rfl
  rwa [e] at this
theorem pair_eta7 {α β : Type} (p : α × β) : (p.1, p.2) = p := rfl
theorem wholeTexts_plain (p : D_api_Int) (s : ByteArray) (h1 : Limbs p.2) (k1 : p.2.length ≤ 9223372036854775807) (hs : s.size ≤ 9223372036854775807) : m_triviumlaw07_WholeTexts p s = some true := by
  have e1 : m_triviumref07_Clean (p.1, p.2) 10 = some (zI (cleanZ p 10)) := ref07Clean_eq p 10 h1 (by decide) k1
  have ha := cleanZ_Lm p 10
  generalize cleanZ p 10 = a at *
  have la := ha.len
  have za := (Sm.limb (n := 10) ha).len
  have lz := zsL_len a
  obtain ⟨l, hl, e2⟩ : ∃ l : List UInt8, l.length ≤ 100 ∧ cs s 0 (min (s.size : Int) 100) = some (bs l) := by
    refine ⟨s.data.toList.take (min s.size 100), by rw [List.length_take]; omega, ?_⟩
    have := cs_bs s.data.toList 0 (min s.size 100) (by omega) (by rw [← size_data]; omega)
    rw [List.drop_zero, bs_data] at this
    rw [show min (s.size : Int) 100 = ((min s.size 100 : Nat) : Int) by omega]
    exact this
  have e3 := wParse_eq l (by omega)
  have e4 := tail_eq l (by omega)
  have e5 := refFrom_eq (sgnL l).1 (by have := sgnL_len l; omega)
  have p1 := wholePrint_eq a (by omega)
  have p2 := ref07Print_eq a (by omega)
  have o1 := ref07Of_eq a (by omega)
  have e6 := wParse_eq (zsL a) (by omega)
  rw [wrd_zs] at e6
  have s1 := same07 a (by omega)
  unfold m_triviumlaw07_WholeTexts
  rw [e1, bd_some, e2, bd_some, e3, bd_some]
  have assoc : ∀ {X : Type} (f : Bool → ByteArray → Option X), (bd (if decide (0 < (((bs l).size : Nat) : Int)) = true then bd (bt (bs l) 0) fun x9 => some (decide (x9 = 45)) else some false) fun v7 =>
      bd (if v7 = true then bd (cs (bs l) 1 (((bs l).size : Nat) : Int)) fun x13 => some x13 else some (bs l)) fun v11 => f v7 v11) = f (sgnL l).2 (bs (sgnL l).1) := by
    intro X f
    cases hA : (if decide (0 < (((bs l).size : Nat) : Int)) = true then bd (bt (bs l) 0) fun x9 => some (decide (x9 = 45)) else some false) with
    | none => rw [hA] at e4; cases e4
    | some v =>
      rw [hA, bd_some] at e4
      rw [bd_some]
      cases hB : (if v = true then bd (cs (bs l) 1 (((bs l).size : Nat) : Int)) fun x13 => some x13 else some (bs l)) with
      | none => rw [hB] at e4; cases e4
      | some w =>
        rw [hB, bd_some] at e4
        cases e4
        rw [bd_some]
  refine (assoc _).trans ?_
  simp only [e5, bd_some, pair_eta7, p1, e6, o1, p2, sq_self, if_true, s1, works07, decide_true]
  unfold wrd tld
  cases hr : rd10 (sgnL l).1 with
  | none =>
    simp only [decide_true, if_true, same_zero [], List.length_nil]
    have dz : decide ((0 : Int) < ((0 : Nat) : Int)) = false := rfl
    cases (sgnL l).2 <;> simp only [if_true, Bool.false_eq_true, if_false, dz, same_zero [], bd_some]
  | some v =>
    have hv := nl_pow10 (rd10_lt hr)
    have hsl := sgnL_len l
    simp only [decide_true, if_true]
    cases (sgnL l).2 with
    | false =>
      have q := same07 (v : Int) (by rw [show (((v : Int).natAbs : Nat) : Int) = (v : Int) by omega]; omega)
      have hz : zI (v : Int) = (false, nl (v : Int)) := by unfold zI; rw [show (((v : Int).natAbs : Nat) : Int) = (v : Int) by omega, decide_eq_false (by omega)]
      simp only [Bool.false_eq_true, if_false]
      rw [hz] at q ⊢
      simp only [q, bd_some, if_true]
    | true =>
      have q := same07 (-(v : Int)) (by rw [show (((-(v : Int)).natAbs : Nat) : Int) = (v : Int) by omega]; omega)
      have hz : zI (-(v : Int)) = (decide (0 < ((nl (v : Int)).length : Int)), nl (v : Int)) := by
        unfold zI
        rw [show (((-(v : Int)).natAbs : Nat) : Int) = (v : Int) by omega, neg_or_nil (by omega)]
        congr 1
        rw [decide_eq_decide]; omega
      simp only [if_true]
      rw [hz] at q ⊢
      simp only [q, bd_some, if_true]
end Go.Proofs.YtihaljbhcnflfaaDoor.AP
/- WholeTexts: the plain law, of all that may be handed in. -/
namespace Go.Proofs.YtihaljbhcnflfaaDoor.Pure
open Go Go.Proofs.YtihaljbhcnflfaaDoor.AP Go.Proofs.YtihaljbhcnflfaaDoor.AE
theorem WholeTexts (y0 : D_api_Int) (h0 : Ty.ok Y_api_Int y0) (y1 : ByteArray) (h1 : Ty.ok .str y1) : m_triviumlaw07_WholeTexts y0 y1 = some true :=
  wholeTexts_plain y0 y1 (u64lim h0.2) h0.2.1 h1
end Go.Proofs.YtihaljbhcnflfaaDoor.Pure
/- The law WholeTexts holds of every input: the row, and its card. -/
namespace Go.Proofs.YtihaljbhcnflfaaDoor.wholeTexts
open Go.ChangeShapes Go.WideShapes Go.ChangeAt Go.RowKit
set_option linter.unusedVariables false
theorem own : ownKnob Tryd.prog.godebug = none := by kernel_rfl
theorem laidOut : laidOutB Tryd.prog = true := by kernel_rfl
theorem table {W : World} (h : laidMet Tryd.prog Rows.wholeTextsRow.laid W) : AE.Glo W := trivial
set_option maxRecDepth 100000 in
theorem lifted (os : Os) (started : os.Started) (H : Type) (enc : TypeId × Value → H) :
    ReturnsInHanded {} Tryd.checked os 4 .any (fun w args => (Rows.wholeTextsSpec.pre enc Tryd.prog Tryd.f4 [] false w args ∧ laidMetH Tryd.prog Rows.wholeTextsRow.laid w) ∧ sizedMet enc Tryd.prog Tryd.f4 (OpenSpec.ofChange Rows.wholeTextsSpec) false w args)
      (Rows.wholeTextsSpec.post enc Tryd.prog Tryd.f4 false true false false) := by
  refine returnsInHanded_of_change_and (C := Tryd.checked) (X := fun w _ => laidMetH Tryd.prog Rows.wholeTextsRow.laid w) (fun _ _ _ hh h => h.of_heap hh) own started (by kernel_rfl) Tryd.func4
    (ChangeSpec.witness_shaped (enc := enc) (C := Tryd.checked) (os := os) (X := fun w _ => laidMetH Tryd.prog Rows.wholeTextsRow.laid w) false (World.laidAll Tryd.prog os Rows.wholeTextsRow.laid) #[.agg #[.bool false, .slice none 0 0], .string ByteArray.empty] 8 (World.laidAll_os _ _ _)
      (World.shaped_of_ZipB (by kernel_rfl) (by kernel_rfl)) (by kernel_rfl) (by kernel_rfl) (by kernel_rfl)
      (by rw [MakeChecks.laidMetH_plain _ _ _ (by kernel_rfl)]; exact laidMet_laidAll _ (by kernel_rfl) (by kernel_rfl))) ?_
  intro W base args ds gs before hval0 hW _ hsz0 hL0 _
  have hL : laidMet Tryd.prog Rows.wholeTextsRow.laid W := by rw [MakeChecks.laidMetH_plain _ _ _ (by kernel_rfl)] at hL0; exact hL0
  clear hsz0
  have hval : ∀ (j : Nat) t v, Tryd.f4.params[j]? = some t → args[j]? = some v → Value.okWide Tryd.prog W .any base t v := hval0
  have hW' := hW
  obtain ⟨p, q, hA0, hV, rfl, hfz, hnd⟩ := hW
  have hA : DataW.TrodAll enc Tryd.prog W 0 (fun _ => true) true Tryd.f4.params.toList args.toList ds p := hA0
  rw [Tryd.params4] at hA hval
  obtain ⟨v0, vs0, d0, ds0, p0, q0, hargs, rfl, rfl, h0, r0⟩ := trodAll_cons hA
  obtain ⟨v1, vs1, d1, ds1, p1, q1, rfl, rfl, rfl, h1, r1⟩ := trodAll_cons r0
  obtain ⟨rfl, rfl, rfl⟩ := trodAll_nil r1
  obtain rfl : args = #[v0, v1] := by cases args; simp_all
  obtain ⟨rfl, rfl⟩ := trodVars_none hV
  have lt0 : ∀ x ∈ p0, x.block < W.heap.size := by obtain ⟨m, hm⟩ := h0; exact DataW.trod_lt m _ _ _ hm
  obtain ⟨a0, o0, e0⟩ := AE.open_v (t := AE.Y_api_Int) ⟨40, by kernel_rfl⟩ (hval 0 25 v0 rfl rfl) h0
  have lt1 : ∀ x ∈ p1, x.block < W.heap.size := by obtain ⟨m, hm⟩ := h1; exact DataW.trod_lt m _ _ _ hm
  obtain ⟨a1, o1, e1⟩ := AE.open_v (t := .str) ⟨40, by kernel_rfl⟩ (hval 1 9 v1 rfl rfl) h1
  clear hA0 hval0
  have h := Pure.WholeTexts a0 o0 a1 o1
  have C := AE.law_calls (table hL) (AE.k_triviumlaw07_WholeTexts h) (W := W) (args := [v0, v1]) ⟨v0, [v1], rfl, e0, v1, [], rfl, e1, rfl⟩
  refine C.mono fun e W' ⟨he, bel⟩ => ?_
  subst he
  exact ⟨_, rfl, _, _, _, [], _, [], hW', trodAll_mk1 (shut_bool Tryd.underlying4 _), (trodAll_cons_mk (Below.trod laidOut (by kernel_rfl) (of_decide_eq_true (by kernel_rfl)) h0 bel lt0) (trodAll_cons_mk (Below.trod laidOut (by kernel_rfl) (of_decide_eq_true (by kernel_rfl)) h1 bel lt1) trodAll_mk0)), rfl, bel.frame _, fun h => by cases h⟩
theorem over : Rows.wholeTextsRow.holds Tryd.pinned (OpenSpec.ofChange Rows.wholeTextsSpec) :=
  OpenClaim.holds_of_wide 4 Tryd.f4 rfl rfl rfl rfl rfl rfl rfl ⟨rfl, rfl, rfl, rfl, rfl⟩ rfl rfl rfl rfl rfl (by kernel_rfl) Tryd.func4 (by kernel_rfl)
    (of_decide_eq_true (by kernel_rfl)) (by unfold Func.isWrapper; first | (rw [if_pos (by decide +kernel)]; kernel_rfl) | (rw [if_neg (by decide +kernel)]; exact ⟨rfl, rfl⟩))
    (fun os started H enc _ => lifted os started H enc)
theorem proved : Rows.WholeTextsSaid := over
theorem plain (f : FuncId) (fn : Func) (hf : Tryd.pinned.checked.prog.funcNamed "trivium/triviumlaw07.WholeTexts" = some f) (hfn : Tryd.pinned.checked.prog.funcs[f]? = some fn) :
    false = Tryd.pinned.checked.prog.looks [] ∧ ∀ (j : Nat) t, fn.params[j]? = some t → Tryd.pinned.checked.prog.wantsStandIn t = false := by
  obtain rfl : f = 4 := Option.some.inj ((show Tryd.prog.funcNamed "trivium/triviumlaw07.WholeTexts" = some 4 by kernel_rfl).symm.trans hf) |>.symm
  obtain rfl : fn = Tryd.f4 := (Option.some.inj (Tryd.func4.symm.trans hfn)).symm
  exact ⟨by kernel_rfl, fun j t ht => by
    rw [Tryd.params4] at ht
    have hm : t ∈ [25, 9] := by simpa using Array.mem_of_getElem? ht
    have hall : ([25, 9].all fun u => !Tryd.prog.wantsStandIn u) = true := by kernel_rfl
    exact (show Tryd.prog.wantsStandIn t = false by simpa using List.all_eq_true.1 hall t hm)⟩
theorem card : Rows.WholeTextsCardSaid :=
  Claim7.holds_tied_plain_at .later [] _ _ _ _ proved (fun _ h => by cases h) (by kernel_rfl) (fun _ h => by cases h) wholeTexts_row_tie rfl ⟨rfl, rfl⟩ (by kernel_rfl) rfl plain (by kernel_rfl)
#print axioms card
end Go.Proofs.YtihaljbhcnflfaaDoor.wholeTexts
namespace Go.Proofs.YtihaljbhcnflfaaDoor
/-- The statement, under a short name, for the claim. -/
theorem wholeTexts_holds : Rows.WholeTextsCardSaid := wholeTexts.card
end Go.Proofs.YtihaljbhcnflfaaDoor
