/- The law FormQueries holds of every input: the row. -/
import Derived.Test.YtbmogniipgmkiaaGreatQFQ2
import Derived.Test.YtbmogniipgmkiaaGreatQFQ4
import Derived.Test.YtbmogniipgmkiaaGreatQFQ3
import Derived.Laws.BitsAllLaws
import Derived.Test.YtbmogniipgmkiaaGreatRows
import Derived.WalkKit
import Derived.ProofKit
import Derived.OpenShut
import Derived.ShutString
import Derived.ChangeOld
import Derived.Below
import Derived.Lib.SmallJoins
import Derived.Lay
import Derived.SevenTiedAt
import Derived.Lib.LaidTab
import Derived.Lib.LaidU8
import Derived.Stop.LaidErr
import Derived.LaidMore
/- Plain facts for printed functions: numbers by digits, loops, reads. -/
namespace Go.Proofs.YtbmogniipgmkiaaGreat.AP
open Go Go.Proofs.YtbmogniipgmkiaaGreat.Tri
set_option linter.unusedVariables false

/-! loops, round by round -/
def go_ {S X : Type} : Option (S ⊕ X) → (S → Option X) → Option X
  | none, _ => none
  | some (.inl s), k => k s
  | some (.inr x), _ => some x
@[simp] theorem go_inl {S X : Type} (s : S) (k : S → Option X) : go_ (some (.inl s)) k = k s := rfl
@[simp] theorem go_inr {S X : Type} (x : X) (k : S → Option X) : go_ (some (.inr x)) k = some x := rfl
theorem lp_go {S X : Type} (f : S → Option (S ⊕ X)) (s : S) : lp f s = go_ (f s) (lp f) := by
  rw [lp_eq]
  cases f s with
  | none => rfl
  | some z => cases z <;> rfl
/-- a loop over an index -/
theorem lp_upto {S X : Type} {f : S → Option (S ⊕ X)} (n : Nat) (T : Nat → S → Prop) (Q : X → Prop)
    (h : ∀ i s, i < n → T i s → (∃ s', f s = some (.inl s') ∧ T (i + 1) s') ∨ (∃ x, f s = some (.inr x) ∧ Q x))
    (he : ∀ s, T n s → ∃ x, f s = some (.inr x) ∧ Q x) {s : S} (h0 : T 0 s) : ∃ x, lp f s = some x ∧ Q x := by
  have key : ∀ k i s, i + k = n → T i s → ∃ x, lp f s = some x ∧ Q x := by
    intro k
    induction k with
    | zero =>
      intro i s hk hs
      obtain rfl : i = n := by omega
      obtain ⟨x, h1, h2⟩ := he s hs
      exact ⟨x, lp_done h1, h2⟩
    | succ k ih =>
      intro i s hk hs
      rcases h i s (by omega) hs with ⟨s', h1, h2⟩ | ⟨x, h1, h2⟩
      · rw [lp_more h1]; exact ih (i + 1) s' (by omega) h2
      · exact ⟨x, lp_done h1, h2⟩
  exact key n 0 s (by omega) h0
/-- the place of the first one that has p; the length where there is none -/
def fst_ {α : Type} (p : α → Bool) : List α → Nat
  | [] => 0
  | x :: l => if p x then 0 else fst_ p l + 1
theorem fst_le {α : Type} (p : α → Bool) : ∀ l : List α, fst_ p l ≤ l.length
  | [] => Nat.le_refl _
  | x :: l => by have := fst_le p l; unfold fst_; split <;> simp <;> omega
theorem fst_lt {α : Type} (p : α → Bool) : ∀ {l : List α}, fst_ p l < l.length → ∃ x, l[fst_ p l]? = some x ∧ p x = true
  | [], h => by simp at h
  | x :: l, h => by
    unfold fst_ at h ⊢
    by_cases hp : p x = true
    · simp only [hp, if_true]; exact ⟨x, rfl, hp⟩
    · simp only [hp] at h ⊢
      obtain ⟨y, h1, h2⟩ := fst_lt p (l := l) (by simpa using h)
      exact ⟨y, by simpa using h1, h2⟩
theorem fst_before {α : Type} (p : α → Bool) : ∀ {l : List α} {i : Nat} {x : α}, i < fst_ p l → l[i]? = some x → p x = false
  | [], i, x, h, h2 => by simp at h2
  | y :: l, i, x, h, h2 => by
    unfold fst_ at h
    by_cases hp : p y = true
    · simp [hp] at h
    · cases i with
      | zero => simp at h2; subst h2; simpa using hp
      | succ i => exact fst_before p (l := l) (i := i) (by simp [hp] at h; omega) (by simpa using h2)
theorem fst_any {α : Type} (p : α → Bool) : ∀ l : List α, decide (fst_ p l < l.length) = l.any p
  | [] => rfl
  | x :: l => by
    unfold fst_
    by_cases hp : p x = true
    · simp [hp]
    · have := fst_any p l
      simp only [hp, List.any_cons, List.length_cons]
      rw [← this]; simp
/-- where the first one is, -1: nowhere -/
def idx {α : Type} (p : α → Bool) (l : List α) : Int := if fst_ p l < l.length then (fst_ p l : Int) else -1
theorem idx_le {α : Type} (p : α → Bool) (l : List α) : -1 ≤ idx p l ∧ idx p l < l.length := by unfold idx; split <;> omega
theorem idx_any {α : Type} (p : α → Bool) (l : List α) : decide (0 ≤ idx p l) = l.any p := by
  rw [← fst_any]; unfold idx; by_cases h : fst_ p l < l.length <;> simp [h]
theorem idx_rd {α : Type} {p : α → Bool} {l : List α} (h : 0 ≤ idx p l) : ∃ x, rd l (idx p l) = some x ∧ p x = true := by
  unfold idx at h ⊢
  by_cases hl : fst_ p l < l.length
  · rw [if_pos hl, rd_nat]; exact fst_lt p hl
  · rw [if_neg hl] at h; omega
/-- a loop that looks for the first one -/
theorem lp_first {α X : Type} {f : Int → Option (Int ⊕ X)} (l : List α) (p : α → Bool) (r : Nat → X) (e : Option X)
    (h : ∀ (i : Nat) x, l[i]? = some x → f (i : Int) = some (if p x then .inr (r i) else .inl ((i : Int) + 1)))
    (he : lp f (l.length : Int) = e) : lp f 0 = if fst_ p l < l.length then some (r (fst_ p l)) else e := by
  have key : ∀ (k i : Nat), i + k = l.length → (∀ j, j < i → ∀ x, l[j]? = some x → p x = false) → lp f (i : Int) = if fst_ p l < l.length then some (r (fst_ p l)) else e := by
    intro k
    induction k with
    | zero =>
      intro i hk hb
      obtain rfl : i = l.length := by omega
      rw [if_neg, he]
      intro hlt
      obtain ⟨x, h1, h2⟩ := fst_lt p hlt
      rw [hb _ hlt x h1] at h2; cases h2
    | succ k ih =>
      intro i hk hb
      have hi : l[i]? = some l[i] := List.getElem?_eq_getElem (by omega)
      cases hp : p l[i] with
      | true =>
        have e : fst_ p l = i := by
          apply Nat.le_antisymm
          · apply Nat.le_of_not_lt; intro hlt; have := fst_before p hlt hi; rw [hp] at this; cases this
          · apply Nat.le_of_not_lt; intro hlt
            obtain ⟨x, h1, h2⟩ := fst_lt p (show fst_ p l < l.length by omega)
            rw [hb _ hlt x h1] at h2; cases h2
        rw [lp_done (by rw [h i _ hi, hp]; rfl), if_pos (by omega), e]
      | false =>
        rw [lp_more (by rw [h i _ hi, hp]; rfl)]
        have := ih (i + 1) (by omega) (fun j hj x hx => by
          by_cases hji : j = i
          · subst hji; rw [hi] at hx; cases hx; exact hp
          · exact hb j (by omega) x hx)
        simpa using this
  simpa using key l.length 0 (by omega) (by intro j hj; omega)

/-! reads of numbers -/
def gI (l : List Int) (i : Int) : Int := l.getD i.toNat 0
theorem rd_I {l : List Int} {i : Int} (h0 : 0 ≤ i) (h1 : i < l.length) : rd l i = some (gI l i) := rd_getD 0 h0 h1
theorem gI_dig {B : Int} {l : List Int} (h : Dig B l) (hB : 0 < B) (i : Int) : 0 ≤ gI l i ∧ gI l i < B := by
  unfold gI
  rw [List.getD_eq_getElem?_getD]
  cases hx : l[i.toNat]? with
  | none => exact ⟨Int.le_refl _, hB⟩
  | some x => exact h x (List.mem_of_getElem? hx)
theorem gI_nat (l : List Int) (i : Nat) : gI l (i : Int) = l.getD i 0 := rfl
theorem take_gI (B : Int) : ∀ (l : List Int) (i : Nat), i < l.length → dv B (l.take (i + 1)) = dv B (l.take i) + B ^ i * gI l (i : Int) := by
  intro l i h
  rw [List.take_add_one, List.getElem?_eq_getElem h]
  simp only [Option.toList]
  rw [dv_snoc, List.length_take, Nat.min_eq_left (Nat.le_of_lt h)]
  simp [gI, h]
theorem drop_gI (l : List Int) (q : Nat) (h : q < l.length) : l.drop q = gI l (q : Int) :: l.drop (q + 1) := by
  rw [List.drop_eq_getElem_cons h]; simp [gI, h]
theorem gI_last (a : List Int) (x : Int) : gI (a ++ [x]) (a.length : Int) = x := by simp [gI]

/-! numbers of a value -/
def num (B : Nat) (x : Nat) : List Int := if h : 1 < B ∧ 0 < x then ((x % B : Nat) : Int) :: num B (x / B) else []
termination_by x
decreasing_by exact Nat.div_lt_self h.2 h.1
theorem num_dv {B : Nat} (hB : 1 < B) : ∀ x : Nat, dv (B : Int) (num B x) = x := by
  intro x
  induction x using Nat.strongRecOn with
  | _ x ih =>
    rw [num]
    by_cases h : 0 < x
    · rw [dif_pos ⟨hB, h⟩, dv, ih _ (Nat.div_lt_self h hB)]
      have := Nat.mod_add_div x B
      have e : ((x % B : Nat) : Int) + (B : Int) * ((x / B : Nat) : Int) = ((x % B + B * (x / B) : Nat) : Int) := by push_cast; rfl
      rw [e, this]
    · rw [dif_neg (by omega)]
      have : x = 0 := by omega
      rw [this]; rfl
theorem num_can {B : Nat} (hB : 1 < B) : ∀ x : Nat, Tri.Can (B : Int) (num B x) := by
  intro x
  induction x using Nat.strongRecOn with
  | _ x ih =>
    rw [num]
    by_cases h : 0 < x
    · rw [dif_pos ⟨hB, h⟩]
      have hc := ih _ (Nat.div_lt_self h hB)
      have hm := Nat.mod_lt x (show 0 < B by omega)
      refine ⟨Dig.cons ⟨by omega, by omega⟩ hc.1, ?_⟩
      by_cases he : num B (x / B) = []
      · rw [he]
        have h0 : x / B = 0 := by
          have := num_dv hB (x / B)
          rw [he] at this
          have h2 : ((x / B : Nat) : Int) = 0 := this.symm
          omega
        have h1 : x % B = x := by have := Nat.mod_add_div x B; rw [h0, Nat.mul_zero] at this; omega
        rw [h1]
        simp [Top]
        omega
      · unfold Top
        rw [List.getLast?_cons_of_ne_nil he]
        exact hc.2
    · rw [dif_neg (by omega)]
      exact Tri.Can.nil _
theorem can_num {B : Nat} (hB : 1 < B) {l : List Int} (h : Tri.Can (B : Int) l) : l = num B (dv (B : Int) l).toNat := by
  refine Tri.Can.inj (by omega) h (num_can hB _) ?_
  rw [num_dv hB]
  have := dv_nonneg (B := (B : Int)) (by omega) h.1
  omega
def nl (x : Int) : List Int := num 4294967296 x.toNat
def zl (x : Int) : List Int := num 10000 x.toNat
theorem nl_can (x : Int) : Tri.Can (4294967296 : Int) (nl x) := num_can (by decide) _
theorem zl_can (x : Int) : Tri.Can (10000 : Int) (zl x) := num_can (by decide) _
theorem nl_dv {x : Int} (h : 0 ≤ x) : dv (4294967296 : Int) (nl x) = x := by
  have := num_dv (B := 4294967296) (by decide) x.toNat
  have e : ((4294967296 : Nat) : Int) = (4294967296 : Int) := rfl
  rw [e] at this
  unfold nl
  rw [this]; omega
theorem zl_dv {x : Int} (h : 0 ≤ x) : dv (10000 : Int) (zl x) = x := by
  have := num_dv (B := 10000) (by decide) x.toNat
  have e : ((10000 : Nat) : Int) = (10000 : Int) := rfl
  rw [e] at this
  unfold zl
  rw [this]; omega
theorem can_nl {d : List Int} (h : Tri.Can (4294967296 : Int) d) {x : Int} (hx : dv (4294967296 : Int) d = x) : d = nl x := by
  have h2 := can_num (B := 4294967296) (by decide) h
  rw [h2]; unfold nl; congr 2
theorem can_zl {d : List Int} (h : Tri.Can (10000 : Int) d) {x : Int} (hx : dv (10000 : Int) d = x) : d = zl x := by
  have h2 := can_num (B := 10000) (by decide) h
  rw [h2]; unfold zl; congr 2
theorem trimz_nl {d : List Int} (h : Dig (4294967296 : Int) d) {x : Int} (hx : dv (4294967296 : Int) d = x) : trimz d = nl x := can_nl (trimz_can h) (by rw [trimz_dv, hx])
theorem trimz_zl {d : List Int} (h : Dig (10000 : Int) d) {x : Int} (hx : dv (10000 : Int) d = x) : trimz d = zl x := can_zl (trimz_can h) (by rw [trimz_dv, hx])
theorem nl_zero : nl 0 = [] := by unfold nl; rw [num]; simp
theorem zl_zero : zl 0 = [] := by unfold zl; rw [num]; simp
theorem nl_nil {x : Int} (h : 0 ≤ x) : nl x = [] ↔ x = 0 := by
  rw [Can.eq_nil (by decide) (nl_can x), nl_dv h]
theorem zl_nil {x : Int} (h : 0 ≤ x) : zl x = [] ↔ x = 0 := by
  rw [Can.eq_nil (by decide) (zl_can x), zl_dv h]
theorem nl_inj {x y : Int} (hx : 0 ≤ x) (hy : 0 ≤ y) (h : nl x = nl y) : x = y := by rw [← nl_dv hx, ← nl_dv hy, h]
theorem zl_inj {x y : Int} (hx : 0 ≤ x) (hy : 0 ≤ y) (h : zl x = zl y) : x = y := by rw [← zl_dv hx, ← zl_dv hy, h]
theorem can_len {B : Int} (hB : 1 < B) {l : List Int} (h : Tri.Can B l) {n : Nat} (hx : dv B l < B ^ n) : l.length ≤ n := by
  apply Nat.le_of_not_lt
  intro hlt
  have hne : l ≠ [] := by rintro rfl; simp at hlt
  have h1 := h.ge (by omega) hne
  have h2 := pow_mono (B := B) (by omega) (show n ≤ l.length - 1 by omega)
  omega
theorem zl_len {x : Int} (h0 : 0 ≤ x) {n : Nat} (hx : x < (10000 : Int) ^ n) : (zl x).length ≤ n := can_len (by decide) (zl_can x) (by rw [zl_dv h0]; exact hx)
theorem nl_len {x : Int} (h0 : 0 ≤ x) {n : Nat} (hx : x < (4294967296 : Int) ^ n) : (nl x).length ≤ n := can_len (by decide) (nl_can x) (by rw [nl_dv h0]; exact hx)
theorem zl_mono {x y : Int} (h0 : 0 ≤ x) (h : x ≤ y) : (zl x).length ≤ (zl y).length := by
  apply Nat.le_of_not_lt
  intro hlt
  have := Can.lt_of_length (by decide) (zl_can y).1 (zl_can x) hlt
  rw [zl_dv h0, zl_dv (by omega)] at this; omega
theorem nl_mono {x y : Int} (h0 : 0 ≤ x) (h : x ≤ y) : (nl x).length ≤ (nl y).length := by
  apply Nat.le_of_not_lt
  intro hlt
  have := Can.lt_of_length (by decide) (nl_can y).1 (nl_can x) hlt
  rw [nl_dv h0, nl_dv (by omega)] at this; omega
theorem pow_le {a b : Int} (ha : 0 ≤ a) (h : a ≤ b) : ∀ n : Nat, a ^ n ≤ b ^ n
  | 0 => by simp
  | n + 1 => by
    rw [Int.pow_succ, Int.pow_succ]
    exact Int.mul_le_mul (pow_le ha h n) h ha (Int.pow_nonneg (by omega))
theorem lb_zb (n : Nat) : (4294967296 : Int) ^ n ≤ (10000 : Int) ^ (3 * n) := by
  rw [Int.pow_mul]; exact pow_le (by decide) (by decide) n
theorem zb_lb (n : Nat) : (10000 : Int) ^ n ≤ (4294967296 : Int) ^ n := pow_le (by decide) (by decide) n
/-- sign -/
def sg (x : Int) : Int := if x < 0 then -1 else if 0 < x then 1 else 0
end Go.Proofs.YtbmogniipgmkiaaGreat.AP
/- The document's numbers, as printed: what they come to. -/
namespace Go.Proofs.YtbmogniipgmkiaaGreat.AP
open Go Go.Proofs.YtbmogniipgmkiaaGreat.Tri
set_option linter.unusedVariables false
set_option linter.unusedSimpArgs false
theorem split_last {n : Nat} {a : List Int} (h : a.length = n + 1) : ∃ d x, a = d ++ [x] ∧ d.length = n := by
  have hne : a ≠ [] := by rintro rfl; simp at h
  obtain ⟨d, x, rfl⟩ := eq_snoc hne
  exact ⟨d, x, rfl, by simpa using h⟩
theorem take_self_append (d : List Int) (x : Int) : (d ++ [x]).take d.length = d := by simp
theorem refTrim_loop (p0 : List Int) (hl : p0.length ≤ 4611686018427387904) : ∀ (n : Nat) (a b : List Int), a.length = n → p0 = a ++ b → ∃ k : Nat, lp (m_triviumref02_Trim_l1 p0) (n : Int) = some (k : Int) ∧ k ≤ n ∧ a.take k = trimz a
  | 0, a, b, h, hp => by
    have : a = [] := List.eq_nil_of_length_eq_zero h
    subst this
    exact ⟨0, by rw [lp_go]; simp [m_triviumref02_Trim_l1], Nat.le_refl _, rfl⟩
  | n + 1, a, b, h, hp => by
    obtain ⟨d, x, rfl, hd⟩ := split_last h
    have hlen : p0.length = n + 1 + b.length := by rw [hp]; simp [hd]; omega
    have hx : gI p0 (n : Int) = x := by rw [hp, List.append_assoc]; unfold gI; rw [List.getD_eq_getElem?_getD, List.getElem?_append_right (by simp [hd])]; simp [hd]
    have hstep : m_triviumref02_Trim_l1 p0 ((n + 1 : Nat) : Int) = if x = 0 then some (.inl (n : Int)) else some (.inr ((n + 1 : Nat) : Int)) := by
      have e1 : wi64 (((n + 1 : Nat) : Int) - 1) = (n : Int) := by rw [wi64_eq (by omega) (by omega)]; omega
      have e2 : rd p0 (n : Int) = some x := by rw [rd_I (by omega) (by omega), hx]
      have e3 : decide (0 < ((n + 1 : Nat) : Int)) = true := decide_eq_true (by omega)
      simp only [m_triviumref02_Trim_l1, e3, if_true, e1, e2, bd_some, decide_eq_true_eq]
    by_cases h0 : x = 0
    · subst h0
      rw [lp_more (by rw [hstep, if_pos rfl])]
      obtain ⟨k, h1, h2, h3⟩ := refTrim_loop p0 hl n d ([0] ++ b) hd (by rw [hp]; simp)
      refine ⟨k, h1, by omega, ?_⟩
      rw [trimz_snoc_zero, ← h3, List.take_append_of_le_length (by omega)]
    · refine ⟨n + 1, lp_done (by rw [hstep, if_neg h0]), Nat.le_refl _, ?_⟩
      rw [List.take_of_length_le (by omega), trimz_of_top (Top.snoc.2 h0)]
theorem refTrim_eq (a : List Int) (hl : a.length ≤ 10000000000000) : m_triviumref02_Trim a = some (trimz a) := by
  obtain ⟨k, h1, h2, h3⟩ := refTrim_loop a (by omega) a.length a [] rfl (by simp)
  unfold m_triviumref02_Trim
  rw [h1, bd_some, ct_of (by omega), bd_some, ap_of (by simp; omega), bd_some]
  simp [h3]
theorem carry_loop : ∀ (n : Nat) (c : Int) (d : List Int), 0 ≤ c → c < (10000 : Int) ^ n → c < 1000000000000000000 → Dig (10000 : Int) d → d.length + n ≤ 1000000000000 →
    ∃ r, lp m_triviumref02_MulAdd_l2 (c, d) = some r ∧ Dig (10000 : Int) r ∧ dv (10000 : Int) r = dv (10000 : Int) d + (10000 : Int) ^ d.length * c ∧ r.length ≤ d.length + n
  | n, c, d, h0, h1, h2, hd, hl => by
    by_cases hc : 0 < c
    · cases n with
      | zero => simp at h1; omega
      | succ n =>
        have e1 : m_triviumref02_MulAdd_l2 (c, d) = some (.inl (c / (10000 : Int), d ++ [c % (10000 : Int)])) := by
          simp only [m_triviumref02_MulAdd_l2, decide_eq_true hc, if_true, rm_of h0 (show (0 : Int) < 10000 by decide), bd_some, ap_of (l := d) (m := [c % 10000]) (b := 8) (by simp; omega), qd64 h0 (show (0 : Int) < 10000 by decide) (by omega)]
        have hq : c / (10000 : Int) < (10000 : Int) ^ n := Int.ediv_lt_of_lt_mul (by decide) (by rw [← Int.pow_succ]; exact h1)
        obtain ⟨r, r1, r2, r3, r4⟩ := carry_loop n (c / (10000 : Int)) (d ++ [c % (10000 : Int)]) (Int.ediv_nonneg h0 (by decide)) hq (by have : c / (10000 : Int) ≤ c := Int.ediv_le_self _ h0; omega) (Dig.snoc hd ⟨by omega, by omega⟩) (by simp; omega)
        refine ⟨r, by rw [lp_more e1]; exact r1, r2, ?_, by simp at r4; omega⟩
        rw [r3, dv_snoc, List.length_append, List.length_singleton, Int.pow_succ]
        have := Int.mul_ediv_add_emod c (10000 : Int)
        generalize (10000 : Int) ^ d.length = p at *
        generalize c / (10000 : Int) = q at *
        have e : c = (10000 : Int) * q + c % (10000 : Int) := this.symm
        generalize c % (10000 : Int) = m at *
        subst e
        grind
    · have : c = 0 := by omega
      subst this
      refine ⟨d, lp_done (by simp [m_triviumref02_MulAdd_l2]), hd, by simp, by omega⟩
theorem mulAdd_loop (p0 : List Int) (p1 : Int) (ha : Dig (10000 : Int) p0) (hm0 : 0 ≤ p1) (hm1 : p1 ≤ 4294967296) (hl : p0.length ≤ 100000000000) (c0 : Int) : ∀ (k i : Nat) (c : Int) (d : List Int), i + k = p0.length → d.length = i → 0 ≤ c → c ≤ 4294967296 → Dig (10000 : Int) d → dv (10000 : Int) d + (10000 : Int) ^ i * c = dv (10000 : Int) (p0.take i) * p1 + c0 →
    ∃ c' d', lp (m_triviumref02_MulAdd_l1 p0 p1) (c, (i : Int), d) = some (c', d') ∧ d'.length = p0.length ∧ 0 ≤ c' ∧ c' ≤ 4294967296 ∧ Dig (10000 : Int) d' ∧ dv (10000 : Int) d' + (10000 : Int) ^ p0.length * c' = dv (10000 : Int) p0 * p1 + c0
  | 0, i, c, d, hk, hi, h0, h1, hd, hv => by
    obtain rfl : i = p0.length := by omega
    refine ⟨c, d, lp_done (by simp [m_triviumref02_MulAdd_l1]), hi, h0, h1, hd, by rw [hv, List.take_length]⟩
  | k + 1, i, c, d, hk, hi, h0, h1, hd, hv => by
    have g := gI_dig ha (by decide) (i : Int)
    have hp0 : 0 ≤ gI p0 (i : Int) * p1 := Int.mul_nonneg g.1 hm0
    have hp1 : gI p0 (i : Int) * p1 ≤ 9999 * 4294967296 := Int.mul_le_mul (by omega) hm1 hm0 (by decide)
    generalize hx : c + gI p0 (i : Int) * p1 = x
    have hx0 : 0 ≤ x := by omega
    have e1 : m_triviumref02_MulAdd_l1 p0 p1 (c, (i : Int), d) = some (.inl (x / (10000 : Int), ((i + 1 : Nat) : Int), d ++ [x % (10000 : Int)])) := by
      have a1 : decide ((i : Int) < (p0.length : Int)) = true := decide_eq_true (by omega)
      have a2 : rd p0 (i : Int) = some (gI p0 (i : Int)) := rd_I (by omega) (by omega)
      have a3 : wi64 (gI p0 (i : Int) * p1) = gI p0 (i : Int) * p1 := wi64_eq (by omega) (by omega)
      have a4 : wi64 (c + gI p0 (i : Int) * p1) = x := by rw [hx]; exact wi64_eq (by omega) (by omega)
      have a5 : wi64 ((i : Int) + 1) = ((i + 1 : Nat) : Int) := by rw [wi64_eq (by omega) (by omega)]; omega
      simp only [m_triviumref02_MulAdd_l1, a1, if_true, a2, bd_some, a3, a4, rm_of hx0 (show (0 : Int) < 10000 by decide), ap_of (l := d) (m := [x % 10000]) (b := 8) (by simp; omega), qd64 hx0 (show (0 : Int) < 10000 by decide) (by omega), a5]
    obtain ⟨c', d', r1, r2⟩ := mulAdd_loop p0 p1 ha hm0 hm1 hl c0 k (i + 1) (x / (10000 : Int)) (d ++ [x % (10000 : Int)]) (by omega) (by simp [hi]) (Int.ediv_nonneg hx0 (by decide)) (by omega) (Dig.snoc hd ⟨by omega, by omega⟩) (by
      rw [dv_snoc, take_gI (10000 : Int) p0 i (by omega), hi, Int.pow_succ]
      have := Int.mul_ediv_add_emod x (10000 : Int)
      generalize (10000 : Int) ^ i = p at *
      generalize x / (10000 : Int) = q at *
      generalize x % (10000 : Int) = m at *
      generalize gI p0 (i : Int) = gg at *
      subst hx
      generalize dv (10000 : Int) (List.take i p0) = T at *
      have h3 : m = c + gg * p1 - (10000 : Int) * q := by omega
      subst h3
      grind)
    exact ⟨c', d', by rw [lp_more e1]; exact r1, r2⟩
theorem mulAdd_dig (a : List Int) (m c : Int) (ha : Dig (10000 : Int) a) (hm0 : 0 ≤ m) (hm1 : m ≤ 4294967296) (hc0 : 0 ≤ c) (hc1 : c ≤ 4294967296) (hl : a.length ≤ 100000000000) : m_triviumref02_MulAdd a m c = some (zl (dv (10000 : Int) a * m + c)) := by
  obtain ⟨c', d', h1, h2, h3, h4, h5, h6⟩ := mulAdd_loop a m ha hm0 hm1 hl c a.length 0 c [] (by omega) rfl hc0 hc1 (Dig.nil _) (by simp [dv])
  obtain ⟨r, r1, r2, r3, r4⟩ := carry_loop 3 c' d' h3 (by have : (10000 : Int) ^ 3 = 1000000000000 := by decide
                                                          omega) (by omega) h5 (by omega)
  unfold m_triviumref02_MulAdd
  rw [show ((0 : Int)) = ((0 : Nat) : Int) from rfl, h1, bd_some]
  dsimp only
  rw [r1, bd_some, refTrim_eq r (by omega), bd_some, trimz_zl r2 (by rw [r3, h2, h6])]
theorem mulAdd_eq (x m c : Int) (hx : 0 ≤ x) (hm0 : 0 ≤ m) (hm1 : m ≤ 4294967296) (hc0 : 0 ≤ c) (hc1 : c ≤ 4294967296) (hl : (zl x).length ≤ 100000000000) : m_triviumref02_MulAdd (zl x) m c = some (zl (x * m + c)) := by
  rw [mulAdd_dig _ _ _ (zl_can x).1 hm0 hm1 hc0 hc1 hl, zl_dv hx]
theorem of_loop (a : List Int) (ha : Dig (4294967296 : Int) a) (hl : a.length ≤ 30000000000) : ∀ (n : Nat), n ≤ a.length → lp (m_triviumref02_Of_l1 a) (zl (dv (4294967296 : Int) (a.drop n)), (n : Int) - 1) = some (zl (dv (4294967296 : Int) a))
  | 0, _ => by
    refine lp_done ?_
    simp [m_triviumref02_Of_l1]
  | n + 1, h => by
    have g := gI_dig ha (by decide) (n : Int)
    have hd : Dig (4294967296 : Int) (a.drop (n + 1)) := ha.drop _
    have h0 := dv_nonneg (by decide) hd
    have hlen : (zl (dv (4294967296 : Int) (a.drop (n + 1)))).length ≤ 100000000000 := by
      have h1 := dv_lt (by decide) hd
      have := zl_len h0 (n := 3 * (a.drop (n + 1)).length) (Int.lt_of_lt_of_le h1 (lb_zb _))
      simp at this ⊢; omega
    have hv : dv (4294967296 : Int) (a.drop n) = dv (4294967296 : Int) (a.drop (n + 1)) * 4294967296 + gI a (n : Int) := by
      rw [drop_gI a n (by omega), dv_cons]; omega
    have e1 : m_triviumref02_Of_l1 a (zl (dv (4294967296 : Int) (a.drop (n + 1))), ((n + 1 : Nat) : Int) - 1) = some (.inl (zl (dv (4294967296 : Int) (a.drop n)), (n : Int) - 1)) := by
      have a0 : ((n + 1 : Nat) : Int) - 1 = (n : Int) := by omega
      have a1 : decide ((0 : Int) ≤ (n : Int)) = true := decide_eq_true (by omega)
      have a2 : rd a (n : Int) = some (gI a (n : Int)) := rd_I (by omega) (by omega)
      have a3 : gI a (n : Int) % 4294967296 = gI a (n : Int) := Int.emod_eq_of_lt g.1 g.2
      have a4 : wi64 (gI a (n : Int)) = gI a (n : Int) := wi64_eq (by omega) (by omega)
      have a5 : wi64 ((n : Int) - 1) = (n : Int) - 1 := wi64_eq (by omega) (by omega)
      rw [a0]
      simp only [m_triviumref02_Of_l1, a1, if_true, a2, bd_some, rm_of g.1 (show (0 : Int) < 4294967296 by decide), a3, a4, mulAdd_eq _ _ _ h0 (show (0 : Int) ≤ 4294967296 by decide) (Int.le_refl _) g.1 (by omega) hlen, a5, hv]
    rw [lp_more e1]
    exact of_loop a ha hl n (by omega)
theorem refOf_dig (a : List Int) (ha : Dig (4294967296 : Int) a) (hl : a.length ≤ 30000000000) : m_triviumref02_Of a = some (zl (dv (4294967296 : Int) a)) := by
  unfold m_triviumref02_Of
  have e : wi64 ((a.length : Int) - 1) = (a.length : Int) - 1 := wi64_eq (by omega) (by omega)
  have := of_loop a ha hl a.length (Nat.le_refl _)
  rw [List.drop_length, dv_nil, zl_zero] at this
  rw [e, this]; rfl
theorem refOf_eq (x : Int) (hx : 0 ≤ x) (hl : (nl x).length ≤ 30000000000) : m_triviumref02_Of (nl x) = some (zl x) := by
  rw [refOf_dig _ (nl_can x).1 hl, nl_dv hx]
end Go.Proofs.YtbmogniipgmkiaaGreat.AP
/- The document's numbers, as printed: compared, taken off, divided. -/
namespace Go.Proofs.YtbmogniipgmkiaaGreat.AP
open Go Go.Proofs.YtbmogniipgmkiaaGreat.Tri
set_option linter.unusedVariables false
set_option linter.unusedSimpArgs false
theorem dv_split (B : Int) (a : List Int) (n : Nat) (h : n ≤ a.length) : dv B a = dv B (a.take n) + B ^ n * dv B (a.drop n) := by
  have := dv_append B (a.take n) (a.drop n)
  rw [List.take_append_drop, List.length_take, Nat.min_eq_left h] at this
  exact this
theorem dv_take_lt {B : Int} (hB : 0 < B) {a : List Int} (h : Dig B a) (n : Nat) : dv B (a.take n) < B ^ n := by
  have h1 := dv_lt hB (h.take n)
  have h2 := pow_mono hB (show (a.take n).length ≤ n by simp; omega)
  omega
theorem digit_lt {B : Int} (hB : 0 < B) {a b : List Int} (ha : Dig B a) (hb : Dig B b) (q : Nat) (hqa : q < a.length) (hqb : q < b.length) (ht : dv B (a.drop (q + 1)) = dv B (b.drop (q + 1))) (h : gI a (q : Int) < gI b (q : Int)) : dv B a < dv B b := by
  rw [dv_split B a q (by omega), dv_split B b q (by omega), drop_gI a q hqa, drop_gI b q hqb, dv_cons, dv_cons, ht]
  have h1 := dv_take_lt hB ha q
  have h2 := dv_nonneg hB (hb.take q)
  have h3 := pow_pos' hB q
  have h4 : B ^ q * (gI a (q : Int) + 1) ≤ B ^ q * gI b (q : Int) := Int.mul_le_mul_of_nonneg_left (by omega) (by omega)
  rw [Int.mul_add, Int.mul_add]
  rw [Int.mul_add, Int.mul_one] at h4
  omega
theorem refCmp_loop (a b : List Int) (ha : Dig (10000 : Int) a) (hb : Dig (10000 : Int) b) (he : a.length = b.length) (hl : a.length ≤ 4611686018427387904) : ∀ n : Nat, n ≤ a.length → dv (10000 : Int) (a.drop n) = dv (10000 : Int) (b.drop n) → lp (m_triviumref02_Cmp_l1 a b) ((n : Int) - 1) = some (sg (dv (10000 : Int) a - dv (10000 : Int) b))
  | 0, _, h => by
    rw [List.drop_zero, List.drop_zero] at h
    refine lp_done ?_
    rw [h, Int.sub_self]
    simp [m_triviumref02_Cmp_l1, sg]
  | n + 1, hn, h => by
    have ga := gI_dig ha (by decide) (n : Int)
    have gb := gI_dig hb (by decide) (n : Int)
    have a0 : ((n + 1 : Nat) : Int) - 1 = (n : Int) := by omega
    have a1 : decide ((0 : Int) ≤ (n : Int)) = true := decide_eq_true (by omega)
    have a2 : rd a (n : Int) = some (gI a (n : Int)) := rd_I (by omega) (by omega)
    have a3 : rd b (n : Int) = some (gI b (n : Int)) := rd_I (by omega) (by omega)
    have a5 : wi64 ((n : Int) - 1) = (n : Int) - 1 := wi64_eq (by omega) (by omega)
    have e : m_triviumref02_Cmp_l1 a b (((n + 1 : Nat) : Int) - 1) = if gI a (n : Int) < gI b (n : Int) then some (.inr (-1)) else if gI b (n : Int) < gI a (n : Int) then some (.inr 1) else some (.inl ((n : Int) - 1)) := by
      rw [a0]
      simp only [m_triviumref02_Cmp_l1, a1, if_true, a2, a3, bd_some, a5, decide_eq_true_eq]
    rcases Int.lt_trichotomy (gI a (n : Int)) (gI b (n : Int)) with hlt | heq | hgt
    · have := digit_lt (by decide) ha hb n (by omega) (by omega) h hlt
      rw [lp_done (by rw [e, if_pos hlt])]
      unfold sg; rw [if_pos (by omega)]
    · rw [lp_more (by rw [e, if_neg (by omega), if_neg (by omega)])]
      refine refCmp_loop a b ha hb he hl n (by omega) ?_
      rw [drop_gI a n (by omega), drop_gI b n (by omega), dv_cons, dv_cons, h, heq]
    · have := digit_lt (by decide) hb ha n (by omega) (by omega) h.symm hgt
      rw [lp_done (by rw [e, if_neg (by omega), if_pos hgt])]
      unfold sg; rw [if_neg (by omega), if_pos (by omega)]
theorem refCmp_can (a b : List Int) (ha : Tri.Can (10000 : Int) a) (hb : Tri.Can (10000 : Int) b) (hl : a.length ≤ 4611686018427387904) : m_triviumref02_Cmp a b = some (sg (dv (10000 : Int) a - dv (10000 : Int) b)) := by
  unfold m_triviumref02_Cmp
  by_cases he : a.length = b.length
  · rw [if_neg (by simp [he]), wi64_eq (by omega) (by omega)]
    exact refCmp_loop a b ha.1 hb.1 he hl a.length (Nat.le_refl _) (by rw [List.drop_length, he, List.drop_length])
  · rw [if_pos (by simp; omega)]
    rcases Nat.lt_or_gt_of_ne he with h | h
    · have := Can.lt_of_length (by decide) ha.1 hb h
      rw [if_pos (by simp; omega)]
      unfold sg; rw [if_pos (by omega)]
    · have := Can.lt_of_length (by decide) hb.1 ha h
      rw [if_neg (by simp; omega)]
      unfold sg; rw [if_neg (by omega), if_pos (by omega)]
theorem refCmp_eq (x y : Int) (hx : 0 ≤ x) (hy : 0 ≤ y) (hl : (zl x).length ≤ 4611686018427387904) : m_triviumref02_Cmp (zl x) (zl y) = some (sg (x - y)) := by
  rw [refCmp_can _ _ (zl_can x) (zl_can y) hl, zl_dv hx, zl_dv hy]
theorem take_gI' (B : Int) (l : List Int) (i : Nat) : dv B (l.take (i + 1)) = dv B (l.take i) + B ^ i * gI l (i : Int) := by
  by_cases h : i < l.length
  · exact take_gI B l i h
  · rw [List.take_of_length_le (by omega), List.take_of_length_le (by omega)]
    have : gI l (i : Int) = 0 := by unfold gI; rw [List.getD_eq_getElem?_getD, List.getElem?_eq_none (by omega)]; rfl
    rw [this]; simp
theorem refSub_loop (a b : List Int) (ha : Dig (10000 : Int) a) (hb : Dig (10000 : Int) b) (hl : a.length ≤ 1000000000000) : ∀ (k i : Nat) (c : Int) (d : List Int), i + k = a.length → d.length = i → (c = 0 ∨ c = 1) → Dig (10000 : Int) d → dv (10000 : Int) d - (10000 : Int) ^ i * c = dv (10000 : Int) (a.take i) - dv (10000 : Int) (b.take i) →
    ∃ c' d', lp (m_triviumref02_Sub_l1 a b) (c, (i : Int), d) = some d' ∧ d'.length = a.length ∧ (c' = 0 ∨ c' = 1) ∧ Dig (10000 : Int) d' ∧ dv (10000 : Int) d' - (10000 : Int) ^ a.length * c' = dv (10000 : Int) a - dv (10000 : Int) (b.take a.length)
  | 0, i, c, d, hk, hi, hc, hd, hv => by
    obtain rfl : i = a.length := by omega
    exact ⟨c, d, lp_done (by simp [m_triviumref02_Sub_l1]), hi, hc, hd, by rw [hv, List.take_length]⟩
  | k + 1, i, c, d, hk, hi, hc, hd, hv => by
    have ga := gI_dig ha (by decide) (i : Int)
    have gb := gI_dig hb (by decide) (i : Int)
    generalize hx : gI a (i : Int) - c - gI b (i : Int) = x
    have e1 : m_triviumref02_Sub_l1 a b (c, (i : Int), d) = some (.inl (if x < 0 then 1 else 0, ((i + 1 : Nat) : Int), d ++ [if x < 0 then x + (10000 : Int) else x])) := by
      have a1 : decide ((i : Int) < (a.length : Int)) = true := decide_eq_true (by omega)
      have a2 : rd a (i : Int) = some (gI a (i : Int)) := rd_I (by omega) (by omega)
      have a3 : wi64 (gI a (i : Int) - c) = gI a (i : Int) - c := wi64_eq (by omega) (by omega)
      have a5 : wi64 ((i : Int) + 1) = ((i + 1 : Nat) : Int) := by rw [wi64_eq (by omega) (by omega)]; omega
      have a6 : (if decide ((i : Int) < (b.length : Int)) then (bd (rd b (i : Int)) fun x10 => some (wi64 ((wi64 (gI a (i : Int) - c)) - x10))) else some (wi64 (gI a (i : Int) - c))) = some x := by
        by_cases hib : i < b.length
        · rw [if_pos (by simp; omega), rd_I (by omega) (by omega), bd_some, a3, wi64_eq (by omega) (by omega), hx]
        · rw [if_neg (by simp; omega), a3]
          have : gI b (i : Int) = 0 := by unfold gI; rw [List.getD_eq_getElem?_getD, List.getElem?_eq_none (by omega)]; rfl
          rw [← hx, this]; simp
      have a7 : (if decide (x < 0) = true then some ((1 : Int), wi64 (x + 10000)) else some (0, x)) = some (if x < 0 then 1 else 0, if x < 0 then x + (10000 : Int) else x) := by
        by_cases h0 : x < 0
        · rw [if_pos (by simpa using h0), if_pos h0, if_pos h0, wi64_eq (by omega) (by omega)]
        · rw [if_neg (by simpa using h0), if_neg h0, if_neg h0]
      have a8 : ap 8 d [if x < 0 then x + (10000 : Int) else x] = some (d ++ [if x < 0 then x + (10000 : Int) else x]) := ap_of (by simp; omega)
      simp only [m_triviumref02_Sub_l1, a1, if_true, a2, bd_some, a6, a7, a8, a5]
    obtain ⟨c', d', r1, r2⟩ := refSub_loop a b ha hb hl k (i + 1) (if x < 0 then 1 else 0) (d ++ [if x < 0 then x + (10000 : Int) else x]) (by omega) (by simp [hi]) (by split <;> simp) (Dig.snoc hd (by split <;> omega)) (by
      rw [dv_snoc, take_gI (10000 : Int) a i (by omega), take_gI' (10000 : Int) b i, hi, Int.pow_succ]
      have h2 : (if x < 0 then x + (10000 : Int) else x) = x + (10000 : Int) * (if x < 0 then 1 else 0) := by split <;> omega
      rw [h2]
      generalize (if x < 0 then (1 : Int) else 0) = z
      subst hx
      generalize (10000 : Int) ^ i = p at *
      generalize dv (10000 : Int) (List.take i a) = T at *
      generalize dv (10000 : Int) (List.take i b) = U at *
      generalize gI a (i : Int) = g1 at *
      generalize gI b (i : Int) = g2 at *
      grind)
    exact ⟨c', d', by rw [lp_more e1]; exact r1, r2⟩
theorem refSub_eq (x y : Int) (hy : 0 ≤ y) (hxy : y ≤ x) (hl : (zl x).length ≤ 1000000000000) : m_triviumref02_Sub (zl x) (zl y) = some (zl (x - y)) := by
  obtain ⟨c', d', h1, h2, h3, h4, h5⟩ := refSub_loop (zl x) (zl y) (zl_can x).1 (zl_can y).1 hl _ 0 0 [] (Nat.zero_add _) rfl (.inl rfl) (Dig.nil _) (by simp [dv])
  have hm := zl_mono hy hxy
  rw [List.take_of_length_le hm, zl_dv (by omega), zl_dv hy] at h5
  have hc : c' = 0 := by
    rcases h3 with h3 | h3
    · exact h3
    · subst h3
      have := dv_lt (by decide) h4
      rw [h2] at this
      omega
  subst hc
  unfold m_triviumref02_Sub
  rw [show ((0 : Int), (0 : Int), ([] : List Int)) = ((0 : Int), ((0 : Nat) : Int), ([] : List Int)) from rfl, h1, bd_some, refTrim_eq d' (by omega), bd_some, trimz_zl (x := x - y) h4 (by rw [Int.mul_zero] at h5; omega)]
/-- a middle one is looked for -/
theorem refMid_loop (y r : Int) (hy : 0 < y) (hr : 0 ≤ r) (hq : r / y < 10000) (hl : (zl y).length ≤ 10000000000) (hl2 : (zl r).length ≤ 10000000000) : ∀ (n : Nat) (lo hi : Int), (hi - lo).toNat ≤ n → 0 ≤ lo → lo < hi → hi ≤ 10000 → lo ≤ r / y → r / y < hi → lp (m_triviumref02_Div_l2 (zl y) (zl r)) (lo, hi) = some (r / y)
  | n, lo, hi, hn, h0, h1, h2, h3, h4 => by
    by_cases hd : 1 < hi - lo
    · cases n with
      | zero => omega
      | succ n =>
        have b1 : wi64 (hi - lo) = hi - lo := wi64_eq (by omega) (by omega)
        have b2 : wi64 (lo + hi) = lo + hi := wi64_eq (by omega) (by omega)
        have b3 : qd .i64 (lo + hi) 2 = some ((lo + hi) / 2) := qd64 (by omega) (by omega) (by omega)
        generalize hm : (lo + hi) / 2 = m at b3
        have hm0 : lo < m := by omega
        have hm1 : m < hi := by omega
        have b4 := mulAdd_eq y m 0 (by omega) (by omega) (by omega) (Int.le_refl _) (by omega) (by omega)
        rw [Int.add_zero] at b4
        have hlen : (zl (y * m)).length ≤ 4611686018427387904 := by
          have h5 := dv_lt (by decide) (zl_can y).1
          rw [zl_dv (by omega)] at h5
          have h6 : y * m ≤ y * 10000 := Int.mul_le_mul_of_nonneg_left (by omega) (by omega)
          have := zl_len (x := y * m) (Int.mul_nonneg (by omega) (by omega)) (n := (zl y).length + 1) (by rw [Int.pow_succ]; omega)
          omega
        have b5 := refCmp_eq (y * m) r (Int.mul_nonneg (by omega) (by omega)) hr hlen
        have key : (sg (y * m - r) ≤ 0) ↔ m ≤ r / y := by
          rw [Int.le_ediv_iff_mul_le hy, Int.mul_comm m y]
          unfold sg
          split <;> (try split) <;> omega
        have e : m_triviumref02_Div_l2 (zl y) (zl r) (lo, hi) = if m ≤ r / y then some (.inl (m, hi)) else some (.inl (lo, m)) := by
          simp only [m_triviumref02_Div_l2, b1, b2, b3, b4, b5, bd_some, decide_eq_true_eq, hd, if_true, key]
        by_cases hk : m ≤ r / y
        · rw [lp_more (by rw [e, if_pos hk])]
          exact refMid_loop y r hy hr hq hl hl2 n m hi (by omega) (by omega) hm1 h2 hk h4
        · rw [lp_more (by rw [e, if_neg hk])]
          exact refMid_loop y r hy hr hq hl hl2 n lo m (by omega) h0 hm0 (by omega) h3 (by omega)
    · have b1 : wi64 (hi - lo) = hi - lo := wi64_eq (by omega) (by omega)
      have : lo = r / y := by omega
      have e : m_triviumref02_Div_l2 (zl y) (zl r) (lo, hi) = some (.inr lo) := by
        simp only [m_triviumref02_Div_l2, b1]
        rw [if_neg (by simpa using hd)]
      rw [lp_done e, this]
theorem set_down (q : List Int) (j : Nat) (v : Int) : (List.replicate (j + 1) 0 ++ q).set j v = List.replicate j 0 ++ v :: q := by
  rw [List.set_append_left _ _ (by simp), show List.replicate (j + 1) (0 : Int) = List.replicate j 0 ++ [0] from List.replicate_succ', List.set_append_right _ _ (by simp)]
  simp
theorem refDiv_loop (x y : Int) (hx : 0 ≤ x) (hy : 0 < y) (hlx : (zl x).length ≤ 1000000000) (hly : (zl y).length ≤ 1000000000) : ∀ (n : Nat) (r : Int) (q : List Int), n ≤ (zl x).length → 0 ≤ r → r < y → q.length + n = (zl x).length → Dig (10000 : Int) q → dv (10000 : Int) ((zl x).drop n) = dv (10000 : Int) q * y + r →
    ∃ q', lp (m_triviumref02_Div_l1 (zl x) (zl y)) (zl r, (n : Int) - 1, List.replicate n 0 ++ q) = some (zl (x % y), q') ∧ q'.length = (zl x).length ∧ Dig (10000 : Int) q' ∧ dv (10000 : Int) q' = x / y
  | 0, r, q, hn, h0, h1, hq, hd, hv => by
    rw [List.drop_zero, zl_dv hx] at hv
    have e := Int.ediv_emod_unique (a := x) (b := y) (r := r) (q := dv (10000 : Int) q) hy
    obtain ⟨e1, e2⟩ := e.2 ⟨by rw [hv, Int.mul_comm y]; omega, h0, h1⟩
    exact ⟨q, lp_done (by simp [m_triviumref02_Div_l1, e2]), by omega, hd, e1.symm⟩
  | n + 1, r, q, hn, h0, h1, hq, hd, hv => by
    have g := gI_dig (zl_can x).1 (by decide) (n : Int)
    generalize hs : gI (zl x) (n : Int) + (10000 : Int) * r = s
    have hs0 : 0 ≤ s := by omega
    have hsy : s < (10000 : Int) * y := by omega
    have hqd : s / y < 10000 := Int.ediv_lt_of_lt_mul hy hsy
    have hqd0 : 0 ≤ s / y := Int.ediv_nonneg hs0 (by omega)
    have hrl : (zl r).length ≤ 1000000000 := Nat.le_trans (zl_mono h0 (by omega)) hly
    have hsl : (zl s).length ≤ 10000000000 := by
      have h5 := dv_lt (by decide) (zl_can y).1
      rw [zl_dv (by omega)] at h5
      have := zl_len hs0 (n := (zl y).length + 1) (by rw [Int.pow_succ]; omega)
      omega
    have a0 : ((n + 1 : Nat) : Int) - 1 = (n : Int) := by omega
    have a1 : decide ((0 : Int) ≤ (n : Int)) = true := decide_eq_true (by omega)
    have a2 : rd (zl x) (n : Int) = some (gI (zl x) (n : Int)) := rd_I (by omega) (by omega)
    have a3 : ap 8 [gI (zl x) (n : Int)] (zl r) = some (gI (zl x) (n : Int) :: zl r) := by rw [ap_of (by simp; omega)]; rfl
    have a4 : m_triviumref02_Trim (gI (zl x) (n : Int) :: zl r) = some (zl s) := by
      rw [refTrim_eq _ (by simp; omega), trimz_zl (Dig.cons g (zl_can r).1) (by rw [dv_cons, zl_dv h0, hs])]
    have a5 := refMid_loop y s hy hs0 hqd (by omega) hsl 10000 0 10000 (by omega) (Int.le_refl _) (by omega) (Int.le_refl _) hqd0 hqd
    have a6 : ix (List.replicate (n + 1) 0 ++ q) (n : Int) = some n := ix_nat (by simp; omega)
    have a7 := mulAdd_eq y (s / y) 0 (by omega) hqd0 (by omega) (Int.le_refl _) (by omega) (by omega)
    have hle : y * (s / y) ≤ s := Int.mul_ediv_self_le (by omega)
    have a8 := refSub_eq s (y * (s / y)) (Int.mul_nonneg (by omega) hqd0) hle (by omega)
    have a9 : s - y * (s / y) = s % y := by have := Int.mul_ediv_add_emod s y; omega
    have b1 : wi64 ((n : Int) - 1) = (n : Int) - 1 := wi64_eq (by omega) (by omega)
    have e : m_triviumref02_Div_l1 (zl x) (zl y) (zl r, ((n + 1 : Nat) : Int) - 1, List.replicate (n + 1) 0 ++ q) = some (.inl (zl (s % y), (n : Int) - 1, List.replicate n 0 ++ (s / y) :: q)) := by
      rw [a0]
      simp only [m_triviumref02_Div_l1, a1, if_true, a2, bd_some, a3, a4, a5, a6, lt_eq, set_down, a7, Int.add_zero, a8, a9, b1]
    rw [lp_more e]
    exact refDiv_loop x y hx hy hlx hly n (s % y) (s / y :: q) (by omega) (Int.emod_nonneg _ (by omega)) (Int.emod_lt_of_pos _ hy) (by simp; omega) (Dig.cons ⟨hqd0, hqd⟩ hd) (by
      rw [drop_gI (zl x) n (by omega), dv_cons, dv_cons, hv]
      have := Int.mul_ediv_add_emod s y
      generalize s / y = t at *
      generalize s % y = u at *
      generalize gI (zl x) (n : Int) = gg at *
      subst hs
      have h9 : u = gg + (10000 : Int) * r - y * t := by omega
      subst h9
      grind)
theorem refDiv_eq (x y : Int) (hx : 0 ≤ x) (hy : 0 < y) (hlx : (zl x).length ≤ 1000000000) (hly : (zl y).length ≤ 1000000000) : m_triviumref02_Div (zl x) (zl y) = some (zl (x / y), zl (x % y)) := by
  obtain ⟨q', h1, h2, h3, h4⟩ := refDiv_loop x y hx hy hlx hly (zl x).length 0 [] (Nat.le_refl _) (Int.le_refl _) hy (by simp) (Dig.nil _) (by rw [List.drop_length]; simp [dv])
  unfold m_triviumref02_Div
  rw [mk_of (by omega), bd_some, wi64_eq (by omega) (by omega)]
  rw [zl_zero, List.append_nil] at h1
  rw [show ((zl x).length : Int).toNat = (zl x).length by omega, h1, bd_some]
  dsimp only
  rw [refTrim_eq q' (by omega), bd_some, trimz_zl h3 h4]
theorem gcd_mod (x y : Int) (hx : 0 ≤ x) : Int.gcd y (x % y) = Int.gcd x y := by
  rw [Int.gcd_comm y, Int.gcd_comm x]
  have e : (x % y).natAbs = x.natAbs % y.natAbs := by rw [Int.natAbs_emod_of_nonneg hx]
  unfold Int.gcd
  rw [e, ← Nat.gcd_rec]
theorem refGcd_eq : ∀ (n : Nat) (x y : Int), y.toNat ≤ n → 0 ≤ x → 0 ≤ y → (zl x).length ≤ 1000000000 → (zl y).length ≤ 1000000000 → m_triviumref02_Gcd (zl x) (zl y) = some (zl (Int.gcd x y))
  | n, x, y, hn, hx, hy, hlx, hly => by
    have main : ∀ (n : Nat) (x y : Int), y.toNat ≤ n → 0 ≤ x → 0 ≤ y → (zl x).length ≤ 1000000000 → (zl y).length ≤ 1000000000 → lp m_triviumref02_Gcd_l1 (zl x, zl y) = some (zl (Int.gcd x y)) := by
      intro n
      induction n with
      | zero =>
        intro x y hn hx hy hlx hly
        obtain rfl : y = 0 := by omega
        have hxx : ((Int.gcd x 0 : Nat) : Int) = x := by rw [Int.gcd_zero_right]; omega
        have e : m_triviumref02_Gcd_l1 (zl x, zl 0) = some (.inr (zl x)) := by simp [m_triviumref02_Gcd_l1, zl_zero]
        rw [lp_done e, hxx]
      | succ n ih =>
        intro x y hn hx hy hlx hly
        by_cases h0 : y = 0
        · exact ih x y (by omega) hx hy hlx hly
        · have hpos : 0 < y := by omega
          have hne : zl y ≠ [] := fun h => h0 ((zl_nil hy).1 h)
          have hlen : 0 < (zl y).length := List.length_pos_iff.2 hne
          have e : m_triviumref02_Gcd_l1 (zl x, zl y) = some (.inl (zl y, zl (x % y))) := by
            simp only [m_triviumref02_Gcd_l1, decide_eq_true (show (0 : Int) < ((zl y).length : Int) by omega), if_true, refDiv_eq x y hx hpos hlx hly, bd_some]
          rw [lp_more e, ih y (x % y) (by have := Int.emod_lt_of_pos x hpos; have := Int.emod_nonneg x (show y ≠ 0 by omega); omega) hy (Int.emod_nonneg _ (by omega)) hly (Nat.le_trans (zl_mono (Int.emod_nonneg _ (by omega)) (by have := Int.emod_lt_of_pos x hpos; omega)) hly)]
          rw [gcd_mod x y hx]
    unfold m_triviumref02_Gcd
    rw [main n x y hn hx hy hlx hly]
    rfl
theorem refDivSmall_loop (x d : Int) (hx : 0 ≤ x) (hd0 : 0 < d) (hd1 : d ≤ 4294967296) (hl : (zl x).length ≤ 1000000000000) : ∀ (n : Nat) (r : Int) (q : List Int), n ≤ (zl x).length → 0 ≤ r → r < d → q.length + n = (zl x).length → Dig (10000 : Int) q → dv (10000 : Int) ((zl x).drop n) = dv (10000 : Int) q * d + r →
    ∃ q', lp (m_triviumref02_DivSmall_l1 (zl x) d) (r, (n : Int) - 1, List.replicate n 0 ++ q) = some (x % d, q') ∧ q'.length = (zl x).length ∧ Dig (10000 : Int) q' ∧ dv (10000 : Int) q' = x / d
  | 0, r, q, hn, h0, h1, hq, hd, hv => by
    rw [List.drop_zero, zl_dv hx] at hv
    have e := Int.ediv_emod_unique (a := x) (b := d) (r := r) (q := dv (10000 : Int) q) hd0
    obtain ⟨e1, e2⟩ := e.2 ⟨by rw [hv, Int.mul_comm d]; omega, h0, h1⟩
    exact ⟨q, lp_done (by simp [m_triviumref02_DivSmall_l1, e2]), by omega, hd, e1.symm⟩
  | n + 1, r, q, hn, h0, h1, hq, hd, hv => by
    have g := gI_dig (zl_can x).1 (by decide) (n : Int)
    generalize hs : (10000 : Int) * r + gI (zl x) (n : Int) = s
    have hs0 : 0 ≤ s := by omega
    have hsy : s < (10000 : Int) * d := by omega
    have hqd : s / d < 10000 := Int.ediv_lt_of_lt_mul hd0 hsy
    have hqd0 : 0 ≤ s / d := Int.ediv_nonneg hs0 (by omega)
    have a0 : ((n + 1 : Nat) : Int) - 1 = (n : Int) := by omega
    have a1 : decide ((0 : Int) ≤ (n : Int)) = true := decide_eq_true (by omega)
    have a2 : rd (zl x) (n : Int) = some (gI (zl x) (n : Int)) := rd_I (by omega) (by omega)
    have a3 : wi64 ((wi64 (10000 * r)) + gI (zl x) (n : Int)) = s := by rw [wi64_eq (x := 10000 * r) (by omega) (by omega), hs, wi64_eq (by omega) (by omega)]
    have a4 : qd .i64 s d = some (s / d) := qd64 hs0 hd0 (by omega)
    have a5 : rm .i64 s d = some (s % d) := rm_of hs0 hd0
    have a6 : ix (List.replicate (n + 1) 0 ++ q) (n : Int) = some n := ix_nat (by simp; omega)
    have b1 : wi64 ((n : Int) - 1) = (n : Int) - 1 := wi64_eq (by omega) (by omega)
    have e : m_triviumref02_DivSmall_l1 (zl x) d (r, ((n + 1 : Nat) : Int) - 1, List.replicate (n + 1) 0 ++ q) = some (.inl (s % d, (n : Int) - 1, List.replicate n 0 ++ (s / d) :: q)) := by
      rw [a0]
      simp only [m_triviumref02_DivSmall_l1, a1, if_true, a2, bd_some, a3, a4, a5, a6, lt_eq, set_down, b1]
    rw [lp_more e]
    exact refDivSmall_loop x d hx hd0 hd1 hl n (s % d) (s / d :: q) (by omega) (Int.emod_nonneg _ (by omega)) (Int.emod_lt_of_pos _ hd0) (by simp; omega) (Dig.cons ⟨hqd0, hqd⟩ hd) (by
      rw [drop_gI (zl x) n (by omega), dv_cons, dv_cons, hv]
      have := Int.mul_ediv_add_emod s d
      generalize s / d = t at *
      generalize s % d = u at *
      generalize gI (zl x) (n : Int) = gg at *
      subst hs
      have h9 : u = (10000 : Int) * r + gg - d * t := by omega
      subst h9
      grind)
theorem refDivSmall_eq (x d : Int) (hx : 0 ≤ x) (hd0 : 0 < d) (hd1 : d ≤ 4294967296) (hl : (zl x).length ≤ 1000000000000) : m_triviumref02_DivSmall (zl x) d = some (zl (x / d), x % d) := by
  obtain ⟨q', h1, h2, h3, h4⟩ := refDivSmall_loop x d hx hd0 hd1 hl (zl x).length 0 [] (Nat.le_refl _) (Int.le_refl _) hd0 (by simp) (Dig.nil _) (by rw [List.drop_length]; simp [dv])
  unfold m_triviumref02_DivSmall
  rw [mk_of (by omega), bd_some, wi64_eq (by omega) (by omega)]
  rw [List.append_nil] at h1
  rw [show ((zl x).length : Int).toNat = (zl x).length by omega, h1, bd_some]
  dsimp only
  rw [refTrim_eq q' (by omega), bd_some, trimz_zl h3 h4]
theorem refBack_loop : ∀ (n : Nat) (x : Int) (d : List Int), 0 ≤ x → x.toNat ≤ n → (zl x).length ≤ 100000000000 → Dig (4294967296 : Int) d → d.length + (nl x).length ≤ 1000000000000 →
    ∃ r, lp m_triviumref02_Back_l1 (zl x, d) = some r ∧ r = d ++ nl x
  | n, x, d, h0, hn, hl, hd, hd2 => by
    by_cases hx : x = 0
    · subst hx
      exact ⟨d, lp_done (by simp [m_triviumref02_Back_l1, zl_zero]), by simp [nl_zero]⟩
    · cases n with
      | zero => omega
      | succ n =>
        have hpos : 0 < x := by omega
        have hlen : 0 < (zl x).length := List.length_pos_iff.2 (fun h => hx ((zl_nil h0).1 h))
        have hm : x % (4294967296 : Int) < (4294967296 : Int) := Int.emod_lt_of_pos _ (by decide)
        have hm0 : 0 ≤ x % (4294967296 : Int) := Int.emod_nonneg _ (by decide)
        have hnl : nl x = (x % (4294967296 : Int)) :: nl (x / (4294967296 : Int)) := by
          show num 4294967296 x.toNat = _
          rw [num, dif_pos ⟨by decide, by omega⟩]
          unfold nl
          congr 1
          · omega
          · congr 1; omega
        have a1 : wu64 (x % (4294967296 : Int)) = x % (4294967296 : Int) := wu64_eq hm0 (by omega)
        have a2 : ap 8 d [x % (4294967296 : Int)] = some (d ++ [x % (4294967296 : Int)]) := ap_of (by simp; omega)
        have e : m_triviumref02_Back_l1 (zl x, d) = some (.inl (zl (x / (4294967296 : Int)), d ++ [x % (4294967296 : Int)])) := by
          simp only [m_triviumref02_Back_l1, decide_eq_true (show (0 : Int) < ((zl x).length : Int) by omega), if_true, refDivSmall_eq x (4294967296 : Int) h0 (by decide) (Int.le_refl _) (by omega), bd_some, a1, a2]
        have hq : x / (4294967296 : Int) < x := Int.ediv_lt_of_lt_mul (by decide) (by omega)
        have hq0 : 0 ≤ x / (4294967296 : Int) := Int.ediv_nonneg h0 (by decide)
        rw [hnl] at hd2
        obtain ⟨r, r1, r2⟩ := refBack_loop n (x / (4294967296 : Int)) (d ++ [x % (4294967296 : Int)]) hq0 (by omega) (Nat.le_trans (zl_mono hq0 (by omega)) hl) (Dig.snoc hd ⟨hm0, hm⟩) (by simp at hd2 ⊢; omega)
        exact ⟨r, by rw [lp_more e]; exact r1, by rw [r2, hnl]; simp⟩
theorem nl_zl_len {x : Int} (h : 0 ≤ x) : (nl x).length ≤ (zl x).length := by
  have h1 := dv_lt (by decide) (zl_can x).1
  rw [zl_dv h] at h1
  exact nl_len h (Int.lt_of_lt_of_le h1 (zb_lb _))
theorem zl_nl_len {x : Int} (h : 0 ≤ x) : (zl x).length ≤ 3 * (nl x).length := by
  have h1 := dv_lt (by decide) (nl_can x).1
  rw [nl_dv h] at h1
  exact zl_len h (Int.lt_of_lt_of_le h1 (lb_zb _))
theorem refBack_eq (x : Int) (hx : 0 ≤ x) (hl : (zl x).length ≤ 100000000000) : m_triviumref02_Back (zl x) = some (nl x) := by
  obtain ⟨r, h1, h2⟩ := refBack_loop x.toNat x [] hx (Nat.le_refl _) hl (Dig.nil _) (by have := nl_zl_len hx; simp; omega)
  unfold m_triviumref02_Back
  rw [h1, bd_some, h2, List.nil_append]
end Go.Proofs.YtbmogniipgmkiaaGreat.AP
/- What is cleaned: numbers, fractions. -/
namespace Go.Proofs.YtbmogniipgmkiaaGreat.AP
open Go Go.Proofs.YtbmogniipgmkiaaGreat.Tri
set_option linter.unusedVariables false
set_option linter.unusedSimpArgs false
/-- a loop that puts something of each of the first N behind a row -/
theorem lp_mapN {α β X : Type} {f : (Int × List β) → Option ((Int × List β) ⊕ X)} (l : List α) (N : Nat) (h : α → β) (e : Option X)
    (hs : ∀ (i : Nat) x acc, l[i]? = some x → i < N → acc.length = i → f ((i : Int), acc) = some (.inl ((i : Int) + 1, acc ++ [h x])))
    (he : lp f (((l.take N).length : Int), (l.take N).map h) = e) : lp f (0, []) = e := by
  have key : ∀ (k i : Nat), i + k = (l.take N).length → lp f ((i : Int), (l.take i).map h) = e := by
    intro k
    induction k with
    | zero =>
      intro i hk
      have hk : i = (l.take N).length := by omega
      have e1 : l.take i = l.take N := by rw [hk, List.take_eq_take_iff]; simp
      rw [e1, hk]; exact he
    | succ k ih =>
      intro i hk
      have hlt : i < l.length ∧ i < N := by simp at hk; omega
      have := hs i l[i] ((l.take i).map h) (List.getElem?_eq_getElem hlt.1) hlt.2 (by simp; omega)
      rw [lp_more this]
      have h2 := ih (i + 1) (by omega)
      rw [List.take_add_one, List.getElem?_eq_getElem hlt.1, List.map_append] at h2
      exact h2
  simpa using key _ 0 (by rw [Nat.zero_add])
theorem len_of_get {α : Type} {l : List α} {i : Nat} {x : α} (h : l[i]? = some x) : i < l.length := (List.getElem?_eq_some_iff.1 h).1
def Limbs (l : List Int) : Prop := ∀ x ∈ l, 0 ≤ x ∧ x < 18446744073709551616
def cleanL (l : List Int) (n : Nat) : List Int := trimz ((l.take n).map fun x => x % (4294967296 : Int))
theorem cleanL_can (l : List Int) (n : Nat) : Tri.Can (4294967296 : Int) (cleanL l n) := trimz_can fun x hx => by
  obtain ⟨y, _, rfl⟩ := List.mem_map.1 hx
  exact ⟨Int.emod_nonneg _ (by decide), Int.emod_lt_of_pos _ (by decide)⟩
def cleanV (l : List Int) (n : Nat) : Int := dv (4294967296 : Int) (cleanL l n)
theorem cleanL_nl (l : List Int) (n : Nat) : cleanL l n = nl (cleanV l n) := can_nl (cleanL_can l n) rfl
theorem cleanV_nonneg (l : List Int) (n : Nat) : 0 ≤ cleanV l n := dv_nonneg (by decide) (cleanL_can l n).1
theorem cleanV_lt (l : List Int) (n : Nat) : cleanV l n < (4294967296 : Int) ^ n := by
  have h1 := dv_lt (by decide) (cleanL_can l n).1
  have h2 : (cleanL l n).length ≤ n := by
    have h3 := trimz_length ((l.take n).map fun x => x % (4294967296 : Int))
    rw [List.length_map, List.length_take] at h3; unfold cleanL; omega
  exact Int.lt_of_lt_of_le h1 (pow_mono (by decide) h2)
theorem trim2_loop : ∀ (n : Nat) (a : List Int), a.length = n → n ≤ 4611686018427387904 → lp m_triviumref02_Clean_l2 a = some (trimz a)
  | 0, a, h, _ => by
    obtain rfl := List.eq_nil_of_length_eq_zero h
    rw [lp_go]; simp [m_triviumref02_Clean_l2, trimz]
  | n + 1, a, h, hn => by
    obtain ⟨d, x, rfl, hd⟩ := split_last h
    have e1 : wi64 (((d ++ [x]).length : Int) - 1) = (n : Int) := by rw [wi64_eq (by omega) (by omega)]; omega
    have e2 : rd (d ++ [x]) (n : Int) = some x := by rw [rd_I (by omega) (by omega), ← hd, gI_last]
    have e3 : decide ((0 : Int) < ((d ++ [x]).length : Int)) = true := decide_eq_true (by omega)
    have e4 : ct (d ++ [x]) 0 (n : Int) = some d := by rw [ct_of (by omega)]; simp [← hd]
    have e : m_triviumref02_Clean_l2 (d ++ [x]) = if x = 0 then some (.inl d) else some (.inr (d ++ [x])) := by
      simp only [m_triviumref02_Clean_l2, e3, if_true, e1, e2, bd_some, decide_eq_true_eq, e4]
    by_cases h0 : x = 0
    · subst h0
      rw [lp_more (by rw [e, if_pos rfl]), trimz_snoc_zero]
      exact trim2_loop n d hd (by omega)
    · rw [lp_done (by rw [e, if_neg h0]), trimz_of_top (Top.snoc.2 h0)]
theorem refClean_eq (l : List Int) (n : Nat) (hl : Limbs l) (hn : n ≤ 1000000) (hlen : l.length ≤ 9223372036854775807) : m_triviumref02_Clean l (n : Int) = some (nl (cleanV l n)) := by
  unfold m_triviumref02_Clean
  rw [lp_mapN l n (fun x => x % (4294967296 : Int)) (some ((l.take n).map fun x => x % (4294967296 : Int)))]
  · rw [bd_some, trim2_loop _ _ rfl (by simp; omega), bd_some, ← cleanL_nl]; rfl
  · intro i x acc hx hi ha
    have hlt := len_of_get hx
    have h0 := hl x (List.mem_of_getElem? hx)
    have e1 : decide ((i : Int) < (l.length : Int)) = true := decide_eq_true (by omega)
    have e2 : decide ((i : Int) < (n : Int)) = true := decide_eq_true (by omega)
    have e3 : rd l (i : Int) = some x := by rw [rd_nat]; exact hx
    have e4 : wi64 ((i : Int) + 1) = (i : Int) + 1 := wi64_eq (by omega) (by omega)
    simp only [m_triviumref02_Clean_l1, e1, if_true, e2, bd_some, e3, rm_of h0.1 (show (0 : Int) < 4294967296 by decide), ap_of (l := acc) (m := [x % 4294967296]) (b := 8) (by simp; omega), e4]
  · refine lp_done ?_
    by_cases hle : l.length ≤ n
    · have e1 : decide (((l.take n).length : Int) < (l.length : Int)) = false := decide_eq_false (by simp; omega)
      simp only [m_triviumref02_Clean_l1, e1, bd_some]; rfl
    · have e1 : decide (((l.take n).length : Int) < (l.length : Int)) = true := decide_eq_true (by simp; omega)
      have e2 : decide (((l.take n).length : Int) < (n : Int)) = false := decide_eq_false (by simp; omega)
      simp only [m_triviumref02_Clean_l1, e1, if_true, e2, bd_some]; rfl
/-- a number with a sign -/
def zI (z : Int) : D_api_Int := (decide (z < 0), nl (z.natAbs : Int))
def zZ (z : Int) : D_triviumref07_Z := (decide (z < 0), zl (z.natAbs : Int))
/-- a fraction -/
def rI (a b : Int) : D_api_Rat := (zI a, nl b)
def rQ (a b : Int) : D_triviumref08_Q := (zZ a, zl b)
def cleanZ (p : D_api_Int) (n : Nat) : Int := if p.1 then -cleanV p.2 n else cleanV p.2 n
theorem cleanZ_abs (p : D_api_Int) (n : Nat) : ((cleanZ p n).natAbs : Int) = cleanV p.2 n := by
  have := cleanV_nonneg p.2 n
  unfold cleanZ; split <;> omega
theorem neg_or_nil {x : Int} (h : 0 ≤ x) : decide (0 < ((nl x).length : Int)) = decide (0 < x) := by
  have := nl_nil h
  by_cases hx : x = 0
  · rw [this.2 hx]; simp [hx]
  · have : nl x ≠ [] := fun e => hx (this.1 e)
    have := List.length_pos_iff.2 this
    rw [decide_eq_true (by omega), decide_eq_true (by omega)]
theorem neg_or_zl {x : Int} (h : 0 ≤ x) : decide (0 < ((zl x).length : Int)) = decide (0 < x) := by
  have := zl_nil h
  by_cases hx : x = 0
  · rw [this.2 hx]; simp [hx]
  · have : zl x ≠ [] := fun e => hx (this.1 e)
    have := List.length_pos_iff.2 this
    rw [decide_eq_true (by omega), decide_eq_true (by omega)]
theorem ref07Clean_eq (p : D_api_Int) (n : Nat) (hl : Limbs p.2) (hn : n ≤ 1000000) (hlen : p.2.length ≤ 9223372036854775807) : m_triviumref07_Clean p (n : Int) = some (zI (cleanZ p n)) := by
  unfold m_triviumref07_Clean
  have h0 := cleanV_nonneg p.2 n
  rw [refClean_eq p.2 n hl hn hlen, bd_some]
  unfold zI
  rw [cleanZ_abs]
  unfold cleanZ
  by_cases hp : p.1 = true
  · rw [if_pos hp, if_pos hp, neg_or_nil h0]; congr 2; rw [decide_eq_decide]; omega
  · rw [if_neg hp, if_neg hp]; congr 2; rw [decide_eq_false (by omega)]
theorem ref07Made_eq (b : Bool) (x : Int) (h : 0 ≤ x) : m_triviumref07_made b (zl x) = some (zZ (if b then -x else x)) := by
  unfold m_triviumref07_made zZ
  cases b with
  | true => rw [if_pos rfl, if_pos rfl, neg_or_zl h]; rw [show (((-x).natAbs : Nat) : Int) = x by omega]; congr 2; rw [decide_eq_decide]; omega
  | false => rw [if_neg (by decide), if_neg (by decide), decide_eq_false (by omega), show ((x.natAbs : Nat) : Int) = x by omega]
theorem signed (z : Int) : (if decide (z < 0) = true then -(z.natAbs : Int) else (z.natAbs : Int)) = z := by
  by_cases h : z < 0
  · rw [if_pos (decide_eq_true h)]; omega
  · rw [if_neg (by simpa using h)]; omega
theorem ref07Of_eq (z : Int) (hl : (nl (z.natAbs : Int)).length ≤ 30000000000) : m_triviumref07_Of (zI z) = some (zZ z) := by
  unfold m_triviumref07_Of
  show bd (m_triviumref02_Of (nl (z.natAbs : Int))) _ = _
  rw [refOf_eq _ (by omega) hl, bd_some, ref07Made_eq _ _ (by omega), bd_some]
  show some (zZ (if decide (z < 0) = true then -(z.natAbs : Int) else (z.natAbs : Int))) = _
  rw [signed]
theorem ref07Back_eq (z : Int) (hl : (zl (z.natAbs : Int)).length ≤ 100000000000) : m_triviumref07_Back (zZ z) = some (zI z) := by
  unfold m_triviumref07_Back
  show bd (m_triviumref02_Back (zl (z.natAbs : Int))) _ = _
  rw [refBack_eq _ (by omega) hl, bd_some]
  rfl
theorem gcd_abs (a b : Int) : Int.gcd (a.natAbs : Int) b = Int.gcd a b := by
  unfold Int.gcd; rw [Int.natAbs_natCast]
theorem ref08Low_eq (a b : Int) (hb : 0 < b) (hla : (zl (a.natAbs : Int)).length ≤ 100000000) (hlb : (zl b).length ≤ 100000000) : m_triviumref08_Low (zZ a) (zl b) = some (rQ (a / Int.gcd a b) (b / Int.gcd a b)) := by
  unfold m_triviumref08_Low
  show bd (m_triviumref02_Gcd (zl (a.natAbs : Int)) (zl b)) _ = _
  have hg : 0 < (Int.gcd a b : Int) := by
    have := Int.gcd_pos_of_ne_zero_right a (show b ≠ 0 by omega); omega
  have hgb : (Int.gcd a b : Int) ≤ b := Int.le_of_dvd hb (Int.gcd_dvd_right a b)
  have hgl : (zl (Int.gcd a b : Int)).length ≤ 100000000 := Nat.le_trans (zl_mono (by omega) hgb) hlb
  rw [refGcd_eq b.toNat _ b (Nat.le_refl _) (by omega) (by omega) (by omega) (by omega), bd_some, gcd_abs]
  show bd (m_triviumref02_Div (zl (a.natAbs : Int)) _) _ = _
  rw [refDiv_eq _ _ (by omega) hg (by omega) (by omega), bd_some]
  rw [refDiv_eq _ _ (by omega) hg (by omega) (by omega), bd_some]
  have hd : (Int.gcd a b : Int) ∣ a := Int.gcd_dvd_left a b
  generalize (Int.gcd a b : Int) = g at *
  obtain ⟨q, rfl⟩ := hd
  have e1 : g * q / g = q := Int.mul_ediv_cancel_left q (by omega)
  have e2 : ((g * q).natAbs : Int) / g = (q.natAbs : Int) := by
    rw [Int.natAbs_mul, Int.natCast_mul, show ((g.natAbs : Nat) : Int) = g by omega, Int.mul_ediv_cancel_left _ (by omega)]
  have e3 : (g * q < 0) ↔ (q < 0) := by
    constructor
    · intro h; apply Int.lt_of_not_ge; intro h2; have := Int.mul_nonneg (Int.le_of_lt hg) h2; omega
    · intro h; exact Int.mul_neg_of_pos_of_neg hg h
  rw [e1, e2]
  unfold rQ zZ
  dsimp only
  by_cases hq : q < 0
  · rw [if_pos (decide_eq_true (e3.2 hq)), neg_or_zl (by omega), decide_eq_true hq, decide_eq_true (by omega)]
  · rw [if_neg (by simp [e3]; omega), decide_eq_false hq]
theorem ref08Back_eq (a b : Int) (hb : 0 ≤ b) (hla : (zl (a.natAbs : Int)).length ≤ 100000000) (hlb : (zl b).length ≤ 100000000) : m_triviumref08_Back (rQ a b) = some (rI a b) := by
  unfold m_triviumref08_Back
  show bd (m_triviumref07_Back (zZ a)) _ = _
  rw [ref07Back_eq a (by omega), bd_some]
  show bd (m_triviumref02_Back (zl b)) _ = _
  rw [refBack_eq b hb (by omega), bd_some]
  rfl
/-- a fraction that is cleaned -/
def cleanB (p : D_api_Rat) (n : Nat) : Int := if cleanV p.2 n = 0 then 1 else cleanV p.2 n
def cleanN (p : D_api_Rat) (n : Nat) : Int := cleanZ p.1 n / Int.gcd (cleanZ p.1 n) (cleanB p n)
def cleanD (p : D_api_Rat) (n : Nat) : Int := cleanB p n / Int.gcd (cleanZ p.1 n) (cleanB p n)
theorem cleanB_pos (p : D_api_Rat) (n : Nat) : 0 < cleanB p n := by
  have := cleanV_nonneg p.2 n
  unfold cleanB; split <;> omega
theorem cleanB_lt (p : D_api_Rat) (n : Nat) (hn : 0 < n) : cleanB p n < (4294967296 : Int) ^ n := by
  have := cleanV_lt p.2 n
  unfold cleanB; split
  · have := pow_mono (B := (4294967296 : Int)) (by decide) hn
    rw [Int.pow_one] at this; omega
  · exact this
theorem cleanD_pos (p : D_api_Rat) (n : Nat) : 0 < cleanD p n := by
  have h := cleanB_pos p n
  have hg : 0 < (Int.gcd (cleanZ p.1 n) (cleanB p n) : Int) := by
    have := Int.gcd_pos_of_ne_zero_right (cleanZ p.1 n) (show cleanB p n ≠ 0 by omega); omega
  exact Int.ediv_pos_of_pos_of_dvd h (by omega) (Int.gcd_dvd_right _ _)
theorem cleanD_lt (p : D_api_Rat) (n : Nat) (hn : 0 < n) : cleanD p n < (4294967296 : Int) ^ n := by
  have := cleanB_lt p n hn
  have := Int.ediv_le_self (Int.gcd (cleanZ p.1 n) (cleanB p n) : Int) (Int.le_of_lt (cleanB_pos p n))
  unfold cleanD; omega
theorem cleanN_lt (p : D_api_Rat) (n : Nat) : ((cleanN p n).natAbs : Int) < (4294967296 : Int) ^ n := by
  have h1 := cleanV_lt p.1.2 n
  rw [← cleanZ_abs] at h1
  have : (cleanN p n).natAbs ≤ (cleanZ p.1 n).natAbs := by unfold cleanN; exact Int.natAbs_ediv_le_natAbs _ _
  omega
theorem clean_coprime (p : D_api_Rat) (n : Nat) : Int.gcd (cleanN p n) (cleanD p n) = 1 := by
  have h := cleanB_pos p n
  exact Int.gcd_ediv_gcd_ediv_gcd (Int.gcd_pos_of_ne_zero_right (cleanZ p.1 n) (show cleanB p n ≠ 0 by omega))
theorem ref08Clean_eq (p : D_api_Rat) (n : Nat) (h1 : Limbs p.1.2) (h2 : Limbs p.2) (hn0 : 0 < n) (hn : n ≤ 10000000) (hl1 : p.1.2.length ≤ 9223372036854775807) (hl2 : p.2.length ≤ 9223372036854775807) (hn' : n ≤ 1000000) :
    m_triviumref08_Clean p (n : Int) = some (rI (cleanN p n) (cleanD p n)) := by
  have hz : ∀ x : Int, 0 ≤ x → x < (4294967296 : Int) ^ n → (zl x).length ≤ 3 * n := fun x h0 h => zl_len h0 (Int.lt_of_lt_of_le h (lb_zb n))
  have hv := cleanV_lt p.1.2 n
  have hb := cleanB_lt p n hn0
  have hbp := cleanB_pos p n
  have e2 : (if decide (((nl (cleanV p.2 n)).length : Int) = 0) = true then some [(1 : Int)] else some (nl (cleanV p.2 n))) = some (nl (cleanB p n)) := by
    have hn := nl_nil (cleanV_nonneg p.2 n)
    unfold cleanB
    by_cases h0 : cleanV p.2 n = 0
    · rw [if_pos h0, hn.2 h0]; simp [nl, num]
    · rw [if_neg h0]
      have : (nl (cleanV p.2 n)) ≠ [] := fun e => h0 (hn.1 e)
      have := List.length_pos_iff.2 this
      rw [if_neg (by simp; omega)]
  unfold m_triviumref08_Clean
  rw [refClean_eq p.2 n h2 hn' hl2, bd_some, e2, bd_some]
  rw [show ((p.1.1, p.1.2) : D_api_Int) = p.1 from rfl, ref07Clean_eq p.1 n h1 hn' hl1, bd_some, ref07Of_eq _ (by rw [cleanZ_abs]; have := nl_len (cleanV_nonneg p.1.2 n) hv; omega), bd_some,
    refOf_eq _ (by omega) (by have := nl_len (Int.le_of_lt hbp) hb; omega), bd_some,
    ref08Low_eq _ _ hbp (by rw [cleanZ_abs]; have := hz _ (cleanV_nonneg p.1.2 n) hv; omega) (by have := hz _ (Int.le_of_lt hbp) hb; omega), bd_some]
  show bd (m_triviumref08_Back (rQ (cleanN p n) (cleanD p n))) _ = _
  rw [ref08Back_eq _ _ (Int.le_of_lt (cleanD_pos p n)) (by have := hz _ (by omega) (cleanN_lt p n); omega) (by have := hz _ (Int.le_of_lt (cleanD_pos p n)) (cleanD_lt p n hn0); omega), bd_some]
/-- what is clean stays -/
theorem cleanV_nl (x : Int) (h0 : 0 ≤ x) (n : Nat) (hx : x < (4294967296 : Int) ^ n) : cleanV (nl x) n = x := by
  unfold cleanV cleanL
  rw [List.take_of_length_le (nl_len h0 hx)]
  have : (nl x).map (fun y => y % (4294967296 : Int)) = nl x := by
    rw [List.map_congr_left (g := id)]
    · simp
    · intro y hy; have := (nl_can x).1 y hy; exact Int.emod_eq_of_lt this.1 this.2
  rw [this, trimz_dv, nl_dv h0]
theorem clean_rI (a b : Int) (n : Nat) (hb : 0 < b) (hbl : b < (4294967296 : Int) ^ n) (hal : (a.natAbs : Int) < (4294967296 : Int) ^ n) (hg : Int.gcd a b = 1) : cleanN (rI a b) n = a ∧ cleanD (rI a b) n = b := by
  have e1 : cleanZ (rI a b).1 n = a := by
    show (if decide (a < 0) = true then -cleanV (nl (a.natAbs : Int)) n else cleanV (nl (a.natAbs : Int)) n) = a
    rw [cleanV_nl _ (by omega) n hal, signed]
  have e2 : cleanB (rI a b) n = b := by
    show (if cleanV (nl b) n = 0 then 1 else cleanV (nl b) n) = b
    rw [cleanV_nl _ (by omega) n hbl, if_neg (by omega)]
  unfold cleanN cleanD
  rw [e1, e2, hg]
  simp
theorem limbs_nl (x : Int) : Limbs (nl x) := fun y hy => by have := (nl_can x).1 y hy; omega
end Go.Proofs.YtbmogniipgmkiaaGreat.AP
/- What is cleaned: networks and queries. -/
namespace Go.Proofs.YtbmogniipgmkiaaGreat.AP
open Go Go.Proofs.YtbmogniipgmkiaaGreat.Tri
set_option linter.unusedVariables false
set_option linter.unusedSimpArgs false
def short (s : ByteArray) : ByteArray := s.extract 0 (min s.size 20)
theorem short_size (s : ByteArray) : (short s).size ≤ 20 := by unfold short; rw [ByteArray.size_extract]; omega
theorem short_id {s : ByteArray} (h : s.size ≤ 20) : short s = s := by
  unfold short; rw [Nat.min_eq_left h]; exact ByteArray.extract_zero_size
theorem short_eq (s : ByteArray) : m_triviumref22_short s = some (short s) := by
  unfold m_triviumref22_short cs
  rw [if_pos (by omega), bd_some]
  unfold short
  congr 2; omega
def Rat_ok (p : D_api_Rat) : Prop := (Limbs p.1.2 ∧ p.1.2.length ≤ 9223372036854775807) ∧ Limbs p.2 ∧ p.2.length ≤ 9223372036854775807
def clRat (p : D_api_Rat) : D_api_Rat := rI (cleanN p 1) (cleanD p 1)
theorem clRat_eq (p : D_api_Rat) (h : Rat_ok p) : m_triviumref08_Clean p 1 = some (clRat p) :=
  ref08Clean_eq p 1 h.1.1 h.2.1 (by decide) (by decide) h.1.2 h.2.2 (by decide)
def clHop (h : D_api_Hop) : D_api_Hop := (short h.1, if h.2 < -1000000 ∨ 2147483648 < h.2 then 2 else h.2)
def clGroup (g : List D_api_Hop) : List D_api_Hop := (g.take 5).map clHop
def clRule (r : D_api_Rule) : D_api_Rule := (short r.1, r.2.1, r.2.2.1, (r.2.2.2.take 4).map clGroup)
def clNode (x : D_api_Node) : D_api_Node := (short x.1, x.2.take 3)
def clLink (x : D_api_Link) : D_api_Link := (short x.1, short x.2.1, short x.2.2.1, clRat x.2.2.2)
def clNet (x : D_api_Net) : D_api_Net := (short x.1, (x.2.1.take 5).map clNode, (x.2.2.1.take 8).map clLink, (x.2.2.2.take 8).map clRule)
def Big {α : Type} (l : List α) : Prop := l.length ≤ 9223372036854775807
theorem ends_N {α : Type} (l : List α) (N : Nat) (h : ¬ l.length ≤ N) : ((l.take N).length : Int) = N := by simp; omega
theorem ends_L {α : Type} (l : List α) (N : Nat) (h : l.length ≤ N) : ((l.take N).length : Int) = l.length := by simp; omega
theorem clGroup_loop (r : D_api_Rule) (k : Nat) (g : List D_api_Hop) (hg : r.2.2.2[k]? = some g) (hb : Big g) : lp (m_triviumref22_CleanRule_l2 r (k : Int)) (0, []) = some (clGroup g) := by
  have ek : rd r.2.2.2 (k : Int) = some g := by rw [rd_nat]; exact hg
  refine lp_mapN g 5 clHop _ ?_ ?_
  · intro i x acc hx hi ha
    have hlt := len_of_get hx
    have e1 : decide ((i : Int) < (g.length : Int)) = true := decide_eq_true (by omega)
    have e2 : decide ((i : Int) < 5) = true := decide_eq_true (by omega)
    have e3 : rd g (i : Int) = some x := by rw [rd_nat]; exact hx
    have e4 : wi64 ((i : Int) + 1) = (i : Int) + 1 := wi64_eq (by omega) (by omega)
    have e5 : (bd (bd (if decide (x.2 < (-1000000)) then (some true) else (some (decide (2147483648 < x.2)))) fun v23 => if v23 then some (2 : Int) else some x.2) fun v22 => some v22) = some (if x.2 < -1000000 ∨ 2147483648 < x.2 then 2 else x.2) := by
      by_cases h1 : x.2 < -1000000
      · simp [h1]
      · by_cases h2 : 2147483648 < x.2 <;> simp [h1, h2]
    have e6 : (bd (if decide (x.2 < (-1000000)) then (some true) else (some (decide (2147483648 < x.2)))) fun v23 => if v23 then some (2 : Int) else some x.2) = some (if x.2 < -1000000 ∨ 2147483648 < x.2 then 2 else x.2) := by
      by_cases h1 : x.2 < -1000000
      · simp [h1]
      · by_cases h2 : 2147483648 < x.2 <;> simp [h1, h2]
    simp only [m_triviumref22_CleanRule_l2, ek, bd_some, e1, if_true, e2, e3, e6, short_eq, ap_of (l := acc) (m := [(short x.1, if x.2 < -1000000 ∨ 2147483648 < x.2 then 2 else x.2)]) (b := 24) (by simp; omega), e4]
    rfl
  · refine lp_done ?_
    by_cases hle : g.length ≤ 5
    · have e1 : decide (((g.take 5).length : Int) < (g.length : Int)) = false := decide_eq_false (by rw [ends_L _ _ hle]; omega)
      simp only [m_triviumref22_CleanRule_l2, ek, bd_some, e1]; rfl
    · have e1 : decide (((g.take 5).length : Int) < (g.length : Int)) = true := decide_eq_true (by rw [ends_N _ _ hle]; omega)
      have e2 : decide (((g.take 5).length : Int) < 5) = false := decide_eq_false (by rw [ends_N _ _ hle]; omega)
      simp only [m_triviumref22_CleanRule_l2, ek, bd_some, e1, if_true, e2]; rfl
def Rule_ok (r : D_api_Rule) : Prop := Big r.2.2.2 ∧ ∀ g ∈ r.2.2.2, Big g
theorem clRule_eq (r : D_api_Rule) (h : Rule_ok r) : m_triviumref22_CleanRule r = some (clRule r) := by
  unfold m_triviumref22_CleanRule
  rw [short_eq, bd_some]
  rw [lp_mapN r.2.2.2 4 clGroup (some ((r.2.2.2.take 4).map clGroup))]
  · rfl
  · intro i x acc hx hi ha
    have hlt := len_of_get hx
    have e1 : decide ((i : Int) < (r.2.2.2.length : Int)) = true := decide_eq_true (by omega)
    have e2 : decide ((i : Int) < 4) = true := decide_eq_true (by omega)
    have e4 : wi64 ((i : Int) + 1) = (i : Int) + 1 := wi64_eq (by omega) (by omega)
    simp only [m_triviumref22_CleanRule_l1, bd_some, e1, if_true, e2, clGroup_loop r i x hx (h.2 x (List.mem_of_getElem? hx)), ap_of (l := acc) (m := [clGroup x]) (b := 24) (by simp; omega), e4]
  · refine lp_done ?_
    by_cases hle : r.2.2.2.length ≤ 4
    · have e1 : decide (((r.2.2.2.take 4).length : Int) < (r.2.2.2.length : Int)) = false := decide_eq_false (by rw [ends_L _ _ hle]; omega)
      simp only [m_triviumref22_CleanRule_l1, bd_some, e1]; rfl
    · have e1 : decide (((r.2.2.2.take 4).length : Int) < (r.2.2.2.length : Int)) = true := decide_eq_true (by rw [ends_N _ _ hle]; omega)
      have e2 : decide (((r.2.2.2.take 4).length : Int) < 4) = false := decide_eq_false (by rw [ends_N _ _ hle]; omega)
      simp only [m_triviumref22_CleanRule_l1, bd_some, e1, if_true, e2]; rfl
def Net_ok (x : D_api_Net) : Prop := (Big x.2.1 ∧ ∀ y ∈ x.2.1, Big y.2) ∧ (Big x.2.2.1 ∧ ∀ y ∈ x.2.2.1, Rat_ok y.2.2.2) ∧ Big x.2.2.2 ∧ ∀ y ∈ x.2.2.2, Rule_ok y
theorem clNodes_loop (x : D_api_Net) (h : Net_ok x) : lp (m_triviumref22_Clean_l2 x) (0, []) = some ((x.2.1.take 5).map clNode) := by
  refine lp_mapN x.2.1 5 clNode _ ?_ ?_
  · intro i y acc hx hi ha
    have hlt := len_of_get hx
    have hy := h.1.2 y (List.mem_of_getElem? hx)
    have e1 : decide ((i : Int) < (x.2.1.length : Int)) = true := decide_eq_true (by omega)
    have e2 : decide ((i : Int) < 5) = true := decide_eq_true (by omega)
    have e3 : rd x.2.1 (i : Int) = some y := by rw [rd_nat]; exact hx
    have e4 : wi64 ((i : Int) + 1) = (i : Int) + 1 := wi64_eq (by omega) (by omega)
    have e5 : ct y.2 0 (min (y.2.length : Int) 3) = some (y.2.take 3) := by
      rw [ct_of (by omega), show ((0 : Int)).toNat = 0 from rfl, List.drop_zero]
      congr 1
      rw [List.take_eq_take_iff]; omega
    have e6 : ap 16 [] (y.2.take 3) = some (y.2.take 3) := by rw [ap_of (by simp; omega)]; rfl
    simp only [m_triviumref22_Clean_l2, bd_some, e1, if_true, e2, e3, short_eq, e5, e6, ap_of (l := acc) (m := [(short y.1, y.2.take 3)]) (b := 40) (by simp; omega), e4]
    rfl
  · refine lp_done ?_
    by_cases hle : x.2.1.length ≤ 5
    · have e1 : decide (((x.2.1.take 5).length : Int) < (x.2.1.length : Int)) = false := decide_eq_false (by rw [ends_L _ _ hle]; omega)
      simp only [m_triviumref22_Clean_l2, bd_some, e1]; rfl
    · have e1 : decide (((x.2.1.take 5).length : Int) < (x.2.1.length : Int)) = true := decide_eq_true (by rw [ends_N _ _ hle]; omega)
      have e2 : decide (((x.2.1.take 5).length : Int) < 5) = false := decide_eq_false (by rw [ends_N _ _ hle]; omega)
      simp only [m_triviumref22_Clean_l2, bd_some, e1, if_true, e2]; rfl
theorem clLinks_loop (x : D_api_Net) (h : Net_ok x) : lp (m_triviumref22_Clean_l3 x) (0, []) = some ((x.2.2.1.take 8).map clLink) := by
  refine lp_mapN x.2.2.1 8 clLink _ ?_ ?_
  · intro i y acc hx hi ha
    have hlt := len_of_get hx
    have hy := h.2.1.2 y (List.mem_of_getElem? hx)
    have e1 : decide ((i : Int) < (x.2.2.1.length : Int)) = true := decide_eq_true (by omega)
    have e2 : decide ((i : Int) < 8) = true := decide_eq_true (by omega)
    have e3 : rd x.2.2.1 (i : Int) = some y := by rw [rd_nat]; exact hx
    have e4 : wi64 ((i : Int) + 1) = (i : Int) + 1 := wi64_eq (by omega) (by omega)
    have e5 : m_triviumref08_Clean ((y.2.2.2.1.1, y.2.2.2.1.2), y.2.2.2.2) 1 = some (clRat y.2.2.2) := clRat_eq y.2.2.2 hy
    simp only [m_triviumref22_Clean_l3, bd_some, e1, if_true, e2, e3, short_eq, e5, ap_of (l := acc) (m := [(short y.1, short y.2.1, short y.2.2.1, (((clRat y.2.2.2).1.1, (clRat y.2.2.2).1.2), (clRat y.2.2.2).2))]) (b := 104) (by simp; omega), e4]
    rfl
  · refine lp_done ?_
    by_cases hle : x.2.2.1.length ≤ 8
    · have e1 : decide (((x.2.2.1.take 8).length : Int) < (x.2.2.1.length : Int)) = false := decide_eq_false (by rw [ends_L _ _ hle]; omega)
      simp only [m_triviumref22_Clean_l3, bd_some, e1]; rfl
    · have e1 : decide (((x.2.2.1.take 8).length : Int) < (x.2.2.1.length : Int)) = true := decide_eq_true (by rw [ends_N _ _ hle]; omega)
      have e2 : decide (((x.2.2.1.take 8).length : Int) < 8) = false := decide_eq_false (by rw [ends_N _ _ hle]; omega)
      simp only [m_triviumref22_Clean_l3, bd_some, e1, if_true, e2]; rfl
theorem clRules_loop (x : D_api_Net) (h : Net_ok x) : lp (m_triviumref22_Clean_l4 x) (0, []) = some ((x.2.2.2.take 8).map clRule) := by
  refine lp_mapN x.2.2.2 8 clRule _ ?_ ?_
  · intro i y acc hx hi ha
    have hlt := len_of_get hx
    have hy := h.2.2.2 y (List.mem_of_getElem? hx)
    have e1 : decide ((i : Int) < (x.2.2.2.length : Int)) = true := decide_eq_true (by omega)
    have e2 : decide ((i : Int) < 8) = true := decide_eq_true (by omega)
    have e3 : rd x.2.2.2 (i : Int) = some y := by rw [rd_nat]; exact hx
    have e4 : wi64 ((i : Int) + 1) = (i : Int) + 1 := wi64_eq (by omega) (by omega)
    simp only [m_triviumref22_Clean_l4, bd_some, e1, if_true, e2, e3, clRule_eq y hy, ap_of (l := acc) (m := [clRule y]) (b := 64) (by simp; omega), e4]
  · refine lp_done ?_
    by_cases hle : x.2.2.2.length ≤ 8
    · have e1 : decide (((x.2.2.2.take 8).length : Int) < (x.2.2.2.length : Int)) = false := decide_eq_false (by rw [ends_L _ _ hle]; omega)
      simp only [m_triviumref22_Clean_l4, bd_some, e1]; rfl
    · have e1 : decide (((x.2.2.2.take 8).length : Int) < (x.2.2.2.length : Int)) = true := decide_eq_true (by rw [ends_N _ _ hle]; omega)
      have e2 : decide (((x.2.2.2.take 8).length : Int) < 8) = false := decide_eq_false (by rw [ends_N _ _ hle]; omega)
      simp only [m_triviumref22_Clean_l4, bd_some, e1, if_true, e2]; rfl
def clNets (l : List D_api_Net) : List D_api_Net := (l.take 3).map clNet
theorem clNets_eq (l : List D_api_Net) (hb : Big l) (h : ∀ x ∈ l, Net_ok x) : m_triviumref22_Clean l = some (clNets l) := by
  unfold m_triviumref22_Clean
  rw [lp_mapN l 3 clNet (some (clNets l))]
  · rfl
  · intro i x acc hx hi ha
    have hlt := len_of_get hx
    have hy := h x (List.mem_of_getElem? hx)
    have e1 : decide ((i : Int) < (l.length : Int)) = true := decide_eq_true (by omega)
    have e2 : decide ((i : Int) < 3) = true := decide_eq_true (by omega)
    have e3 : rd l (i : Int) = some x := by rw [rd_nat]; exact hx
    have e4 : wi64 ((i : Int) + 1) = (i : Int) + 1 := wi64_eq (by omega) (by omega)
    simp only [m_triviumref22_Clean_l1, bd_some, e1, if_true, e2, e3, short_eq, clNodes_loop x hy, clLinks_loop x hy, clRules_loop x hy, ap_of (l := acc) (m := [(short x.1, (x.2.1.take 5).map clNode, (x.2.2.1.take 8).map clLink, (x.2.2.2.take 8).map clRule)]) (b := 88) (by simp; omega), e4]
    rfl
  · refine lp_done ?_
    by_cases hle : l.length ≤ 3
    · have e1 : decide (((l.take 3).length : Int) < (l.length : Int)) = false := decide_eq_false (by rw [ends_L _ _ hle]; omega)
      simp only [m_triviumref22_Clean_l1, bd_some, e1]; rfl
    · have e1 : decide (((l.take 3).length : Int) < (l.length : Int)) = true := decide_eq_true (by rw [ends_N _ _ hle]; omega)
      have e2 : decide (((l.take 3).length : Int) < 3) = false := decide_eq_false (by rw [ends_N _ _ hle]; omega)
      simp only [m_triviumref22_Clean_l1, bd_some, e1, if_true, e2]; rfl
def clQuery (q : D_api_Query) : D_api_Query := (q.1, short q.2.1, short q.2.2.1, short q.2.2.2.1, q.2.2.2.2.1, q.2.2.2.2.2.1, if q.2.2.2.2.2.2 < -1000000 ∨ 2147483648 < q.2.2.2.2.2.2 then 3 else q.2.2.2.2.2.2)
theorem clQuery_eq (q : D_api_Query) : m_triviumref22_CleanQuery q = some (clQuery q) := by
  have e6 : (bd (if decide (q.2.2.2.2.2.2 < (-1000000)) then (some true) else (some (decide (2147483648 < q.2.2.2.2.2.2)))) fun v8 => if v8 then some (3 : Int) else some q.2.2.2.2.2.2) = some (if q.2.2.2.2.2.2 < -1000000 ∨ 2147483648 < q.2.2.2.2.2.2 then 3 else q.2.2.2.2.2.2) := by
    by_cases h1 : q.2.2.2.2.2.2 < -1000000
    · simp [h1]
    · by_cases h2 : 2147483648 < q.2.2.2.2.2.2 <;> simp [h1, h2]
  unfold m_triviumref22_CleanQuery
  rw [short_eq, bd_some, short_eq, bd_some, short_eq, bd_some, e6, bd_some]
  rfl
/-! what a cleaned network is -/
def Pfx (p : D_api_Prefix) : Prop := (0 ≤ p.1 ∧ p.1 < 4294967296) ∧ -9223372036854775808 ≤ p.2 ∧ p.2 ≤ 9223372036854775807
structure CRat (p : D_api_Rat) : Prop where
  is : ∃ a b : Int, p = rI a b ∧ 0 < b ∧ b < 4294967296 ∧ (a.natAbs : Int) < 4294967296 ∧ Int.gcd a b = 1
def CNode (x : D_api_Node) : Prop := x.1.size ≤ 20 ∧ x.2.length ≤ 3 ∧ ∀ p ∈ x.2, Pfx p
def CLink (x : D_api_Link) : Prop := x.1.size ≤ 20 ∧ x.2.1.size ≤ 20 ∧ x.2.2.1.size ≤ 20 ∧ CRat x.2.2.2
def CHop (x : D_api_Hop) : Prop := x.1.size ≤ 20 ∧ -1000000 ≤ x.2 ∧ x.2 ≤ 2147483648
def CGroup (g : List D_api_Hop) : Prop := g.length ≤ 5 ∧ ∀ x ∈ g, CHop x
def CRule (r : D_api_Rule) : Prop := r.1.size ≤ 20 ∧ Pfx r.2.1 ∧ r.2.2.2.length ≤ 4 ∧ ∀ g ∈ r.2.2.2, CGroup g
def CNet (x : D_api_Net) : Prop := x.1.size ≤ 20 ∧ (x.2.1.length ≤ 5 ∧ ∀ y ∈ x.2.1, CNode y) ∧ (x.2.2.1.length ≤ 8 ∧ ∀ y ∈ x.2.2.1, CLink y) ∧ x.2.2.2.length ≤ 8 ∧ ∀ y ∈ x.2.2.2, CRule y
def CNets (l : List D_api_Net) : Prop := l.length ≤ 3 ∧ ∀ x ∈ l, CNet x
theorem mem_takemap {α β : Type} {f : α → β} {l : List α} {n : Nat} {y : β} (h : y ∈ (l.take n).map f) : ∃ x ∈ l, y = f x := by
  obtain ⟨x, h1, rfl⟩ := List.mem_map.1 h
  exact ⟨x, List.mem_of_mem_take h1, rfl⟩
theorem takemap_len {α β : Type} (f : α → β) (l : List α) (n : Nat) : ((l.take n).map f).length ≤ n := by simp; omega
theorem takemap_id {α : Type} {f : α → α} {l : List α} {n : Nat} (hl : l.length ≤ n) (h : ∀ x ∈ l, f x = x) : (l.take n).map f = l := by
  rw [List.take_of_length_le hl]
  conv => rhs; rw [← List.map_id l]
  exact List.map_congr_left h
theorem clRat_C (p : D_api_Rat) : CRat (clRat p) := by
  have h1 := cleanD_lt p 1 (by decide)
  have h2 := cleanN_lt p 1
  rw [Int.pow_one] at h1 h2
  exact ⟨_, _, rfl, cleanD_pos p 1, h1, h2, clean_coprime p 1⟩
theorem clRat_id {p : D_api_Rat} (h : CRat p) : clRat p = p := by
  obtain ⟨a, b, rfl, h1, h2, h3, h4⟩ := h.is
  obtain ⟨e1, e2⟩ := clean_rI a b 1 h1 (by rw [Int.pow_one]; exact h2) (by rw [Int.pow_one]; exact h3) h4
  unfold clRat; rw [e1, e2]
theorem CRat.ok {p : D_api_Rat} (h : CRat p) : Rat_ok p := by
  obtain ⟨a, b, rfl, h1, h2, h3, h4⟩ := h.is
  have e1 := nl_len (x := (a.natAbs : Int)) (by omega) (n := 1) (by rw [Int.pow_one]; exact h3)
  have e2 := nl_len (x := b) (by omega) (n := 1) (by rw [Int.pow_one]; exact h2)
  exact ⟨⟨limbs_nl _, by show (nl (a.natAbs : Int)).length ≤ _; omega⟩, limbs_nl _, by show (nl b).length ≤ _; omega⟩
theorem clHop_C (h : D_api_Hop) : CHop (clHop h) := by
  refine ⟨short_size _, ?_, ?_⟩ <;> (unfold clHop; dsimp only; split <;> omega)
theorem clHop_id {h : D_api_Hop} (k : CHop h) : clHop h = h := by
  unfold clHop; rw [short_id k.1, if_neg (by have := k.2; omega)]
theorem clGroup_C (g : List D_api_Hop) : CGroup (clGroup g) := ⟨takemap_len _ _ _, fun x hx => by obtain ⟨y, _, rfl⟩ := mem_takemap hx; exact clHop_C y⟩
theorem clGroup_id {g : List D_api_Hop} (k : CGroup g) : clGroup g = g := takemap_id k.1 fun x hx => clHop_id (k.2 x hx)
def RuleP (r : D_api_Rule) : Prop := Pfx r.2.1
theorem clRule_C (r : D_api_Rule) (h : RuleP r) : CRule (clRule r) := ⟨short_size _, h, takemap_len _ _ _, fun x hx => by obtain ⟨y, _, rfl⟩ := mem_takemap hx; exact clGroup_C y⟩
theorem clRule_id {r : D_api_Rule} (k : CRule r) : clRule r = r := by
  unfold clRule; rw [short_id k.1, takemap_id k.2.2.1 fun x hx => clGroup_id (k.2.2.2 x hx)]
theorem clNode_C (x : D_api_Node) (h : ∀ p ∈ x.2, Pfx p) : CNode (clNode x) := ⟨short_size _, by show (x.2.take 3).length ≤ 3; simp; omega, fun p hp => h p (List.mem_of_mem_take hp)⟩
theorem clNode_id {x : D_api_Node} (k : CNode x) : clNode x = x := by
  unfold clNode; rw [short_id k.1, List.take_of_length_le k.2.1]
theorem clLink_C (x : D_api_Link) : CLink (clLink x) := ⟨short_size _, short_size _, short_size _, clRat_C _⟩
theorem clLink_id {x : D_api_Link} (k : CLink x) : clLink x = x := by
  unfold clLink; rw [short_id k.1, short_id k.2.1, short_id k.2.2.1, clRat_id k.2.2.2]
def NetP (x : D_api_Net) : Prop := (∀ y ∈ x.2.1, ∀ p ∈ y.2, Pfx p) ∧ ∀ y ∈ x.2.2.2, RuleP y
theorem clNet_C (x : D_api_Net) (h : NetP x) : CNet (clNet x) :=
  ⟨short_size _, ⟨takemap_len _ _ _, fun y hy => by obtain ⟨z, hz, rfl⟩ := mem_takemap hy; exact clNode_C z (h.1 z hz)⟩, ⟨takemap_len _ _ _, fun y hy => by obtain ⟨z, _, rfl⟩ := mem_takemap hy; exact clLink_C z⟩,
    takemap_len _ _ _, fun y hy => by obtain ⟨z, hz, rfl⟩ := mem_takemap hy; exact clRule_C z (h.2 z hz)⟩
theorem clNet_id {x : D_api_Net} (k : CNet x) : clNet x = x := by
  unfold clNet; rw [short_id k.1, takemap_id k.2.1.1 fun y hy => clNode_id (k.2.1.2 y hy), takemap_id k.2.2.1.1 fun y hy => clLink_id (k.2.2.1.2 y hy), takemap_id k.2.2.2.1 fun y hy => clRule_id (k.2.2.2.2 y hy)]
theorem clNets_C (l : List D_api_Net) (h : ∀ x ∈ l, NetP x) : CNets (clNets l) := ⟨takemap_len _ _ _, fun x hx => by obtain ⟨y, hy, rfl⟩ := mem_takemap hx; exact clNet_C y (h y hy)⟩
theorem clNets_id {l : List D_api_Net} (k : CNets l) : clNets l = l := takemap_id k.1 fun x hx => clNet_id (k.2 x hx)
theorem CNet.ok {x : D_api_Net} (k : CNet x) : Net_ok x := by
  obtain ⟨h1, ⟨h2, h3⟩, ⟨h4, h5⟩, h6, h7⟩ := k
  refine ⟨⟨by unfold Big; omega, fun y hy => by have := (h3 y hy).2.1; unfold Big; omega⟩, ⟨by unfold Big; omega, fun y hy => (h5 y hy).2.2.2.ok⟩, by unfold Big; omega, fun y hy => ⟨by have := (h7 y hy).2.2.1; unfold Big; omega, fun g hg => by have := ((h7 y hy).2.2.2 g hg).1; unfold Big; omega⟩⟩
theorem again_eq {l : List D_api_Net} (k : CNets l) : m_triviumref22_Clean l = some l := by
  rw [clNets_eq l (by have := k.1; unfold Big; omega) (fun x hx => (k.2 x hx).ok), clNets_id k]
/-! values as they are handed in -/
theorem int_rng {k : IntKind} {n : Int} (h : (Lit.int k n).wf = true) : k.min ≤ n ∧ n ≤ k.max := by
  have h : (decide (k.min ≤ n) && decide (n ≤ k.max)) = true := h
  rw [Bool.and_eq_true, decide_eq_true_eq, decide_eq_true_eq] at h
  exact h
theorem int_i64 {n : Int} (h : (Lit.int .i64 n).wf = true) : -9223372036854775808 ≤ n ∧ n ≤ 9223372036854775807 := int_rng h
theorem int_u32 {n : Int} (h : (Lit.int .u32 n).wf = true) : 0 ≤ n ∧ n < 4294967296 := ⟨(int_rng h).1, Int.lt_add_one_of_le (int_rng h).2⟩
theorem int_u64 {n : Int} (h : (Lit.int .u64 n).wf = true) : 0 ≤ n ∧ n < 18446744073709551616 := ⟨(int_rng h).1, Int.lt_add_one_of_le (int_rng h).2⟩
end Go.Proofs.YtbmogniipgmkiaaGreat.AP
/- What is handed in may be cleaned. -/
namespace Go.Proofs.YtbmogniipgmkiaaGreat.AE
open Go Go.Proofs.YtbmogniipgmkiaaGreat.AP
set_option linter.unusedVariables false
set_option linter.unusedSimpArgs false
theorem ok_mem {t : Ty} {l : List t.den} (h : (Ty.sl t).ok l) : ∀ x ∈ l, t.ok x := fun x hx => by
  obtain ⟨i, hi⟩ := List.getElem?_of_mem hx
  exact h.2 i x hi
theorem ok_limbs {l : List Int} (h : (Ty.sl (.int .u64)).ok l) : Limbs l := fun x hx => int_u64 (ok_mem (t := .int .u64) h x hx)
theorem ok_rat {x : D_api_Rat} (h : Ty.ok Y_api_Rat x) : Rat_ok x := ⟨⟨ok_limbs h.1.2, h.1.2.1⟩, ok_limbs h.2, h.2.1⟩
theorem ok_pfx {x : D_api_Prefix} (h : Ty.ok Y_api_Prefix x) : Pfx x := ⟨int_u32 h.1, int_i64 h.2⟩
theorem ok_rule {x : D_api_Rule} (h : Ty.ok Y_api_Rule x) : Rule_ok x ∧ RuleP x :=
  ⟨⟨h.2.2.2.1, fun g hg => (ok_mem (t := .sl Y_api_Hop) h.2.2.2 g hg).1⟩, ok_pfx h.2.1⟩
theorem ok_net {x : D_api_Net} (h : Ty.ok Y_api_Net x) : Net_ok x ∧ NetP x :=
  ⟨⟨⟨h.2.1.1, fun y hy => (ok_mem (t := Y_api_Node) h.2.1 y hy).2.1⟩, ⟨h.2.2.1.1, fun y hy => ok_rat (ok_mem (t := Y_api_Link) h.2.2.1 y hy).2.2.2⟩, h.2.2.2.1, fun y hy => (ok_rule (ok_mem (t := Y_api_Rule) h.2.2.2 y hy)).1⟩,
    fun y hy p hp => ok_pfx (ok_mem (t := Y_api_Prefix) (ok_mem (t := Y_api_Node) h.2.1 y hy).2 p hp), fun y hy => (ok_rule (ok_mem (t := Y_api_Rule) h.2.2.2 y hy)).2⟩
theorem ok_nets {l : List D_api_Net} (h : Ty.ok (.sl Y_api_Net) l) : m_triviumref22_Clean l = some (clNets l) ∧ CNets (clNets l) :=
  ⟨clNets_eq l h.1 fun x hx => (ok_net (ok_mem (t := Y_api_Net) h x hx)).1, clNets_C l fun x hx => (ok_net (ok_mem (t := Y_api_Net) h x hx)).2⟩
end Go.Proofs.YtbmogniipgmkiaaGreat.AE
/- Masks and prefixes, plain. -/
namespace Go.Proofs.YtbmogniipgmkiaaGreat.AP
open Go
set_option linter.unusedVariables false
set_option linter.unusedSimpArgs false
/-- how many addresses begin with the same n bits -/
def S32 (n : Int) : Int := 2 ^ (32 - n).toNat

theorem S32_pos (n : Int) : 0 < S32 n := Int.pow_pos (by decide)
theorem S32_le (n : Int) (h : 0 ≤ n) : S32 n ≤ 4294967296 := by
  have h1 : (32 - n).toNat ≤ 32 := by omega
  obtain ⟨d, hd⟩ := Nat.exists_eq_add_of_le h1
  have h2 : (4294967296 : Int) = 2 ^ (32 - n).toNat * 2 ^ d := by rw [← Int.pow_add, ← hd]; decide
  have h3 : (1 : Int) ≤ 2 ^ d := by have : (0 : Int) < 2 ^ d := Int.pow_pos (by decide); omega
  have h4 : (0 : Int) < 2 ^ (32 - n).toNat := Int.pow_pos (by decide)
  unfold S32
  rw [h2]
  have := Int.mul_le_mul_of_nonneg_left h3 (Int.le_of_lt h4)
  omega
theorem S32_dvd {m n : Int} (h : n ≤ m) : ∃ c, 0 < c ∧ S32 n = S32 m * c := by
  have h1 : (32 - m).toNat ≤ (32 - n).toNat := by omega
  obtain ⟨d, hd⟩ := Nat.exists_eq_add_of_le h1
  refine ⟨2 ^ d, Int.pow_pos (by decide), ?_⟩
  unfold S32
  rw [hd, Int.pow_add]
theorem S32_nat (n : Int) : S32 n = ((2 ^ (32 - n).toNat : Nat) : Int) := by unfold S32; simp

/-- the highest bits of a, by a mask -/
theorem and_mask (a k : Nat) (ha : a < 2 ^ 32) (hk : k ≤ 32) : a &&& (2 ^ 32 - 2 ^ k) = a / 2 ^ k * 2 ^ k := by
  apply Nat.eq_of_testBit_eq
  intro i
  have hp : 0 < 2 ^ k := Nat.two_pow_pos k
  have hlt : 2 ^ k - 1 < 2 ^ 32 := by have := Nat.pow_le_pow_right (show 0 < 2 by omega) hk; omega
  have e : 2 ^ 32 - 2 ^ k = 2 ^ 32 - ((2 ^ k - 1) + 1) := by congr 1; omega
  rw [Nat.testBit_and, e, Nat.testBit_two_pow_sub_succ hlt, Nat.testBit_two_pow_sub_one, Nat.mul_comm, Nat.testBit_two_pow_mul]
  by_cases hi : i < k
  · have h1 : ¬ (i ≥ k) := by omega
    simp [hi, h1]
  · have h1 : i ≥ k := by omega
    rw [Nat.testBit_div_two_pow, show i - k + k = i by omega]
    by_cases h32 : i < 32
    · simp [hi, h1, h32]
    · have : a.testBit i = false := Nat.testBit_lt_two_pow (Nat.lt_of_lt_of_le ha (Nat.pow_le_pow_right (by omega) (by omega)))
      simp [this]

theorem bits_and_mask (a n : Int) (ha0 : 0 ≤ a) (ha : a < 4294967296) (h0 : 0 ≤ n) (h1 : n ≤ 32) : Go.bits .and .u32 a (4294967296 - S32 n) = a / S32 n * S32 n := by
  have hS := S32_le n h0
  have hp := S32_pos n
  rw [u32_and a _ ha0 ha (by omega) (by omega)]
  obtain ⟨x, rfl⟩ := Int.eq_ofNat_of_zero_le ha0
  have e2 : (4294967296 - S32 n).toNat = 2 ^ 32 - 2 ^ (32 - n).toNat := by
    rw [S32_nat] at hS hp ⊢; omega
  rw [e2, Int.toNat_natCast, and_mask x _ (by omega) (by omega), S32_nat]
  simp
theorem bits_andNot_mask (a n : Int) (ha0 : 0 ≤ a) (ha : a < 4294967296) (h0 : 0 ≤ n) : Go.bits .andNot .u32 a (4294967296 - S32 n) = a % S32 n := by
  have hS := S32_le n h0
  have hp := S32_pos n
  rw [u32_andNot a _ ha0 ha (by omega) (by omega)]
  obtain ⟨x, rfl⟩ := Int.eq_ofNat_of_zero_le ha0
  have e2 : 4294967295 - (4294967296 - S32 n).toNat = 2 ^ (32 - n).toNat - 1 := by
    rw [S32_nat] at hS hp ⊢; omega
  rw [e2, Int.toNat_natCast, Nat.and_two_pow_sub_one_eq_mod, S32_nat]
  simp

theorem mask_eq (n : Int) (h0 : 0 ≤ n) (h1 : n ≤ 32) : m_addr_Mask n = some (4294967296 - S32 n) := by
  have key : ∀ m : Int, 0 ≤ m → m ≤ 32 → (IntKind.u64.wrap (4294967295 * 2 ^ (min (32 - m).toNat IntKind.u64.bits))) % 4294967296 = 4294967296 - S32 m := by
    intro m h0 h1
    have h2 : m = 0 ∨ m = 1 ∨ m = 2 ∨ m = 3 ∨ m = 4 ∨ m = 5 ∨ m = 6 ∨ m = 7 ∨ m = 8 ∨ m = 9 ∨ m = 10 ∨ m = 11 ∨ m = 12 ∨ m = 13 ∨ m = 14 ∨ m = 15 ∨ m = 16 ∨ m = 17 ∨ m = 18 ∨ m = 19 ∨ m = 20 ∨ m = 21 ∨ m = 22 ∨ m = 23 ∨ m = 24 ∨ m = 25 ∨ m = 26 ∨ m = 27 ∨ m = 28 ∨ m = 29 ∨ m = 30 ∨ m = 31 ∨ m = 32 := by omega
    unfold S32
    rcases h2 with rfl | rfl | rfl | rfl | rfl | rfl | rfl | rfl | rfl | rfl | rfl | rfl | rfl | rfl | rfl | rfl | rfl | rfl | rfl | rfl | rfl | rfl | rfl | rfl | rfl | rfl | rfl | rfl | rfl | rfl | rfl | rfl | rfl <;> decide
  unfold m_addr_Mask
  rw [Int.max_eq_left h0, Int.min_eq_left h1, wi64_eq (by omega) (by omega)]
  unfold sh
  rw [if_pos (by omega), bd_some, wu32_mod, key n h0 h1]
/-- may a prefix be? -/
def mayP (p : D_api_Prefix) : Bool := decide (0 ≤ p.2) && decide (p.2 ≤ 32) && decide (p.1 % S32 p.2 = 0)
theorem may_eq (p : D_api_Prefix) (h0 : 0 ≤ p.1) (h1 : p.1 < 4294967296) : m_addr_May p = some (mayP p) := by
  unfold m_addr_May mayP
  by_cases a : 0 ≤ p.2
  · by_cases b : p.2 ≤ 32
    · rw [if_pos (decide_eq_true a), if_pos (decide_eq_true b), mask_eq _ a b, bd_some, lt_eq, bits_andNot_mask p.1 p.2 h0 h1 a]
      simp [a, b]
    · rw [if_pos (decide_eq_true a), if_neg (by simpa using b)]
      simp [a, b]
  · rw [if_neg (by simpa using a)]
    simp [a]
theorem size_loop : ∀ (n j : Nat), n + j ≤ 32 → lp m_triviumref18_Size_l1 ((2 : Int) ^ j, 32 - (n : Int)) = some ((2 : Int) ^ (j + n))
  | 0, j, h => lp_done (by simp [m_triviumref18_Size_l1])
  | n + 1, j, h => by
    have hp : (2 : Int) ^ (j + 1) ≤ 2 ^ 32 := Tri.pow_mono (by decide) (by omega)
    have h0 : (0 : Int) < 2 ^ (j + 1) := Int.pow_pos (by decide)
    have e1 : wu64 (2 * 2 ^ j) = 2 ^ (j + 1) := by rw [Int.pow_succ, Int.mul_comm] at *; exact wu64_eq (by omega) (by omega)
    have e2 : wi64 (32 - ((n + 1 : Nat) : Int) + 1) = 32 - (n : Int) := by rw [wi64_eq (by omega) (by omega)]; omega
    rw [lp_more (s' := ((2 : Int) ^ (j + 1), 32 - (n : Int))) (by
      simp only [m_triviumref18_Size_l1, decide_eq_true (show 32 - ((n + 1 : Nat) : Int) < 32 by omega), if_true, e1, e2])]
    rw [size_loop n (j + 1) (by omega)]
    congr 2; omega
theorem size_eq (n : Int) (h0 : 0 ≤ n) (h1 : n ≤ 32) : m_triviumref18_Size n = some (S32 n) := by
  have := size_loop (32 - n).toNat 0 (by omega)
  unfold m_triviumref18_Size
  rw [show (1 : Int) = 2 ^ 0 from rfl, show n = 32 - ((32 - n).toNat : Int) by omega, this, bd_some]
  unfold S32
  congr 2; omega
theorem refMay_eq (p : D_api_Prefix) (h0 : 0 ≤ p.1) (h1 : p.1 < 4294967296) : m_triviumref18_May p = some (mayP p) := by
  unfold m_triviumref18_May mayP
  by_cases a : 0 ≤ p.2
  · by_cases b : p.2 ≤ 32
    · have := S32_pos p.2
      rw [if_pos (decide_eq_true a), if_pos (decide_eq_true b), size_eq _ a b, bd_some, wu64_eq h0 (by omega), rm_of h0 this, bd_some]
      simp [a, b]
    · rw [if_pos (decide_eq_true a), if_neg (by simpa using b)]
      simp [a, b]
  · rw [if_neg (by simpa using a)]
    simp [a]
end Go.Proofs.YtbmogniipgmkiaaGreat.AP
/- Whether queries are well formed. -/
namespace Go.Proofs.YtbmogniipgmkiaaGreat.AP
open Go
set_option linter.unusedVariables false
set_option linter.unusedSimpArgs false
theorem lp_idx {α : Type} {f : Int → Option (Int ⊕ Int)} (l : List α) (p : α → Bool)
    (h : ∀ (i : Nat) x, l[i]? = some x → f (i : Int) = some (if p x then .inr (i : Int) else .inl ((i : Int) + 1)))
    (he : f (l.length : Int) = some (.inr (-1))) : lp f 0 = some (idx p l) := by
  rw [lp_first l p (fun i => (i : Int)) (some (-1)) h (lp_done he)]
  unfold idx; split <;> rfl
theorem wi_succ {i : Nat} {n : Nat} (h : i < n) (hn : n ≤ 9223372036854775807) : wi64 ((i : Int) + 1) = (i : Int) + 1 := wi64_eq (by omega) (by omega)
theorem ix_step {α X : Type} {l : List α} {i : Nat} {x : α} (hb : Big l) (h : l[i]? = some x) : decide ((i : Int) < (l.length : Int)) = true ∧ rd l (i : Int) = some x ∧ wi64 ((i : Int) + 1) = (i : Int) + 1 := by
  have := len_of_get h
  exact ⟨decide_eq_true (by omega), by rw [rd_nat]; exact h, wi_succ this hb⟩
theorem dlt (n : Nat) : decide ((n : Int) < (n : Int)) = false := by simp
theorem CNets.big {l : List D_api_Net} (h : CNets l) : Big l := by have := h.1; unfold Big; omega
theorem CNet.bigN {x : D_api_Net} (h : CNet x) : Big x.2.1 := by have := h.2.1.1; unfold Big; omega
theorem CNet.bigL {x : D_api_Net} (h : CNet x) : Big x.2.2.1 := by have := h.2.2.1.1; unfold Big; omega
theorem CNet.bigR {x : D_api_Net} (h : CNet x) : Big x.2.2.2 := by have := h.2.2.2.1; unfold Big; omega
abbrev isN (s : ByteArray) (n : D_api_Net) : Bool := sq n.1 s
abbrev isV (s : ByteArray) (n : D_api_Node) : Bool := sq n.1 s
abbrev isE (s : ByteArray) (n : D_api_Link) : Bool := sq n.1 s
theorem rFind_eq (l : List D_api_Net) (s : ByteArray) (hb : Big l) : m_triviumref23_Find l s = some (idx (isN s) l) :=
  lp_idx l _ (fun i x h => by
    obtain ⟨e1, e2, e3⟩ := ix_step (X := Int) hb h
    simp only [m_triviumref23_Find_l1, e1, if_true, e2, bd_some, e3]; split <;> rfl) (by simp only [m_triviumref23_Find_l1, dlt]; rfl)
theorem rNode_eq (n : D_api_Net) (s : ByteArray) (hb : Big n.2.1) : m_triviumref23_Node n s = some (idx (isV s) n.2.1) :=
  lp_idx n.2.1 _ (fun i x h => by
    obtain ⟨e1, e2, e3⟩ := ix_step (X := Int) hb h
    simp only [m_triviumref23_Node_l1, e1, if_true, e2, bd_some, e3]; split <;> rfl) (by simp only [m_triviumref23_Node_l1, dlt]; rfl)
theorem iFind_eq (l : List D_api_Net) (s : ByteArray) (hb : Big l) : m_slices_IndexFunc_api_Net_api_Net__formed_Find_1 l s = some (idx (isN s) l) :=
  lp_idx l _ (fun i x h => by
    obtain ⟨e1, e2, e3⟩ := ix_step (X := Int) hb h
    simp only [m_slices_IndexFunc_api_Net_api_Net__formed_Find_1_l1, m_formed_Find_1, e1, if_true, e2, bd_some, e3]; split <;> rfl) (by simp only [m_slices_IndexFunc_api_Net_api_Net__formed_Find_1_l1, dlt]; rfl)
theorem iNode_eq (l : List D_api_Node) (s : ByteArray) (hb : Big l) : m_slices_IndexFunc_api_Node_api_Node__formed_Node_1 l s = some (idx (isV s) l) :=
  lp_idx l _ (fun i x h => by
    obtain ⟨e1, e2, e3⟩ := ix_step (X := Int) hb h
    simp only [m_slices_IndexFunc_api_Node_api_Node__formed_Node_1_l1, m_formed_Node_1, e1, if_true, e2, bd_some, e3]; split <;> rfl) (by simp only [m_slices_IndexFunc_api_Node_api_Node__formed_Node_1_l1, dlt]; rfl)
theorem fNode_eq (n : D_api_Net) (s : ByteArray) (hb : Big n.2.1) : m_formed_Node n s = some (max (idx (isV s) n.2.1) 0, decide (0 ≤ idx (isV s) n.2.1)) := by
  unfold m_formed_Node; rw [iNode_eq _ _ hb, bd_some]
/-- has the network s the node t? -/
def hasN (l : List D_api_Net) (s t : ByteArray) : Bool := match rd l (idx (isN s) l) with
  | some x => decide (0 ≤ idx (isV t) x.2.1)
  | none => false
theorem rd_mem {α : Type} {l : List α} {i : Int} {x : α} (h : rd l i = some x) : x ∈ l := List.mem_of_getElem? (rdS h).2
theorem rd_neg {α : Type} {l : List α} {i : Int} (h : i < 0) : rd l i = none := by unfold rd; rw [if_neg (by omega)]
theorem in_eq (l : List D_api_Net) (s t : ByteArray) (h : CNets l) : m_formed_in l s t = some (hasN l s t) := by
  unfold m_formed_in m_formed_Find hasN
  rw [iFind_eq l s h.big, bd_some]
  by_cases hi : idx (isN s) l < 0
  · rw [if_pos (decide_eq_true hi), rd_neg hi]; rfl
  · obtain ⟨x, h1, h2⟩ := idx_rd (p := isN s) (l := l) (by omega)
    have hx := h.2 x (rd_mem h1)
    rw [if_neg (by simpa using hi), h1]
    show bd (m_formed_Node (x.1, x.2.1, x.2.2.1, x.2.2.2) t) _ = _
    rw [show ((x.1, x.2.1, x.2.2.1, x.2.2.2) : D_api_Net) = x from rfl, fNode_eq _ _ hx.bigN]; rfl
/-- is a query well formed? -/
def qOK (l : List D_api_Net) (q : D_api_Query) : Bool :=
  hasN l q.2.1 q.2.2.2.1 && decide (0 ≤ q.2.2.2.2.2.2) && (decide (q.2.2.2.2.2.2 = 0) || decide (q.1 = 3)) &&
  (if q.1 = 1 ∨ q.1 = 2 ∨ q.1 = 3 then sq q.2.2.1 (bs []) && (decide (q.2.2.2.2.2.1.1 = 0) && decide (q.2.2.2.2.2.1.2 = 0))
   else decide (q.1 = 4) && hasN l q.2.2.1 q.2.2.2.1 && decide (q.2.2.2.2.1 = 0) && mayP q.2.2.2.2.2.1)
theorem fQuery_eq (l : List D_api_Net) (q : D_api_Query) (h : CNets l) (hp : Pfx q.2.2.2.2.2.1) : m_formed_Query l q = some (qOK l q) := by
  unfold m_formed_Query qOK
  rw [in_eq _ _ _ h, in_eq _ _ _ h, show ((q.2.2.2.2.2.1.1, q.2.2.2.2.2.1.2) : D_api_Prefix) = q.2.2.2.2.2.1 from rfl, may_eq _ hp.1.1 hp.1.2]
  simp only [bd_some, lt_eq]
  generalize hasN l q.2.1 q.2.2.2.1 = a
  generalize hasN l q.2.2.1 q.2.2.2.1 = b
  generalize sq q.2.2.1 (bs []) = c
  generalize mayP q.2.2.2.2.2.1 = d
  generalize q.2.2.2.2.2.2 = k
  generalize q.2.2.2.2.1 = e
  generalize q.1 = t
  cases a
  · simp
  · by_cases k0 : k < 0
    · simp [k0]; omega
    · by_cases k1 : 0 < k
      · by_cases t3 : t = 3
        · subst t3
          cases c <;> simp [k0, k1] <;> omega
        · have : ¬ k = 0 := by omega
          simp [k0, k1, t3, this]
      · have : k = 0 := by omega
        subst this
        by_cases t1 : t = 1
        · subst t1; cases c <;> simp
        · by_cases t2 : t = 2
          · subst t2; cases c <;> simp
          · by_cases t3 : t = 3
            · subst t3; cases c <;> simp
            · by_cases t4 : t = 4
              · subst t4; cases b <;> simp
                by_cases e0 : e = 0 <;> simp [e0]
              · simp [t1, t2, t3, t4]
theorem rQuery_eq (l : List D_api_Net) (q : D_api_Query) (h : CNets l) (hp : Pfx q.2.2.2.2.2.1) : m_triviumref23_Query l q = some (qOK l q) := by
  unfold m_triviumref23_Query qOK
  rw [rFind_eq _ _ h.big, rFind_eq _ _ h.big, show ((q.2.2.2.2.2.1.1, q.2.2.2.2.2.1.2) : D_api_Prefix) = q.2.2.2.2.2.1 from rfl, refMay_eq _ hp.1.1 hp.1.2]
  have hn : ∀ s, (if idx (isN s) l < 0 then some false else bd (rd l (idx (isN s) l)) fun x7 => bd (m_triviumref23_Node x7 q.2.2.2.1) fun x9 => some (decide (0 ≤ x9))) = some (hasN l s q.2.2.2.1) := by
    intro s
    unfold hasN
    by_cases hi : idx (isN s) l < 0
    · rw [if_pos hi, rd_neg hi]
    · obtain ⟨x, h1, h2⟩ := idx_rd (p := isN s) (l := l) (by omega)
      have hx := h.2 x (rd_mem h1)
      rw [if_neg hi, h1, bd_some, rNode_eq _ _ hx.bigN]; rfl
  have g : ∀ s, (idx (isN s) l < 0 ∧ hasN l s q.2.2.2.1 = false) ∨ ∃ x j, ¬ idx (isN s) l < 0 ∧ rd l (idx (isN s) l) = some x ∧ m_triviumref23_Node x q.2.2.2.1 = some j ∧ hasN l s q.2.2.2.1 = decide (0 ≤ j) := by
    intro s
    have := hn s
    by_cases hi : idx (isN s) l < 0
    · rw [if_pos hi] at this; exact .inl ⟨hi, (Option.some.inj this).symm⟩
    · obtain ⟨x, h1, h2⟩ := idx_rd (p := isN s) (l := l) (by omega)
      have hx := h.2 x (rd_mem h1)
      have hj := rNode_eq x q.2.2.2.1 hx.bigN
      rw [if_neg hi, h1, bd_some, hj, bd_some] at this
      exact .inr ⟨x, _, hi, h1, hj, (Option.some.inj this).symm⟩
  simp only [bd_some, lt_eq]
  have g1 := g q.2.1
  have g2 := g q.2.2.1
  clear g hn
  generalize hasN l q.2.1 q.2.2.2.1 = a at *
  generalize hasN l q.2.2.1 q.2.2.2.1 = b at *
  generalize sq q.2.2.1 (bs []) = c
  generalize mayP q.2.2.2.2.2.1 = d
  generalize q.2.2.2.2.2.2 = k
  generalize q.2.2.2.2.1 = e
  generalize q.1 = t
  by_cases t0 : t < 1
  · have : ¬ t = 1 ∧ ¬ t = 2 ∧ ¬ t = 3 ∧ ¬ t = 4 := by omega
    simp [t0, this]
  by_cases t5 : 4 < t
  · have : ¬ t = 1 ∧ ¬ t = 2 ∧ ¬ t = 3 ∧ ¬ t = 4 := by omega
    simp [t0, t5, this]
  rcases g1 with ⟨i1, rfl⟩ | ⟨x, j, i1, i2, i3, rfl⟩
  · simp [t0, t5, i1]
  by_cases hj : j < 0
  · have : ¬ 0 ≤ j := by omega
    simp [t0, t5, i1, i2, i3, hj, this]
  have hj0 : 0 ≤ j := by omega
  by_cases hk : k < 0
  · have : ¬ 0 ≤ k := by omega
    simp [t0, t5, i1, i2, i3, hj, hj0, hk, this]
  have hk0 : 0 ≤ k := by omega
  by_cases h3 : ¬ k = 0 ∧ ¬ t = 3
  · simp [t0, t5, i1, i2, i3, hj, hj0, hk, hk0, h3]
  have h3' : (decide (k = 0) || decide (t = 3)) = true := by simp; omega
  have h3'' : (if (!decide (k = 0)) = true then some (!decide (t = 3)) else some false) = some false := by
    by_cases kk : k = 0
    · simp [kk]
    · have : t = 3 := by omega
      simp [kk, this]
  by_cases t4 : t = 4
  · subst t4
    have k0 : k = 0 := by omega
    subst k0
    rcases g2 with ⟨i4, rfl⟩ | ⟨y, m, i4, i5, i6, rfl⟩
    · have : ¬ 0 ≤ idx (isN q.2.2.1) l := by omega
      simp [i1, i2, i3, hj, this]
    · have : 0 ≤ idx (isN q.2.2.1) l := by omega
      by_cases hm : 0 ≤ m <;> by_cases e0 : e = 0 <;> simp [i1, i2, i3, hj, hj0, this, i5, i6, hm, e0]
  · have ht : t = 1 ∨ t = 2 ∨ t = 3 := by omega
    simp only [t0, t5, i1, i2, i3, hj, hj0, hk, hk0, h3', h3'', decide_false, decide_true, bd_some, t4, ht]
    cases c <;> simp
end Go.Proofs.YtbmogniipgmkiaaGreat.AP
/- FormQueries: the law, plain. -/
namespace Go.Proofs.YtbmogniipgmkiaaGreat.AP
open Go
set_option linter.unusedVariables false
set_option linter.unusedSimpArgs false
theorem name_a : m_name_Name (bs [97]) = some true := by
  have k : m_name_Word (bs [97]) = some true := by
    unfold m_name_Word
    rw [lp_more (s' := 1) (by kernel_rfl), lp_done (x := true) (by kernel_rfl)]
  have kk : m_name_Keyword (bs [97]) = some false := by
    simp [m_name_Keyword, m_name_Keywords, m_slices_Contains_string_string, m_slices_Index_string_string]
    rw [lp_more (s' := 1) (by kernel_rfl), lp_more (s' := 2) (by kernel_rfl), lp_more (s' := 3) (by kernel_rfl), lp_more (s' := 4) (by kernel_rfl), lp_more (s' := 5) (by kernel_rfl), lp_more (s' := 6) (by kernel_rfl), lp_more (s' := 7) (by kernel_rfl), lp_more (s' := 8) (by kernel_rfl), lp_more (s' := 9) (by kernel_rfl), lp_more (s' := 10) (by kernel_rfl), lp_more (s' := 11) (by kernel_rfl), lp_more (s' := 12) (by kernel_rfl), lp_more (s' := 13) (by kernel_rfl), lp_done (x := -1) (by kernel_rfl)]
    rfl
  simp [m_name_Name, k, kk]
theorem twice_nil : m_name_Twice [] = some (bs [], false) := by
  unfold m_name_Twice
  rw [lp_done (x := (bs [], false)) (by kernel_rfl)]
theorem named_nil : m_formed_named [] = some true := by
  unfold m_formed_named
  rw [lp_done (x := true) (by simp [m_formed_named_l1, twice_nil])]
theorem net_a : m_formed_net (bs [97], [], [], []) = some 0 := by
  have h1 : m_formed_nodesRight (bs [97], [], [], []) = some true := by
    unfold m_formed_nodesRight
    rw [lp_done (x := []) (by kernel_rfl), bd_some, named_nil]; rfl
  have h2 : m_formed_homesRight (bs [97], [], [], []) = some true := by
    unfold m_formed_homesRight
    rw [lp_done (x := true) (by simp [m_formed_homesRight_l1])]
  have h3 : m_formed_linksRight (bs [97], [], [], []) = some true := by
    unfold m_formed_linksRight
    rw [lp_done (x := []) (by kernel_rfl), bd_some, named_nil]; rfl
  have h4 : m_formed_endsRight (bs [97], [], [], []) = some true := by
    unfold m_formed_endsRight m_slices_ContainsFunc_api_Link_api_Link__formed_endsRight_1 m_slices_IndexFunc_api_Link_api_Link__formed_endsRight_1
    rw [lp_done (x := -1) (by simp [m_slices_IndexFunc_api_Link_api_Link__formed_endsRight_1_l1])]
    rfl
  have h5 : m_formed_partsRight (bs [97], [], [], []) = some true := by
    unfold m_formed_partsRight m_slices_ContainsFunc_api_Link_api_Link__formed_partsRight_1 m_slices_IndexFunc_api_Link_api_Link__formed_partsRight_1
    rw [lp_done (x := -1) (by simp [m_slices_IndexFunc_api_Link_api_Link__formed_partsRight_1_l1])]
    rfl
  have h6 : m_formed_rulesRight (bs [97], [], [], []) = some true := by
    unfold m_formed_rulesRight
    rw [lp_done (x := true) (by simp [m_formed_rulesRight_l1])]
  have h7 : m_formed_groupsRight (bs [97], [], [], []) = some true := by
    unfold m_formed_groupsRight
    rw [lp_done (x := true) (by simp [m_formed_groupsRight_l1])]
  have h8 : m_formed_hopsRight (bs [97], [], [], []) = some true := by
    unfold m_formed_hopsRight
    rw [lp_done (x := true) (by simp [m_formed_hopsRight_l1])]
  simp [m_formed_net, h1, h2, h3, h4, h5, h6, h7, h8]
theorem works23 : m_triviumlaw23_works = some true := by
  have w1 : wi64 (0 + 1) = 1 := by kernel_rfl
  have w2 : wi64 (1 + 1) = 2 := by kernel_rfl
  have n2 : m_formed_named [bs [97], bs [97]] = some false := by
    have t : m_name_Twice [bs [97], bs [97]] = some (bs [97], true) := by
      unfold m_name_Twice
      rw [lp_more (s' := (1, [(bs [97], true)])) (by kernel_rfl), lp_done (x := (bs [97], true)) (by kernel_rfl)]
    unfold m_formed_named
    rw [lp_more (s' := 1) (by simp [m_formed_named_l1, rd, name_a, wi64_eq]), lp_more (s' := 2) (by simp [m_formed_named_l1, rd, name_a, wi64_eq]), lp_done (x := false) (by simp [m_formed_named_l1, t])]
  have n1 : m_formed_named [bs [97]] = some true := by
    have t : m_name_Twice [bs [97]] = some (bs [], false) := by
      unfold m_name_Twice
      rw [lp_more (s' := (1, [(bs [97], true)])) (by kernel_rfl), lp_done (x := (bs [], false)) (by kernel_rfl)]
    unfold m_formed_named
    rw [lp_more (s' := 1) (by simp [m_formed_named_l1, rd, name_a, wi64_eq]), lp_done (x := true) (by simp [m_formed_named_l1, t])]
  have s2 : m_formed_Nets [(bs [97], [], [], []), (bs [97], [], [], [])] = some 1 := by
    unfold m_formed_Nets
    rw [lp_more (s' := (1, [bs [97]])) (by kernel_rfl), lp_more (s' := (2, [bs [97], bs [97]])) (by kernel_rfl), lp_done (x := [bs [97], bs [97]]) (by kernel_rfl), bd_some, n2]; rfl
  have s1 : m_formed_Nets [(bs [97], [], [], [])] = some 0 := by
    unfold m_formed_Nets
    rw [lp_more (s' := (1, [bs [97]])) (by kernel_rfl), lp_done (x := [bs [97]]) (by kernel_rfl), bd_some, n1, bd_some, if_neg (by decide), lp_more (s' := 1) (by simp [m_formed_Nets_l2, rd, net_a, wi64_eq]), lp_done (x := 0) (by simp [m_formed_Nets_l2])]
  simp [m_triviumlaw23_works, s1, s2]
theorem fQueries_eq (l : List D_api_Net) (q : List D_api_Query) (h : CNets l) (hb : Big q) (hq : ∀ x ∈ q, Pfx x.2.2.2.2.2.1) : m_formed_Queries l q = some (q.all (qOK l)) := by
  unfold m_formed_Queries m_slices_ContainsFunc_api_Query_api_Query__formed_Queries_1 m_slices_IndexFunc_api_Query_api_Query__formed_Queries_1
  rw [lp_idx q (fun x => !qOK l x) (fun i x hx => by
    obtain ⟨e1, e2, e3⟩ := ix_step (X := Int) hb hx
    have e4 : m_formed_Queries_1 x l = some (!qOK l x) := by
      unfold m_formed_Queries_1
      rw [show ((x.1, x.2.1, x.2.2.1, x.2.2.2.1, x.2.2.2.2.1, (x.2.2.2.2.2.1.1, x.2.2.2.2.2.1.2), x.2.2.2.2.2.2) : D_api_Query) = x from rfl, fQuery_eq l x h (hq x (List.mem_of_getElem? hx)), bd_some]
    simp only [m_slices_IndexFunc_api_Query_api_Query__formed_Queries_1_l1, e1, if_true, e2, bd_some, e3, e4]; split <;> rfl)
    (by simp only [m_slices_IndexFunc_api_Query_api_Query__formed_Queries_1_l1, dlt]; rfl), bd_some, bd_some, idx_any]
  congr 1
  rw [List.any_eq_not_all_not]
  simp
theorem formQueries_plain (l : List D_api_Net) (q : List D_api_Query) (hl : m_triviumref22_Clean l = some (clNets l) ∧ CNets (clNets l)) (hb : Big q) (hq : ∀ x ∈ q, Pfx x.2.2.2.2.2.1) : m_triviumlaw23_FormQueries l q = some true := by
  obtain ⟨h1, hC⟩ := hl
  unfold m_triviumlaw23_FormQueries
  rw [h1, bd_some]
  generalize clNets l = L at *
  have main : ∀ (k i : Nat), i + k = (q.take 8).length → lp (m_triviumlaw23_FormQueries_l1 q L) (((q.take i).map clQuery).all (qOK L), (i : Int), (q.take i).map clQuery) = some true := by
    intro k
    induction k with
    | zero =>
      intro i hk
      have hb2 : Big ((q.take i).map clQuery) := by unfold Big; simp at hk ⊢; omega
      have hq2 : ∀ x ∈ (q.take i).map clQuery, Pfx x.2.2.2.2.2.1 := fun x hx => by
        obtain ⟨y, hy, rfl⟩ := List.mem_map.1 hx
        exact hq y (List.mem_of_mem_take hy)
      have e0 : (if decide ((i : Int) < (q.length : Int)) = true then some (decide ((i : Int) < 8)) else some false) = some false := by
        by_cases hlt : i < q.length
        · rw [if_pos (decide_eq_true (by omega))]; congr 1; rw [decide_eq_false]; simp at hk; omega
        · rw [if_neg (by simp; omega)]
      refine lp_done ?_
      simp only [m_triviumlaw23_FormQueries_l1, e0, bd_some, fQueries_eq L _ hC hb2 hq2, works23]
      simp
    | succ k ih =>
      intro i hk
      have hlt : i < q.length ∧ i < 8 := by simp at hk; omega
      have hx : q[i]? = some q[i] := List.getElem?_eq_getElem hlt.1
      obtain ⟨e1, e2, e3⟩ := ix_step (X := Int) hb hx
      generalize q[i] = x at *
      have hp : Pfx (clQuery x).2.2.2.2.2.1 := hq x (List.mem_of_getElem? hx)
      have e4 : decide ((i : Int) < 8) = true := decide_eq_true (by omega)
      have e5 : ap 88 ((q.take i).map clQuery) [clQuery x] = some ((q.take (i + 1)).map clQuery) := by
        rw [ap_of (by simp; omega), List.take_add_one, hx]; simp
      have e6 : (if ((q.take i).map clQuery).all (qOK L) = true then (bd (some (qOK L (clQuery x))) fun x17 => some x17) else some false) = some (((q.take (i + 1)).map clQuery).all (qOK L)) := by
        rw [List.take_add_one, hx]
        rw [List.map_append, List.all_append]
        cases ((q.take i).map clQuery).all (qOK L) with
        | true => simp
        | false => simp
      rw [lp_more (s' := (((q.take (i + 1)).map clQuery).all (qOK L), (i : Int) + 1, (q.take (i + 1)).map clQuery)) (by
        simp only [m_triviumlaw23_FormQueries_l1, e1, if_true, e4, bd_some, e2, clQuery_eq]
        show (bd (ap 88 ((q.take i).map clQuery) [clQuery x]) _) = _
        rw [e5, bd_some]
        show bd (if _ then (bd (m_triviumref23_Query L (clQuery x)) _) else _) _ = _
        rw [rQuery_eq L _ hC hp, e6, bd_some]
        show bd (m_formed_Query L (clQuery x)) _ = _
        rw [fQuery_eq L _ hC hp, bd_some]
        rw [bd_some, if_neg (by simp), e3])]
      have := ih (i + 1) (by omega)
      simpa using this
  exact main (q.take 8).length 0 (by omega)
end Go.Proofs.YtbmogniipgmkiaaGreat.AP
/- FormQueries: the plain law, of all that may be handed in. -/
namespace Go.Proofs.YtbmogniipgmkiaaGreat.Pure
open Go Go.Proofs.YtbmogniipgmkiaaGreat.AP Go.Proofs.YtbmogniipgmkiaaGreat.AE
theorem FormQueries (y0 : List D_api_Net) (h0 : Ty.ok (.sl Y_api_Net) y0) (y1 : List D_api_Query) (h1 : Ty.ok (.sl Y_api_Query) y1) : m_triviumlaw23_FormQueries y0 y1 = some true :=
  formQueries_plain y0 y1 (ok_nets h0) h1.1 fun x hx => ok_pfx (ok_mem (t := Y_api_Query) h1 x hx).2.2.2.2.2.1
end Go.Proofs.YtbmogniipgmkiaaGreat.Pure
/- The law FormQueries holds of every input: the row. -/
namespace Go.Proofs.YtbmogniipgmkiaaGreat.formQueries
open Go.ChangeShapes Go.WideShapes Go.ChangeAt Go.RowKit
set_option linter.unusedVariables false
theorem own : ownKnob Tryz.prog.godebug = none := by kernel_rfl
theorem laidOut : laidOutB Tryz.prog = true := by kernel_rfl
set_option maxRecDepth 100000 in
theorem lifted (os : Os) (started : os.Started) (H : Type) (enc : TypeId × Value → H) :
    ReturnsInHanded {} Tryz.checked os 4 .any (Rows.formQueriesSpec.pre6 enc Tryz.prog Tryz.f4 Rows.formQueriesRow.domain false) (Rows.formQueriesSpec.post enc Tryz.prog Tryz.f4 false true false false) := by
  refine returnsInHanded_of_change_sized (C := Tryz.checked) own started (by kernel_rfl) Tryz.func4
    (ChangeSpec.witness6 (enc := enc) (C := Tryz.checked) false ⟨#[], #[.slice none 0 0, .slice none 0 0], []⟩ 8 (by kernel_rfl) (by kernel_rfl) (by kernel_rfl) (by kernel_rfl)) ?_
  intro W base args ds gs before hval0 hW hcnd hsz0 _
  clear hsz0
  have hval : ∀ (j : Nat) t v, Tryz.f4.params[j]? = some t → args[j]? = some v → Value.okWide Tryz.prog W .any base t v := hval0
  have hW' := hW
  obtain ⟨p, q, hA0, hV, rfl, hfz, hnd⟩ := hW
  have hA : DataW.TrodAll enc Tryz.prog W 0 (fun _ => true) true Tryz.f4.params.toList args.toList ds p := hA0
  rw [Tryz.params4] at hA hval
  obtain ⟨v0, vs0, d0, ds0, p0, q0, hargs, rfl, rfl, h0, r0⟩ := trodAll_cons hA
  obtain ⟨v1, vs1, d1, ds1, p1, q1, rfl, rfl, rfl, h1, r1⟩ := trodAll_cons r0
  obtain ⟨rfl, rfl, rfl⟩ := trodAll_nil r1
  obtain rfl : args = #[v0, v1] := by cases args; simp_all
  obtain ⟨rfl, rfl⟩ := trodVars_none hV
  have lt0 : ∀ x ∈ p0, x.block < W.heap.size := by obtain ⟨m, hm⟩ := h0; exact DataW.trod_lt m _ _ _ hm
  obtain ⟨a0, o0, e0⟩ := AE.open_v (t := (.sl AE.Y_api_Net)) ⟨40, by kernel_rfl⟩ (hval 0 22 v0 rfl rfl) h0
  have lt1 : ∀ x ∈ p1, x.block < W.heap.size := by obtain ⟨m, hm⟩ := h1; exact DataW.trod_lt m _ _ _ hm
  obtain ⟨a1, o1, e1⟩ := AE.open_v (t := (.sl AE.Y_api_Query)) ⟨40, by kernel_rfl⟩ (hval 1 39 v1 rfl rfl) h1
  clear hA0 hval0
  have h := Pure.FormQueries a0 o0 a1 o1
  have C := AE.law_calls (AE.k_triviumlaw23_FormQueries h) (W := W) (args := [v0, v1]) ⟨v0, [v1], rfl, e0, v1, [], rfl, e1, rfl⟩
  refine C.mono fun e W' ⟨he, bel⟩ => ?_
  subst he
  exact ⟨_, rfl, _, _, _, [], _, [], hW', trodAll_mk1 (shut_bool Tryz.underlying4 _), (trodAll_cons_mk (Below.trod laidOut (by kernel_rfl) (of_decide_eq_true (by kernel_rfl)) h0 bel lt0) (trodAll_cons_mk (Below.trod laidOut (by kernel_rfl) (of_decide_eq_true (by kernel_rfl)) h1 bel lt1) trodAll_mk0)), rfl, bel.frame _, fun h => by cases h⟩
theorem over : Rows.formQueriesRow.holds Tryz.pinned (OpenSpec.ofChange Rows.formQueriesSpec) :=
  OpenClaim.holds_of_wide 4 Tryz.f4 rfl rfl rfl rfl rfl rfl rfl ⟨rfl, rfl, rfl, rfl, rfl⟩ rfl rfl rfl rfl rfl (by kernel_rfl) Tryz.func4 (by kernel_rfl)
    (of_decide_eq_true (by kernel_rfl)) (by unfold Func.isWrapper; first | (rw [if_pos (by decide +kernel)]; kernel_rfl) | (rw [if_neg (by decide +kernel)]; exact ⟨rfl, rfl⟩))
    (fun os started H enc _ => lifted os started H enc)
theorem proved : Rows.FormQueriesSaid := over
#print axioms proved
end Go.Proofs.YtbmogniipgmkiaaGreat.formQueries
namespace Go.Proofs.YtbmogniipgmkiaaGreat
/-- The statement, under a short name, for the claim. -/
theorem formQueries_holds : Rows.FormQueriesSaid := formQueries.proved
end Go.Proofs.YtbmogniipgmkiaaGreat
