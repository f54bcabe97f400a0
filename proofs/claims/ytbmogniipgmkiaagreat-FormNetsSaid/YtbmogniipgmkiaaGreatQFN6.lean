/- The chapter's example. -/
import Derived.Test.YtbmogniipgmkiaaGreatQFN2
import Derived.Test.YtbmogniipgmkiaaGreatQFN3
import Derived.Test.YtbmogniipgmkiaaGreatQFN5
import Derived.Laws.BitsAllLaws
/- Plain facts on numbers by digits of any base, and on lists: no program in sight. -/
namespace Go.Proofs.YtbmogniipgmkiaaGreat.Tri

def dv (B : Int) : List Int → Int
  | [] => 0
  | x :: xs => x + B * dv B xs

def Dig (B : Int) (l : List Int) : Prop := ∀ x, x ∈ l → 0 ≤ x ∧ x < B

/-- no nought at the end -/
def Top (l : List Int) : Prop := l.getLast? ≠ some 0

def Can (B : Int) (l : List Int) : Prop := Dig B l ∧ Top l

theorem dv_nil (B : Int) : dv B [] = 0 := rfl
theorem dv_cons (B x : Int) (xs : List Int) : dv B (x :: xs) = x + B * dv B xs := rfl
theorem dv_one (B x : Int) : dv B [x] = x := by simp [dv]

theorem dv_append (B : Int) (a b : List Int) : dv B (a ++ b) = dv B a + B ^ a.length * dv B b := by
  induction a with
  | nil => simp [dv]
  | cons x xs ih =>
    simp only [List.cons_append, dv, ih, List.length_cons, Int.pow_succ]
    grind

theorem dv_snoc (B : Int) (a : List Int) (x : Int) : dv B (a ++ [x]) = dv B a + B ^ a.length * x := by
  rw [dv_append, dv_one]

theorem Dig.nil (B : Int) : Dig B [] := fun _ h => by simp at h
theorem Dig.cons {B x : Int} {l : List Int} (h : 0 ≤ x ∧ x < B) (hl : Dig B l) : Dig B (x :: l) := by
  intro y hy
  rcases List.mem_cons.1 hy with rfl | hy
  · exact h
  · exact hl y hy
theorem Dig.head {B x : Int} {l : List Int} (h : Dig B (x :: l)) : 0 ≤ x ∧ x < B := h x (by simp)
theorem Dig.tail {B x : Int} {l : List Int} (h : Dig B (x :: l)) : Dig B l := fun y hy => h y (by simp [hy])
theorem Dig.append {B : Int} {a b : List Int} (ha : Dig B a) (hb : Dig B b) : Dig B (a ++ b) := by
  intro y hy
  rcases List.mem_append.1 hy with hy | hy
  · exact ha y hy
  · exact hb y hy
theorem Dig.snoc {B x : Int} {l : List Int} (hl : Dig B l) (h : 0 ≤ x ∧ x < B) : Dig B (l ++ [x]) :=
  hl.append (Dig.cons h (Dig.nil B))
theorem Dig.left {B : Int} {a b : List Int} (h : Dig B (a ++ b)) : Dig B a := fun y hy => h y (by simp [hy])
theorem Dig.right {B : Int} {a b : List Int} (h : Dig B (a ++ b)) : Dig B b := fun y hy => h y (by simp [hy])
theorem Dig.take {B : Int} {a : List Int} (h : Dig B a) (n : Nat) : Dig B (a.take n) := fun y hy => h y (List.mem_of_mem_take hy)
theorem Dig.drop {B : Int} {a : List Int} (h : Dig B a) (n : Nat) : Dig B (a.drop n) := fun y hy => h y (List.mem_of_mem_drop hy)
theorem Dig.set {B : Int} {a : List Int} (h : Dig B a) (n : Nat) {v : Int} (hv : 0 ≤ v ∧ v < B) : Dig B (a.set n v) := by
  intro y hy
  rcases List.mem_or_eq_of_mem_set hy with hy | rfl
  · exact h y hy
  · exact hv
theorem Dig.replicate {B : Int} (hB : 0 < B) (n : Nat) : Dig B (List.replicate n 0) := by
  intro y hy
  have := (List.mem_replicate.1 hy).2
  subst this; omega

theorem dv_nonneg {B : Int} (hB : 0 < B) {l : List Int} (h : Dig B l) : 0 ≤ dv B l := by
  induction l with
  | nil => simp [dv]
  | cons x xs ih =>
    have h1 := h.head
    have h2 := ih h.tail
    have := Int.mul_nonneg (Int.le_of_lt hB) h2
    simp only [dv]; omega

theorem pow_pos' {B : Int} (hB : 0 < B) (n : Nat) : 0 < B ^ n := Int.pow_pos hB

theorem dv_lt {B : Int} (hB : 0 < B) {l : List Int} (h : Dig B l) : dv B l < B ^ l.length := by
  induction l with
  | nil => simp [dv]
  | cons x xs ih =>
    have h1 := h.head
    have h2 := ih h.tail
    have : B * (dv B xs + 1) ≤ B * B ^ xs.length := Int.mul_le_mul_of_nonneg_left (by omega) (Int.le_of_lt hB)
    simp only [dv, List.length_cons, Int.pow_succ]
    grind

theorem dv_replicate (B : Int) (n : Nat) : dv B (List.replicate n 0) = 0 := by
  induction n with
  | zero => rfl
  | succ n ih => simp [List.replicate_succ, dv, ih]

theorem dv_append_zeros (B : Int) (a : List Int) (n : Nat) : dv B (a ++ List.replicate n 0) = dv B a := by
  rw [dv_append, dv_replicate]; simp

/-- two lists of digits of one length and one value are the same -/
theorem dv_inj_len {B : Int} (hB : 0 < B) : ∀ {a b : List Int}, Dig B a → Dig B b → a.length = b.length → dv B a = dv B b → a = b
  | [], [], _, _, _, _ => rfl
  | [], _ :: _, _, _, h, _ => by simp at h
  | _ :: _, [], _, _, h, _ => by simp at h
  | x :: xs, y :: ys, ha, hb, hl, hv => by
    have h1 := ha.head
    have h2 := hb.head
    simp only [dv] at hv
    have e1 : (x + B * dv B xs) % B = x := by rw [Int.add_mul_emod_self_left, Int.emod_eq_of_lt h1.1 h1.2]
    have e2 : (y + B * dv B ys) % B = y := by rw [Int.add_mul_emod_self_left, Int.emod_eq_of_lt h2.1 h2.2]
    have hxy : x = y := by rw [← e1, ← e2, hv]
    subst hxy
    have h3 : B * dv B xs = B * dv B ys := by omega
    have h4 : dv B xs = dv B ys := Int.eq_of_mul_eq_mul_left (by omega) h3
    rw [dv_inj_len hB ha.tail hb.tail (by simpa using hl) h4]

theorem Top.nil : Top [] := by simp [Top]
theorem Top.snoc {l : List Int} {x : Int} : Top (l ++ [x]) ↔ x ≠ 0 := by simp [Top]
theorem Can.nil (B : Int) : Can B [] := ⟨Dig.nil B, Top.nil⟩

theorem eq_snoc {α : Type} {l : List α} (h : l ≠ []) : ∃ a x, l = a ++ [x] :=
  ⟨l.dropLast, l.getLast h, (List.dropLast_concat_getLast h).symm⟩

theorem Can.ge {B : Int} (hB : 0 < B) {l : List Int} (h : Can B l) (hl : l ≠ []) : B ^ (l.length - 1) ≤ dv B l := by
  obtain ⟨a, x, rfl⟩ := eq_snoc hl
  have hx := Top.snoc.1 h.2
  have hd := h.1.right.head
  have ha := dv_nonneg hB h.1.left
  rw [dv_snoc]
  have : B ^ a.length * 1 ≤ B ^ a.length * x := Int.mul_le_mul_of_nonneg_left (by omega) (Int.le_of_lt (pow_pos' hB _))
  simp only [List.length_append, List.length_cons, List.length_nil, Nat.add_sub_cancel, Nat.zero_add]
  omega

theorem Can.pos {B : Int} (hB : 0 < B) {l : List Int} (h : Can B l) (hl : l ≠ []) : 0 < dv B l := by
  have := h.ge hB hl
  have := pow_pos' hB (l.length - 1)
  omega

theorem Can.eq_nil {B : Int} (hB : 0 < B) {l : List Int} (h : Can B l) : l = [] ↔ dv B l = 0 := by
  constructor
  · rintro rfl; rfl
  · intro hv
    apply Classical.byContradiction
    intro hl
    have := h.pos hB hl
    omega

theorem pow_mono {B : Int} (hB : 0 < B) {m n : Nat} (h : m ≤ n) : B ^ m ≤ B ^ n := by
  obtain ⟨d, rfl⟩ := Nat.exists_eq_add_of_le h
  rw [Int.pow_add]
  have h1 := pow_pos' hB m
  have h2 := pow_pos' hB d
  have : B ^ m * 1 ≤ B ^ m * B ^ d := Int.mul_le_mul_of_nonneg_left (by omega) (Int.le_of_lt h1)
  omega

/-- of two canonical lists the longer one is the greater -/
theorem Can.lt_of_length {B : Int} (hB : 0 < B) {a b : List Int} (ha : Dig B a) (hb : Can B b) (h : a.length < b.length) : dv B a < dv B b := by
  have h1 := dv_lt hB ha
  have hne : b ≠ [] := by rintro rfl; simp at h
  have h2 := hb.ge hB hne
  have h3 := pow_mono hB (show a.length ≤ b.length - 1 by omega)
  omega

theorem Can.inj {B : Int} (hB : 0 < B) {a b : List Int} (ha : Can B a) (hb : Can B b) (hv : dv B a = dv B b) : a = b := by
  rcases Nat.lt_trichotomy a.length b.length with h | h | h
  · have := Can.lt_of_length hB ha.1 hb h; omega
  · exact dv_inj_len hB ha.1 hb.1 h hv
  · have := Can.lt_of_length hB hb.1 ha h; omega

/-- without noughts at the end -/
def trimz : List Int → List Int
  | [] => []
  | x :: xs => if trimz xs = [] ∧ x = 0 then [] else x :: trimz xs

theorem trimz_dig {B : Int} {l : List Int} (h : Dig B l) : Dig B (trimz l) := by
  induction l with
  | nil => exact h
  | cons x xs ih =>
    simp only [trimz]; split
    · exact Dig.nil B
    · exact Dig.cons h.head (ih h.tail)

theorem trimz_top (l : List Int) : Top (trimz l) := by
  induction l with
  | nil => exact Top.nil
  | cons x xs ih =>
    simp only [trimz]; split
    · exact Top.nil
    · rename_i hn
      by_cases he : trimz xs = []
      · rw [he]; simp [Top]; intro hx; exact hn ⟨he, hx⟩
      · unfold Top; rw [List.getLast?_cons_of_ne_nil he]; exact ih

theorem trimz_dv (B : Int) (l : List Int) : dv B (trimz l) = dv B l := by
  induction l with
  | nil => rfl
  | cons x xs ih =>
    simp only [trimz]; split
    · rename_i h
      rw [h.1] at ih; simp only [dv] at *; rw [← ih, h.2]; simp
    · simp only [dv, ih]

theorem trimz_can {B : Int} {l : List Int} (h : Dig B l) : Can B (trimz l) := ⟨trimz_dig h, trimz_top l⟩

theorem trimz_snoc_zero (l : List Int) : trimz (l ++ [0]) = trimz l := by
  induction l with
  | nil => simp [trimz]
  | cons x xs ih => simp only [List.cons_append, trimz, ih]

theorem trimz_of_top {l : List Int} (h : Top l) : trimz l = l := by
  induction l with
  | nil => rfl
  | cons x xs ih =>
    simp only [trimz]
    by_cases he : xs = []
    · subst he
      have : x ≠ 0 := by simpa [Top] using h
      simp [trimz, this]
    · have ht : Top xs := by unfold Top at *; rwa [List.getLast?_cons_of_ne_nil he] at h
      rw [ih ht, if_neg (by simp [he])]

theorem trimz_length (l : List Int) : (trimz l).length ≤ l.length := by
  induction l with
  | nil => simp [trimz]
  | cons x xs ih => simp only [trimz]; split <;> simp <;> omega

end Go.Proofs.YtbmogniipgmkiaaGreat.Tri
/- Plain facts for printed functions: numbers by digits, loops, reads. -/
namespace Go.Proofs.YtbmogniipgmkiaaGreat.AP
open Go Go.Proofs.YtbmogniipgmkiaaGreat.Tri
set_option linter.unusedVariables false

/-! loops, round by round -/
def go_ {S X : Type} : Option (S ⊕ X) → (S → Option X) → Option X
  | none, _ => none
  | some (.inl s), k => k s
  | some (.inr x), _ => some x
@[simp] theorem go_inl {S X : Type} (s : S) (k : S → Option X) : go_ (some (.inl s)) k = k s := rfl
@[simp] theorem go_inr {S X : Type} (x : X) (k : S → Option X) : go_ (some (.inr x)) k = some x := rfl
theorem lp_go {S X : Type} (f : S → Option (S ⊕ X)) (s : S) : lp f s = go_ (f s) (lp f) := by
  rw [lp_eq]
  cases f s with
  | none => rfl
  | some z => cases z <;> rfl
/-- a loop over an index -/
theorem lp_upto {S X : Type} {f : S → Option (S ⊕ X)} (n : Nat) (T : Nat → S → Prop) (Q : X → Prop)
    (h : ∀ i s, i < n → T i s → (∃ s', f s = some (.inl s') ∧ T (i + 1) s') ∨ (∃ x, f s = some (.inr x) ∧ Q x))
    (he : ∀ s, T n s → ∃ x, f s = some (.inr x) ∧ Q x) {s : S} (h0 : T 0 s) : ∃ x, lp f s = some x ∧ Q x := by
  have key : ∀ k i s, i + k = n → T i s → ∃ x, lp f s = some x ∧ Q x := by
    intro k
    induction k with
    | zero =>
      intro i s hk hs
      obtain rfl : i = n := by omega
      obtain ⟨x, h1, h2⟩ := he s hs
      exact ⟨x, lp_done h1, h2⟩
    | succ k ih =>
      intro i s hk hs
      rcases h i s (by omega) hs with ⟨s', h1, h2⟩ | ⟨x, h1, h2⟩
      · rw [lp_more h1]; exact ih (i + 1) s' (by omega) h2
      · exact ⟨x, lp_done h1, h2⟩
  exact key n 0 s (by omega) h0
/-- the place of the first one that has p; the length where there is none -/
def fst_ {α : Type} (p : α → Bool) : List α → Nat
  | [] => 0
  | x :: l => if p x then 0 else fst_ p l + 1
theorem fst_le {α : Type} (p : α → Bool) : ∀ l : List α, fst_ p l ≤ l.length
  | [] => Nat.le_refl _
  | x :: l => by have := fst_le p l; unfold fst_; split <;> simp <;> omega
theorem fst_lt {α : Type} (p : α → Bool) : ∀ {l : List α}, fst_ p l < l.length → ∃ x, l[fst_ p l]? = some x ∧ p x = true
  | [], h => by simp at h
  | x :: l, h => by
    unfold fst_ at h ⊢
    by_cases hp : p x = true
    · simp only [hp, if_true]; exact ⟨x, rfl, hp⟩
    · simp only [hp] at h ⊢
      obtain ⟨y, h1, h2⟩ := fst_lt p (l := l) (by simpa using h)
      exact ⟨y, by simpa using h1, h2⟩
theorem fst_before {α : Type} (p : α → Bool) : ∀ {l : List α} {i : Nat} {x : α}, i < fst_ p l → l[i]? = some x → p x = false
  | [], i, x, h, h2 => by simp at h2
  | y :: l, i, x, h, h2 => by
    unfold fst_ at h
    by_cases hp : p y = true
    · simp [hp] at h
    · cases i with
      | zero => simp at h2; subst h2; simpa using hp
      | succ i => exact fst_before p (l := l) (i := i) (by simp [hp] at h; omega) (by simpa using h2)
theorem fst_any {α : Type} (p : α → Bool) : ∀ l : List α, decide (fst_ p l < l.length) = l.any p
  | [] => rfl
  | x :: l => by
    unfold fst_
    by_cases hp : p x = true
    · simp [hp]
    · have := fst_any p l
      simp only [hp, List.any_cons, List.length_cons]
      rw [← this]; simp
/-- where the first one is, -1: nowhere -/
def idx {α : Type} (p : α → Bool) (l : List α) : Int := if fst_ p l < l.length then (fst_ p l : Int) else -1
theorem idx_le {α : Type} (p : α → Bool) (l : List α) : -1 ≤ idx p l ∧ idx p l < l.length := by unfold idx; split <;> omega
theorem idx_any {α : Type} (p : α → Bool) (l : List α) : decide (0 ≤ idx p l) = l.any p := by
  rw [← fst_any]; unfold idx; by_cases h : fst_ p l < l.length <;> simp [h]
theorem idx_rd {α : Type} {p : α → Bool} {l : List α} (h : 0 ≤ idx p l) : ∃ x, rd l (idx p l) = some x ∧ p x = true := by
  unfold idx at h ⊢
  by_cases hl : fst_ p l < l.length
  · rw [if_pos hl, rd_nat]; exact fst_lt p hl
  · rw [if_neg hl] at h; omega
/-- a loop that looks for the first one -/
theorem lp_first {α X : Type} {f : Int → Option (Int ⊕ X)} (l : List α) (p : α → Bool) (r : Nat → X) (e : Option X)
    (h : ∀ (i : Nat) x, l[i]? = some x → f (i : Int) = some (if p x then .inr (r i) else .inl ((i : Int) + 1)))
    (he : lp f (l.length : Int) = e) : lp f 0 = if fst_ p l < l.length then some (r (fst_ p l)) else e := by
  have key : ∀ (k i : Nat), i + k = l.length → (∀ j, j < i → ∀ x, l[j]? = some x → p x = false) → lp f (i : Int) = if fst_ p l < l.length then some (r (fst_ p l)) else e := by
    intro k
    induction k with
    | zero =>
      intro i hk hb
      obtain rfl : i = l.length := by omega
      rw [if_neg, he]
      intro hlt
      obtain ⟨x, h1, h2⟩ := fst_lt p hlt
      rw [hb _ hlt x h1] at h2; cases h2
    | succ k ih =>
      intro i hk hb
      have hi : l[i]? = some l[i] := List.getElem?_eq_getElem (by omega)
      cases hp : p l[i] with
      | true =>
        have e : fst_ p l = i := by
          apply Nat.le_antisymm
          · apply Nat.le_of_not_lt; intro hlt; have := fst_before p hlt hi; rw [hp] at this; cases this
          · apply Nat.le_of_not_lt; intro hlt
            obtain ⟨x, h1, h2⟩ := fst_lt p (show fst_ p l < l.length by omega)
            rw [hb _ hlt x h1] at h2; cases h2
        rw [lp_done (by rw [h i _ hi, hp]; rfl), if_pos (by omega), e]
      | false =>
        rw [lp_more (by rw [h i _ hi, hp]; rfl)]
        have := ih (i + 1) (by omega) (fun j hj x hx => by
          by_cases hji : j = i
          · subst hji; rw [hi] at hx; cases hx; exact hp
          · exact hb j (by omega) x hx)
        simpa using this
  simpa using key l.length 0 (by omega) (by intro j hj; omega)

/-! reads of numbers -/
def gI (l : List Int) (i : Int) : Int := l.getD i.toNat 0
theorem rd_I {l : List Int} {i : Int} (h0 : 0 ≤ i) (h1 : i < l.length) : rd l i = some (gI l i) := rd_getD 0 h0 h1
theorem gI_dig {B : Int} {l : List Int} (h : Dig B l) (hB : 0 < B) (i : Int) : 0 ≤ gI l i ∧ gI l i < B := by
  unfold gI
  rw [List.getD_eq_getElem?_getD]
  cases hx : l[i.toNat]? with
  | none => exact ⟨Int.le_refl _, hB⟩
  | some x => exact h x (List.mem_of_getElem? hx)
theorem gI_nat (l : List Int) (i : Nat) : gI l (i : Int) = l.getD i 0 := rfl
theorem take_gI (B : Int) : ∀ (l : List Int) (i : Nat), i < l.length → dv B (l.take (i + 1)) = dv B (l.take i) + B ^ i * gI l (i : Int) := by
  intro l i h
  rw [List.take_add_one, List.getElem?_eq_getElem h]
  simp only [Option.toList]
  rw [dv_snoc, List.length_take, Nat.min_eq_left (Nat.le_of_lt h)]
  simp [gI, h]
theorem drop_gI (l : List Int) (q : Nat) (h : q < l.length) : l.drop q = gI l (q : Int) :: l.drop (q + 1) := by
  rw [List.drop_eq_getElem_cons h]; simp [gI, h]
theorem gI_last (a : List Int) (x : Int) : gI (a ++ [x]) (a.length : Int) = x := by simp [gI]

/-! numbers of a value -/
def num (B : Nat) (x : Nat) : List Int := if h : 1 < B ∧ 0 < x then ((x % B : Nat) : Int) :: num B (x / B) else []
termination_by x
decreasing_by exact Nat.div_lt_self h.2 h.1
theorem num_dv {B : Nat} (hB : 1 < B) : ∀ x : Nat, dv (B : Int) (num B x) = x := by
  intro x
  induction x using Nat.strongRecOn with
  | _ x ih =>
    rw [num]
    by_cases h : 0 < x
    · rw [dif_pos ⟨hB, h⟩, dv, ih _ (Nat.div_lt_self h hB)]
      have := Nat.mod_add_div x B
      have e : ((x % B : Nat) : Int) + (B : Int) * ((x / B : Nat) : Int) = ((x % B + B * (x / B) : Nat) : Int) := by push_cast; rfl
      rw [e, this]
    · rw [dif_neg (by omega)]
      have : x = 0 := by omega
      rw [this]; rfl
theorem num_can {B : Nat} (hB : 1 < B) : ∀ x : Nat, Tri.Can (B : Int) (num B x) := by
  intro x
  induction x using Nat.strongRecOn with
  | _ x ih =>
    rw [num]
    by_cases h : 0 < x
    · rw [dif_pos ⟨hB, h⟩]
      have hc := ih _ (Nat.div_lt_self h hB)
      have hm := Nat.mod_lt x (show 0 < B by omega)
      refine ⟨Dig.cons ⟨by omega, by omega⟩ hc.1, ?_⟩
      by_cases he : num B (x / B) = []
      · rw [he]
        have h0 : x / B = 0 := by
          have := num_dv hB (x / B)
          rw [he] at this
          have h2 : ((x / B : Nat) : Int) = 0 := this.symm
          omega
        have h1 : x % B = x := by have := Nat.mod_add_div x B; rw [h0, Nat.mul_zero] at this; omega
        rw [h1]
        simp [Top]
        omega
      · unfold Top
        rw [List.getLast?_cons_of_ne_nil he]
        exact hc.2
    · rw [dif_neg (by omega)]
      exact Tri.Can.nil _
theorem can_num {B : Nat} (hB : 1 < B) {l : List Int} (h : Tri.Can (B : Int) l) : l = num B (dv (B : Int) l).toNat := by
  refine Tri.Can.inj (by omega) h (num_can hB _) ?_
  rw [num_dv hB]
  have := dv_nonneg (B := (B : Int)) (by omega) h.1
  omega
def nl (x : Int) : List Int := num 4294967296 x.toNat
def zl (x : Int) : List Int := num 10000 x.toNat
theorem nl_can (x : Int) : Tri.Can (4294967296 : Int) (nl x) := num_can (by decide) _
theorem zl_can (x : Int) : Tri.Can (10000 : Int) (zl x) := num_can (by decide) _
theorem nl_dv {x : Int} (h : 0 ≤ x) : dv (4294967296 : Int) (nl x) = x := by
  have := num_dv (B := 4294967296) (by decide) x.toNat
  have e : ((4294967296 : Nat) : Int) = (4294967296 : Int) := rfl
  rw [e] at this
  unfold nl
  rw [this]; omega
theorem zl_dv {x : Int} (h : 0 ≤ x) : dv (10000 : Int) (zl x) = x := by
  have := num_dv (B := 10000) (by decide) x.toNat
  have e : ((10000 : Nat) : Int) = (10000 : Int) := rfl
  rw [e] at this
  unfold zl
  rw [this]; omega
theorem can_nl {d : List Int} (h : Tri.Can (4294967296 : Int) d) {x : Int} (hx : dv (4294967296 : Int) d = x) : d = nl x := by
  have h2 := can_num (B := 4294967296) (by decide) h
  rw [h2]; unfold nl; congr 2
theorem can_zl {d : List Int} (h : Tri.Can (10000 : Int) d) {x : Int} (hx : dv (10000 : Int) d = x) : d = zl x := by
  have h2 := can_num (B := 10000) (by decide) h
  rw [h2]; unfold zl; congr 2
theorem trimz_nl {d : List Int} (h : Dig (4294967296 : Int) d) {x : Int} (hx : dv (4294967296 : Int) d = x) : trimz d = nl x := can_nl (trimz_can h) (by rw [trimz_dv, hx])
theorem trimz_zl {d : List Int} (h : Dig (10000 : Int) d) {x : Int} (hx : dv (10000 : Int) d = x) : trimz d = zl x := can_zl (trimz_can h) (by rw [trimz_dv, hx])
theorem nl_zero : nl 0 = [] := by unfold nl; rw [num]; simp
theorem zl_zero : zl 0 = [] := by unfold zl; rw [num]; simp
theorem nl_nil {x : Int} (h : 0 ≤ x) : nl x = [] ↔ x = 0 := by
  rw [Can.eq_nil (by decide) (nl_can x), nl_dv h]
theorem zl_nil {x : Int} (h : 0 ≤ x) : zl x = [] ↔ x = 0 := by
  rw [Can.eq_nil (by decide) (zl_can x), zl_dv h]
theorem nl_inj {x y : Int} (hx : 0 ≤ x) (hy : 0 ≤ y) (h : nl x = nl y) : x = y := by rw [← nl_dv hx, ← nl_dv hy, h]
theorem zl_inj {x y : Int} (hx : 0 ≤ x) (hy : 0 ≤ y) (h : zl x = zl y) : x = y := by rw [← zl_dv hx, ← zl_dv hy, h]
theorem can_len {B : Int} (hB : 1 < B) {l : List Int} (h : Tri.Can B l) {n : Nat} (hx : dv B l < B ^ n) : l.length ≤ n := by
  apply Nat.le_of_not_lt
  intro hlt
  have hne : l ≠ [] := by rintro rfl; simp at hlt
  have h1 := h.ge (by omega) hne
  have h2 := pow_mono (B := B) (by omega) (show n ≤ l.length - 1 by omega)
  omega
theorem zl_len {x : Int} (h0 : 0 ≤ x) {n : Nat} (hx : x < (10000 : Int) ^ n) : (zl x).length ≤ n := can_len (by decide) (zl_can x) (by rw [zl_dv h0]; exact hx)
theorem nl_len {x : Int} (h0 : 0 ≤ x) {n : Nat} (hx : x < (4294967296 : Int) ^ n) : (nl x).length ≤ n := can_len (by decide) (nl_can x) (by rw [nl_dv h0]; exact hx)
theorem zl_mono {x y : Int} (h0 : 0 ≤ x) (h : x ≤ y) : (zl x).length ≤ (zl y).length := by
  apply Nat.le_of_not_lt
  intro hlt
  have := Can.lt_of_length (by decide) (zl_can y).1 (zl_can x) hlt
  rw [zl_dv h0, zl_dv (by omega)] at this; omega
theorem nl_mono {x y : Int} (h0 : 0 ≤ x) (h : x ≤ y) : (nl x).length ≤ (nl y).length := by
  apply Nat.le_of_not_lt
  intro hlt
  have := Can.lt_of_length (by decide) (nl_can y).1 (nl_can x) hlt
  rw [nl_dv h0, nl_dv (by omega)] at this; omega
theorem pow_le {a b : Int} (ha : 0 ≤ a) (h : a ≤ b) : ∀ n : Nat, a ^ n ≤ b ^ n
  | 0 => by simp
  | n + 1 => by
    rw [Int.pow_succ, Int.pow_succ]
    exact Int.mul_le_mul (pow_le ha h n) h ha (Int.pow_nonneg (by omega))
theorem lb_zb (n : Nat) : (4294967296 : Int) ^ n ≤ (10000 : Int) ^ (3 * n) := by
  rw [Int.pow_mul]; exact pow_le (by decide) (by decide) n
theorem zb_lb (n : Nat) : (10000 : Int) ^ n ≤ (4294967296 : Int) ^ n := pow_le (by decide) (by decide) n
/-- sign -/
def sg (x : Int) : Int := if x < 0 then -1 else if 0 < x then 1 else 0
end Go.Proofs.YtbmogniipgmkiaaGreat.AP
/- The document's numbers, as printed: what they come to. -/
namespace Go.Proofs.YtbmogniipgmkiaaGreat.AP
open Go Go.Proofs.YtbmogniipgmkiaaGreat.Tri
set_option linter.unusedVariables false
set_option linter.unusedSimpArgs false
theorem split_last {n : Nat} {a : List Int} (h : a.length = n + 1) : ∃ d x, a = d ++ [x] ∧ d.length = n := by
  have hne : a ≠ [] := by rintro rfl; simp at h
  obtain ⟨d, x, rfl⟩ := eq_snoc hne
  exact ⟨d, x, rfl, by simpa using h⟩
theorem take_self_append (d : List Int) (x : Int) : (d ++ [x]).take d.length = d := by simp
theorem refTrim_loop (p0 : List Int) (hl : p0.length ≤ 4611686018427387904) : ∀ (n : Nat) (a b : List Int), a.length = n → p0 = a ++ b → ∃ k : Nat, lp (m_triviumref02_Trim_l1 p0) (n : Int) = some (k : Int) ∧ k ≤ n ∧ a.take k = trimz a
  | 0, a, b, h, hp => by
    have : a = [] := List.eq_nil_of_length_eq_zero h
    subst this
    exact ⟨0, by rw [lp_go]; simp [m_triviumref02_Trim_l1], Nat.le_refl _, rfl⟩
  | n + 1, a, b, h, hp => by
    obtain ⟨d, x, rfl, hd⟩ := split_last h
    have hlen : p0.length = n + 1 + b.length := by rw [hp]; simp [hd]; omega
    have hx : gI p0 (n : Int) = x := by rw [hp, List.append_assoc]; unfold gI; rw [List.getD_eq_getElem?_getD, List.getElem?_append_right (by simp [hd])]; simp [hd]
    have hstep : m_triviumref02_Trim_l1 p0 ((n + 1 : Nat) : Int) = if x = 0 then some (.inl (n : Int)) else some (.inr ((n + 1 : Nat) : Int)) := by
      have e1 : wi64 (((n + 1 : Nat) : Int) - 1) = (n : Int) := by rw [wi64_eq (by omega) (by omega)]; omega
      have e2 : rd p0 (n : Int) = some x := by rw [rd_I (by omega) (by omega), hx]
      have e3 : decide (0 < ((n + 1 : Nat) : Int)) = true := decide_eq_true (by omega)
      simp only [m_triviumref02_Trim_l1, e3, if_true, e1, e2, bd_some, decide_eq_true_eq]
    by_cases h0 : x = 0
    · subst h0
      rw [lp_more (by rw [hstep, if_pos rfl])]
      obtain ⟨k, h1, h2, h3⟩ := refTrim_loop p0 hl n d ([0] ++ b) hd (by rw [hp]; simp)
      refine ⟨k, h1, by omega, ?_⟩
      rw [trimz_snoc_zero, ← h3, List.take_append_of_le_length (by omega)]
    · refine ⟨n + 1, lp_done (by rw [hstep, if_neg h0]), Nat.le_refl _, ?_⟩
      rw [List.take_of_length_le (by omega), trimz_of_top (Top.snoc.2 h0)]
theorem refTrim_eq (a : List Int) (hl : a.length ≤ 10000000000000) : m_triviumref02_Trim a = some (trimz a) := by
  obtain ⟨k, h1, h2, h3⟩ := refTrim_loop a (by omega) a.length a [] rfl (by simp)
  unfold m_triviumref02_Trim
  rw [h1, bd_some, ct_of (by omega), bd_some, ap_of (by simp; omega), bd_some]
  simp [h3]
theorem carry_loop : ∀ (n : Nat) (c : Int) (d : List Int), 0 ≤ c → c < (10000 : Int) ^ n → c < 1000000000000000000 → Dig (10000 : Int) d → d.length + n ≤ 1000000000000 →
    ∃ r, lp m_triviumref02_MulAdd_l2 (c, d) = some r ∧ Dig (10000 : Int) r ∧ dv (10000 : Int) r = dv (10000 : Int) d + (10000 : Int) ^ d.length * c ∧ r.length ≤ d.length + n
  | n, c, d, h0, h1, h2, hd, hl => by
    by_cases hc : 0 < c
    · cases n with
      | zero => simp at h1; omega
      | succ n =>
        have e1 : m_triviumref02_MulAdd_l2 (c, d) = some (.inl (c / (10000 : Int), d ++ [c % (10000 : Int)])) := by
          simp only [m_triviumref02_MulAdd_l2, decide_eq_true hc, if_true, rm_of h0 (show (0 : Int) < 10000 by decide), bd_some, ap_of (l := d) (m := [c % 10000]) (b := 8) (by simp; omega), qd64 h0 (show (0 : Int) < 10000 by decide) (by omega)]
        have hq : c / (10000 : Int) < (10000 : Int) ^ n := Int.ediv_lt_of_lt_mul (by decide) (by rw [← Int.pow_succ]; exact h1)
        obtain ⟨r, r1, r2, r3, r4⟩ := carry_loop n (c / (10000 : Int)) (d ++ [c % (10000 : Int)]) (Int.ediv_nonneg h0 (by decide)) hq (by have : c / (10000 : Int) ≤ c := Int.ediv_le_self _ h0; omega) (Dig.snoc hd ⟨by omega, by omega⟩) (by simp; omega)
        refine ⟨r, by rw [lp_more e1]; exact r1, r2, ?_, by simp at r4; omega⟩
        rw [r3, dv_snoc, List.length_append, List.length_singleton, Int.pow_succ]
        have := Int.mul_ediv_add_emod c (10000 : Int)
        generalize (10000 : Int) ^ d.length = p at *
        generalize c / (10000 : Int) = q at *
        have e : c = (10000 : Int) * q + c % (10000 : Int) := this.symm
        generalize c % (10000 : Int) = m at *
        subst e
        grind
    · have : c = 0 := by omega
      subst this
      refine ⟨d, lp_done (by simp [m_triviumref02_MulAdd_l2]), hd, by simp, by omega⟩
theorem mulAdd_loop (p0 : List Int) (p1 : Int) (ha : Dig (10000 : Int) p0) (hm0 : 0 ≤ p1) (hm1 : p1 ≤ 4294967296) (hl : p0.length ≤ 100000000000) (c0 : Int) : ∀ (k i : Nat) (c : Int) (d : List Int), i + k = p0.length → d.length = i → 0 ≤ c → c ≤ 4294967296 → Dig (10000 : Int) d → dv (10000 : Int) d + (10000 : Int) ^ i * c = dv (10000 : Int) (p0.take i) * p1 + c0 →
    ∃ c' d', lp (m_triviumref02_MulAdd_l1 p0 p1) (c, (i : Int), d) = some (c', d') ∧ d'.length = p0.length ∧ 0 ≤ c' ∧ c' ≤ 4294967296 ∧ Dig (10000 : Int) d' ∧ dv (10000 : Int) d' + (10000 : Int) ^ p0.length * c' = dv (10000 : Int) p0 * p1 + c0
  | 0, i, c, d, hk, hi, h0, h1, hd, hv => by
    obtain rfl : i = p0.length := by omega
    refine ⟨c, d, lp_done (by simp [m_triviumref02_MulAdd_l1]), hi, h0, h1, hd, by rw [hv, List.take_length]⟩
  | k + 1, i, c, d, hk, hi, h0, h1, hd, hv => by
    have g := gI_dig ha (by decide) (i : Int)
    have hp0 : 0 ≤ gI p0 (i : Int) * p1 := Int.mul_nonneg g.1 hm0
    have hp1 : gI p0 (i : Int) * p1 ≤ 9999 * 4294967296 := Int.mul_le_mul (by omega) hm1 hm0 (by decide)
    generalize hx : c + gI p0 (i : Int) * p1 = x
    have hx0 : 0 ≤ x := by omega
    have e1 : m_triviumref02_MulAdd_l1 p0 p1 (c, (i : Int), d) = some (.inl (x / (10000 : Int), ((i + 1 : Nat) : Int), d ++ [x % (10000 : Int)])) := by
      have a1 : decide ((i : Int) < (p0.length : Int)) = true := decide_eq_true (by omega)
      have a2 : rd p0 (i : Int) = some (gI p0 (i : Int)) := rd_I (by omega) (by omega)
      have a3 : wi64 (gI p0 (i : Int) * p1) = gI p0 (i : Int) * p1 := wi64_eq (by omega) (by omega)
      have a4 : wi64 (c + gI p0 (i : Int) * p1) = x := by rw [hx]; exact wi64_eq (by omega) (by omega)
      have a5 : wi64 ((i : Int) + 1) = ((i + 1 : Nat) : Int) := by rw [wi64_eq (by omega) (by omega)]; omega
      simp only [m_triviumref02_MulAdd_l1, a1, if_true, a2, bd_some, a3, a4, rm_of hx0 (show (0 : Int) < 10000 by decide), ap_of (l := d) (m := [x % 10000]) (b := 8) (by simp; omega), qd64 hx0 (show (0 : Int) < 10000 by decide) (by omega), a5]
    obtain ⟨c', d', r1, r2⟩ := mulAdd_loop p0 p1 ha hm0 hm1 hl c0 k (i + 1) (x / (10000 : Int)) (d ++ [x % (10000 : Int)]) (by omega) (by simp [hi]) (Int.ediv_nonneg hx0 (by decide)) (by omega) (Dig.snoc hd ⟨by omega, by omega⟩) (by
      rw [dv_snoc, take_gI (10000 : Int) p0 i (by omega), hi, Int.pow_succ]
      have := Int.mul_ediv_add_emod x (10000 : Int)
      generalize (10000 : Int) ^ i = p at *
      generalize x / (10000 : Int) = q at *
      generalize x % (10000 : Int) = m at *
      generalize gI p0 (i : Int) = gg at *
      subst hx
      generalize dv (10000 : Int) (List.take i p0) = T at *
      have h3 : m = c + gg * p1 - (10000 : Int) * q := by omega
      subst h3
      grind)
    exact ⟨c', d', by rw [lp_more e1]; exact r1, r2⟩
theorem mulAdd_dig (a : List Int) (m c : Int) (ha : Dig (10000 : Int) a) (hm0 : 0 ≤ m) (hm1 : m ≤ 4294967296) (hc0 : 0 ≤ c) (hc1 : c ≤ 4294967296) (hl : a.length ≤ 100000000000) : m_triviumref02_MulAdd a m c = some (zl (dv (10000 : Int) a * m + c)) := by
  obtain ⟨c', d', h1, h2, h3, h4, h5, h6⟩ := mulAdd_loop a m ha hm0 hm1 hl c a.length 0 c [] (by omega) rfl hc0 hc1 (Dig.nil _) (by simp [dv])
  obtain ⟨r, r1, r2, r3, r4⟩ := carry_loop 3 c' d' h3 (by have : (10000 : Int) ^ 3 = 1000000000000 := by decide
                                                          omega) (by omega) h5 (by omega)
  unfold m_triviumref02_MulAdd
  rw [show ((0 : Int)) = ((0 : Nat) : Int) from rfl, h1, bd_some]
  dsimp only
  rw [r1, bd_some, refTrim_eq r (by omega), bd_some, trimz_zl r2 (by rw [r3, h2, h6])]
theorem mulAdd_eq (x m c : Int) (hx : 0 ≤ x) (hm0 : 0 ≤ m) (hm1 : m ≤ 4294967296) (hc0 : 0 ≤ c) (hc1 : c ≤ 4294967296) (hl : (zl x).length ≤ 100000000000) : m_triviumref02_MulAdd (zl x) m c = some (zl (x * m + c)) := by
  rw [mulAdd_dig _ _ _ (zl_can x).1 hm0 hm1 hc0 hc1 hl, zl_dv hx]
theorem of_loop (a : List Int) (ha : Dig (4294967296 : Int) a) (hl : a.length ≤ 30000000000) : ∀ (n : Nat), n ≤ a.length → lp (m_triviumref02_Of_l1 a) (zl (dv (4294967296 : Int) (a.drop n)), (n : Int) - 1) = some (zl (dv (4294967296 : Int) a))
  | 0, _ => by
    refine lp_done ?_
    simp [m_triviumref02_Of_l1]
  | n + 1, h => by
    have g := gI_dig ha (by decide) (n : Int)
    have hd : Dig (4294967296 : Int) (a.drop (n + 1)) := ha.drop _
    have h0 := dv_nonneg (by decide) hd
    have hlen : (zl (dv (4294967296 : Int) (a.drop (n + 1)))).length ≤ 100000000000 := by
      have h1 := dv_lt (by decide) hd
      have := zl_len h0 (n := 3 * (a.drop (n + 1)).length) (Int.lt_of_lt_of_le h1 (lb_zb _))
      simp at this ⊢; omega
    have hv : dv (4294967296 : Int) (a.drop n) = dv (4294967296 : Int) (a.drop (n + 1)) * 4294967296 + gI a (n : Int) := by
      rw [drop_gI a n (by omega), dv_cons]; omega
    have e1 : m_triviumref02_Of_l1 a (zl (dv (4294967296 : Int) (a.drop (n + 1))), ((n + 1 : Nat) : Int) - 1) = some (.inl (zl (dv (4294967296 : Int) (a.drop n)), (n : Int) - 1)) := by
      have a0 : ((n + 1 : Nat) : Int) - 1 = (n : Int) := by omega
      have a1 : decide ((0 : Int) ≤ (n : Int)) = true := decide_eq_true (by omega)
      have a2 : rd a (n : Int) = some (gI a (n : Int)) := rd_I (by omega) (by omega)
      have a3 : gI a (n : Int) % 4294967296 = gI a (n : Int) := Int.emod_eq_of_lt g.1 g.2
      have a4 : wi64 (gI a (n : Int)) = gI a (n : Int) := wi64_eq (by omega) (by omega)
      have a5 : wi64 ((n : Int) - 1) = (n : Int) - 1 := wi64_eq (by omega) (by omega)
      rw [a0]
      simp only [m_triviumref02_Of_l1, a1, if_true, a2, bd_some, rm_of g.1 (show (0 : Int) < 4294967296 by decide), a3, a4, mulAdd_eq _ _ _ h0 (show (0 : Int) ≤ 4294967296 by decide) (Int.le_refl _) g.1 (by omega) hlen, a5, hv]
    rw [lp_more e1]
    exact of_loop a ha hl n (by omega)
theorem refOf_dig (a : List Int) (ha : Dig (4294967296 : Int) a) (hl : a.length ≤ 30000000000) : m_triviumref02_Of a = some (zl (dv (4294967296 : Int) a)) := by
  unfold m_triviumref02_Of
  have e : wi64 ((a.length : Int) - 1) = (a.length : Int) - 1 := wi64_eq (by omega) (by omega)
  have := of_loop a ha hl a.length (Nat.le_refl _)
  rw [List.drop_length, dv_nil, zl_zero] at this
  rw [e, this]; rfl
theorem refOf_eq (x : Int) (hx : 0 ≤ x) (hl : (nl x).length ≤ 30000000000) : m_triviumref02_Of (nl x) = some (zl x) := by
  rw [refOf_dig _ (nl_can x).1 hl, nl_dv hx]
end Go.Proofs.YtbmogniipgmkiaaGreat.AP
/- The document's numbers, as printed: compared, taken off, divided. -/
namespace Go.Proofs.YtbmogniipgmkiaaGreat.AP
open Go Go.Proofs.YtbmogniipgmkiaaGreat.Tri
set_option linter.unusedVariables false
set_option linter.unusedSimpArgs false
theorem dv_split (B : Int) (a : List Int) (n : Nat) (h : n ≤ a.length) : dv B a = dv B (a.take n) + B ^ n * dv B (a.drop n) := by
  have := dv_append B (a.take n) (a.drop n)
  rw [List.take_append_drop, List.length_take, Nat.min_eq_left h] at this
  exact this
theorem dv_take_lt {B : Int} (hB : 0 < B) {a : List Int} (h : Dig B a) (n : Nat) : dv B (a.take n) < B ^ n := by
  have h1 := dv_lt hB (h.take n)
  have h2 := pow_mono hB (show (a.take n).length ≤ n by simp; omega)
  omega
theorem digit_lt {B : Int} (hB : 0 < B) {a b : List Int} (ha : Dig B a) (hb : Dig B b) (q : Nat) (hqa : q < a.length) (hqb : q < b.length) (ht : dv B (a.drop (q + 1)) = dv B (b.drop (q + 1))) (h : gI a (q : Int) < gI b (q : Int)) : dv B a < dv B b := by
  rw [dv_split B a q (by omega), dv_split B b q (by omega), drop_gI a q hqa, drop_gI b q hqb, dv_cons, dv_cons, ht]
  have h1 := dv_take_lt hB ha q
  have h2 := dv_nonneg hB (hb.take q)
  have h3 := pow_pos' hB q
  have h4 : B ^ q * (gI a (q : Int) + 1) ≤ B ^ q * gI b (q : Int) := Int.mul_le_mul_of_nonneg_left (by omega) (by omega)
  rw [Int.mul_add, Int.mul_add]
  rw [Int.mul_add, Int.mul_one] at h4
  omega
theorem refCmp_loop (a b : List Int) (ha : Dig (10000 : Int) a) (hb : Dig (10000 : Int) b) (he : a.length = b.length) (hl : a.length ≤ 4611686018427387904) : ∀ n : Nat, n ≤ a.length → dv (10000 : Int) (a.drop n) = dv (10000 : Int) (b.drop n) → lp (m_triviumref02_Cmp_l1 a b) ((n : Int) - 1) = some (sg (dv (10000 : Int) a - dv (10000 : Int) b))
  | 0, _, h => by
    rw [List.drop_zero, List.drop_zero] at h
    refine lp_done ?_
    rw [h, Int.sub_self]
    simp [m_triviumref02_Cmp_l1, sg]
  | n + 1, hn, h => by
    have ga := gI_dig ha (by decide) (n : Int)
    have gb := gI_dig hb (by decide) (n : Int)
    have a0 : ((n + 1 : Nat) : Int) - 1 = (n : Int) := by omega
    have a1 : decide ((0 : Int) ≤ (n : Int)) = true := decide_eq_true (by omega)
    have a2 : rd a (n : Int) = some (gI a (n : Int)) := rd_I (by omega) (by omega)
    have a3 : rd b (n : Int) = some (gI b (n : Int)) := rd_I (by omega) (by omega)
    have a5 : wi64 ((n : Int) - 1) = (n : Int) - 1 := wi64_eq (by omega) (by omega)
    have e : m_triviumref02_Cmp_l1 a b (((n + 1 : Nat) : Int) - 1) = if gI a (n : Int) < gI b (n : Int) then some (.inr (-1)) else if gI b (n : Int) < gI a (n : Int) then some (.inr 1) else some (.inl ((n : Int) - 1)) := by
      rw [a0]
      simp only [m_triviumref02_Cmp_l1, a1, if_true, a2, a3, bd_some, a5, decide_eq_true_eq]
    rcases Int.lt_trichotomy (gI a (n : Int)) (gI b (n : Int)) with hlt | heq | hgt
    · have := digit_lt (by decide) ha hb n (by omega) (by omega) h hlt
      rw [lp_done (by rw [e, if_pos hlt])]
      unfold sg; rw [if_pos (by omega)]
    · rw [lp_more (by rw [e, if_neg (by omega), if_neg (by omega)])]
      refine refCmp_loop a b ha hb he hl n (by omega) ?_
      rw [drop_gI a n (by omega), drop_gI b n (by omega), dv_cons, dv_cons, h, heq]
    · have := digit_lt (by decide) hb ha n (by omega) (by omega) h.symm hgt
      rw [lp_done (by rw [e, if_neg (by omega), if_pos hgt])]
      unfold sg; rw [if_neg (by omega), if_pos (by omega)]
theorem refCmp_can (a b : List Int) (ha : Tri.Can (10000 : Int) a) (hb : Tri.Can (10000 : Int) b) (hl : a.length ≤ 4611686018427387904) : m_triviumref02_Cmp a b = some (sg (dv (10000 : Int) a - dv (10000 : Int) b)) := by
  unfold m_triviumref02_Cmp
  by_cases he : a.length = b.length
  · rw [if_neg (by simp [he]), wi64_eq (by omega) (by omega)]
    exact refCmp_loop a b ha.1 hb.1 he hl a.length (Nat.le_refl _) (by rw [List.drop_length, he, List.drop_length])
  · rw [if_pos (by simp; omega)]
    rcases Nat.lt_or_gt_of_ne he with h | h
    · have := Can.lt_of_length (by decide) ha.1 hb h
      rw [if_pos (by simp; omega)]
      unfold sg; rw [if_pos (by omega)]
    · have := Can.lt_of_length (by decide) hb.1 ha h
      rw [if_neg (by simp; omega)]
      unfold sg; rw [if_neg (by omega), if_pos (by omega)]
theorem refCmp_eq (x y : Int) (hx : 0 ≤ x) (hy : 0 ≤ y) (hl : (zl x).length ≤ 4611686018427387904) : m_triviumref02_Cmp (zl x) (zl y) = some (sg (x - y)) := by
  rw [refCmp_can _ _ (zl_can x) (zl_can y) hl, zl_dv hx, zl_dv hy]
theorem take_gI' (B : Int) (l : List Int) (i : Nat) : dv B (l.take (i + 1)) = dv B (l.take i) + B ^ i * gI l (i : Int) := by
  by_cases h : i < l.length
  · exact take_gI B l i h
  · rw [List.take_of_length_le (by omega), List.take_of_length_le (by omega)]
    have : gI l (i : Int) = 0 := by unfold gI; rw [List.getD_eq_getElem?_getD, List.getElem?_eq_none (by omega)]; rfl
    rw [this]; simp
theorem refSub_loop (a b : List Int) (ha : Dig (10000 : Int) a) (hb : Dig (10000 : Int) b) (hl : a.length ≤ 1000000000000) : ∀ (k i : Nat) (c : Int) (d : List Int), i + k = a.length → d.length = i → (c = 0 ∨ c = 1) → Dig (10000 : Int) d → dv (10000 : Int) d - (10000 : Int) ^ i * c = dv (10000 : Int) (a.take i) - dv (10000 : Int) (b.take i) →
    ∃ c' d', lp (m_triviumref02_Sub_l1 a b) (c, (i : Int), d) = some d' ∧ d'.length = a.length ∧ (c' = 0 ∨ c' = 1) ∧ Dig (10000 : Int) d' ∧ dv (10000 : Int) d' - (10000 : Int) ^ a.length * c' = dv (10000 : Int) a - dv (10000 : Int) (b.take a.length)
  | 0, i, c, d, hk, hi, hc, hd, hv => by
    obtain rfl : i = a.length := by omega
    exact ⟨c, d, lp_done (by simp [m_triviumref02_Sub_l1]), hi, hc, hd, by rw [hv, List.take_length]⟩
  | k + 1, i, c, d, hk, hi, hc, hd, hv => by
    have ga := gI_dig ha (by decide) (i : Int)
    have gb := gI_dig hb (by decide) (i : Int)
    generalize hx : gI a (i : Int) - c - gI b (i : Int) = x
    have e1 : m_triviumref02_Sub_l1 a b (c, (i : Int), d) = some (.inl (if x < 0 then 1 else 0, ((i + 1 : Nat) : Int), d ++ [if x < 0 then x + (10000 : Int) else x])) := by
      have a1 : decide ((i : Int) < (a.length : Int)) = true := decide_eq_true (by omega)
      have a2 : rd a (i : Int) = some (gI a (i : Int)) := rd_I (by omega) (by omega)
      have a3 : wi64 (gI a (i : Int) - c) = gI a (i : Int) - c := wi64_eq (by omega) (by omega)
      have a5 : wi64 ((i : Int) + 1) = ((i + 1 : Nat) : Int) := by rw [wi64_eq (by omega) (by omega)]; omega
      have a6 : (if decide ((i : Int) < (b.length : Int)) then (bd (rd b (i : Int)) fun x10 => some (wi64 ((wi64 (gI a (i : Int) - c)) - x10))) else some (wi64 (gI a (i : Int) - c))) = some x := by
        by_cases hib : i < b.length
        · rw [if_pos (by simp; omega), rd_I (by omega) (by omega), bd_some, a3, wi64_eq (by omega) (by omega), hx]
        · rw [if_neg (by simp; omega), a3]
          have : gI b (i : Int) = 0 := by unfold gI; rw [List.getD_eq_getElem?_getD, List.getElem?_eq_none (by omega)]; rfl
          rw [← hx, this]; simp
      have a7 : (if decide (x < 0) = true then some ((1 : Int), wi64 (x + 10000)) else some (0, x)) = some (if x < 0 then 1 else 0, if x < 0 then x + (10000 : Int) else x) := by
        by_cases h0 : x < 0
        · rw [if_pos (by simpa using h0), if_pos h0, if_pos h0, wi64_eq (by omega) (by omega)]
        · rw [if_neg (by simpa using h0), if_neg h0, if_neg h0]
      have a8 : ap 8 d [if x < 0 then x + (10000 : Int) else x] = some (d ++ [if x < 0 then x + (10000 : Int) else x]) := ap_of (by simp; omega)
      simp only [m_triviumref02_Sub_l1, a1, if_true, a2, bd_some, a6, a7, a8, a5]
    obtain ⟨c', d', r1, r2⟩ := refSub_loop a b ha hb hl k (i + 1) (if x < 0 then 1 else 0) (d ++ [if x < 0 then x + (10000 : Int) else x]) (by omega) (by simp [hi]) (by split <;> simp) (Dig.snoc hd (by split <;> omega)) (by
      rw [dv_snoc, take_gI (10000 : Int) a i (by omega), take_gI' (10000 : Int) b i, hi, Int.pow_succ]
      have h2 : (if x < 0 then x + (10000 : Int) else x) = x + (10000 : Int) * (if x < 0 then 1 else 0) := by split <;> omega
      rw [h2]
      generalize (if x < 0 then (1 : Int) else 0) = z
      subst hx
      generalize (10000 : Int) ^ i = p at *
      generalize dv (10000 : Int) (List.take i a) = T at *
      generalize dv (10000 : Int) (List.take i b) = U at *
      generalize gI a (i : Int) = g1 at *
      generalize gI b (i : Int) = g2 at *
      grind)
    exact ⟨c', d', by rw [lp_more e1]; exact r1, r2⟩
theorem refSub_eq (x y : Int) (hy : 0 ≤ y) (hxy : y ≤ x) (hl : (zl x).length ≤ 1000000000000) : m_triviumref02_Sub (zl x) (zl y) = some (zl (x - y)) := by
  obtain ⟨c', d', h1, h2, h3, h4, h5⟩ := refSub_loop (zl x) (zl y) (zl_can x).1 (zl_can y).1 hl _ 0 0 [] (Nat.zero_add _) rfl (.inl rfl) (Dig.nil _) (by simp [dv])
  have hm := zl_mono hy hxy
  rw [List.take_of_length_le hm, zl_dv (by omega), zl_dv hy] at h5
  have hc : c' = 0 := by
    rcases h3 with h3 | h3
    · exact h3
    · subst h3
      have := dv_lt (by decide) h4
      rw [h2] at this
      omega
  subst hc
  unfold m_triviumref02_Sub
  rw [show ((0 : Int), (0 : Int), ([] : List Int)) = ((0 : Int), ((0 : Nat) : Int), ([] : List Int)) from rfl, h1, bd_some, refTrim_eq d' (by omega), bd_some, trimz_zl (x := x - y) h4 (by rw [Int.mul_zero] at h5; omega)]
/-- a middle one is looked for -/
theorem refMid_loop (y r : Int) (hy : 0 < y) (hr : 0 ≤ r) (hq : r / y < 10000) (hl : (zl y).length ≤ 10000000000) (hl2 : (zl r).length ≤ 10000000000) : ∀ (n : Nat) (lo hi : Int), (hi - lo).toNat ≤ n → 0 ≤ lo → lo < hi → hi ≤ 10000 → lo ≤ r / y → r / y < hi → lp (m_triviumref02_Div_l2 (zl y) (zl r)) (lo, hi) = some (r / y)
  | n, lo, hi, hn, h0, h1, h2, h3, h4 => by
    by_cases hd : 1 < hi - lo
    · cases n with
      | zero => omega
      | succ n =>
        have b1 : wi64 (hi - lo) = hi - lo := wi64_eq (by omega) (by omega)
        have b2 : wi64 (lo + hi) = lo + hi := wi64_eq (by omega) (by omega)
        have b3 : qd .i64 (lo + hi) 2 = some ((lo + hi) / 2) := qd64 (by omega) (by omega) (by omega)
        generalize hm : (lo + hi) / 2 = m at b3
        have hm0 : lo < m := by omega
        have hm1 : m < hi := by omega
        have b4 := mulAdd_eq y m 0 (by omega) (by omega) (by omega) (Int.le_refl _) (by omega) (by omega)
        rw [Int.add_zero] at b4
        have hlen : (zl (y * m)).length ≤ 4611686018427387904 := by
          have h5 := dv_lt (by decide) (zl_can y).1
          rw [zl_dv (by omega)] at h5
          have h6 : y * m ≤ y * 10000 := Int.mul_le_mul_of_nonneg_left (by omega) (by omega)
          have := zl_len (x := y * m) (Int.mul_nonneg (by omega) (by omega)) (n := (zl y).length + 1) (by rw [Int.pow_succ]; omega)
          omega
        have b5 := refCmp_eq (y * m) r (Int.mul_nonneg (by omega) (by omega)) hr hlen
        have key : (sg (y * m - r) ≤ 0) ↔ m ≤ r / y := by
          rw [Int.le_ediv_iff_mul_le hy, Int.mul_comm m y]
          unfold sg
          split <;> (try split) <;> omega
        have e : m_triviumref02_Div_l2 (zl y) (zl r) (lo, hi) = if m ≤ r / y then some (.inl (m, hi)) else some (.inl (lo, m)) := by
          simp only [m_triviumref02_Div_l2, b1, b2, b3, b4, b5, bd_some, decide_eq_true_eq, hd, if_true, key]
        by_cases hk : m ≤ r / y
        · rw [lp_more (by rw [e, if_pos hk])]
          exact refMid_loop y r hy hr hq hl hl2 n m hi (by omega) (by omega) hm1 h2 hk h4
        · rw [lp_more (by rw [e, if_neg hk])]
          exact refMid_loop y r hy hr hq hl hl2 n lo m (by omega) h0 hm0 (by omega) h3 (by omega)
    · have b1 : wi64 (hi - lo) = hi - lo := wi64_eq (by omega) (by omega)
      have : lo = r / y := by omega
      have e : m_triviumref02_Div_l2 (zl y) (zl r) (lo, hi) = some (.inr lo) := by
        simp only [m_triviumref02_Div_l2, b1]
        rw [if_neg (by simpa using hd)]
      rw [lp_done e, this]
theorem set_down (q : List Int) (j : Nat) (v : Int) : (List.replicate (j + 1) 0 ++ q).set j v = List.replicate j 0 ++ v :: q := by
  rw [List.set_append_left _ _ (by simp), show List.replicate (j + 1) (0 : Int) = List.replicate j 0 ++ [0] from List.replicate_succ', List.set_append_right _ _ (by simp)]
  simp
theorem refDiv_loop (x y : Int) (hx : 0 ≤ x) (hy : 0 < y) (hlx : (zl x).length ≤ 1000000000) (hly : (zl y).length ≤ 1000000000) : ∀ (n : Nat) (r : Int) (q : List Int), n ≤ (zl x).length → 0 ≤ r → r < y → q.length + n = (zl x).length → Dig (10000 : Int) q → dv (10000 : Int) ((zl x).drop n) = dv (10000 : Int) q * y + r →
    ∃ q', lp (m_triviumref02_Div_l1 (zl x) (zl y)) (zl r, (n : Int) - 1, List.replicate n 0 ++ q) = some (zl (x % y), q') ∧ q'.length = (zl x).length ∧ Dig (10000 : Int) q' ∧ dv (10000 : Int) q' = x / y
  | 0, r, q, hn, h0, h1, hq, hd, hv => by
    rw [List.drop_zero, zl_dv hx] at hv
    have e := Int.ediv_emod_unique (a := x) (b := y) (r := r) (q := dv (10000 : Int) q) hy
    obtain ⟨e1, e2⟩ := e.2 ⟨by rw [hv, Int.mul_comm y]; omega, h0, h1⟩
    exact ⟨q, lp_done (by simp [m_triviumref02_Div_l1, e2]), by omega, hd, e1.symm⟩
  | n + 1, r, q, hn, h0, h1, hq, hd, hv => by
    have g := gI_dig (zl_can x).1 (by decide) (n : Int)
    generalize hs : gI (zl x) (n : Int) + (10000 : Int) * r = s
    have hs0 : 0 ≤ s := by omega
    have hsy : s < (10000 : Int) * y := by omega
    have hqd : s / y < 10000 := Int.ediv_lt_of_lt_mul hy hsy
    have hqd0 : 0 ≤ s / y := Int.ediv_nonneg hs0 (by omega)
    have hrl : (zl r).length ≤ 1000000000 := Nat.le_trans (zl_mono h0 (by omega)) hly
    have hsl : (zl s).length ≤ 10000000000 := by
      have h5 := dv_lt (by decide) (zl_can y).1
      rw [zl_dv (by omega)] at h5
      have := zl_len hs0 (n := (zl y).length + 1) (by rw [Int.pow_succ]; omega)
      omega
    have a0 : ((n + 1 : Nat) : Int) - 1 = (n : Int) := by omega
    have a1 : decide ((0 : Int) ≤ (n : Int)) = true := decide_eq_true (by omega)
    have a2 : rd (zl x) (n : Int) = some (gI (zl x) (n : Int)) := rd_I (by omega) (by omega)
    have a3 : ap 8 [gI (zl x) (n : Int)] (zl r) = some (gI (zl x) (n : Int) :: zl r) := by rw [ap_of (by simp; omega)]; rfl
    have a4 : m_triviumref02_Trim (gI (zl x) (n : Int) :: zl r) = some (zl s) := by
      rw [refTrim_eq _ (by simp; omega), trimz_zl (Dig.cons g (zl_can r).1) (by rw [dv_cons, zl_dv h0, hs])]
    have a5 := refMid_loop y s hy hs0 hqd (by omega) hsl 10000 0 10000 (by omega) (Int.le_refl _) (by omega) (Int.le_refl _) hqd0 hqd
    have a6 : ix (List.replicate (n + 1) 0 ++ q) (n : Int) = some n := ix_nat (by simp; omega)
    have a7 := mulAdd_eq y (s / y) 0 (by omega) hqd0 (by omega) (Int.le_refl _) (by omega) (by omega)
    have hle : y * (s / y) ≤ s := Int.mul_ediv_self_le (by omega)
    have a8 := refSub_eq s (y * (s / y)) (Int.mul_nonneg (by omega) hqd0) hle (by omega)
    have a9 : s - y * (s / y) = s % y := by have := Int.mul_ediv_add_emod s y; omega
    have b1 : wi64 ((n : Int) - 1) = (n : Int) - 1 := wi64_eq (by omega) (by omega)
    have e : m_triviumref02_Div_l1 (zl x) (zl y) (zl r, ((n + 1 : Nat) : Int) - 1, List.replicate (n + 1) 0 ++ q) = some (.inl (zl (s % y), (n : Int) - 1, List.replicate n 0 ++ (s / y) :: q)) := by
      rw [a0]
      simp only [m_triviumref02_Div_l1, a1, if_true, a2, bd_some, a3, a4, a5, a6, lt_eq, set_down, a7, Int.add_zero, a8, a9, b1]
    rw [lp_more e]
    exact refDiv_loop x y hx hy hlx hly n (s % y) (s / y :: q) (by omega) (Int.emod_nonneg _ (by omega)) (Int.emod_lt_of_pos _ hy) (by simp; omega) (Dig.cons ⟨hqd0, hqd⟩ hd) (by
      rw [drop_gI (zl x) n (by omega), dv_cons, dv_cons, hv]
      have := Int.mul_ediv_add_emod s y
      generalize s / y = t at *
      generalize s % y = u at *
      generalize gI (zl x) (n : Int) = gg at *
      subst hs
      have h9 : u = gg + (10000 : Int) * r - y * t := by omega
      subst h9
      grind)
theorem refDiv_eq (x y : Int) (hx : 0 ≤ x) (hy : 0 < y) (hlx : (zl x).length ≤ 1000000000) (hly : (zl y).length ≤ 1000000000) : m_triviumref02_Div (zl x) (zl y) = some (zl (x / y), zl (x % y)) := by
  obtain ⟨q', h1, h2, h3, h4⟩ := refDiv_loop x y hx hy hlx hly (zl x).length 0 [] (Nat.le_refl _) (Int.le_refl _) hy (by simp) (Dig.nil _) (by rw [List.drop_length]; simp [dv])
  unfold m_triviumref02_Div
  rw [mk_of (by omega), bd_some, wi64_eq (by omega) (by omega)]
  rw [zl_zero, List.append_nil] at h1
  rw [show ((zl x).length : Int).toNat = (zl x).length by omega, h1, bd_some]
  dsimp only
  rw [refTrim_eq q' (by omega), bd_some, trimz_zl h3 h4]
theorem gcd_mod (x y : Int) (hx : 0 ≤ x) : Int.gcd y (x % y) = Int.gcd x y := by
  rw [Int.gcd_comm y, Int.gcd_comm x]
  have e : (x % y).natAbs = x.natAbs % y.natAbs := by rw [Int.natAbs_emod_of_nonneg hx]
  unfold Int.gcd
  rw [e, ← Nat.gcd_rec]
theorem refGcd_eq : ∀ (n : Nat) (x y : Int), y.toNat ≤ n → 0 ≤ x → 0 ≤ y → (zl x).length ≤ 1000000000 → (zl y).length ≤ 1000000000 → m_triviumref02_Gcd (zl x) (zl y) = some (zl (Int.gcd x y))
  | n, x, y, hn, hx, hy, hlx, hly => by
    have main : ∀ (n : Nat) (x y : Int), y.toNat ≤ n → 0 ≤ x → 0 ≤ y → (zl x).length ≤ 1000000000 → (zl y).length ≤ 1000000000 → lp m_triviumref02_Gcd_l1 (zl x, zl y) = some (zl (Int.gcd x y)) := by
      intro n
      induction n with
      | zero =>
        intro x y hn hx hy hlx hly
        obtain rfl : y = 0 := by omega
        have hxx : ((Int.gcd x 0 : Nat) : Int) = x := by rw [Int.gcd_zero_right]; omega
        have e : m_triviumref02_Gcd_l1 (zl x, zl 0) = some (.inr (zl x)) := by simp [m_triviumref02_Gcd_l1, zl_zero]
        rw [lp_done e, hxx]
      | succ n ih =>
        intro x y hn hx hy hlx hly
        by_cases h0 : y = 0
        · exact ih x y (by omega) hx hy hlx hly
        · have hpos : 0 < y := by omega
          have hne : zl y ≠ [] := fun h => h0 ((zl_nil hy).1 h)
          have hlen : 0 < (zl y).length := List.length_pos_iff.2 hne
          have e : m_triviumref02_Gcd_l1 (zl x, zl y) = some (.inl (zl y, zl (x % y))) := by
            simp only [m_triviumref02_Gcd_l1, decide_eq_true (show (0 : Int) < ((zl y).length : Int) by omega), if_true, refDiv_eq x y hx hpos hlx hly, bd_some]
          rw [lp_more e, ih y (x % y) (by have := Int.emod_lt_of_pos x hpos; have := Int.emod_nonneg x (show y ≠ 0 by omega); omega) hy (Int.emod_nonneg _ (by omega)) hly (Nat.le_trans (zl_mono (Int.emod_nonneg _ (by omega)) (by have := Int.emod_lt_of_pos x hpos; omega)) hly)]
          rw [gcd_mod x y hx]
    unfold m_triviumref02_Gcd
    rw [main n x y hn hx hy hlx hly]
    rfl
theorem refDivSmall_loop (x d : Int) (hx : 0 ≤ x) (hd0 : 0 < d) (hd1 : d ≤ 4294967296) (hl : (zl x).length ≤ 1000000000000) : ∀ (n : Nat) (r : Int) (q : List Int), n ≤ (zl x).length → 0 ≤ r → r < d → q.length + n = (zl x).length → Dig (10000 : Int) q → dv (10000 : Int) ((zl x).drop n) = dv (10000 : Int) q * d + r →
    ∃ q', lp (m_triviumref02_DivSmall_l1 (zl x) d) (r, (n : Int) - 1, List.replicate n 0 ++ q) = some (x % d, q') ∧ q'.length = (zl x).length ∧ Dig (10000 : Int) q' ∧ dv (10000 : Int) q' = x / d
  | 0, r, q, hn, h0, h1, hq, hd, hv => by
    rw [List.drop_zero, zl_dv hx] at hv
    have e := Int.ediv_emod_unique (a := x) (b := d) (r := r) (q := dv (10000 : Int) q) hd0
    obtain ⟨e1, e2⟩ := e.2 ⟨by rw [hv, Int.mul_comm d]; omega, h0, h1⟩
    exact ⟨q, lp_done (by simp [m_triviumref02_DivSmall_l1, e2]), by omega, hd, e1.symm⟩
  | n + 1, r, q, hn, h0, h1, hq, hd, hv => by
    have g := gI_dig (zl_can x).1 (by decide) (n : Int)
    generalize hs : (10000 : Int) * r + gI (zl x) (n : Int) = s
    have hs0 : 0 ≤ s := by omega
    have hsy : s < (10000 : Int) * d := by omega
    have hqd : s / d < 10000 := Int.ediv_lt_of_lt_mul hd0 hsy
    have hqd0 : 0 ≤ s / d := Int.ediv_nonneg hs0 (by omega)
    have a0 : ((n + 1 : Nat) : Int) - 1 = (n : Int) := by omega
    have a1 : decide ((0 : Int) ≤ (n : Int)) = true := decide_eq_true (by omega)
    have a2 : rd (zl x) (n : Int) = some (gI (zl x) (n : Int)) := rd_I (by omega) (by omega)
    have a3 : wi64 ((wi64 (10000 * r)) + gI (zl x) (n : Int)) = s := by rw [wi64_eq (x := 10000 * r) (by omega) (by omega), hs, wi64_eq (by omega) (by omega)]
    have a4 : qd .i64 s d = some (s / d) := qd64 hs0 hd0 (by omega)
    have a5 : rm .i64 s d = some (s % d) := rm_of hs0 hd0
    have a6 : ix (List.replicate (n + 1) 0 ++ q) (n : Int) = some n := ix_nat (by simp; omega)
    have b1 : wi64 ((n : Int) - 1) = (n : Int) - 1 := wi64_eq (by omega) (by omega)
    have e : m_triviumref02_DivSmall_l1 (zl x) d (r, ((n + 1 : Nat) : Int) - 1, List.replicate (n + 1) 0 ++ q) = some (.inl (s % d, (n : Int) - 1, List.replicate n 0 ++ (s / d) :: q)) := by
      rw [a0]
      simp only [m_triviumref02_DivSmall_l1, a1, if_true, a2, bd_some, a3, a4, a5, a6, lt_eq, set_down, b1]
    rw [lp_more e]
    exact refDivSmall_loop x d hx hd0 hd1 hl n (s % d) (s / d :: q) (by omega) (Int.emod_nonneg _ (by omega)) (Int.emod_lt_of_pos _ hd0) (by simp; omega) (Dig.cons ⟨hqd0, hqd⟩ hd) (by
      rw [drop_gI (zl x) n (by omega), dv_cons, dv_cons, hv]
      have := Int.mul_ediv_add_emod s d
      generalize s / d = t at *
      generalize s % d = u at *
      generalize gI (zl x) (n : Int) = gg at *
      subst hs
      have h9 : u = (10000 : Int) * r + gg - d * t := by omega
      subst h9
      grind)
theorem refDivSmall_eq (x d : Int) (hx : 0 ≤ x) (hd0 : 0 < d) (hd1 : d ≤ 4294967296) (hl : (zl x).length ≤ 1000000000000) : m_triviumref02_DivSmall (zl x) d = some (zl (x / d), x % d) := by
  obtain ⟨q', h1, h2, h3, h4⟩ := refDivSmall_loop x d hx hd0 hd1 hl (zl x).length 0 [] (Nat.le_refl _) (Int.le_refl _) hd0 (by simp) (Dig.nil _) (by rw [List.drop_length]; simp [dv])
  unfold m_triviumref02_DivSmall
  rw [mk_of (by omega), bd_some, wi64_eq (by omega) (by omega)]
  rw [List.append_nil] at h1
  rw [show ((zl x).length : Int).toNat = (zl x).length by omega, h1, bd_some]
  dsimp only
  rw [refTrim_eq q' (by omega), bd_some, trimz_zl h3 h4]
theorem refBack_loop : ∀ (n : Nat) (x : Int) (d : List Int), 0 ≤ x → x.toNat ≤ n → (zl x).length ≤ 100000000000 → Dig (4294967296 : Int) d → d.length + (nl x).length ≤ 1000000000000 →
    ∃ r, lp m_triviumref02_Back_l1 (zl x, d) = some r ∧ r = d ++ nl x
  | n, x, d, h0, hn, hl, hd, hd2 => by
    by_cases hx : x = 0
    · subst hx
      exact ⟨d, lp_done (by simp [m_triviumref02_Back_l1, zl_zero]), by simp [nl_zero]⟩
    · cases n with
      | zero => omega
      | succ n =>
        have hpos : 0 < x := by omega
        have hlen : 0 < (zl x).length := List.length_pos_iff.2 (fun h => hx ((zl_nil h0).1 h))
        have hm : x % (4294967296 : Int) < (4294967296 : Int) := Int.emod_lt_of_pos _ (by decide)
        have hm0 : 0 ≤ x % (4294967296 : Int) := Int.emod_nonneg _ (by decide)
        have hnl : nl x = (x % (4294967296 : Int)) :: nl (x / (4294967296 : Int)) := by
          show num 4294967296 x.toNat = _
          rw [num, dif_pos ⟨by decide, by omega⟩]
          unfold nl
          congr 1
          · omega
          · congr 1; omega
        have a1 : wu64 (x % (4294967296 : Int)) = x % (4294967296 : Int) := wu64_eq hm0 (by omega)
        have a2 : ap 8 d [x % (4294967296 : Int)] = some (d ++ [x % (4294967296 : Int)]) := ap_of (by simp; omega)
        have e : m_triviumref02_Back_l1 (zl x, d) = some (.inl (zl (x / (4294967296 : Int)), d ++ [x % (4294967296 : Int)])) := by
          simp only [m_triviumref02_Back_l1, decide_eq_true (show (0 : Int) < ((zl x).length : Int) by omega), if_true, refDivSmall_eq x (4294967296 : Int) h0 (by decide) (Int.le_refl _) (by omega), bd_some, a1, a2]
        have hq : x / (4294967296 : Int) < x := Int.ediv_lt_of_lt_mul (by decide) (by omega)
        have hq0 : 0 ≤ x / (4294967296 : Int) := Int.ediv_nonneg h0 (by decide)
        rw [hnl] at hd2
        obtain ⟨r, r1, r2⟩ := refBack_loop n (x / (4294967296 : Int)) (d ++ [x % (4294967296 : Int)]) hq0 (by omega) (Nat.le_trans (zl_mono hq0 (by omega)) hl) (Dig.snoc hd ⟨hm0, hm⟩) (by simp at hd2 ⊢; omega)
        exact ⟨r, by rw [lp_more e]; exact r1, by rw [r2, hnl]; simp⟩
theorem nl_zl_len {x : Int} (h : 0 ≤ x) : (nl x).length ≤ (zl x).length := by
  have h1 := dv_lt (by decide) (zl_can x).1
  rw [zl_dv h] at h1
  exact nl_len h (Int.lt_of_lt_of_le h1 (zb_lb _))
theorem zl_nl_len {x : Int} (h : 0 ≤ x) : (zl x).length ≤ 3 * (nl x).length := by
  have h1 := dv_lt (by decide) (nl_can x).1
  rw [nl_dv h] at h1
  exact zl_len h (Int.lt_of_lt_of_le h1 (lb_zb _))
theorem refBack_eq (x : Int) (hx : 0 ≤ x) (hl : (zl x).length ≤ 100000000000) : m_triviumref02_Back (zl x) = some (nl x) := by
  obtain ⟨r, h1, h2⟩ := refBack_loop x.toNat x [] hx (Nat.le_refl _) hl (Dig.nil _) (by have := nl_zl_len hx; simp; omega)
  unfold m_triviumref02_Back
  rw [h1, bd_some, h2, List.nil_append]
end Go.Proofs.YtbmogniipgmkiaaGreat.AP
/- What is cleaned: numbers, fractions. -/
namespace Go.Proofs.YtbmogniipgmkiaaGreat.AP
open Go Go.Proofs.YtbmogniipgmkiaaGreat.Tri
set_option linter.unusedVariables false
set_option linter.unusedSimpArgs false
/-- a loop that puts something of each of the first N behind a row -/
theorem lp_mapN {α β X : Type} {f : (Int × List β) → Option ((Int × List β) ⊕ X)} (l : List α) (N : Nat) (h : α → β) (e : Option X)
    (hs : ∀ (i : Nat) x acc, l[i]? = some x → i < N → acc.length = i → f ((i : Int), acc) = some (.inl ((i : Int) + 1, acc ++ [h x])))
    (he : lp f (((l.take N).length : Int), (l.take N).map h) = e) : lp f (0, []) = e := by
  have key : ∀ (k i : Nat), i + k = (l.take N).length → lp f ((i : Int), (l.take i).map h) = e := by
    intro k
    induction k with
    | zero =>
      intro i hk
      have hk : i = (l.take N).length := by omega
      have e1 : l.take i = l.take N := by rw [hk, List.take_eq_take_iff]; simp
      rw [e1, hk]; exact he
    | succ k ih =>
      intro i hk
      have hlt : i < l.length ∧ i < N := by simp at hk; omega
      have := hs i l[i] ((l.take i).map h) (List.getElem?_eq_getElem hlt.1) hlt.2 (by simp; omega)
      rw [lp_more this]
      have h2 := ih (i + 1) (by omega)
      rw [List.take_add_one, List.getElem?_eq_getElem hlt.1, List.map_append] at h2
      exact h2
  simpa using key _ 0 (by rw [Nat.zero_add])
theorem len_of_get {α : Type} {l : List α} {i : Nat} {x : α} (h : l[i]? = some x) : i < l.length := (List.getElem?_eq_some_iff.1 h).1
def Limbs (l : List Int) : Prop := ∀ x ∈ l, 0 ≤ x ∧ x < 18446744073709551616
def cleanL (l : List Int) (n : Nat) : List Int := trimz ((l.take n).map fun x => x % (4294967296 : Int))
theorem cleanL_can (l : List Int) (n : Nat) : Tri.Can (4294967296 : Int) (cleanL l n) := trimz_can fun x hx => by
  obtain ⟨y, _, rfl⟩ := List.mem_map.1 hx
  exact ⟨Int.emod_nonneg _ (by decide), Int.emod_lt_of_pos _ (by decide)⟩
def cleanV (l : List Int) (n : Nat) : Int := dv (4294967296 : Int) (cleanL l n)
theorem cleanL_nl (l : List Int) (n : Nat) : cleanL l n = nl (cleanV l n) := can_nl (cleanL_can l n) rfl
theorem cleanV_nonneg (l : List Int) (n : Nat) : 0 ≤ cleanV l n := dv_nonneg (by decide) (cleanL_can l n).1
theorem cleanV_lt (l : List Int) (n : Nat) : cleanV l n < (4294967296 : Int) ^ n := by
  have h1 := dv_lt (by decide) (cleanL_can l n).1
  have h2 : (cleanL l n).length ≤ n := by
    have h3 := trimz_length ((l.take n).map fun x => x % (4294967296 : Int))
    rw [List.length_map, List.length_take] at h3; unfold cleanL; omega
  exact Int.lt_of_lt_of_le h1 (pow_mono (by decide) h2)
theorem trim2_loop : ∀ (n : Nat) (a : List Int), a.length = n → n ≤ 4611686018427387904 → lp m_triviumref02_Clean_l2 a = some (trimz a)
  | 0, a, h, _ => by
    obtain rfl := List.eq_nil_of_length_eq_zero h
    rw [lp_go]; simp [m_triviumref02_Clean_l2, trimz]
  | n + 1, a, h, hn => by
    obtain ⟨d, x, rfl, hd⟩ := split_last h
    have e1 : wi64 (((d ++ [x]).length : Int) - 1) = (n : Int) := by rw [wi64_eq (by omega) (by omega)]; omega
    have e2 : rd (d ++ [x]) (n : Int) = some x := by rw [rd_I (by omega) (by omega), ← hd, gI_last]
    have e3 : decide ((0 : Int) < ((d ++ [x]).length : Int)) = true := decide_eq_true (by omega)
    have e4 : ct (d ++ [x]) 0 (n : Int) = some d := by rw [ct_of (by omega)]; simp [← hd]
    have e : m_triviumref02_Clean_l2 (d ++ [x]) = if x = 0 then some (.inl d) else some (.inr (d ++ [x])) := by
      simp only [m_triviumref02_Clean_l2, e3, if_true, e1, e2, bd_some, decide_eq_true_eq, e4]
    by_cases h0 : x = 0
    · subst h0
      rw [lp_more (by rw [e, if_pos rfl]), trimz_snoc_zero]
      exact trim2_loop n d hd (by omega)
    · rw [lp_done (by rw [e, if_neg h0]), trimz_of_top (Top.snoc.2 h0)]
theorem refClean_eq (l : List Int) (n : Nat) (hl : Limbs l) (hn : n ≤ 1000000) (hlen : l.length ≤ 9223372036854775807) : m_triviumref02_Clean l (n : Int) = some (nl (cleanV l n)) := by
  unfold m_triviumref02_Clean
  rw [lp_mapN l n (fun x => x % (4294967296 : Int)) (some ((l.take n).map fun x => x % (4294967296 : Int)))]
  · rw [bd_some, trim2_loop _ _ rfl (by simp; omega), bd_some, ← cleanL_nl]; rfl
  · intro i x acc hx hi ha
    have hlt := len_of_get hx
    have h0 := hl x (List.mem_of_getElem? hx)
    have e1 : decide ((i : Int) < (l.length : Int)) = true := decide_eq_true (by omega)
    have e2 : decide ((i : Int) < (n : Int)) = true := decide_eq_true (by omega)
    have e3 : rd l (i : Int) = some x := by rw [rd_nat]; exact hx
    have e4 : wi64 ((i : Int) + 1) = (i : Int) + 1 := wi64_eq (by omega) (by omega)
    simp only [m_triviumref02_Clean_l1, e1, if_true, e2, bd_some, e3, rm_of h0.1 (show (0 : Int) < 4294967296 by decide), ap_of (l := acc) (m := [x % 4294967296]) (b := 8) (by simp; omega), e4]
  · refine lp_done ?_
    by_cases hle : l.length ≤ n
    · have e1 : decide (((l.take n).length : Int) < (l.length : Int)) = false := decide_eq_false (by simp; omega)
      simp only [m_triviumref02_Clean_l1, e1, bd_some]; rfl
    · have e1 : decide (((l.take n).length : Int) < (l.length : Int)) = true := decide_eq_true (by simp; omega)
      have e2 : decide (((l.take n).length : Int) < (n : Int)) = false := decide_eq_false (by simp; omega)
      simp only [m_triviumref02_Clean_l1, e1, if_true, e2, bd_some]; rfl
/-- a number with a sign -/
def zI (z : Int) : D_api_Int := (decide (z < 0), nl (z.natAbs : Int))
def zZ (z : Int) : D_triviumref07_Z := (decide (z < 0), zl (z.natAbs : Int))
/-- a fraction -/
def rI (a b : Int) : D_api_Rat := (zI a, nl b)
def rQ (a b : Int) : D_triviumref08_Q := (zZ a, zl b)
def cleanZ (p : D_api_Int) (n : Nat) : Int := if p.1 then -cleanV p.2 n else cleanV p.2 n
theorem cleanZ_abs (p : D_api_Int) (n : Nat) : ((cleanZ p n).natAbs : Int) = cleanV p.2 n := by
  have := cleanV_nonneg p.2 n
  unfold cleanZ; split <;> omega
theorem neg_or_nil {x : Int} (h : 0 ≤ x) : decide (0 < ((nl x).length : Int)) = decide (0 < x) := by
  have := nl_nil h
  by_cases hx : x = 0
  · rw [this.2 hx]; simp [hx]
  · have : nl x ≠ [] := fun e => hx (this.1 e)
    have := List.length_pos_iff.2 this
    rw [decide_eq_true (by omega), decide_eq_true (by omega)]
theorem neg_or_zl {x : Int} (h : 0 ≤ x) : decide (0 < ((zl x).length : Int)) = decide (0 < x) := by
  have := zl_nil h
  by_cases hx : x = 0
  · rw [this.2 hx]; simp [hx]
  · have : zl x ≠ [] := fun e => hx (this.1 e)
    have := List.length_pos_iff.2 this
    rw [decide_eq_true (by omega), decide_eq_true (by omega)]
theorem ref07Clean_eq (p : D_api_Int) (n : Nat) (hl : Limbs p.2) (hn : n ≤ 1000000) (hlen : p.2.length ≤ 9223372036854775807) : m_triviumref07_Clean p (n : Int) = some (zI (cleanZ p n)) := by
  unfold m_triviumref07_Clean
  have h0 := cleanV_nonneg p.2 n
  rw [refClean_eq p.2 n hl hn hlen, bd_some]
  unfold zI
  rw [cleanZ_abs]
  unfold cleanZ
  by_cases hp : p.1 = true
  · rw [if_pos hp, if_pos hp, neg_or_nil h0]; congr 2; rw [decide_eq_decide]; omega
  · rw [if_neg hp, if_neg hp]; congr 2; rw [decide_eq_false (by omega)]
theorem ref07Made_eq (b : Bool) (x : Int) (h : 0 ≤ x) : m_triviumref07_made b (zl x) = some (zZ (if b then -x else x)) := by
  unfold m_triviumref07_made zZ
  cases b with
  | true => rw [if_pos rfl, if_pos rfl, neg_or_zl h]; rw [show (((-x).natAbs : Nat) : Int) = x by omega]; congr 2; rw [decide_eq_decide]; omega
  | false => rw [if_neg (by decide), if_neg (by decide), decide_eq_false (by omega), show ((x.natAbs : Nat) : Int) = x by omega]
theorem signed (z : Int) : (if decide (z < 0) = true then -(z.natAbs : Int) else (z.natAbs : Int)) = z := by
  by_cases h : z < 0
  · rw [if_pos (decide_eq_true h)]; omega
  · rw [if_neg (by simpa using h)]; omega
theorem ref07Of_eq (z : Int) (hl : (nl (z.natAbs : Int)).length ≤ 30000000000) : m_triviumref07_Of (zI z) = some (zZ z) := by
  unfold m_triviumref07_Of
  show bd (m_triviumref02_Of (nl (z.natAbs : Int))) _ = _
  rw [refOf_eq _ (by omega) hl, bd_some, ref07Made_eq _ _ (by omega), bd_some]
  show some (zZ (if decide (z < 0) = true then -(z.natAbs : Int) else (z.natAbs : Int))) = _
  rw [signed]
theorem ref07Back_eq (z : Int) (hl : (zl (z.natAbs : Int)).length ≤ 100000000000) : m_triviumref07_Back (zZ z) = some (zI z) := by
  unfold m_triviumref07_Back
  show bd (m_triviumref02_Back (zl (z.natAbs : Int))) _ = _
  rw [refBack_eq _ (by omega) hl, bd_some]
  rfl
theorem gcd_abs (a b : Int) : Int.gcd (a.natAbs : Int) b = Int.gcd a b := by
  unfold Int.gcd; rw [Int.natAbs_natCast]
theorem ref08Low_eq (a b : Int) (hb : 0 < b) (hla : (zl (a.natAbs : Int)).length ≤ 100000000) (hlb : (zl b).length ≤ 100000000) : m_triviumref08_Low (zZ a) (zl b) = some (rQ (a / Int.gcd a b) (b / Int.gcd a b)) := by
  unfold m_triviumref08_Low
  show bd (m_triviumref02_Gcd (zl (a.natAbs : Int)) (zl b)) _ = _
  have hg : 0 < (Int.gcd a b : Int) := by
    have := Int.gcd_pos_of_ne_zero_right a (show b ≠ 0 by omega); omega
  have hgb : (Int.gcd a b : Int) ≤ b := Int.le_of_dvd hb (Int.gcd_dvd_right a b)
  have hgl : (zl (Int.gcd a b : Int)).length ≤ 100000000 := Nat.le_trans (zl_mono (by omega) hgb) hlb
  rw [refGcd_eq b.toNat _ b (Nat.le_refl _) (by omega) (by omega) (by omega) (by omega), bd_some, gcd_abs]
  show bd (m_triviumref02_Div (zl (a.natAbs : Int)) _) _ = _
  rw [refDiv_eq _ _ (by omega) hg (by omega) (by omega), bd_some]
  rw [refDiv_eq _ _ (by omega) hg (by omega) (by omega), bd_some]
  have hd : (Int.gcd a b : Int) ∣ a := Int.gcd_dvd_left a b
  generalize (Int.gcd a b : Int) = g at *
  obtain ⟨q, rfl⟩ := hd
  have e1 : g * q / g = q := Int.mul_ediv_cancel_left q (by omega)
  have e2 : ((g * q).natAbs : Int) / g = (q.natAbs : Int) := by
    rw [Int.natAbs_mul, Int.natCast_mul, show ((g.natAbs : Nat) : Int) = g by omega, Int.mul_ediv_cancel_left _ (by omega)]
  have e3 : (g * q < 0) ↔ (q < 0) := by
    constructor
    · intro h; apply Int.lt_of_not_ge; intro h2; have := Int.mul_nonneg (Int.le_of_lt hg) h2; omega
    · intro h; exact Int.mul_neg_of_pos_of_neg hg h
  rw [e1, e2]
  unfold rQ zZ
  dsimp only
  by_cases hq : q < 0
  · rw [if_pos (decide_eq_true (e3.2 hq)), neg_or_zl (by omega), decide_eq_true hq, decide_eq_true (by omega)]
  · rw [if_neg (by simp [e3]; omega), decide_eq_false hq]
theorem ref08Back_eq (a b : Int) (hb : 0 ≤ b) (hla : (zl (a.natAbs : Int)).length ≤ 100000000) (hlb : (zl b).length ≤ 100000000) : m_triviumref08_Back (rQ a b) = some (rI a b) := by
  unfold m_triviumref08_Back
  show bd (m_triviumref07_Back (zZ a)) _ = _
  rw [ref07Back_eq a (by omega), bd_some]
  show bd (m_triviumref02_Back (zl b)) _ = _
  rw [refBack_eq b hb (by omega), bd_some]
  rfl
/-- a fraction that is cleaned -/
def cleanB (p : D_api_Rat) (n : Nat) : Int := if cleanV p.2 n = 0 then 1 else cleanV p.2 n
def cleanN (p : D_api_Rat) (n : Nat) : Int := cleanZ p.1 n / Int.gcd (cleanZ p.1 n) (cleanB p n)
def cleanD (p : D_api_Rat) (n : Nat) : Int := cleanB p n / Int.gcd (cleanZ p.1 n) (cleanB p n)
theorem cleanB_pos (p : D_api_Rat) (n : Nat) : 0 < cleanB p n := by
  have := cleanV_nonneg p.2 n
  unfold cleanB; split <;> omega
theorem cleanB_lt (p : D_api_Rat) (n : Nat) (hn : 0 < n) : cleanB p n < (4294967296 : Int) ^ n := by
  have := cleanV_lt p.2 n
  unfold cleanB; split
  · have := pow_mono (B := (4294967296 : Int)) (by decide) hn
    rw [Int.pow_one] at this; omega
  · exact this
theorem cleanD_pos (p : D_api_Rat) (n : Nat) : 0 < cleanD p n := by
  have h := cleanB_pos p n
  have hg : 0 < (Int.gcd (cleanZ p.1 n) (cleanB p n) : Int) := by
    have := Int.gcd_pos_of_ne_zero_right (cleanZ p.1 n) (show cleanB p n ≠ 0 by omega); omega
  exact Int.ediv_pos_of_pos_of_dvd h (by omega) (Int.gcd_dvd_right _ _)
theorem cleanD_lt (p : D_api_Rat) (n : Nat) (hn : 0 < n) : cleanD p n < (4294967296 : Int) ^ n := by
  have := cleanB_lt p n hn
  have := Int.ediv_le_self (Int.gcd (cleanZ p.1 n) (cleanB p n) : Int) (Int.le_of_lt (cleanB_pos p n))
  unfold cleanD; omega
theorem cleanN_lt (p : D_api_Rat) (n : Nat) : ((cleanN p n).natAbs : Int) < (4294967296 : Int) ^ n := by
  have h1 := cleanV_lt p.1.2 n
  rw [← cleanZ_abs] at h1
  have : (cleanN p n).natAbs ≤ (cleanZ p.1 n).natAbs := by unfold cleanN; exact Int.natAbs_ediv_le_natAbs _ _
  omega
theorem clean_coprime (p : D_api_Rat) (n : Nat) : Int.gcd (cleanN p n) (cleanD p n) = 1 := by
  have h := cleanB_pos p n
  exact Int.gcd_ediv_gcd_ediv_gcd (Int.gcd_pos_of_ne_zero_right (cleanZ p.1 n) (show cleanB p n ≠ 0 by omega))
theorem ref08Clean_eq (p : D_api_Rat) (n : Nat) (h1 : Limbs p.1.2) (h2 : Limbs p.2) (hn0 : 0 < n) (hn : n ≤ 10000000) (hl1 : p.1.2.length ≤ 9223372036854775807) (hl2 : p.2.length ≤ 9223372036854775807) (hn' : n ≤ 1000000) :
    m_triviumref08_Clean p (n : Int) = some (rI (cleanN p n) (cleanD p n)) := by
  have hz : ∀ x : Int, 0 ≤ x → x < (4294967296 : Int) ^ n → (zl x).length ≤ 3 * n := fun x h0 h => zl_len h0 (Int.lt_of_lt_of_le h (lb_zb n))
  have hv := cleanV_lt p.1.2 n
  have hb := cleanB_lt p n hn0
  have hbp := cleanB_pos p n
  have e2 : (if decide (((nl (cleanV p.2 n)).length : Int) = 0) = true then some [(1 : Int)] else some (nl (cleanV p.2 n))) = some (nl (cleanB p n)) := by
    have hn := nl_nil (cleanV_nonneg p.2 n)
    unfold cleanB
    by_cases h0 : cleanV p.2 n = 0
    · rw [if_pos h0, hn.2 h0]; simp [nl, num]
    · rw [if_neg h0]
      have : (nl (cleanV p.2 n)) ≠ [] := fun e => h0 (hn.1 e)
      have := List.length_pos_iff.2 this
      rw [if_neg (by simp; omega)]
  unfold m_triviumref08_Clean
  rw [refClean_eq p.2 n h2 hn' hl2, bd_some, e2, bd_some]
  rw [show ((p.1.1, p.1.2) : D_api_Int) = p.1 from rfl, ref07Clean_eq p.1 n h1 hn' hl1, bd_some, ref07Of_eq _ (by rw [cleanZ_abs]; have := nl_len (cleanV_nonneg p.1.2 n) hv; omega), bd_some,
    refOf_eq _ (by omega) (by have := nl_len (Int.le_of_lt hbp) hb; omega), bd_some,
    ref08Low_eq _ _ hbp (by rw [cleanZ_abs]; have := hz _ (cleanV_nonneg p.1.2 n) hv; omega) (by have := hz _ (Int.le_of_lt hbp) hb; omega), bd_some]
  show bd (m_triviumref08_Back (rQ (cleanN p n) (cleanD p n))) _ = _
  rw [ref08Back_eq _ _ (Int.le_of_lt (cleanD_pos p n)) (by have := hz _ (by omega) (cleanN_lt p n); omega) (by have := hz _ (Int.le_of_lt (cleanD_pos p n)) (cleanD_lt p n hn0); omega), bd_some]
/-- what is clean stays -/
theorem cleanV_nl (x : Int) (h0 : 0 ≤ x) (n : Nat) (hx : x < (4294967296 : Int) ^ n) : cleanV (nl x) n = x := by
  unfold cleanV cleanL
  rw [List.take_of_length_le (nl_len h0 hx)]
  have : (nl x).map (fun y => y % (4294967296 : Int)) = nl x := by
    rw [List.map_congr_left (g := id)]
    · simp
    · intro y hy; have := (nl_can x).1 y hy; exact Int.emod_eq_of_lt this.1 this.2
  rw [this, trimz_dv, nl_dv h0]
theorem clean_rI (a b : Int) (n : Nat) (hb : 0 < b) (hbl : b < (4294967296 : Int) ^ n) (hal : (a.natAbs : Int) < (4294967296 : Int) ^ n) (hg : Int.gcd a b = 1) : cleanN (rI a b) n = a ∧ cleanD (rI a b) n = b := by
  have e1 : cleanZ (rI a b).1 n = a := by
    show (if decide (a < 0) = true then -cleanV (nl (a.natAbs : Int)) n else cleanV (nl (a.natAbs : Int)) n) = a
    rw [cleanV_nl _ (by omega) n hal, signed]
  have e2 : cleanB (rI a b) n = b := by
    show (if cleanV (nl b) n = 0 then 1 else cleanV (nl b) n) = b
    rw [cleanV_nl _ (by omega) n hbl, if_neg (by omega)]
  unfold cleanN cleanD
  rw [e1, e2, hg]
  simp
theorem limbs_nl (x : Int) : Limbs (nl x) := fun y hy => by have := (nl_can x).1 y hy; omega
end Go.Proofs.YtbmogniipgmkiaaGreat.AP
/- What is cleaned: networks and queries. -/
namespace Go.Proofs.YtbmogniipgmkiaaGreat.AP
open Go Go.Proofs.YtbmogniipgmkiaaGreat.Tri
set_option linter.unusedVariables false
set_option linter.unusedSimpArgs false
def short (s : ByteArray) : ByteArray := s.extract 0 (min s.size 20)
theorem short_size (s : ByteArray) : (short s).size ≤ 20 := by unfold short; rw [ByteArray.size_extract]; omega
theorem short_id {s : ByteArray} (h : s.size ≤ 20) : short s = s := by
  unfold short; rw [Nat.min_eq_left h]; exact ByteArray.extract_zero_size
theorem short_eq (s : ByteArray) : m_triviumref22_short s = some (short s) := by
  unfold m_triviumref22_short cs
  rw [if_pos (by omega), bd_some]
  unfold short
  congr 2; omega
def Rat_ok (p : D_api_Rat) : Prop := (Limbs p.1.2 ∧ p.1.2.length ≤ 9223372036854775807) ∧ Limbs p.2 ∧ p.2.length ≤ 9223372036854775807
def clRat (p : D_api_Rat) : D_api_Rat := rI (cleanN p 1) (cleanD p 1)
theorem clRat_eq (p : D_api_Rat) (h : Rat_ok p) : m_triviumref08_Clean p 1 = some (clRat p) :=
  ref08Clean_eq p 1 h.1.1 h.2.1 (by decide) (by decide) h.1.2 h.2.2 (by decide)
def clHop (h : D_api_Hop) : D_api_Hop := (short h.1, if h.2 < -1000000 ∨ 2147483648 < h.2 then 2 else h.2)
def clGroup (g : List D_api_Hop) : List D_api_Hop := (g.take 5).map clHop
def clRule (r : D_api_Rule) : D_api_Rule := (short r.1, r.2.1, r.2.2.1, (r.2.2.2.take 4).map clGroup)
def clNode (x : D_api_Node) : D_api_Node := (short x.1, x.2.take 3)
def clLink (x : D_api_Link) : D_api_Link := (short x.1, short x.2.1, short x.2.2.1, clRat x.2.2.2)
def clNet (x : D_api_Net) : D_api_Net := (short x.1, (x.2.1.take 5).map clNode, (x.2.2.1.take 8).map clLink, (x.2.2.2.take 8).map clRule)
def Big {α : Type} (l : List α) : Prop := l.length ≤ 9223372036854775807
theorem ends_N {α : Type} (l : List α) (N : Nat) (h : ¬ l.length ≤ N) : ((l.take N).length : Int) = N := by simp; omega
theorem ends_L {α : Type} (l : List α) (N : Nat) (h : l.length ≤ N) : ((l.take N).length : Int) = l.length := by simp; omega
theorem clGroup_loop (r : D_api_Rule) (k : Nat) (g : List D_api_Hop) (hg : r.2.2.2[k]? = some g) (hb : Big g) : lp (m_triviumref22_CleanRule_l2 r (k : Int)) (0, []) = some (clGroup g) := by
  have ek : rd r.2.2.2 (k : Int) = some g := by rw [rd_nat]; exact hg
  refine lp_mapN g 5 clHop _ ?_ ?_
  · intro i x acc hx hi ha
    have hlt := len_of_get hx
    have e1 : decide ((i : Int) < (g.length : Int)) = true := decide_eq_true (by omega)
    have e2 : decide ((i : Int) < 5) = true := decide_eq_true (by omega)
    have e3 : rd g (i : Int) = some x := by rw [rd_nat]; exact hx
    have e4 : wi64 ((i : Int) + 1) = (i : Int) + 1 := wi64_eq (by omega) (by omega)
    have e5 : (bd (bd (if decide (x.2 < (-1000000)) then (some true) else (some (decide (2147483648 < x.2)))) fun v23 => if v23 then some (2 : Int) else some x.2) fun v22 => some v22) = some (if x.2 < -1000000 ∨ 2147483648 < x.2 then 2 else x.2) := by
      by_cases h1 : x.2 < -1000000
      · simp [h1]
      · by_cases h2 : 2147483648 < x.2 <;> simp [h1, h2]
    have e6 : (bd (if decide (x.2 < (-1000000)) then (some true) else (some (decide (2147483648 < x.2)))) fun v23 => if v23 then some (2 : Int) else some x.2) = some (if x.2 < -1000000 ∨ 2147483648 < x.2 then 2 else x.2) := by
      by_cases h1 : x.2 < -1000000
      · simp [h1]
      · by_cases h2 : 2147483648 < x.2 <;> simp [h1, h2]
    simp only [m_triviumref22_CleanRule_l2, ek, bd_some, e1, if_true, e2, e3, e6, short_eq, ap_of (l := acc) (m := [(short x.1, if x.2 < -1000000 ∨ 2147483648 < x.2 then 2 else x.2)]) (b := 24) (by simp; omega), e4]
    rfl
  · refine lp_done ?_
    by_cases hle : g.length ≤ 5
    · have e1 : decide (((g.take 5).length : Int) < (g.length : Int)) = false := decide_eq_false (by rw [ends_L _ _ hle]; omega)
      simp only [m_triviumref22_CleanRule_l2, ek, bd_some, e1]; rfl
    · have e1 : decide (((g.take 5).length : Int) < (g.length : Int)) = true := decide_eq_true (by rw [ends_N _ _ hle]; omega)
      have e2 : decide (((g.take 5).length : Int) < 5) = false := decide_eq_false (by rw [ends_N _ _ hle]; omega)
      simp only [m_triviumref22_CleanRule_l2, ek, bd_some, e1, if_true, e2]; rfl
def Rule_ok (r : D_api_Rule) : Prop := Big r.2.2.2 ∧ ∀ g ∈ r.2.2.2, Big g
theorem clRule_eq (r : D_api_Rule) (h : Rule_ok r) : m_triviumref22_CleanRule r = some (clRule r) := by
  unfold m_triviumref22_CleanRule
  rw [short_eq, bd_some]
  rw [lp_mapN r.2.2.2 4 clGroup (some ((r.2.2.2.take 4).map clGroup))]
  · rfl
  · intro i x acc hx hi ha
    have hlt := len_of_get hx
    have e1 : decide ((i : Int) < (r.2.2.2.length : Int)) = true := decide_eq_true (by omega)
    have e2 : decide ((i : Int) < 4) = true := decide_eq_true (by omega)
    have e4 : wi64 ((i : Int) + 1) = (i : Int) + 1 := wi64_eq (by omega) (by omega)
    simp only [m_triviumref22_CleanRule_l1, bd_some, e1, if_true, e2, clGroup_loop r i x hx (h.2 x (List.mem_of_getElem? hx)), ap_of (l := acc) (m := [clGroup x]) (b := 24) (by simp; omega), e4]
  · refine lp_done ?_
    by_cases hle : r.2.2.2.length ≤ 4
    · have e1 : decide (((r.2.2.2.take 4).length : Int) < (r.2.2.2.length : Int)) = false := decide_eq_false (by rw [ends_L _ _ hle]; omega)
      simp only [m_triviumref22_CleanRule_l1, bd_some, e1]; rfl
    · have e1 : decide (((r.2.2.2.take 4).length : Int) < (r.2.2.2.length : Int)) = true := decide_eq_true (by rw [ends_N _ _ hle]; omega)
      have e2 : decide (((r.2.2.2.take 4).length : Int) < 4) = false := decide_eq_false (by rw [ends_N _ _ hle]; omega)
      simp only [m_triviumref22_CleanRule_l1, bd_some, e1, if_true, e2]; rfl
def Net_ok (x : D_api_Net) : Prop := (Big x.2.1 ∧ ∀ y ∈ x.2.1, Big y.2) ∧ (Big x.2.2.1 ∧ ∀ y ∈ x.2.2.1, Rat_ok y.2.2.2) ∧ Big x.2.2.2 ∧ ∀ y ∈ x.2.2.2, Rule_ok y
theorem clNodes_loop (x : D_api_Net) (h : Net_ok x) : lp (m_triviumref22_Clean_l2 x) (0, []) = some ((x.2.1.take 5).map clNode) := by
  refine lp_mapN x.2.1 5 clNode _ ?_ ?_
  · intro i y acc hx hi ha
    have hlt := len_of_get hx
    have hy := h.1.2 y (List.mem_of_getElem? hx)
    have e1 : decide ((i : Int) < (x.2.1.length : Int)) = true := decide_eq_true (by omega)
    have e2 : decide ((i : Int) < 5) = true := decide_eq_true (by omega)
    have e3 : rd x.2.1 (i : Int) = some y := by rw [rd_nat]; exact hx
    have e4 : wi64 ((i : Int) + 1) = (i : Int) + 1 := wi64_eq (by omega) (by omega)
    have e5 : ct y.2 0 (min (y.2.length : Int) 3) = some (y.2.take 3) := by
      rw [ct_of (by omega), show ((0 : Int)).toNat = 0 from rfl, List.drop_zero]
      congr 1
      rw [List.take_eq_take_iff]; omega
    have e6 : ap 16 [] (y.2.take 3) = some (y.2.take 3) := by rw [ap_of (by simp; omega)]; rfl
    simp only [m_triviumref22_Clean_l2, bd_some, e1, if_true, e2, e3, short_eq, e5, e6, ap_of (l := acc) (m := [(short y.1, y.2.take 3)]) (b := 40) (by simp; omega), e4]
    rfl
  · refine lp_done ?_
    by_cases hle : x.2.1.length ≤ 5
    · have e1 : decide (((x.2.1.take 5).length : Int) < (x.2.1.length : Int)) = false := decide_eq_false (by rw [ends_L _ _ hle]; omega)
      simp only [m_triviumref22_Clean_l2, bd_some, e1]; rfl
    · have e1 : decide (((x.2.1.take 5).length : Int) < (x.2.1.length : Int)) = true := decide_eq_true (by rw [ends_N _ _ hle]; omega)
      have e2 : decide (((x.2.1.take 5).length : Int) < 5) = false := decide_eq_false (by rw [ends_N _ _ hle]; omega)
      simp only [m_triviumref22_Clean_l2, bd_some, e1, if_true, e2]; rfl
theorem clLinks_loop (x : D_api_Net) (h : Net_ok x) : lp (m_triviumref22_Clean_l3 x) (0, []) = some ((x.2.2.1.take 8).map clLink) := by
  refine lp_mapN x.2.2.1 8 clLink _ ?_ ?_
  · intro i y acc hx hi ha
    have hlt := len_of_get hx
    have hy := h.2.1.2 y (List.mem_of_getElem? hx)
    have e1 : decide ((i : Int) < (x.2.2.1.length : Int)) = true := decide_eq_true (by omega)
    have e2 : decide ((i : Int) < 8) = true := decide_eq_true (by omega)
    have e3 : rd x.2.2.1 (i : Int) = some y := by rw [rd_nat]; exact hx
    have e4 : wi64 ((i : Int) + 1) = (i : Int) + 1 := wi64_eq (by omega) (by omega)
    have e5 : m_triviumref08_Clean ((y.2.2.2.1.1, y.2.2.2.1.2), y.2.2.2.2) 1 = some (clRat y.2.2.2) := clRat_eq y.2.2.2 hy
    simp only [m_triviumref22_Clean_l3, bd_some, e1, if_true, e2, e3, short_eq, e5, ap_of (l := acc) (m := [(short y.1, short y.2.1, short y.2.2.1, (((clRat y.2.2.2).1.1, (clRat y.2.2.2).1.2), (clRat y.2.2.2).2))]) (b := 104) (by simp; omega), e4]
    rfl
  · refine lp_done ?_
    by_cases hle : x.2.2.1.length ≤ 8
    · have e1 : decide (((x.2.2.1.take 8).length : Int) < (x.2.2.1.length : Int)) = false := decide_eq_false (by rw [ends_L _ _ hle]; omega)
      simp only [m_triviumref22_Clean_l3, bd_some, e1]; rfl
    · have e1 : decide (((x.2.2.1.take 8).length : Int) < (x.2.2.1.length : Int)) = true := decide_eq_true (by rw [ends_N _ _ hle]; omega)
      have e2 : decide (((x.2.2.1.take 8).length : Int) < 8) = false := decide_eq_false (by rw [ends_N _ _ hle]; omega)
      simp only [m_triviumref22_Clean_l3, bd_some, e1, if_true, e2]; rfl
theorem clRules_loop (x : D_api_Net) (h : Net_ok x) : lp (m_triviumref22_Clean_l4 x) (0, []) = some ((x.2.2.2.take 8).map clRule) := by
  refine lp_mapN x.2.2.2 8 clRule _ ?_ ?_
  · intro i y acc hx hi ha
    have hlt := len_of_get hx
    have hy := h.2.2.2 y (List.mem_of_getElem? hx)
    have e1 : decide ((i : Int) < (x.2.2.2.length : Int)) = true := decide_eq_true (by omega)
    have e2 : decide ((i : Int) < 8) = true := decide_eq_true (by omega)
    have e3 : rd x.2.2.2 (i : Int) = some y := by rw [rd_nat]; exact hx
    have e4 : wi64 ((i : Int) + 1) = (i : Int) + 1 := wi64_eq (by omega) (by omega)
    simp only [m_triviumref22_Clean_l4, bd_some, e1, if_true, e2, e3, clRule_eq y hy, ap_of (l := acc) (m := [clRule y]) (b := 64) (by simp; omega), e4]
  · refine lp_done ?_
    by_cases hle : x.2.2.2.length ≤ 8
    · have e1 : decide (((x.2.2.2.take 8).length : Int) < (x.2.2.2.length : Int)) = false := decide_eq_false (by rw [ends_L _ _ hle]; omega)
      simp only [m_triviumref22_Clean_l4, bd_some, e1]; rfl
    · have e1 : decide (((x.2.2.2.take 8).length : Int) < (x.2.2.2.length : Int)) = true := decide_eq_true (by rw [ends_N _ _ hle]; omega)
      have e2 : decide (((x.2.2.2.take 8).length : Int) < 8) = false := decide_eq_false (by rw [ends_N _ _ hle]; omega)
      simp only [m_triviumref22_Clean_l4, bd_some, e1, if_true, e2]; rfl
def clNets (l : List D_api_Net) : List D_api_Net := (l.take 3).map clNet
theorem clNets_eq (l : List D_api_Net) (hb : Big l) (h : ∀ x ∈ l, Net_ok x) : m_triviumref22_Clean l = some (clNets l) := by
  unfold m_triviumref22_Clean
  rw [lp_mapN l 3 clNet (some (clNets l))]
  · rfl
  · intro i x acc hx hi ha
    have hlt := len_of_get hx
    have hy := h x (List.mem_of_getElem? hx)
    have e1 : decide ((i : Int) < (l.length : Int)) = true := decide_eq_true (by omega)
    have e2 : decide ((i : Int) < 3) = true := decide_eq_true (by omega)
    have e3 : rd l (i : Int) = some x := by rw [rd_nat]; exact hx
    have e4 : wi64 ((i : Int) + 1) = (i : Int) + 1 := wi64_eq (by omega) (by omega)
    simp only [m_triviumref22_Clean_l1, bd_some, e1, if_true, e2, e3, short_eq, clNodes_loop x hy, clLinks_loop x hy, clRules_loop x hy, ap_of (l := acc) (m := [(short x.1, (x.2.1.take 5).map clNode, (x.2.2.1.take 8).map clLink, (x.2.2.2.take 8).map clRule)]) (b := 88) (by simp; omega), e4]
    rfl
  · refine lp_done ?_
    by_cases hle : l.length ≤ 3
    · have e1 : decide (((l.take 3).length : Int) < (l.length : Int)) = false := decide_eq_false (by rw [ends_L _ _ hle]; omega)
      simp only [m_triviumref22_Clean_l1, bd_some, e1]; rfl
    · have e1 : decide (((l.take 3).length : Int) < (l.length : Int)) = true := decide_eq_true (by rw [ends_N _ _ hle]; omega)
      have e2 : decide (((l.take 3).length : Int) < 3) = false := decide_eq_false (by rw [ends_N _ _ hle]; omega)
      simp only [m_triviumref22_Clean_l1, bd_some, e1, if_true, e2]; rfl
/-! what a cleaned network is -/
def Pfx (p : D_api_Prefix) : Prop := (0 ≤ p.1 ∧ p.1 < 4294967296) ∧ -9223372036854775808 ≤ p.2 ∧ p.2 ≤ 9223372036854775807
structure CRat (p : D_api_Rat) : Prop where
  is : ∃ a b : Int, p = rI a b ∧ 0 < b ∧ b < 4294967296 ∧ (a.natAbs : Int) < 4294967296 ∧ Int.gcd a b = 1
def CNode (x : D_api_Node) : Prop := x.1.size ≤ 20 ∧ x.2.length ≤ 3 ∧ ∀ p ∈ x.2, Pfx p
def CLink (x : D_api_Link) : Prop := x.1.size ≤ 20 ∧ x.2.1.size ≤ 20 ∧ x.2.2.1.size ≤ 20 ∧ CRat x.2.2.2
def CHop (x : D_api_Hop) : Prop := x.1.size ≤ 20 ∧ -1000000 ≤ x.2 ∧ x.2 ≤ 2147483648
def CGroup (g : List D_api_Hop) : Prop := g.length ≤ 5 ∧ ∀ x ∈ g, CHop x
def CRule (r : D_api_Rule) : Prop := r.1.size ≤ 20 ∧ Pfx r.2.1 ∧ r.2.2.2.length ≤ 4 ∧ ∀ g ∈ r.2.2.2, CGroup g
def CNet (x : D_api_Net) : Prop := x.1.size ≤ 20 ∧ (x.2.1.length ≤ 5 ∧ ∀ y ∈ x.2.1, CNode y) ∧ (x.2.2.1.length ≤ 8 ∧ ∀ y ∈ x.2.2.1, CLink y) ∧ x.2.2.2.length ≤ 8 ∧ ∀ y ∈ x.2.2.2, CRule y
def CNets (l : List D_api_Net) : Prop := l.length ≤ 3 ∧ ∀ x ∈ l, CNet x
theorem mem_takemap {α β : Type} {f : α → β} {l : List α} {n : Nat} {y : β} (h : y ∈ (l.take n).map f) : ∃ x ∈ l, y = f x := by
  obtain ⟨x, h1, rfl⟩ := List.mem_map.1 h
  exact ⟨x, List.mem_of_mem_take h1, rfl⟩
theorem takemap_len {α β : Type} (f : α → β) (l : List α) (n : Nat) : ((l.take n).map f).length ≤ n := by simp; omega
theorem takemap_id {α : Type} {f : α → α} {l : List α} {n : Nat} (hl : l.length ≤ n) (h : ∀ x ∈ l, f x = x) : (l.take n).map f = l := by
  rw [List.take_of_length_le hl]
  conv => rhs; rw [← List.map_id l]
  exact List.map_congr_left h
theorem clRat_C (p : D_api_Rat) : CRat (clRat p) := by
  have h1 := cleanD_lt p 1 (by decide)
  have h2 := cleanN_lt p 1
  rw [Int.pow_one] at h1 h2
  exact ⟨_, _, rfl, cleanD_pos p 1, h1, h2, clean_coprime p 1⟩
theorem clRat_id {p : D_api_Rat} (h : CRat p) : clRat p = p := by
  obtain ⟨a, b, rfl, h1, h2, h3, h4⟩ := h.is
  obtain ⟨e1, e2⟩ := clean_rI a b 1 h1 (by rw [Int.pow_one]; exact h2) (by rw [Int.pow_one]; exact h3) h4
  unfold clRat; rw [e1, e2]
theorem CRat.ok {p : D_api_Rat} (h : CRat p) : Rat_ok p := by
  obtain ⟨a, b, rfl, h1, h2, h3, h4⟩ := h.is
  have e1 := nl_len (x := (a.natAbs : Int)) (by omega) (n := 1) (by rw [Int.pow_one]; exact h3)
  have e2 := nl_len (x := b) (by omega) (n := 1) (by rw [Int.pow_one]; exact h2)
  exact ⟨⟨limbs_nl _, by show (nl (a.natAbs : Int)).length ≤ _; omega⟩, limbs_nl _, by show (nl b).length ≤ _; omega⟩
theorem clHop_C (h : D_api_Hop) : CHop (clHop h) := by
  refine ⟨short_size _, ?_, ?_⟩ <;> (unfold clHop; dsimp only; split <;> omega)
theorem clHop_id {h : D_api_Hop} (k : CHop h) : clHop h = h := by
  unfold clHop; rw [short_id k.1, if_neg (by have := k.2; omega)]
theorem clGroup_C (g : List D_api_Hop) : CGroup (clGroup g) := ⟨takemap_len _ _ _, fun x hx => by obtain ⟨y, _, rfl⟩ := mem_takemap hx; exact clHop_C y⟩
theorem clGroup_id {g : List D_api_Hop} (k : CGroup g) : clGroup g = g := takemap_id k.1 fun x hx => clHop_id (k.2 x hx)
def RuleP (r : D_api_Rule) : Prop := Pfx r.2.1
theorem clRule_C (r : D_api_Rule) (h : RuleP r) : CRule (clRule r) := ⟨short_size _, h, takemap_len _ _ _, fun x hx => by obtain ⟨y, _, rfl⟩ := mem_takemap hx; exact clGroup_C y⟩
theorem clRule_id {r : D_api_Rule} (k : CRule r) : clRule r = r := by
  unfold clRule; rw [short_id k.1, takemap_id k.2.2.1 fun x hx => clGroup_id (k.2.2.2 x hx)]
theorem clNode_C (x : D_api_Node) (h : ∀ p ∈ x.2, Pfx p) : CNode (clNode x) := ⟨short_size _, by show (x.2.take 3).length ≤ 3; simp; omega, fun p hp => h p (List.mem_of_mem_take hp)⟩
theorem clNode_id {x : D_api_Node} (k : CNode x) : clNode x = x := by
  unfold clNode; rw [short_id k.1, List.take_of_length_le k.2.1]
theorem clLink_C (x : D_api_Link) : CLink (clLink x) := ⟨short_size _, short_size _, short_size _, clRat_C _⟩
theorem clLink_id {x : D_api_Link} (k : CLink x) : clLink x = x := by
  unfold clLink; rw [short_id k.1, short_id k.2.1, short_id k.2.2.1, clRat_id k.2.2.2]
def NetP (x : D_api_Net) : Prop := (∀ y ∈ x.2.1, ∀ p ∈ y.2, Pfx p) ∧ ∀ y ∈ x.2.2.2, RuleP y
theorem clNet_C (x : D_api_Net) (h : NetP x) : CNet (clNet x) :=
  ⟨short_size _, ⟨takemap_len _ _ _, fun y hy => by obtain ⟨z, hz, rfl⟩ := mem_takemap hy; exact clNode_C z (h.1 z hz)⟩, ⟨takemap_len _ _ _, fun y hy => by obtain ⟨z, _, rfl⟩ := mem_takemap hy; exact clLink_C z⟩,
    takemap_len _ _ _, fun y hy => by obtain ⟨z, hz, rfl⟩ := mem_takemap hy; exact clRule_C z (h.2 z hz)⟩
theorem clNet_id {x : D_api_Net} (k : CNet x) : clNet x = x := by
  unfold clNet; rw [short_id k.1, takemap_id k.2.1.1 fun y hy => clNode_id (k.2.1.2 y hy), takemap_id k.2.2.1.1 fun y hy => clLink_id (k.2.2.1.2 y hy), takemap_id k.2.2.2.1 fun y hy => clRule_id (k.2.2.2.2 y hy)]
theorem clNets_C (l : List D_api_Net) (h : ∀ x ∈ l, NetP x) : CNets (clNets l) := ⟨takemap_len _ _ _, fun x hx => by obtain ⟨y, hy, rfl⟩ := mem_takemap hx; exact clNet_C y (h y hy)⟩
theorem clNets_id {l : List D_api_Net} (k : CNets l) : clNets l = l := takemap_id k.1 fun x hx => clNet_id (k.2 x hx)
theorem CNet.ok {x : D_api_Net} (k : CNet x) : Net_ok x := by
  obtain ⟨h1, ⟨h2, h3⟩, ⟨h4, h5⟩, h6, h7⟩ := k
  refine ⟨⟨by unfold Big; omega, fun y hy => by have := (h3 y hy).2.1; unfold Big; omega⟩, ⟨by unfold Big; omega, fun y hy => (h5 y hy).2.2.2.ok⟩, by unfold Big; omega, fun y hy => ⟨by have := (h7 y hy).2.2.1; unfold Big; omega, fun g hg => by have := ((h7 y hy).2.2.2 g hg).1; unfold Big; omega⟩⟩
theorem again_eq {l : List D_api_Net} (k : CNets l) : m_triviumref22_Clean l = some l := by
  rw [clNets_eq l (by have := k.1; unfold Big; omega) (fun x hx => (k.2 x hx).ok), clNets_id k]
/-! values as they are handed in -/
theorem int_rng {k : IntKind} {n : Int} (h : (Lit.int k n).wf = true) : k.min ≤ n ∧ n ≤ k.max := by
  have h : (decide (k.min ≤ n) && decide (n ≤ k.max)) = true := h
  rw [Bool.and_eq_true, decide_eq_true_eq, decide_eq_true_eq] at h
  exact h
theorem int_i64 {n : Int} (h : (Lit.int .i64 n).wf = true) : -9223372036854775808 ≤ n ∧ n ≤ 9223372036854775807 := int_rng h
theorem int_u32 {n : Int} (h : (Lit.int .u32 n).wf = true) : 0 ≤ n ∧ n < 4294967296 := ⟨(int_rng h).1, Int.lt_add_one_of_le (int_rng h).2⟩
theorem int_u64 {n : Int} (h : (Lit.int .u64 n).wf = true) : 0 ≤ n ∧ n < 18446744073709551616 := ⟨(int_rng h).1, Int.lt_add_one_of_le (int_rng h).2⟩
end Go.Proofs.YtbmogniipgmkiaaGreat.AP
/- What is handed in may be cleaned. -/
namespace Go.Proofs.YtbmogniipgmkiaaGreat.AE
open Go Go.Proofs.YtbmogniipgmkiaaGreat.AP
set_option linter.unusedVariables false
set_option linter.unusedSimpArgs false
theorem ok_mem {t : Ty} {l : List t.den} (h : (Ty.sl t).ok l) : ∀ x ∈ l, t.ok x := fun x hx => by
  obtain ⟨i, hi⟩ := List.getElem?_of_mem hx
  exact h.2 i x hi
theorem ok_limbs {l : List Int} (h : (Ty.sl (.int .u64)).ok l) : Limbs l := fun x hx => int_u64 (ok_mem (t := .int .u64) h x hx)
theorem ok_rat {x : D_api_Rat} (h : Ty.ok Y_api_Rat x) : Rat_ok x := ⟨⟨ok_limbs h.1.2, h.1.2.1⟩, ok_limbs h.2, h.2.1⟩
theorem ok_pfx {x : D_api_Prefix} (h : Ty.ok Y_api_Prefix x) : Pfx x := ⟨int_u32 h.1, int_i64 h.2⟩
theorem ok_rule {x : D_api_Rule} (h : Ty.ok Y_api_Rule x) : Rule_ok x ∧ RuleP x :=
  ⟨⟨h.2.2.2.1, fun g hg => (ok_mem (t := .sl Y_api_Hop) h.2.2.2 g hg).1⟩, ok_pfx h.2.1⟩
theorem ok_net {x : D_api_Net} (h : Ty.ok Y_api_Net x) : Net_ok x ∧ NetP x :=
  ⟨⟨⟨h.2.1.1, fun y hy => (ok_mem (t := Y_api_Node) h.2.1 y hy).2.1⟩, ⟨h.2.2.1.1, fun y hy => ok_rat (ok_mem (t := Y_api_Link) h.2.2.1 y hy).2.2.2⟩, h.2.2.2.1, fun y hy => (ok_rule (ok_mem (t := Y_api_Rule) h.2.2.2 y hy)).1⟩,
    fun y hy p hp => ok_pfx (ok_mem (t := Y_api_Prefix) (ok_mem (t := Y_api_Node) h.2.1 y hy).2 p hp), fun y hy => (ok_rule (ok_mem (t := Y_api_Rule) h.2.2.2 y hy)).2⟩
theorem ok_nets {l : List D_api_Net} (h : Ty.ok (.sl Y_api_Net) l) : m_triviumref22_Clean l = some (clNets l) ∧ CNets (clNets l) :=
  ⟨clNets_eq l h.1 fun x hx => (ok_net (ok_mem (t := Y_api_Net) h x hx)).1, clNets_C l fun x hx => (ok_net (ok_mem (t := Y_api_Net) h x hx)).2⟩
end Go.Proofs.YtbmogniipgmkiaaGreat.AE
/- Masks and prefixes, plain. -/
namespace Go.Proofs.YtbmogniipgmkiaaGreat.AP
open Go
set_option linter.unusedVariables false
set_option linter.unusedSimpArgs false
/-- how many addresses begin with the same n bits -/
def S32 (n : Int) : Int := 2 ^ (32 - n).toNat

theorem S32_pos (n : Int) : 0 < S32 n := Int.pow_pos (by decide)
theorem S32_le (n : Int) (h : 0 ≤ n) : S32 n ≤ 4294967296 := by
  have h1 : (32 - n).toNat ≤ 32 := by omega
  obtain ⟨d, hd⟩ := Nat.exists_eq_add_of_le h1
  have h2 : (4294967296 : Int) = 2 ^ (32 - n).toNat * 2 ^ d := by rw [← Int.pow_add, ← hd]; decide
  have h3 : (1 : Int) ≤ 2 ^ d := by have : (0 : Int) < 2 ^ d := Int.pow_pos (by decide); omega
  have h4 : (0 : Int) < 2 ^ (32 - n).toNat := Int.pow_pos (by decide)
  unfold S32
  rw [h2]
  have := Int.mul_le_mul_of_nonneg_left h3 (Int.le_of_lt h4)
  omega
theorem S32_dvd {m n : Int} (h : n ≤ m) : ∃ c, 0 < c ∧ S32 n = S32 m * c := by
  have h1 : (32 - m).toNat ≤ (32 - n).toNat := by omega
  obtain ⟨d, hd⟩ := Nat.exists_eq_add_of_le h1
  refine ⟨2 ^ d, Int.pow_pos (by decide), ?_⟩
  unfold S32
  rw [hd, Int.pow_add]
theorem S32_nat (n : Int) : S32 n = ((2 ^ (32 - n).toNat : Nat) : Int) := by unfold S32; simp

/-- the highest bits of a, by a mask -/
theorem and_mask (a k : Nat) (ha : a < 2 ^ 32) (hk : k ≤ 32) : a &&& (2 ^ 32 - 2 ^ k) = a / 2 ^ k * 2 ^ k := by
  apply Nat.eq_of_testBit_eq
  intro i
  have hp : 0 < 2 ^ k := Nat.two_pow_pos k
  have hlt : 2 ^ k - 1 < 2 ^ 32 := by have := Nat.pow_le_pow_right (show 0 < 2 by omega) hk; omega
  have e : 2 ^ 32 - 2 ^ k = 2 ^ 32 - ((2 ^ k - 1) + 1) := by congr 1; omega
  rw [Nat.testBit_and, e, Nat.testBit_two_pow_sub_succ hlt, Nat.testBit_two_pow_sub_one, Nat.mul_comm, Nat.testBit_two_pow_mul]
  by_cases hi : i < k
  · have h1 : ¬ (i ≥ k) := by omega
    simp [hi, h1]
  · have h1 : i ≥ k := by omega
    rw [Nat.testBit_div_two_pow, show i - k + k = i by omega]
    by_cases h32 : i < 32
    · simp [hi, h1, h32]
    · have : a.testBit i = false := Nat.testBit_lt_two_pow (Nat.lt_of_lt_of_le ha (Nat.pow_le_pow_right (by omega) (by omega)))
      simp [this]

theorem bits_and_mask (a n : Int) (ha0 : 0 ≤ a) (ha : a < 4294967296) (h0 : 0 ≤ n) (h1 : n ≤ 32) : Go.bits .and .u32 a (4294967296 - S32 n) = a / S32 n * S32 n := by
  have hS := S32_le n h0
  have hp := S32_pos n
  rw [u32_and a _ ha0 ha (by omega) (by omega)]
  obtain ⟨x, rfl⟩ := Int.eq_ofNat_of_zero_le ha0
  have e2 : (4294967296 - S32 n).toNat = 2 ^ 32 - 2 ^ (32 - n).toNat := by
    rw [S32_nat] at hS hp ⊢; omega
  rw [e2, Int.toNat_natCast, and_mask x _ (by omega) (by omega), S32_nat]
  simp
theorem bits_andNot_mask (a n : Int) (ha0 : 0 ≤ a) (ha : a < 4294967296) (h0 : 0 ≤ n) : Go.bits .andNot .u32 a (4294967296 - S32 n) = a % S32 n := by
  have hS := S32_le n h0
  have hp := S32_pos n
  rw [u32_andNot a _ ha0 ha (by omega) (by omega)]
  obtain ⟨x, rfl⟩ := Int.eq_ofNat_of_zero_le ha0
  have e2 : 4294967295 - (4294967296 - S32 n).toNat = 2 ^ (32 - n).toNat - 1 := by
    rw [S32_nat] at hS hp ⊢; omega
  rw [e2, Int.toNat_natCast, Nat.and_two_pow_sub_one_eq_mod, S32_nat]
  simp

theorem mask_eq (n : Int) (h0 : 0 ≤ n) (h1 : n ≤ 32) : m_addr_Mask n = some (4294967296 - S32 n) := by
  have key : ∀ m : Int, 0 ≤ m → m ≤ 32 → (IntKind.u64.wrap (4294967295 * 2 ^ (min (32 - m).toNat IntKind.u64.bits))) % 4294967296 = 4294967296 - S32 m := by
    intro m h0 h1
    have h2 : m = 0 ∨ m = 1 ∨ m = 2 ∨ m = 3 ∨ m = 4 ∨ m = 5 ∨ m = 6 ∨ m = 7 ∨ m = 8 ∨ m = 9 ∨ m = 10 ∨ m = 11 ∨ m = 12 ∨ m = 13 ∨ m = 14 ∨ m = 15 ∨ m = 16 ∨ m = 17 ∨ m = 18 ∨ m = 19 ∨ m = 20 ∨ m = 21 ∨ m = 22 ∨ m = 23 ∨ m = 24 ∨ m = 25 ∨ m = 26 ∨ m = 27 ∨ m = 28 ∨ m = 29 ∨ m = 30 ∨ m = 31 ∨ m = 32 := by omega
    unfold S32
    rcases h2 with rfl | rfl | rfl | rfl | rfl | rfl | rfl | rfl | rfl | rfl | rfl | rfl | rfl | rfl | rfl | rfl | rfl | rfl | rfl | rfl | rfl | rfl | rfl | rfl | rfl | rfl | rfl | rfl | rfl | rfl | rfl | rfl | rfl <;> decide
  unfold m_addr_Mask
  rw [Int.max_eq_left h0, Int.min_eq_left h1, wi64_eq (by omega) (by omega)]
  unfold sh
  rw [if_pos (by omega), bd_some, wu32_mod, key n h0 h1]
/-- may a prefix be? -/
def mayP (p : D_api_Prefix) : Bool := decide (0 ≤ p.2) && decide (p.2 ≤ 32) && decide (p.1 % S32 p.2 = 0)
theorem may_eq (p : D_api_Prefix) (h0 : 0 ≤ p.1) (h1 : p.1 < 4294967296) : m_addr_May p = some (mayP p) := by
  unfold m_addr_May mayP
  by_cases a : 0 ≤ p.2
  · by_cases b : p.2 ≤ 32
    · rw [if_pos (decide_eq_true a), if_pos (decide_eq_true b), mask_eq _ a b, bd_some, lt_eq, bits_andNot_mask p.1 p.2 h0 h1 a]
      simp [a, b]
    · rw [if_pos (decide_eq_true a), if_neg (by simpa using b)]
      simp [a, b]
  · rw [if_neg (by simpa using a)]
    simp [a]
theorem size_loop : ∀ (n j : Nat), n + j ≤ 32 → lp m_triviumref18_Size_l1 ((2 : Int) ^ j, 32 - (n : Int)) = some ((2 : Int) ^ (j + n))
  | 0, j, h => lp_done (by simp [m_triviumref18_Size_l1])
  | n + 1, j, h => by
    have hp : (2 : Int) ^ (j + 1) ≤ 2 ^ 32 := Tri.pow_mono (by decide) (by omega)
    have h0 : (0 : Int) < 2 ^ (j + 1) := Int.pow_pos (by decide)
    have e1 : wu64 (2 * 2 ^ j) = 2 ^ (j + 1) := by rw [Int.pow_succ, Int.mul_comm] at *; exact wu64_eq (by omega) (by omega)
    have e2 : wi64 (32 - ((n + 1 : Nat) : Int) + 1) = 32 - (n : Int) := by rw [wi64_eq (by omega) (by omega)]; omega
    rw [lp_more (s' := ((2 : Int) ^ (j + 1), 32 - (n : Int))) (by
      simp only [m_triviumref18_Size_l1, decide_eq_true (show 32 - ((n + 1 : Nat) : Int) < 32 by omega), if_true, e1, e2])]
    rw [size_loop n (j + 1) (by omega)]
    congr 2; omega
theorem size_eq (n : Int) (h0 : 0 ≤ n) (h1 : n ≤ 32) : m_triviumref18_Size n = some (S32 n) := by
  have := size_loop (32 - n).toNat 0 (by omega)
  unfold m_triviumref18_Size
  rw [show (1 : Int) = 2 ^ 0 from rfl, show n = 32 - ((32 - n).toNat : Int) by omega, this, bd_some]
  unfold S32
  congr 2; omega
theorem refMay_eq (p : D_api_Prefix) (h0 : 0 ≤ p.1) (h1 : p.1 < 4294967296) : m_triviumref18_May p = some (mayP p) := by
  unfold m_triviumref18_May mayP
  by_cases a : 0 ≤ p.2
  · by_cases b : p.2 ≤ 32
    · have := S32_pos p.2
      rw [if_pos (decide_eq_true a), if_pos (decide_eq_true b), size_eq _ a b, bd_some, wu64_eq h0 (by omega), rm_of h0 this, bd_some]
      simp [a, b]
    · rw [if_pos (decide_eq_true a), if_neg (by simpa using b)]
      simp [a, b]
  · rw [if_neg (by simpa using a)]
    simp [a]
end Go.Proofs.YtbmogniipgmkiaaGreat.AP
/- Whether queries are well formed. -/
namespace Go.Proofs.YtbmogniipgmkiaaGreat.AP
open Go
set_option linter.unusedVariables false
set_option linter.unusedSimpArgs false
theorem lp_idx {α : Type} {f : Int → Option (Int ⊕ Int)} (l : List α) (p : α → Bool)
    (h : ∀ (i : Nat) x, l[i]? = some x → f (i : Int) = some (if p x then .inr (i : Int) else .inl ((i : Int) + 1)))
    (he : f (l.length : Int) = some (.inr (-1))) : lp f 0 = some (idx p l) := by
  rw [lp_first l p (fun i => (i : Int)) (some (-1)) h (lp_done he)]
  unfold idx; split <;> rfl
theorem wi_succ {i : Nat} {n : Nat} (h : i < n) (hn : n ≤ 9223372036854775807) : wi64 ((i : Int) + 1) = (i : Int) + 1 := wi64_eq (by omega) (by omega)
theorem ix_step {α X : Type} {l : List α} {i : Nat} {x : α} (hb : Big l) (h : l[i]? = some x) : decide ((i : Int) < (l.length : Int)) = true ∧ rd l (i : Int) = some x ∧ wi64 ((i : Int) + 1) = (i : Int) + 1 := by
  have := len_of_get h
  exact ⟨decide_eq_true (by omega), by rw [rd_nat]; exact h, wi_succ this hb⟩
theorem dlt (n : Nat) : decide ((n : Int) < (n : Int)) = false := by simp
theorem CNets.big {l : List D_api_Net} (h : CNets l) : Big l := by have := h.1; unfold Big; omega
theorem CNet.bigN {x : D_api_Net} (h : CNet x) : Big x.2.1 := by have := h.2.1.1; unfold Big; omega
theorem CNet.bigL {x : D_api_Net} (h : CNet x) : Big x.2.2.1 := by have := h.2.2.1.1; unfold Big; omega
theorem CNet.bigR {x : D_api_Net} (h : CNet x) : Big x.2.2.2 := by have := h.2.2.2.1; unfold Big; omega
abbrev isN (s : ByteArray) (n : D_api_Net) : Bool := sq n.1 s
abbrev isV (s : ByteArray) (n : D_api_Node) : Bool := sq n.1 s
abbrev isE (s : ByteArray) (n : D_api_Link) : Bool := sq n.1 s
theorem rFind_eq (l : List D_api_Net) (s : ByteArray) (hb : Big l) : m_triviumref23_Find l s = some (idx (isN s) l) :=
  lp_idx l _ (fun i x h => by
    obtain ⟨e1, e2, e3⟩ := ix_step (X := Int) hb h
    simp only [m_triviumref23_Find_l1, e1, if_true, e2, bd_some, e3]; split <;> rfl) (by simp only [m_triviumref23_Find_l1, dlt]; rfl)
theorem rNode_eq (n : D_api_Net) (s : ByteArray) (hb : Big n.2.1) : m_triviumref23_Node n s = some (idx (isV s) n.2.1) :=
  lp_idx n.2.1 _ (fun i x h => by
    obtain ⟨e1, e2, e3⟩ := ix_step (X := Int) hb h
    simp only [m_triviumref23_Node_l1, e1, if_true, e2, bd_some, e3]; split <;> rfl) (by simp only [m_triviumref23_Node_l1, dlt]; rfl)
theorem iFind_eq (l : List D_api_Net) (s : ByteArray) (hb : Big l) : m_slices_IndexFunc_api_Net_api_Net__formed_Find_1 l s = some (idx (isN s) l) :=
  lp_idx l _ (fun i x h => by
    obtain ⟨e1, e2, e3⟩ := ix_step (X := Int) hb h
    simp only [m_slices_IndexFunc_api_Net_api_Net__formed_Find_1_l1, m_formed_Find_1, e1, if_true, e2, bd_some, e3]; split <;> rfl) (by simp only [m_slices_IndexFunc_api_Net_api_Net__formed_Find_1_l1, dlt]; rfl)
theorem iNode_eq (l : List D_api_Node) (s : ByteArray) (hb : Big l) : m_slices_IndexFunc_api_Node_api_Node__formed_Node_1 l s = some (idx (isV s) l) :=
  lp_idx l _ (fun i x h => by
    obtain ⟨e1, e2, e3⟩ := ix_step (X := Int) hb h
    simp only [m_slices_IndexFunc_api_Node_api_Node__formed_Node_1_l1, m_formed_Node_1, e1, if_true, e2, bd_some, e3]; split <;> rfl) (by simp only [m_slices_IndexFunc_api_Node_api_Node__formed_Node_1_l1, dlt]; rfl)
theorem fNode_eq (n : D_api_Net) (s : ByteArray) (hb : Big n.2.1) : m_formed_Node n s = some (max (idx (isV s) n.2.1) 0, decide (0 ≤ idx (isV s) n.2.1)) := by
  unfold m_formed_Node; rw [iNode_eq _ _ hb, bd_some]
theorem rd_mem {α : Type} {l : List α} {i : Int} {x : α} (h : rd l i = some x) : x ∈ l := List.mem_of_getElem? (rdS h).2
theorem rd_neg {α : Type} {l : List α} {i : Int} (h : i < 0) : rd l i = none := by unfold rd; rw [if_neg (by omega)]
end Go.Proofs.YtbmogniipgmkiaaGreat.AP
/- Loops that look at all, or for what comes twice; names. -/
namespace Go.Proofs.YtbmogniipgmkiaaGreat.AP
open Go
set_option linter.unusedVariables false
set_option linter.unusedSimpArgs false
theorem lp_up {S X : Type} {f : S → Option (S ⊕ X)} {s : S} {o : Option X} (h : f s = up o) : lp f s = o := by
  rw [lp_go, h]; cases o <;> rfl
theorem lp_all {α X : Type} {f : Int → Option (Int ⊕ X)} (l : List α) (p : α → Bool) (bad : X) (e : Option X)
    (h : ∀ (i : Nat) x, l[i]? = some x → f (i : Int) = some (if p x then .inl ((i : Int) + 1) else .inr bad)) (he : lp f (l.length : Int) = e) : lp f 0 = if l.all p then e else some bad := by
  rw [lp_first l (fun x => !p x) (fun _ => bad) e (fun i x hx => by rw [h i x hx]; cases p x <;> rfl) he]
  have := fst_any (fun x => !p x) l
  cases ha : l.all p with
  | true =>
    rw [if_neg, if_pos rfl]
    intro hlt
    rw [decide_eq_true hlt] at this
    rw [List.all_eq_not_any_not, ← this] at ha
    cases ha
  | false =>
    rw [if_pos, if_neg (by decide)]
    apply Classical.byContradiction
    intro hlt
    rw [decide_eq_false hlt] at this
    rw [List.all_eq_not_any_not, ← this] at ha
    cases ha
/-- all right, and none with the key of one ahead -/
def okS {α κ : Type} (eq : κ → κ → Bool) (p : α → Bool) (key : α → κ) : List κ → List α → Bool
  | _, [] => true
  | seen, x :: l => p x && !(seen.any (eq (key x))) && okS eq p key (seen ++ [key x]) l
theorem lp_quad {α κ X : Type} {f : Int → Option (Int ⊕ X)} (l : List α) (eq : κ → κ → Bool) (p : α → Bool) (key : α → κ) (bad : α → X) (e : Option X)
    (h : ∀ (i : Nat) x, l[i]? = some x → f (i : Int) = some (if p x && !(((l.take i).map key).any (eq (key x))) then .inl ((i : Int) + 1) else .inr (bad x))) (he : lp f (l.length : Int) = e) :
    (okS eq p key [] l = true → lp f 0 = e) ∧ (okS eq p key [] l = false → ∃ x, lp f 0 = some (bad x)) := by
  have main : ∀ (k i : Nat), i + k = l.length → (okS eq p key ((l.take i).map key) (l.drop i) = true → lp f (i : Int) = e) ∧ (okS eq p key ((l.take i).map key) (l.drop i) = false → ∃ x, lp f (i : Int) = some (bad x)) := by
    intro k
    induction k with
    | zero =>
      intro i hk
      obtain rfl : i = l.length := by omega
      rw [List.drop_length]
      exact ⟨fun _ => he, fun h => by cases h⟩
    | succ k ih =>
      intro i hk
      have hx : l[i]? = some l[i] := List.getElem?_eq_getElem (by omega)
      have hd : l.drop i = l[i] :: l.drop (i + 1) := List.drop_eq_getElem_cons (by omega)
      have ht : (l.take (i + 1)).map key = (l.take i).map key ++ [key l[i]] := by rw [List.take_add_one, hx, List.map_append]; rfl
      have hs := h i _ hx
      have ih2 := ih (i + 1) (by omega)
      rw [ht] at ih2
      rw [hd]
      unfold okS
      cases hc : (p l[i] && !(((l.take i).map key).any (eq (key l[i])))) with
      | true =>
        rw [hc] at hs
        rw [lp_more hs, Bool.true_and]
        simpa using ih2
      | false =>
        rw [hc] at hs
        rw [lp_done hs, Bool.false_and]
        exact ⟨fun h => (by cases h), fun _ => ⟨_, rfl⟩⟩
  simpa using main l.length 0 (by omega)
theorem mget_mput {κ : Type} (eq : κ → κ → Bool) (law : ∀ a b, eq a b = true ↔ a = b) : ∀ (m : List (κ × Bool)) (k j : κ), (mget eq false (mput eq m k true) j).1 = (eq j k || (mget eq false m j).1)
  | [], k, j => by simp [mput, mget]; cases eq j k <;> rfl
  | q :: m, k, j => by
    unfold mput
    by_cases hk : eq k q.1 = true
    · rw [if_pos hk]
      have := (law _ _).1 hk
      simp only [mget, ← this]
      cases eq j k <;> rfl
    · rw [if_neg hk]
      simp only [mget]
      by_cases hj : eq j q.1 = true
      · rw [if_pos hj, if_pos hj]
        have e : eq j k = false := by
          cases h : eq j k with
          | false => rfl
          | true => exact absurd ((law _ _).2 (((law _ _).1 h).symm.trans ((law _ _).1 hj))) hk
        rw [e, Bool.false_or]
      · rw [if_neg hj, if_neg hj]
        exact mget_mput eq law m k j
theorem lp_mapd {α κ X : Type} {f : (Int × List (κ × Bool)) → Option ((Int × List (κ × Bool)) ⊕ X)} (l : List α) (eq : κ → κ → Bool) (law : ∀ a b, eq a b = true ↔ a = b) (p : α → Bool) (key : α → κ) (bad : α → X) (e : Option X)
    (h : ∀ (i : Nat) x m, l[i]? = some x → f ((i : Int), m) = some (if p x && !(mget eq false m (key x)).1 then .inl ((i : Int) + 1, mput eq m (key x) true) else .inr (bad x))) (he : ∀ m, lp f ((l.length : Int), m) = e) :
    (okS eq p key [] l = true → lp f (0, []) = e) ∧ (okS eq p key [] l = false → ∃ x, lp f (0, []) = some (bad x)) := by
  have main : ∀ (k i : Nat) (m : List (κ × Bool)), i + k = l.length → (∀ j, (mget eq false m j).1 = ((l.take i).map key).any (eq j)) → (okS eq p key ((l.take i).map key) (l.drop i) = true → lp f ((i : Int), m) = e) ∧ (okS eq p key ((l.take i).map key) (l.drop i) = false → ∃ x, lp f ((i : Int), m) = some (bad x)) := by
    intro k
    induction k with
    | zero =>
      intro i m hk _
      obtain rfl : i = l.length := by omega
      rw [List.drop_length]
      exact ⟨fun _ => he m, fun h => by cases h⟩
    | succ k ih =>
      intro i m hk hm
      have hx : l[i]? = some l[i] := List.getElem?_eq_getElem (by omega)
      have hd : l.drop i = l[i] :: l.drop (i + 1) := List.drop_eq_getElem_cons (by omega)
      have ht : (l.take (i + 1)).map key = (l.take i).map key ++ [key l[i]] := by rw [List.take_add_one, hx, List.map_append]; rfl
      have hs := h i _ m hx
      rw [hm] at hs
      have ih2 := ih (i + 1) (mput eq m (key l[i]) true) (by omega) (fun j => by
        rw [mget_mput eq law, hm, ht, List.any_append]; simp [Bool.or_comm])
      rw [ht] at ih2
      rw [hd]
      unfold okS
      cases hc : (p l[i] && !(((l.take i).map key).any (eq (key l[i])))) with
      | true =>
        rw [hc] at hs
        rw [lp_more hs, Bool.true_and]
        simpa using ih2
      | false =>
        rw [hc] at hs
        rw [lp_done hs, Bool.false_and]
        exact ⟨fun h => (by cases h), fun _ => ⟨_, rfl⟩⟩
  simpa using main l.length 0 [] (by omega) (fun j => rfl)
/-! names -/
theorem decode_byte (s : ByteArray) (i : Nat) (h : i < s.size) : (s.data.toList.getD i 0).toNat < 128 → Utf8.decode s i = ((s.data.toList.getD i 0).toNat, 1) := by
  intro hb
  have e : (s.get! i).toNat = (s.data.toList.getD i 0).toNat := by
    have h2 : i < s.data.size := h
    have : s.get! i = s.data[i] := by show s.data[i]! = _; rw [getElem!_pos s.data i h2]
    rw [this, List.getD_eq_getElem?_getD, Array.getElem?_toList, Array.getElem?_eq_getElem h2]; rfl
  unfold Utf8.decode
  simp only [Nat.add_zero, e]
  rw [if_pos (by omega)]
theorem decode_high (s : ByteArray) (i : Nat) (h : i < s.size) : 128 ≤ (s.data.toList.getD i 0).toNat → 128 ≤ (Utf8.decode s i).1 := by
  intro hb
  have e : (s.get! i).toNat = (s.data.toList.getD i 0).toNat := by
    have h2 : i < s.data.size := h
    have : s.get! i = s.data[i] := by show s.data[i]! = _; rw [getElem!_pos s.data i h2]
    rw [this, List.getD_eq_getElem?_getD, Array.getElem?_toList, Array.getElem?_eq_getElem h2]; rfl
  unfold Utf8.decode
  simp only [Nat.add_zero, e]
  rw [if_neg (by omega)]
  have hr : 128 ≤ Utf8.runeError := by decide
  repeat' split
  all_goals first | exact hr | (simp only [Bool.and_eq_true, decide_eq_true_eq, ge_iff_le] at *; omega)
theorem word_eq (s : ByteArray) (hs : s.size ≤ 9223372036854775807) : ∃ b, m_name_Word s = some b ∧ m_triviumref17_Word s = some b := by
  have main : ∀ (k i : Nat), i + k = s.size → ∃ b, lp (m_name_Word_l1 s) i = some b ∧ lp (m_triviumref17_Word_l1 s) (i : Int) = some b := by
    intro k
    induction k with
    | zero =>
      intro i hk
      obtain rfl : i = s.size := by omega
      refine ⟨decide (0 < (s.size : Int)), lp_done ?_, lp_done ?_⟩
      · simp only [m_name_Word_l1, Nat.lt_irrefl, decide_false]
        rw [if_neg (by decide), sq_eq]
        congr 2
        have : (s = bs []) ↔ s.size = 0 := by
          constructor
          · intro e; rw [e]; rfl
          · intro e; cases s with | mk d => have : d = #[] := Array.eq_empty_of_size_eq_zero e; rw [this]; rfl
        by_cases h0 : s.size = 0
        · rw [decide_eq_true (this.2 h0), decide_eq_false (by omega)]; rfl
        · rw [decide_eq_false (fun e => h0 (this.1 e)), decide_eq_true (by omega)]; rfl
      · simp [m_triviumref17_Word_l1]
    | succ k ih =>
      intro i hk
      have hi : i < s.size := by omega
      generalize hb : ((s.data.toList.getD i 0).toNat : Int) = b
      have hb0 : 0 ≤ b := by omega
      have e1 : decide (i < s.size) = true := decide_eq_true hi
      have e2 : decide ((i : Int) < (s.size : Int)) = true := decide_eq_true (by omega)
      have e3 : bt s (i : Int) = some b := by unfold bt; rw [if_pos (by omega), Int.toNat_natCast, hb]
      have e4 : wi64 ((i : Int) + 1) = ((i + 1 : Nat) : Int) := by rw [wi64_eq (by omega) (by omega)]; omega
      have lt : ∀ x : Int, m_name_letter x = some (decide (97 ≤ x) && decide (x ≤ 122)) := fun x => by
        unfold m_name_letter; by_cases h : 97 ≤ x <;> simp [h]
      have ot : ∀ x : Int, m_name_other x = some ((decide (48 ≤ x) && decide (x ≤ 57)) || decide (x = 45) || decide (x = 95)) := fun x => by
        unfold m_name_other
        by_cases h1 : 48 ≤ x <;> by_cases h2 : x ≤ 57 <;> by_cases h3 : x = 45 <;> simp [h1, h2, h3]
      have a1 : (if decide (97 ≤ b) = true then some (decide (b ≤ 122)) else some false) = some (decide (97 ≤ b) && decide (b ≤ 122)) := by by_cases h : 97 ≤ b <;> simp [h]
      have a2 : (if decide (48 ≤ b) = true then (if decide (b ≤ 57) = true then some true else if decide (b = 45) = true then some true else some (decide (b = 95))) else if decide (b = 45) = true then some true else some (decide (b = 95))) = some ((decide (48 ≤ b) && decide (b ≤ 57)) || decide (b = 45) || decide (b = 95)) := by
        by_cases h1 : 48 ≤ b <;> by_cases h2 : b ≤ 57 <;> by_cases h3 : b = 45 <;> simp [h1, h2, h3]
      by_cases hasc : b < 128
      · have hd := decode_byte s i hi (by omega)
        have d1 : dc1 s i = b := by unfold dc1; rw [hd]; exact hb
        have d2 : dcn s i = i + 1 := by unfold dcn; rw [hd]
        obtain ⟨r, r1, r2⟩ := ih (i + 1) (by omega)
        cases hL : (decide (97 ≤ b) && decide (b ≤ 122)) with
        | true =>
          refine ⟨r, ?_, ?_⟩
          · rw [lp_more (s' := i + 1) (by simp only [m_name_Word_l1, e1, if_true, d1, d2, lt, hL, bd_some]; rfl)]; exact r1
          · rw [lp_more (s' := ((i + 1 : Nat) : Int)) (by simp only [m_triviumref17_Word_l1, e2, if_true, e3, bd_some, a1, a2, hL, e4]; rfl)]; exact r2
        | false =>
          by_cases hi0 : i = 0
          · subst hi0
            refine ⟨false, lp_done (by simp only [m_name_Word_l1, e1, if_true, d1, d2, lt, hL, bd_some]; rfl), lp_done (by simp only [m_triviumref17_Word_l1, e2, if_true, e3, bd_some, a1, a2, hL, e4]; rfl)⟩
          · have z1 : decide ((i : Int) = 0) = false := decide_eq_false (by omega)
            cases hO : ((decide (48 ≤ b) && decide (b ≤ 57)) || decide (b = 45) || decide (b = 95)) with
            | true =>
              refine ⟨r, ?_, ?_⟩
              · rw [lp_more (s' := i + 1) (by simp only [m_name_Word_l1, e1, if_true, d1, d2, lt, ot, hL, hO, z1, bd_some]; rfl)]; exact r1
              · rw [lp_more (s' := ((i + 1 : Nat) : Int)) (by simp only [m_triviumref17_Word_l1, e2, if_true, e3, bd_some, a1, a2, hL, hO, z1, e4]; rfl)]; exact r2
            | false =>
              refine ⟨false, lp_done (by simp only [m_name_Word_l1, e1, if_true, d1, d2, lt, ot, hL, hO, z1, bd_some]; rfl), lp_done (by simp only [m_triviumref17_Word_l1, e2, if_true, e3, bd_some, a1, a2, hL, hO, z1, e4]; rfl)⟩
      · have hd := decode_high s i hi (by omega)
        have d1 : 128 ≤ dc1 s i := by unfold dc1; omega
        have hL : (decide (97 ≤ b) && decide (b ≤ 122)) = false := by simp; omega
        have hL' : (decide (97 ≤ dc1 s i) && decide (dc1 s i ≤ 122)) = false := by simp; omega
        have hO : ((decide (48 ≤ b) && decide (b ≤ 57)) || decide (b = 45) || decide (b = 95)) = false := by simp; omega
        have hO' : ((decide (48 ≤ dc1 s i) && decide (dc1 s i ≤ 57)) || decide (dc1 s i = 45) || decide (dc1 s i = 95)) = false := by simp; omega
        by_cases hi0 : i = 0
        · subst hi0
          refine ⟨false, lp_done (by simp only [m_name_Word_l1, e1, if_true, lt, hL', bd_some]; rfl), lp_done (by simp only [m_triviumref17_Word_l1, e2, if_true, e3, bd_some, a1, a2, hL, e4]; rfl)⟩
        · have z1 : decide ((i : Int) = 0) = false := decide_eq_false (by omega)
          refine ⟨false, lp_done (by simp only [m_name_Word_l1, e1, if_true, lt, ot, hL', hO', z1, bd_some]; rfl), lp_done (by simp only [m_triviumref17_Word_l1, e2, if_true, e3, bd_some, a1, a2, hL, hO, z1, e4]; rfl)⟩
  exact main s.size 0 (by omega)
end Go.Proofs.YtbmogniipgmkiaaGreat.AP
/- Names, and names that come twice, in both ways. -/
namespace Go.Proofs.YtbmogniipgmkiaaGreat.AP
open Go
set_option linter.unusedVariables false
set_option linter.unusedSimpArgs false
theorem sq_comm (a b : ByteArray) : sq a b = sq b a := by rw [sq_eq, sq_eq]; exact decide_eq_decide.2 ⟨Eq.symm, Eq.symm⟩
theorem kw_eq (s : ByteArray) : ∃ b, m_name_Keyword s = some b ∧ m_triviumref17_Keyword s = some b := by
  obtain ⟨l, hl⟩ : ∃ l, m_name_Keywords = some l := ⟨_, rfl⟩
  have hl2 : m_triviumref17_Keywords = some l := by rw [← hl]; rfl
  have hb : Big l := by
    have : l.length = 13 := by cases hl; rfl
    unfold Big; omega
  refine ⟨l.any (fun x => sq s x), ?_, ?_⟩
  · unfold m_name_Keyword m_slices_Contains_string_string m_slices_Index_string_string
    rw [hl, bd_some, lp_idx l (fun x => sq s x) (fun i x h => by
      obtain ⟨e1, e2, e3⟩ := ix_step (X := Int) hb h
      simp only [m_slices_Index_string_string_l1, e1, if_true, e2, bd_some, e3]; split <;> rfl) (by simp only [m_slices_Index_string_string_l1, dlt]; rfl), bd_some, bd_some, idx_any]
  · unfold m_triviumref17_Keyword
    rw [hl2, bd_some, lp_all l (fun x => !sq s x) true (some false) (fun i x h => by
      obtain ⟨e1, e2, e3⟩ := ix_step (X := Int) hb h
      simp only [m_triviumref17_Keyword_l1, e1, if_true, e2, bd_some, e3, sq_comm x s]; cases sq s x <;> rfl) (lp_done (by simp only [m_triviumref17_Keyword_l1, dlt]; rfl))]
    rw [List.any_eq_not_all_not]
    cases l.all fun x => !sq s x <;> rfl
theorem name_eq (s : ByteArray) (hs : s.size ≤ 9223372036854775807) : ∃ b, m_name_Name s = some b ∧ m_triviumref17_Name s = some b := by
  obtain ⟨w, w1, w2⟩ := word_eq s hs
  obtain ⟨k, k1, k2⟩ := kw_eq s
  unfold m_name_Name m_triviumref17_Name
  rw [w1, w2, k1, k2]
  exact ⟨if w then !k else false, by cases w <;> rfl, by cases w <;> rfl⟩
noncomputable def isName (s : ByteArray) : Bool := (m_name_Name s).getD false
theorem nameF_eq (s : ByteArray) (hs : s.size ≤ 9223372036854775807) : m_name_Name s = some (isName s) := by
  obtain ⟨b, h, _⟩ := name_eq s hs
  unfold isName; rw [h]; rfl
theorem nameR_eq (s : ByteArray) (hs : s.size ≤ 9223372036854775807) : m_triviumref17_Name s = some (isName s) := by
  obtain ⟨b, h, k⟩ := name_eq s hs
  unfold isName; rw [h, k]; rfl
theorem sq_law (a b : ByteArray) : sq a b = true ↔ a = b := sq_iff
abbrev once (l : List ByteArray) : Bool := okS sq (fun _ => true) id [] l
theorem twiceF_eq (l : List ByteArray) (hb : Big l) : ∃ y, m_name_Twice l = some (y, !once l) := by
  have h := lp_mapd (f := m_name_Twice_l1 l) l sq sq_law (fun _ => true) id (fun x => (x, true)) (some (bs [], false)) (fun i x m hx => by
    obtain ⟨e1, e2, e3⟩ := ix_step (X := Int) hb hx
    simp only [m_name_Twice_l1, e1, if_true, e2, bd_some, e3, lt_eq, id, Bool.true_and]
    cases (mget sq false m x).1 <;> rfl) (fun m => lp_done (by simp only [m_name_Twice_l1, dlt]; rfl))
  unfold m_name_Twice
  cases ho : once l with
  | true => exact ⟨_, h.1 ho⟩
  | false => obtain ⟨x, hx⟩ := h.2 ho; exact ⟨_, hx⟩
theorem inner_all {α X : Type} (l : List α) (n : Nat) (hn : n ≤ l.length) {f : Int → Option (Int ⊕ X)} (p : α → Bool) (bad e : X)
    (h : ∀ (j : Nat) y, j < n → l[j]? = some y → f (j : Int) = some (if p y then .inl ((j : Int) + 1) else .inr bad)) (he : f (n : Int) = some (.inr e)) : lp f 0 = some (if (l.take n).all p then e else bad) := by
  rw [lp_all (l.take n) p bad (some e) (fun i x hx => by
    have hi := len_of_get hx
    have hi2 : i < n := by rw [List.length_take] at hi; omega
    exact h i x hi2 (by rw [List.getElem?_take_of_lt hi2] at hx; exact hx)) (lp_done (by
    have : ((l.take n).length : Int) = (n : Int) := by simp; omega
    rw [this]; exact he))]
  cases (l.take n).all p <;> rfl
theorem twiceR_eq (l : List ByteArray) (hb : Big l) : ∃ y, m_triviumref17_Twice l = some (y, !once l) := by
  have h := lp_quad (f := m_triviumref17_Twice_l1 l) l sq (fun _ => true) id (fun x => (x, true)) (some (bs [], false)) (fun i x hx => by
    obtain ⟨e1, e2, e3⟩ := ix_step (X := Int) hb hx
    have hi := len_of_get hx
    have hin : lp (m_triviumref17_Twice_l2 l (i : Int)) 0 = some (if (l.take i).all (fun y => !sq y x) then .inl (wi64 ((i : Int) + 1)) else .inr (x, true)) :=
      inner_all l i (by omega) (fun y => !sq y x) _ _ (fun j y hj hy => by
        have d1 : decide ((j : Int) < (i : Int)) = true := decide_eq_true (by omega)
        have d2 : rd l (j : Int) = some y := by rw [rd_nat]; exact hy
        have d3 : wi64 ((j : Int) + 1) = (j : Int) + 1 := wi_succ (n := l.length) (by omega) hb
        simp only [m_triviumref17_Twice_l2, d1, if_true, d2, e2, bd_some, d3]
        cases sq y x <;> rfl) (by simp only [m_triviumref17_Twice_l2, dlt]; rfl)
    simp only [m_triviumref17_Twice_l1, e1, if_true, hin, e3, Bool.true_and, List.map_id, id]
    have : (l.take i).any (sq x) = !(l.take i).all (fun y => !sq y x) := by
      rw [List.any_eq_not_all_not]; simp only [sq_comm x]
    rw [this]
    cases (l.take i).all (fun y => !sq y x) <;> rfl) (lp_done (by simp only [m_triviumref17_Twice_l1, dlt]; rfl))
  unfold m_triviumref17_Twice
  cases ho : once l with
  | true => exact ⟨_, h.1 ho⟩
  | false => obtain ⟨x, hx⟩ := h.2 ho; exact ⟨_, hx⟩
def Szs (l : List ByteArray) : Prop := Big l ∧ ∀ s ∈ l, s.size ≤ 9223372036854775807
noncomputable def namesOK (l : List ByteArray) : Bool := l.all isName && once l
theorem namedF_eq (l : List ByteArray) (h : Szs l) : m_formed_named l = some (namesOK l) := by
  obtain ⟨y, hy⟩ := twiceF_eq l h.1
  unfold m_formed_named
  rw [lp_all l isName false (some (once l)) (fun i x hx => by
    obtain ⟨e1, e2, e3⟩ := ix_step (X := Int) h.1 hx
    simp only [m_formed_named_l1, e1, if_true, e2, bd_some, e3, nameF_eq x (h.2 x (List.mem_of_getElem? hx))]
    cases isName x <;> rfl) (lp_done (by simp only [m_formed_named_l1, dlt, hy, bd_some]; simp))]
  unfold namesOK
  cases l.all isName <;> simp
theorem namedR_eq (l : List ByteArray) (h : Szs l) : m_triviumref23_names l = some (namesOK l) := by
  obtain ⟨y, hy⟩ := twiceR_eq l h.1
  unfold m_triviumref23_names
  rw [lp_all l isName false (some (once l)) (fun i x hx => by
    obtain ⟨e1, e2, e3⟩ := ix_step (X := Int) h.1 hx
    simp only [m_triviumref23_names_l1, e1, if_true, e2, bd_some, e3, nameR_eq x (h.2 x (List.mem_of_getElem? hx))]
    cases isName x <;> rfl) (lp_done (by simp only [m_triviumref23_names_l1, dlt, hy, bd_some]; simp))]
  unfold namesOK
  cases l.all isName <;> simp
end Go.Proofs.YtbmogniipgmkiaaGreat.AP
/- The program's numbers, as printed: noughts, limbs, compared, added. -/
namespace Go.Proofs.YtbmogniipgmkiaaGreat.AP
open Go Go.Proofs.YtbmogniipgmkiaaGreat.Tri
set_option linter.unusedVariables false
set_option linter.unusedSimpArgs false
theorem trimN_loop (p0 : List Int) (hl : p0.length ≤ 4611686018427387904) : ∀ (n : Nat) (a b : List Int), a.length = n → p0 = a ++ b → ∃ k : Nat, lp (m_nat_trim_l1 p0) (n : Int) = some (k : Int) ∧ k ≤ n ∧ a.take k = trimz a
  | 0, a, b, h, hp => by
    have : a = [] := List.eq_nil_of_length_eq_zero h
    subst this
    exact ⟨0, by rw [lp_go]; simp [m_nat_trim_l1], Nat.le_refl _, rfl⟩
  | n + 1, a, b, h, hp => by
    obtain ⟨d, x, rfl, hd⟩ := split_last h
    have hlen : p0.length = n + 1 + b.length := by rw [hp]; simp [hd]; omega
    have hx : gI p0 (n : Int) = x := by rw [hp, List.append_assoc]; unfold gI; rw [List.getD_eq_getElem?_getD, List.getElem?_append_right (by simp [hd])]; simp [hd]
    have hstep : m_nat_trim_l1 p0 ((n + 1 : Nat) : Int) = if x = 0 then some (.inl (n : Int)) else some (.inr ((n + 1 : Nat) : Int)) := by
      have e1 : wi64 (((n + 1 : Nat) : Int) - 1) = (n : Int) := by rw [wi64_eq (by omega) (by omega)]; omega
      have e2 : rd p0 (n : Int) = some x := by rw [rd_I (by omega) (by omega), hx]
      have e3 : decide (0 < ((n + 1 : Nat) : Int)) = true := decide_eq_true (by omega)
      simp only [m_nat_trim_l1, e3, if_true, e1, e2, bd_some, decide_eq_true_eq]
    by_cases h0 : x = 0
    · subst h0
      rw [lp_more (by rw [hstep, if_pos rfl])]
      obtain ⟨k, h1, h2, h3⟩ := trimN_loop p0 hl n d ([0] ++ b) hd (by rw [hp]; simp)
      refine ⟨k, h1, by omega, ?_⟩
      rw [trimz_snoc_zero, ← h3, List.take_append_of_le_length (by omega)]
    · refine ⟨n + 1, lp_done (by rw [hstep, if_neg h0]), Nat.le_refl _, ?_⟩
      rw [List.take_of_length_le (by omega), trimz_of_top (Top.snoc.2 h0)]
theorem trimN_eq (a : List Int) (hl : a.length ≤ 4611686018427387904) : m_nat_trim a = some (trimz a) := by
  obtain ⟨k, h1, h2, h3⟩ := trimN_loop a hl a.length a [] rfl (by simp)
  unfold m_nat_trim
  rw [h1, bd_some, ct_of (by omega), bd_some]
  simp [h3]
theorem make_loop (p0 : List Int) (hd : Dig (4294967296 : Int) p0) (hl : p0.length ≤ 10000000000000) : ∀ (k i : Nat), i + k = p0.length → lp (m_nat_Make_l1 p0) ((i : Int), p0.take i) = some (trimz p0, 0)
  | 0, i, hk => by
    obtain rfl : i = p0.length := by omega
    refine lp_done ?_
    simp only [m_nat_Make_l1, List.take_length, trimN_eq p0 (by omega), bd_some]
    simp
  | k + 1, i, hk => by
    have g := gI_dig hd (by decide) (i : Int)
    have e1 : decide ((i : Int) < (p0.length : Int)) = true := decide_eq_true (by omega)
    have e2 : rd p0 (i : Int) = some (gI p0 (i : Int)) := rd_I (by omega) (by omega)
    have e3 : decide ((4294967296 : Int) ≤ gI p0 (i : Int)) = false := decide_eq_false (by omega)
    have e4 : wi64 ((i : Int) + 1) = ((i + 1 : Nat) : Int) := by rw [wi64_eq (by omega) (by omega)]; omega
    have e5 : ap 8 (p0.take i) [gI p0 (i : Int)] = some (p0.take (i + 1)) := by
      rw [ap_of (by simp; omega), List.take_add_one, List.getElem?_eq_getElem (by omega)]
      have : gI p0 (i : Int) = p0[i] := by simp [gI, show i < p0.length by omega]
      rw [this]; rfl
    rw [lp_more (s' := (((i + 1 : Nat) : Int), p0.take (i + 1))) (by simp only [m_nat_Make_l1, e1, if_true, e2, bd_some, e3, e5, e4]; rfl)]
    exact make_loop p0 hd hl k (i + 1) (by omega)
theorem make_dig (a : List Int) (hd : Dig (4294967296 : Int) a) (hl : a.length ≤ 10000000000000) : m_nat_Make a = some (trimz a, 0) := by
  unfold m_nat_Make
  rw [mk_of (by omega), bd_some]
  have := make_loop a hd hl a.length 0 (by omega)
  simpa using this
theorem make_nl (x : Int) (hl : (nl x).length ≤ 10000000000000) : m_nat_Make (nl x) = some (nl x, 0) := by
  rw [make_dig _ (nl_can x).1 hl, trimz_of_top (nl_can x).2]
theorem may_can (a : List Int) (h : Tri.Can (4294967296 : Int) a) (hl : a.length ≤ 4611686018427387904) : m_nat_May a = some true := by
  have key : ∀ (k i : Nat), i + k = a.length → lp (m_nat_May_l1 a) (i : Int) = some true := by
    intro k
    induction k with
    | zero =>
      intro i hk
      obtain rfl : i = a.length := by omega
      refine lp_done ?_
      by_cases h0 : a = []
      · subst h0; simp [m_nat_May_l1]
      · obtain ⟨d, x, rfl⟩ := eq_snoc h0
        have hx := Top.snoc.1 h.2
        have e1 : wi64 (((d ++ [x]).length : Int) - 1) = (d.length : Int) := by rw [wi64_eq (by omega) (by omega)]; simp
        have e2 : rd (d ++ [x]) (d.length : Int) = some x := by rw [rd_I (by omega) (by simp; omega), gI_last]
        have e3 : decide (((d ++ [x]).length : Int) = 0) = false := decide_eq_false (by simp; omega)
        simp only [m_nat_May_l1, show decide (((d ++ [x]).length : Int) < ((d ++ [x]).length : Int)) = false by simp, e3, e1, e2, bd_some]
        simp [hx]
    | succ k ih =>
      intro i hk
      have g := gI_dig h.1 (by decide) (i : Int)
      have e1 : decide ((i : Int) < (a.length : Int)) = true := decide_eq_true (by omega)
      have e2 : rd a (i : Int) = some (gI a (i : Int)) := rd_I (by omega) (by omega)
      have e3 : decide ((4294967296 : Int) ≤ gI a (i : Int)) = false := decide_eq_false (by omega)
      have e4 : wi64 ((i : Int) + 1) = ((i + 1 : Nat) : Int) := by rw [wi64_eq (by omega) (by omega)]; omega
      rw [lp_more (s' := ((i + 1 : Nat) : Int)) (by simp only [m_nat_May_l1, e1, if_true, e2, bd_some, e3, e4]; rfl)]
      exact ih (i + 1) (by omega)
  exact key a.length 0 (by omega)
theorem cmpN_loop (a b : List Int) (ha : Dig (4294967296 : Int) a) (hb : Dig (4294967296 : Int) b) (he : a.length = b.length) (hl : a.length ≤ 4611686018427387904) : ∀ n : Nat, n ≤ a.length → dv (4294967296 : Int) (a.drop n) = dv (4294967296 : Int) (b.drop n) → lp (m_nat_Cmp_l1 a b) ((n : Int) - 1) = some (sg (dv (4294967296 : Int) a - dv (4294967296 : Int) b))
  | 0, _, h => by
    rw [List.drop_zero, List.drop_zero] at h
    refine lp_done ?_
    rw [h, Int.sub_self]
    simp [m_nat_Cmp_l1, sg]
  | n + 1, hn, h => by
    have ga := gI_dig ha (by decide) (n : Int)
    have gb := gI_dig hb (by decide) (n : Int)
    have a0 : ((n + 1 : Nat) : Int) - 1 = (n : Int) := by omega
    have a1 : decide ((0 : Int) ≤ (n : Int)) = true := decide_eq_true (by omega)
    have a2 : rd a (n : Int) = some (gI a (n : Int)) := rd_I (by omega) (by omega)
    have a3 : rd b (n : Int) = some (gI b (n : Int)) := rd_I (by omega) (by omega)
    have a5 : wi64 ((n : Int) - 1) = (n : Int) - 1 := wi64_eq (by omega) (by omega)
    have e : m_nat_Cmp_l1 a b (((n + 1 : Nat) : Int) - 1) = if gI a (n : Int) < gI b (n : Int) then some (.inr (-1)) else if gI b (n : Int) < gI a (n : Int) then some (.inr 1) else some (.inl ((n : Int) - 1)) := by
      rw [a0]
      simp only [m_nat_Cmp_l1, a1, if_true, a2, a3, bd_some, a5, decide_eq_true_eq]
    rcases Int.lt_trichotomy (gI a (n : Int)) (gI b (n : Int)) with hlt | heq | hgt
    · have := digit_lt (by decide) ha hb n (by omega) (by omega) h hlt
      rw [lp_done (by rw [e, if_pos hlt])]
      unfold sg; rw [if_pos (by omega)]
    · rw [lp_more (by rw [e, if_neg (by omega), if_neg (by omega)])]
      refine cmpN_loop a b ha hb he hl n (by omega) ?_
      rw [drop_gI a n (by omega), drop_gI b n (by omega), dv_cons, dv_cons, h, heq]
    · have := digit_lt (by decide) hb ha n (by omega) (by omega) h.symm hgt
      rw [lp_done (by rw [e, if_neg (by omega), if_pos hgt])]
      unfold sg; rw [if_neg (by omega), if_pos (by omega)]
theorem cmpN_can (a b : List Int) (ha : Tri.Can (4294967296 : Int) a) (hb : Tri.Can (4294967296 : Int) b) (hl : a.length ≤ 4611686018427387904) : m_nat_Cmp a b = some (sg (dv (4294967296 : Int) a - dv (4294967296 : Int) b)) := by
  unfold m_nat_Cmp
  rcases Nat.lt_trichotomy a.length b.length with h | h | h
  · have := Can.lt_of_length (by decide) ha.1 hb h
    rw [lt_eq, if_pos (by simp; omega)]
    unfold sg; rw [if_pos (by omega)]
  · rw [lt_eq, if_neg (by simp; omega), lt_eq, if_neg (by simp; omega), wi64_eq (by omega) (by omega)]
    exact cmpN_loop a b ha.1 hb.1 h hl a.length (Nat.le_refl _) (by rw [List.drop_length, h, List.drop_length])
  · have := Can.lt_of_length (by decide) hb.1 ha h
    rw [lt_eq, if_neg (by simp; omega), lt_eq, if_pos (by simp; omega)]
    unfold sg; rw [if_neg (by omega), if_pos (by omega)]
theorem cmpN_eq (x y : Int) (hx : 0 ≤ x) (hy : 0 ≤ y) (hl : (nl x).length ≤ 4611686018427387904) : m_nat_Cmp (nl x) (nl y) = some (sg (x - y)) := by
  rw [cmpN_can _ _ (nl_can x) (nl_can y) hl, nl_dv hx, nl_dv hy]
/-! limbs -/
theorem and_low (x : Int) (h0 : 0 ≤ x) (h1 : x < 18446744073709551616) : Go.bits .and .u64 x 4294967295 = x % 4294967296 := by
  rw [u64_and x _ h0 h1 (by omega) (by omega)]
  have : (4294967295 : Int).toNat = 2 ^ 32 - 1 := rfl
  rw [this, Nat.and_two_pow_sub_one_eq_mod]
  omega
theorem and_limb (x : Int) (h0 : 0 ≤ x) (h1 : x < (4294967296 : Int)) : Go.bits .and .u64 x 4294967295 = x := by
  rw [and_low x h0 (by omega)]; omega
theorem sr32 (x : Int) : sr .u64 x 32 = some (x / (4294967296 : Int)) := by
  unfold sr
  rw [if_pos (by decide)]
  have e : (2 : Int) ^ (min (32 : Int).toNat IntKind.u64.bits) = (4294967296 : Int) := by decide
  rw [e, Int.fdiv_eq_ediv_of_nonneg _ (by decide)]
theorem sh32 (x : Int) (h0 : 0 ≤ x) (h1 : x < (4294967296 : Int)) : sh .u64 x 32 = some (x * (4294967296 : Int)) := by
  unfold sh
  rw [if_pos (by decide)]
  have e : (2 : Int) ^ (min (32 : Int).toNat IntKind.u64.bits) = (4294967296 : Int) := by decide
  rw [e]
  congr 1
  exact wu64_eq (by omega) (by omega)
theorem or_low (x y : Int) (h0 : 0 ≤ x) (h1 : x < (4294967296 : Int)) (h2 : 0 ≤ y) (h3 : y < (4294967296 : Int)) : Go.bits .or .u64 (x * (4294967296 : Int)) y = x * (4294967296 : Int) + y := by
  rw [u64_or _ _ (by omega) (by omega) h2 (by omega)]
  obtain ⟨X, rfl⟩ := Int.eq_ofNat_of_zero_le h0
  obtain ⟨Y, rfl⟩ := Int.eq_ofNat_of_zero_le h2
  have e1 : ((X : Int) * (4294967296 : Int)).toNat = 2 ^ 32 * X := by omega
  rw [e1, Int.toNat_natCast, ← Nat.two_pow_add_eq_or_of_lt (by omega)]
  omega
theorem mul_bound {a b c d : Int} (ha : 0 ≤ a ∧ a < (4294967296 : Int)) (hb : 0 ≤ b ∧ b < (4294967296 : Int)) (hc : 0 ≤ c ∧ c < (4294967296 : Int)) (hd : 0 ≤ d ∧ d < (4294967296 : Int)) : 0 ≤ a * b ∧ a * b + c + d < (4294967296 : Int) * (4294967296 : Int) := by
  have h1 : 0 ≤ a * b := Int.mul_nonneg ha.1 hb.1
  have h2 : a * b ≤ ((4294967296 : Int) - 1) * ((4294967296 : Int) - 1) := by
    have h3 : a * b ≤ ((4294967296 : Int) - 1) * b := Int.mul_le_mul_of_nonneg_right (by omega) hb.1
    have h4 : ((4294967296 : Int) - 1) * b ≤ ((4294967296 : Int) - 1) * ((4294967296 : Int) - 1) := Int.mul_le_mul_of_nonneg_left (by omega) (by decide)
    omega
  refine ⟨h1, ?_⟩
  have e : (4294967296 - 1) * (4294967296 - 1) = (18446744065119617025 : Int) := by decide
  have e2 : 4294967296 * 4294967296 = (18446744073709551616 : Int) := by decide
  omega
theorem limbMul_eq (a b c d : Int) (ha : 0 ≤ a ∧ a < (4294967296 : Int)) (hb : 0 ≤ b ∧ b < (4294967296 : Int)) (hc : 0 ≤ c ∧ c < (4294967296 : Int)) (hd : 0 ≤ d ∧ d < (4294967296 : Int)) : m_limb_Mul a b c d = some ((a * b + c + d) % (4294967296 : Int), (a * b + c + d) / (4294967296 : Int)) := by
  unfold m_limb_Mul
  obtain ⟨h1, h2⟩ := mul_bound ha hb hc hd
  have e2 : 4294967296 * 4294967296 = (18446744073709551616 : Int) := by decide
  rw [and_limb a ha.1 ha.2, and_limb b hb.1 hb.2, and_limb c hc.1 hc.2, and_limb d hd.1 hd.2]
  have hc1 := hc.1
  have hd1 := hd.1
  generalize a * b = p at h1 h2
  rw [lt_eq, wu64_eq (x := p) (by omega) (by omega), wu64_eq (x := p + c) (by omega) (by omega), wu64_eq (x := p + c + d) (by omega) (by omega), sr32, bd_some, and_low _ (by omega) (by omega)]
theorem limbAdd_eq (a b c : Int) (ha : 0 ≤ a ∧ a < (4294967296 : Int)) (hb : 0 ≤ b ∧ b < (4294967296 : Int)) (hc : 0 ≤ c ∧ c < (4294967296 : Int)) : m_limb_Add a b c = some ((a + b + c) % (4294967296 : Int), (a + b + c) / (4294967296 : Int)) := by
  unfold m_limb_Add
  rw [and_limb a ha.1 ha.2, and_limb b hb.1 hb.2, and_limb c hc.1 hc.2]
  rw [lt_eq, wu64_eq (x := a + b) (by omega) (by omega), wu64_eq (x := a + b + c) (by omega) (by omega), sr32, bd_some, and_low _ (by omega) (by omega)]
theorem limbDiv_eq (h l d : Int) (hh : 0 ≤ h ∧ h < d) (hl : 0 ≤ l ∧ l < (4294967296 : Int)) (hd : 0 < d ∧ d < (4294967296 : Int)) : m_limb_Div h l d = some ((h * (4294967296 : Int) + l) / d, (h * (4294967296 : Int) + l) % d, 0) := by
  unfold m_limb_Div
  rw [and_limb h hh.1 (by omega), and_limb l hl.1 hl.2, and_limb d (by omega) hd.2]
  rw [lt_eq, if_neg (by simp; omega), lt_eq, if_neg (by simp; omega), sh32 h hh.1 (by omega), bd_some, or_low h l hh.1 (by omega) hl.1 hl.2, lt_eq, qdU (by omega) hd.1 (by omega), bd_some, rm_of (by omega) hd.1, bd_some]
theorem natOf_eq (x : Int) (h0 : 0 ≤ x) (h1 : x < 18446744073709551616) : m_nat_Of x = some (nl x) := by
  unfold m_nat_Of
  rw [rm_of h0 (by decide), bd_some, sr32, bd_some, trimN_eq _ (by simp), bd_some]
  rw [trimz_nl (Dig.cons ⟨by omega, by omega⟩ (Dig.cons ⟨by omega, by omega⟩ (Dig.nil _))) (x := x) (by simp only [dv]; omega)]
theorem natAt_eq (a : List Int) (i : Nat) (hl : a.length ≤ 4611686018427387904) : m_nat_at a (i : Int) = some (gI a (i : Int)) := by
  unfold m_nat_at
  by_cases h : a.length ≤ i
  · rw [if_pos (by simp; omega)]
    have : gI a (i : Int) = 0 := by unfold gI; rw [List.getD_eq_getElem?_getD, List.getElem?_eq_none (by omega)]; rfl
    rw [this]
  · rw [if_neg (by simp; omega), rd_I (by omega) (by omega), bd_some]
theorem set_at {α : Type} (d : List α) (x y : α) (r : List α) : (d ++ x :: r).set d.length y = (d ++ [y]) ++ r := by simp
theorem made_eq (a : List Int) (hd : Dig (4294967296 : Int) a) (hl : a.length ≤ 10000000000000) : m_mul_made a = some (nl (dv (4294967296 : Int) a)) := by
  unfold m_mul_made
  rw [make_dig a hd hl, bd_some, trimz_nl hd rfl]
/-- adding -/
theorem addN_loop (a b : List Int) (ha : Dig (4294967296 : Int) a) (hb : Dig (4294967296 : Int) b) (m : Nat) (hm : m ≤ 1000000000000) (hla : a.length ≤ 1000000000000) (hlb : b.length ≤ 1000000000000) : ∀ (k i : Nat) (c : Int) (d : List Int), i + k = m → d.length = i → 0 ≤ c → c ≤ 1 → Dig (4294967296 : Int) d → dv (4294967296 : Int) d + (4294967296 : Int) ^ i * c = dv (4294967296 : Int) (a.take i) + dv (4294967296 : Int) (b.take i) →
    ∃ c' d', lp (m_nat_Add_l1 a b (m : Int)) (c, (i : Int), d ++ List.replicate (k + 1) 0) = some (c', d' ++ [0]) ∧ d'.length = m ∧ 0 ≤ c' ∧ c' ≤ 1 ∧ Dig (4294967296 : Int) d' ∧ dv (4294967296 : Int) d' + (4294967296 : Int) ^ m * c' = dv (4294967296 : Int) (a.take m) + dv (4294967296 : Int) (b.take m)
  | 0, i, c, d, hk, hi, h0, h1, hd, hv => by
    obtain rfl : i = m := by omega
    exact ⟨c, d, lp_done (by simp [m_nat_Add_l1]), hi, h0, h1, hd, hv⟩
  | k + 1, i, c, d, hk, hi, h0, h1, hd, hv => by
    have ga := gI_dig ha (by decide) (i : Int)
    have gb := gI_dig hb (by decide) (i : Int)
    generalize hx : gI a (i : Int) + gI b (i : Int) + c = x
    have a1 : decide ((i : Int) < (m : Int)) = true := decide_eq_true (by omega)
    have a5 : wi64 ((i : Int) + 1) = ((i + 1 : Nat) : Int) := by rw [wi64_eq (by omega) (by omega)]; omega
    have a6 : ix (d ++ List.replicate (k + 2) 0) (i : Int) = some i := ix_nat (by simp; omega)
    have a7 : (d ++ List.replicate (k + 2) 0).set i (x % (4294967296 : Int)) = (d ++ [x % (4294967296 : Int)]) ++ List.replicate (k + 1) 0 := by
      rw [show List.replicate (k + 2) (0 : Int) = 0 :: List.replicate (k + 1) 0 from rfl, ← hi, set_at]
    have a8 := limbAdd_eq (gI a (i : Int)) (gI b (i : Int)) c ga gb ⟨h0, by omega⟩
    rw [hx] at a8
    have e1 : m_nat_Add_l1 a b (m : Int) (c, (i : Int), d ++ List.replicate (k + 2) 0) = some (.inl (x / (4294967296 : Int), ((i + 1 : Nat) : Int), (d ++ [x % (4294967296 : Int)]) ++ List.replicate (k + 1) 0)) := by
      simp only [m_nat_Add_l1, a1, if_true, natAt_eq a i (by omega), natAt_eq b i (by omega), bd_some, a8, a6, lt_eq, a7, a5]
    obtain ⟨c', d', r1, r2⟩ := addN_loop a b ha hb m hm hla hlb k (i + 1) (x / (4294967296 : Int)) (d ++ [x % (4294967296 : Int)]) (by omega) (by simp [hi]) (by omega) (by omega) (Dig.snoc hd ⟨by omega, by omega⟩) (by
      rw [dv_snoc, take_gI' (4294967296 : Int) a i, take_gI' (4294967296 : Int) b i, hi, Int.pow_succ]
      have := Int.mul_ediv_add_emod x (4294967296 : Int)
      generalize (4294967296 : Int) ^ i = p at *
      generalize x / (4294967296 : Int) = q at *
      generalize x % (4294967296 : Int) = r at *
      generalize gI a (i : Int) = g1 at *
      generalize gI b (i : Int) = g2 at *
      subst hx
      generalize dv (4294967296 : Int) (List.take i a) = T at *
      generalize dv (4294967296 : Int) (List.take i b) = U at *
      have h3 : r = g1 + g2 + c - (4294967296 : Int) * q := by omega
      subst h3
      grind)
    exact ⟨c', d', by rw [lp_more e1]; exact r1, r2⟩
theorem addN_eq (x y : Int) (hx : 0 ≤ x) (hy : 0 ≤ y) (hlx : (nl x).length ≤ 100000000000) (hly : (nl y).length ≤ 100000000000) : m_nat_Add (nl x) (nl y) = some (nl (x + y)) := by
  obtain ⟨m, hm⟩ : ∃ m : Nat, m = max (nl x).length (nl y).length := ⟨_, rfl⟩
  have em : max ((nl x).length : Int) ((nl y).length : Int) = (m : Int) := by omega
  obtain ⟨c', d', h1, h2, h3, h4, h5, h6⟩ := addN_loop (nl x) (nl y) (nl_can x).1 (nl_can y).1 m (by omega) (by omega) (by omega) m 0 0 [] (by omega) rfl (Int.le_refl _) (by decide) (Dig.nil _) (by simp [dv])
  rw [List.take_of_length_le (show (nl x).length ≤ m by omega), List.take_of_length_le (show (nl y).length ≤ m by omega), nl_dv hx, nl_dv hy] at h6
  unfold m_nat_Add
  rw [em, lt_eq, wi64_eq (by omega) (by omega), mk_of (by omega), bd_some]
  rw [show ((m : Int) + 1).toNat = m + 1 by omega]
  rw [List.nil_append] at h1
  rw [show ((0 : Int), (0 : Int), List.replicate (m + 1) (0 : Int)) = ((0 : Int), ((0 : Nat) : Int), List.replicate (m + 1) (0 : Int)) from rfl, h1, bd_some]
  dsimp only
  rw [ix_nat (by simp [h2]), bd_some, lt_eq, ← h2, set_at, List.append_nil, trimN_eq _ (by simp; omega), bd_some]
  rw [trimz_nl (Dig.snoc h5 ⟨h3, by omega⟩) (x := x + y) (by rw [dv_snoc, h2, h6])]
end Go.Proofs.YtbmogniipgmkiaaGreat.AP
/- The program's numbers, as printed: divided by a limb, multiplied; with signs; fractions. -/
namespace Go.Proofs.YtbmogniipgmkiaaGreat.AP
open Go Go.Proofs.YtbmogniipgmkiaaGreat.Tri
set_option linter.unusedVariables false
set_option linter.unusedSimpArgs false
theorem smallD_loop (x d : Int) (hx : 0 ≤ x) (hd0 : 0 < d) (hd1 : d < (4294967296 : Int)) (hl : (nl x).length ≤ 1000000000000) : ∀ (n i : Nat) (r : Int) (q : List Int), i + n = (nl x).length → 0 ≤ r → r < d → q.length = i → Dig (4294967296 : Int) q → dv (4294967296 : Int) ((nl x).drop n) = dv (4294967296 : Int) q * d + r →
    ∃ q', lp (m_divide_Small_l1 (nl x) d) (r, (i : Int), List.replicate n 0 ++ q) = some (x % d, q') ∧ q'.length = (nl x).length ∧ Dig (4294967296 : Int) q' ∧ dv (4294967296 : Int) q' = x / d
  | 0, i, r, q, hn, h0, h1, hq, hd, hv => by
    rw [List.drop_zero, nl_dv hx] at hv
    have e := Int.ediv_emod_unique (a := x) (b := d) (r := r) (q := dv (4294967296 : Int) q) hd0
    obtain ⟨e1, e2⟩ := e.2 ⟨by rw [hv, Int.mul_comm d]; omega, h0, h1⟩
    obtain rfl : i = (nl x).length := by omega
    exact ⟨q, lp_done (by simp [m_divide_Small_l1, e2]), by omega, hd, e1.symm⟩
  | n + 1, i, r, q, hn, h0, h1, hq, hd, hv => by
    have g := gI_dig (nl_can x).1 (by decide) (n : Int)
    generalize hs : r * (4294967296 : Int) + gI (nl x) (n : Int) = s
    have hs0 : 0 ≤ s := by omega
    have hsy : s < (4294967296 : Int) * d := by omega
    have hqd : s / d < 4294967296 := Int.ediv_lt_of_lt_mul hd0 hsy
    have hqd0 : 0 ≤ s / d := Int.ediv_nonneg hs0 (by omega)
    have a1 : decide ((i : Int) < ((nl x).length : Int)) = true := decide_eq_true (by omega)
    have a0 : wi64 ((wi64 (((nl x).length : Int) - 1)) - (i : Int)) = (n : Int) := by rw [wi64_eq (x := ((nl x).length : Int) - 1) (by omega) (by omega), wi64_eq (by omega) (by omega)]; omega
    have a2 : rd (nl x) (n : Int) = some (gI (nl x) (n : Int)) := rd_I (by omega) (by omega)
    have a3 := limbDiv_eq r (gI (nl x) (n : Int)) d ⟨h0, h1⟩ g ⟨hd0, hd1⟩
    rw [hs] at a3
    have a6 : ix (List.replicate (n + 1) 0 ++ q) (n : Int) = some n := ix_nat (by simp; omega)
    have b1 : wi64 ((i : Int) + 1) = ((i + 1 : Nat) : Int) := by rw [wi64_eq (by omega) (by omega)]; omega
    have e : m_divide_Small_l1 (nl x) d (r, (i : Int), List.replicate (n + 1) 0 ++ q) = some (.inl (s % d, ((i + 1 : Nat) : Int), List.replicate n 0 ++ (s / d) :: q)) := by
      simp only [m_divide_Small_l1, a1, if_true, a0, a2, bd_some, a3, a6, lt_eq, set_down, b1]
    rw [lp_more e]
    exact smallD_loop x d hx hd0 hd1 hl n (i + 1) (s % d) (s / d :: q) (by omega) (Int.emod_nonneg _ (by omega)) (Int.emod_lt_of_pos _ hd0) (by simp; omega) (Dig.cons ⟨hqd0, hqd⟩ hd) (by
      rw [drop_gI (nl x) n (by omega), dv_cons, dv_cons, hv]
      have := Int.mul_ediv_add_emod s d
      generalize s / d = t at *
      generalize s % d = u at *
      generalize gI (nl x) (n : Int) = gg at *
      subst hs
      have h9 : u = r * (4294967296 : Int) + gg - d * t := by omega
      subst h9
      grind)
theorem smallD_eq (x d : Int) (hx : 0 ≤ x) (hd0 : 0 < d) (hd1 : d < (4294967296 : Int)) (hl : (nl x).length ≤ 1000000000000) : m_divide_Small (nl x) d = some (nl (x / d), x % d, 0) := by
  obtain ⟨q', h1, h2, h3, h4⟩ := smallD_loop x d hx hd0 hd1 hl (nl x).length 0 0 [] (by omega) (Int.le_refl _) hd0 rfl (Dig.nil _) (by rw [List.drop_length]; simp [dv])
  unfold m_divide_Small
  have e : d % (4294967296 : Int) = d := Int.emod_eq_of_lt (by omega) hd1
  rw [rm_of (by omega) (by decide), bd_some, e, if_neg (by simp; omega), mk_of (by omega), bd_some]
  rw [List.append_nil] at h1
  rw [show ((nl x).length : Int).toNat = (nl x).length by omega]
  rw [show ((0 : Int), (0 : Int), List.replicate (nl x).length (0 : Int)) = ((0 : Int), ((0 : Nat) : Int), List.replicate (nl x).length (0 : Int)) from rfl, h1, bd_some]
  dsimp only
  rw [make_dig q' h3 (by omega), bd_some, trimz_nl h3 h4]
theorem nl_one {d : Int} (h0 : 0 < d) (h1 : d < (4294967296 : Int)) : nl d = [d] := by
  unfold nl
  rw [num, dif_pos ⟨by decide, by omega⟩]
  have e1 : d.toNat % 4294967296 = d.toNat := Nat.mod_eq_of_lt (by omega)
  have e2 : d.toNat / 4294967296 = 0 := Nat.div_eq_of_lt (by omega)
  rw [e1, e2, num, dif_neg (by omega)]
  congr 1; omega
/-- divided by a limb -/
theorem div1_eq (x d : Int) (hx : 0 ≤ x) (hd0 : 0 < d) (hd1 : d < (4294967296 : Int)) (hl : (nl x).length ≤ 1000000000000) : m_divide_Div (nl x) (nl d) = some (nl (x / d), nl (x % d), 0) := by
  have hr : (nl d).length = 1 := by rw [nl_one hd0 hd1]; rfl
  have h0 := Int.emod_nonneg x (show d ≠ 0 by omega)
  have h1 := Int.emod_lt_of_pos x hd0
  unfold m_divide_Div
  rw [if_neg (by rw [hr]; decide), may_can _ (nl_can x) (by omega), bd_some, may_can _ (nl_can d) (by omega)]
  simp only [bd_some, Bool.not_true]
  rw [if_neg (by decide), bd_some, if_neg (by decide), cmpN_eq x d hx (by omega) (by omega), bd_some]
  by_cases hlt : x < d
  · have e1 : sg (x - d) = -1 := by unfold sg; rw [if_pos (by omega)]
    rw [e1, if_pos (by decide), make_nl x (by omega), bd_some, Int.ediv_eq_zero_of_lt hx hlt, Int.emod_eq_of_lt hx hlt, nl_zero]
  · have e1 : ¬ sg (x - d) < 0 := by unfold sg; split <;> (try split) <;> omega
    rw [if_neg (by simpa using e1), if_pos (by simp; omega)]
    have e2 : rd (nl d) 0 = some d := by rw [nl_one hd0 hd1]; rfl
    rw [e2, bd_some, smallD_eq x d hx hd0 hd1 hl, bd_some]
    dsimp only
    rw [natOf_eq _ h0 (by omega), bd_some]
theorem gcd1_eq (x y : Int) (hx : 0 ≤ x) (hy : 0 ≤ y) (hy1 : y < (4294967296 : Int)) (hl : (nl x).length ≤ 1000000000000) : m_gcd_Euclid (nl x) (nl y) = some (nl (Int.gcd x y)) := by
  have main : ∀ (n : Nat) (x y : Int), y.toNat ≤ n → 0 ≤ x → 0 ≤ y → y < (4294967296 : Int) → (nl x).length ≤ 1000000000000 → lp m_gcd_Euclid_l1 (nl x, nl y) = some (nl (Int.gcd x y)) := by
    intro n
    induction n with
    | zero =>
      intro x y hn hx hy hy1 hlx
      obtain rfl : y = 0 := by omega
      have hxx : ((Int.gcd x 0 : Nat) : Int) = x := by rw [Int.gcd_zero_right]; omega
      have e : m_gcd_Euclid_l1 (nl x, nl 0) = some (.inr (nl x)) := by simp [m_gcd_Euclid_l1, nl_zero]
      rw [lp_done e, hxx]
    | succ n ih =>
      intro x y hn hx hy hy1 hlx
      by_cases h0 : y = 0
      · exact ih x y (by omega) hx hy hy1 hlx
      · have hpos : 0 < y := by omega
        have hne : nl y ≠ [] := fun h => h0 ((nl_nil hy).1 h)
        have hlen : 0 < (nl y).length := List.length_pos_iff.2 hne
        have hy2 : (nl y).length ≤ 1 := nl_len hy (n := 1) (by rw [Int.pow_one]; exact hy1)
        have h2 := Int.emod_lt_of_pos x hpos
        have h3 := Int.emod_nonneg x (show y ≠ 0 by omega)
        have e : m_gcd_Euclid_l1 (nl x, nl y) = some (.inl (nl y, nl (x % y))) := by
          simp only [m_gcd_Euclid_l1, m_divide_Mod, decide_eq_true (show (0 : Int) < ((nl y).length : Int) by omega), if_true, div1_eq x y hx hpos hy1 hlx, bd_some]
        rw [lp_more e, ih y (x % y) (by omega) hy h3 (by omega) (by omega), gcd_mod x y hx]
  have hy2 : (nl y).length ≤ 1 := nl_len hy (n := 1) (by rw [Int.pow_one]; exact hy1)
  unfold m_gcd_Euclid
  rw [make_nl x (by omega), bd_some, make_nl y (by omega), bd_some]
  dsimp only
  rw [main y.toNat x y (Nat.le_refl _) hx hy hy1 hl, bd_some]
theorem coprime1_eq (x y : Int) (hx : 0 ≤ x) (hy : 0 ≤ y) (hy1 : y < (4294967296 : Int)) (hx1 : x < (4294967296 : Int)) : m_gcd_Coprime (nl x) (nl y) = some (decide (Int.gcd x y = 1)) := by
  have hl : (nl x).length ≤ 1 := nl_len hx (n := 1) (by rw [Int.pow_one]; exact hx1)
  have hg : (nl (Int.gcd x y)).length ≤ 10 := by
    by_cases h0 : x = 0
    · subst h0; rw [Int.gcd_zero_left]
      have := nl_len hy (n := 1) (by rw [Int.pow_one]; exact hy1)
      have e : ((y.natAbs : Nat) : Int) = y := by omega
      rw [e]; omega
    · have hle : (Int.gcd x y : Int) ≤ x := Int.le_of_dvd (by omega) (Int.gcd_dvd_left x y)
      have := nl_mono (x := (Int.gcd x y : Int)) (y := x) (by omega) hle
      omega
  unfold m_gcd_Coprime
  rw [gcd1_eq x y hx hy hy1 (by omega), bd_some, natOf_eq 1 (by decide) (by decide), bd_some, cmpN_eq _ _ (by omega) (by decide) (by omega), bd_some]
  congr 1
  rw [decide_eq_decide]
  unfold sg; split <;> (try split) <;> omega
/-! multiplied the long way -/
theorem dv_set (B : Int) : ∀ (l : List Int) (k : Nat) (v : Int), k < l.length → dv B (l.set k v) = dv B l + B ^ k * (v - gI l (k : Int))
  | [], k, v, h => by simp at h
  | x :: l, 0, v, h => by simp [dv, gI]; omega
  | x :: l, k + 1, v, h => by
    have := dv_set B l k v (by simpa using h)
    have e : gI (x :: l) ((k + 1 : Nat) : Int) = gI l (k : Int) := by simp [gI]
    rw [List.set_cons_succ, dv_cons, dv_cons, this, e, Int.pow_succ]
    grind
theorem gI_set_ne {l : List Int} {k j : Nat} {v : Int} (h : k ≠ j) : gI (l.set k v) (j : Int) = gI l (j : Int) := by
  simp [gI, List.getElem?_set, h]
theorem long2_loop (b : List Int) (x : Int) (i : Nat) (hb : Dig (4294967296 : Int) b) (hx : 0 ≤ x ∧ x < (4294967296 : Int)) (hlb : b.length ≤ 1000000000000) (hi : i ≤ 1000000000000) : ∀ (k j : Nat) (c : Int) (p : List Int), j + k = b.length → 0 ≤ c → c < (4294967296 : Int) → Dig (4294967296 : Int) p → i + b.length < p.length → (∀ m, i + b.length ≤ m → gI p (m : Int) = 0) → ∀ V, dv (4294967296 : Int) p + (4294967296 : Int) ^ (i + j) * c = V + (4294967296 : Int) ^ i * (x * dv (4294967296 : Int) (b.take j)) →
    ∃ c' p', lp (m_mul_Long_l2 b (i : Int) x) (c, (j : Int), p) = some (c', p') ∧ 0 ≤ c' ∧ c' < (4294967296 : Int) ∧ Dig (4294967296 : Int) p' ∧ p'.length = p.length ∧ (∀ m, i + b.length ≤ m → gI p' (m : Int) = 0) ∧ dv (4294967296 : Int) p' + (4294967296 : Int) ^ (i + b.length) * c' = V + (4294967296 : Int) ^ i * (x * dv (4294967296 : Int) b)
  | 0, j, c, p, hk, h0, h1, hp, hlen, hz, V, hv => by
    obtain rfl : j = b.length := by omega
    exact ⟨c, p, lp_done (by simp [m_mul_Long_l2]), h0, h1, hp, rfl, hz, by rw [hv, List.take_length]⟩
  | k + 1, j, c, p, hk, h0, h1, hp, hlen, hz, V, hv => by
    have gb := gI_dig hb (by decide) (j : Int)
    have gp := gI_dig hp (by decide) ((i + j : Nat) : Int)
    obtain ⟨hs0, hs1⟩ := mul_bound hx gb gp ⟨h0, h1⟩
    generalize hs : x * gI b (j : Int) + gI p ((i + j : Nat) : Int) + c = s at hs1
    have hs2 : 0 ≤ s := by omega
    have a1 : decide ((j : Int) < (b.length : Int)) = true := decide_eq_true (by omega)
    have a2 : rd b (j : Int) = some (gI b (j : Int)) := rd_I (by omega) (by omega)
    have a3 : wi64 ((i : Int) + (j : Int)) = ((i + j : Nat) : Int) := by rw [wi64_eq (by omega) (by omega)]; omega
    have a4 : rd p ((i + j : Nat) : Int) = some (gI p ((i + j : Nat) : Int)) := rd_I (by omega) (by omega)
    have a5 := limbMul_eq x (gI b (j : Int)) (gI p ((i + j : Nat) : Int)) c hx gb gp ⟨h0, h1⟩
    rw [hs] at a5
    have a6 : ix p ((i + j : Nat) : Int) = some (i + j) := ix_nat (by omega)
    have a7 : wi64 ((j : Int) + 1) = ((j + 1 : Nat) : Int) := by rw [wi64_eq (by omega) (by omega)]; omega
    have e1 : m_mul_Long_l2 b (i : Int) x (c, (j : Int), p) = some (.inl (s / (4294967296 : Int), ((j + 1 : Nat) : Int), p.set (i + j) (s % (4294967296 : Int)))) := by
      simp only [m_mul_Long_l2, a1, if_true, a2, bd_some, a3, a4, a5, a6, lt_eq, a7]
    have hsq : s / (4294967296 : Int) < (4294967296 : Int) := Int.ediv_lt_of_lt_mul (by decide) hs1
    obtain ⟨c', p', r1, r2, r3, r4, r5, r6, r7⟩ := long2_loop b x i hb hx hlb hi k (j + 1) (s / (4294967296 : Int)) (p.set (i + j) (s % (4294967296 : Int))) (by omega) (by omega) hsq (hp.set _ ⟨by omega, by omega⟩) (by simpa using hlen)
      (fun m hm => by rw [gI_set_ne (by omega)]; exact hz m hm) V (by
      rw [dv_set (4294967296 : Int) p (i + j) _ (by omega), take_gI (4294967296 : Int) b j (by omega), ← Nat.add_assoc, Int.pow_succ]
      have := Int.mul_ediv_add_emod s (4294967296 : Int)
      have hpw : (4294967296 : Int) ^ (i + j) = (4294967296 : Int) ^ i * (4294967296 : Int) ^ j := Int.pow_add _ _ _
      rw [hpw] at hv ⊢
      generalize (4294967296 : Int) ^ i = P at *
      generalize (4294967296 : Int) ^ j = Q at *
      generalize s / (4294967296 : Int) = q at *
      generalize s % (4294967296 : Int) = r at *
      generalize gI b (j : Int) = g1 at *
      generalize gI p ((i + j : Nat) : Int) = g2 at *
      generalize dv (4294967296 : Int) (List.take j b) = T at *
      generalize dv (4294967296 : Int) p = D at *
      have h3 : r = x * g1 + g2 + c - (4294967296 : Int) * q := by omega
      subst h3
      grind)
    exact ⟨c', p', by rw [lp_more e1]; exact r1, r2, r3, r4, by simpa using r5, r6, r7⟩
theorem long1_loop (a b : List Int) (ha : Dig (4294967296 : Int) a) (hb : Dig (4294967296 : Int) b) (hla : a.length ≤ 1000000000000) (hlb : b.length ≤ 1000000000000) : ∀ (k i : Nat) (p : List Int), i + k = a.length → Dig (4294967296 : Int) p → p.length = a.length + b.length → (∀ m, i + b.length ≤ m → gI p (m : Int) = 0) → dv (4294967296 : Int) p = dv (4294967296 : Int) (a.take i) * dv (4294967296 : Int) b →
    ∃ p', lp (m_mul_Long_l1 a b) ((i : Int), p) = some p' ∧ Dig (4294967296 : Int) p' ∧ p'.length = a.length + b.length ∧ dv (4294967296 : Int) p' = dv (4294967296 : Int) a * dv (4294967296 : Int) b
  | 0, i, p, hk, hp, hlen, hz, hv => by
    obtain rfl : i = a.length := by omega
    exact ⟨p, lp_done (by simp [m_mul_Long_l1]), hp, hlen, by rw [hv, List.take_length]⟩
  | k + 1, i, p, hk, hp, hlen, hz, hv => by
    have ga := gI_dig ha (by decide) (i : Int)
    obtain ⟨c', p', r1, r2, r3, r4, r5, r6, r7⟩ := long2_loop b (gI a (i : Int)) i hb ga hlb (by omega) b.length 0 0 p (by omega) (Int.le_refl _) (by decide) hp (by omega) hz (dv (4294967296 : Int) p) (by simp [dv])
    have a1 : decide ((i : Int) < (a.length : Int)) = true := decide_eq_true (by omega)
    have a2 : rd a (i : Int) = some (gI a (i : Int)) := rd_I (by omega) (by omega)
    have a3 : wi64 ((i : Int) + (b.length : Int)) = ((i + b.length : Nat) : Int) := by rw [wi64_eq (by omega) (by omega)]; omega
    have a4 : ix p' ((i + b.length : Nat) : Int) = some (i + b.length) := ix_nat (by omega)
    have a7 : wi64 ((i : Int) + 1) = ((i + 1 : Nat) : Int) := by rw [wi64_eq (by omega) (by omega)]; omega
    have r1' : lp (m_mul_Long_l2 b (i : Int) (gI a (i : Int))) (0, 0, p) = some (c', p') := r1
    have e1 : m_mul_Long_l1 a b ((i : Int), p) = some (.inl (((i + 1 : Nat) : Int), p'.set (i + b.length) c')) := by
      simp only [m_mul_Long_l1, a1, if_true, a2, bd_some, r1', a3, a4, lt_eq, a7]
    obtain ⟨q, q1, q2⟩ := long1_loop a b ha hb hla hlb k (i + 1) (p'.set (i + b.length) c') (by omega) (r4.set _ ⟨r2, r3⟩) (by simp; omega)
      (fun m hm => by rw [gI_set_ne (by omega)]; exact r6 m (by omega)) (by
      rw [dv_set (4294967296 : Int) p' _ _ (by omega), r6 _ (Nat.le_refl _), take_gI (4294967296 : Int) a i (by omega)]
      rw [hv] at r7
      generalize (4294967296 : Int) ^ (i + b.length) = P at *
      generalize (4294967296 : Int) ^ i = Q at *
      generalize gI a (i : Int) = g1 at *
      generalize dv (4294967296 : Int) (List.take i a) = T at *
      generalize dv (4294967296 : Int) b = U at *
      generalize dv (4294967296 : Int) p' = D at *
      grind)
    exact ⟨q, by rw [lp_more e1]; exact q1, q2⟩
theorem gI_rep (n : Nat) (m : Int) : gI (List.replicate n 0) m = 0 := by
  unfold gI; rw [List.getD_eq_getElem?_getD, List.getElem?_replicate]; split <;> rfl
theorem long_eq (x y : Int) (hx : 0 ≤ x) (hy : 0 ≤ y) (hlx : (nl x).length ≤ 1000000000000) (hly : (nl y).length ≤ 1000000000000) : m_mul_Long (nl x) (nl y) = some (nl (x * y)) := by
  obtain ⟨p', h1, h2, h3, h4⟩ := long1_loop (nl x) (nl y) (nl_can x).1 (nl_can y).1 hlx hly (nl x).length 0 (List.replicate ((nl x).length + (nl y).length) 0) (by omega) (Dig.replicate (by decide) _) (by simp) (fun m _ => gI_rep _ _) (by rw [dv_replicate]; simp [dv])
  unfold m_mul_Long
  have e : wi64 (((nl x).length : Int) + ((nl y).length : Int)) = (((nl x).length + (nl y).length : Nat) : Int) := by rw [wi64_eq (by omega) (by omega)]; omega
  rw [e, mk_of (by omega), bd_some, show ((((nl x).length + (nl y).length : Nat) : Int)).toNat = (nl x).length + (nl y).length by omega]
  rw [show ((0 : Int), List.replicate ((nl x).length + (nl y).length) (0 : Int)) = (((0 : Nat) : Int), List.replicate ((nl x).length + (nl y).length) (0 : Int)) from rfl, h1, bd_some, made_eq p' h2 (by omega), bd_some, h4, nl_dv hx, nl_dv hy]
theorem mul3_eq (x y : Int) (hx : 0 ≤ x) (hy : 0 ≤ y) (hlx : (nl x).length < 4) (hly : (nl y).length ≤ 1000000000000) : m_mul_Mul (nl x) (nl y) = some (nl (x * y)) := by
  unfold m_mul_Mul m_mul_Short
  show bd (m_mul_Short_b (m_mul_Short_r 999999) (nl x) (nl y)) _ = _
  unfold m_mul_Short_b
  rw [if_pos (by simp; omega), long_eq x y hx hy (by omega) hly, bd_some, bd_some]
end Go.Proofs.YtbmogniipgmkiaaGreat.AP
/- The document's numbers and fractions, as printed: added, multiplied. -/
namespace Go.Proofs.YtbmogniipgmkiaaGreat.AP
open Go Go.Proofs.YtbmogniipgmkiaaGreat.Tri
set_option linter.unusedVariables false
set_option linter.unusedSimpArgs false
theorem gI_out {a : List Int} {i : Nat} (h : a.length ≤ i) : gI a (i : Int) = 0 := by unfold gI; rw [List.getD_eq_getElem?_getD, List.getElem?_eq_none (by omega)]; rfl
theorem plus_at (a : List Int) (ha : Dig (10000 : Int) a) (i : Nat) (c : Int) (h0 : 0 ≤ c) (h1 : c ≤ 20000) (hl : a.length ≤ 1000000000000) :
    (if decide ((i : Int) < (a.length : Int)) = true then (bd (rd a (i : Int)) fun x => some (wi64 (c + x))) else some c) = some (c + gI a (i : Int)) := by
  have g := gI_dig ha (by decide) (i : Int)
  by_cases h : i < a.length
  · rw [if_pos (decide_eq_true (by omega)), rd_I (by omega) (by omega), bd_some, wi64_eq (by omega) (by omega)]
  · rw [if_neg (by simp; omega), gI_out (by omega), Int.add_zero]
theorem refAdd_loop (a b : List Int) (ha : Dig (10000 : Int) a) (hb : Dig (10000 : Int) b) (m : Nat) (hm : max (a.length : Int) (b.length : Int) = (m : Int)) (hla : a.length ≤ 100000000000) (hlb : b.length ≤ 100000000000) : ∀ (k i : Nat) (c : Int) (d : List Int), i + k = m → d.length = i → 0 ≤ c → c ≤ 1 → Dig (10000 : Int) d → dv (10000 : Int) d + (10000 : Int) ^ i * c = dv (10000 : Int) (a.take i) + dv (10000 : Int) (b.take i) →
    ∃ c' d', lp (m_triviumref02_Add_l1 a b) (c, (i : Int), d) = some (c', d') ∧ d'.length = m ∧ 0 ≤ c' ∧ c' ≤ 1 ∧ Dig (10000 : Int) d' ∧ dv (10000 : Int) d' + (10000 : Int) ^ m * c' = dv (10000 : Int) (a.take m) + dv (10000 : Int) (b.take m)
  | 0, i, c, d, hk, hi, h0, h1, hd, hv => by
    obtain rfl : i = m := by omega
    refine ⟨c, d, lp_done ?_, hi, h0, h1, hd, hv⟩
    simp only [m_triviumref02_Add_l1, hm]
    simp
  | k + 1, i, c, d, hk, hi, h0, h1, hd, hv => by
    have ga := gI_dig ha (by decide) (i : Int)
    have gb := gI_dig hb (by decide) (i : Int)
    generalize hx : c + gI a (i : Int) + gI b (i : Int) = x
    have a1 : decide ((i : Int) < (m : Int)) = true := decide_eq_true (by omega)
    have a2 := plus_at a ha i c h0 (by omega) (by omega)
    have a3 := plus_at b hb i (c + gI a (i : Int)) (by omega) (by omega) (by omega)
    rw [hx] at a3
    have a5 : wi64 ((i : Int) + 1) = ((i + 1 : Nat) : Int) := by rw [wi64_eq (by omega) (by omega)]; omega
    have e1 : m_triviumref02_Add_l1 a b (c, (i : Int), d) = some (.inl (x / (10000 : Int), ((i + 1 : Nat) : Int), d ++ [x % (10000 : Int)])) := by
      simp only [m_triviumref02_Add_l1, hm, a1, if_true, a2, a3, bd_some, rm_of (show 0 ≤ x by omega) (show (0 : Int) < 10000 by decide), ap_of (l := d) (m := [x % 10000]) (b := 8) (by simp; omega), qd64 (show 0 ≤ x by omega) (show (0 : Int) < 10000 by decide) (by omega), a5]
    obtain ⟨c', d', r1, r2⟩ := refAdd_loop a b ha hb m hm hla hlb k (i + 1) (x / (10000 : Int)) (d ++ [x % (10000 : Int)]) (by omega) (by simp [hi]) (by omega) (by omega) (Dig.snoc hd ⟨by omega, by omega⟩) (by
      rw [dv_snoc, take_gI' (10000 : Int) a i, take_gI' (10000 : Int) b i, hi, Int.pow_succ]
      have := Int.mul_ediv_add_emod x (10000 : Int)
      generalize (10000 : Int) ^ i = p at *
      generalize x / (10000 : Int) = q at *
      generalize x % (10000 : Int) = r at *
      generalize gI a (i : Int) = g1 at *
      generalize gI b (i : Int) = g2 at *
      subst hx
      generalize dv (10000 : Int) (List.take i a) = T at *
      generalize dv (10000 : Int) (List.take i b) = U at *
      have h3 : r = c + g1 + g2 - (10000 : Int) * q := by omega
      subst h3
      grind)
    exact ⟨c', d', by rw [lp_more e1]; exact r1, r2⟩
theorem refAdd_eq (x y : Int) (hx : 0 ≤ x) (hy : 0 ≤ y) (hlx : (zl x).length ≤ 100000000000) (hly : (zl y).length ≤ 100000000000) : m_triviumref02_Add (zl x) (zl y) = some (zl (x + y)) := by
  obtain ⟨m, hm⟩ : ∃ m : Nat, m = max (zl x).length (zl y).length := ⟨_, rfl⟩
  have em : max ((zl x).length : Int) ((zl y).length : Int) = (m : Int) := by omega
  obtain ⟨c', d', h1, h2, h3, h4, h5, h6⟩ := refAdd_loop (zl x) (zl y) (zl_can x).1 (zl_can y).1 m em hlx hly m 0 0 [] (by omega) rfl (Int.le_refl _) (by decide) (Dig.nil _) (by simp [dv])
  rw [List.take_of_length_le (show (zl x).length ≤ m by omega), List.take_of_length_le (show (zl y).length ≤ m by omega), zl_dv hx, zl_dv hy] at h6
  unfold m_triviumref02_Add
  rw [show ((0 : Int), (0 : Int), ([] : List Int)) = ((0 : Int), ((0 : Nat) : Int), ([] : List Int)) from rfl, h1, bd_some]
  dsimp only
  rw [ap_of (by simp; omega), bd_some, refTrim_eq _ (by simp; omega), bd_some, trimz_zl (Dig.snoc h5 ⟨h3, by omega⟩) (x := x + y) (by rw [dv_snoc, h2, h6])]
theorem refMul2_loop (a b : List Int) (i : Nat) (ha : Dig (10000 : Int) a) (hb : Dig (10000 : Int) b) (hia : i < a.length) (hla : a.length ≤ 100000000000) (hlb : b.length ≤ 100000000000) : ∀ (k j : Nat) (c : Int) (p : List Int), j + k = b.length → 0 ≤ c → c < (10000 : Int) → Dig (10000 : Int) p → i + b.length < p.length → (∀ m, i + b.length ≤ m → gI p (m : Int) = 0) → ∀ V, dv (10000 : Int) p + (10000 : Int) ^ (i + j) * c = V + (10000 : Int) ^ i * (gI a (i : Int) * dv (10000 : Int) (b.take j)) →
    ∃ c' p', lp (m_triviumref02_Mul_l2 a b (i : Int)) (c, (j : Int), p) = some (c', p') ∧ 0 ≤ c' ∧ c' < (10000 : Int) ∧ Dig (10000 : Int) p' ∧ p'.length = p.length ∧ (∀ m, i + b.length ≤ m → gI p' (m : Int) = 0) ∧ dv (10000 : Int) p' + (10000 : Int) ^ (i + b.length) * c' = V + (10000 : Int) ^ i * (gI a (i : Int) * dv (10000 : Int) b)
  | 0, j, c, p, hk, h0, h1, hp, hlen, hz, V, hv => by
    obtain rfl : j = b.length := by omega
    exact ⟨c, p, lp_done (by simp [m_triviumref02_Mul_l2]), h0, h1, hp, rfl, hz, by rw [hv, List.take_length]⟩
  | k + 1, j, c, p, hk, h0, h1, hp, hlen, hz, V, hv => by
    have ga := gI_dig ha (by decide) (i : Int)
    have gb := gI_dig hb (by decide) (j : Int)
    have gp := gI_dig hp (by decide) ((i + j : Nat) : Int)
    have hm0 : 0 ≤ gI a (i : Int) * gI b (j : Int) := Int.mul_nonneg ga.1 gb.1
    have hm1 : gI a (i : Int) * gI b (j : Int) ≤ 9999 * 9999 := Int.mul_le_mul (by omega) (by omega) gb.1 (by decide)
    generalize hs : c + gI p ((i + j : Nat) : Int) + gI a (i : Int) * gI b (j : Int) = s
    have hs2 : 0 ≤ s := by omega
    have a1 : decide ((j : Int) < (b.length : Int)) = true := decide_eq_true (by omega)
    have a2 : rd b (j : Int) = some (gI b (j : Int)) := rd_I (by omega) (by omega)
    have a2' : rd a (i : Int) = some (gI a (i : Int)) := rd_I (by omega) (by omega)
    have a3 : wi64 ((i : Int) + (j : Int)) = ((i + j : Nat) : Int) := by rw [wi64_eq (by omega) (by omega)]; omega
    have a4 : rd p ((i + j : Nat) : Int) = some (gI p ((i + j : Nat) : Int)) := rd_I (by omega) (by omega)
    have a5 : wi64 ((wi64 (c + gI p ((i + j : Nat) : Int))) + (wi64 (gI a (i : Int) * gI b (j : Int)))) = s := by
      rw [wi64_eq (x := c + gI p ((i + j : Nat) : Int)) (by omega) (by omega), wi64_eq (x := gI a (i : Int) * gI b (j : Int)) (by omega) (by omega), hs, wi64_eq (by omega) (by omega)]
    have a6 : ix p ((i + j : Nat) : Int) = some (i + j) := ix_nat (by omega)
    have a7 : wi64 ((j : Int) + 1) = ((j + 1 : Nat) : Int) := by rw [wi64_eq (by omega) (by omega)]; omega
    have e1 : m_triviumref02_Mul_l2 a b (i : Int) (c, (j : Int), p) = some (.inl (s / (10000 : Int), ((j + 1 : Nat) : Int), p.set (i + j) (s % (10000 : Int)))) := by
      simp only [m_triviumref02_Mul_l2, a1, if_true, a2, a2', bd_some, a3, a4, a5, a6, lt_eq, rm_of hs2 (show (0 : Int) < 10000 by decide), qd64 hs2 (show (0 : Int) < 10000 by decide) (by omega), a7]
    obtain ⟨c', p', r1, r2, r3, r4, r5, r6, r7⟩ := refMul2_loop a b i ha hb hia hla hlb k (j + 1) (s / (10000 : Int)) (p.set (i + j) (s % (10000 : Int))) (by omega) (by omega) (by omega) (hp.set _ ⟨by omega, by omega⟩) (by simpa using hlen)
      (fun m hm => by rw [gI_set_ne (by omega)]; exact hz m hm) V (by
      rw [dv_set (10000 : Int) p (i + j) _ (by omega), take_gI (10000 : Int) b j (by omega), ← Nat.add_assoc, Int.pow_succ]
      have := Int.mul_ediv_add_emod s (10000 : Int)
      have hpw : (10000 : Int) ^ (i + j) = (10000 : Int) ^ i * (10000 : Int) ^ j := Int.pow_add _ _ _
      rw [hpw] at hv ⊢
      generalize (10000 : Int) ^ i = P at *
      generalize (10000 : Int) ^ j = Q at *
      generalize s / (10000 : Int) = q at *
      generalize s % (10000 : Int) = r at *
      generalize gI a (i : Int) = x at *
      generalize gI b (j : Int) = g1 at *
      generalize gI p ((i + j : Nat) : Int) = g2 at *
      generalize dv (10000 : Int) (List.take j b) = T at *
      generalize dv (10000 : Int) p = D at *
      have h3 : r = c + g2 + x * g1 - (10000 : Int) * q := by omega
      subst h3
      grind)
    exact ⟨c', p', by rw [lp_more e1]; exact r1, r2, r3, r4, by simpa using r5, r6, r7⟩
theorem refMul1_loop (a b : List Int) (ha : Dig (10000 : Int) a) (hb : Dig (10000 : Int) b) (hla : a.length ≤ 100000000000) (hlb : b.length ≤ 100000000000) : ∀ (k i : Nat) (p : List Int), i + k = a.length → Dig (10000 : Int) p → p.length = a.length + b.length + 1 → (∀ m, i + b.length ≤ m → gI p (m : Int) = 0) → dv (10000 : Int) p = dv (10000 : Int) (a.take i) * dv (10000 : Int) b →
    ∃ p', lp (m_triviumref02_Mul_l1 a b) ((i : Int), p) = some p' ∧ Dig (10000 : Int) p' ∧ p'.length = a.length + b.length + 1 ∧ dv (10000 : Int) p' = dv (10000 : Int) a * dv (10000 : Int) b
  | 0, i, p, hk, hp, hlen, hz, hv => by
    obtain rfl : i = a.length := by omega
    exact ⟨p, lp_done (by simp [m_triviumref02_Mul_l1]), hp, hlen, by rw [hv, List.take_length]⟩
  | k + 1, i, p, hk, hp, hlen, hz, hv => by
    have ga := gI_dig ha (by decide) (i : Int)
    obtain ⟨c', p', r1, r2, r3, r4, r5, r6, r7⟩ := refMul2_loop a b i ha hb (by omega) hla hlb b.length 0 0 p (by omega) (Int.le_refl _) (by decide) hp (by omega) hz (dv (10000 : Int) p) (by simp [dv])
    have a1 : decide ((i : Int) < (a.length : Int)) = true := decide_eq_true (by omega)
    have a3 : wi64 ((i : Int) + (b.length : Int)) = ((i + b.length : Nat) : Int) := by rw [wi64_eq (by omega) (by omega)]; omega
    have a7 : wi64 ((i : Int) + 1) = ((i + 1 : Nat) : Int) := by rw [wi64_eq (by omega) (by omega)]; omega
    have r1' : lp (m_triviumref02_Mul_l2 a b (i : Int)) (0, 0, p) = some (c', p') := r1
    have hgz := r6 (i + b.length) (Nat.le_refl _)
    have l3 : ∃ p2, lp m_triviumref02_Mul_l3 (c', ((i + b.length : Nat) : Int), p') = some p2 ∧ Dig (10000 : Int) p2 ∧ p2.length = p'.length ∧ (∀ m, i + 1 + b.length ≤ m → gI p2 (m : Int) = 0) ∧ dv (10000 : Int) p2 = dv (10000 : Int) p' + (10000 : Int) ^ (i + b.length) * c' := by
      by_cases hc : 0 < c'
      · have b1 : rd p' ((i + b.length : Nat) : Int) = some 0 := by rw [rd_I (by omega) (by omega), hgz]
        have b2 : wi64 (c' + 0) = c' := by rw [Int.add_zero]; exact wi64_eq (by omega) (by omega)
        have b3 : c' % 10000 = c' := Int.emod_eq_of_lt r2 r3
        have b4 : c' / 10000 = 0 := Int.ediv_eq_zero_of_lt r2 r3
        have b5 : ix p' ((i + b.length : Nat) : Int) = some (i + b.length) := ix_nat (by omega)
        have e : m_triviumref02_Mul_l3 (c', ((i + b.length : Nat) : Int), p') = some (.inl (0, wi64 (((i + b.length : Nat) : Int) + 1), p'.set (i + b.length) c')) := by
          simp only [m_triviumref02_Mul_l3, decide_eq_true hc, if_true, b1, bd_some, b2, rm_of r2 (show (0 : Int) < 10000 by decide), b3, b5, lt_eq, qd64 r2 (show (0 : Int) < 10000 by decide) (by omega), b4]
        refine ⟨p'.set (i + b.length) c', ?_, r4.set _ ⟨r2, r3⟩, by simp, fun m hm => by rw [gI_set_ne (by omega)]; exact r6 m (by omega), ?_⟩
        · rw [lp_more e]
          exact lp_done (by simp [m_triviumref02_Mul_l3])
        · rw [dv_set (10000 : Int) p' _ _ (by omega), hgz, Int.sub_zero]
      · obtain rfl : c' = 0 := by omega
        exact ⟨p', lp_done (by simp [m_triviumref02_Mul_l3]), r4, rfl, fun m hm => r6 m (by omega), by simp⟩
    obtain ⟨p2, s1, s2, s3, s4, s5⟩ := l3
    have e1 : m_triviumref02_Mul_l1 a b ((i : Int), p) = some (.inl (((i + 1 : Nat) : Int), p2)) := by
      simp only [m_triviumref02_Mul_l1, a1, if_true, bd_some, r1', a3, s1, a7]
    obtain ⟨q, q1, q2⟩ := refMul1_loop a b ha hb hla hlb k (i + 1) p2 (by omega) s2 (by omega) s4 (by
      rw [s5, r7, hv, take_gI (10000 : Int) a i (by omega)]
      grind)
    exact ⟨q, by rw [lp_more e1]; exact q1, q2⟩
theorem refMul_eq (x y : Int) (hx : 0 ≤ x) (hy : 0 ≤ y) (hlx : (zl x).length ≤ 100000000000) (hly : (zl y).length ≤ 100000000000) : m_triviumref02_Mul (zl x) (zl y) = some (zl (x * y)) := by
  obtain ⟨p', h1, h2, h3, h4⟩ := refMul1_loop (zl x) (zl y) (zl_can x).1 (zl_can y).1 hlx hly (zl x).length 0 (List.replicate ((zl x).length + (zl y).length + 1) 0) (by omega) (Dig.replicate (by decide) _) (by simp) (fun m _ => gI_rep _ _) (by rw [dv_replicate]; simp [dv])
  unfold m_triviumref02_Mul
  have e : wi64 ((wi64 (((zl x).length : Int) + ((zl y).length : Int))) + 1) = (((zl x).length + (zl y).length + 1 : Nat) : Int) := by rw [wi64_eq (x := ((zl x).length : Int) + ((zl y).length : Int)) (by omega) (by omega), wi64_eq (by omega) (by omega)]; omega
  rw [e, mk_of (by omega), bd_some, show ((((zl x).length + (zl y).length + 1 : Nat) : Int)).toNat = (zl x).length + (zl y).length + 1 by omega]
  rw [show ((0 : Int), List.replicate ((zl x).length + (zl y).length + 1) (0 : Int)) = (((0 : Nat) : Int), List.replicate ((zl x).length + (zl y).length + 1) (0 : Int)) from rfl, h1, bd_some, refTrim_eq p' (by omega), bd_some, trimz_zl h2 (by rw [h4, zl_dv hx, zl_dv hy])]
theorem refNum_eq (n : Int) (h0 : 0 ≤ n) (h1 : n ≤ 4294967296) : m_triviumref02_Num n = some (zl n) := by
  unfold m_triviumref02_Num
  have := mulAdd_dig [] 1 n (Dig.nil _) (by decide) (by decide) h0 h1 (by simp)
  rw [this, bd_some]; simp [dv]
end Go.Proofs.YtbmogniipgmkiaaGreat.AP
/- The document's fractions, as printed. -/
namespace Go.Proofs.YtbmogniipgmkiaaGreat.AP
open Go Go.Proofs.YtbmogniipgmkiaaGreat.Tri
set_option linter.unusedVariables false
set_option linter.unusedSimpArgs false
/-- of at most n digits -/
def Sm (n : Nat) (x : Int) : Prop := (x.natAbs : Int) < (10000 : Int) ^ n
theorem Sm.len {n : Nat} {x : Int} (h : Sm n x) : (zl (x.natAbs : Int)).length ≤ n := zl_len (by omega) h
theorem Sm.len' {n : Nat} {x : Int} (h : Sm n x) (h0 : 0 ≤ x) : (zl x).length ≤ n := by
  have := h.len; rwa [show ((x.natAbs : Nat) : Int) = x by omega] at this
theorem Sm.mono {n m : Nat} {x : Int} (h : Sm n x) (k : n ≤ m) : Sm m x := Int.lt_of_lt_of_le h (pow_mono (by decide) k)
theorem Sm.neg {n : Nat} {x : Int} (h : Sm n x) : Sm n (-x) := by unfold Sm; rw [Int.natAbs_neg]; exact h
theorem Sm.mul {n m : Nat} {x y : Int} (h : Sm n x) (k : Sm m y) : Sm (n + m) (x * y) := by
  unfold Sm at *
  rw [Int.natAbs_mul, Int.natCast_mul, Int.pow_add]
  have h1 : (x.natAbs : Int) * (y.natAbs : Int) ≤ (x.natAbs : Int) * (10000 : Int) ^ m := Int.mul_le_mul_of_nonneg_left (Int.le_of_lt k) (by omega)
  have h2 : (x.natAbs : Int) * (10000 : Int) ^ m < (10000 : Int) ^ n * (10000 : Int) ^ m := Int.mul_lt_mul_of_pos_right h (pow_pos' (by decide) m)
  omega
theorem Sm.add {n : Nat} {x y : Int} (h : Sm n x) (k : Sm n y) : Sm (n + 1) (x + y) := by
  unfold Sm at *
  have : (x + y).natAbs ≤ x.natAbs + y.natAbs := Int.natAbs_add_le x y
  rw [Int.pow_succ]
  have := pow_pos' (B := (10000 : Int)) (by decide) n
  omega
theorem Sm.limb {x : Int} {n : Nat} (h : (x.natAbs : Int) < (4294967296 : Int) ^ n) : Sm (3 * n) x := Int.lt_of_lt_of_le h (lb_zb n)
theorem mayR_can (a : List Int) (h : Tri.Can (4294967296 : Int) a) (hl : a.length ≤ 4611686018427387904) : m_triviumref02_May a = some true := by
  have key : ∀ (k i : Nat), i + k = a.length → lp (m_triviumref02_May_l1 a) (i : Int) = some true := by
    intro k
    induction k with
    | zero =>
      intro i hk
      obtain rfl : i = a.length := by omega
      refine lp_done ?_
      by_cases h0 : a = []
      · subst h0; simp [m_triviumref02_May_l1]
      · obtain ⟨d, x, rfl⟩ := eq_snoc h0
        have hx := Top.snoc.1 h.2
        have e1 : wi64 (((d ++ [x]).length : Int) - 1) = (d.length : Int) := by rw [wi64_eq (by omega) (by omega)]; simp
        have e2 : rd (d ++ [x]) (d.length : Int) = some x := by rw [rd_I (by omega) (by simp; omega), gI_last]
        have e3 : decide (((d ++ [x]).length : Int) = 0) = false := decide_eq_false (by simp; omega)
        simp only [m_triviumref02_May_l1, show decide (((d ++ [x]).length : Int) < ((d ++ [x]).length : Int)) = false by simp, e3, e1, e2, bd_some]
        simp [hx]
    | succ k ih =>
      intro i hk
      have g := gI_dig h.1 (by decide) (i : Int)
      have e1 : decide ((i : Int) < (a.length : Int)) = true := decide_eq_true (by omega)
      have e2 : rd a (i : Int) = some (gI a (i : Int)) := rd_I (by omega) (by omega)
      have e3 : decide ((4294967296 : Int) ≤ gI a (i : Int)) = false := decide_eq_false (by omega)
      have e4 : wi64 ((i : Int) + 1) = ((i + 1 : Nat) : Int) := by rw [wi64_eq (by omega) (by omega)]; omega
      rw [lp_more (s' := ((i + 1 : Nat) : Int)) (by simp only [m_triviumref02_May_l1, e1, if_true, e2, bd_some, e3, e4]; rfl)]
      exact ih (i + 1) (by omega)
  exact key a.length 0 (by omega)
theorem sameR_refl (a : List Int) (hl : a.length ≤ 4611686018427387904) : m_triviumref02_Same a a = some true := by
  have key : ∀ (k i : Nat), i + k = a.length → lp (m_triviumref02_Same_l1 a a) (i : Int) = some true := by
    intro k
    induction k with
    | zero =>
      intro i hk
      obtain rfl : i = a.length := by omega
      exact lp_done (by simp [m_triviumref02_Same_l1])
    | succ k ih =>
      intro i hk
      have e1 : decide ((i : Int) < (a.length : Int)) = true := decide_eq_true (by omega)
      have e2 : rd a (i : Int) = some (gI a (i : Int)) := rd_I (by omega) (by omega)
      have e4 : wi64 ((i : Int) + 1) = ((i + 1 : Nat) : Int) := by rw [wi64_eq (by omega) (by omega)]; omega
      rw [lp_more (s' := ((i + 1 : Nat) : Int)) (by simp only [m_triviumref02_Same_l1, e1, if_true, e2, bd_some, e4]; simp)]
      exact ih (i + 1) (by omega)
  unfold m_triviumref02_Same
  rw [if_neg (by simp)]
  exact key a.length 0 (by omega)
theorem sign_mul (a b : Int) : (if (!(decide (a < 0) == decide (b < 0))) = true then -((a.natAbs : Int) * (b.natAbs : Int)) else (a.natAbs : Int) * (b.natAbs : Int)) = a * b := by
  rcases Int.lt_or_le a 0 with h | h <;> rcases Int.lt_or_le b 0 with k | k
  · obtain ⟨x, rfl⟩ : ∃ x : Int, a = -x := ⟨-a, by omega⟩
    obtain ⟨y, rfl⟩ : ∃ y : Int, b = -y := ⟨-b, by omega⟩
    rw [if_neg (by rw [decide_eq_true h, decide_eq_true k]; decide), show (((-x).natAbs : Nat) : Int) = x by omega, show (((-y).natAbs : Nat) : Int) = y by omega]; grind
  · obtain ⟨x, rfl⟩ : ∃ x : Int, a = -x := ⟨-a, by omega⟩
    rw [if_pos (by simp [h]; omega), show (((-x).natAbs : Nat) : Int) = x by omega, show ((b.natAbs : Nat) : Int) = b by omega]; grind
  · obtain ⟨y, rfl⟩ : ∃ y : Int, b = -y := ⟨-b, by omega⟩
    rw [if_pos (by simp [k]; omega), show (((-y).natAbs : Nat) : Int) = y by omega, show ((a.natAbs : Nat) : Int) = a by omega]; grind
  · have h' : ¬ a < 0 := by omega
    have k' : ¬ b < 0 := by omega
    rw [if_neg (by simp [h', k']), show ((a.natAbs : Nat) : Int) = a by omega, show ((b.natAbs : Nat) : Int) = b by omega]
theorem ref07Mul_eq {n m : Nat} (a b : Int) (ha : Sm n a) (hb : Sm m b) (hn : n ≤ 10000000000) (hm : m ≤ 10000000000) : m_triviumref07_Mul (zZ a) (zZ b) = some (zZ (a * b)) := by
  unfold m_triviumref07_Mul
  show bd (m_triviumref02_Mul (zl (a.natAbs : Int)) (zl (b.natAbs : Int))) _ = _
  have h1 := ha.len
  have h2 := hb.len
  rw [refMul_eq _ _ (by omega) (by omega) (by omega) (by omega), bd_some]
  show bd (m_triviumref07_made (!(decide (a < 0) == decide (b < 0))) _) _ = _
  rw [ref07Made_eq _ _ (Int.mul_nonneg (by omega) (by omega)), bd_some, sign_mul]
theorem ref07Neg_eq (a : Int) : m_triviumref07_Neg (zZ a) = some (zZ (-a)) := by
  unfold m_triviumref07_Neg
  show bd (m_triviumref07_made (!decide (a < 0)) (zl (a.natAbs : Int))) _ = _
  rw [ref07Made_eq _ _ (by omega), bd_some]
  have : (if (!decide (a < 0)) = true then -(a.natAbs : Int) else (a.natAbs : Int)) = -a := by
    by_cases h : a < 0
    · rw [if_neg (by simp [h])]; omega
    · rw [if_pos (by simp; omega)]; omega
  rw [this]
theorem ref07Add_eq {n : Nat} (a b : Int) (ha : Sm n a) (hb : Sm n b) (hn : n ≤ 10000000000) : m_triviumref07_Add (zZ a) (zZ b) = some (zZ (a + b)) := by
  have h1 := ha.len
  have h2 := hb.len
  unfold m_triviumref07_Add
  show (if (decide (a < 0) == decide (b < 0)) = true then (bd (m_triviumref02_Add (zl (a.natAbs : Int)) (zl (b.natAbs : Int))) _) else bd (m_triviumref02_Cmp (zl (a.natAbs : Int)) (zl (b.natAbs : Int))) _) = _
  by_cases hs : (decide (a < 0) == decide (b < 0)) = true
  · have hs' : (a < 0) ↔ (b < 0) := by simpa using hs
    rw [if_pos hs, refAdd_eq _ _ (by omega) (by omega) (by omega) (by omega), bd_some]
    show bd (m_triviumref07_made (decide (a < 0)) _) _ = _
    rw [ref07Made_eq _ _ (by omega), bd_some]
    have : (if decide (a < 0) = true then -((a.natAbs : Int) + (b.natAbs : Int)) else (a.natAbs : Int) + (b.natAbs : Int)) = a + b := by
      by_cases h : a < 0
      · rw [if_pos (by simpa using h)]; omega
      · rw [if_neg (by simpa using h)]; omega
    rw [this]
  · have hs' : ¬ ((a < 0) ↔ (b < 0)) := by simpa using hs
    rw [if_neg hs, refCmp_eq _ _ (by omega) (by omega) (by omega), bd_some]
    by_cases hc : 0 ≤ sg ((a.natAbs : Int) - (b.natAbs : Int))
    · have hc' : (b.natAbs : Int) ≤ (a.natAbs : Int) := by
        apply Int.not_lt.1; intro hlt; unfold sg at hc; rw [if_pos (by omega)] at hc; omega
      rw [if_pos (decide_eq_true hc)]
      show bd (m_triviumref02_Sub (zl (a.natAbs : Int)) (zl (b.natAbs : Int))) _ = _
      rw [refSub_eq _ _ (by omega) hc' (by omega), bd_some]
      show bd (m_triviumref07_made (decide (a < 0)) _) _ = _
      rw [ref07Made_eq _ _ (by omega), bd_some]
      have : (if decide (a < 0) = true then -((a.natAbs : Int) - (b.natAbs : Int)) else (a.natAbs : Int) - (b.natAbs : Int)) = a + b := by
        by_cases h : a < 0
        · rw [if_pos (by simpa using h)]; omega
        · rw [if_neg (by simpa using h)]; omega
      rw [this]
    · have hc' : (a.natAbs : Int) ≤ (b.natAbs : Int) := by
        apply Int.not_lt.1; intro hlt; apply hc; unfold sg; rw [if_neg (by omega), if_pos (by omega)]; decide
      rw [if_neg (by simpa using hc)]
      show bd (m_triviumref02_Sub (zl (b.natAbs : Int)) (zl (a.natAbs : Int))) _ = _
      rw [refSub_eq _ _ (by omega) hc' (by omega), bd_some]
      show bd (m_triviumref07_made (decide (b < 0)) _) _ = _
      rw [ref07Made_eq _ _ (by omega), bd_some]
      have : (if decide (b < 0) = true then -((b.natAbs : Int) - (a.natAbs : Int)) else (b.natAbs : Int) - (a.natAbs : Int)) = a + b := by
        by_cases h : b < 0
        · rw [if_pos (by simpa using h)]; omega
        · rw [if_neg (by simpa using h)]; omega
      rw [this]
theorem ref07Sign_eq (a : Int) : m_triviumref07_Sign (zZ a) = some (sg a) := by
  unfold m_triviumref07_Sign
  show (if decide (((zl (a.natAbs : Int)).length : Int) = 0) = true then some 0 else if decide (a < 0) = true then some (-1) else some 1) = _
  have hz := zl_nil (x := (a.natAbs : Int)) (by omega)
  unfold sg
  by_cases h0 : a = 0
  · subst h0; rw [if_pos (by rw [show (((0 : Int).natAbs : Nat) : Int) = 0 from rfl, zl_zero]; rfl)]; rfl
  · have : zl (a.natAbs : Int) ≠ [] := fun e => by have := hz.1 e; omega
    have := List.length_pos_iff.2 this
    rw [if_neg (by simp; omega)]
    by_cases h : a < 0
    · rw [if_pos (decide_eq_true h), if_pos h]
    · rw [if_neg (by simpa using h), if_neg h, if_pos (by omega)]
theorem ref07Num_eq (n : Int) (h0 : -4294967296 ≤ n) (h1 : n ≤ 4294967296) : m_triviumref07_Num n = some (zZ n) := by
  unfold m_triviumref07_Num
  by_cases h : n < 0
  · rw [if_pos (decide_eq_true h), wi64_eq (by omega) (by omega), refNum_eq _ (by omega) (by omega), bd_some, ref07Made_eq _ _ (by omega), bd_some, if_pos rfl, show -(0 - n) = n by omega]
  · rw [if_neg (by simpa using h), refNum_eq _ (by omega) (by omega), bd_some, ref07Made_eq _ _ (by omega), bd_some, if_neg (by decide)]
theorem ref08Of_eq (a b : Int) (hb : 0 ≤ b) (h1 : (nl (a.natAbs : Int)).length ≤ 30000000000) (h2 : (nl b).length ≤ 30000000000) : m_triviumref08_Of (rI a b) = some (rQ a b) := by
  unfold m_triviumref08_Of
  show bd (m_triviumref07_Of (zI a)) _ = _
  rw [ref07Of_eq a h1, bd_some]
  show bd (m_triviumref02_Of (nl b)) _ = _
  rw [refOf_eq b hb h2, bd_some]; rfl
theorem ref08Low_sg (a b : Int) (hb : 0 < b) : sg (a / Int.gcd a b) = sg a := by
  have hg : 0 < (Int.gcd a b : Int) := by
    have := Int.gcd_pos_of_ne_zero_right a (show b ≠ 0 by omega); omega
  have hd : (Int.gcd a b : Int) ∣ a := Int.gcd_dvd_left a b
  generalize (Int.gcd a b : Int) = g at *
  obtain ⟨q, rfl⟩ := hd
  rw [Int.mul_ediv_cancel_left q (by omega)]
  have e3 : (g * q < 0) ↔ (q < 0) := by
    constructor
    · intro h; apply Int.lt_of_not_ge; intro h2; have := Int.mul_nonneg (Int.le_of_lt hg) h2; omega
    · intro h; exact Int.mul_neg_of_pos_of_neg hg h
  have e4 : (0 < g * q) ↔ (0 < q) := by
    constructor
    · intro h; apply Int.lt_of_not_ge; intro h2; have := Int.mul_nonneg (Int.le_of_lt hg) (show 0 ≤ -q by omega); rw [Int.mul_neg] at this; omega
    · intro h; exact Int.mul_pos hg h
  unfold sg
  simp only [e3, e4]
theorem ref08Add_eq {n : Nat} (a b c d : Int) (hb : 0 < b) (hd : 0 < d) (h1 : Sm n a) (h2 : Sm n b) (h3 : Sm n c) (h4 : Sm n d) (hn : n ≤ 10000000) :
    m_triviumref08_Add (rQ a b) (rQ c d) = some (rQ ((a * d + c * b) / Int.gcd (a * d + c * b) (b * d)) ((b * d) / Int.gcd (a * d + c * b) (b * d))) := by
  unfold m_triviumref08_Add
  have zb : ((false, zl b) : D_triviumref07_Z) = zZ b := by unfold zZ; rw [decide_eq_false (by omega), show ((b.natAbs : Nat) : Int) = b by omega]
  have zd : ((false, zl d) : D_triviumref07_Z) = zZ d := by unfold zZ; rw [decide_eq_false (by omega), show ((d.natAbs : Nat) : Int) = d by omega]
  have hbd : 0 < b * d := Int.mul_pos hb hd
  show bd (m_triviumref07_Mul (zZ a) (false, zl d)) _ = _
  rw [zd, ref07Mul_eq a d h1 h4 (by omega) (by omega), bd_some]
  show bd (m_triviumref07_Mul (zZ c) (false, zl b)) _ = _
  rw [zb, ref07Mul_eq c b h3 h2 (by omega) (by omega), bd_some]
  show bd (m_triviumref07_Add (zZ (a * d)) (zZ (c * b))) _ = _
  rw [ref07Add_eq _ _ (h1.mul h4) (h3.mul h2) (by omega), bd_some]
  show bd (m_triviumref02_Mul (zl b) (zl d)) _ = _
  have hs := ((h1.mul h4).add (h3.mul h2)).len
  have hs2 := (h2.mul h4).len' (by omega)
  rw [refMul_eq b d (by omega) (by omega) (by have := h2.len' (by omega); omega) (by have := h4.len' (by omega); omega), bd_some, ref08Low_eq _ _ hbd (by omega) (by omega), bd_some]
theorem ref08Neg_eq (c d : Int) : m_triviumref08_Neg (rQ c d) = some (rQ (-c) d) := by
  unfold m_triviumref08_Neg
  show bd (m_triviumref07_Neg (zZ c)) _ = _
  rw [ref07Neg_eq, bd_some]; rfl
theorem ref08Sub_eq {n : Nat} (a b c d : Int) (hb : 0 < b) (hd : 0 < d) (h1 : Sm n a) (h2 : Sm n b) (h3 : Sm n c) (h4 : Sm n d) (hn : n ≤ 10000000) :
    m_triviumref08_Sub (rQ a b) (rQ c d) = some (rQ ((a * d - c * b) / Int.gcd (a * d - c * b) (b * d)) ((b * d) / Int.gcd (a * d - c * b) (b * d))) := by
  unfold m_triviumref08_Sub
  show bd (m_triviumref08_Neg (rQ c d)) _ = _
  rw [ref08Neg_eq, bd_some]
  show bd (m_triviumref08_Add (rQ a b) (rQ (-c) d)) _ = _
  rw [ref08Add_eq a b (-c) d hb hd h1 h2 h3.neg h4 hn, bd_some, show a * d + -c * b = a * d - c * b by rw [Int.neg_mul]; omega]
theorem ref08Sign_eq (a b : Int) : m_triviumref08_Sign (rQ a b) = some (sg a) := by
  unfold m_triviumref08_Sign
  show bd (m_triviumref07_Sign (zZ a)) _ = _
  rw [ref07Sign_eq, bd_some]
theorem ref08Cmp_eq {n : Nat} (a b c d : Int) (hb : 0 < b) (hd : 0 < d) (h1 : Sm n a) (h2 : Sm n b) (h3 : Sm n c) (h4 : Sm n d) (hn : n ≤ 10000000) : m_triviumref08_Cmp (rQ a b) (rQ c d) = some (sg (a * d - c * b)) := by
  unfold m_triviumref08_Cmp
  show bd (m_triviumref08_Sub (rQ a b) (rQ c d)) _ = _
  rw [ref08Sub_eq a b c d hb hd h1 h2 h3 h4 hn, bd_some, ref08Sign_eq, bd_some, ref08Low_sg _ _ (Int.mul_pos hb hd)]
theorem ref08Num_eq (p q : Int) (h0 : -4294967296 ≤ p) (h1 : p ≤ 4294967296) (h2 : 0 < q) (h3 : q ≤ 4294967296) : m_triviumref08_Num p q = some (rQ (p / Int.gcd p q) (q / Int.gcd p q)) := by
  have s1 : Sm 3 p := by unfold Sm; have : (10000 : Int) ^ 3 = 1000000000000 := by decide
                         omega
  have s2 : Sm 3 q := by unfold Sm; have : (10000 : Int) ^ 3 = 1000000000000 := by decide
                         omega
  unfold m_triviumref08_Num
  rw [ref07Num_eq p h0 h1, bd_some, refNum_eq q (by omega) h3, bd_some, ref08Low_eq p q h2 (by have := s1.len; omega) (by have := s2.len' (by omega); omega), bd_some]
/-- a fraction in lowest terms may be -/
theorem ref08May_eq (a b : Int) (hb : 0 < b) (hg : Int.gcd a b = 1) (h1 : (nl (a.natAbs : Int)).length ≤ 30000000) (h2 : (nl b).length ≤ 30000000) : m_triviumref08_May (rI a b) = some true := by
  have z1 := zl_nl_len (x := (a.natAbs : Int)) (by omega)
  have z2 := zl_nl_len (x := b) (by omega)
  have hbl : 0 < (nl b).length := List.length_pos_iff.2 fun e => by have := (nl_nil (by omega)).1 e; omega
  unfold m_triviumref08_May
  show bd (bd (m_triviumref02_May (nl (a.natAbs : Int))) _) _ = _
  rw [mayR_can _ (nl_can _) (by omega), bd_some, if_neg (by decide)]
  show bd (bd (m_triviumref02_May (nl b)) _) _ = _
  rw [mayR_can _ (nl_can _) (by omega), bd_some, if_neg (by decide)]
  show bd (if decide (((nl b).length : Int) = 0) = true then some true else if decide (a < 0) = true then some (decide (((nl (a.natAbs : Int)).length : Int) = 0)) else some false) _ = _
  have e : (if decide (((nl b).length : Int) = 0) = true then some true else if decide (a < 0) = true then some (decide (((nl (a.natAbs : Int)).length : Int) = 0)) else some false) = some false := by
    rw [if_neg (by rw [decide_eq_true_eq]; omega)]
    by_cases h : a < 0
    · have : nl (a.natAbs : Int) ≠ [] := fun e => by have := (nl_nil (x := (a.natAbs : Int)) (by omega)).1 e; omega
      have := List.length_pos_iff.2 this
      rw [if_pos (decide_eq_true h), decide_eq_false (by omega)]
    · rw [if_neg (by simpa using h)]
  rw [e, bd_some, if_neg (by decide)]
  show bd (m_triviumref07_Of (zI a)) _ = _
  rw [ref07Of_eq a (by omega), bd_some]
  show bd (m_triviumref02_Of (nl b)) _ = _
  rw [refOf_eq b (by omega) (by omega), bd_some, ref08Low_eq a b hb (by omega) (by omega), bd_some, hg]
  simp only [Int.ofNat_one, Int.natCast_one, Int.ediv_one]
  rw [ref08Back_eq a b (by omega) (by omega) (by omega), bd_some]
  show bd (m_triviumref08_Same (rI a b) (rI a b)) _ = _
  unfold m_triviumref08_Same m_triviumref07_Same
  show bd (bd (if (decide (a < 0) == decide (a < 0)) = true then bd (m_triviumref02_Same (nl (a.natAbs : Int)) (nl (a.natAbs : Int))) _ else _) _) _ = _
  rw [if_pos (by simp), sameR_refl _ (by omega), bd_some, bd_some, if_pos rfl]
  show bd (bd (m_triviumref02_Same (nl b) (nl b)) _) _ = _
  rw [sameR_refl _ (by omega), bd_some, bd_some]
end Go.Proofs.YtbmogniipgmkiaaGreat.AP
/- The program's fractions, as printed: parts of a limb. -/
namespace Go.Proofs.YtbmogniipgmkiaaGreat.AP
open Go Go.Proofs.YtbmogniipgmkiaaGreat.Tri
set_option linter.unusedVariables false
set_option linter.unusedSimpArgs false
theorem wMade_eq (b : Bool) (x : Int) (h : 0 ≤ x) (hl : (nl x).length ≤ 10000000000000) : m_whole_Made b (nl x) = some (zI (if b then -x else x)) := by
  unfold m_whole_Made zI
  rw [make_nl x hl, bd_some]
  dsimp only
  cases b with
  | true => rw [if_pos rfl, if_pos rfl, neg_or_nil h, show (((-x).natAbs : Nat) : Int) = x by omega]; congr 2; rw [decide_eq_decide]; omega
  | false => rw [if_neg (by decide), if_neg (by decide), decide_eq_false (by omega), show ((x.natAbs : Nat) : Int) = x by omega]
theorem wSign_eq (a : Int) : m_whole_Sign (zI a) = some (sg a) := by
  unfold m_whole_Sign
  show (if decide (((nl (a.natAbs : Int)).length : Int) = 0) = true then some 0 else if decide (a < 0) = true then some (-1) else some 1) = _
  have hz := nl_nil (x := (a.natAbs : Int)) (by omega)
  unfold sg
  by_cases h0 : a = 0
  · subst h0; rw [if_pos (by rw [show (((0 : Int).natAbs : Nat) : Int) = 0 from rfl, nl_zero]; rfl)]; rfl
  · have : nl (a.natAbs : Int) ≠ [] := fun e => by have := hz.1 e; omega
    have := List.length_pos_iff.2 this
    rw [if_neg (by rw [decide_eq_true_eq]; omega)]
    by_cases h : a < 0
    · rw [if_pos (decide_eq_true h), if_pos h]
    · rw [if_neg (by simpa using h), if_neg h, if_pos (by omega)]
/-- of at most n limbs -/
def Lm (n : Nat) (x : Int) : Prop := (x.natAbs : Int) < (4294967296 : Int) ^ n
theorem Lm.len {n : Nat} {x : Int} (h : Lm n x) : (nl (x.natAbs : Int)).length ≤ n := nl_len (by omega) h
theorem Lm.len' {n : Nat} {x : Int} (h : Lm n x) (h0 : 0 ≤ x) : (nl x).length ≤ n := by
  have := h.len; rwa [show ((x.natAbs : Nat) : Int) = x by omega] at this
theorem Lm.mul {n m : Nat} {x y : Int} (h : Lm n x) (k : Lm m y) : Lm (n + m) (x * y) := by
  unfold Lm at *
  rw [Int.natAbs_mul, Int.natCast_mul, Int.pow_add]
  have h1 : (x.natAbs : Int) * (y.natAbs : Int) ≤ (x.natAbs : Int) * (4294967296 : Int) ^ m := Int.mul_le_mul_of_nonneg_left (Int.le_of_lt k) (by omega)
  have h2 : (x.natAbs : Int) * (4294967296 : Int) ^ m < (4294967296 : Int) ^ n * (4294967296 : Int) ^ m := Int.mul_lt_mul_of_pos_right h (pow_pos' (by decide) m)
  omega
theorem wMul_eq (a b : Int) (ha : Lm 3 a) (hb : Lm 3 b) : m_whole_Mul (zI a) (zI b) = some (zI (a * b)) := by
  unfold m_whole_Mul
  show bd (m_mul_Mul (nl (a.natAbs : Int)) (nl (b.natAbs : Int))) _ = _
  have h1 := ha.len
  have h2 := hb.len
  have h3 := (ha.mul hb).len
  rw [Int.natAbs_mul, Int.natCast_mul] at h3
  rw [mul3_eq _ _ (by omega) (by omega) (by omega) (by omega), bd_some]
  show bd (m_whole_Made (!(decide (a < 0) == decide (b < 0))) _) _ = _
  rw [wMade_eq _ _ (Int.mul_nonneg (by omega) (by omega)) (by omega), bd_some, sign_mul]
theorem wCmp_eq (a b : Int) (ha : Lm 100 a) (hb : Lm 100 b) : m_whole_Cmp (zI a) (zI b) = some (sg (a - b)) := by
  unfold m_whole_Cmp
  show bd (m_whole_Sign (zI a)) _ = _
  rw [wSign_eq, bd_some]
  show bd (m_whole_Sign (zI b)) _ = _
  rw [wSign_eq, bd_some]
  have h1 := ha.len
  show (if decide (sg a < sg b) = true then some (-1) else if decide (sg b < sg a) = true then some 1 else bd (m_nat_Cmp (nl (a.natAbs : Int)) (nl (b.natAbs : Int))) _) = _
  rw [cmpN_eq _ _ (by omega) (by omega) (by omega), bd_some]
  have s : ∀ x : Int, -1 ≤ sg x ∧ sg x ≤ 1 := fun x => by unfold sg; split <;> (try split) <;> omega
  have e : wi64 (sg a * sg ((a.natAbs : Int) - (b.natAbs : Int))) = sg a * sg ((a.natAbs : Int) - (b.natAbs : Int)) := by
    have h2 := s a
    have h3 := s ((a.natAbs : Int) - (b.natAbs : Int))
    generalize sg ((a.natAbs : Int) - (b.natAbs : Int)) = v at *
    have : sg a = -1 ∨ sg a = 0 ∨ sg a = 1 := by omega
    rcases this with h | h | h <;> rw [h] <;> exact wi64_eq (by omega) (by omega)
  rw [e]
  rcases Int.lt_trichotomy a 0 with h | h | h <;> rcases Int.lt_trichotomy b 0 with k | k | k <;> (unfold sg; simp only [decide_eq_true_eq]; repeat' split) <;> first | rfl | omega
theorem rUp_eq (a b : Int) (h : 0 ≤ b) (hl : (nl b).length ≤ 10000000000000) : m_rat_up (rI a b) = some (zI b) := by
  unfold m_rat_up
  show bd (m_whole_Made false (nl b)) _ = _
  rw [wMade_eq _ _ h hl, bd_some, if_neg (by decide)]
theorem rCmp_eq (a b c d : Int) (hb : 0 < b) (hd : 0 < d) (h1 : Lm 3 a) (h2 : Lm 3 b) (h3 : Lm 3 c) (h4 : Lm 3 d) : m_rat_Cmp (rI a b) (rI c d) = some (sg (a * d - c * b)) := by
  unfold m_rat_Cmp
  show bd (m_rat_up (rI c d)) _ = _
  rw [rUp_eq c d (by omega) (by have := h4.len' (by omega); omega), bd_some]
  show bd (m_whole_Mul (zI a) (zI d)) _ = _
  rw [wMul_eq a d h1 h4, bd_some]
  show bd (m_rat_up (rI a b)) _ = _
  rw [rUp_eq a b (by omega) (by have := h2.len' (by omega); omega), bd_some]
  show bd (m_whole_Mul (zI c) (zI b)) _ = _
  rw [wMul_eq c b h3 h2, bd_some, wCmp_eq _ _ (Int.lt_of_lt_of_le (h1.mul h4) (pow_mono (by decide) (by decide))) (Int.lt_of_lt_of_le (h3.mul h2) (pow_mono (by decide) (by decide))), bd_some]
theorem rOf1 : m_rat_Of 1 = some (rI 1 1) := by
  unfold m_rat_Of m_rat_one m_whole_Of
  rw [if_neg (by decide), show wu64 1 = 1 from wu64_eq (by decide) (by decide), natOf_eq 1 (by decide) (by decide), bd_some, wMade_eq _ _ (by decide) (by rw [nl_one (by decide) (by decide)]; decide), bd_some, if_neg (by decide), bd_some, bd_some, bd_some]
  rfl
theorem rSign_eq (a b : Int) : m_rat_Sign (rI a b) = some (sg a) := by
  unfold m_rat_Sign
  show bd (m_whole_Sign (zI a)) _ = _
  rw [wSign_eq, bd_some]
theorem rMay_eq (a b : Int) (hb : 0 < b) (hb1 : b < (4294967296 : Int)) (ha : (a.natAbs : Int) < (4294967296 : Int)) (hg : Int.gcd a b = 1) : m_rat_May (rI a b) = some true := by
  have l1 := nl_len (x := (a.natAbs : Int)) (by omega) (n := 1) (by rw [Int.pow_one]; exact ha)
  have l2 := nl_len (x := b) (by omega) (n := 1) (by rw [Int.pow_one]; exact hb1)
  have hbl : 0 < (nl b).length := List.length_pos_iff.2 fun e => by have := (nl_nil (by omega)).1 e; omega
  unfold m_rat_May
  show bd (bd (m_nat_May (nl (a.natAbs : Int))) _) _ = _
  rw [may_can _ (nl_can _) (by omega), bd_some, if_neg (by decide)]
  show bd (bd (m_nat_May (nl b)) _) _ = _
  rw [may_can _ (nl_can _) (by omega), bd_some, if_neg (by decide)]
  show bd (some (decide (((nl b).length : Int) = 0))) _ = _
  rw [decide_eq_false (by omega), bd_some, if_neg (by decide)]
  show bd (if decide (a < 0) = true then some (decide (((nl (a.natAbs : Int)).length : Int) = 0)) else some false) _ = _
  have e : (if decide (a < 0) = true then some (decide (((nl (a.natAbs : Int)).length : Int) = 0)) else some false) = some false := by
    by_cases h : a < 0
    · have : nl (a.natAbs : Int) ≠ [] := fun e => by have := (nl_nil (x := (a.natAbs : Int)) (by omega)).1 e; omega
      have := List.length_pos_iff.2 this
      rw [if_pos (decide_eq_true h), decide_eq_false (by omega)]
    · rw [if_neg (by simpa using h)]
  rw [e, bd_some, if_neg (by decide)]
  show bd (m_gcd_Coprime (nl (a.natAbs : Int)) (nl b)) _ = _
  rw [coprime1_eq _ _ (by omega) (by omega) hb1 ha, bd_some, gcd_abs, hg]
  rfl
end Go.Proofs.YtbmogniipgmkiaaGreat.AP
/- What is well formed of a network, in both ways. -/
namespace Go.Proofs.YtbmogniipgmkiaaGreat.AP
open Go
set_option linter.unusedVariables false
set_option linter.unusedSimpArgs false
theorem E_law (a b : D_api_Prefix) : E_api_Prefix a b = true ↔ a = b := by
  unfold E_api_Prefix
  rw [Bool.and_eq_true, decide_eq_true_eq, decide_eq_true_eq]
  exact ⟨fun h => Prod.ext h.1 h.2, fun h => by rw [h]; exact ⟨rfl, rfl⟩⟩
theorem E_comm (a b : D_api_Prefix) : E_api_Prefix a b = E_api_Prefix b a := by
  cases h : E_api_Prefix b a with
  | true => rw [(E_law _ _).1 h]; exact (E_law _ _).2 rfl
  | false =>
    cases k : E_api_Prefix a b with
    | false => rfl
    | true => rw [(E_law _ _).1 k] at h; rw [(E_law _ _).2 rfl] at h; cases h
def homeOK (y : D_api_Node) : Bool := okS E_api_Prefix mayP id [] y.2
def homesOK (x : D_api_Net) : Bool := x.2.1.all homeOK
theorem CNode.big {y : D_api_Node} (h : CNode y) : Big y.2 := by have := h.2.1; unfold Big; omega
theorem homesF_eq (x : D_api_Net) (h : CNet x) : m_formed_homesRight x = some (homesOK x) := by
  unfold m_formed_homesRight
  rw [lp_all x.2.1 homeOK false (some true) (fun i y hy => by
    obtain ⟨e1, e2, e3⟩ := ix_step (X := Int) h.bigN hy
    have hc := h.2.1.2 y (List.mem_of_getElem? hy)
    have hb := hc.big
    have k := lp_mapd (f := m_formed_homesRight_l2 (i : Int) y) y.2 E_api_Prefix E_law mayP id (fun _ => .inr false) (some (.inl (wi64 ((i : Int) + 1)))) (fun j q m hq => by
      obtain ⟨d1, d2, d3⟩ := ix_step (X := Int) hb hq
      have hp := hc.2.2 q (List.mem_of_getElem? hq)
      have d4 : m_addr_May (q.1, q.2) = some (mayP q) := may_eq q hp.1.1 hp.1.2
      simp only [m_formed_homesRight_l2, d1, if_true, d2, bd_some, d3, d4, lt_eq, id]
      cases mayP q with
      | false => rfl
      | true =>
        rw [if_neg (by decide), bd_some]
        show (if (mget E_api_Prefix false m q).1 = true then _ else _) = _
        cases (mget E_api_Prefix false m q).1 <;> rfl) (fun m => lp_done (by simp only [m_formed_homesRight_l2, dlt]; rfl))
    simp only [m_formed_homesRight_l1, e1, if_true, e2, bd_some]
    cases ho : homeOK y with
    | true => rw [k.1 ho, e3]; rfl
    | false => obtain ⟨z, hz⟩ := k.2 ho; rw [hz]; rfl) (lp_done (by simp only [m_formed_homesRight_l1, dlt]; rfl))]
  unfold homesOK
  cases x.2.1.all homeOK <;> rfl
theorem homesR_eq (x : D_api_Net) (h : CNet x) : m_triviumref23_homes x = some (homesOK x) := by
  unfold m_triviumref23_homes
  rw [lp_all x.2.1 homeOK false (some true) (fun i y hy => by
    obtain ⟨e1, e2, e3⟩ := ix_step (X := Int) h.bigN hy
    have hc := h.2.1.2 y (List.mem_of_getElem? hy)
    have hb := hc.big
    have k := lp_quad (f := m_triviumref23_homes_l2 (i : Int) y) y.2 E_api_Prefix mayP id (fun _ => .inr false) (some (.inl (wi64 ((i : Int) + 1)))) (fun j q hq => by
      obtain ⟨d1, d2, d3⟩ := ix_step (X := Int) hb hq
      have hlt := len_of_get hq
      have hp := hc.2.2 q (List.mem_of_getElem? hq)
      have d4 : m_triviumref18_May q = some (mayP q) := refMay_eq q hp.1.1 hp.1.2
      have hin : lp (m_triviumref23_homes_l3 y (j : Int)) 0 = some (if (y.2.take j).all (fun z => !E_api_Prefix z q) then .inl (wi64 ((j : Int) + 1)) else .inr (.inr false)) :=
        inner_all y.2 j (by omega) (fun z => !E_api_Prefix z q) _ _ (fun m z hm hz => by
          have c1 : decide ((m : Int) < (j : Int)) = true := decide_eq_true (by omega)
          have c2 : rd y.2 (m : Int) = some z := by rw [rd_nat]; exact hz
          have c3 : wi64 ((m : Int) + 1) = (m : Int) + 1 := wi_succ (n := y.2.length) (by omega) hb
          simp only [m_triviumref23_homes_l3, c1, if_true, c2, d2, bd_some, c3]
          show (if E_api_Prefix z q = true then _ else _) = _
          cases E_api_Prefix z q <;> rfl) (by simp only [m_triviumref23_homes_l3, dlt]; rfl)
      simp only [m_triviumref23_homes_l2, d1, if_true, d2, bd_some, d4, hin, d3, List.map_id, id]
      have : (y.2.take j).any (E_api_Prefix q) = !(y.2.take j).all (fun z => !E_api_Prefix z q) := by
        rw [List.any_eq_not_all_not]; simp only [E_comm q]
      rw [this]
      cases mayP q <;> cases (y.2.take j).all (fun z => !E_api_Prefix z q) <;> rfl) (lp_done (by simp only [m_triviumref23_homes_l2, dlt]; rfl))
    simp only [m_triviumref23_homes_l1, e1, if_true, e2, bd_some]
    cases ho : homeOK y with
    | true => rw [k.1 ho, e3]; rfl
    | false => obtain ⟨z, hz⟩ := k.2 ho; rw [hz]; rfl) (lp_done (by simp only [m_triviumref23_homes_l1, dlt]; rfl))]
  unfold homesOK
  cases x.2.1.all homeOK <;> rfl
/-! ends -/
def has (x : D_api_Net) (s : ByteArray) : Bool := decide (0 ≤ idx (isV s) x.2.1)
def endOK (x : D_api_Net) (y : D_api_Link) : Bool := has x y.2.1 && has x y.2.2.1
def endsOK (x : D_api_Net) : Bool := x.2.2.1.all (endOK x)
theorem any_not_all {α : Type} (l : List α) (p : α → Bool) : (!l.any fun x => !p x) = l.all p := by rw [List.any_eq_not_all_not]; simp
theorem endsF_eq (x : D_api_Net) (h : CNet x) : m_formed_endsRight x = some (endsOK x) := by
  unfold m_formed_endsRight m_slices_ContainsFunc_api_Link_api_Link__formed_endsRight_1 m_slices_IndexFunc_api_Link_api_Link__formed_endsRight_1
  show bd (bd (lp (m_slices_IndexFunc_api_Link_api_Link__formed_endsRight_1_l1 x.2.2.1 x) 0) _) _ = _
  rw [lp_idx x.2.2.1 (fun y => !endOK x y) (fun i y hy => by
    obtain ⟨e1, e2, e3⟩ := ix_step (X := Int) h.bigL hy
    have e4 : m_formed_endsRight_1 y x = some (!endOK x y) := by
      unfold m_formed_endsRight_1 endOK has
      rw [fNode_eq _ _ h.bigN, bd_some, fNode_eq _ _ h.bigN, bd_some]
      dsimp only
      cases decide (0 ≤ idx (isV y.2.1) x.2.1) <;> rfl
    simp only [m_slices_IndexFunc_api_Link_api_Link__formed_endsRight_1_l1, e1, if_true, e2, bd_some, e3, e4]; split <;> rfl) (by simp only [m_slices_IndexFunc_api_Link_api_Link__formed_endsRight_1_l1, dlt]; rfl), bd_some, bd_some, idx_any]
  congr 1
  exact any_not_all _ _
/-! parts -/
noncomputable def partR (y : D_api_Link) : Option Bool :=
  bd (
    bd (m_triviumref08_May ((y.2.2.2.1.1, y.2.2.2.1.2), y.2.2.2.2)) fun x78 =>
    if !x78 then (
      some true)
    else (
      if y.2.2.2.1.1 then (
        some true)
      else (
        bd (m_triviumref08_Of ((y.2.2.2.1.1, y.2.2.2.1.2), y.2.2.2.2)) fun x82 =>
        bd (m_triviumref08_Num 1 1) fun x84 =>
        bd (m_triviumref08_Cmp x82 x84) fun x86 =>
        some (decide (0 < x86))))) fun v77 => some v77
theorem part_eq (y : D_api_Link) (h : CLink y) : ∃ b, m_formed_partsRight_1 y = some b ∧ partR y = some b := by
  obtain ⟨a, b, hr, hb, hb1, ha, hg⟩ := h.2.2.2.is
  have l1 := nl_len (x := (a.natAbs : Int)) (by omega) (n := 1) (by rw [Int.pow_one]; exact ha)
  have l2 := nl_len (x := b) (by omega) (n := 1) (by rw [Int.pow_one]; exact hb1)
  have s1 : Sm 3 a := by unfold Sm; have : (10000 : Int) ^ 3 = 1000000000000 := by decide
                         omega
  have s2 : Sm 3 b := by unfold Sm; have : (10000 : Int) ^ 3 = 1000000000000 := by decide
                         omega
  have s3 : Sm 3 1 := by unfold Sm; decide
  have m1 : Lm 3 a := by unfold Lm; have : (4294967296 : Int) ^ 3 = 79228162514264337593543950336 := by decide
                         omega
  have m2 : Lm 3 b := by unfold Lm; have : (4294967296 : Int) ^ 3 = 79228162514264337593543950336 := by decide
                         omega
  have m3 : Lm 3 1 := by unfold Lm; decide
  refine ⟨decide (a < 0) || decide (0 < sg (a * 1 - 1 * b)), ?_, ?_⟩
  · unfold m_formed_partsRight_1
    show bd (m_rat_May y.2.2.2) _ = _
    rw [hr, rMay_eq a b hb hb1 ha hg, bd_some, if_neg (by decide)]
    show bd (m_rat_Sign (rI a b)) _ = _
    rw [rSign_eq, bd_some]
    have e : (sg a < 0) ↔ a < 0 := by unfold sg; split <;> (try split) <;> omega
    by_cases h0 : a < 0
    · rw [if_pos (decide_eq_true (e.2 h0)), decide_eq_true h0]; rfl
    · rw [if_neg (by simpa [e] using h0), rOf1, bd_some]
      show bd (m_rat_Cmp (rI a b) (rI 1 1)) _ = _
      rw [rCmp_eq a b 1 1 hb (by decide) m1 m2 m3 m3, bd_some, decide_eq_false h0]; rfl
  · unfold partR
    show bd (bd (m_triviumref08_May y.2.2.2) _) _ = _
    rw [hr, ref08May_eq a b hb hg (by omega) (by omega), bd_some, if_neg (by decide)]
    show bd (if decide (a < 0) = true then _ else bd (m_triviumref08_Of (rI a b)) _) _ = _
    by_cases h0 : a < 0
    · rw [if_pos (decide_eq_true h0), bd_some, decide_eq_true h0]; rfl
    · rw [if_neg (by simpa using h0), ref08Of_eq a b (by omega) (by omega) (by omega), bd_some, ref08Num_eq 1 1 (by decide) (by decide) (by decide) (by decide), bd_some]
      have e1 : rQ (1 / (Int.gcd 1 1 : Int)) (1 / (Int.gcd 1 1 : Int)) = rQ 1 1 := rfl
      rw [e1, ref08Cmp_eq a b 1 1 hb (by decide) s1 s2 s3 s3 (by decide), bd_some, bd_some, decide_eq_false h0]; rfl
noncomputable def partOK (y : D_api_Link) : Bool := !((m_formed_partsRight_1 y).getD true)
noncomputable def partsOK (x : D_api_Net) : Bool := x.2.2.1.all partOK
theorem partF (y : D_api_Link) (h : CLink y) : m_formed_partsRight_1 y = some (!partOK y) := by
  obtain ⟨b, h1, h2⟩ := part_eq y h; unfold partOK; rw [h1]; simp
theorem partR_eq (y : D_api_Link) (h : CLink y) : partR y = some (!partOK y) := by
  obtain ⟨b, h1, h2⟩ := part_eq y h; unfold partOK; rw [h1, h2]; simp
theorem partsF_eq (x : D_api_Net) (h : CNet x) : m_formed_partsRight x = some (partsOK x) := by
  unfold m_formed_partsRight m_slices_ContainsFunc_api_Link_api_Link__formed_partsRight_1 m_slices_IndexFunc_api_Link_api_Link__formed_partsRight_1
  rw [lp_idx x.2.2.1 (fun y => !partOK y) (fun i y hy => by
    obtain ⟨e1, e2, e3⟩ := ix_step (X := Int) h.bigL hy
    have e4 := partF y (h.2.2.1.2 y (List.mem_of_getElem? hy))
    simp only [m_slices_IndexFunc_api_Link_api_Link__formed_partsRight_1_l1, e1, if_true, e2, bd_some, e3, e4]; split <;> rfl) (by simp only [m_slices_IndexFunc_api_Link_api_Link__formed_partsRight_1_l1, dlt]; rfl), bd_some, bd_some, idx_any]
  congr 1
  exact any_not_all _ _
end Go.Proofs.YtbmogniipgmkiaaGreat.AP
/- Rules, groups and hops, in both ways. -/
namespace Go.Proofs.YtbmogniipgmkiaaGreat.AP
open Go
set_option linter.unusedVariables false
set_option linter.unusedSimpArgs false
theorem K_law (a b : D_formed_key) : E_formed_key a b = true ↔ a = b := by
  unfold E_formed_key
  rw [Bool.and_eq_true, Bool.and_eq_true, decide_eq_true_eq, decide_eq_true_eq, sq_iff]
  exact ⟨fun h => Prod.ext h.1 (Prod.ext h.2.1 h.2.2), fun h => by rw [h]; exact ⟨rfl, rfl, rfl⟩⟩
theorem law_comm {κ : Type} {eq : κ → κ → Bool} (law : ∀ a b, eq a b = true ↔ a = b) (a b : κ) : eq a b = eq b a := by
  cases h : eq b a with
  | true => rw [(law _ _).1 h]; exact (law _ _).2 rfl
  | false =>
    cases k : eq a b with
    | false => rfl
    | true => rw [(law _ _).1 k] at h; rw [(law _ _).2 rfl] at h; cases h
def ruleP (x : D_api_Net) (r : D_api_Rule) : Bool := has x r.1 && mayP r.2.1
def rkey (r : D_api_Rule) : D_formed_key := (r.1, r.2.1)
def rulesOK (x : D_api_Net) : Bool := okS E_formed_key (ruleP x) rkey [] x.2.2.2
theorem rulesF_eq (x : D_api_Net) (h : CNet x) : m_formed_rulesRight x = some (rulesOK x) := by
  have k := lp_mapd (f := m_formed_rulesRight_l1 x) x.2.2.2 E_formed_key K_law (ruleP x) rkey (fun _ => false) (some true) (fun i r m hr => by
    obtain ⟨e1, e2, e3⟩ := ix_step (X := Int) h.bigR hr
    have hp := (h.2.2.2.2 r (List.mem_of_getElem? hr)).2.1
    have e4 : m_addr_May (r.2.1.1, r.2.1.2) = some (mayP r.2.1) := may_eq r.2.1 hp.1.1 hp.1.2
    have e5 : m_formed_Node (x.1, x.2.1, x.2.2.1, x.2.2.2) r.1 = some (max (idx (isV r.1) x.2.1) 0, has x r.1) := fNode_eq x r.1 h.bigN
    simp only [m_formed_rulesRight_l1, e1, if_true, e2, bd_some, e5, e4, e3, lt_eq]
    unfold ruleP
    show (bd (if (!has x r.1) = true then some true else if (!mayP r.2.1) = true then some true else some (mget E_formed_key false m (rkey r)).1) _) = _
    cases has x r.1 with
    | false => rfl
    | true =>
      cases mayP r.2.1 with
      | false => rfl
      | true =>
        rw [if_neg (by decide), if_neg (by decide), bd_some]
        cases (mget E_formed_key false m (rkey r)).1 <;> rfl) (fun m => lp_done (by simp only [m_formed_rulesRight_l1, dlt]; rfl))
  unfold m_formed_rulesRight
  cases ho : rulesOK x with
  | true => exact k.1 ho
  | false => obtain ⟨_, hz⟩ := k.2 ho; exact hz
theorem rulesR_eq (x : D_api_Net) (h : CNet x) : lp (m_triviumref23_net_l7 x) 0 = if rulesOK x then m_triviumref23_net_k3 x else some 7 := by
  have k := lp_quad (f := m_triviumref23_net_l7 x) x.2.2.2 E_formed_key (ruleP x) rkey (fun _ => (7 : Int)) (m_triviumref23_net_k3 x) (fun i r hr => by
    obtain ⟨e1, e2, e3⟩ := ix_step (X := Int) h.bigR hr
    have hlt := len_of_get hr
    have hp := (h.2.2.2.2 r (List.mem_of_getElem? hr)).2.1
    have e4 : m_triviumref18_May (r.2.1.1, r.2.1.2) = some (mayP r.2.1) := refMay_eq r.2.1 hp.1.1 hp.1.2
    have e5 : m_triviumref23_Node (x.1, x.2.1, x.2.2.1, x.2.2.2) r.1 = some (idx (isV r.1) x.2.1) := rNode_eq x r.1 h.bigN
    have hin : lp (m_triviumref23_net_l8 x (i : Int) r) 0 = some (if (x.2.2.2.take i).all (fun z => !E_formed_key (rkey z) (rkey r)) then .inl (wi64 ((i : Int) + 1)) else .inr 7) :=
      inner_all x.2.2.2 i (by omega) (fun z => !E_formed_key (rkey z) (rkey r)) _ _ (fun m z hm hz => by
        have c1 : decide ((m : Int) < (i : Int)) = true := decide_eq_true (by omega)
        have c2 : rd x.2.2.2 (m : Int) = some z := by rw [rd_nat]; exact hz
        have c3 : wi64 ((m : Int) + 1) = (m : Int) + 1 := wi_succ (n := x.2.2.2.length) (by omega) h.bigR
        simp only [m_triviumref23_net_l8, c1, if_true, c2, bd_some, c3]
        unfold E_formed_key rkey
        dsimp only
        cases sq z.1 r.1 with
        | false => rfl
        | true =>
          simp only [if_true, bd_some, Bool.true_and]
          cases (decide (z.2.1.1 = r.2.1.1) && decide (z.2.1.2 = r.2.1.2)) <;> rfl) (by simp only [m_triviumref23_net_l8, dlt]; rfl)
    simp only [m_triviumref23_net_l7, e1, if_true, e2, bd_some, e5, e4, hin, e3]
    have e6 : ((x.2.2.2.take i).map rkey).any (E_formed_key (rkey r)) = !(x.2.2.2.take i).all (fun z => !E_formed_key (rkey z) (rkey r)) := by
      rw [List.any_map, List.any_eq_not_all_not]
      congr 2
      funext z
      simp only [Function.comp, law_comm K_law (rkey r)]
    rw [e6]
    unfold ruleP has
    by_cases hi : idx (isV r.1) x.2.1 < 0
    · rw [if_pos (decide_eq_true hi), bd_some, decide_eq_false (by omega)]; rfl
    · rw [if_neg (by simpa using hi), bd_some, decide_eq_true (by omega)]
      cases mayP r.2.1 <;> cases (x.2.2.2.take i).all (fun z => !E_formed_key (rkey z) (rkey r)) <;> rfl) (lp_up (by simp only [m_triviumref23_net_l7, dlt]; rfl))
  cases ho : rulesOK x with
  | true => rw [k.1 ho]; rfl
  | false => obtain ⟨_, hz⟩ := k.2 ho; rw [hz]; rfl
/-! groups -/
def grOK (r : D_api_Rule) : Bool := (r.2.2.1 == (decide ((r.2.2.2.length : Int) = 0))) && r.2.2.2.all (fun g => !decide ((g.length : Int) = 0))
def groupsOK (x : D_api_Net) : Bool := x.2.2.2.all grOK
theorem CRule.big {r : D_api_Rule} (h : CRule r) : Big r.2.2.2 := by have := h.2.2.1; unfold Big; omega
theorem CGroup.big {g : List D_api_Hop} (h : CGroup g) : Big g := by have := h.1; unfold Big; omega
theorem groupsF_eq (x : D_api_Net) (h : CNet x) : m_formed_groupsRight x = some (groupsOK x) := by
  unfold m_formed_groupsRight
  rw [lp_all x.2.2.2 grOK false (some true) (fun i r hr => by
    obtain ⟨e1, e2, e3⟩ := ix_step (X := Int) h.bigR hr
    have hb := (h.2.2.2.2 r (List.mem_of_getElem? hr)).big
    have e4 : m_slices_ContainsFunc_api_Hop_api_Hop__formed_groupsRight_1 r.2.2.2 = some (r.2.2.2.any (fun g => decide ((g.length : Int) = 0))) := by
      unfold m_slices_ContainsFunc_api_Hop_api_Hop__formed_groupsRight_1 m_slices_IndexFunc_api_Hop_api_Hop__formed_groupsRight_1
      rw [lp_idx r.2.2.2 (fun g => decide ((g.length : Int) = 0)) (fun j g hg => by
        obtain ⟨d1, d2, d3⟩ := ix_step (X := Int) hb hg
        simp only [m_slices_IndexFunc_api_Hop_api_Hop__formed_groupsRight_1_l1, m_formed_groupsRight_1, d1, if_true, d2, bd_some, d3]; split <;> rfl) (by simp only [m_slices_IndexFunc_api_Hop_api_Hop__formed_groupsRight_1_l1, dlt]; rfl), bd_some, idx_any]
    simp only [m_formed_groupsRight_l1, e1, if_true, e2, bd_some, e4, e3]
    unfold grOK
    rw [← any_not_all]
    simp only [Bool.not_not]
    cases (r.2.2.1 == (decide ((r.2.2.2.length : Int) = 0))) <;> cases (r.2.2.2.any (fun g => decide ((g.length : Int) = 0))) <;> rfl) (lp_done (by simp only [m_formed_groupsRight_l1, dlt]; rfl))]
  unfold groupsOK
  cases x.2.2.2.all grOK <;> rfl
theorem groupsR_eq (x : D_api_Net) (h : CNet x) : lp (m_triviumref23_net_l5 x) 0 = if groupsOK x then m_triviumref23_net_k4 x else some 8 := by
  refine lp_all x.2.2.2 grOK 8 _ (fun i r hr => ?_) (lp_up (by simp only [m_triviumref23_net_l5, dlt]; rfl))
  obtain ⟨e1, e2, e3⟩ := ix_step (X := Int) h.bigR hr
  have hb := (h.2.2.2.2 r (List.mem_of_getElem? hr)).big
  have e4 : lp (m_triviumref23_net_l6 (i : Int) r) 0 = if r.2.2.2.all (fun g => !decide ((g.length : Int) = 0)) then some (.inl (wi64 ((i : Int) + 1))) else some (.inr 8) :=
    lp_all r.2.2.2 (fun g => !decide ((g.length : Int) = 0)) (Sum.inr 8) _ (fun j g hg => by
      obtain ⟨d1, d2, d3⟩ := ix_step (X := Int) hb hg
      simp only [m_triviumref23_net_l6, d1, if_true, d2, bd_some, d3]
      cases decide ((g.length : Int) = 0) <;> rfl) (lp_done (by simp only [m_triviumref23_net_l6, dlt]; rfl))
  simp only [m_triviumref23_net_l5, e1, if_true, e2, bd_some, e4, e3]
  unfold grOK
  cases (r.2.2.1 == (decide ((r.2.2.2.length : Int) = 0))) <;> cases (r.2.2.2.all (fun g => !decide ((g.length : Int) = 0))) <;> rfl
/-! hops -/
theorem rLink_eq (n : D_api_Net) (s : ByteArray) (hb : Big n.2.2.1) : m_triviumref23_Link n s = some (idx (isE s) n.2.2.1) :=
  lp_idx n.2.2.1 _ (fun i x h => by
    obtain ⟨e1, e2, e3⟩ := ix_step (X := Int) hb h
    simp only [m_triviumref23_Link_l1, e1, if_true, e2, bd_some, e3]; split <;> rfl) (by simp only [m_triviumref23_Link_l1, dlt]; rfl)
theorem fLink_eq (n : D_api_Net) (s : ByteArray) (hb : Big n.2.2.1) : m_formed_Link n s = some (max (idx (isE s) n.2.2.1) 0, decide (0 ≤ idx (isE s) n.2.2.1)) := by
  have e : m_slices_IndexFunc_api_Link_api_Link__formed_Link_1 n.2.2.1 s = some (idx (isE s) n.2.2.1) :=
    lp_idx n.2.2.1 _ (fun i x h => by
      obtain ⟨e1, e2, e3⟩ := ix_step (X := Int) hb h
      simp only [m_slices_IndexFunc_api_Link_api_Link__formed_Link_1_l1, m_formed_Link_1, e1, if_true, e2, bd_some, e3]; split <;> rfl) (by simp only [m_slices_IndexFunc_api_Link_api_Link__formed_Link_1_l1, dlt]; rfl)
  unfold m_formed_Link; rw [e, bd_some]
def hopP (x : D_api_Net) (r : D_api_Rule) (h : D_api_Hop) : Bool := match rd x.2.2.1 (idx (isE h.1) x.2.2.1) with
  | some y => sq y.2.1 r.1 && !decide (h.2 < 1)
  | none => false
def hkey (h : D_api_Hop) : ByteArray := h.1
def gOK (x : D_api_Net) (r : D_api_Rule) (g : List D_api_Hop) : Bool := okS sq (hopP x r) hkey [] g
def hopsOK (x : D_api_Net) : Bool := x.2.2.2.all (fun r => r.2.2.2.all (gOK x r))
theorem okS_split {α κ : Type} (eq : κ → κ → Bool) (p : α → Bool) (key : α → κ) : ∀ (l : List α) (seen : List κ), okS eq p key seen l = (l.all p && okS eq (fun _ => true) id seen (l.map key))
  | [], seen => rfl
  | x :: l, seen => by
    unfold okS
    rw [okS_split eq p key l, List.all_cons]
    simp only [List.map_cons, okS, Bool.true_and, id]
    cases p x <;> cases seen.any (eq (key x)) <;> cases l.all p <;> simp
theorem hop_bad (x : D_api_Net) (r : D_api_Rule) (q : D_api_Hop) :
    (if (!decide (0 ≤ idx (isE q.1) x.2.2.1)) = true then some true else bd (rd x.2.2.1 (max (idx (isE q.1) x.2.2.1) 0)) fun x18 => if (!sq x18.2.1 r.1) = true then some true else some (decide (q.2 < 1))) = some (!hopP x r q) := by
  unfold hopP
  by_cases hi : 0 ≤ idx (isE q.1) x.2.2.1
  · obtain ⟨y, h1, h2⟩ := idx_rd hi
    rw [decide_eq_true hi, if_neg (by decide), Int.max_eq_left hi, h1, bd_some]
    dsimp only
    cases sq y.2.1 r.1 <;> cases decide (q.2 < 1) <;> rfl
  · rw [decide_eq_false hi, if_pos (by decide), rd_neg (by omega)]; rfl
theorem hop_badR (x : D_api_Net) (r : D_api_Rule) (q : D_api_Hop) :
    (if decide (idx (isE q.1) x.2.2.1 < 0) = true then some true else bd (rd x.2.2.1 (idx (isE q.1) x.2.2.1)) fun x18 => if (!sq x18.2.1 r.1) = true then some true else some (decide (q.2 < 1))) = some (!hopP x r q) := by
  unfold hopP
  by_cases hi : 0 ≤ idx (isE q.1) x.2.2.1
  · obtain ⟨y, h1, h2⟩ := idx_rd hi
    rw [decide_eq_false (by omega), if_neg (by decide), h1, bd_some]
    dsimp only
    cases sq y.2.1 r.1 <;> cases decide (q.2 < 1) <;> rfl
  · rw [decide_eq_true (by omega), if_pos rfl, rd_neg (by omega)]; rfl
theorem hopsF3 (x : D_api_Net) (h : CNet x) (r : D_api_Rule) (g : List D_api_Hop) (hg : CGroup g) (k : Int) : lp (m_formed_hopsRight_l3 x r k g) (0, []) = some (if gOK x r g then .inl (wi64 (k + 1)) else .inr (.inr false)) := by
  obtain ⟨y, hy⟩ := twiceF_eq (g.map hkey) (by have := hg.big; unfold Big at *; simpa using this)
  have main : ∀ (n i : Nat), i + n = g.length → lp (m_formed_hopsRight_l3 x r k g) ((i : Int), (g.take i).map hkey) = some (if (g.drop i).all (hopP x r) && once (g.map hkey) then .inl (wi64 (k + 1)) else .inr (.inr false)) := by
    intro n
    induction n with
    | zero =>
      intro i hi
      obtain rfl : i = g.length := by omega
      rw [List.take_length, List.drop_length]
      refine lp_done ?_
      simp only [m_formed_hopsRight_l3, dlt, hy, bd_some]
      cases once (g.map hkey) <;> rfl
    | succ n ih =>
      intro i hi
      have hx : g[i]? = some g[i] := List.getElem?_eq_getElem (by omega)
      have hd : g.drop i = g[i] :: g.drop (i + 1) := List.drop_eq_getElem_cons (by omega)
      generalize g[i] = q at *
      obtain ⟨e1, e2, e3⟩ := ix_step (X := Int) hg.big hx
      have e4 : m_formed_Link (x.1, x.2.1, x.2.2.1, x.2.2.2) q.1 = some (max (idx (isE q.1) x.2.2.1) 0, decide (0 ≤ idx (isE q.1) x.2.2.1)) := fLink_eq x q.1 h.bigL
      have e5 := hop_bad x r q
      have e6 : ap 16 ((g.take i).map hkey) [q.1] = some ((g.take (i + 1)).map hkey) := by
        rw [ap_of (by have := hg.1; simp; omega), List.take_add_one, hx, List.map_append]; rfl
      rw [hd, List.all_cons]
      cases hp : hopP x r q with
      | false =>
        rw [hp] at e5
        rw [lp_done (x := .inr (.inr false)) (by simp only [m_formed_hopsRight_l3, e1, if_true, e2, bd_some, e4, e5]; rfl)]
        rfl
      | true =>
        rw [hp] at e5
        rw [lp_more (s' := ((i : Int) + 1, (g.take (i + 1)).map hkey)) (by simp only [m_formed_hopsRight_l3, e1, if_true, e2, bd_some, e4, e5, e6, e3]; rfl)]
        have := ih (i + 1) (by omega)
        rw [show ((i + 1 : Nat) : Int) = (i : Int) + 1 by omega] at this
        rw [Bool.true_and]
        exact this
  have := main g.length 0 (by omega)
  unfold gOK
  rw [okS_split]
  rw [List.drop_zero] at this
  exact this
theorem hopsF_eq (x : D_api_Net) (h : CNet x) : m_formed_hopsRight x = some (hopsOK x) := by
  unfold m_formed_hopsRight
  rw [lp_all x.2.2.2 (fun r => r.2.2.2.all (gOK x r)) false (some true) (fun i r hr => by
    obtain ⟨e1, e2, e3⟩ := ix_step (X := Int) h.bigR hr
    have hc := h.2.2.2.2 r (List.mem_of_getElem? hr)
    have e4 : lp (m_formed_hopsRight_l2 x (i : Int) r) 0 = if r.2.2.2.all (gOK x r) then some (.inl (wi64 ((i : Int) + 1))) else some (.inr false) :=
      lp_all r.2.2.2 (gOK x r) (Sum.inr false) _ (fun j g hg => by
        obtain ⟨d1, d2, d3⟩ := ix_step (X := Int) hc.big hg
        simp only [m_formed_hopsRight_l2, d1, if_true, d2, bd_some, hopsF3 x h r g (hc.2.2.2 g (List.mem_of_getElem? hg)) (j : Int), d3]) (lp_done (by simp only [m_formed_hopsRight_l2, dlt]; rfl))
    simp only [m_formed_hopsRight_l1, e1, if_true, e2, bd_some, e4, e3]
    cases r.2.2.2.all (gOK x r) <;> rfl) (lp_done (by simp only [m_formed_hopsRight_l1, dlt]; rfl))]
  unfold hopsOK
  cases x.2.2.2.all fun r => r.2.2.2.all (gOK x r) <;> rfl
theorem groupR_eq (x : D_api_Net) (h : CNet x) (r : D_api_Rule) (g : List D_api_Hop) (hg : CGroup g) : m_triviumref23_group x r g = some (gOK x r g) := by
  have k := lp_quad (f := m_triviumref23_group_l1 x r g) g sq (hopP x r) hkey (fun _ => false) (some true) (fun i q hq => by
    obtain ⟨e1, e2, e3⟩ := ix_step (X := Int) hg.big hq
    have hlt := len_of_get hq
    have e4 : m_triviumref23_Link (x.1, x.2.1, x.2.2.1, x.2.2.2) q.1 = some (idx (isE q.1) x.2.2.1) := rLink_eq x q.1 h.bigL
    have e5 := hop_badR x r q
    have hin : lp (m_triviumref23_group_l2 g (i : Int)) 0 = some (if (g.take i).all (fun z => !sq z.1 q.1) then .inl (wi64 ((i : Int) + 1)) else .inr false) :=
      inner_all g i (by omega) (fun z => !sq z.1 q.1) _ _ (fun m z hm hz => by
        have c1 : decide ((m : Int) < (i : Int)) = true := decide_eq_true (by omega)
        have c2 : rd g (m : Int) = some z := by rw [rd_nat]; exact hz
        have c3 : wi64 ((m : Int) + 1) = (m : Int) + 1 := wi_succ (n := g.length) (by omega) hg.big
        simp only [m_triviumref23_group_l2, c1, if_true, c2, e2, bd_some, c3]
        cases sq z.1 q.1 <;> rfl) (by simp only [m_triviumref23_group_l2, dlt]; rfl)
    simp only [m_triviumref23_group_l1, e1, if_true, e2, bd_some, e4, e5, hin, e3]
    have e6 : ((g.take i).map hkey).any (sq (hkey q)) = !(g.take i).all (fun z => !sq z.1 q.1) := by
      rw [List.any_map, List.any_eq_not_all_not]
      congr 2
      funext z
      simp only [Function.comp, hkey, sq_comm q.1]
    rw [e6]
    cases hopP x r q <;> cases (g.take i).all (fun z => !sq z.1 q.1) <;> rfl) (lp_done (by simp only [m_triviumref23_group_l1, dlt]; rfl))
  unfold m_triviumref23_group
  cases ho : gOK x r g with
  | true => exact k.1 ho
  | false => obtain ⟨_, hz⟩ := k.2 ho; exact hz
theorem hopsR_eq (x : D_api_Net) (h : CNet x) : m_triviumref23_net_k4 x = some (if hopsOK x then 0 else 9) := by
  unfold m_triviumref23_net_k4
  rw [lp_all x.2.2.2 (fun r => r.2.2.2.all (gOK x r)) 9 (some 0) (fun i r hr => by
    obtain ⟨e1, e2, e3⟩ := ix_step (X := Int) h.bigR hr
    have hc := h.2.2.2.2 r (List.mem_of_getElem? hr)
    have e4 : lp (m_triviumref23_net_l4 x (i : Int)) 0 = if r.2.2.2.all (gOK x r) then some (.inl (wi64 ((i : Int) + 1))) else some (.inr 9) :=
      lp_all r.2.2.2 (gOK x r) (Sum.inr 9) _ (fun j g hg => by
        obtain ⟨d1, d2, d3⟩ := ix_step (X := Int) hc.big hg
        have d4 : m_triviumref23_group (x.1, x.2.1, x.2.2.1, x.2.2.2) r g = some (gOK x r g) := groupR_eq x h r g (hc.2.2.2 g (List.mem_of_getElem? hg))
        simp only [m_triviumref23_net_l4, e2, bd_some, d1, if_true, d2, d4, d3]
        cases gOK x r g <;> rfl) (lp_done (by simp only [m_triviumref23_net_l4, e2, bd_some, dlt]; rfl))
    simp only [m_triviumref23_net_l3, e1, if_true, e4, e3]
    cases r.2.2.2.all (gOK x r) <;> rfl) (lp_done (by simp only [m_triviumref23_net_l3, dlt]; rfl))]
  unfold hopsOK
  cases x.2.2.2.all fun r => r.2.2.2.all (gOK x r) <;> rfl
end Go.Proofs.YtbmogniipgmkiaaGreat.AP
/- The chapter's example. -/
namespace Go.Proofs.YtbmogniipgmkiaaGreat.AP
open Go
set_option linter.unusedVariables false
set_option linter.unusedSimpArgs false
theorem name_a : m_name_Name (bs [97]) = some true := by
  have k : m_name_Word (bs [97]) = some true := by
    unfold m_name_Word
    rw [lp_more (s' := 1) (by kernel_rfl), lp_done (x := true) (by kernel_rfl)]
  have kk : m_name_Keyword (bs [97]) = some false := by
    simp [m_name_Keyword, m_name_Keywords, m_slices_Contains_string_string, m_slices_Index_string_string]
    rw [lp_more (s' := 1) (by kernel_rfl), lp_more (s' := 2) (by kernel_rfl), lp_more (s' := 3) (by kernel_rfl), lp_more (s' := 4) (by kernel_rfl), lp_more (s' := 5) (by kernel_rfl), lp_more (s' := 6) (by kernel_rfl), lp_more (s' := 7) (by kernel_rfl), lp_more (s' := 8) (by kernel_rfl), lp_more (s' := 9) (by kernel_rfl), lp_more (s' := 10) (by kernel_rfl), lp_more (s' := 11) (by kernel_rfl), lp_more (s' := 12) (by kernel_rfl), lp_more (s' := 13) (by kernel_rfl), lp_done (x := -1) (by kernel_rfl)]
    rfl
  simp [m_name_Name, k, kk]
theorem twice_nil : m_name_Twice [] = some (bs [], false) := by
  unfold m_name_Twice
  rw [lp_done (x := (bs [], false)) (by kernel_rfl)]
theorem named_nil : m_formed_named [] = some true := by
  unfold m_formed_named
  rw [lp_done (x := true) (by simp [m_formed_named_l1, twice_nil])]
theorem net_a : m_formed_net (bs [97], [], [], []) = some 0 := by
  have h1 : m_formed_nodesRight (bs [97], [], [], []) = some true := by
    unfold m_formed_nodesRight
    rw [lp_done (x := []) (by kernel_rfl), bd_some, named_nil]; rfl
  have h2 : m_formed_homesRight (bs [97], [], [], []) = some true := by
    unfold m_formed_homesRight
    rw [lp_done (x := true) (by simp [m_formed_homesRight_l1])]
  have h3 : m_formed_linksRight (bs [97], [], [], []) = some true := by
    unfold m_formed_linksRight
    rw [lp_done (x := []) (by kernel_rfl), bd_some, named_nil]; rfl
  have h4 : m_formed_endsRight (bs [97], [], [], []) = some true := by
    unfold m_formed_endsRight m_slices_ContainsFunc_api_Link_api_Link__formed_endsRight_1 m_slices_IndexFunc_api_Link_api_Link__formed_endsRight_1
    rw [lp_done (x := -1) (by simp [m_slices_IndexFunc_api_Link_api_Link__formed_endsRight_1_l1])]
    rfl
  have h5 : m_formed_partsRight (bs [97], [], [], []) = some true := by
    unfold m_formed_partsRight m_slices_ContainsFunc_api_Link_api_Link__formed_partsRight_1 m_slices_IndexFunc_api_Link_api_Link__formed_partsRight_1
    rw [lp_done (x := -1) (by simp [m_slices_IndexFunc_api_Link_api_Link__formed_partsRight_1_l1])]
    rfl
  have h6 : m_formed_rulesRight (bs [97], [], [], []) = some true := by
    unfold m_formed_rulesRight
    rw [lp_done (x := true) (by simp [m_formed_rulesRight_l1])]
  have h7 : m_formed_groupsRight (bs [97], [], [], []) = some true := by
    unfold m_formed_groupsRight
    rw [lp_done (x := true) (by simp [m_formed_groupsRight_l1])]
  have h8 : m_formed_hopsRight (bs [97], [], [], []) = some true := by
    unfold m_formed_hopsRight
    rw [lp_done (x := true) (by simp [m_formed_hopsRight_l1])]
  simp [m_formed_net, h1, h2, h3, h4, h5, h6, h7, h8]
theorem works23 : m_triviumlaw23_works = some true := by
  have w1 : wi64 (0 + 1) = 1 := by kernel_rfl
  have w2 : wi64 (1 + 1) = 2 := by kernel_rfl
  have n2 : m_formed_named [bs [97], bs [97]] = some false := by
    have t : m_name_Twice [bs [97], bs [97]] = some (bs [97], true) := by
      unfold m_name_Twice
      rw [lp_more (s' := (1, [(bs [97], true)])) (by kernel_rfl), lp_done (x := (bs [97], true)) (by kernel_rfl)]
    unfold m_formed_named
    rw [lp_more (s' := 1) (by simp [m_formed_named_l1, rd, name_a, wi64_eq]), lp_more (s' := 2) (by simp [m_formed_named_l1, rd, name_a, wi64_eq]), lp_done (x := false) (by simp [m_formed_named_l1, t])]
  have n1 : m_formed_named [bs [97]] = some true := by
    have t : m_name_Twice [bs [97]] = some (bs [], false) := by
      unfold m_name_Twice
      rw [lp_more (s' := (1, [(bs [97], true)])) (by kernel_rfl), lp_done (x := (bs [], false)) (by kernel_rfl)]
    unfold m_formed_named
    rw [lp_more (s' := 1) (by simp [m_formed_named_l1, rd, name_a, wi64_eq]), lp_done (x := true) (by simp [m_formed_named_l1, t])]
  have s2 : m_formed_Nets [(bs [97], [], [], []), (bs [97], [], [], [])] = some 1 := by
    unfold m_formed_Nets
    rw [lp_more (s' := (1, [bs [97]])) (by kernel_rfl), lp_more (s' := (2, [bs [97], bs [97]])) (by kernel_rfl), lp_done (x := [bs [97], bs [97]]) (by kernel_rfl), bd_some, n2]; rfl
  have s1 : m_formed_Nets [(bs [97], [], [], [])] = some 0 := by
    unfold m_formed_Nets
    rw [lp_more (s' := (1, [bs [97]])) (by kernel_rfl), lp_done (x := [bs [97]]) (by kernel_rfl), bd_some, n1, bd_some, if_neg (by decide), lp_more (s' := 1) (by simp [m_formed_Nets_l2, rd, net_a, wi64_eq]), lp_done (x := 0) (by simp [m_formed_Nets_l2])]
  simp [m_triviumlaw23_works, s1, s2]
end Go.Proofs.YtbmogniipgmkiaaGreat.AP
