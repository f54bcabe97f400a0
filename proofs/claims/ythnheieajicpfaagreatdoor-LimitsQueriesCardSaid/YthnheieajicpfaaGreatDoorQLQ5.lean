/- The law LimitsQueries holds of every input: the row, and its card. -/
import Derived.Test.YthnheieajicpfaaGreatDoorQLQ4
import Derived.Test.YthnheieajicpfaaGreatDoorQLQ3
import Derived.Test.YthnheieajicpfaaGreatDoorCards
import Derived.Test.YthnheieajicpfaaGreatDoorTie
import Derived.WalkKit
import Derived.ProofKit
import Derived.OpenShut
import Derived.ShutString
import Derived.ChangeOld
import Derived.Below
import Derived.Lib.SmallJoins
import Derived.Lay
import Derived.SevenTiedAt
import Derived.Lib.LaidTab
import Derived.Lib.LaidU8
import Derived.Stop.LaidErr
import Derived.LaidMore
/- Addresses and prefixes, printed by both. -/
namespace Go.Proofs.YthnheieajicpfaaGreatDoor.AP
open Go
set_option linter.unusedVariables false
set_option linter.unusedSimpArgs false
/-- an address's text -/
def prL (a : Int) : List UInt8 := Lib.itoa (a / 16777216) ++ 46 :: (Lib.itoa (a / 65536 % 256) ++ 46 :: (Lib.itoa (a / 256 % 256) ++ 46 :: Lib.itoa (a % 256)))
theorem prL_len (a : Int) (h0 : 0 ≤ a) (h1 : a < 4294967296) : (prL a).length ≤ 83 := by
  have l1 := itoa_len (a / 16777216) (by omega) (by omega)
  have l2 := itoa_len (a / 65536 % 256) (by omega) (by omega)
  have l3 := itoa_len (a / 256 % 256) (by omega) (by omega)
  have l4 := itoa_len (a % 256) (by omega) (by omega)
  unfold prL
  simp only [List.length_append, List.length_cons]
  omega
theorem and255 (x : Int) (h0 : 0 ≤ x) (h1 : x < 4294967296) : wi64 (Go.bits .and .u32 x 255) = x % 256 := by
  obtain ⟨n, rfl⟩ := Int.eq_ofNat_of_zero_le h0
  have e : Go.bits .and .u32 (n : Int) 255 = ((n % 256 : Nat) : Int) := by
    have h2 := Nat.and_two_pow_sub_one_eq_mod n 8
    rw [u32_and (n : Int) 255 (by omega) h1 (by omega) (by omega)]
    have h3 : ((255 : Int).toNat) = 2 ^ 8 - 1 := rfl
    rw [Int.toNat_natCast, h3, h2]
  rw [e, wi64_eq (by omega) (by omega)]
  omega
theorem shr (a : Int) (h0 : 0 ≤ a) (h1 : a < 4294967296) (k : Nat) (hk : k ≤ 32) : sr .u32 a (k : Int) = some (a / 2 ^ k) := by
  unfold sr
  rw [if_pos (by omega)]
  have e : min ((k : Int).toNat) (IntKind.u32.bits) = k := by
    have : IntKind.u32.bits = 32 := rfl
    rw [this]; simp; omega
  rw [e]
  congr 1
  exact Int.fdiv_eq_ediv_of_nonneg a (Int.pow_nonneg (by decide))
theorem print_eq (a : Int) (h0 : 0 ≤ a) (h1 : a < 4294967296) : m_addr_Print a = some (bs (prL a)) := by
  have em : AP.mk 16 (bs []) 4 4 = some (List.replicate 4 (bs [])) := mk16 4 (by decide)
  have step : ∀ (i : Nat) (v : List ByteArray), i < 4 → v.length = 4 → m_addr_Print_l1 a (List.replicate 4 (bs [])) ((i : Int), v) = some (.inl ((i : Int) + 1, v.set i (bs (Lib.itoa (a / 2 ^ (8 * (3 - i)) % 256))))) := by
    intro i v hi hv
    have e1 : decide ((i : Int) < ((List.replicate 4 (bs [])).length : Int)) = true := by simp; omega
    have e2 : wi64 (8 * (wi64 (3 - (i : Int)))) = ((8 * (3 - i) : Nat) : Int) := by
      rw [wi64_eq (x := 3 - (i : Int)) (by omega) (by omega), wi64_eq (by omega) (by omega)]; omega
    have e3 := shr a h0 h1 (8 * (3 - i)) (by omega)
    have hq : 0 ≤ a / 2 ^ (8 * (3 - i)) := Int.ediv_nonneg h0 (Int.pow_nonneg (by decide))
    have hq2 : a / 2 ^ (8 * (3 - i)) < 4294967296 := by
      have := Int.ediv_le_self (2 ^ (8 * (3 - i))) h0
      omega
    have e4 := and255 _ hq hq2
    have e5 := itoa_bs (a / 2 ^ (8 * (3 - i)) % 256) (by omega) (by omega)
    have e6 : ix v (i : Int) = some i := ix_nat (by omega)
    have e7 : wi64 ((i : Int) + 1) = (i : Int) + 1 := wi64_eq (by omega) (by omega)
    simp only [m_addr_Print_l1, e1, if_true, e2, e3, bd_some, e4, e5, e6, lt_eq, e7]
  have fin : ∀ v, m_addr_Print_l1 a (List.replicate 4 (bs [])) (4, v) = some (.inr v) := by
    intro v
    simp [m_addr_Print_l1]
  have hloop := lp_fill (f := m_addr_Print_l1 a (List.replicate 4 (bs []))) [(0 : Nat), 1, 2, 3] (fun i => bs (Lib.itoa (a / 2 ^ (8 * (3 - i)) % 256))) (fun i x v hx hv => by
    have hi : i < 4 := by
      have := (List.getElem?_eq_some_iff.1 hx).1
      simpa using this
    have : x = i := by
      match i, hi, hx with
      | 0, _, hx => simpa using hx.symm
      | 1, _, hx => simpa using hx.symm
      | 2, _, hx => simpa using hx.symm
      | 3, _, hx => simpa using hx.symm
    subst this
    exact step x v hi (by simpa using hv)) fin (List.replicate 4 (bs [])) (by simp)
  have e8 : a / 2 ^ (8 * (3 - 0)) % 256 = a / 16777216 := by
    have : (2 : Int) ^ (8 * (3 - 0)) = 16777216 := rfl
    rw [this]; omega
  have hj := join_bs [Lib.itoa (a / 16777216), Lib.itoa (a / 65536 % 256), Lib.itoa (a / 256 % 256), Lib.itoa (a % 256)] [46] (by simp) (by
    have l1 := itoa_len (a / 16777216) (by omega) (by omega)
    have l2 := itoa_len (a / 65536 % 256) (by omega) (by omega)
    have l3 := itoa_len (a / 256 % 256) (by omega) (by omega)
    have l4 := itoa_len (a % 256) (by omega) (by omega)
    have := join_len [46] 20 [Lib.itoa (a / 16777216), Lib.itoa (a / 65536 % 256), Lib.itoa (a / 256 % 256), Lib.itoa (a % 256)] (by
      intro x hx
      simp only [List.mem_cons, List.not_mem_nil, or_false] at hx
      rcases hx with rfl | rfl | rfl | rfl <;> assumption)
    simp at this
    omega)
  have e9 : [(0 : Nat), 1, 2, 3].map (fun i => bs (Lib.itoa (a / 2 ^ (8 * (3 - i)) % 256))) = [Lib.itoa (a / 16777216), Lib.itoa (a / 65536 % 256), Lib.itoa (a / 256 % 256), Lib.itoa (a % 256)].map bs := by
    simp only [List.map_cons, List.map_nil, e8]
    have h1 : (2 : Int) ^ (8 * (3 - 1)) = 65536 := rfl
    have h2 : (2 : Int) ^ (8 * (3 - 2)) = 256 := rfl
    have h3 : (2 : Int) ^ (8 * (3 - 3)) = 1 := rfl
    rw [h1, h2, h3, Int.ediv_one]
  rw [e9] at hloop
  unfold m_addr_Print
  simp only [em, bd_some, hloop, hj]
  congr 2
  rw [join2, join2, join2, Lib.join_one]
  rfl
theorem refPrint_eq (a : Int) (h0 : 0 ≤ a) (h1 : a < 4294967296) : m_triviumref18_Print a = some (bs (prL a)) := by
  have l1 := itoa_len (a / 16777216) (by omega) (by omega)
  have l2 := itoa_len (a / 65536 % 256) (by omega) (by omega)
  have l3 := itoa_len (a / 256 % 256) (by omega) (by omega)
  have l4 := itoa_len (a % 256) (by omega) (by omega)
  have q : ∀ d : Int, 0 < d → qd .u32 a d = some (a / d) := fun d hd => by
    unfold qd
    rw [if_neg (by omega), Int.tdiv_eq_ediv_of_nonneg h0]
    have := Int.ediv_nonneg h0 (Int.le_of_lt hd)
    have := Int.ediv_le_self d h0
    rw [show IntKind.u32.wrap (a / d) = a / d from wu32_eq (by omega) (by omega)]
  have e1 := q 16777216 (by decide)
  have e2 := q 65536 (by decide)
  have e3 := q 256 (by decide)
  have r1 : rm .u32 (a / 65536) 256 = some (a / 65536 % 256) := rm_of (by omega) (by decide)
  have r2 : rm .u32 (a / 256) 256 = some (a / 256 % 256) := rm_of (by omega) (by decide)
  have r3 : rm .u32 a 256 = some (a % 256) := rm_of h0 (by decide)
  have w1 : wi64 (a / 16777216) = a / 16777216 := wi64_eq (by omega) (by omega)
  have w2 : wi64 (a / 65536 % 256) = a / 65536 % 256 := wi64_eq (by omega) (by omega)
  have w3 : wi64 (a / 256 % 256) = a / 256 % 256 := wi64_eq (by omega) (by omega)
  have w4 : wi64 (a % 256) = a % 256 := wi64_eq (by omega) (by omega)
  have b1 := baseItoa (a / 16777216) (by omega) (by omega)
  have b2 := baseItoa (a / 65536 % 256) (by omega) (by omega)
  have b3 := baseItoa (a / 256 % 256) (by omega) (by omega)
  have b4 := baseItoa (a % 256) (by omega) (by omega)
  unfold m_triviumref18_Print prL
  simp only [e1, bd_some, w1, b1, e2, r1, w2, b2, e3, r2, w3, b3, r3, w4, b4]
  generalize Lib.itoa (a / 16777216) = A at *
  generalize Lib.itoa (a / 65536 % 256) = B at *
  generalize Lib.itoa (a / 256 % 256) = C at *
  generalize Lib.itoa (a % 256) = D at *
  simp (disch := (simp only [List.length_append, List.length_cons, List.length_nil]; omega)) only [cat_bs, bd_some]
  simp [List.append_assoc]
theorem join_nilsep : ∀ l : List (List UInt8), Lib.join l [] = l.flatten
  | [] => rfl
  | [x] => by rw [Lib.join_one]; simp
  | x :: y :: l => by rw [join2, join_nilsep (y :: l)]; simp
/-- a prefix's text -/
def txL (p : D_api_Prefix) : List UInt8 := if mayP p then prL p.1 ++ 47 :: Lib.itoa p.2 else []
theorem may_len {p : D_api_Prefix} (h : mayP p = true) : 0 ≤ p.2 ∧ p.2 ≤ 32 := by
  unfold mayP at h
  simp only [Bool.and_eq_true, decide_eq_true_eq] at h
  exact h.1
theorem txL_len (p : D_api_Prefix) (h0 : 0 ≤ p.1) (h1 : p.1 < 4294967296) : (txL p).length ≤ 104 := by
  unfold txL
  split
  · rename_i h
    have h2 := may_len h
    have l1 := prL_len p.1 h0 h1
    have l2 := itoa_len p.2 (by omega) (by omega)
    simp only [List.length_append, List.length_cons]
    omega
  · simp
theorem text_eq (p : D_api_Prefix) (h0 : 0 ≤ p.1) (h1 : p.1 < 4294967296) : m_addr_Text p = some (bs (txL p)) := by
  have hm := may_eq p h0 h1
  have hm : m_addr_May (p.1, p.2) = some (mayP p) := hm
  unfold m_addr_Text txL
  rw [hm]
  cases hp : mayP p with
  | false => rfl
  | true =>
    have h2 := may_len hp
    have l1 := prL_len p.1 h0 h1
    have l2 := itoa_len p.2 (by omega) (by omega)
    have e1 := print_eq p.1 h0 h1
    have e2 := itoa_bs p.2 (by omega) (by omega)
    simp only [bd_some, Bool.not_true, if_true, e1, e2]
    rw [if_neg (by decide)]
    simp (disch := (simp only [List.length_append, List.length_cons, List.length_nil]; omega)) only [cat_bs, bd_some, List.append_assoc, List.cons_append, List.nil_append]
theorem refText_eq (p : D_api_Prefix) (h0 : 0 ≤ p.1) (h1 : p.1 < 4294967296) : m_triviumref18_Text p = some (bs (txL p)) := by
  have hm : m_triviumref18_May (p.1, p.2) = some (mayP p) := refMay_eq p h0 h1
  unfold m_triviumref18_Text txL
  rw [hm]
  cases hp : mayP p with
  | false => rfl
  | true =>
    have h2 := may_len hp
    have l1 := prL_len p.1 h0 h1
    have l2 := itoa_len p.2 (by omega) (by omega)
    have e1 := refPrint_eq p.1 h0 h1
    have e2 := baseItoa p.2 (by omega) (by omega)
    simp only [bd_some, Bool.not_true, if_true, e1, e2]
    rw [if_neg (by decide)]
    simp (disch := (simp only [List.length_append, List.length_cons, List.length_nil]; omega)) only [cat_bs, bd_some, List.append_assoc, List.cons_append, List.nil_append]
end Go.Proofs.YthnheieajicpfaaGreatDoor.AP
/- Networks' texts: the program's. -/
namespace Go.Proofs.YthnheieajicpfaaGreatDoor.AP
open Go
set_option linter.unusedVariables false
set_option linter.unusedSimpArgs false
theorem words_bs (l : List (List UInt8)) (h1 : l.length ≤ 10) (h2 : ∀ x ∈ l, x.length ≤ 2000000000) : m_canon_words (l.map bs) = some (bs (Lib.join l [32])) := by
  have := join_len [32] 2000000000 l h2
  have h3 : l.length * (2000000000 + [(32 : UInt8)].length) ≤ 10 * (2000000000 + [(32 : UInt8)].length) := Nat.mul_le_mul_right _ h1
  unfold m_canon_words
  have e := join_bs l [32] (by omega) (by simp at h3; simp at this; omega)
  have e : m_strings_Join (l.map bs) (bs [32]) = some (bs (Lib.join l [32])) := e
  rw [e]
  rfl
/-- a text of each -/
theorem each_gen {α : Type} {f : (Int × List ByteArray) → Option ((Int × List ByteArray) ⊕ (List ByteArray))} (l : List α) (F : α → Option ByteArray) (g : α → List UInt8)
    (hf : ∀ v4 v5, f (v4, v5) = if decide (v4 < (l.length : Int)) then (bd (rd l v4) fun x7 => bd (F x7) fun x9 => bd (ix v5 v4) fun j11 => lt (v5.set j11 x9) fun x13 => some (.inl (wi64 (v4 + 1), x13))) else some (.inr v5))
    (hl : l.length ≤ 4294967296) (hF : ∀ x ∈ l, F x = some (bs (g x))) : lp f (0, List.replicate l.length (bs [])) = some ((l.map g).map bs) := by
  have := lp_fill (f := f) l (fun x => bs (g x)) (fun i x v hx hv => by
    have hi := (List.getElem?_eq_some_iff.1 hx).1
    have e1 : decide ((i : Int) < (l.length : Int)) = true := decide_eq_true (by omega)
    have e2 : rd l (i : Int) = some x := by rw [rd_nat]; exact hx
    have e3 := hF x (List.mem_of_getElem? hx)
    have e5 : ix v (i : Int) = some i := ix_nat (by omega)
    have e6 : wi64 ((i : Int) + 1) = (i : Int) + 1 := wi64_eq (by omega) (by omega)
    rw [hf]
    simp only [e1, if_true, e2, bd_some, e3, e5, lt_eq, e6]) (fun v => by
    rw [hf, if_neg (by simp)]) (List.replicate l.length (bs [])) (by simp)
  rw [this, List.map_map]
  rfl
theorem join_le {s : List UInt8} {l : List (List UInt8)} {c n k : Nat} (h1 : ∀ x ∈ l, x.length ≤ c) (h2 : l.length ≤ n) (hk : n * (c + s.length) ≤ k) : (Lib.join l s).length ≤ k :=
  Nat.le_trans (join_len s c l h1) (Nat.le_trans (Nat.mul_le_mul_right _ h2) hk)
/-! what is written -/
def hpL (h : D_api_Hop) : List UInt8 := if h.2 = 1 then h.1.data.toList else h.1.data.toList ++ 42 :: Lib.itoa h.2
def gpL (g : List D_api_Hop) : List UInt8 := Lib.join (g.map hpL) [44, 32]
def rlL (r : D_api_Rule) : List UInt8 :=
  if r.2.2.1 then Lib.join [Lib.join [[114, 117, 108, 101], r.1.data.toList, txL r.2.1] [32], [100, 114, 111, 112]] [32] ++ [59]
  else Lib.join [Lib.join [[114, 117, 108, 101], r.1.data.toList, txL r.2.1] [32], [118, 105, 97], Lib.join (r.2.2.2.map gpL) [32, 101, 108, 115, 101, 32]] [32] ++ [59]
def ndL (n : D_api_Node) : List UInt8 :=
  if 0 < n.2.length then Lib.join [Lib.join [[110, 111, 100, 101], n.1.data.toList] [32], [104, 111, 109, 101], Lib.join (n.2.map txL) [44, 32]] [32] ++ [59]
  else Lib.join [[110, 111, 100, 101], n.1.data.toList] [32] ++ [59]
def lkL (fp : D_api_Rat → List UInt8) (l : D_api_Link) : List UInt8 := Lib.join [[108, 105, 110, 107], l.1.data.toList, l.2.1.data.toList, l.2.2.1.data.toList, [102, 97, 105, 108], fp l.2.2.2] [32] ++ [59]
def lnL (s : List UInt8) : List UInt8 := [32, 32] ++ s ++ [10]
def ntL (fp : D_api_Rat → List UInt8) (n : D_api_Net) : List UInt8 :=
  Lib.join [[110, 101, 116, 119, 111, 114, 107], n.1.data.toList, [123]] [32] ++ [10] ++ ((n.2.1.map ndL ++ n.2.2.1.map (lkL fp) ++ n.2.2.2.map rlL).map lnL).flatten ++ [125, 10]
def ntsL (fp : D_api_Rat → List UInt8) (l : List D_api_Net) : List UInt8 := (l.map (ntL fp)).flatten
/-! what may be written -/
def Pok (p : D_api_Prefix) : Prop := 0 ≤ p.1 ∧ p.1 < 4294967296
def Hok (h : D_api_Hop) : Prop := h.1.size ≤ 2000 ∧ -9223372036854775807 ≤ h.2 ∧ h.2 ≤ 9223372036854775807
def Rok (r : D_api_Rule) : Prop := r.1.size ≤ 2000 ∧ Pok r.2.1 ∧ r.2.2.2.length ≤ 300 ∧ ∀ g ∈ r.2.2.2, g.length ≤ 2000 ∧ ∀ h ∈ g, Hok h
def Nok (n : D_api_Node) : Prop := n.1.size ≤ 2000 ∧ n.2.length ≤ 300 ∧ ∀ p ∈ n.2, Pok p
def Lok (fp : D_api_Rat → List UInt8) (l : D_api_Link) : Prop := l.1.size ≤ 2000 ∧ l.2.1.size ≤ 2000 ∧ l.2.2.1.size ≤ 2000 ∧ (fp l.2.2.2).length ≤ 100000
def Tok (fp : D_api_Rat → List UInt8) (n : D_api_Net) : Prop := n.1.size ≤ 2000 ∧ (n.2.1.length ≤ 200 ∧ ∀ x ∈ n.2.1, Nok x) ∧ (n.2.2.1.length ≤ 200 ∧ ∀ x ∈ n.2.2.1, Lok fp x) ∧ (n.2.2.2.length ≤ 100 ∧ ∀ x ∈ n.2.2.2, Rok x)
theorem hpL_len {h : D_api_Hop} (hh : Hok h) : (hpL h).length ≤ 2021 := by
  have l1 := itoa_len h.2 (by have := hh.2.1; omega) hh.2.2
  have l2 := hh.1
  have l2' := l2
  rw [size_data] at l2
  unfold hpL
  split
  · omega
  · rw [List.length_append, List.length_cons]; omega
theorem gpL_len {g : List D_api_Hop} (h1 : g.length ≤ 2000) (h : ∀ x ∈ g, Hok x) : (gpL g).length ≤ 4046000 :=
  join_le (c := 2021) (n := 2000) (by intro x hx; obtain ⟨y, hy, rfl⟩ := List.mem_map.1 hx; exact hpL_len (h y hy)) (by simpa using h1) (by decide)
theorem gps_len {l : List (List D_api_Hop)} (h0 : l.length ≤ 300) (h : ∀ g ∈ l, g.length ≤ 2000 ∧ ∀ h ∈ g, Hok h) : (Lib.join (l.map gpL) [32, 101, 108, 115, 101, 32]).length ≤ 1213801800 :=
  join_le (c := 4046000) (n := 300) (by intro x hx; obtain ⟨y, hy, rfl⟩ := List.mem_map.1 hx; exact gpL_len (h y hy).1 (h y hy).2) (by simpa using h0) (by decide)
theorem homes_len {l : List D_api_Prefix} (h0 : l.length ≤ 300) (h : ∀ p ∈ l, Pok p) : (Lib.join (l.map txL) [44, 32]).length ≤ 31800 :=
  join_le (c := 104) (n := 300) (by intro x hx; obtain ⟨y, hy, rfl⟩ := List.mem_map.1 hx; exact txL_len y (h y hy).1 (h y hy).2) (by simpa using h0) (by decide)
theorem rlL_len {r : D_api_Rule} (h : Rok r) : (rlL r).length ≤ 1300000000 := by
  have l1 := txL_len r.2.1 h.2.1.1 h.2.1.2
  have l2 := h.1
  have l2' := l2
  rw [size_data] at l2
  have l3 := gps_len h.2.2.1 h.2.2.2
  unfold rlL
  split
  · simp only [join2, Lib.join_one, List.length_append, List.length_cons, List.length_nil]; omega
  · simp only [join2, Lib.join_one, List.length_append, List.length_cons, List.length_nil] at l3 ⊢; omega
theorem ndL_len {n : D_api_Node} (h : Nok n) : (ndL n).length ≤ 40000 := by
  have l2 := h.1
  have l2' := l2
  rw [size_data] at l2
  have l3 := homes_len h.2.1 h.2.2
  unfold ndL
  split
  · simp only [join2, Lib.join_one, List.length_append, List.length_cons, List.length_nil]; omega
  · simp only [join2, Lib.join_one, List.length_append, List.length_cons, List.length_nil]; omega
theorem lkL_len {fp : D_api_Rat → List UInt8} {l : D_api_Link} (h : Lok fp l) : (lkL fp l).length ≤ 110000 := by
  have l1 := h.1
  have l2 := h.2.1
  have l3 := h.2.2.1
  have l4 := h.2.2.2
  have l1' := l1
  have l2' := l2
  have l3' := l3
  rw [size_data] at l1 l2 l3
  unfold lkL
  simp only [join2, Lib.join_one, List.length_append, List.length_cons, List.length_nil]; omega
/-! the program's way -/
theorem hop_eq {h : D_api_Hop} (hh : Hok h) : m_canon_hop h = some (bs (hpL h)) := by
  have l2 := hh.1
  have l2' := l2
  rw [size_data] at l2
  have l1 := itoa_len h.2 (by have := hh.2.1; omega) hh.2.2
  have e1 := itoa_bs h.2 (by have := hh.2.1; omega) hh.2.2
  have e2 := cat_bs (a := h.1.data.toList) (b := [42]) (by simp; omega)
  have e3 := cat_bs (a := h.1.data.toList ++ [42]) (b := Lib.itoa h.2) (by rw [List.length_append]; simp; omega)
  rw [bs_data] at e2
  unfold m_canon_hop hpL
  by_cases h1 : h.2 = 1
  · rw [if_pos (decide_eq_true h1), if_pos h1]; rfl
  · rw [if_neg (by simpa using h1), if_neg h1]
    simp only [e2, bd_some, e1, e3]
    simp
theorem group_eq {g : List D_api_Hop} (h1 : g.length ≤ 2000) (h : ∀ x ∈ g, Hok x) : m_canon_group g = some (bs (gpL g)) := by
  have e1 := each_gen (f := m_canon_each_api_Hop__canon_hop_l1 g) g (fun x => m_canon_hop (x.1, x.2)) hpL (fun _ _ => rfl) (by omega) (fun x hx => hop_eq (h x hx))
  have e2 := mk16 g.length (by omega)
  have e3 := join_bs (g.map hpL) [44, 32] (by simp; omega) (by have := gpL_len h1 h; unfold gpL at this; omega)
  unfold m_canon_group m_canon_each_api_Hop__canon_hop
  simp only [e2, bd_some, e1, e3]
  rfl
theorem groups_eq {l : List (List D_api_Hop)} (h0 : l.length ≤ 300) (h : ∀ g ∈ l, g.length ≤ 2000 ∧ ∀ h ∈ g, Hok h) : m_canon_each_api_Hop__canon_group l = some ((l.map gpL).map bs) := by
  have e1 := each_gen (f := m_canon_each_api_Hop__canon_group_l1 l) l m_canon_group gpL (fun _ _ => rfl) (by omega) (fun x hx => group_eq (h x hx).1 (h x hx).2)
  have e2 := mk16 l.length (by omega)
  unfold m_canon_each_api_Hop__canon_group
  simp only [e2, bd_some, e1]
theorem rule_eq {r : D_api_Rule} (h : Rok r) : m_canon_Rule r = some (bs (rlL r)) := by
  have l1 := txL_len r.2.1 h.2.1.1 h.2.1.2
  have l2 := h.1
  have l2' := l2
  rw [size_data] at l2
  have l3 := gps_len h.2.2.1 h.2.2.2
  have e1 : m_addr_Text (r.2.1.1, r.2.1.2) = some (bs (txL r.2.1)) := text_eq r.2.1 h.2.1.1 h.2.1.2
  have e2 := groups_eq h.2.2.1 h.2.2.2
  have e3 := join_bs (r.2.2.2.map gpL) [32, 101, 108, 115, 101, 32] (by have := h.2.2.1; simp; omega) (by omega)
  have w1 := words_bs [[114, 117, 108, 101], r.1.data.toList, txL r.2.1] (by simp) (by simp; omega)
  have lw : (Lib.join [[114, 117, 108, 101], r.1.data.toList, txL r.2.1] [32]).length ≤ 3000 := by simp only [join2, Lib.join_one, List.length_append, List.length_cons, List.length_nil]; omega
  have e4 : m_canon_Rule r = bd (some (bs (Lib.join [[114, 117, 108, 101], r.1.data.toList, txL r.2.1] [32]))) fun x3 => if r.2.2.1 then (bd (m_canon_words [x3, (bs [100, 114, 111, 112])]) fun x6 => bd (cat x6 (bs [59])) fun x8 => some x8) else (bd (m_canon_each_api_Hop__canon_group r.2.2.2) fun x10 => bd (m_strings_Join x10 (bs [32, 101, 108, 115, 101, 32])) fun x12 => bd (m_canon_words [x3, (bs [118, 105, 97]), x12]) fun x14 => bd (cat x14 (bs [59])) fun x16 => some x16) := by
    have w1 : m_canon_words [(bs [114, 117, 108, 101]), r.1, bs (txL r.2.1)] = _ := w1
    unfold m_canon_Rule
    rw [e1]
    simp only [bd_some, w1]
  rw [e4, bd_some]
  unfold rlL
  generalize Lib.join [[114, 117, 108, 101], r.1.data.toList, txL r.2.1] [32] = W at *
  cases r.2.2.1 with
  | true =>
    have w2 := words_bs [W, [100, 114, 111, 112]] (by simp) (by simp; omega)
    have w2 : m_canon_words [bs W, bs [100, 114, 111, 112]] = _ := w2
    have c1 := cat_bs (a := Lib.join [W, [100, 114, 111, 112]] [32]) (b := [59]) (by simp only [join2, Lib.join_one, List.length_append, List.length_cons, List.length_nil]; omega)
    simp only [if_true, w2, bd_some, c1]
  | false =>
    generalize Lib.join (r.2.2.2.map gpL) [32, 101, 108, 115, 101, 32] = G at *
    have w2 := words_bs [W, [118, 105, 97], G] (by simp) (by simp; omega)
    have w2 : m_canon_words [bs W, bs [118, 105, 97], bs G] = _ := w2
    have c1 := cat_bs (a := Lib.join [W, [118, 105, 97], G] [32]) (b := [59]) (by simp only [join2, Lib.join_one, List.length_append, List.length_cons, List.length_nil]; omega)
    simp only [e2, e3, w2, bd_some, c1]
    rfl
theorem homes_eq {l : List D_api_Prefix} (h0 : l.length ≤ 300) (h : ∀ p ∈ l, Pok p) : m_canon_each_api_Prefix__addr_Text l = some ((l.map txL).map bs) := by
  have e1 := each_gen (f := m_canon_each_api_Prefix__addr_Text_l1 l) l (fun x => m_addr_Text (x.1, x.2)) txL (fun _ _ => rfl) (by omega) (fun x hx => text_eq x (h x hx).1 (h x hx).2)
  have e2 := mk16 l.length (by omega)
  unfold m_canon_each_api_Prefix__addr_Text
  simp only [e2, bd_some, e1]
theorem node_eq {n : D_api_Node} (h : Nok n) : m_canon_node n = some (bs (ndL n)) := by
  have l2 := h.1
  have l2' := l2
  rw [size_data] at l2
  have l3 := homes_len h.2.1 h.2.2
  have e2 := homes_eq h.2.1 h.2.2
  have e3 := join_bs (n.2.map txL) [44, 32] (by have := h.2.1; simp; omega) (by omega)
  have w1 := words_bs [[110, 111, 100, 101], n.1.data.toList] (by simp) (by simp; omega)
  have w1 : m_canon_words [(bs [110, 111, 100, 101]), n.1] = _ := w1
  have lw : (Lib.join [[110, 111, 100, 101], n.1.data.toList] [32]).length ≤ 3000 := by simp only [join2, Lib.join_one, List.length_append, List.length_cons, List.length_nil]; omega
  unfold m_canon_node ndL
  simp only [w1, bd_some]
  generalize Lib.join [[110, 111, 100, 101], n.1.data.toList] [32] = W at *
  by_cases hn : 0 < n.2.length
  · have e4 : decide (0 < (n.2.length : Int)) = true := decide_eq_true (by omega)
    generalize Lib.join (n.2.map txL) [44, 32] = G at *
    have w2 := words_bs [W, [104, 111, 109, 101], G] (by simp) (by simp; omega)
    have w2 : m_canon_words [bs W, bs [104, 111, 109, 101], bs G] = _ := w2
    have c1 := cat_bs (a := Lib.join [W, [104, 111, 109, 101], G] [32]) (b := [59]) (by simp only [join2, Lib.join_one, List.length_append, List.length_cons, List.length_nil]; omega)
    simp only [e4, if_true, e2, bd_some, e3, w2, c1, if_pos hn]
  · have e4 : decide (0 < (n.2.length : Int)) = false := decide_eq_false (by omega)
    have c1 := cat_bs (a := W) (b := [59]) (by simp; omega)
    simp only [e4, Bool.false_eq_true, if_false, bd_some, if_neg hn, c1]
theorem link_eq {fp : D_api_Rat → List UInt8} {l : D_api_Link} (h : Lok fp l) (hp : m_ratio_Print l.2.2.2 = some (bs (fp l.2.2.2))) : m_canon_link l = some (bs (lkL fp l)) := by
  have l1 := h.1
  have l2 := h.2.1
  have l3 := h.2.2.1
  have l4 := h.2.2.2
  have l1' := l1
  have l2' := l2
  have l3' := l3
  rw [size_data] at l1 l2 l3
  have hp : m_ratio_Print ((l.2.2.2.1.1, l.2.2.2.1.2), l.2.2.2.2) = some (bs (fp l.2.2.2)) := hp
  have w1 := words_bs [[108, 105, 110, 107], l.1.data.toList, l.2.1.data.toList, l.2.2.1.data.toList, [102, 97, 105, 108], fp l.2.2.2] (by simp) (by simp; omega)
  have w1 : m_canon_words [(bs [108, 105, 110, 107]), l.1, l.2.1, l.2.2.1, (bs [102, 97, 105, 108]), bs (fp l.2.2.2)] = _ := w1
  have c1 := cat_bs (a := Lib.join [[108, 105, 110, 107], l.1.data.toList, l.2.1.data.toList, l.2.2.1.data.toList, [102, 97, 105, 108], fp l.2.2.2] [32]) (b := [59]) (by simp only [join2, Lib.join_one, List.length_append, List.length_cons, List.length_nil]; omega)
  unfold m_canon_link lkL
  simp only [hp, bd_some, w1, c1]
/-- lines put into a builder -/
theorem net_l2 (L : List (List UInt8)) (c d : Nat) (hd : c + 3 = d) (hc : ∀ s ∈ L, s.length ≤ c) (hL : L.length * d ≤ 100000000000000) (a0 : List UInt8) (ha : a0.length + L.length * d ≤ 140737488355328) : lp (m_canon_net_l2 (L.map bs)) (0, false, i8 a0) = some (false, i8 (a0 ++ (L.map lnL).flatten)) := by
  have key : ∀ (k i : Nat), i + k = L.length → lp (m_canon_net_l2 (L.map bs)) ((i : Int), false, i8 (a0 ++ ((L.take i).map lnL).flatten)) = some (false, i8 (a0 ++ (L.map lnL).flatten)) := by
    intro k
    induction k with
    | zero =>
      intro i hk
      obtain rfl : i = L.length := by omega
      rw [List.take_of_length_le (Nat.le_refl _)]
      exact lp_done (by simp [m_canon_net_l2])
    | succ k ih =>
      intro i hk
      have hi : L[i]? = some L[i] := List.getElem?_eq_getElem (by omega)
      have hs := hc L[i] (List.getElem_mem _)
      have hcL : c ≤ 100000000000000 := by
        have : 1 * d ≤ L.length * d := Nat.mul_le_mul_right _ (by omega)
        omega
      have hlen : ((L.take i).map lnL).flatten.length ≤ i * d := by
        have := catI_len (fun _ => lnL) d (L.take i) 0 (fun j x hj => by
          have hm := hc x (List.mem_of_mem_take (List.mem_of_getElem? hj))
          unfold lnL
          simp only [List.length_append, List.length_cons, List.length_nil]
          omega)
        rw [catI_flat, List.length_take, Nat.min_eq_left (by omega)] at this
        exact this
      have hLn : L.length ≤ L.length * d := Nat.le_mul_of_pos_right _ (by omega)
      have hle : (i + 1) * d ≤ L.length * d := Nat.mul_le_mul_right _ (by omega)
      rw [Nat.succ_mul] at hle
      have e1 : decide ((i : Int) < ((L.map bs).length : Int)) = true := decide_eq_true (by rw [List.length_map]; omega)
      have e2 : rd (L.map bs) (i : Int) = some (bs L[i]) := by rw [rd_nat, List.getElem?_map, hi]; rfl
      have c1 := cat_bs (a := [32, 32]) (b := L[i]) (by simp; omega)
      have c2 := cat_bs (a := [32, 32] ++ L[i]) (b := [10]) (by simp; omega)
      have c3 := apS_i8 (a0 ++ ((L.take i).map lnL).flatten) (lnL L[i]) (by
        have : (lnL L[i]).length = L[i].length + 3 := by unfold lnL; simp
        rw [this, List.length_append]; omega)
      have e6 : wi64 ((i : Int) + 1) = (i : Int) + 1 := wi64_eq (by omega) (by omega)
      have hs : m_canon_net_l2 (L.map bs) ((i : Int), false, i8 (a0 ++ ((L.take i).map lnL).flatten)) = some (.inl ((i : Int) + 1, false, i8 (a0 ++ ((L.take i).map lnL).flatten ++ lnL L[i]))) := by
        have c3 : apS_ (i8 (a0 ++ ((L.take i).map lnL).flatten)) (bs ([32, 32] ++ L[i] ++ [10])) = _ := c3
        simp only [m_canon_net_l2, e1, if_true, e2, bd_some, c1, c2, m_strings_Builder_WriteString_M, m_strings_Builder_copyCheck_M, c3, e6]
        rfl
      rw [lp_more hs]
      have := ih (i + 1) (by omega)
      rw [List.take_add_one, hi, List.map_append, List.flatten_append] at this
      simp only [Option.toList, List.map_cons, List.map_nil, List.flatten_cons, List.flatten_nil, List.append_nil] at this
      rw [← List.append_assoc] at this
      simpa using this
  have := key L.length 0 (by omega)
  simpa using this
theorem ntL_len {fp : D_api_Rat → List UInt8} {n : D_api_Net} (h : Tok fp n) : (ntL fp n).length ≤ 140000000000 := by
  have l1 := h.1
  have l1' := l1
  rw [size_data] at l1
  have a1 := catI_len (fun _ => lnL) 40003 (n.2.1.map ndL) 0 (fun j x hj => by
    obtain ⟨y, hy, rfl⟩ := List.mem_map.1 (List.mem_of_getElem? hj)
    have := ndL_len (h.2.1.2 y hy)
    unfold lnL; simp; omega)
  have a2 := catI_len (fun _ => lnL) 110003 (n.2.2.1.map (lkL fp)) 0 (fun j x hj => by
    obtain ⟨y, hy, rfl⟩ := List.mem_map.1 (List.mem_of_getElem? hj)
    have := lkL_len (h.2.2.1.2 y hy)
    unfold lnL; simp; omega)
  have a3 := catI_len (fun _ => lnL) 1300000003 (n.2.2.2.map rlL) 0 (fun j x hj => by
    obtain ⟨y, hy, rfl⟩ := List.mem_map.1 (List.mem_of_getElem? hj)
    have := rlL_len (h.2.2.2.2 y hy)
    unfold lnL; simp; omega)
  rw [catI_flat, List.length_map] at a1 a2 a3
  have b1 : n.2.1.length * 40003 ≤ 200 * 40003 := Nat.mul_le_mul_right _ h.2.1.1
  have b2 : n.2.2.1.length * 110003 ≤ 200 * 110003 := Nat.mul_le_mul_right _ h.2.2.1.1
  have b3 : n.2.2.2.length * 1300000003 ≤ 100 * 1300000003 := Nat.mul_le_mul_right _ h.2.2.2.1
  unfold ntL
  rw [List.map_append, List.map_append, List.flatten_append, List.flatten_append]
  simp only [join2, Lib.join_one, List.length_append, List.length_cons, List.length_nil]
  omega
theorem net_eq {fp : D_api_Rat → List UInt8} {n : D_api_Net} (h : Tok fp n) (hp : ∀ x ∈ n.2.2.1, m_ratio_Print x.2.2.2 = some (bs (fp x.2.2.2))) : m_canon_net n = some (bs (ntL fp n)) := by
  have l1 := h.1
  have l1' := l1
  rw [size_data] at l1
  have w1 := words_bs [[110, 101, 116, 119, 111, 114, 107], n.1.data.toList, [123]] (by simp) (by simp; omega)
  have w1 : m_canon_words [(bs [110, 101, 116, 119, 111, 114, 107]), n.1, (bs [123])] = _ := w1
  have lw : (Lib.join [[110, 101, 116, 119, 111, 114, 107], n.1.data.toList, [123]] [32]).length ≤ 3000 := by simp only [join2, Lib.join_one, List.length_append, List.length_cons, List.length_nil]; omega
  have c1 := cat_bs (a := Lib.join [[110, 101, 116, 119, 111, 114, 107], n.1.data.toList, [123]] [32]) (b := [10]) (by simp; omega)
  have q1 : m_canon_each_api_Node__canon_node n.2.1 = some ((n.2.1.map ndL).map bs) := by
    have e1 := each_gen (f := m_canon_each_api_Node__canon_node_l1 n.2.1) n.2.1 (fun x => m_canon_node (x.1, x.2)) ndL (fun _ _ => rfl) (by have := h.2.1.1; omega) (fun x hx => node_eq (h.2.1.2 x hx))
    have e2 := mk16 n.2.1.length (by have := h.2.1.1; omega)
    unfold m_canon_each_api_Node__canon_node
    simp only [e2, bd_some, e1]
  have q2 : m_canon_each_api_Link__canon_link n.2.2.1 = some ((n.2.2.1.map (lkL fp)).map bs) := by
    have e1 := each_gen (f := m_canon_each_api_Link__canon_link_l1 n.2.2.1) n.2.2.1 (fun x => m_canon_link (x.1, x.2.1, x.2.2.1, ((x.2.2.2.1.1, x.2.2.2.1.2), x.2.2.2.2))) (lkL fp) (fun _ _ => rfl) (by have := h.2.2.1.1; omega) (fun x hx => link_eq (h.2.2.1.2 x hx) (hp x hx))
    have e2 := mk16 n.2.2.1.length (by have := h.2.2.1.1; omega)
    unfold m_canon_each_api_Link__canon_link
    simp only [e2, bd_some, e1]
  have q3 : m_canon_each_api_Rule__canon_Rule n.2.2.2 = some ((n.2.2.2.map rlL).map bs) := by
    have e1 := each_gen (f := m_canon_each_api_Rule__canon_Rule_l1 n.2.2.2) n.2.2.2 (fun x => m_canon_Rule (x.1, (x.2.1.1, x.2.1.2), x.2.2.1, x.2.2.2)) rlL (fun _ _ => rfl) (by have := h.2.2.2.1; omega) (fun x hx => rule_eq (h.2.2.2.2 x hx))
    have e2 := mk16 n.2.2.2.length (by have := h.2.2.2.1; omega)
    unfold m_canon_each_api_Rule__canon_Rule
    simp only [e2, bd_some, e1]
  have hb := ntL_len h
  unfold ntL at hb ⊢
  rw [List.map_append, List.map_append, List.flatten_append, List.flatten_append] at hb ⊢
  have r1 : ∀ s ∈ n.2.1.map ndL, s.length ≤ 40000 := by intro s hs; obtain ⟨y, hy, rfl⟩ := List.mem_map.1 hs; exact ndL_len (h.2.1.2 y hy)
  have r2 : ∀ s ∈ n.2.2.1.map (lkL fp), s.length ≤ 110000 := by intro s hs; obtain ⟨y, hy, rfl⟩ := List.mem_map.1 hs; exact lkL_len (h.2.2.1.2 y hy)
  have r3 : ∀ s ∈ n.2.2.2.map rlL, s.length ≤ 1300000000 := by intro s hs; obtain ⟨y, hy, rfl⟩ := List.mem_map.1 hs; exact rlL_len (h.2.2.2.2 y hy)
  have b1 : (n.2.1.map ndL).length ≤ 200 := by rw [List.length_map]; exact h.2.1.1
  have b2 : (n.2.2.1.map (lkL fp)).length ≤ 200 := by rw [List.length_map]; exact h.2.2.1.1
  have b3 : (n.2.2.2.map rlL).length ≤ 100 := by rw [List.length_map]; exact h.2.2.2.1
  generalize n.2.1.map ndL = L1 at *
  generalize n.2.2.1.map (lkL fp) = L2 at *
  generalize n.2.2.2.map rlL = L3 at *
  generalize hW : Lib.join [[110, 101, 116, 119, 111, 114, 107], n.1.data.toList, [123]] [32] ++ [10] = W at *
  have hWl : W.length ≤ 4000 := by rw [← hW, List.length_append]; simp; omega
  have m1 : L1.length * 40003 ≤ 200 * 40003 := Nat.mul_le_mul_right _ b1
  have m2 : L2.length * 110003 ≤ 200 * 110003 := Nat.mul_le_mul_right _ b2
  have m3 : L3.length * 1300000003 ≤ 100 * 1300000003 := Nat.mul_le_mul_right _ b3
  have n1 := net_l2 L1 40000 40003 rfl r1 (Nat.le_trans m1 (by decide)) W (Nat.le_trans (Nat.add_le_add hWl m1) (by decide))
  have hl1 : (W ++ (L1.map lnL).flatten).length ≤ 140000000000 := by simp only [List.length_append] at hb ⊢; omega
  have n2 := net_l2 L2 110000 110003 rfl r2 (Nat.le_trans m2 (by decide)) (W ++ (L1.map lnL).flatten) (Nat.le_trans (Nat.add_le_add hl1 m2) (by decide))
  have hl2 : (W ++ (L1.map lnL).flatten ++ (L2.map lnL).flatten).length ≤ 140000000000 := by simp only [List.length_append] at hb ⊢; omega
  have n3 := net_l2 L3 1300000000 1300000003 rfl r3 (Nat.le_trans m3 (by decide)) (W ++ (L1.map lnL).flatten ++ (L2.map lnL).flatten) (Nat.le_trans (Nat.add_le_add hl2 m3) (by decide))
  have hl3 : (W ++ (L1.map lnL).flatten ++ (L2.map lnL).flatten ++ (L3.map lnL).flatten).length ≤ 140000000000 := by simp only [List.length_append] at hb ⊢; omega
  have s0 : m_strings_Builder_WriteString_M (bs W) true [] = some (false, i8 W) := by
    have := apS_i8 [] W (by simp; omega)
    have : apS_ [] (bs W) = some (i8 W) := this
    unfold m_strings_Builder_WriteString_M m_strings_Builder_copyCheck_M
    simp only [if_true, bd_some, this]
  have hloop : lp (m_canon_net_l1 (L1.map bs) (L2.map bs) (L3.map bs)) (0, false, i8 W) = some (false, i8 (W ++ (L1.map lnL).flatten ++ (L2.map lnL).flatten ++ (L3.map lnL).flatten)) := by
    have w01 : wi64 (0 + 1) = 1 := wi64_eq (by decide) (by decide)
    have w12 : wi64 (1 + 1) = 2 := wi64_eq (by decide) (by decide)
    have w23 : wi64 (2 + 1) = 3 := wi64_eq (by decide) (by decide)
    have t0 : m_canon_net_l1 (L1.map bs) (L2.map bs) (L3.map bs) (0, false, i8 W) = some (.inl (1, false, i8 (W ++ (L1.map lnL).flatten))) := by
      have e : rd [L1.map bs, L2.map bs, L3.map bs] 0 = some (L1.map bs) := rfl
      have d : decide ((0 : Int) < ([L1.map bs, L2.map bs, L3.map bs].length : Int)) = true := rfl
      simp only [m_canon_net_l1, d, if_true, e, bd_some, n1, w01]
    have t1 : m_canon_net_l1 (L1.map bs) (L2.map bs) (L3.map bs) (1, false, i8 (W ++ (L1.map lnL).flatten)) = some (.inl (2, false, i8 (W ++ (L1.map lnL).flatten ++ (L2.map lnL).flatten))) := by
      have e : rd [L1.map bs, L2.map bs, L3.map bs] 1 = some (L2.map bs) := rfl
      have d : decide ((1 : Int) < ([L1.map bs, L2.map bs, L3.map bs].length : Int)) = true := rfl
      simp only [m_canon_net_l1, d, if_true, e, bd_some, n2, w12]
    have t2 : m_canon_net_l1 (L1.map bs) (L2.map bs) (L3.map bs) (2, false, i8 (W ++ (L1.map lnL).flatten ++ (L2.map lnL).flatten)) = some (.inl (3, false, i8 (W ++ (L1.map lnL).flatten ++ (L2.map lnL).flatten ++ (L3.map lnL).flatten))) := by
      have e : rd [L1.map bs, L2.map bs, L3.map bs] 2 = some (L3.map bs) := rfl
      have d : decide ((2 : Int) < ([L1.map bs, L2.map bs, L3.map bs].length : Int)) = true := rfl
      simp only [m_canon_net_l1, d, if_true, e, bd_some, n3, w23]
    rw [lp_more t0, lp_more t1, lp_more t2]
    exact lp_done (by
      have d : decide ((3 : Int) < ([L1.map bs, L2.map bs, L3.map bs].length : Int)) = false := rfl
      simp only [m_canon_net_l1, d]
      rfl)
  generalize hU : W ++ (L1.map lnL).flatten ++ (L2.map lnL).flatten ++ (L3.map lnL).flatten = U at *
  have s1 : m_strings_Builder_WriteString_M (bs [125, 10]) false (i8 U) = some (false, i8 (U ++ [125, 10])) := by
    have := apS_i8 U [125, 10] (by simp; omega)
    unfold m_strings_Builder_WriteString_M m_strings_Builder_copyCheck_M
    simp only [bd_some, this]
    rfl
  have s2 : m_strings_Builder_String_M false (i8 (U ++ [125, 10])) = some (bs (U ++ [125, 10])) := by
    have hne : U ++ [125, 10] ≠ [] := by simp
    unfold m_strings_Builder_String_M
    rw [if_neg (by unfold i8; simp)]
    simp only [bd_some, ust_i8 _ hne]
  unfold m_canon_net
  simp only [w1, bd_some, c1, s0, q1, q2, q3, hloop, s1, s2]
  rw [← hU]
  simp [List.append_assoc]
theorem Nets_eq {fp : D_api_Rat → List UInt8} {l : List D_api_Net} (hl : l.length ≤ 150) (h : ∀ n ∈ l, Tok fp n) (hp : ∀ n ∈ l, ∀ x ∈ n.2.2.1, m_ratio_Print x.2.2.2 = some (bs (fp x.2.2.2))) : m_canon_Nets l = some (bs (ntsL fp l)) := by
  have e1 := each_gen (f := m_canon_each_api_Net__canon_net_l1 l) l (fun x => m_canon_net (x.1, x.2.1, x.2.2.1, x.2.2.2)) (ntL fp) (fun _ _ => rfl) (by omega) (fun x hx => net_eq (h x hx) (hp x hx))
  have e2 := mk16 l.length (by omega)
  have e3 := join_bs (l.map (ntL fp)) [] (by simp; omega) (join_le (c := 140000000000) (n := 150) (by intro x hx; obtain ⟨y, hy, rfl⟩ := List.mem_map.1 hx; exact ntL_len (h y hy)) (by simpa using hl) (by decide))
  have e3 : m_strings_Join ((l.map (ntL fp)).map bs) (bs []) = _ := e3
  unfold m_canon_Nets m_canon_each_api_Net__canon_net
  simp only [e2, bd_some, e1, e3]
  unfold ntsL
  rw [join_nilsep]
end Go.Proofs.YthnheieajicpfaaGreatDoor.AP
/- Queries' texts, by both. -/
namespace Go.Proofs.YthnheieajicpfaaGreatDoor.AP
open Go
set_option linter.unusedVariables false
set_option linter.unusedSimpArgs false
/-- a query's text -/
def qyL (k : Int) (N O F : List UInt8) (d : Int) (p : D_api_Prefix) (K : Int) : List UInt8 :=
  if k = 1 then Lib.join [[112, 114, 111, 98], N, F, prL d] [32] ++ [59]
  else if k = 2 then Lib.join [[104, 111, 112, 115], N, F, prL d] [32] ++ [59]
  else if k = 3 then Lib.join [[119, 105, 116, 104, 105, 110], N, F, prL d, Lib.itoa K] [32] ++ [59]
  else if k = 4 then Lib.join [[99, 111, 109, 112, 97, 114, 101], N, O, F, txL p] [32] ++ [59]
  else []
section
variable (k : Int) (N O F : List UInt8) (d : Int) (p : D_api_Prefix) (K : Int) (hN : N.length ≤ 1000) (hO : O.length ≤ 1000) (hF : F.length ≤ 1000) (hd0 : 0 ≤ d) (hd1 : d < 4294967296) (hp0 : 0 ≤ p.1) (hp1 : p.1 < 4294967296) (hK0 : -9223372036854775807 ≤ K) (hK1 : K ≤ 9223372036854775807)
include hN hO hF hd0 hd1 hp0 hp1 hK0 hK1
theorem qyL_len : (qyL k N O F d p K).length ≤ 6000 := by
  have l1 := prL_len d hd0 hd1
  have l2 := txL_len p hp0 hp1
  have l3 := itoa_len K (by omega) hK1
  unfold qyL
  split
  · simp only [join2, Lib.join_one, List.length_append, List.length_cons, List.length_nil]; omega
  split
  · simp only [join2, Lib.join_one, List.length_append, List.length_cons, List.length_nil]; omega
  split
  · simp only [join2, Lib.join_one, List.length_append, List.length_cons, List.length_nil]; omega
  split
  · simp only [join2, Lib.join_one, List.length_append, List.length_cons, List.length_nil]; omega
  · simp
theorem query_eq : m_canon_Query (k, bs N, bs O, bs F, d, p, K) = some (bs (qyL k N O F d p K)) := by
  have l1 := prL_len d hd0 hd1
  have l2 := txL_len p hp0 hp1
  have l3 := itoa_len K (by omega) hK1
  have e1 := print_eq d hd0 hd1
  have e2 : m_addr_Text (p.1, p.2) = some (bs (txL p)) := text_eq p hp0 hp1
  have e3 := itoa_bs K (by omega) hK1
  have w1 := words_bs [[112, 114, 111, 98], N, F, prL d] (by simp) (by simp; omega)
  have w2 := words_bs [[104, 111, 112, 115], N, F, prL d] (by simp) (by simp; omega)
  have w3 := words_bs [[119, 105, 116, 104, 105, 110], N, F, prL d, Lib.itoa K] (by simp) (by simp; omega)
  have w4 := words_bs [[99, 111, 109, 112, 97, 114, 101], N, O, F, txL p] (by simp) (by simp; omega)
  simp only [List.map_cons, List.map_nil] at w1 w2 w3 w4
  have c1 := cat_bs (a := Lib.join [[112, 114, 111, 98], N, F, prL d] [32]) (b := [59]) (by simp only [join2, Lib.join_one, List.length_append, List.length_cons, List.length_nil]; omega)
  have c2 := cat_bs (a := Lib.join [[104, 111, 112, 115], N, F, prL d] [32]) (b := [59]) (by simp only [join2, Lib.join_one, List.length_append, List.length_cons, List.length_nil]; omega)
  have c3 := cat_bs (a := Lib.join [[119, 105, 116, 104, 105, 110], N, F, prL d, Lib.itoa K] [32]) (b := [59]) (by simp only [join2, Lib.join_one, List.length_append, List.length_cons, List.length_nil]; omega)
  have c4 := cat_bs (a := Lib.join [[99, 111, 109, 112, 97, 114, 101], N, O, F, txL p] [32]) (b := [59]) (by simp only [join2, Lib.join_one, List.length_append, List.length_cons, List.length_nil]; omega)
  unfold m_canon_Query qyL
  simp only [e1, bd_some]
  by_cases h1 : k = 1
  · simp only [h1, decide_true, if_true, w1, bd_some, c1]
  by_cases h2 : k = 2
  · simp only [h2, decide_true, if_true, w2, bd_some, c2]
    rfl
  by_cases h3 : k = 3
  · simp only [h3, decide_true, if_true, w3, bd_some, c3, e3]
    rfl
  by_cases h4 : k = 4
  · simp only [h4, decide_true, if_true, w4, bd_some, c4, e2]
    rfl
  · simp only [decide_eq_false h1, decide_eq_false h2, decide_eq_false h3, decide_eq_false h4, if_neg h1, if_neg h2, if_neg h3, if_neg h4]
    rfl
theorem refQuery_eq : m_triviumref22_Query (k, bs N, bs O, bs F, d, p, K) = some (bs (qyL k N O F d p K)) := by
  have l1 := prL_len d hd0 hd1
  have l2 := txL_len p hp0 hp1
  have l3 := itoa_len K (by omega) hK1
  have e1 := refPrint_eq d hd0 hd1
  have e2 : m_triviumref18_Text (p.1, p.2) = some (bs (txL p)) := refText_eq p hp0 hp1
  have e3 := baseItoa K hK0 hK1
  unfold m_triviumref22_Query qyL
  simp only [e1, e2, e3]
  generalize prL d = D at *
  generalize txL p = T at *
  generalize Lib.itoa K = I at *
  simp (disch := (simp only [List.length_append, List.length_cons, List.length_nil]; omega)) only [cat_bs, bd_some]
  by_cases h1 : k = 1
  · simp [h1, join2, Lib.join_one, List.append_assoc]
  by_cases h2 : k = 2
  · simp [h2, join2, Lib.join_one, List.append_assoc]
  by_cases h3 : k = 3
  · simp [h3, join2, Lib.join_one, List.append_assoc]
  by_cases h4 : k = 4
  · simp [h4, join2, Lib.join_one, List.append_assoc]
  · simp [h1, h2, h3, h4]
end
/-- a query that may be written -/
def Qok (q : D_api_Query) : Prop := q.2.1.size ≤ 1000 ∧ q.2.2.1.size ≤ 1000 ∧ q.2.2.2.1.size ≤ 1000 ∧ (0 ≤ q.2.2.2.2.1 ∧ q.2.2.2.2.1 < 4294967296) ∧ (0 ≤ q.2.2.2.2.2.1.1 ∧ q.2.2.2.2.2.1.1 < 4294967296) ∧ (-9223372036854775807 ≤ q.2.2.2.2.2.2 ∧ q.2.2.2.2.2.2 ≤ 9223372036854775807)
def qL (q : D_api_Query) : List UInt8 := qyL q.1 q.2.1.data.toList q.2.2.1.data.toList q.2.2.2.1.data.toList q.2.2.2.2.1 q.2.2.2.2.2.1 q.2.2.2.2.2.2
theorem qL_len {q : D_api_Query} (h : Qok q) : (qL q).length ≤ 6000 := qyL_len _ _ _ _ _ _ _ h.1 h.2.1 h.2.2.1 h.2.2.2.1.1 h.2.2.2.1.2 h.2.2.2.2.1.1 h.2.2.2.2.1.2 h.2.2.2.2.2.1 h.2.2.2.2.2.2
theorem qL_eq {q : D_api_Query} (h : Qok q) : m_canon_Query q = some (bs (qL q)) := query_eq _ _ _ _ _ _ _ h.1 h.2.1 h.2.2.1 h.2.2.2.1.1 h.2.2.2.1.2 h.2.2.2.2.1.1 h.2.2.2.2.1.2 h.2.2.2.2.2.1 h.2.2.2.2.2.2
theorem qL_ref {q : D_api_Query} (h : Qok q) : m_triviumref22_Query q = some (bs (qL q)) := refQuery_eq _ _ _ _ _ _ _ h.1 h.2.1 h.2.2.1 h.2.2.2.1.1 h.2.2.2.1.2 h.2.2.2.2.1.1 h.2.2.2.2.1.2 h.2.2.2.2.2.1 h.2.2.2.2.2.2
/-- queries' text -/
def qsL (l : List D_api_Query) : List UInt8 := (l.map fun q => qL q ++ [10]).flatten
theorem Queries_eq (l : List D_api_Query) (hl : l.length ≤ 1000000) (h : ∀ q ∈ l, Qok q) : m_canon_Queries l = some (bs (qsL l)) := by
  have hm := mk16 l.length (by omega)
  have hloop := lp_fill (f := m_canon_each_api_Query__canon_Queries_1_l1 l) l (fun q => bs (qL q ++ [10])) (fun i q v hq hv => by
    have hi := (List.getElem?_eq_some_iff.1 hq).1
    have hmem := List.mem_of_getElem? hq
    have e1 : decide ((i : Int) < (l.length : Int)) = true := decide_eq_true (by omega)
    have e2 : rd l (i : Int) = some q := by rw [rd_nat]; exact hq
    have e3 : m_canon_Query (q.1, q.2.1, q.2.2.1, q.2.2.2.1, q.2.2.2.2.1, (q.2.2.2.2.2.1.1, q.2.2.2.2.2.1.2), q.2.2.2.2.2.2) = some (bs (qL q)) := qL_eq (h q hmem)
    have e4 := cat_bs (a := qL q) (b := [10]) (by have := qL_len (h q hmem); simp; omega)
    have e5 : ix v (i : Int) = some i := ix_nat (by omega)
    have e6 : wi64 ((i : Int) + 1) = (i : Int) + 1 := wi64_eq (by omega) (by omega)
    simp only [m_canon_each_api_Query__canon_Queries_1_l1, e1, if_true, e2, bd_some, m_canon_Queries_1, e3, e4, e5, lt_eq, e6]) (fun v => by
    simp [m_canon_each_api_Query__canon_Queries_1_l1]) (List.replicate l.length (bs [])) (by simp)
  have hlen : (Lib.join (l.map fun q => qL q ++ [10]) []).length ≤ 140737488355328 := by
    have := join_len [] 6001 (l.map fun q => qL q ++ [10]) (by
      intro x hx
      obtain ⟨q, hq, rfl⟩ := List.mem_map.1 hx
      have := qL_len (h q hq)
      simp; omega)
    simp at this
    omega
  have hj := join_bs (l.map fun q => qL q ++ [10]) [] (by simp; omega) hlen
  rw [List.map_map] at hj
  have hj : m_strings_Join (l.map fun q => bs (qL q ++ [10])) (bs []) = _ := hj
  unfold m_canon_Queries m_canon_each_api_Query__canon_Queries_1
  simp only [hm, bd_some, hloop, hj]
  unfold qsL
  rw [join_nilsep]
theorem refQueries_eq (l : List D_api_Query) (hl : l.length ≤ 1000000) (h : ∀ q ∈ l, Qok q) : m_triviumref22_Queries l = some (bs (qsL l)) := by
  have hloop := lp_acc (f := m_triviumref22_Queries_l1 l) (r := some (bs (qsL l))) l (fun _ q => qL q ++ [10]) 6001 [] (fun i q hq => by
    have := qL_len (h q (List.mem_of_getElem? hq))
    simp; omega) (fun i q acc hq ha => by
    have hi := (List.getElem?_eq_some_iff.1 hq).1
    have hmem := List.mem_of_getElem? hq
    have hlq := qL_len (h q hmem)
    have e1 : decide ((i : Int) < (l.length : Int)) = true := decide_eq_true (by omega)
    have e2 : rd l (i : Int) = some q := by rw [rd_nat]; exact hq
    have e3 := qL_ref (h q hmem)
    have ha : acc.length ≤ l.length * 6001 := by simpa using ha
    have e4 := cat_bs (a := qL q) (b := [10]) (by simp; omega)
    have e5 := cat_bs (a := acc) (b := qL q ++ [10]) (by simp; omega)
    have e6 : wi64 ((i : Int) + 1) = (i : Int) + 1 := wi64_eq (by omega) (by omega)
    simp only [m_triviumref22_Queries_l1, e1, if_true, e2, bd_some, e3, e4, e5, e6]) (by
    rw [lp_done (x := bs ([] ++ catI (fun _ q => qL q ++ [10]) 0 l)) (by simp [m_triviumref22_Queries_l1])]
    rw [catI_flat]
    rfl)
  unfold m_triviumref22_Queries
  have hloop : lp (m_triviumref22_Queries_l1 l) (bs [], 0) = some (bs (qsL l)) := hloop
  rw [hloop]
  rfl
end Go.Proofs.YthnheieajicpfaaGreatDoor.AP
/- Queries that are cleaned may be written; the law of their texts. -/
namespace Go.Proofs.YthnheieajicpfaaGreatDoor.AP
open Go
set_option linter.unusedVariables false
set_option linter.unusedSimpArgs false
def shB (s : ByteArray) : ByteArray := s.extract 0 (min s.size 20)
theorem shB_size (s : ByteArray) : (shB s).size ≤ 20 := by
  unfold shB
  rw [ByteArray.size_extract]
  omega
theorem short_shB (s : ByteArray) : m_triviumref22_short s = some (shB s) := by
  have : cs s 0 (min (s.size : Int) 20) = some (shB s) := by
    unfold cs shB
    rw [if_pos (by omega)]
    have : (min (s.size : Int) 20).toNat = min s.size 20 := by omega
    rw [this]
    rfl
  unfold m_triviumref22_short
  rw [this]
  rfl
def cK (K : Int) : Int := if K < -1000000 then 3 else if 2147483648 < K then 3 else K
theorem cK_ok (K : Int) : -1000000 ≤ cK K ∧ cK K ≤ 2147483648 := by
  unfold cK
  split
  · omega
  · split <;> omega
def cQ (q : D_api_Query) : D_api_Query := (q.1, shB q.2.1, shB q.2.2.1, shB q.2.2.2.1, q.2.2.2.2.1, (q.2.2.2.2.2.1.1, q.2.2.2.2.2.1.2), cK q.2.2.2.2.2.2)
theorem cleanQuery_eq (q : D_api_Query) : m_triviumref22_CleanQuery q = some (cQ q) := by
  unfold m_triviumref22_CleanQuery cQ cK
  simp only [short_shB, bd_some]
  by_cases h1 : q.2.2.2.2.2.2 < -1000000
  · simp only [decide_eq_true h1, if_true, bd_some, if_pos h1]
  · by_cases h2 : 2147483648 < q.2.2.2.2.2.2
    · simp only [decide_eq_false h1, decide_eq_true h2, Bool.false_eq_true, if_false, if_true, bd_some, if_neg h1, if_pos h2]
    · simp only [decide_eq_false h1, decide_eq_false h2, Bool.false_eq_true, if_false, bd_some, if_neg h1, if_neg h2]
/-- a query whose addresses may be -/
def Qin (q : D_api_Query) : Prop := (0 ≤ q.2.2.2.2.1 ∧ q.2.2.2.2.1 < 4294967296) ∧ (0 ≤ q.2.2.2.2.2.1.1 ∧ q.2.2.2.2.2.1.1 < 4294967296)
theorem cQ_ok {q : D_api_Query} (h : Qin q) : Qok (cQ q) := by
  have h1 := shB_size q.2.1
  have h2 := shB_size q.2.2.1
  have h3 := shB_size q.2.2.2.1
  have h4 := cK_ok q.2.2.2.2.2.2
  refine ⟨?_, ?_, ?_, h.1, h.2, ?_, ?_⟩
  · show (shB q.2.1).size ≤ 1000; omega
  · show (shB q.2.2.1).size ≤ 1000; omega
  · show (shB q.2.2.2.1).size ≤ 1000; omega
  · show -9223372036854775807 ≤ cK _; omega
  · show cK _ ≤ 9223372036854775807; omega
end Go.Proofs.YthnheieajicpfaaGreatDoor.AP
/- Limits: queries; what is looked for in a list; the chapter's example. -/
namespace Go.Proofs.YthnheieajicpfaaGreatDoor.AP
open Go Go.Proofs.YthnheieajicpfaaGreatDoor.Tri
set_option linter.unusedVariables false
set_option linter.unusedSimpArgs false
theorem con_gen {α : Type} {f : Int → Option (Int ⊕ Int)} (l : List α) (p : α → Bool) (F : α → Option Bool) (hF : ∀ x ∈ l, F x = some (p x)) (hl : l.length ≤ 4611686018427387904)
    (hf : ∀ v : Int, f v = if decide (v < (l.length : Int)) then (bd (rd l v) fun x => bd (F x) fun b => if b then some (.inr v) else some (.inl (wi64 (v + 1)))) else some (.inr (-1))) :
    lp f 0 = some (idx p l) := by
  rw [lp_first l p (fun i => (i : Int)) (some (-1)) (fun i x hx => by
    have hi := (List.getElem?_eq_some_iff.1 hx).1
    rw [hf, if_pos (decide_eq_true (by omega)), show rd l (i : Int) = some x from by rw [rd_nat]; exact hx, bd_some, hF x (List.mem_of_getElem? hx), bd_some, wi64_eq (by omega) (by omega)]
    cases p x <;> rfl) (lp_done (by rw [hf, if_neg (by simp)]))]
  unfold idx
  split <;> rfl
theorem conQ (l : List D_api_Query) (hl : l.length ≤ 4611686018427387904) : m_slices_ContainsFunc_api_Query_api_Query__limits_Queries_1 l = some (l.any fun q => decide (64 < q.2.2.2.2.2.2)) := by
  have : m_slices_IndexFunc_api_Query_api_Query__limits_Queries_1 l = some (idx (fun q => decide (64 < q.2.2.2.2.2.2)) l) :=
    con_gen l _ m_limits_Queries_1 (fun x _ => rfl) hl (fun v => rfl)
  unfold m_slices_ContainsFunc_api_Query_api_Query__limits_Queries_1
  rw [this, bd_some, idx_any]
theorem limQ_eq (l : List D_api_Query) (hl : l.length ≤ 1000) (h : ∀ q ∈ l, Qok q) :
    m_limits_Queries l = some (decide (l.length ≤ 32) && !(l.any fun q => decide (64 < q.2.2.2.2.2.2)) && decide ((qsL l).length ≤ 8192)) := by
  unfold m_limits_Queries
  rw [conQ l (by omega), Queries_eq l (by omega) h]
  simp only [bd_some]
  have e : (bs (qsL l)).size = (qsL l).length := by rw [size_data]; rfl
  rw [e]
  by_cases h32 : l.length ≤ 32
  · rw [if_neg (by simp; omega), decide_eq_true h32, Bool.true_and]
    cases hc : l.any fun q => decide (64 < q.2.2.2.2.2.2) with
    | true => rfl
    | false =>
      rw [bd_some, if_neg (by decide)]
      simp
      omega
  · rw [if_pos (decide_eq_true (by omega)), decide_eq_false h32]
    rfl
theorem refQ24_eq (l : List D_api_Query) (hl : l.length ≤ 1000) (h : ∀ q ∈ l, Qok q) :
    m_triviumref24_Queries l = some (decide (l.length ≤ 32) && !(l.any fun q => decide (64 < q.2.2.2.2.2.2)) && decide ((qsL l).length ≤ 8192)) := by
  have e0 : (bs (qsL l)).size = (qsL l).length := by rw [size_data]; rfl
  unfold m_triviumref24_Queries
  rw [lp_first l (fun q => decide (64 < q.2.2.2.2.2.2)) (fun _ => false) (some (decide (l.length ≤ 32) && decide ((qsL l).length ≤ 8192))) (fun i x hx => by
    have hi := (List.getElem?_eq_some_iff.1 hx).1
    simp only [m_triviumref24_Queries_l1]
    rw [if_pos (decide_eq_true (by omega)), show rd l (i : Int) = some x from by rw [rd_nat]; exact hx, bd_some, wi64_eq (by omega) (by omega)]
    cases decide (64 < x.2.2.2.2.2.2) <;> rfl) (by
    refine lp_done ?_
    simp only [m_triviumref24_Queries_l1]
    rw [if_neg (by simp), refQueries_eq l (by omega) h, bd_some, e0]
    by_cases h32 : l.length ≤ 32
    · rw [if_pos (decide_eq_true (by omega)), decide_eq_true h32]; simp; omega
    · rw [if_neg (by simp; omega), decide_eq_false h32]; rfl)]
  have ha := fst_any (fun q : D_api_Query => decide (64 < q.2.2.2.2.2.2)) l
  by_cases hf : fst_ (fun q : D_api_Query => decide (64 < q.2.2.2.2.2.2)) l < l.length
  · rw [if_pos hf, ← ha, decide_eq_true hf]; simp
  · rw [if_neg hf, ← ha, decide_eq_false hf]; simp
/-! the chapter's example -/
def n0 (c : UInt8) : D_api_Net := (bs [c], [], [], [])
theorem idx_nil {α : Type} (p : α → Bool) : idx p ([] : List α) = -1 := rfl
theorem limNet0 (c : UInt8) : m_limits_net (n0 c) = some false := by
  have e1 : m_slices_IndexFunc_api_Node_api_Node__limits_node [] = some (-1) := lp_done rfl
  have e2 : m_slices_IndexFunc_api_Link_api_Link__limits_link [] = some (-1) := lp_done rfl
  have e3 : m_slices_IndexFunc_api_Rule_api_Rule__limits_rule [] = some (-1) := lp_done rfl
  show (bd (bd (m_name_Long (bs [c])) _) _) = _
  rw [show m_name_Long (bs [c]) = some false from rfl]
  show bd (bd (m_slices_IndexFunc_api_Node_api_Node__limits_node []) _) _ = _
  rw [e1]
  show bd (bd (m_slices_IndexFunc_api_Link_api_Link__limits_link []) _) _ = _
  rw [e2]
  show bd (bd (m_slices_IndexFunc_api_Rule_api_Rule__limits_rule []) _) _ = _
  rw [e3]
  rfl
theorem conN (l : List D_api_Net) (p : D_api_Net → Bool) (hl : l.length ≤ 4611686018427387904) (h : ∀ x ∈ l, m_limits_net x = some (p x)) : m_slices_ContainsFunc_api_Net_api_Net__limits_net l = some (l.any p) := by
  have : m_slices_IndexFunc_api_Net_api_Net__limits_net l = some (idx p l) :=
    con_gen l _ m_limits_net h hl (fun v => rfl)
  unfold m_slices_ContainsFunc_api_Net_api_Net__limits_net
  rw [this, bd_some, idx_any]
theorem limNets_eq {fp : D_api_Rat → List UInt8} (l : List D_api_Net) (p : D_api_Net → Bool) (hl : l.length ≤ 150) (h : ∀ x ∈ l, m_limits_net x = some (p x)) (hT : ∀ n ∈ l, Tok fp n) (hp : ∀ n ∈ l, ∀ x ∈ n.2.2.1, m_ratio_Print x.2.2.2 = some (bs (fp x.2.2.2))) :
    m_limits_Nets l = some (decide (l.length ≤ 4) && !(l.any p) && decide ((ntsL fp l).length ≤ 8192)) := by
  have e : (bs (ntsL fp l)).size = (ntsL fp l).length := by rw [size_data]; rfl
  unfold m_limits_Nets
  rw [conN l p (by omega) h, Nets_eq hl hT hp]
  simp only [bd_some, e]
  by_cases h4 : l.length ≤ 4
  · rw [if_pos (decide_eq_true (by omega)), decide_eq_true h4]
    cases l.any p with
    | true => rfl
    | false => simp; omega
  · rw [if_neg (by simp; omega), decide_eq_false h4]; rfl
theorem tok0 (c : UInt8) : Tok (fun _ => []) (n0 c) := ⟨show 1 ≤ 2000 by decide, ⟨show 0 ≤ 200 by decide, fun x hx => by cases hx⟩, ⟨show 0 ≤ 200 by decide, fun x hx => by cases hx⟩, ⟨show 0 ≤ 100 by decide, fun x hx => by cases hx⟩⟩
theorem nets0 (l : List UInt8) (hl : l.length ≤ 100) : m_limits_Nets (l.map n0) = some (decide (l.length ≤ 4) && decide ((ntsL (fun _ => []) (l.map n0)).length ≤ 8192)) := by
  rw [limNets_eq (fp := fun _ => []) (l.map n0) (fun _ => false) (by simp; omega) (fun x hx => by
    obtain ⟨c, _, rfl⟩ := List.mem_map.1 hx
    exact limNet0 c) (fun x hx => by
    obtain ⟨c, _, rfl⟩ := List.mem_map.1 hx
    exact tok0 c) (fun x hx y hy => by
    obtain ⟨c, _, rfl⟩ := List.mem_map.1 hx
    cases hy)]
  have : (l.map n0).any (fun _ => false) = false := by simp
  rw [this, List.length_map]; simp
theorem works24 : m_triviumlaw24_works = some true := by
  have e1 : m_limits_Nets (([97, 98, 99, 100] : List UInt8).map n0) = some true := (nets0 [97, 98, 99, 100] (by decide)).trans (congrArg some (by decide))
  have e2 : m_limits_Nets (([97, 98, 99, 100, 101] : List UInt8).map n0) = some false := (nets0 [97, 98, 99, 100, 101] (by decide)).trans (congrArg some rfl)
  have e3 : m_limits_Queries [] = some true := (limQ_eq [] (by decide) (fun q hq => by cases hq)).trans (congrArg some (by decide))
  unfold m_triviumlaw24_works
  have e4 : ap 88 (([97, 98, 99, 100] : List UInt8).map n0) [n0 101] = some (([97, 98, 99, 100, 101] : List UInt8).map n0) := ap_of (by decide)
  show bd (m_limits_Nets (([97, 98, 99, 100] : List UInt8).map n0)) (fun x1 => if x1 then bd (ap 88 (([97, 98, 99, 100] : List UInt8).map n0) [n0 101]) _ else some false) = _
  rw [e1, bd_some, if_pos rfl, e4, bd_some, e2, bd_some, if_pos (by decide), e3]
  rfl
/-! the law of queries -/
theorem limQ_loop1 (l : List D_api_Query) (hl : l.length ≤ 9223372036854775807) : lp (m_triviumlaw24_LimitsQueries_l1 l) (0, []) = some ((l.take 8).map cQ) := by
  obtain ⟨n, hn⟩ : ∃ n, n = min l.length 8 := ⟨_, rfl⟩
  have main : ∀ (k i : Nat), i + k = n → lp (m_triviumlaw24_LimitsQueries_l1 l) ((i : Int), (l.take i).map cQ) = some ((l.take 8).map cQ) := by
    intro k
    induction k with
    | zero =>
      intro i hi
      have e1 : (if decide ((i : Int) < (l.length : Int)) = true then some (decide ((i : Int) < 8)) else some false) = some false := by
        by_cases hc : i < l.length
        · rw [if_pos (decide_eq_true (by omega)), decide_eq_false (by omega)]
        · rw [if_neg (by simp; omega)]
      have et : l.take i = l.take 8 := by
        by_cases hc : i < l.length
        · rw [show i = 8 by omega]
        · rw [List.take_of_length_le (by omega), List.take_of_length_le (by omega)]
      refine lp_done ?_
      simp only [m_triviumlaw24_LimitsQueries_l1, e1, bd_some, Bool.false_eq_true, if_false, et]
    | succ k ih =>
      intro i hi
      have hlt : i < l.length := by omega
      have e1 : (if decide ((i : Int) < (l.length : Int)) = true then some (decide ((i : Int) < 8)) else some false) = some true := by
        rw [if_pos (decide_eq_true (by omega)), decide_eq_true (by omega)]
      have hx : l[i]? = some l[i] := List.getElem?_eq_getElem hlt
      have e2 : rd l (i : Int) = some l[i] := by rw [rd_nat]; exact hx
      have hlen : ((l.take i).map cQ).length = i := by rw [List.length_map, List.length_take]; omega
      have e3 : ap 88 ((l.take i).map cQ) [cQ l[i]] = some ((l.take i).map cQ ++ [cQ l[i]]) := ap_of (by rw [hlen]; simp; omega)
      have e7 : wi64 ((i : Int) + 1) = (i : Int) + 1 := wi64_eq (by omega) (by omega)
      have hs : m_triviumlaw24_LimitsQueries_l1 l ((i : Int), (l.take i).map cQ) = some (.inl ((i : Int) + 1, (l.take (i + 1)).map cQ)) := by
        rw [List.take_add_one, hx, List.map_append]
        simp only [m_triviumlaw24_LimitsQueries_l1, e1, bd_some, if_true, e2, cleanQuery_eq, e3, e7]
        rfl
      rw [lp_more hs]
      have := ih (i + 1) (by omega)
      simpa using this
  have := main n 0 (by omega)
  simpa using this
theorem limQ_loop2 (p : Int) (l : List D_api_Query) (hl : l.length ≤ 1000) : ∃ m : List D_api_Query, lp (m_triviumlaw24_LimitsQueries_l2 p) (0, l) = some m ∧ m.length ≤ l.length + 40 ∧ ∀ q ∈ m, q ∈ l := by
  have main : ∀ (k i : Nat) (a : List D_api_Query), i + k = 40 → a.length ≤ l.length + i → (∀ q ∈ a, q ∈ l) → ∃ m : List D_api_Query, lp (m_triviumlaw24_LimitsQueries_l2 p) ((i : Int), a) = some m ∧ m.length ≤ l.length + 40 ∧ ∀ q ∈ m, q ∈ l := by
    intro k
    induction k with
    | zero =>
      intro i a hi ha hm
      have e1 : (if decide ((i : Int) < p) = true then (if decide ((i : Int) < 40) = true then some (decide (0 < (a.length : Int))) else some false) else some false) = some false := by
        rw [show decide ((i : Int) < 40) = false from decide_eq_false (by omega)]
        by_cases hc : (i : Int) < p
        · rw [if_pos (decide_eq_true hc), if_neg (by decide)]
        · rw [if_neg (by simp; omega)]
      exact ⟨a, lp_done (by simp only [m_triviumlaw24_LimitsQueries_l2, e1, bd_some, Bool.false_eq_true, if_false]), by omega, hm⟩
    | succ k ih =>
      intro i a hi ha hm
      by_cases hc : (i : Int) < p ∧ 0 < a.length
      · obtain ⟨x, r, rfl⟩ : ∃ x r, a = x :: r := by
          cases a with
          | nil => exact absurd hc.2 (by decide)
          | cons x r => exact ⟨x, r, rfl⟩
        have e1 : (if decide ((i : Int) < p) = true then (if decide ((i : Int) < 40) = true then some (decide (0 < (((x :: r : List D_api_Query)).length : Int))) else some false) else some false) = some true := by
          rw [if_pos (decide_eq_true hc.1), if_pos (decide_eq_true (by omega)), decide_eq_true (by have := hc.2; omega)]
        have e2 : rd (x :: r) 0 = some x := by rw [show (0 : Int) = ((0 : Nat) : Int) from rfl, rd_nat]; rfl
        have e3 : ap 88 (x :: r) [x] = some ((x :: r) ++ [x]) := ap_of (by simp only [List.length_cons, List.length_nil] at ha ⊢; omega)
        have e7 : wi64 ((i : Int) + 1) = (i : Int) + 1 := wi64_eq (by omega) (by omega)
        have hs : m_triviumlaw24_LimitsQueries_l2 p ((i : Int), x :: r) = some (.inl ((i : Int) + 1, (x :: r) ++ [x])) := by
          simp only [m_triviumlaw24_LimitsQueries_l2, e1, bd_some, if_true, e2]
          rw [show ap 88 (x :: r) [(x.1, x.2.1, x.2.2.1, x.2.2.2.1, x.2.2.2.2.1, (x.2.2.2.2.2.1.1, x.2.2.2.2.2.1.2), x.2.2.2.2.2.2)] = some ((x :: r) ++ [x]) from e3, bd_some, e7]
        rw [lp_more hs]
        have := ih (i + 1) ((x :: r) ++ [x]) (by omega) (by rw [List.length_append]; simp only [List.length_cons, List.length_nil] at ha ⊢; omega) (fun q hq => by
          rcases List.mem_append.1 hq with h | h
          · exact hm q h
          · rcases List.mem_singleton.1 h with rfl; exact hm _ List.mem_cons_self)
        simpa using this
      · have e1 : (if decide ((i : Int) < p) = true then (if decide ((i : Int) < 40) = true then some (decide (0 < (a.length : Int))) else some false) else some false) = some false := by
          by_cases hc1 : (i : Int) < p
          · rw [if_pos (decide_eq_true hc1), if_pos (decide_eq_true (by omega)), decide_eq_false (by intro h; exact hc ⟨hc1, by omega⟩)]
          · rw [if_neg (by simp; omega)]
        exact ⟨a, lp_done (by simp only [m_triviumlaw24_LimitsQueries_l2, e1, bd_some, Bool.false_eq_true, if_false]), by omega, hm⟩
  have := main 40 0 l (by omega) (by omega) (fun q hq => hq)
  simpa using this
theorem limitsQueries_plain (l : List D_api_Query) (n : Int) (hl : l.length ≤ 9223372036854775807) (h : ∀ q ∈ l, Qin q) : m_triviumlaw24_LimitsQueries l n = some true := by
  obtain ⟨m, h1, h2, h3⟩ := limQ_loop2 n ((l.take 8).map cQ) (by simp; omega)
  have h4 : ((l.take 8).map cQ).length ≤ 8 := by simp; omega
  have hm : ∀ q ∈ m, Qok q := fun q hq => by
    obtain ⟨y, hy, rfl⟩ := List.mem_map.1 (h3 q hq)
    exact cQ_ok (h y (List.mem_of_mem_take hy))
  have e1 : ap 88 [] m = some m := ap_of (by simp; omega)
  unfold m_triviumlaw24_LimitsQueries
  rw [limQ_loop1 l hl, bd_some, h1, bd_some, e1, bd_some, limQ_eq m (by omega) hm, bd_some, refQ24_eq m (by omega) hm, bd_some, if_pos (by simp), works24]
  rfl
end Go.Proofs.YthnheieajicpfaaGreatDoor.AP
/- LimitsQueries: the plain law, of all that may be handed in. -/
namespace Go.Proofs.YthnheieajicpfaaGreatDoor.Pure
open Go Go.Proofs.YthnheieajicpfaaGreatDoor.AP Go.Proofs.YthnheieajicpfaaGreatDoor.AE
theorem rng {k : IntKind} {n : Int} (h : (Lit.int k n).wf = true) : k.min ≤ n ∧ n ≤ k.max := by
  have h : (decide (k.min ≤ n) && decide (n ≤ k.max)) = true := h
  rw [Bool.and_eq_true, decide_eq_true_eq, decide_eq_true_eq] at h
  exact h
theorem rng32 {n : Int} (h : (Lit.int .u32 n).wf = true) : 0 ≤ n ∧ n < 4294967296 := ⟨(rng h).1, Int.lt_add_one_of_le (rng h).2⟩
theorem LimitsQueries (y0 : List D_api_Query) (h0 : Ty.ok (.sl Y_api_Query) y0) (y1 : Int) (h1 : Ty.ok (.int .i64) y1) : m_triviumlaw24_LimitsQueries y0 y1 = some true :=
  limitsQueries_plain y0 y1 h0.1 fun q hq => by
    obtain ⟨i, hi⟩ := List.getElem?_of_mem hq
    have h := h0.2 i q hi
    exact ⟨rng32 h.2.2.2.2.1, rng32 h.2.2.2.2.2.1.1⟩
end Go.Proofs.YthnheieajicpfaaGreatDoor.Pure
/- The law LimitsQueries holds of every input: the row, and its card. -/
namespace Go.Proofs.YthnheieajicpfaaGreatDoor.limitsQueries
open Go.ChangeShapes Go.WideShapes Go.ChangeAt Go.RowKit
set_option linter.unusedVariables false
theorem own : ownKnob Tryz.prog.godebug = none := by kernel_rfl
theorem laidOut : laidOutB Tryz.prog = true := by kernel_rfl
theorem gTab : Tryz.prog.globalNamed "internal/strconv.uint64pow10" = some 1 := by kernel_rfl
theorem gTabType : (Tryz.prog.globals[1]?).map (·.type) = some 192 := by kernel_rfl
theorem cellsA : Tryz.prog.cellsOf 192 = 20 := by kernel_rfl
theorem cellsE : Tryz.prog.cellsOf 77 = 1 := by kernel_rfl
theorem table {W : World} (h : laidMet Tryz.prog Rows.limitsQueriesRow.laid W) : AE.Glo W :=
  Lib.tabIs_of_head (rest := _) gTab gTabType Tryz.underlying192 Tryz.underlying77 cellsE cellsA (laidMet.tail (laidMet.tail h))
set_option maxRecDepth 100000 in
theorem lifted (os : Os) (started : os.Started) (H : Type) (enc : TypeId × Value → H) :
    ReturnsInHanded {} Tryz.checked os 4 .any (fun w args => (Rows.limitsQueriesSpec.pre enc Tryz.prog Tryz.f4 [] false w args ∧ laidMetH Tryz.prog Rows.limitsQueriesRow.laid w) ∧ sizedMet enc Tryz.prog Tryz.f4 (OpenSpec.ofChange Rows.limitsQueriesSpec) false w args)
      (Rows.limitsQueriesSpec.post enc Tryz.prog Tryz.f4 false true false false) := by
  refine returnsInHanded_of_change_and (C := Tryz.checked) (X := fun w _ => laidMetH Tryz.prog Rows.limitsQueriesRow.laid w) (fun _ _ _ hh h => h.of_heap hh) own started (by kernel_rfl) Tryz.func4
    (ChangeSpec.witness_shaped (enc := enc) (C := Tryz.checked) (os := os) (X := fun w _ => laidMetH Tryz.prog Rows.limitsQueriesRow.laid w) false (World.laidAll Tryz.prog os Rows.limitsQueriesRow.laid) #[.slice none 0 0, .int .i64 0] 8 (World.laidAll_os _ _ _)
      (World.shaped_of_ZipB (by kernel_rfl) (by kernel_rfl)) (by kernel_rfl) (by kernel_rfl) (by kernel_rfl)
      (by rw [MakeChecks.laidMetH_plain _ _ _ (by kernel_rfl)]; exact laidMet_laidAll _ (by kernel_rfl) (by kernel_rfl))) ?_
  intro W base args ds gs before hval0 hW _ hsz0 hL0 _
  have hL : laidMet Tryz.prog Rows.limitsQueriesRow.laid W := by rw [MakeChecks.laidMetH_plain _ _ _ (by kernel_rfl)] at hL0; exact hL0
  clear hsz0
  have hval : ∀ (j : Nat) t v, Tryz.f4.params[j]? = some t → args[j]? = some v → Value.okWide Tryz.prog W .any base t v := hval0
  have hW' := hW
  obtain ⟨p, q, hA0, hV, rfl, hfz, hnd⟩ := hW
  have hA : DataW.TrodAll enc Tryz.prog W 0 (fun _ => true) true Tryz.f4.params.toList args.toList ds p := hA0
  rw [Tryz.params4] at hA hval
  obtain ⟨v0, vs0, d0, ds0, p0, q0, hargs, rfl, rfl, h0, r0⟩ := trodAll_cons hA
  obtain ⟨v1, vs1, d1, ds1, p1, q1, rfl, rfl, rfl, h1, r1⟩ := trodAll_cons r0
  obtain ⟨rfl, rfl, rfl⟩ := trodAll_nil r1
  obtain rfl : args = #[v0, v1] := by cases args; simp_all
  obtain ⟨rfl, rfl⟩ := trodVars_none hV
  have lt0 : ∀ x ∈ p0, x.block < W.heap.size := by obtain ⟨m, hm⟩ := h0; exact DataW.trod_lt m _ _ _ hm
  obtain ⟨a0, o0, e0⟩ := AE.open_v (t := (.sl AE.Y_api_Query)) ⟨40, by kernel_rfl⟩ (hval 0 38 v0 rfl rfl) h0
  have lt1 : ∀ x ∈ p1, x.block < W.heap.size := by obtain ⟨m, hm⟩ := h1; exact DataW.trod_lt m _ _ _ hm
  obtain ⟨a1, o1, e1⟩ := AE.open_v (t := (.int .i64)) ⟨40, by kernel_rfl⟩ (hval 1 3 v1 rfl rfl) h1
  clear hA0 hval0
  have h := Pure.LimitsQueries a0 o0 a1 o1
  have C := AE.law_calls (table hL) (AE.k_triviumlaw24_LimitsQueries h) (W := W) (args := [v0, v1]) ⟨v0, [v1], rfl, e0, v1, [], rfl, e1, rfl⟩
  refine C.mono fun e W' ⟨he, bel⟩ => ?_
  subst he
  exact ⟨_, rfl, _, _, _, [], _, [], hW', trodAll_mk1 (shut_bool Tryz.underlying4 _), (trodAll_cons_mk (Below.trod laidOut (by kernel_rfl) (of_decide_eq_true (by kernel_rfl)) h0 bel lt0) (trodAll_cons_mk (Below.trod laidOut (by kernel_rfl) (of_decide_eq_true (by kernel_rfl)) h1 bel lt1) trodAll_mk0)), rfl, bel.frame _, fun h => by cases h⟩
theorem over : Rows.limitsQueriesRow.holds Tryz.pinned (OpenSpec.ofChange Rows.limitsQueriesSpec) :=
  OpenClaim.holds_of_wide 4 Tryz.f4 rfl rfl rfl rfl rfl rfl rfl ⟨rfl, rfl, rfl, rfl, rfl⟩ rfl rfl rfl rfl rfl (by kernel_rfl) Tryz.func4 (by kernel_rfl)
    (of_decide_eq_true (by kernel_rfl)) (by unfold Func.isWrapper; first | (rw [if_pos (by decide +kernel)]; kernel_rfl) | (rw [if_neg (by decide +kernel)]; exact ⟨rfl, rfl⟩))
    (fun os started H enc _ => lifted os started H enc)
theorem proved : Rows.LimitsQueriesSaid := over
theorem plain (f : FuncId) (fn : Func) (hf : Tryz.pinned.checked.prog.funcNamed "trivium/triviumlaw24.LimitsQueries" = some f) (hfn : Tryz.pinned.checked.prog.funcs[f]? = some fn) :
    false = Tryz.pinned.checked.prog.looks [] ∧ ∀ (j : Nat) t, fn.params[j]? = some t → Tryz.pinned.checked.prog.wantsStandIn t = false := by
  obtain rfl : f = 4 := Option.some.inj ((show Tryz.prog.funcNamed "trivium/triviumlaw24.LimitsQueries" = some 4 by kernel_rfl).symm.trans hf) |>.symm
  obtain rfl : fn = Tryz.f4 := (Option.some.inj (Tryz.func4.symm.trans hfn)).symm
  exact ⟨by kernel_rfl, fun j t ht => by
    rw [Tryz.params4] at ht
    have hm : t ∈ [38, 3] := by simpa using Array.mem_of_getElem? ht
    have hall : ([38, 3].all fun u => !Tryz.prog.wantsStandIn u) = true := by kernel_rfl
    exact (show Tryz.prog.wantsStandIn t = false by simpa using List.all_eq_true.1 hall t hm)⟩
theorem card : Rows.LimitsQueriesCardSaid :=
  Claim7.holds_tied_plain_at .later [] _ _ _ _ proved (fun _ h => by cases h) (by kernel_rfl) (fun _ h => by cases h) limitsQueries_row_tie rfl ⟨rfl, rfl⟩ (by kernel_rfl) rfl plain (by kernel_rfl)
#print axioms card
end Go.Proofs.YthnheieajicpfaaGreatDoor.limitsQueries
namespace Go.Proofs.YthnheieajicpfaaGreatDoor
/-- The statement, under a short name, for the claim. -/
theorem limitsQueries_holds : Rows.LimitsQueriesCardSaid := limitsQueries.card
end Go.Proofs.YthnheieajicpfaaGreatDoor
