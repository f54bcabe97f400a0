/- The law RatioBack holds of every input: the row, and its card. -/
import Derived.Test.YtfboepeadeafmaaGreatDoorQRB5
import Derived.KernelRfl
import Derived.Test.YtfboepeadeafmaaGreatDoorQRB3
import Derived.Test.YtfboepeadeafmaaGreatDoorCards
import Derived.Test.YtfboepeadeafmaaGreatDoorTie
import Derived.Test.YtfboepeadeafmaaGreatDoorQRB4
import Derived.WalkKit
import Derived.ProofKit
import Derived.OpenShut
import Derived.ShutString
import Derived.ChangeOld
import Derived.Below
import Derived.Lib.SmallJoins
import Derived.Lay
import Derived.SevenTiedAt
import Derived.Lib.LaidTab
import Derived.Lib.LaidU8
import Derived.Stop.LaidErr
import Derived.LaidMore
/- Numbers and fractions printed, by both. -/
namespace Go.Proofs.YtfboepeadeafmaaGreatDoor.AP
open Go Go.Proofs.YtfboepeadeafmaaGreatDoor.Tri
set_option linter.unusedVariables false
set_option linter.unusedSimpArgs false
theorem nd_pow : ∀ (j n : Nat), n < 10 ^ (j + 1) → Lib.nDigits n ≤ j + 1
  | 0, n, hn => by rw [Lib.nDigits_small (by simpa using hn)]; omega
  | j + 1, n, hn => by
    by_cases h : n < 10
    · rw [Lib.nDigits_small h]; omega
    · rw [Lib.nDigits_big h]
      have := nd_pow j (n / 10) (by rw [Nat.pow_succ] at hn; omega)
      omega
theorem nd_zl (x : Nat) : Lib.nDigits x ≤ 4 * (zl (x : Int)).length + 1 := by
  apply nd_pow
  have h2 := dv_lt (B := (10000 : Int)) (by decide) (zl_can (x : Int)).1
  rw [zl_dv (by omega)] at h2
  have h3 : ((10000 : Int) ^ (zl (x : Int)).length) = (((10 ^ (4 * (zl (x : Int)).length) : Nat)) : Int) := by
    rw [Int.natCast_pow, Int.pow_mul]
    rfl
  rw [h3] at h2
  have h4 : (10 : Nat) ^ (4 * (zl (x : Int)).length) ≤ 10 ^ (4 * (zl (x : Int)).length + 1) := Nat.pow_le_pow_right (by decide) (by omega)
  omega
theorem dd_len (x : Nat) : (Lib.decDigits x).length ≤ 4 * (zl (x : Int)).length + 1 := by rw [Lib.decDigits_length]; exact nd_zl x
theorem i8_cons (d : Nat) (h : d < 10) (l : List UInt8) : wu8 (wi64 (48 + (d : Int))) :: i8 l = i8 (UInt8.ofNat (48 + d) :: l) := by
  show _ = ((UInt8.ofNat (48 + d)).toNat : Int) :: i8 l
  congr 1
  rw [UInt8.toNat_ofNat', Nat.mod_eq_of_lt (show 48 + d < 2 ^ 8 by omega), wi64_eq (by omega) (by omega), wu8_eq (by omega) (by omega)]
  omega
theorem refText_loop (x : Nat) (hl : (zl (x : Int)).length ≤ 1000000000) : ∀ acc : List UInt8, acc.length + Lib.nDigits x ≤ 100000000000 → 0 < x → lp m_triviumref02_Text_l1 (zl (x : Int), i8 acc) = some (i8 (Lib.decDigits x ++ acc)) := by
  induction x using Nat.strongRecOn with
  | _ x ih =>
    intro acc ha hx
    have hnd := Lib.nDigits_pos x
    have e1 : decide (0 < ((zl (x : Int)).length : Int)) = true := decide_eq_true (by
      have : (zl (x : Int)).length ≠ 0 := by
        intro h
        have := (zl_nil (x := (x : Int)) (by omega)).1 (List.length_eq_zero_iff.1 h)
        omega
      omega)
    have e2 := refDivSmall_eq (x : Int) 10 (by omega) (by decide) (by decide) (by omega)
    have e3 : ((x : Int) % 10) = ((x % 10 : Nat) : Int) := by omega
    have e4 : ((x : Int) / 10) = ((x / 10 : Nat) : Int) := by omega
    rw [e3, e4] at e2
    have e5 : ap 1 [wu8 (wi64 (48 + ((x % 10 : Nat) : Int)))] (i8 acc) = some (i8 (UInt8.ofNat (48 + x % 10) :: acc)) := by
      rw [ap_of (by unfold i8; simp; omega)]
      congr 1
      exact i8_cons (x % 10) (Nat.mod_lt _ (by decide)) acc
    have hs : m_triviumref02_Text_l1 (zl (x : Int), i8 acc) = some (.inl (zl ((x / 10 : Nat) : Int), i8 (UInt8.ofNat (48 + x % 10) :: acc))) := by
      simp only [m_triviumref02_Text_l1, e1, if_true, e2, bd_some, e5]
    rw [lp_more hs]
    by_cases h : x < 10
    · have h0 : x / 10 = 0 := by omega
      have h1 : x % 10 = x := by omega
      rw [h0, h1]
      have hz : zl ((0 : Nat) : Int) = [] := zl_zero
      rw [hz, lp_done (x := i8 (UInt8.ofNat (48 + x) :: acc)) (by simp [m_triviumref02_Text_l1]), Lib.decDigits, dif_pos h]
      rfl
    · have h4 := Lib.nDigits_big h
      rw [ih (x / 10) (by omega) (Nat.le_trans (zl_mono (by omega) (by omega)) hl) _ (by simp; omega) (by omega)]
      conv => rhs; rw [Lib.decDigits, dif_neg h]
      simp
theorem tx_i8 (l : List UInt8) : tx (i8 l) = bs l := by
  by_cases h : l = []
  · rw [h]; rfl
  · have := ust_i8 _ h
    unfold ust at this
    split at this
    · exact Option.some.inj this
    · cases this
theorem refText_eq2 (x : Nat) (hl : (zl (x : Int)).length ≤ 1000000000) : m_triviumref02_Text (zl (x : Int)) = some (bs (Lib.decDigits x)) := by
  unfold m_triviumref02_Text
  by_cases hx : 0 < x
  · have e1 : decide (((zl (x : Int)).length : Int) = 0) = false := decide_eq_false (by
      intro h
      have := (zl_nil (x := (x : Int)) (by omega)).1 (List.length_eq_zero_iff.1 (by omega))
      omega)
    have e2 := refText_loop x hl [] (by have := nd_zl x; simp; omega) hx
    rw [List.append_nil] at e2
    have e2 : lp m_triviumref02_Text_l1 (zl (x : Int), []) = some (i8 (Lib.decDigits x)) := e2
    rw [e1]
    simp only [Bool.false_eq_true, if_false, e2, bd_some, tx_i8]
  · have : x = 0 := by omega
    subst this
    have hz : zl ((0 : Nat) : Int) = [] := zl_zero
    rw [hz, Lib.decDigits, dif_pos (by decide)]
    rfl
/-- a number with its sign -/
def zsL (a : Int) : List UInt8 := if a < 0 then 45 :: Lib.decDigits a.natAbs else Lib.decDigits a.natAbs
theorem zsL_len (a : Int) : (zsL a).length ≤ 4 * (zl (a.natAbs : Int)).length + 2 := by
  have := dd_len a.natAbs
  unfold zsL
  split
  · rw [List.length_cons]; omega
  · omega
theorem wholePrint_eq (a : Int) (hl : (zl (a.natAbs : Int)).length ≤ 100000000) : m_whole_Print (zI a) = some (bs (zsL a)) := by
  have h1 := digitsPrint_eq a.natAbs (by have := nl_zl_len (x := (a.natAbs : Int)) (by omega); omega)
  have h2 := dd_len a.natAbs
  have c := cat_bs (a := [45]) (b := Lib.decDigits a.natAbs) (by simp; omega)
  unfold m_whole_Print zI zsL
  by_cases h : a < 0
  · simp only [decide_eq_true h, if_true, h1, bd_some, c, if_pos h]
    rfl
  · simp only [decide_eq_false h, Bool.false_eq_true, if_false, h1, bd_some, if_neg h]
theorem sg_ne {b : Int} (h : ¬ b = 1) : ¬ sg (b - 1) = 0 := by
  unfold sg
  split
  · decide
  · split <;> omega
/-- a fraction -/
def rtL (a b : Int) : List UInt8 := if b = 1 then zsL a else zsL a ++ 47 :: Lib.decDigits b.toNat
theorem rtL_len (a b : Int) (hb : 0 ≤ b) : (rtL a b).length ≤ 4 * (zl (a.natAbs : Int)).length + 4 * (zl b).length + 10 := by
  have h1 := zsL_len a
  have h2 := dd_len b.toNat
  have e : ((b.toNat : Nat) : Int) = b := by omega
  rw [e] at h2
  unfold rtL
  split
  · omega
  · rw [List.length_append, List.length_cons]; omega
theorem one_nl : m_nat_Of 1 = some (nl 1) := natOf_eq 1 (by decide) (by decide)
theorem ratioPrint_eq (a b : Int) (hb : 0 ≤ b) (hla : (zl (a.natAbs : Int)).length ≤ 100000000) (hlb : (zl b).length ≤ 100000000) : m_ratio_Print (rI a b) = some (bs (rtL a b)) := by
  have h1 := wholePrint_eq a hla
  have h2 := zsL_len a
  have h3 := digitsPrint_eq b.toNat (by
    have e : ((b.toNat : Nat) : Int) = b := by omega
    rw [e]; have := nl_zl_len (x := b) hb; omega)
  have h4 := dd_len b.toNat
  have e : ((b.toNat : Nat) : Int) = b := by omega
  rw [e] at h3 h4
  have h5 := cmpN_eq b 1 hb (by decide) (by have := nl_zl_len (x := b) hb; omega)
  have c1 := cat_bs (a := zsL a) (b := [47]) (by simp; omega)
  have c2 := cat_bs (a := zsL a ++ [47]) (b := Lib.decDigits b.toNat) (by rw [List.length_append]; simp; omega)
  have h1 : m_whole_Print ((zI a).1, (zI a).2) = some (bs (zsL a)) := h1
  unfold m_ratio_Print rI rtL
  by_cases hb1 : b = 1
  · have : sg (b - 1) = 0 := by rw [hb1]; rfl
    simp only [h1, bd_some, one_nl, h5, this, decide_true, if_true, if_pos hb1]
  · have : ¬ sg (b - 1) = 0 := sg_ne hb1
    simp only [h1, bd_some, one_nl, h5, decide_eq_false this, Bool.false_eq_true, if_false, c1, h3, c2, if_neg hb1]
    simp
end Go.Proofs.YtfboepeadeafmaaGreatDoor.AP
/- WholeAdds: the chapter's example; the plain law. -/
namespace Go.Proofs.YtfboepeadeafmaaGreatDoor.AP
open Go Go.Proofs.YtfboepeadeafmaaGreatDoor.Tri
set_option linter.unusedVariables false
set_option linter.unusedSimpArgs false
end Go.Proofs.YtfboepeadeafmaaGreatDoor.AP
namespace Go.Proofs.YtfboepeadeafmaaGreatDoor.Pure
open Go Go.Proofs.YtfboepeadeafmaaGreatDoor.AP Go.Proofs.YtfboepeadeafmaaGreatDoor.AE
theorem u64lim {l : List Int} (h : Ty.ok (.sl (.int .u64)) l) : Limbs l := fun x hx => by
  obtain ⟨i, hi⟩ := List.getElem?_of_mem hx
  have h : (decide (IntKind.u64.min ≤ x) && decide (x ≤ IntKind.u64.max)) = true := h.2 i x hi
  rw [Bool.and_eq_true, decide_eq_true_eq, decide_eq_true_eq] at h
  exact ⟨h.1, Int.lt_add_one_of_le h.2⟩
end Go.Proofs.YtfboepeadeafmaaGreatDoor.Pure
/- Floors, of the program and of the document; the plain laws of divisions and of the ring. -/
namespace Go.Proofs.YtfboepeadeafmaaGreatDoor.AP
open Go Go.Proofs.YtfboepeadeafmaaGreatDoor.Tri
set_option linter.unusedVariables false
set_option linter.unusedSimpArgs false
/-- apart: the signs are not the same, and something is left -/
def fgo (a b : Int) : Bool := !(decide (a < 0) == decide (b < 0)) && decide (0 < (a.natAbs : Int) % (b.natAbs : Int))
/-- the floor's quotient, and rest: sizes -/
def fA (a b : Int) : Int := if fgo a b then (a.natAbs : Int) / (b.natAbs : Int) + 1 else (a.natAbs : Int) / (b.natAbs : Int)
def fR (a b : Int) : Int := if fgo a b then (b.natAbs : Int) - (a.natAbs : Int) % (b.natAbs : Int) else (a.natAbs : Int) % (b.natAbs : Int)
def fq (a b : Int) : Int := if (!(decide (a < 0) == decide (b < 0))) = true then -fA a b else fA a b
end Go.Proofs.YtfboepeadeafmaaGreatDoor.AP
/- Digits read, by ten: the program's way and the document's. -/
namespace Go.Proofs.YtfboepeadeafmaaGreatDoor.AP
open Go Go.Proofs.YtfboepeadeafmaaGreatDoor.Tri
set_option linter.unusedVariables false
set_option linter.unusedSimpArgs false
set_option maxRecDepth 4000
/-! texts, by bytes -/
theorem drop_more {l : List UInt8} {i : Nat} {c : UInt8} {r : List UInt8} (h : l.drop i = c :: r) : l.drop (i + 1) = r := by
  rw [← List.drop_drop, h]; rfl
theorem drop_lt {l : List UInt8} {i : Nat} {c : UInt8} {r : List UInt8} (h : l.drop i = c :: r) : i < l.length := by
  apply Nat.lt_of_not_le
  intro hle
  rw [List.drop_of_length_le hle] at h; cases h
theorem cs_bs (l : List UInt8) (a b : Nat) (h : a ≤ b) (hb : b ≤ l.length) : cs (bs l) (a : Int) (b : Int) = some (bs ((l.take b).drop a)) := by
  unfold cs
  rw [if_pos ⟨by omega, by omega, by show (b : Int) ≤ (l.length : Int); omega⟩, Int.toNat_natCast, Int.toNat_natCast]
  congr 1
  apply ByteArray.ext
  apply Array.ext'
  rw [ByteArray.data_extract, Array.toList_extract]
  show (List.extract l a b) = _
  rw [List.extract_eq_take_drop, List.drop_take]
  rfl
/-! runes -/
theorem dc_low (l : List UInt8) (i : Nat) (c : UInt8) (r : List UInt8) (h : l.drop i = c :: r) (hc : c.toNat < 128) : dc1 (bs l) i = (c.toNat : Int) ∧ dcn (bs l) i = i + 1 := by
  have hi := drop_lt h
  have hg : (bs l).get! (i + 0) = c := by
    have hcc : l[i] = c := by
      have := List.drop_eq_getElem_cons hi
      rw [h] at this
      exact (List.cons.inj this).1.symm
    show (l.toArray)[i + 0]! = c
    rw [Nat.add_zero, List.getElem!_toArray, List.getElem!_eq_getElem?_getD, List.getElem?_eq_getElem hi, hcc]; rfl
  unfold dc1 dcn Utf8.decode
  simp only [hg]
  rw [if_pos (by omega)]
  exact ⟨rfl, rfl⟩
theorem dc_high (l : List UInt8) (i : Nat) (c : UInt8) (r : List UInt8) (h : l.drop i = c :: r) (hc : 128 ≤ c.toNat) : 128 ≤ dc1 (bs l) i := by
  have hi := drop_lt h
  have hg : (bs l).get! (i + 0) = c := by
    have hcc : l[i] = c := by
      have := List.drop_eq_getElem_cons hi
      rw [h] at this
      exact (List.cons.inj this).1.symm
    show (l.toArray)[i + 0]! = c
    rw [Nat.add_zero, List.getElem!_toArray, List.getElem!_eq_getElem?_getD, List.getElem?_eq_getElem hi, hcc]; rfl
  unfold dc1 Utf8.decode
  simp only [hg]
  rw [if_neg (by omega)]
  have hr : (128 : Nat) ≤ Utf8.runeError := by decide
  repeat' split
  all_goals first
    | (simp only; omega)
    | (rename_i h1; rw [Bool.and_eq_true, decide_eq_true_eq] at h1; simp only; omega)
/-! what a text says -/
def dgt (c : UInt8) : Option Nat := if 48 ≤ c.toNat ∧ c.toNat ≤ 57 then some (c.toNat - 48) else none
def rdN : List UInt8 → Nat → Option Nat
  | [], v => some v
  | c :: l, v => match dgt c with
    | none => none
    | some d => rdN l (v * 10 + d)
def rd10 (l : List UInt8) : Option Nat := if l = [] then none else rdN l 0
theorem dgt_lt {c : UInt8} {d : Nat} (h : dgt c = some d) : d < 10 := by
  unfold dgt at h; split at h
  · cases h; omega
  · cases h
theorem rdN_append : ∀ (a b : List UInt8) (v : Nat), rdN (a ++ b) v = (rdN a v).bind (rdN b)
  | [], b, v => rfl
  | c :: a, b, v => by
    show rdN (c :: (a ++ b)) v = _
    unfold rdN
    cases dgt c with
    | none => rfl
    | some d => exact rdN_append a b _
theorem dgt_of (d : Nat) (h : d < 10) : dgt (UInt8.ofNat (48 + d)) = some d := by
  unfold dgt
  have : (UInt8.ofNat (48 + d)).toNat = 48 + d := by rw [UInt8.toNat_ofNat']; omega
  rw [this, if_pos (by omega)]; congr 1; omega
theorem rdN_dec (n : Nat) : rdN (Lib.decDigits n) 0 = some n := by
  induction n using Nat.strongRecOn with
  | _ n ih =>
    by_cases h : n < 10
    · rw [Lib.decDigits_one h]
      unfold rdN
      rw [dgt_of n h]
      show some (0 * 10 + n) = some n
      rw [Nat.zero_mul, Nat.zero_add]
    · rw [Lib.decDigits, dif_neg h, rdN_append, ih (n / 10) (by omega)]
      show rdN [UInt8.ofNat (48 + n % 10)] (n / 10) = some n
      unfold rdN
      rw [dgt_of (n % 10) (by omega)]
      show some (n / 10 * 10 + n % 10) = some n
      congr 1; omega
theorem dec_ne (n : Nat) : Lib.decDigits n ≠ [] := fun h => by
  have := congrArg List.length h
  rw [Lib.decDigits_length] at this
  have := Lib.nDigits_pos n
  simp at *; omega
theorem rd10_dec (n : Nat) : rd10 (Lib.decDigits n) = some n := by unfold rd10; rw [if_neg (dec_ne n), rdN_dec]
theorem rdN_lt : ∀ (l : List UInt8) (v w k : Nat), rdN l v = some w → v < 10 ^ k → w < 10 ^ (k + l.length)
  | [], v, w, k, h, hv => by cases h; exact hv
  | c :: l, v, w, k, h, hv => by
    unfold rdN at h
    cases hd : dgt c with
    | none => rw [hd] at h; cases h
    | some d =>
      rw [hd] at h
      have := dgt_lt hd
      have := rdN_lt l (v * 10 + d) w (k + 1) h (by rw [Nat.pow_succ]; omega)
      rw [List.length_cons]
      rwa [show k + (l.length + 1) = k + 1 + l.length by omega]
theorem rd10_lt {l : List UInt8} {w : Nat} (h : rd10 l = some w) : w < 10 ^ l.length := by
  unfold rd10 at h; split at h
  · cases h
  · have := rdN_lt l 0 w 0 h (by decide); simpa using this
/-! a limb's multiple -/
theorem mulSmall_loop (a : List Int) (p : Int) (ha : Dig (4294967296 : Int) a) (hp : 0 ≤ p ∧ p < (4294967296 : Int)) (hl : a.length ≤ 1000000000) (s : Int) : ∀ (k i : Nat) (c : Int) (D : List Int), i + k = a.length → D.length = i → Dig (4294967296 : Int) D → (0 ≤ c ∧ c < (4294967296 : Int)) → dv (4294967296 : Int) D + (4294967296 : Int) ^ i * c = dv (4294967296 : Int) (a.take i) * p + s →
    ∃ c' D', lp (m_mul_Small_l1 a p) (c, (i : Int), D ++ List.replicate (k + 1) 0) = some (c', D' ++ [0]) ∧ Dig (4294967296 : Int) D' ∧ D'.length = a.length ∧ (0 ≤ c' ∧ c' < (4294967296 : Int)) ∧ dv (4294967296 : Int) D' + (4294967296 : Int) ^ a.length * c' = dv (4294967296 : Int) a * p + s
  | 0, i, c, D, hk, hi, hD, hc, hv => by
    obtain rfl : i = a.length := by omega
    exact ⟨c, D, lp_done (by simp [m_mul_Small_l1]), hD, hi, hc, by rw [hv, List.take_length]⟩
  | k + 1, i, c, D, hk, hi, hD, hc, hv => by
    have ga := gI_dig ha (by decide) (i : Int)
    obtain ⟨s0, s1⟩ := mul_bound ga hp hc (d := 0) ⟨Int.le_refl _, by decide⟩
    have a8 := limbMul_eq (gI a (i : Int)) p c 0 ga hp hc ⟨Int.le_refl _, by decide⟩
    generalize hx : gI a (i : Int) * p + c + 0 = x at *
    have hx0 : 0 ≤ x := by omega
    have hq : x / (4294967296 : Int) < (4294967296 : Int) := Int.ediv_lt_of_lt_mul (by decide) s1
    have a1 : decide ((i : Int) < (a.length : Int)) = true := decide_eq_true (by omega)
    have a2 : rd a (i : Int) = some (gI a (i : Int)) := rd_I (by omega) (by omega)
    have a5 : wi64 ((i : Int) + 1) = ((i + 1 : Nat) : Int) := by rw [wi64_eq (by omega) (by omega)]; omega
    have a6 : ix (D ++ List.replicate (k + 2) 0) (i : Int) = some i := ix_nat (by simp; omega)
    have a7 : (D ++ List.replicate (k + 2) 0).set i (x % (4294967296 : Int)) = (D ++ [x % (4294967296 : Int)]) ++ List.replicate (k + 1) 0 := by
      rw [show List.replicate (k + 2) (0 : Int) = 0 :: List.replicate (k + 1) 0 from rfl, ← hi, set_at]
    have e1 : m_mul_Small_l1 a p (c, (i : Int), D ++ List.replicate (k + 2) 0) = some (.inl (x / (4294967296 : Int), ((i + 1 : Nat) : Int), (D ++ [x % (4294967296 : Int)]) ++ List.replicate (k + 1) 0)) := by
      simp only [m_mul_Small_l1, a1, if_true, a2, bd_some, a8, a6, lt_eq, a7, a5]
    obtain ⟨c', D', r1, r2⟩ := mulSmall_loop a p ha hp hl s k (i + 1) (x / (4294967296 : Int)) (D ++ [x % (4294967296 : Int)]) (by omega) (by simp [hi]) (hD.snoc ⟨by omega, by omega⟩) ⟨Int.ediv_nonneg hx0 (by decide), hq⟩ (by
      rw [dv_snoc, take_gI', hi, Int.pow_succ]
      have := Int.mul_ediv_add_emod x (4294967296 : Int)
      clear e1 a7 a6 a8
      generalize (4294967296 : Int) ^ i = P at *
      generalize gI a (i : Int) = g1 at *
      generalize dv (4294967296 : Int) (List.take i a) = T at *
      generalize dv (4294967296 : Int) D = DD at *
      generalize x / (4294967296 : Int) = q at *
      generalize x % (4294967296 : Int) = r at *
      have hr : r = g1 * p + c - (4294967296 : Int) * q := by omega
      subst hr
      grind)
    exact ⟨c', D', by rw [lp_more e1]; exact r1, r2⟩
theorem mulSmall_eq (x p s : Int) (hx : 0 ≤ x) (hp : 0 ≤ p ∧ p < (4294967296 : Int)) (hs : 0 ≤ s ∧ s < (4294967296 : Int)) (hl : (nl x).length ≤ 1000000000) : m_mul_Small (nl x) p s = some (nl (x * p + s)) := by
  obtain ⟨c', D', r1, r2, r3, r4, r5⟩ := mulSmall_loop (nl x) p (nl_can x).1 hp hl s (nl x).length 0 s [] (by omega) rfl (Dig.nil _) hs (by simp [dv])
  have r1' : lp (m_mul_Small_l1 (nl x) p) (s, 0, List.replicate ((nl x).length + 1) 0) = some (c', D' ++ [0]) := r1
  have e1 : wi64 (((nl x).length : Int) + 1) = (((nl x).length + 1 : Nat) : Int) := by rw [wi64_eq (by omega) (by omega)]; omega
  unfold m_mul_Small
  rw [e1, mk_of (by omega), bd_some, limbAdd_eq s 0 0 hs ⟨by decide, by decide⟩ ⟨by decide, by decide⟩, bd_some]
  dsimp only
  rw [Int.toNat_natCast, show (s + 0 + 0) % (4294967296 : Int) = s by omega, r1', bd_some]
  dsimp only
  rw [ix_nat (by simp [r3]), bd_some, lt_eq, ← r3, set_at, List.append_nil, made_eq _ (r2.snoc r4) (by simp; omega), bd_some, dv_snoc, r3, r5, nl_dv hx]
/-! read by the program -/
theorem value_all : (List.range 128).all (fun n => match m_digits_value (n : Int) 10 with | some (x, b) => (b == (dgt (UInt8.ofNat n)).isSome) && (match dgt (UInt8.ofNat n) with | some d => x == (d : Int) | none => true) | none => false) = true := by kernel_rfl
theorem value_low (c : UInt8) (hc : c.toNat < 128) : ∃ x, m_digits_value (c.toNat : Int) 10 = some (x, (dgt c).isSome) ∧ ∀ d, dgt c = some d → x = (d : Int) := by
  have h := (List.all_eq_true.1 value_all) c.toNat (List.mem_range.2 hc)
  rw [UInt8.ofNat_toNat] at h
  cases hv : m_digits_value (c.toNat : Int) 10 with
  | none => rw [hv] at h; cases h
  | some y =>
    obtain ⟨x, b⟩ := y
    rw [hv] at h
    simp only [Bool.and_eq_true, beq_iff_eq] at h
    refine ⟨x, by rw [h.1], fun d hd => ?_⟩
    have h2 := h.2
    rw [hd] at h2
    exact eq_of_beq h2
theorem value_high (r : Int) (h : 128 ≤ r) : ∃ x, m_digits_value r 10 = some (x, false) := by
  unfold m_digits_value m_strings_IndexByte m_internal_stringslite_IndexByte
  rw [bd_some, bd_some, if_neg (by simpa using h)]
  exact ⟨_, rfl⟩
theorem from_loop (l : List UInt8) (hl : l.length ≤ 1000000) : ∀ (r : List UInt8) (i : Nat) (A : Int) (p s : Int), l.drop i = r → i ≤ l.length → 0 ≤ A → (nl A).length ≤ i → (1 ≤ p ∧ p < (4294967296 : Int)) → (0 ≤ s ∧ s < p) → ∀ V : Nat, A * p + s = V →
    lp (m_digits_From_l1 (bs l) 10) (nl A, p, s, i) = some (match rdN r V with | some v => (nl (v : Int), 0) | none => ([], 5))
  | [], i, A, p, s, hr, hi, hA, hA2, hp, hs, V, hV => by
    have hi2 : i = l.length := by
      have := congrArg List.length hr
      simp at this; omega
    refine lp_done ?_
    have e1 : decide (i < (bs l).size) = false := decide_eq_false (by rw [bs_size]; omega)
    have e2 := mulSmall_eq A p s hA ⟨by omega, hp.2⟩ ⟨hs.1, by omega⟩ (by omega)
    simp only [m_digits_From_l1, e1, e2, bd_some, hV, rdN]
    rfl
  | c :: r, i, A, p, s, hr, hi, hA, hA2, hp, hs, V, hV => by
    have hlt := drop_lt hr
    have e1 : decide (i < (bs l).size) = true := decide_eq_true (by rw [bs_size]; exact hlt)
    have w10 : wu64 10 = 10 := rfl
    by_cases hc : c.toNat < 128
    · obtain ⟨d1, d2⟩ := dc_low l i c r hr hc
      obtain ⟨x, hx, hx2⟩ := value_low c hc
      cases hd : dgt c with
      | none =>
        rw [hd] at hx
        refine lp_done ?_
        simp only [m_digits_From_l1, e1, if_true, d1, hx, bd_some, Option.isSome_none, Bool.not_false, rdN, hd]
      | some d =>
        have hxd := hx2 d hd
        have hd10 := dgt_lt hd
        rw [hd, hxd] at hx
        have e2 : wu64 (p * 10) = p * 10 := wu64_eq (by omega) (by omega)
        by_cases hbig : (4294967296 : Int) ≤ p * 10
        · have e3 := mulSmall_eq A p s hA ⟨by omega, hp.2⟩ ⟨hs.1, by omega⟩ (by omega)
          have e4 : wu64 (1 * 10) = 10 := rfl
          have e5 : wu64 (0 * 10) = 0 := rfl
          have e6 : wu64 (0 + (d : Int)) = (d : Int) := by rw [wu64_eq (by omega) (by omega)]; omega
          have st : m_digits_From_l1 (bs l) 10 (nl A, p, s, i) = some (.inl (nl (A * p + s), 10, (d : Int), i + 1)) := by
            simp only [m_digits_From_l1, e1, if_true, d1, hx, bd_some, Option.isSome_some, Bool.not_true, if_false, Bool.false_eq_true, w10, e2, decide_eq_true hbig, e3, d2, e4, e5, lt_eq, e6]
          rw [lp_more st]
          have hAp : 0 ≤ A * p := Int.mul_nonneg hA (by omega)
          have := from_loop l hl r (i + 1) (A * p + s) 10 (d : Int) (drop_more hr) (by omega) (by omega) (by
            refine nl_len (by omega) ?_
            have h1 := Int.lt_of_lt_of_le (lt_pow_len hA) (pow_mono (show (0 : Int) < (4294967296 : Int) by decide) hA2)
            have h2 : A * p ≤ ((4294967296 : Int) ^ i - 1) * p := Int.mul_le_mul_of_nonneg_right (by omega) (by omega)
            have h3 : ((4294967296 : Int) ^ i - 1) * p = (4294967296 : Int) ^ i * p - p := by rw [Int.sub_mul, Int.one_mul]
            have h4 : (4294967296 : Int) ^ i * p ≤ (4294967296 : Int) ^ i * (4294967296 : Int) := Int.mul_le_mul_of_nonneg_left (by omega) (Int.le_of_lt (pow_pos' (by decide) i))
            rw [Int.pow_succ]; omega) ⟨by decide, by decide⟩ ⟨by omega, by omega⟩ (V * 10 + d) (by push_cast; omega)
          rw [this]
          simp only [rdN, hd]
        · have e5 : wu64 (s * 10) = s * 10 := wu64_eq (by omega) (by omega)
          have e6 : wu64 (s * 10 + (d : Int)) = s * 10 + (d : Int) := wu64_eq (by omega) (by omega)
          have st : m_digits_From_l1 (bs l) 10 (nl A, p, s, i) = some (.inl (nl A, p * 10, s * 10 + (d : Int), i + 1)) := by
            simp only [m_digits_From_l1, e1, if_true, d1, hx, bd_some, Option.isSome_some, Bool.not_true, if_false, Bool.false_eq_true, w10, e2, decide_eq_false hbig, d2, lt_eq, e5, e6]
          rw [lp_more st]
          have := from_loop l hl r (i + 1) A (p * 10) (s * 10 + (d : Int)) (drop_more hr) (by omega) hA (by omega) ⟨by omega, by omega⟩ ⟨by omega, by omega⟩ (V * 10 + d) (by
            push_cast
            rw [← Int.mul_assoc]
            omega)
          rw [this]
          simp only [rdN, hd]
    · have hh := dc_high l i c r hr (by omega)
      obtain ⟨x, hx⟩ := value_high _ hh
      have hd : dgt c = none := by unfold dgt; rw [if_neg (by omega)]
      refine lp_done ?_
      simp only [m_digits_From_l1, e1, if_true, hx, bd_some, Bool.not_false, rdN, hd]
/-- how a number that is read is told -/
def tld (o : Option Nat) : List Int × Int := match o with | some v => (nl (v : Int), 0) | none => ([], 5)
theorem digFrom_eq (l : List UInt8) (hl : l.length ≤ 1000000) : m_digits_From (bs l) 10 = some (tld (rd10 l)) := by
  have hb : m_digits_based 10 = some 0 := rfl
  unfold m_digits_From
  rw [hb, bd_some, if_neg (by decide)]
  by_cases h : l = []
  · subst h
    rw [if_pos (sq_self _)]; rfl
  · have : sq (bs l) (bs []) = false := by rw [sq_bs]; exact decide_eq_false h
    rw [this, if_neg (by decide)]
    have := from_loop l hl l 0 0 1 0 rfl (by omega) (Int.le_refl _) (by rw [nl_zero]; exact Nat.le_refl _) ⟨by decide, by decide⟩ ⟨by decide, by decide⟩ 0 (by decide)
    rw [nl_zero] at this
    rw [this]
    unfold rd10 tld
    rw [if_neg h]
theorem parseD_eq (l : List UInt8) (hl : l.length ≤ 1000000) : m_digits_Parse (bs l) = some (tld (rd10 l)) := by
  unfold m_digits_Parse
  rw [digFrom_eq l hl, bd_some]
theorem nl_pow10 {v n : Nat} (h : v < 10 ^ n) : (nl (v : Int)).length ≤ n := by
  refine nl_len (by omega) ?_
  have h1 : ((v : Nat) : Int) < ((10 ^ n : Nat) : Int) := by omega
  have h2 : ((10 ^ n : Nat) : Int) = (10 : Int) ^ n := by push_cast; rfl
  have h3 : (10 : Int) ^ n ≤ (4294967296 : Int) ^ n := pow_le (by decide) (by decide) n
  omega
theorem zl_pow10 {v n : Nat} (h : v < 10 ^ n) : (zl (v : Int)).length ≤ n := by
  refine zl_len (by omega) ?_
  have h1 : ((v : Nat) : Int) < ((10 ^ n : Nat) : Int) := by omega
  have h2 : ((10 ^ n : Nat) : Int) = (10 : Int) ^ n := by push_cast; rfl
  have h3 : (10 : Int) ^ n ≤ (10000 : Int) ^ n := pow_le (by decide) (by decide) n
  omega
end Go.Proofs.YtfboepeadeafmaaGreatDoor.AP
/- Fractions of the program: the greatest divisor of any numbers, lowest terms, powers. -/
namespace Go.Proofs.YtfboepeadeafmaaGreatDoor.AP
open Go Go.Proofs.YtfboepeadeafmaaGreatDoor.Tri
set_option linter.unusedVariables false
set_option linter.unusedSimpArgs false
theorem gcdN_eq (x y : Int) (hx : 0 ≤ x) (hy : 0 ≤ y) (hlx : (nl x).length ≤ 1000000) (hly : (nl y).length ≤ 1000000) : m_gcd_Euclid (nl x) (nl y) = some (nl (Int.gcd x y)) := by
  have main : ∀ (n : Nat) (x y : Int), y.toNat ≤ n → 0 ≤ x → 0 ≤ y → (nl x).length ≤ 1000000 → (nl y).length ≤ 1000000 → lp m_gcd_Euclid_l1 (nl x, nl y) = some (nl (Int.gcd x y)) := by
    intro n
    induction n with
    | zero =>
      intro x y hn hx hy hlx hly
      obtain rfl : y = 0 := by omega
      have hxx : ((Int.gcd x 0 : Nat) : Int) = x := by rw [Int.gcd_zero_right]; omega
      have e : m_gcd_Euclid_l1 (nl x, nl 0) = some (.inr (nl x)) := by simp [m_gcd_Euclid_l1, nl_zero]
      rw [lp_done e, hxx]
    | succ n ih =>
      intro x y hn hx hy hlx hly
      by_cases h0 : y = 0
      · exact ih x y (by omega) hx hy hlx hly
      · have hpos : 0 < y := by omega
        have hne : nl y ≠ [] := fun h => h0 ((nl_nil hy).1 h)
        have hlen : 0 < (nl y).length := List.length_pos_iff.2 hne
        have h2 := Int.emod_lt_of_pos x hpos
        have h3 := Int.emod_nonneg x (show y ≠ 0 by omega)
        have h4 := nl_mono h3 (Int.le_of_lt h2)
        have e : m_gcd_Euclid_l1 (nl x, nl y) = some (.inl (nl y, nl (x % y))) := by
          simp only [m_gcd_Euclid_l1, m_divide_Mod, decide_eq_true (show (0 : Int) < ((nl y).length : Int) by omega), if_true, div_eq x y hx hpos (by omega) (by omega), bd_some]
        rw [lp_more e, ih y (x % y) (by omega) hy h3 (by omega) (by omega), gcd_mod x y hx]
  unfold m_gcd_Euclid
  rw [make_nl x (by omega), bd_some, make_nl y (by omega), bd_some]
  dsimp only
  rw [main y.toNat x y (Nat.le_refl _) hx hy hlx hly, bd_some]
theorem exactN_eq (x y : Int) (hx : 0 ≤ x) (hy : 0 < y) (hd : x % y = 0) (hl : (nl x).length ≤ 1000000) (hl2 : (nl y).length ≤ 1000000) : m_divide_Exact (nl x) (nl y) = some (nl (x / y), 0) := by
  unfold m_divide_Exact
  rw [div_eq x y hx hy (by omega) (by omega), bd_some]
  dsimp only
  rw [if_neg (show ¬ (!decide ((0 : Int) = 0)) = true by decide), hd, nl_zero, if_neg (show ¬ decide ((0 : Int) < (([] : List Int).length : Int)) = true by decide)]
theorem zI_of_nonneg {x : Int} (h : 0 ≤ x) : zI x = (false, nl x) := by
  unfold zI; rw [decide_eq_false (by omega), show ((x.natAbs : Nat) : Int) = x by omega]
theorem rLow_eq {n : Nat} (a b : Int) (hb : 0 < b) (ha : Lm n a) (hbl : Lm n b) (hn : n ≤ 100000) : m_rat_low (zI a) (nl b) = some (rI (a / Int.gcd a b) (b / Int.gcd a b)) := by
  have la := ha.len
  have lb := hbl.len' (by omega)
  have hg : 0 < (Int.gcd a b : Int) := by
    have := Int.gcd_pos_of_ne_zero_right a (show b ≠ 0 by omega); omega
  have hga : Int.gcd (a.natAbs : Int) b = Int.gcd a b := gcd_abs a b
  have d1 : (Int.gcd a b : Int) ∣ (a.natAbs : Int) := by rw [← hga]; exact Int.gcd_dvd_left _ _
  have d2 : (Int.gcd a b : Int) ∣ b := Int.gcd_dvd_right a b
  have d0 : (Int.gcd a b : Int) ∣ a := Int.gcd_dvd_left a b
  have lg : (nl (Int.gcd a b : Int)).length ≤ n := by
    have h := Int.le_of_dvd hb d2
    have := nl_mono (x := (Int.gcd a b : Int)) (by omega) h
    omega
  have hq0 : 0 ≤ (a.natAbs : Int) / (Int.gcd a b : Int) := Int.ediv_nonneg (by omega) (by omega)
  have hq1 : (a.natAbs : Int) / (Int.gcd a b : Int) ≤ (a.natAbs : Int) := Int.ediv_le_self _ (by omega)
  have lq := nl_mono hq0 hq1
  unfold m_rat_low
  show bd (m_gcd_Euclid (nl (a.natAbs : Int)) (nl b)) _ = _
  rw [gcdN_eq _ b (by omega) (by omega) (by omega) (by omega), bd_some, hga]
  show bd (m_divide_Exact (nl (a.natAbs : Int)) (nl (Int.gcd a b : Int))) _ = _
  rw [exactN_eq _ _ (by omega) hg (Int.emod_eq_zero_of_dvd d1) (by omega) (by omega), bd_some, exactN_eq _ _ (by omega) hg (Int.emod_eq_zero_of_dvd d2) (by omega) (by omega), bd_some]
  dsimp only
  show bd (m_whole_Made (decide (a < 0)) (nl ((a.natAbs : Int) / (Int.gcd a b : Int)))) _ = _
  rw [wMade_eq _ _ hq0 (by omega), bd_some]
  have e : (if decide (a < 0) = true then -((a.natAbs : Int) / (Int.gcd a b : Int)) else (a.natAbs : Int) / (Int.gcd a b : Int)) = a / (Int.gcd a b : Int) := by
    by_cases h : a < 0
    · rw [if_pos (decide_eq_true h), show (a.natAbs : Int) = -a by omega, Int.neg_ediv_of_dvd d0, Int.neg_neg]
    · rw [if_neg (by simpa using h), show (a.natAbs : Int) = a by omega]
  rw [e]
  rfl
theorem rMake_eq {n : Nat} (a b : Int) (hb : 0 < b) (ha : Lm n a) (hbl : Lm n b) (hn : n ≤ 100000) : m_rat_Make (zI a) (zI b) = some (rI (a / Int.gcd a b) (b / Int.gcd a b), 0) := by
  have la := ha.len
  have hz := zI_of_nonneg (x := b) (by omega)
  unfold m_rat_Make
  show bd (m_whole_Sign (zI b)) _ = _
  rw [wSign_eq, bd_some, if_neg (by rw [decide_eq_true_eq]; unfold sg; rw [if_neg (by omega), if_pos hb]; decide)]
  show bd (m_whole_Made (!(decide (a < 0) == (zI b).1)) (nl (a.natAbs : Int))) _ = _
  rw [hz, wMade_eq _ _ (by omega) (by omega), bd_some]
  have e : (if (!(decide (a < 0) == false)) = true then -(a.natAbs : Int) else (a.natAbs : Int)) = a := by
    by_cases h : a < 0
    · rw [decide_eq_true h]; simp; omega
    · rw [decide_eq_false h]; simp; omega
  rw [e, rLow_eq a b hb ha hbl hn, bd_some]
theorem rMake_zero (a : Int) : m_rat_Make (zI a) (zI 0) = some (((false, []), []), 3) := by
  unfold m_rat_Make
  show bd (m_whole_Sign (zI 0)) _ = _
  rw [wSign_eq, bd_some, if_pos (by rfl)]
/-! powers -/
theorem pow_loop (m : Nat) (hm : m ≤ 100000) : ∀ (k : Nat) (n : Nat) (r b : Int), n ≤ k → 0 ≤ r → 0 ≤ b → (nl r).length ≤ m → r * b ^ n < (4294967296 : Int) ^ m → (0 < n → b < (4294967296 : Int) ^ m) → n ≤ 10000 → 1 ≤ r → 2 ≤ b →
    lp m_mul_Pow_l1 ((n : Int), nl r, nl b) = some (nl (r * b ^ n))
  | k, n, r, b, hk, hr, hb, hlr, hlt, hbl, hn, hr1, hb2 => by
    by_cases h0 : n = 0
    · subst h0
      rw [Int.pow_zero, Int.mul_one]
      exact lp_done (by simp [m_mul_Pow_l1])
    · cases k with
      | zero => omega
      | succ k =>
        have hp : ∀ j : Nat, 0 < b ^ j := fun j => pow_pos' (by omega) j
        have hlb : (nl b).length ≤ m := nl_len hb (hbl (by omega))
        have a1 : decide (0 < (n : Int)) = true := decide_eq_true (by omega)
        have a2 : rm .i64 (n : Int) 2 = some ((n % 2 : Nat) : Int) := by rw [rm_of (by omega) (by decide)]; congr 1
        have a3 : qd .i64 (n : Int) 2 = some ((n / 2 : Nat) : Int) := by rw [qd64 (by omega) (by decide) (by omega)]; congr 1
        have hsplit : b ^ n = b ^ (n % 2) * (b * b) ^ (n / 2) := by
          rw [show b * b = b ^ 2 by rw [Int.pow_succ, Int.pow_succ, Int.pow_zero, Int.one_mul], ← Int.pow_mul, ← Int.pow_add]
          congr 1
          omega
        obtain ⟨r2, hr2, e1⟩ : ∃ r2, r2 = r * b ^ (n % 2) ∧ (bd (bd (rm .i64 (n : Int) 2) fun x14 => if decide (x14 = 1) = true then bd (m_mul_Mul (nl r) (nl b)) fun x17 => some x17 else some (nl r)) fun x => some x) = some (nl r2) := by
          refine ⟨_, rfl, ?_⟩
          rw [a2, bd_some]
          by_cases h1 : n % 2 = 1
          · rw [if_pos (by rw [h1]; rfl), mulN_eq r b hr hb (by omega) (by omega), bd_some, bd_some, h1, Int.pow_one]
          · rw [if_neg (by rw [decide_eq_true_eq]; omega), bd_some, show n % 2 = 0 by omega, Int.pow_zero, Int.mul_one]
        have hbp : 1 ≤ b ^ (n % 2) := hp _
        have hbb : 1 ≤ (b * b) ^ (n / 2) := pow_pos' (Int.mul_pos (by omega) (by omega)) _
        have hr21 : 1 ≤ r2 := by rw [hr2]; exact Int.mul_pos (by omega) (hp _)
        have hlt2 : r2 * (b * b) ^ (n / 2) < (4294967296 : Int) ^ m := by rw [hr2, Int.mul_assoc, ← hsplit]; exact hlt
        have hr2lt : r2 < (4294967296 : Int) ^ m := by
          have : r2 * 1 ≤ r2 * (b * b) ^ (n / 2) := Int.mul_le_mul_of_nonneg_left hbb (by omega)
          omega
        have e2 : ∀ {X : Type} (f : List Int → Option X) , (bd (bd (rm .i64 (n : Int) 2) fun x14 => if decide (x14 = 1) = true then bd (m_mul_Mul (nl r) (nl b)) fun x17 => some x17 else some (nl r)) f) = f (nl r2) := by
          intro X f
          cases hA : (bd (rm .i64 (n : Int) 2) fun x14 => if decide (x14 = 1) = true then bd (m_mul_Mul (nl r) (nl b)) fun x17 => some x17 else some (nl r)) with
          | none => rw [hA] at e1; cases e1
          | some v => rw [hA, bd_some] at e1; cases e1; rfl
        have e3 : m_mul_Pow_l1 ((n : Int), nl r, nl b) = some (.inl (((n / 2 : Nat) : Int), nl r2, if 1 < n then nl (b * b) else nl b)) := by
          simp only [m_mul_Pow_l1, a1, if_true, e2]
          by_cases h1 : 1 < n
          · have : m_mul_Square (nl b) = some (nl (b * b)) := by
              unfold m_mul_Square
              rw [mulN_eq b b hb hb (by omega) (by omega)]; rfl
            rw [if_pos (decide_eq_true (by omega)), this, bd_some, bd_some]
            dsimp only
            rw [a3, bd_some, if_pos h1]
          · rw [if_neg (by rw [decide_eq_true_eq]; omega), bd_some]
            dsimp only
            rw [a3, bd_some, if_neg h1]
        rw [lp_more e3]
        by_cases h1 : 1 < n
        · rw [if_pos h1, pow_loop m hm k (n / 2) r2 (b * b) (by omega) (by omega) (Int.mul_nonneg hb hb) (nl_len (by omega) hr2lt) hlt2 (fun hpos => by
            have h5 : (b * b) ^ 1 ≤ (b * b) ^ (n / 2) := by
              have : (0 : Int) < b * b := Int.mul_pos (by omega) (by omega)
              exact pow_mono this hpos
            rw [Int.pow_one] at h5
            have : 1 * (b * b) ^ (n / 2) ≤ r2 * (b * b) ^ (n / 2) := Int.mul_le_mul_of_nonneg_right hr21 (by omega)
            omega) (by omega) hr21 (by
            have : 2 * 1 ≤ b * b := Int.mul_le_mul hb2 (by omega) (by decide) hb
            omega), hr2, Int.mul_assoc, ← hsplit]
        · have : n = 1 := by omega
          subst this
          rw [if_neg h1]
          have : lp m_mul_Pow_l1 (((1 / 2 : Nat) : Int), nl r2, nl b) = some (nl r2) := lp_done (by simp [m_mul_Pow_l1])
          rw [this, hr2]
theorem pow10_lt (n : Nat) : (10 : Int) ^ n < (4294967296 : Int) ^ (n + 1) := by
  have h4 : (10 : Int) ^ n ≤ (4294967296 : Int) ^ n := pow_le (by decide) (by decide) n
  have h6 := pow_pos' (show (0 : Int) < (4294967296 : Int) by decide) n
  rw [Int.pow_succ]
  omega
theorem mulPow_eq (n : Nat) (hn : n ≤ 10000) : m_mul_Pow (nl 10) (n : Int) = some (nl (10 ^ n), 0) := by
  unfold m_mul_Pow
  rw [if_neg (by rw [decide_eq_true_eq]; omega), bd_some, if_neg (by rw [decide_eq_true_eq]; omega), natOf_eq 1 (by decide) (by decide), bd_some]
  have h1 : (nl 1).length ≤ 1 := nl_len (by decide) (by decide)
  have hb : (10 : Int) < (4294967296 : Int) ^ (n + 1) := by
    have h6 := pow_pos' (show (0 : Int) < (4294967296 : Int) by decide) n
    rw [Int.pow_succ]; omega
  have := pow_loop (n + 1) (by omega) n n 1 10 (Nat.le_refl _) (by decide) (by decide) (by omega) (by rw [Int.one_mul]; exact pow10_lt n) (fun _ => hb) hn (Int.le_refl _) (by decide)
  rw [this, bd_some, Int.one_mul]
end Go.Proofs.YtfboepeadeafmaaGreatDoor.AP
/- Fractions read: the program's way and the document's. -/
namespace Go.Proofs.YtfboepeadeafmaaGreatDoor.AP
open Go Go.Proofs.YtfboepeadeafmaaGreatDoor.Tri
set_option linter.unusedVariables false
set_option linter.unusedSimpArgs false
set_option maxRecDepth 4000
/-- a text before a byte, and behind it -/
def cutB (c : UInt8) : List UInt8 → List UInt8 × List UInt8 × Bool
  | [] => ([], [], false)
  | x :: l => if x = c then ([], l, true) else (x :: (cutB c l).1, (cutB c l).2.1, (cutB c l).2.2)
theorem cutB_app (c : UInt8) : ∀ l : List UInt8, l = (cutB c l).1 ++ (if (cutB c l).2.2 then c :: (cutB c l).2.1 else []) ∧ ((cutB c l).2.2 = false → (cutB c l).2.1 = [])
  | [] => ⟨rfl, fun _ => rfl⟩
  | x :: l => by
    obtain ⟨h1, h2⟩ := cutB_app c l
    unfold cutB
    by_cases h : x = c
    · rw [if_pos h]; exact ⟨by rw [h]; rfl, fun h => by cases h⟩
    · rw [if_neg h]
      refine ⟨?_, h2⟩
      show x :: l = x :: (_ ++ _)
      rw [← h1]
theorem cutB_idx (c : UInt8) : ∀ l : List UInt8, Lib.indexByte l c = if (cutB c l).2.2 then ((cutB c l).1.length : Int) else -1
  | [] => rfl
  | x :: l => by
    have ih := cutB_idx c l
    unfold Lib.indexByte cutB
    by_cases h : x = c
    · subst h; simp
    · rw [if_neg (show ¬ (x == c) = true by simpa using h), if_neg h, ih]
      dsimp only
      cases hf : (cutB c l).2.2 with
      | true => rw [if_pos rfl, if_pos rfl, if_neg (by rw [beq_iff_eq]; omega)]; simp
      | false => rfl
theorem index1 (l : List UInt8) (c : UInt8) : m_stringslite_Index (bs l) (bs [c]) = some (if (cutB c l).2.2 then ((cutB c l).1.length : Int) else -1) := by
  show some (Lib.indexByte l c) = _
  rw [cutB_idx]
theorem cut1 (l : List UInt8) (c : UInt8) (hl : l.length ≤ 1000000) : m_strings_Cut (bs l) (bs [c]) = some (bs (cutB c l).1, bs (cutB c l).2.1, (cutB c l).2.2) := by
  obtain ⟨h1, h2⟩ := cutB_app c l
  unfold m_strings_Cut m_internal_stringslite_Cut
  rw [index1, bd_some]
  generalize hA : (cutB c l).1 = a at *
  generalize hB : (cutB c l).2.1 = b at *
  cases hC : (cutB c l).2.2 with
  | true =>
    rw [hC, if_pos rfl] at h1
    have hlen := congrArg List.length h1
    simp only [List.length_append, List.length_cons] at hlen
    have e1 : cs (bs l) 0 ((a.length : Nat) : Int) = some (bs a) := by
      have := cs_bs l 0 a.length (by omega) (by omega)
      rw [List.drop_zero] at this
      conv at this => rhs; rw [h1]
      rw [List.take_left' rfl] at this
      exact this
    have e2 : wi64 ((a.length : Int) + (((bs [c]).size : Nat) : Int)) = ((a.length + 1 : Nat) : Int) := by
      show wi64 ((a.length : Int) + 1) = _
      rw [wi64_eq (by omega) (by omega)]; omega
    have e3 : cs (bs l) ((a.length + 1 : Nat) : Int) (((bs l).size : Nat) : Int) = some (bs b) := by
      have := cs_bs l (a.length + 1) l.length (by omega) (Nat.le_refl _)
      rw [List.take_length] at this
      conv at this => rhs; rw [h1]
      rw [show a ++ c :: b = (a ++ [c]) ++ b by simp, List.drop_left' (by simp)] at this
      exact this
    rw [if_pos rfl, if_pos (decide_eq_true (by omega)), e1, bd_some, e2, e3, bd_some, bd_some]
  | false =>
    rw [hC] at h1 h2
    rw [h2 rfl]
    rw [if_neg (by decide), List.append_nil] at h1
    rw [if_neg (show ¬ decide ((0 : Int) ≤ if false = true then (a.length : Int) else -1) = true by simp), bd_some, ← h1]
theorem has1 (l : List UInt8) (c : UInt8) : m_strings_Contains (bs l) (bs [c]) = some (cutB c l).2.2 := by
  unfold m_strings_Contains m_strings_Index
  rw [index1, bd_some, bd_some]
  cases (cutB c l).2.2 with
  | true => rw [if_pos rfl, decide_eq_true (by omega)]
  | false => rfl
/-- a fraction's parts: before the first line or point, and behind it -/
def spl : List UInt8 → List UInt8 × Option (UInt8 × List UInt8)
  | [] => ([], none)
  | c :: l => if c = 47 ∨ c = 46 then ([], some (c, l)) else (c :: (spl l).1, (spl l).2)
theorem spl_cut : ∀ l : List UInt8, spl l = if (cutB 47 l).2.2 = true ∧ (cutB 46 (cutB 47 l).1).2.2 = false then ((cutB 47 l).1, some (47, (cutB 47 l).2.1)) else if (cutB 46 l).2.2 = true then ((cutB 46 l).1, some (46, (cutB 46 l).2.1)) else (l, none)
  | [] => rfl
  | x :: l => by
    have ih := spl_cut l
    unfold spl
    by_cases h1 : x = 47
    · subst h1
      rw [if_pos (.inl rfl)]
      have : cutB 47 (47 :: l) = ([], l, true) := by unfold cutB; rw [if_pos rfl]
      rw [this, if_pos ⟨rfl, rfl⟩]
    · by_cases h2 : x = 46
      · subst h2
        rw [if_pos (.inr rfl)]
        have e1 : cutB 46 (46 :: l) = ([], l, true) := by unfold cutB; rw [if_pos rfl]
        have e2 : cutB 47 (46 :: l) = (46 :: (cutB 47 l).1, (cutB 47 l).2.1, (cutB 47 l).2.2) := by
          show (if (46 : UInt8) = 47 then _ else _) = _
          rw [if_neg h1]
        have e3 : (cutB 46 (46 :: (cutB 47 l).1)).2.2 = true := by unfold cutB; rw [if_pos rfl]
        rw [e1, e2]
        dsimp only
        rw [e3, if_neg (fun h => by cases h.2), if_pos rfl]
      · rw [if_neg (by rintro (h | h); exact h1 h; exact h2 h), ih]
        have e1 : cutB 46 (x :: l) = (x :: (cutB 46 l).1, (cutB 46 l).2.1, (cutB 46 l).2.2) := by
          show (if x = 46 then _ else _) = _
          rw [if_neg h2]
        have e2 : cutB 47 (x :: l) = (x :: (cutB 47 l).1, (cutB 47 l).2.1, (cutB 47 l).2.2) := by
          show (if x = 47 then _ else _) = _
          rw [if_neg h1]
        have e3 : (cutB 46 (x :: (cutB 47 l).1)).2.2 = (cutB 46 (cutB 47 l).1).2.2 := by
          show (if x = 46 then _ else _ : List UInt8 × List UInt8 × Bool).2.2 = _
          rw [if_neg h2]
        rw [e1, e2]
        dsimp only
        rw [e3]
        by_cases c1 : (cutB 47 l).2.2 = true ∧ (cutB 46 (cutB 47 l).1).2.2 = false
        · rw [if_pos c1, if_pos c1]
        · rw [if_neg c1, if_neg c1]
          by_cases c2 : (cutB 46 l).2.2 = true
          · rw [if_pos c2, if_pos c2]
          · rw [if_neg c2, if_neg c2]
theorem spl_app : ∀ l : List UInt8, l = (spl l).1 ++ (match (spl l).2 with | none => [] | some (c, r) => c :: r) ∧ ∀ c r, (spl l).2 = some (c, r) → c = 47 ∨ c = 46
  | [] => ⟨rfl, fun c r h => by cases h⟩
  | x :: l => by
    obtain ⟨h1, h2⟩ := spl_app l
    unfold spl
    by_cases h : x = 47 ∨ x = 46
    · rw [if_pos h]
      exact ⟨rfl, fun c r hh => by cases hh; exact h⟩
    · rw [if_neg h]
      refine ⟨?_, h2⟩
      show x :: l = x :: (_ ++ _)
      rw [← h1]
/-- both parts of a fraction's text -/
def prt (l : List UInt8) : Int ⊕ (Nat × Nat) := match (spl l).2 with
  | none => match rd10 (spl l).1 with
    | none => .inl 5
    | some x => .inr (x, 1)
  | some (c, b) => match rd10 (spl l).1 with
    | none => .inl 5
    | some x => match rd10 b with
      | none => .inl 5
      | some y => if c = 47 then .inr (x, y) else .inr (x * 10 ^ b.length + y, 10 ^ b.length)
theorem spl_len (l : List UInt8) : (spl l).1.length ≤ l.length ∧ ∀ c r, (spl l).2 = some (c, r) → (spl l).1.length + r.length + 1 = l.length := by
  have h := congrArg List.length (spl_app l).1
  rw [List.length_append] at h
  refine ⟨by omega, fun c r hh => ?_⟩
  rw [hh] at h
  simp only [List.length_cons] at h
  omega
theorem prt_bound {l : List UInt8} {x y : Nat} (h : prt l = .inr (x, y)) : x < 10 ^ l.length ∧ y < 10 ^ (l.length + 1) := by
  have hl := spl_len l
  have mono : ∀ {a b : Nat}, a ≤ b → (10 : Nat) ^ a ≤ 10 ^ b := fun h => Nat.pow_le_pow_right (by decide) h
  unfold prt at h
  cases h2 : (spl l).2 with
  | none =>
    rw [h2] at h
    cases hr : rd10 (spl l).1 with
    | none => rw [hr] at h; cases h
    | some v =>
      rw [hr] at h
      cases h
      have := rd10_lt hr
      have := mono hl.1
      have h3 := mono (show 1 ≤ l.length + 1 by omega)
      rw [Nat.pow_one] at h3
      exact ⟨by omega, by omega⟩
  | some cb =>
    obtain ⟨c, b⟩ := cb
    have hlb := hl.2 c b h2
    rw [h2] at h
    cases hr : rd10 (spl l).1 with
    | none => rw [hr] at h; cases h
    | some v =>
      cases hr2 : rd10 b with
      | none => rw [hr] at h; dsimp only at h; rw [hr2] at h; cases h
      | some w =>
        rw [hr] at h
        dsimp only at h
        rw [hr2] at h
        dsimp only at h
        have b1 := rd10_lt hr
        have b2 := rd10_lt hr2
        have m1 := mono hl.1
        have m2 := mono (show b.length ≤ l.length + 1 by omega)
        have m3 := mono (show b.length + 1 ≤ l.length + 1 by omega)
        rw [Nat.pow_succ] at m3
        split at h
        · cases h; exact ⟨by omega, by omega⟩
        · cases h
          have m4 : 10 ^ (spl l).1.length * 10 ^ b.length ≤ 10 ^ l.length := by rw [← Nat.pow_add]; exact mono (by omega)
          have m5 : (v + 1) * 10 ^ b.length ≤ 10 ^ (spl l).1.length * 10 ^ b.length := Nat.mul_le_mul_right _ b1
          rw [Nat.add_mul, Nat.one_mul] at m5
          have := Nat.pow_pos (n := b.length) (show 0 < 10 by decide)
          exact ⟨by omega, by omega⟩
theorem lm_pow10 {v n : Nat} (h : v < 10 ^ n) : Lm n (v : Int) := by
  unfold Lm
  have h1 : ((v : Nat) : Int) < ((10 ^ n : Nat) : Int) := by omega
  have h2 : ((10 ^ n : Nat) : Int) = (10 : Int) ^ n := by push_cast; rfl
  have h3 : (10 : Int) ^ n ≤ (4294967296 : Int) ^ n := pow_le (by decide) (by decide) n
  rw [show (((v : Int).natAbs : Nat) : Int) = (v : Int) by omega]
  omega
theorem pair_eq (a b : List UInt8) (ha : a.length ≤ 1000000) (hb : b.length ≤ 1000000) : m_ratio_pair (bs a) (bs b) = some (match rd10 a with | none => ([], [], 5) | some x => (nl (x : Int), (tld (rd10 b)).1, (tld (rd10 b)).2)) := by
  unfold m_ratio_pair
  rw [parseD_eq a ha, bd_some]
  cases hr : rd10 a with
  | none => rfl
  | some x =>
    unfold tld
    dsimp only
    rw [if_neg (show ¬ (!decide ((0 : Int) = 0)) = true by decide), parseD_eq b hb, bd_some]
    rfl
theorem parts_eq (l : List UInt8) (hl : l.length ≤ 5000) : ∃ r, m_ratio_parts (bs l) = some r ∧ match prt l with | .inl e => r.2.2 = 5 ∧ e = 5 | .inr (x, y) => r = (nl (x : Int), nl (y : Int), 0) := by
  have hs := spl_cut l
  have hl47 := congrArg List.length (cutB_app 47 l).1
  rw [List.length_append] at hl47
  unfold m_ratio_parts
  rw [cut1 l 47 (by omega), bd_some]
  dsimp only
  have hpost : (cutB 47 l).2.2 = true → (cutB 47 l).2.1.length ≤ l.length := fun h => by
    rw [h, if_pos rfl, List.length_cons] at hl47; omega
  have ev3 : (if (cutB 47 l).2.2 = true then bd (m_strings_Contains (bs (cutB 47 l).1) (bs [46])) fun x5 => some (!x5) else some false) = some (decide ((cutB 47 l).2.2 = true ∧ (cutB 46 (cutB 47 l).1).2.2 = false)) := by
    rw [has1, bd_some]
    cases (cutB 47 l).2.2 <;> cases (cutB 46 (cutB 47 l).1).2.2 <;> rfl
  rw [ev3, bd_some]
  by_cases c1 : (cutB 47 l).2.2 = true ∧ (cutB 46 (cutB 47 l).1).2.2 = false
  · rw [if_pos c1] at hs
    rw [if_pos (decide_eq_true c1), pair_eq _ _ (by omega) (by have := hpost c1.1; omega), bd_some]
    refine ⟨_, rfl, ?_⟩
    unfold prt
    rw [hs]
    dsimp only
    cases h1 : rd10 (cutB 47 l).1 with
    | none => exact ⟨rfl, rfl⟩
    | some x =>
      cases h2 : rd10 (cutB 47 l).2.1 with
      | none => exact ⟨rfl, rfl⟩
      | some y => rfl
  · rw [if_neg c1] at hs
    have hl46 := congrArg List.length (cutB_app 46 l).1
    rw [List.length_append] at hl46
    rw [if_neg (by simpa using c1), cut1 l 46 (by omega), bd_some]
    dsimp only
    rw [parseD_eq _ (by omega), bd_some]
    have h10 : m_nat_Of 10 = some (nl 10) := natOf_eq 10 (by decide) (by decide)
    by_cases c2 : (cutB 46 l).2.2 = true
    · rw [if_pos c2] at hs
      rw [c2, if_pos rfl, List.length_cons] at hl46
      unfold prt
      rw [hs, c2]
      dsimp only
      cases h1 : rd10 (cutB 46 l).1 with
      | none =>
        refine ⟨([], nl 1, 5), ?_, rfl, rfl⟩
        unfold tld
        dsimp only
        rw [if_pos (show (!decide ((5 : Int) = 0)) = true by decide), bd_some, if_pos rfl, natOf_eq 1 (by decide) (by decide), bd_some]
      | some x =>
        unfold tld
        dsimp only
        rw [if_neg (show ¬ (!decide ((0 : Int) = 0)) = true by decide), bd_some, if_neg (by decide), parseD_eq _ (by omega), bd_some]
        cases h2 : rd10 (cutB 46 l).2.1 with
        | none => exact ⟨_, rfl, rfl, rfl⟩
        | some y =>
          have b1 := rd10_lt h1
          have b2 := rd10_lt h2
          have lx := nl_pow10 b1
          have ly := nl_pow10 b2
          have hp : (nl ((10 : Int) ^ (cutB 46 l).2.1.length)).length ≤ (cutB 46 l).2.1.length + 1 := nl_len (Int.le_of_lt (pow_pos' (by decide) _)) (pow10_lt _)
          have hp0 := pow_pos' (show (0 : Int) < 10 by decide) (cutB 46 l).2.1.length
          have lm := nl_mul_len (x := (x : Int)) (y := (10 : Int) ^ (cutB 46 l).2.1.length) (by omega) (by omega) (Int.lt_of_lt_of_le (lt_pow_len (by omega)) (pow_mono (by decide) lx)) (pow10_lt _)
          unfold tld
          dsimp only
          rw [if_neg (show ¬ (!decide ((0 : Int) = 0)) = true by decide), h10, bd_some, bs_size, mulPow_eq _ (by omega), bd_some]
          dsimp only
          rw [mulN_eq _ _ (by omega) (by omega) (by omega) (by omega), bd_some, addN_eq _ _ (Int.mul_nonneg (by omega) (by omega)) (by omega) (by omega) (by omega), bd_some]
          refine ⟨_, rfl, ?_⟩
          rw [if_neg (by decide)]
          push_cast
          rfl
    · have hc2 : (cutB 46 l).2.2 = false := by simpa using c2
      rw [if_neg c2] at hs
      have hpre : (cutB 46 l).1 = l := by
        have := (cutB_app 46 l).1
        rw [hc2, if_neg (by decide), List.append_nil] at this
        exact this.symm
      unfold prt
      rw [hs, hc2, hpre]
      dsimp only
      have ev : (if (!decide ((tld (rd10 l)).2 = 0)) = true then some true else some (!false)) = some true := by split <;> rfl
      rw [ev, bd_some, if_pos rfl, natOf_eq 1 (by decide) (by decide), bd_some]
      cases h1 : rd10 l with
      | none => exact ⟨_, rfl, rfl, rfl⟩
      | some x => exact ⟨_, rfl, rfl⟩
end Go.Proofs.YtfboepeadeafmaaGreatDoor.AP
/- Fractions read, whole texts: the program's way and the document's. -/
namespace Go.Proofs.YtfboepeadeafmaaGreatDoor.AP
open Go Go.Proofs.YtfboepeadeafmaaGreatDoor.Tri
set_option linter.unusedVariables false
set_option linter.unusedSimpArgs false
set_option maxRecDepth 4000
theorem eq_snocB {l : List UInt8} (h : l ≠ []) : ∃ d x, l = d ++ [x] := ⟨l.dropLast, l.getLast h, (List.dropLast_concat_getLast h).symm⟩
/-- without its percent sign, if it has one -/
def pct (l : List UInt8) : List UInt8 × Bool := if l.getLast? = some 37 then (l.dropLast, true) else (l, false)
theorem pct_snoc (d : List UInt8) (x : UInt8) : pct (d ++ [x]) = if x = 37 then (d, true) else (d ++ [x], false) := by
  unfold pct
  rw [List.getLast?_concat, List.dropLast_concat]
  by_cases h : x = 37
  · rw [if_pos (by rw [h]), if_pos h]
  · rw [if_neg (by simpa using h), if_neg h]
theorem pct_len (l : List UInt8) : (pct l).1.length ≤ l.length := by
  unfold pct
  split
  · simp
  · exact Nat.le_refl _
theorem cutPct (l : List UInt8) (hl : l.length ≤ 1000000) : m_strings_CutSuffix (bs l) (bs [37]) = some (bs (pct l).1, (pct l).2) := by
  unfold m_strings_CutSuffix m_internal_stringslite_CutSuffix m_internal_stringslite_HasSuffix
  by_cases h0 : l = []
  · subst h0; rfl
  · obtain ⟨d, x, rfl⟩ := eq_snocB h0
    have hlen : (d ++ [x]).length = d.length + 1 := by simp
    have e0 : wi64 ((((bs (d ++ [x])).size : Nat) : Int) - (((bs [37]).size : Nat) : Int)) = ((d.length : Nat) : Int) := by
      rw [bs_size, bs_size, hlen]
      show wi64 (((d.length + 1 : Nat) : Int) - 1) = _
      rw [wi64_eq (by omega) (by omega)]; omega
    have e1 : cs (bs (d ++ [x])) ((d.length : Nat) : Int) (((bs (d ++ [x])).size : Nat) : Int) = some (bs [x]) := by
      have := cs_bs (d ++ [x]) d.length (d ++ [x]).length (by simp) (Nat.le_refl _)
      rw [List.take_length, List.drop_left' rfl] at this
      exact this
    have e2 : cs (bs (d ++ [x])) 0 ((d.length : Nat) : Int) = some (bs d) := by
      have := cs_bs (d ++ [x]) 0 d.length (by omega) (by simp)
      rw [List.drop_zero, List.take_left' rfl] at this
      exact this
    rw [e0, if_pos (decide_eq_true (by rw [bs_size, bs_size, hlen]; simp only [List.length_cons, List.length_nil]; omega)), e1, bd_some, bd_some, sq_bs, pct_snoc]
    by_cases h : x = 37
    · rw [decide_eq_true (by rw [h]), if_neg (by decide), e2, bd_some, bd_some, if_pos h]
    · rw [decide_eq_false (fun e => h (List.cons.inj e).1), if_pos (by decide), bd_some, if_neg h]
/-- what a fraction's text says -/
def prs (l : List UInt8) : Int ⊕ (Nat × Nat) := match prt (pct l).1 with
  | .inl e => .inl e
  | .inr (x, y) => if y = 0 then .inl 3 else .inr (x, if (pct l).2 then y * 100 else y)
theorem rParse_eq (l : List UInt8) (hl : l.length ≤ 5000) : m_ratio_Parse (bs l) = some (match prs l with | .inl e => (((false, []), []), e) | .inr (x, y) => (rI ((x : Int) / (Int.gcd x y : Int)) ((y : Int) / (Int.gcd x y : Int)), 0)) := by
  have hpl := pct_len l
  obtain ⟨r, hr, hm⟩ := parts_eq (pct l).1 (by omega)
  unfold m_ratio_Parse
  rw [cutPct l (by omega), bd_some]
  dsimp only
  rw [hr, bd_some]
  unfold prs
  cases hp : prt (pct l).1 with
  | inl e =>
    rw [hp] at hm
    dsimp only at hm ⊢
    rw [hm.1, hm.2, if_pos (show (!decide ((5 : Int) = 0)) = true by decide)]
  | inr xy =>
    obtain ⟨x, y⟩ := xy
    rw [hp] at hm
    dsimp only at hm ⊢
    obtain ⟨b1, b2⟩ := prt_bound hp
    have lx := nl_pow10 b1
    have ly := nl_pow10 b2
    subst hm
    dsimp only
    rw [if_neg (show ¬ (!decide ((0 : Int) = 0)) = true by decide)]
    have e1 : (if (pct l).2 = true then bd (m_mul_Small (nl (y : Int)) 100 0) fun x8 => some x8 else some (nl (y : Int))) = some (nl (((if (pct l).2 then y * 100 else y : Nat)) : Int)) := by
      cases (pct l).2 with
      | true =>
        rw [if_pos rfl, mulSmall_eq (y : Int) 100 0 (by omega) ⟨by decide, by decide⟩ ⟨by decide, by decide⟩ (by omega), bd_some, if_pos rfl]
        push_cast; rfl
      | false => rfl
    have hy3 : (if (pct l).2 = true then y * 100 else y) < 10 ^ ((pct l).1.length + 3) := by
      have e : 10 ^ ((pct l).1.length + 3) = 10 ^ ((pct l).1.length + 1) * 100 := by rw [show (pct l).1.length + 3 = (pct l).1.length + 1 + 2 by omega, Nat.pow_add _ ((pct l).1.length + 1)]
      rw [e]; split <;> omega
    have hy0 : y = 0 ↔ (if (pct l).2 = true then y * 100 else y) = 0 := by split <;> omega
    rw [e1, bd_some]
    generalize (if (pct l).2 = true then y * 100 else y) = z at *
    have lz := nl_pow10 hy3
    rw [wMade_eq _ _ (by omega) (by omega), bd_some, wMade_eq _ _ (by omega) (by omega), bd_some]
    show bd (m_rat_Make (zI (x : Int)) (zI (z : Int))) _ = _
    by_cases h0 : y = 0
    · have hz : z = 0 := hy0.1 h0
      subst hz
      rw [if_pos h0]
      show bd (m_rat_Make (zI (x : Int)) (zI 0)) _ = _
      rw [rMake_zero, bd_some]
    · have hz : z ≠ 0 := fun h => h0 (hy0.2 h)
      rw [if_neg h0, rMake_eq (n := (pct l).1.length + 3) (x : Int) (z : Int) (by omega) ((lm_pow10 b1).mono (by omega)) (lm_pow10 hy3) (by omega), bd_some]
/-! the document's -/
theorem ten_loop (n : Nat) (hn : n ≤ 100000) : ∀ (k i : Nat), i + k = n → lp (m_triviumref09_ten_l1 (n : Int)) (zl ((10 ^ i : Nat) : Int), (i : Int)) = some (zl ((10 ^ n : Nat) : Int))
  | 0, i, hk => by
    obtain rfl : i = n := by omega
    exact lp_done (by simp [m_triviumref09_ten_l1])
  | k + 1, i, hk => by
    have h1 := zl_pow10 (v := 10 ^ i) (n := i + 1) (by rw [Nat.pow_succ]; have := Nat.pow_pos (n := i) (show 0 < 10 by decide); omega)
    have e1 : decide ((i : Int) < (n : Int)) = true := decide_eq_true (by omega)
    have e5 := mulAdd_eq ((10 ^ i : Nat) : Int) 10 0 (Int.natCast_nonneg _) (by decide) (by decide) (by omega) (by omega) (by omega)
    have e6 : wi64 ((i : Int) + 1) = ((i + 1 : Nat) : Int) := by rw [wi64_eq (by omega) (by omega)]; omega
    have e7 : ((10 ^ i : Nat) : Int) * 10 + 0 = ((10 ^ (i + 1) : Nat) : Int) := by rw [Nat.pow_succ]; push_cast; omega
    rw [e7] at e5
    rw [lp_more (s' := (zl ((10 ^ (i + 1) : Nat) : Int), ((i + 1 : Nat) : Int))) (by simp only [m_triviumref09_ten_l1, e1, if_true, e5, bd_some, e6])]
    exact ten_loop n hn k (i + 1) (by omega)
theorem ten_eq (n : Nat) (hn : n ≤ 100000) : m_triviumref09_ten (n : Int) = some (zl ((10 ^ n : Nat) : Int)) := by
  unfold m_triviumref09_ten
  rw [refNum_eq 1 (by decide) (by decide), bd_some]
  have : lp (m_triviumref09_ten_l1 (n : Int)) (zl 1, 0) = some (zl ((10 ^ n : Nat) : Int)) := ten_loop n hn n 0 (by omega)
  rw [this, bd_some]
end Go.Proofs.YtfboepeadeafmaaGreatDoor.AP
/- Fractions by tenths: when there is such a text, and which. -/
namespace Go.Proofs.YtfboepeadeafmaaGreatDoor.AP
open Go Go.Proofs.YtfboepeadeafmaaGreatDoor.Tri
set_option linter.unusedVariables false
set_option linter.unusedSimpArgs false
set_option maxRecDepth 4000
/-! numbers: no program in sight -/
theorem cop2 {m : Nat} (h : m % 2 ≠ 0) : Nat.Coprime m 2 := by
  have : m % 2 = 1 := by omega
  rw [Nat.coprime_comm]
  unfold Nat.Coprime
  rw [Nat.gcd_rec, this]
  rfl
theorem cop5 {m : Nat} (h : m % 5 ≠ 0) : Nat.Coprime m 5 := by
  rw [Nat.coprime_comm]
  unfold Nat.Coprime
  rw [Nat.gcd_rec]
  have : m % 5 = 1 ∨ m % 5 = 2 ∨ m % 5 = 3 ∨ m % 5 = 4 := by omega
  rcases this with h | h | h | h <;> rw [h] <;> rfl
theorem ten_pow (n : Nat) : (10 : Nat) ^ n = 2 ^ n * 5 ^ n := by rw [← Nat.mul_pow]
theorem tenths (a b i j m n : Nat) (hb : b = 2 ^ i * (5 ^ j * m)) (h2 : (5 ^ j * m) % 2 ≠ 0) (h5 : m % 5 ≠ 0) (hg : Nat.gcd a b = 1) : b ∣ a * 10 ^ n ↔ m = 1 ∧ i ≤ n ∧ j ≤ n := by
  constructor
  · intro h
    have hc : Nat.Coprime b a := by rw [Nat.coprime_comm]; exact hg
    have h10 : b ∣ 10 ^ n := hc.dvd_of_dvd_mul_left h
    rw [ten_pow] at h10
    have d1 : 2 ^ i ∣ 2 ^ n * 5 ^ n := Nat.dvd_trans ⟨_, hb⟩ h10
    have d2 : 5 ^ j ∣ 2 ^ n * 5 ^ n := Nat.dvd_trans ⟨2 ^ i * m, by rw [hb, Nat.mul_left_comm]⟩ h10
    have d3 : m ∣ 2 ^ n * 5 ^ n := Nat.dvd_trans ⟨2 ^ i * 5 ^ j, by rw [hb, Nat.mul_comm m, Nat.mul_assoc]⟩ h10
    have c25 : Nat.Coprime 2 5 := by decide
    have e1 : 2 ^ i ∣ 2 ^ n := (Nat.Coprime.pow i n c25).dvd_of_dvd_mul_right d1
    have e2 : 5 ^ j ∣ 5 ^ n := (Nat.Coprime.pow j n c25.symm).dvd_of_dvd_mul_left d2
    have cm2 : Nat.Coprime m 2 := (cop2 h2).coprime_dvd_left ⟨5 ^ j, Nat.mul_comm _ _⟩
    have e3 : m ∣ 5 ^ n := (cm2.pow_right n).dvd_of_dvd_mul_left d3
    refine ⟨((cop5 h5).pow_right n).eq_one_of_dvd e3, (Nat.pow_dvd_pow_iff_le_right (by decide)).1 e1, (Nat.pow_dvd_pow_iff_le_right (by decide)).1 e2⟩
  · rintro ⟨rfl, hi, hj⟩
    rw [hb, Nat.mul_one]
    refine Nat.dvd_trans ?_ (Nat.dvd_mul_left _ a)
    rw [ten_pow]
    exact Nat.mul_dvd_mul (Nat.pow_dvd_pow 2 hi) (Nat.pow_dvd_pow 5 hj)
/-- lowest terms are the same, however they are come to -/
theorem lowest (a b X Y : Nat) (hg : Nat.gcd a b = 1) (hb : 0 < b) (hY : 0 < Y) (h : X * b = a * Y) : X / Nat.gcd X Y = a ∧ Y / Nat.gcd X Y = b := by
  have hc : Nat.Coprime b a := by rw [Nat.coprime_comm]; exact hg
  have hd : b ∣ Y := hc.dvd_of_dvd_mul_left ⟨X, by rw [← h, Nat.mul_comm]⟩
  obtain ⟨k, rfl⟩ := hd
  have hk : 0 < k := by
    apply Nat.pos_of_ne_zero
    rintro rfl
    simp at hY
  have hX : X = a * k := by
    apply Nat.eq_of_mul_eq_mul_right hb
    rw [h, Nat.mul_assoc, Nat.mul_comm k b]
  subst hX
  rw [Nat.gcd_mul_right, hg, Nat.one_mul, Nat.mul_div_cancel _ hk, Nat.mul_div_cancel _ hk]
  exact ⟨rfl, rfl⟩
/-! how often a limb divides a number -/
theorem mult_loop (p : Nat) (hp : 2 ≤ p) (hp2 : p < 4294967296) : ∀ (K d j : Nat), 0 < d → d < 2 ^ K → j + K ≤ 1000000000 → (nl (d : Int)).length ≤ 1000000 →
    ∃ i m : Nat, lp (m_ratio_places_1_M_l1 (p : Int)) ((j : Int), nl (d : Int)) = some (((j + i : Nat) : Int), nl (m : Int)) ∧ d = p ^ i * m ∧ m % p ≠ 0 ∧ i ≤ K
  | 0, d, j, h0, hd, hj, hl => by simp at hd; omega
  | K + 1, d, j, h0, hd, hj, hl => by
    have e1 := smallD_eq (d : Int) (p : Int) (by omega) (by omega) (by omega) (by omega)
    have hlen : ¬ (((nl (d : Int)).length : Int) = 0) := fun e => by
      have := (nl_nil (x := (d : Int)) (by omega)).1 (List.length_eq_zero_iff.1 (by omega))
      omega
    by_cases hr : d % p = 0
    · have e2 : (d : Int) % (p : Int) = 0 := by rw [← Int.natCast_emod, hr]; rfl
      have e3 : (d : Int) / (p : Int) = ((d / p : Nat) : Int) := by rw [Int.natCast_ediv]
      have e4 : wi64 ((j : Int) + 1) = ((j + 1 : Nat) : Int) := by rw [wi64_eq (by omega) (by omega)]; omega
      rw [e2, e3] at e1
      have st : m_ratio_places_1_M_l1 (p : Int) ((j : Int), nl (d : Int)) = some (.inl (((j + 1 : Nat) : Int), nl ((d / p : Nat) : Int))) := by
        simp only [m_ratio_places_1_M_l1, e1, bd_some, decide_true, Bool.not_true, Bool.false_eq_true, if_false, decide_eq_false hlen, e4]
      have hmul : p * (d / p) = d := Nat.mul_div_cancel' (Nat.dvd_of_mod_eq_zero hr)
      have hq0 : 0 < d / p := by
        apply Nat.pos_of_ne_zero
        intro h
        rw [h] at hmul; omega
      have hq1 : 2 * (d / p) ≤ d := by
        have : 2 * (d / p) ≤ p * (d / p) := Nat.mul_le_mul_right _ hp
        omega
      obtain ⟨i, m, h1, h2, h3, h4⟩ := mult_loop p hp hp2 K (d / p) (j + 1) hq0 (by rw [Nat.pow_succ] at hd; omega) (by omega) (by
        have := nl_mono (x := ((d / p : Nat) : Int)) (y := (d : Int)) (by omega) (by omega)
        omega)
      refine ⟨i + 1, m, ?_, ?_, h3, by omega⟩
      · rw [lp_more st, h1, show j + 1 + i = j + (i + 1) by omega]
      · rw [Nat.pow_succ, Nat.mul_comm (p ^ i) p, Nat.mul_assoc, ← h2, hmul]
    · have e2 : ¬ ((d : Int) % (p : Int) = 0) := by rw [← Int.natCast_emod]; omega
      refine ⟨0, d, lp_done ?_, by simp, hr, by omega⟩
      simp only [m_ratio_places_1_M_l1, e1, bd_some, decide_true, Bool.not_true, Bool.false_eq_true, if_false, decide_eq_false e2, Bool.not_false, if_true]
      rfl
theorem places_eq (K b : Nat) (hb : 0 < b) (hK : b < 2 ^ K) (hK2 : K ≤ 100000) (hl : (nl (b : Int)).length ≤ 1000000) : ∃ i j m : Nat, m_ratio_places (nl (b : Int)) = some (((max i j : Nat) : Int), decide (m = 1)) ∧ b = 2 ^ i * (5 ^ j * m) ∧ (5 ^ j * m) % 2 ≠ 0 ∧ m % 5 ≠ 0 ∧ i ≤ K ∧ j ≤ K := by
  obtain ⟨i, m1, h1, h2, h3, h4⟩ := mult_loop 2 (by decide) (by decide) K b 0 hb hK (by omega) hl
  have hm1 : 0 < m1 := by omega
  have hle : m1 ≤ b := by
    rw [h2]
    have := Nat.pow_pos (n := i) (show 0 < 2 by decide)
    have h : 1 * m1 ≤ 2 ^ i * m1 := Nat.mul_le_mul_right _ this
    omega
  have hl1 := nl_mono (x := (m1 : Int)) (y := (b : Int)) (by omega) (by omega)
  obtain ⟨j, m, k1, k2, k3, k4⟩ := mult_loop 5 (by decide) (by decide) K m1 0 hm1 (by omega) (by omega) (by omega)
  have hm : 0 < m := by omega
  refine ⟨i, j, m, ?_, by rw [h2, k2], by rw [← k2]; exact h3, k3, h4, k4⟩
  unfold m_ratio_places m_ratio_places_1_M
  have h1' : lp (m_ratio_places_1_M_l1 2) (0, nl (b : Int)) = some ((i : Int), nl (m1 : Int)) := by
    have := h1
    rw [Nat.zero_add] at this
    exact this
  have k1' : lp (m_ratio_places_1_M_l1 5) (0, nl (m1 : Int)) = some ((j : Int), nl (m : Int)) := by
    have := k1
    rw [Nat.zero_add] at this
    exact this
  have hlm : (nl (m : Int)).length ≤ 1000000 := by
    have hle2 : m ≤ m1 := by
      rw [k2]
      have := Nat.pow_pos (n := j) (show 0 < 5 by decide)
      have h : 1 * m ≤ 5 ^ j * m := Nat.mul_le_mul_right _ this
      omega
    have := nl_mono (x := (m : Int)) (y := (m1 : Int)) (by omega) (by omega)
    omega
  rw [h1', bd_some]
  dsimp only
  rw [k1', bd_some, natOf_eq 1 (by decide) (by decide), bd_some]
  dsimp only
  rw [cmpN_eq (m : Int) 1 (by omega) (by decide) (by omega), bd_some]
  have e : decide (sg ((m : Int) - 1) = 0) = decide (m = 1) := by
    rw [decide_eq_decide]
    unfold sg
    split <;> (try split) <;> omega
  rw [e, show max (i : Int) (j : Int) = ((max i j : Nat) : Int) by omega]
/-! the text -/
def padL (n : Nat) (l : List UInt8) : List UInt8 := List.replicate (n + 1 - l.length) 48 ++ l
def putL (n : Nat) (p : List UInt8) : List UInt8 := if 0 < n then p.take (p.length - n) ++ 46 :: p.drop (p.length - n) else p
def decL (neg : Bool) (x n : Nat) : List UInt8 := if neg then 45 :: putL n (padL n (Lib.decDigits x)) else putL n (padL n (Lib.decDigits x))
theorem padL_len (n : Nat) (l : List UInt8) : (padL n l).length = max l.length (n + 1) := by
  unfold padL
  rw [List.length_append, List.length_replicate]; omega
theorem repeat48 : ∀ k : Nat, Lib.repeatL [48] k = List.replicate k 48
  | 0 => rfl
  | k + 1 => by rw [Lib.repeatL, repeat48 k]; rfl
theorem repeat_eq (k : Nat) (hk : k ≤ 1000000) : m_strings_Repeat (bs [48]) (k : Int) = some (bs (List.replicate k 48)) := by
  unfold m_strings_Repeat
  rw [if_pos ⟨by omega, by omega, by show 1 * (k : Int).toNat ≤ _; omega⟩]
  show some (bs (Lib.repeatL [48] (k : Int).toNat)) = _
  rw [Int.toNat_natCast, repeat48]
/-- with its point put, by either way -/
theorem put_eq (n : Nat) (p : List UInt8) (hp : n < p.length) (hl : p.length ≤ 1000000) {X : Type} (f : ByteArray → Option X) : (bd (if decide (0 < (n : Int)) = true then
      bd (cs (bs p) 0 (wi64 ((((bs p).size : Nat) : Int) - (n : Int)))) fun x23 => bd (cat x23 (bs [46])) fun x25 => bd (cs (bs p) (wi64 ((((bs p).size : Nat) : Int) - (n : Int))) (((bs p).size : Nat) : Int)) fun x27 => bd (cat x25 x27) fun x29 => some x29
      else some (bs p)) f) = f (bs (putL n p)) := by
  unfold putL
  by_cases h : 0 < n
  · have e0 : wi64 ((((bs p).size : Nat) : Int) - (n : Int)) = ((p.length - n : Nat) : Int) := by rw [bs_size, wi64_eq (by omega) (by omega)]; omega
    have e1 : cs (bs p) 0 ((p.length - n : Nat) : Int) = some (bs (p.take (p.length - n))) := by
      have := cs_bs p 0 (p.length - n) (by omega) (by omega)
      rw [List.drop_zero] at this; exact this
    have e2 : cs (bs p) ((p.length - n : Nat) : Int) (((bs p).size : Nat) : Int) = some (bs (p.drop (p.length - n))) := by
      have := cs_bs p (p.length - n) p.length (by omega) (Nat.le_refl _)
      rw [List.take_length] at this; exact this
    have l1 : (p.take (p.length - n)).length ≤ 1000000 := by rw [List.length_take]; omega
    have l2 : (p.drop (p.length - n)).length ≤ 1000000 := by rw [List.length_drop]; omega
    rw [if_pos (decide_eq_true (by omega)), e0, e1, bd_some, cat_bs (by simp only [List.length_cons, List.length_nil]; omega), bd_some, e2, bd_some, cat_bs (by rw [List.length_append]; simp only [List.length_cons, List.length_nil]; omega), bd_some, bd_some, if_pos h]
    rw [List.append_assoc]; rfl
  · rw [if_neg (by rw [decide_eq_true_eq]; omega), bd_some, if_neg h]
theorem sign_eq (b : Bool) (p : List UInt8) (hl : p.length ≤ 2000000) {X : Type} (f : ByteArray → Option X) : (bd (if b = true then bd (cat (bs [45]) (bs p)) fun x33 => some x33 else some (bs p)) f) = f (bs (if b then 45 :: p else p)) := by
  cases b with
  | true => rw [if_pos rfl, cat_bs (by simp only [List.length_cons, List.length_nil]; omega), bd_some, bd_some]; rfl
  | false => rw [if_neg (by decide), bd_some]; rfl
theorem putL_len (n : Nat) (p : List UInt8) : (putL n p).length ≤ p.length + 1 := by
  unfold putL
  split
  · simp only [List.length_append, List.length_cons, List.length_take, List.length_drop]; omega
  · omega
theorem dd_pow (x n : Nat) (hn : x < 10 ^ n) (h0 : 0 < n) : (Lib.decDigits x).length ≤ n := by
  rw [Lib.decDigits_length]
  obtain ⟨k, rfl⟩ : ∃ k, n = k + 1 := ⟨n - 1, by omega⟩
  exact nd_pow k x hn
/-- the program's text by tenths -/
theorem rDecimal_eq (K : Nat) (a : Int) (b i j m : Nat) (hK2 : K ≤ 1000) (hb0 : 0 < b) (hl : (nl (b : Int)).length ≤ 1000) (hla : (nl (a.natAbs : Int)).length ≤ 1000) (hg : Nat.gcd a.natAbs b = 1)
    (hpl : m_ratio_places (nl (b : Int)) = some (((max i j : Nat) : Int), decide (m = 1))) (hb : b = 2 ^ i * (5 ^ j * m)) (h2 : (5 ^ j * m) % 2 ≠ 0) (h5 : m % 5 ≠ 0) (hi : i ≤ K) (hj : j ≤ K) :
    m_ratio_Decimal (rI a (b : Int)) = some (if m = 1 then (bs (decL (decide (a < 0)) (a.natAbs * 10 ^ max i j / b) (max i j)), true) else (bs [], false)) := by
  unfold m_ratio_Decimal
  show bd (m_ratio_places (nl (b : Int))) _ = _
  rw [hpl, bd_some]
  dsimp only
  by_cases hm : m = 1
  · obtain ⟨n, hn⟩ : ∃ n, n = max i j := ⟨_, rfl⟩
    rw [← hn]
    have hdv : b ∣ a.natAbs * 10 ^ n := (tenths a.natAbs b i j m n hb h2 h5 hg).2 ⟨hm, by omega, by omega⟩
    have hnK : n ≤ K := by omega
    have hp : (nl ((10 : Int) ^ n)).length ≤ n + 1 := nl_len (Int.le_of_lt (pow_pos' (by decide) _)) (pow10_lt _)
    have hp0 := pow_pos' (show (0 : Int) < 10 by decide) n
    have lm := nl_mul_len (x := (a.natAbs : Int)) (y := (10 : Int) ^ n) (by omega) (by omega) (Int.lt_of_lt_of_le (lt_pow_len (by omega)) (pow_mono (by decide) hla)) (pow10_lt _)
    have e0 : (a.natAbs : Int) * (10 : Int) ^ n = ((a.natAbs * 10 ^ n : Nat) : Int) := by push_cast; rfl
    have e1 : ((a.natAbs * 10 ^ n : Nat) : Int) % (b : Int) = 0 := by rw [← Int.natCast_emod, Nat.mod_eq_zero_of_dvd hdv]; rfl
    have e2 : ((a.natAbs * 10 ^ n : Nat) : Int) / (b : Int) = ((a.natAbs * 10 ^ n / b : Nat) : Int) := by rw [Int.natCast_ediv]
    have h10 : m_nat_Of 10 = some (nl 10) := natOf_eq 10 (by decide) (by decide)
    rw [if_neg (by rw [decide_eq_true hm]; decide), h10, bd_some, mulPow_eq n (by omega), bd_some]
    dsimp only
    show bd (m_mul_Mul (nl (a.natAbs : Int)) (nl ((10 : Int) ^ n))) (fun x8 => bd (m_divide_Exact x8 (nl (b : Int))) _) = _
    rw [mulN_eq _ _ (by omega) (by omega) (by omega) (by omega), bd_some]
    rw [e0] at lm ⊢
    rw [exactN_eq _ _ (Int.natCast_nonneg _) (by omega) e1 (by omega) (by omega), bd_some]
    dsimp only
    rw [if_neg (show ¬ (!decide ((0 : Int) = 0)) = true by decide), e2]
    have hle : a.natAbs * 10 ^ n / b ≤ a.natAbs * 10 ^ n := Nat.div_le_self _ _
    have lx := nl_mono (x := ((a.natAbs * 10 ^ n / b : Nat) : Int)) (y := ((a.natAbs * 10 ^ n : Nat) : Int)) (Int.natCast_nonneg _) (by omega)
    generalize hx : a.natAbs * 10 ^ n / b = x at *
    rw [digitsPrint_eq x (by omega), bd_some]
    have hdd : (Lib.decDigits x).length ≤ 100000 := by
      have h1 := dd_len x
      have h2 := zl_nl_len (x := (x : Int)) (by omega)
      omega
    have epad : (if decide ((((bs (Lib.decDigits x)).size : Nat) : Int) ≤ (n : Int)) = true then bd (m_strings_Repeat (bs [48]) (wi64 ((wi64 ((n : Int) + 1)) - (((bs (Lib.decDigits x)).size : Nat) : Int)))) fun x17 => bd (cat x17 (bs (Lib.decDigits x))) fun x19 => some x19 else some (bs (Lib.decDigits x))) = some (bs (padL n (Lib.decDigits x))) := by
      unfold padL
      by_cases h : (Lib.decDigits x).length ≤ n
      · have e : wi64 ((wi64 ((n : Int) + 1)) - (((bs (Lib.decDigits x)).size : Nat) : Int)) = ((n + 1 - (Lib.decDigits x).length : Nat) : Int) := by
          rw [bs_size, wi64_eq (x := (n : Int) + 1) (by omega) (by omega), wi64_eq (by omega) (by omega)]; omega
        rw [if_pos (decide_eq_true (by rw [bs_size]; omega)), e, repeat_eq _ (by omega), bd_some, cat_bs (by rw [List.length_replicate]; omega), bd_some]
      · rw [if_neg (by rw [decide_eq_true_eq, bs_size]; omega), show n + 1 - (Lib.decDigits x).length = 0 by omega]
        rfl
    rw [epad, bd_some]
    have hpl := padL_len n (Lib.decDigits x)
    have hput := putL_len n (padL n (Lib.decDigits x))
    rw [put_eq n _ (by omega) (by omega)]
    show bd (if decide (a < 0) = true then bd (cat (bs [45]) _) fun x33 => some x33 else some _) _ = _
    rw [sign_eq (decide (a < 0)) _ (by omega), if_pos hm]
    rfl
  · rw [decide_eq_false hm, if_pos (by rfl), if_neg hm]
end Go.Proofs.YtfboepeadeafmaaGreatDoor.AP
/- Fractions by tenths: the document's way; both together. -/
namespace Go.Proofs.YtfboepeadeafmaaGreatDoor.AP
open Go Go.Proofs.YtfboepeadeafmaaGreatDoor.Tri
set_option linter.unusedVariables false
set_option linter.unusedSimpArgs false
set_option maxRecDepth 4000
theorem refBits_loop : ∀ (K x k : Nat), x < 2 ^ K → k + K ≤ 1000000000 → (zl (x : Int)).length ≤ 1000000 → ∃ m : Nat, lp m_triviumref02_Bits_l1 (zl (x : Int), (k : Int)) = some ((k + m : Nat) : Int) ∧ x < 2 ^ m ∧ m ≤ K
  | 0, x, k, hx, hk, hl => by
    have : x = 0 := by simpa using hx
    subst this
    refine ⟨0, lp_done ?_, by decide, Nat.le_refl _⟩
    rw [show ((0 : Nat) : Int) = 0 from rfl, zl_zero]; rfl
  | K + 1, x, k, hx, hk, hl => by
    by_cases h0 : x = 0
    · subst h0
      refine ⟨0, lp_done ?_, by decide, by omega⟩
      rw [show ((0 : Nat) : Int) = 0 from rfl, zl_zero]; rfl
    · have hlen : 0 < ((zl (x : Int)).length : Int) := by
        have : (zl (x : Int)).length ≠ 0 := fun e => by
          have := (zl_nil (x := (x : Int)) (by omega)).1 (List.length_eq_zero_iff.1 e)
          omega
        omega
      have e1 := refDivSmall_eq (x : Int) 2 (by omega) (by decide) (by decide) (by omega)
      have e2 : (x : Int) / 2 = ((x / 2 : Nat) : Int) := by omega
      have e3 : wi64 ((k : Int) + 1) = ((k + 1 : Nat) : Int) := by rw [wi64_eq (by omega) (by omega)]; omega
      rw [e2] at e1
      have st : m_triviumref02_Bits_l1 (zl (x : Int), (k : Int)) = some (.inl (zl ((x / 2 : Nat) : Int), ((k + 1 : Nat) : Int))) := by
        simp only [m_triviumref02_Bits_l1, decide_eq_true hlen, if_true, e1, bd_some, e3]
      obtain ⟨m, h1, h2, h3⟩ := refBits_loop K (x / 2) (k + 1) (by rw [Nat.pow_succ] at hx; omega) (by omega) (by
        have := zl_mono (x := ((x / 2 : Nat) : Int)) (y := (x : Int)) (by omega) (by omega)
        omega)
      refine ⟨m + 1, ?_, by rw [Nat.pow_succ]; omega, by omega⟩
      rw [lp_more st, h1, show k + 1 + m = k + (m + 1) by omega]
theorem refBits_eq (K x : Nat) (hx : x < 2 ^ K) (hK : K ≤ 1000000) (hl : (zl (x : Int)).length ≤ 1000000) : ∃ m : Nat, m_triviumref02_Bits (zl (x : Int)) = some (m : Int) ∧ x < 2 ^ m ∧ m ≤ K := by
  obtain ⟨m, h1, h2, h3⟩ := refBits_loop K x 0 hx (by omega) hl
  rw [Nat.zero_add] at h1
  refine ⟨m, ?_, h2, h3⟩
  unfold m_triviumref02_Bits
  have h1' : lp m_triviumref02_Bits_l1 (zl (x : Int), 0) = some (m : Int) := h1
  rw [h1', bd_some]
theorem pad_loop (n : Nat) (hn : n ≤ 900000) : ∀ (k : Nat) (l : List UInt8), n + 1 ≤ l.length + k → l.length ≤ 1000000 → lp (m_triviumref09_Decimal_l2 (n : Int)) (bs l) = some (bs (padL n l))
  | 0, l, hk, hl => by
    refine lp_done ?_
    have : padL n l = l := by unfold padL; rw [show n + 1 - l.length = 0 by omega]; rfl
    rw [this]
    unfold m_triviumref09_Decimal_l2
    rw [if_neg (by rw [decide_eq_true_eq, bs_size]; omega)]
  | k + 1, l, hk, hl => by
    by_cases h : l.length ≤ n
    · have st : m_triviumref09_Decimal_l2 (n : Int) (bs l) = some (.inl (bs (48 :: l))) := by
        unfold m_triviumref09_Decimal_l2
        rw [if_pos (decide_eq_true (by rw [bs_size]; omega)), cat_bs (by simp only [List.length_cons, List.length_nil]; omega), bd_some]
        rfl
      rw [lp_more st, pad_loop n hn k (48 :: l) (by rw [List.length_cons]; omega) (by rw [List.length_cons]; omega)]
      congr 2
      unfold padL
      rw [List.length_cons, show n + 1 - l.length = (n + 1 - (l.length + 1)) + 1 by omega, List.replicate_succ']
      simp
    · refine lp_done ?_
      have : padL n l = l := by unfold padL; rw [show n + 1 - l.length = 0 by omega]; rfl
      rw [this]
      unfold m_triviumref09_Decimal_l2
      rw [if_neg (by rw [decide_eq_true_eq, bs_size]; omega)]
/-- one try of the document -/
theorem refDec_step (K : Nat) (a : Int) (b B v : Nat) (hK2 : K ≤ 1000) (hb0 : 0 < b) (hlb : (zl (b : Int)).length ≤ 1000) (hla : (zl (a.natAbs : Int)).length ≤ 1000) (hB : m_triviumref02_Bits (zl (b : Int)) = some (B : Int)) (hv : v ≤ B) (hB2 : B ≤ K) :
    m_triviumref09_Decimal_l1 (rQ a (b : Int)) (v : Int) = some (if b ∣ a.natAbs * 10 ^ v then .inr (bs (decL (decide (a < 0)) (a.natAbs * 10 ^ v / b) v), true) else .inl ((v + 1 : Nat) : Int)) := by
  have hp10 := Nat.pow_pos (n := v) (show 0 < 10 by decide)
  have lp10 := zl_pow10 (v := 10 ^ v) (n := v + 1) (by rw [Nat.pow_succ]; omega)
  have e1 := refMul_eq (a.natAbs : Int) ((10 ^ v : Nat) : Int) (by omega) (Int.natCast_nonneg _) (by omega) (by omega)
  have e2 : (a.natAbs : Int) * ((10 ^ v : Nat) : Int) = ((a.natAbs * 10 ^ v : Nat) : Int) := by push_cast; rfl
  rw [e2] at e1
  have lz : (zl ((a.natAbs * 10 ^ v : Nat) : Int)).length ≤ 1000 + (v + 1) := by
    refine zl_len (Int.natCast_nonneg _) ?_
    rw [← e2, Int.pow_add]
    have h1 := dv_lt (by decide) (zl_can (a.natAbs : Int)).1
    rw [zl_dv (by omega)] at h1
    have h1 : (a.natAbs : Int) < (10000 : Int) ^ 1000 := Int.lt_of_lt_of_le h1 (pow_mono (by decide) hla)
    have h3 := dv_lt (by decide) (zl_can ((10 ^ v : Nat) : Int)).1
    rw [zl_dv (Int.natCast_nonneg _)] at h3
    have h3 : ((10 ^ v : Nat) : Int) < (10000 : Int) ^ (v + 1) := Int.lt_of_lt_of_le h3 (pow_mono (by decide) lp10)
    have hp := pow_pos' (show (0 : Int) < (10000 : Int) by decide) 1000
    have hq : (0 : Int) < ((10 ^ v : Nat) : Int) := by omega
    generalize ((10 ^ v : Nat) : Int) = T at *
    generalize ((10000 : Int) : Int) ^ 1000 = P at *
    generalize ((10000 : Int) : Int) ^ (v + 1) = Q at *
    exact Int.lt_of_le_of_lt (Int.mul_le_mul_of_nonneg_right (Int.le_of_lt h1) (Int.le_of_lt hq)) (Int.mul_lt_mul_of_pos_left h3 hp)
  have e3 := refDiv_eq ((a.natAbs * 10 ^ v : Nat) : Int) (b : Int) (Int.natCast_nonneg _) (by omega) (by omega) (by omega)
  have e4 : ((a.natAbs * 10 ^ v : Nat) : Int) / (b : Int) = ((a.natAbs * 10 ^ v / b : Nat) : Int) := by rw [Int.natCast_ediv]
  have e5 : ((a.natAbs * 10 ^ v : Nat) : Int) % (b : Int) = ((a.natAbs * 10 ^ v % b : Nat) : Int) := by rw [Int.natCast_emod]
  rw [e4, e5] at e3
  unfold m_triviumref09_Decimal_l1
  show bd (m_triviumref02_Bits (zl (b : Int))) _ = _
  rw [hB, bd_some, if_pos (decide_eq_true (by omega)), ten_eq v (by omega), bd_some]
  show bd (m_triviumref02_Mul (zl (a.natAbs : Int)) (zl ((10 ^ v : Nat) : Int))) (fun x7 => bd (m_triviumref02_Div x7 (zl (b : Int))) _) = _
  rw [e1, bd_some, e3, bd_some]
  dsimp only
  rw [neg_or_zl (Int.natCast_nonneg _)]
  by_cases hd : b ∣ a.natAbs * 10 ^ v
  · have hz := Nat.mod_eq_zero_of_dvd hd
    rw [hz, if_neg (by decide), if_pos hd]
    have hle : a.natAbs * 10 ^ v / b ≤ a.natAbs * 10 ^ v := Nat.div_le_self _ _
    have lx := zl_mono (x := ((a.natAbs * 10 ^ v / b : Nat) : Int)) (y := ((a.natAbs * 10 ^ v : Nat) : Int)) (Int.natCast_nonneg _) (by omega)
    generalize a.natAbs * 10 ^ v / b = x at *
    have hdd := dd_len x
    have hpl := padL_len v (Lib.decDigits x)
    have hput := putL_len v (padL v (Lib.decDigits x))
    rw [refText_eq2 x (by omega), bd_some, pad_loop v (by omega) (v + 1) (Lib.decDigits x) (by omega) (by omega), bd_some, put_eq v _ (by omega) (by omega)]
    show bd (if decide (a < 0) = true then bd (cat (bs [45]) _) fun x31 => some x31 else some _) _ = _
    rw [sign_eq (decide (a < 0)) _ (by omega)]
    rfl
  · have hz : 0 < a.natAbs * 10 ^ v % b := Nat.pos_of_ne_zero fun h => hd (Nat.dvd_of_mod_eq_zero h)
    have e6 : wi64 ((v : Int) + 1) = ((v + 1 : Nat) : Int) := by rw [wi64_eq (by omega) (by omega)]; omega
    rw [if_pos (decide_eq_true (by omega)), if_neg hd, e6]
theorem refDec_end (a : Int) (b B v : Nat) (hB : m_triviumref02_Bits (zl (b : Int)) = some (B : Int)) (hv : B < v) : m_triviumref09_Decimal_l1 (rQ a (b : Int)) (v : Int) = some (.inr (bs [], false)) := by
  unfold m_triviumref09_Decimal_l1
  show bd (m_triviumref02_Bits (zl (b : Int))) _ = _
  rw [hB, bd_some, if_neg (by rw [decide_eq_true_eq]; omega)]
/-- both ways tell the same -/
theorem decimal_both (K : Nat) (a : Int) (b : Nat) (hK : b < 2 ^ K) (hK2 : K ≤ 1000) (hb0 : 0 < b) (hl : (nl (b : Int)).length ≤ 300) (hla : (nl (a.natAbs : Int)).length ≤ 300) (hg : Nat.gcd a.natAbs b = 1) :
    ∃ o : Option Nat, m_ratio_Decimal (rI a (b : Int)) = some (match o with | some n => (bs (decL (decide (a < 0)) (a.natAbs * 10 ^ n / b) n), true) | none => (bs [], false)) ∧
      m_triviumref09_Decimal (rQ a (b : Int)) = some (match o with | some n => (bs (decL (decide (a < 0)) (a.natAbs * 10 ^ n / b) n), true) | none => (bs [], false)) ∧
      (∀ n, o = some n → b ∣ a.natAbs * 10 ^ n ∧ n ≤ K ∧ ∀ k, k < n → ¬ b ∣ a.natAbs * 10 ^ k) ∧ (o = none → ∀ n, ¬ b ∣ a.natAbs * 10 ^ n) := by
  obtain ⟨i, j, m, h1, h2, h3, h4, h5, h6⟩ := places_eq K b hb0 hK (by omega) (by omega)
  have r1 := rDecimal_eq K a b i j m hK2 hb0 (by omega) (by omega) hg h1 h2 h3 h4 h5 h6
  have lzb := zl_nl_len (x := (b : Int)) (by omega)
  have lza := zl_nl_len (x := (a.natAbs : Int)) (by omega)
  obtain ⟨B, hB, hB2, hB3⟩ := refBits_eq K b hK (by omega) (by omega)
  have key := fun n => tenths a.natAbs b i j m n h2 h3 h4 hg
  by_cases hm : m = 1
  · rw [if_pos hm] at r1
    refine ⟨some (max i j), r1, ?_, ?_, fun h => by cases h⟩
    · have hiB : i ≤ B := by
        have hle : 2 ^ i ≤ b := Nat.le_of_dvd hb0 ⟨_, h2⟩
        exact Nat.le_of_lt ((Nat.pow_lt_pow_iff_right (show 1 < 2 by decide)).1 (Nat.lt_of_le_of_lt hle hB2))
      have hjB : j ≤ B := by
        have hle : 5 ^ j ≤ b := Nat.le_of_dvd hb0 ⟨2 ^ i * m, by rw [h2, Nat.mul_left_comm]⟩
        have hle2 : 2 ^ j ≤ 5 ^ j := Nat.pow_le_pow_left (by decide) j
        exact Nat.le_of_lt ((Nat.pow_lt_pow_iff_right (show 1 < 2 by decide)).1 (Nat.lt_of_le_of_lt (Nat.le_trans hle2 hle) hB2))
      have run : ∀ (k v : Nat), v + k = max i j → lp (m_triviumref09_Decimal_l1 (rQ a (b : Int))) (v : Int) = some (bs (decL (decide (a < 0)) (a.natAbs * 10 ^ max i j / b) (max i j)), true) := by
        intro k
        induction k with
        | zero =>
          intro v hv
          have hvv : v = max i j := by omega
          rw [hvv]
          refine lp_done ?_
          rw [refDec_step K a b B (max i j) hK2 hb0 (by omega) (by omega) hB (by omega) hB3, if_pos ((key _).2 ⟨hm, by omega, by omega⟩)]
        | succ k ih =>
          intro v hv
          rw [lp_more (s' := ((v + 1 : Nat) : Int)) (by rw [refDec_step K a b B v hK2 hb0 (by omega) (by omega) hB (by omega) hB3, if_neg (fun h => by have := (key _).1 h; omega)])]
          exact ih (v + 1) (by omega)
      unfold m_triviumref09_Decimal
      exact run (max i j) 0 (by omega)
    · intro n hn
      cases hn
      refine ⟨(key _).2 ⟨hm, by omega, by omega⟩, by omega, fun k hk h => ?_⟩
      have := (key _).1 h
      omega
  · rw [if_neg hm] at r1
    refine ⟨none, r1, ?_, fun n h => (by cases h), fun _ n h => hm ((key n).1 h).1⟩
    have run : ∀ (k v : Nat), v + k = B + 1 → lp (m_triviumref09_Decimal_l1 (rQ a (b : Int))) (v : Int) = some (bs [], false) := by
      intro k
      induction k with
      | zero =>
        intro v hv
        exact lp_done (refDec_end a b B v hB (by omega))
      | succ k ih =>
        intro v hv
        rw [lp_more (s' := ((v + 1 : Nat) : Int)) (by rw [refDec_step K a b B v hK2 hb0 (by omega) (by omega) hB (by omega) hB3, if_neg (fun h => hm ((key _).1 h).1)])]
        exact ih (v + 1) (by omega)
    unfold m_triviumref09_Decimal
    exact run (B + 1) 0 (by omega)
/-! the product of fractions -/
theorem rMul_eq {n : Nat} (a b c d : Int) (hb : 0 < b) (hd : 0 < d) (h1 : Lm n a) (h2 : Lm n b) (h3 : Lm n c) (h4 : Lm n d) (hn : n ≤ 10000) : m_rat_Mul (rI a b) (rI c d) = some (rI (a * c / Int.gcd (a * c) (b * d)) (b * d / Int.gcd (a * c) (b * d))) := by
  have lb := h2.len' (by omega)
  have ld := h4.len' (by omega)
  unfold m_rat_Mul
  show bd (m_whole_Mul (zI a) (zI c)) (fun x1 => bd (m_rat_up (rI a b)) fun x3 => bd (m_rat_up (rI c d)) _) = _
  rw [wMulN_eq a c h1 h3 (by omega), bd_some, rUp_eq a b (by omega) (by omega), bd_some, rUp_eq c d (by omega) (by omega), bd_some, wMulN_eq b d h2 h4 (by omega), bd_some, rMake_eq (n := n + n) _ _ (Int.mul_pos hb hd) (h1.mul h3) (h2.mul h4) (by omega), bd_some]
theorem refMulQ_eq {n : Nat} (a b c d : Int) (hb : 0 < b) (hd : 0 < d) (h1 : Sm n a) (h2 : Sm n b) (h3 : Sm n c) (h4 : Sm n d) (hn : n ≤ 1000000) : m_triviumref08_Mul (rQ a b) (rQ c d) = some (rQ (a * c / Int.gcd (a * c) (b * d)) (b * d / Int.gcd (a * c) (b * d))) := by
  have lb := h2.len' (by omega)
  have ld := h4.len' (by omega)
  have l1 := (h1.mul h3).len
  have l2 := (h2.mul h4).len' (Int.le_of_lt (Int.mul_pos hb hd))
  unfold m_triviumref08_Mul
  show bd (m_triviumref07_Mul (zZ a) (zZ c)) (fun x1 => bd (m_triviumref02_Mul (zl b) (zl d)) _) = _
  rw [ref07Mul_eq a c h1 h3 (by omega) (by omega), bd_some, refMul_eq b d (by omega) (by omega) (by omega) (by omega), bd_some, ref08Low_eq _ _ (Int.mul_pos hb hd) (by omega) (by omega), bd_some]
theorem rSame_eq (a b : Int) (hb : 0 ≤ b) (h1 : (nl (a.natAbs : Int)).length ≤ 1000000) (h2 : (nl b).length ≤ 1000000) : m_rat_Same (rI a b) (rI a b) = some true := by
  have s0 : ∀ x : Int, sg (x - x) = 0 := fun x => by rw [Int.sub_self]; rfl
  unfold m_rat_Same rI zI
  dsimp only
  rw [if_pos (by simp), cmpN_eq _ _ (by omega) (by omega) (by omega), bd_some, s0, if_pos (by rfl), cmpN_eq _ _ hb hb (by omega), bd_some, s0]
  rfl
end Go.Proofs.YtfboepeadeafmaaGreatDoor.AP
/- Fractions: the chapter's example; what is printed is read; the plain laws. -/
namespace Go.Proofs.YtfboepeadeafmaaGreatDoor.AP
open Go Go.Proofs.YtfboepeadeafmaaGreatDoor.Tri
set_option linter.unusedVariables false
set_option linter.unusedSimpArgs false
set_option maxRecDepth 4000
theorem nl1 (x : Int) (h0 : 0 ≤ x) (h1 : x < 4294967296) : (nl x).length ≤ 1 := nl_len h0 (by rw [Int.pow_one]; exact h1)
theorem zl3 (x : Int) (h0 : 0 ≤ x) (h1 : x < 4294967296) : (zl x).length ≤ 3 := zl_len h0 (by have : (10000 : Int) ^ 3 = 1000000000000 := (by decide); omega)
theorem works09 : m_triviumlaw09_works = some true := by
  have p1 := rParse_eq [49, 50, 46, 53, 37] (by decide)
  have p2 := rParse_eq [49, 47, 56] (by decide)
  have q1 : prs [49, 50, 46, 53, 37] = .inr (125, 1000) := by rfl
  have q2 : prs [49, 47, 56] = .inr (1, 8) := by rfl
  rw [q1] at p1
  rw [q2] at p2
  have p1 : m_ratio_Parse (bs [49, 50, 46, 53, 37]) = some (rI 1 8, 0) := p1
  have p2 : m_ratio_Parse (bs [49, 47, 56]) = some (rI 1 8, 0) := p2
  have l1 := nl1 1 (by decide) (by decide)
  have l8 := nl1 8 (by decide) (by decide)
  obtain ⟨o, d1, -, d3, d4⟩ := decimal_both 10 1 8 (by decide) (by decide) (by decide) (by show (nl 8).length ≤ _; omega) (by show (nl 1).length ≤ _; omega) (by decide)
  have ho : o = some 3 := by
    cases o with
    | none => exact absurd ⟨125, by decide⟩ (d4 rfl 3)
    | some n =>
      obtain ⟨e1, -, e3⟩ := d3 n rfl
      have hn : n ≤ 3 := by
        apply Nat.le_of_not_lt
        intro h
        exact e3 3 h ⟨125, by decide⟩
      have : n = 0 ∨ n = 1 ∨ n = 2 ∨ n = 3 := by omega
      rcases this with rfl | rfl | rfl | rfl
      · revert e1; decide
      · revert e1; decide
      · revert e1; decide
      · rfl
  subst ho
  have hdec : Lib.decDigits 125 = [49, 50, 53] := by
    rw [Lib.decDigits, dif_neg (by decide), Lib.decDigits_two (by decide) (by decide)]; rfl
  have hd : decL (decide ((1 : Int) < 0)) ((1 : Int).natAbs * 10 ^ 3 / 8) 3 = [48, 46, 49, 50, 53] := by
    show decL false 125 3 = _
    unfold decL
    rw [hdec]; rfl
  have d1 : m_ratio_Decimal (rI 1 8) = some (bs (decL (decide ((1 : Int) < 0)) ((1 : Int).natAbs * 10 ^ 3 / 8) 3), true) := d1
  rw [hd] at d1
  have s1 := rSame_eq 1 8 (by decide) (by show (nl 1).length ≤ _; omega) (by omega)
  have z1 := zl3 1 (by decide) (by decide)
  have z8 := zl3 8 (by decide) (by decide)
  have pr := ratioPrint_eq 1 8 (by decide) (by show (zl 1).length ≤ _; omega) (by omega)
  have ht : rtL 1 8 = [49, 47, 56] := by
    unfold rtL zsL
    rw [if_neg (by decide), if_neg (by decide)]
    show Lib.decDigits 1 ++ 47 :: Lib.decDigits 8 = _
    rw [Lib.decDigits_one (by decide), Lib.decDigits_one (by decide)]; rfl
  rw [ht] at pr
  unfold m_triviumlaw09_works
  rw [p1, bd_some, p2, bd_some]
  show bd (m_ratio_Decimal (rI 1 8)) (fun x5 => if decide ((0 : Int) = 0) = true then if decide ((0 : Int) = 0) = true then bd (m_rat_Same (rI 1 8) (rI 1 8)) (fun x9 => if x9 = true then bd (m_ratio_Print (rI 1 8)) _ else _) else _ else _) = _
  rw [d1, bd_some, if_pos (by decide), if_pos (by decide), s1, bd_some, if_pos rfl, pr, bd_some, sq_self, if_pos rfl, sq_self, if_pos rfl]
/-! any text -/
/-! what is printed -/
theorem decL_len (neg : Bool) (x n M : Nat) (hx : x < 10 ^ M) (hn : n < M) : (decL neg x n).length ≤ M + 2 := by
  have h1 := dd_pow x M hx (by omega)
  have h2 := padL_len n (Lib.decDigits x)
  have h3 := putL_len n (padL n (Lib.decDigits x))
  unfold decL
  split
  · rw [List.length_cons]; omega
  · omega
/-- a text, or none -/
def dres (o : Option Nat) (f : Nat → List UInt8) : ByteArray × Bool := match o with | some n => (bs (f n), true) | none => (bs [], false)
/-- a fraction that is clean, of two limbs: as Decimal and Percent tell it -/
theorem dec_facts (a : Int) (b : Nat) (hb0 : 0 < b) (hb : (b : Int) < (4294967296 : Int) ^ 2) (ha : (a.natAbs : Int) < (4294967296 : Int) ^ 3) (hg : Int.gcd a (b : Int) = 1) :
    ∃ o : Option Nat, m_ratio_Decimal (rI a (b : Int)) = some (dres o fun n => decL (decide (a < 0)) (a.natAbs * 10 ^ n / b) n) ∧
      m_triviumref09_Decimal (rQ a (b : Int)) = some (dres o fun n => decL (decide (a < 0)) (a.natAbs * 10 ^ n / b) n) ∧
      ∀ n, o = some n → b ∣ a.natAbs * 10 ^ n ∧ n ≤ 64 ∧ (decL (decide (a < 0)) (a.natAbs * 10 ^ n / b) n).length ≤ 100 := by
  have e2 : (4294967296 : Int) ^ 2 = 18446744073709551616 := by decide
  have e3 : (4294967296 : Int) ^ 3 = 79228162514264337593543950336 := by decide
  obtain ⟨o, d1, d2, d3, d4⟩ := decimal_both 64 a b (by have : (2 : Nat) ^ 64 = 18446744073709551616 := (by decide); omega) (by decide) hb0 (by have := nl_len (x := (b : Int)) (n := 2) (by omega) hb; omega) (by have := nl_len (x := (a.natAbs : Int)) (n := 3) (by omega) ha; omega) (by
    have : Int.gcd a (b : Int) = Nat.gcd a.natAbs b := rfl
    rw [← this]; exact hg)
  refine ⟨o, by rw [d1]; cases o <;> rfl, by rw [d2]; cases o <;> rfl, fun n hn => ?_⟩
  obtain ⟨f1, f2, f3⟩ := d3 n hn
  refine ⟨f1, f2, ?_⟩
  refine decL_len _ _ _ 98 ?_ (by omega)
  have h1 : a.natAbs * 10 ^ n / b ≤ a.natAbs * 10 ^ n := Nat.div_le_self _ _
  have h2 : a.natAbs * 10 ^ n ≤ a.natAbs * 10 ^ 64 := Nat.mul_le_mul_left _ (Nat.pow_le_pow_right (by decide) f2)
  have h3 : a.natAbs < 10 ^ 30 := by
    have : (10 : Nat) ^ 30 = 1000000000000000000000000000000 := by decide
    omega
  have h4 : a.natAbs * 10 ^ 64 < 10 ^ 30 * 10 ^ 64 := Nat.mul_lt_mul_of_pos_right h3 (Nat.pow_pos (by decide))
  rw [← Nat.pow_add] at h4
  have h5 : (10 : Nat) ^ (30 + 64) ≤ 10 ^ 98 := Nat.pow_le_pow_right (by decide) (by decide)
  omega
/-- a hundred times a fraction, in lowest terms -/
theorem hund (a : Int) (b : Nat) (hb0 : 0 < b) (hb : (b : Int) < (4294967296 : Int) ^ 2) (ha : (a.natAbs : Int) < (4294967296 : Int) ^ 2) : ∃ (A : Int) (B : Nat), a * 100 / (Int.gcd (a * 100) ((b : Int) * 1) : Int) = A ∧ (b : Int) * 1 / (Int.gcd (a * 100) ((b : Int) * 1) : Int) = (B : Int) ∧ 0 < B ∧ (B : Int) < (4294967296 : Int) ^ 2 ∧ (A.natAbs : Int) < (4294967296 : Int) ^ 3 ∧ Int.gcd A (B : Int) = 1 ∧ A.natAbs * b = a.natAbs * 100 * B ∧ (decide (A < 0) = decide (a < 0)) := by
  have hbz : (b : Int) * 1 ≠ 0 := by omega
  have hgp : 0 < Int.gcd (a * 100) ((b : Int) * 1) := Int.gcd_pos_of_ne_zero_right _ hbz
  have hB0 : 0 ≤ (b : Int) * 1 / (Int.gcd (a * 100) ((b : Int) * 1) : Int) := Int.ediv_nonneg (by omega) (by omega)
  have hco := Int.gcd_ediv_gcd_ediv_gcd (i := a * 100) (j := (b : Int) * 1) hgp
  have d1 : (Int.gcd (a * 100) ((b : Int) * 1) : Int) ∣ a * 100 := Int.gcd_dvd_left _ _
  have d2 : (Int.gcd (a * 100) ((b : Int) * 1) : Int) ∣ (b : Int) * 1 := Int.gcd_dvd_right _ _
  have hbpos : 0 < (b : Int) * 1 / (Int.gcd (a * 100) ((b : Int) * 1) : Int) := Int.ediv_pos_of_pos_of_dvd (by omega) (by omega) d2
  have hble : (b : Int) * 1 / (Int.gcd (a * 100) ((b : Int) * 1) : Int) ≤ (b : Int) * 1 := Int.ediv_le_self _ (by omega)
  have hale : (a * 100 / (Int.gcd (a * 100) ((b : Int) * 1) : Int)).natAbs ≤ (a * 100).natAbs := Int.natAbs_ediv_le_natAbs _ _
  have m1 := Int.mul_ediv_cancel' d1
  have m2 := Int.mul_ediv_cancel' d2
  have hs : (decide (a * 100 / (Int.gcd (a * 100) ((b : Int) * 1) : Int) < 0) = decide (a < 0)) := by
    rw [decide_eq_decide]
    generalize a * 100 / (Int.gcd (a * 100) ((b : Int) * 1) : Int) = A at *
    have hgi : 0 < (Int.gcd (a * 100) ((b : Int) * 1) : Int) := by omega
    generalize (Int.gcd (a * 100) ((b : Int) * 1) : Int) = g at *
    constructor
    · intro h
      have : g * A < 0 := Int.mul_neg_of_pos_of_neg hgi h
      omega
    · intro h
      apply Int.lt_of_not_ge
      intro h2
      have : 0 ≤ g * A := Int.mul_nonneg (by omega) h2
      omega
  obtain ⟨B, hB⟩ := Int.eq_ofNat_of_zero_le hB0
  refine ⟨_, B, rfl, hB, by omega, by omega, ?_, by rw [← hB]; exact hco, ?_, hs⟩
  · have e2 : (4294967296 : Int) ^ 2 = 18446744073709551616 := by decide
    have e3 : (4294967296 : Int) ^ 3 = 79228162514264337593543950336 := by decide
    omega
  · rw [hB] at m2
    have h1 : (a * 100 / (Int.gcd (a * 100) ((b : Int) * 1) : Int)) * (b : Int) = a * 100 * (B : Int) := by
      generalize a * 100 / (Int.gcd (a * 100) ((b : Int) * 1) : Int) = A at *
      generalize (Int.gcd (a * 100) ((b : Int) * 1) : Int) = g at *
      rw [← m1, show (b : Int) = g * (B : Int) by omega]
      grind
    have h2 := congrArg Int.natAbs h1
    rw [Int.natAbs_mul, Int.natAbs_mul, Int.natAbs_mul, Int.natAbs_natCast, Int.natAbs_natCast] at h2
    exact h2
theorem rOf100 : m_rat_Of 100 = some (rI 100 1) := by
  unfold m_rat_Of m_rat_one m_whole_Of
  rw [if_neg (by decide), show wu64 100 = 100 from wu64_eq (by decide) (by decide), natOf_eq 100 (by decide) (by decide), bd_some, wMade_eq _ _ (by decide) (by rw [nl_one (by decide) (by decide)]; decide), bd_some, if_neg (by decide), natOf_eq 1 (by decide) (by decide)]
  rfl
theorem percent_facts (a : Int) (b : Nat) (hb0 : 0 < b) (hb : (b : Int) < (4294967296 : Int) ^ 2) (ha : (a.natAbs : Int) < (4294967296 : Int) ^ 2) :
    ∃ (A : Int) (B : Nat), m_rat_Mul (rI a (b : Int)) (rI 100 1) = some (rI A (B : Int)) ∧ m_triviumref08_Mul (rQ a (b : Int)) (rQ 100 1) = some (rQ A (B : Int)) ∧ 0 < B ∧ (B : Int) < (4294967296 : Int) ^ 2 ∧ (A.natAbs : Int) < (4294967296 : Int) ^ 3 ∧ Int.gcd A (B : Int) = 1 ∧ A.natAbs * b = a.natAbs * 100 * B ∧ (decide (A < 0) = decide (a < 0)) := by
  obtain ⟨A, B, h1, h2, h3⟩ := hund a b hb0 hb ha
  have e2 : (4294967296 : Int) ^ 2 = 18446744073709551616 := by decide
  have lb : Lm 2 (b : Int) := by unfold Lm; rw [show (((b : Int).natAbs : Nat) : Int) = (b : Int) by omega]; exact hb
  have l100 : Lm 2 (100 : Int) := by unfold Lm; rw [e2]; decide
  have l1 : Lm 2 (1 : Int) := by unfold Lm; rw [e2]; decide
  have m1 := rMul_eq (n := 2) a (b : Int) 100 1 (by omega) (by decide) ha lb l100 l1 (by decide)
  have m2 := refMulQ_eq (n := 6) a (b : Int) 100 1 (by omega) (by decide) (Sm.limb (n := 2) ha) (Sm.limb (n := 2) lb) (Sm.limb (n := 2) l100) (Sm.limb (n := 2) l1) (by decide)
  rw [h1, h2] at m1 m2
  exact ⟨A, B, m1, m2, h3⟩
end Go.Proofs.YtfboepeadeafmaaGreatDoor.AP
/- Fractions: what is printed is read, in each way. -/
namespace Go.Proofs.YtfboepeadeafmaaGreatDoor.AP
open Go Go.Proofs.YtfboepeadeafmaaGreatDoor.Tri
set_option linter.unusedVariables false
set_option linter.unusedSimpArgs false
set_option maxRecDepth 4000
/-- of digits alone -/
def Okc (l : List UInt8) : Prop := ∀ c ∈ l, dgt c ≠ none
theorem dgt_sep {c : UInt8} (h : dgt c ≠ none) : c ≠ 47 ∧ c ≠ 46 ∧ c ≠ 37 := by
  refine ⟨?_, ?_, ?_⟩ <;> (rintro rfl; exact h rfl)
theorem rdN_ok : ∀ (l : List UInt8) (v w : Nat), rdN l v = some w → Okc l
  | [], v, w, h => fun c hc => by cases hc
  | x :: l, v, w, h => fun c hc => by
    unfold rdN at h
    cases hd : dgt x with
    | none => rw [hd] at h; cases h
    | some d =>
      rw [hd] at h
      rcases List.mem_cons.1 hc with rfl | hc
      · rw [hd]; exact fun e => by cases e
      · exact rdN_ok l _ w h c hc
theorem dec_ok (n : Nat) : Okc (Lib.decDigits n) := rdN_ok _ 0 n (rdN_dec n)
theorem spl_ok : ∀ (p : List UInt8), Okc p → spl p = (p, none)
  | [], _ => rfl
  | x :: p, h => by
    have hx := dgt_sep (h x (List.mem_cons_self ..))
    unfold spl
    rw [if_neg (by rintro (e | e); exact hx.1 e; exact hx.2.1 e), spl_ok p (fun c hc => h c (List.mem_cons_of_mem _ hc))]
theorem spl_ok2 (c : UInt8) (r : List UInt8) (hc : c = 47 ∨ c = 46) : ∀ (p : List UInt8), Okc p → spl (p ++ c :: r) = (p, some (c, r))
  | [], _ => by
    show spl (c :: r) = _
    unfold spl
    rw [if_pos hc]
  | x :: p, h => by
    have hx := dgt_sep (h x (List.mem_cons_self ..))
    show spl (x :: (p ++ c :: r)) = _
    unfold spl
    rw [if_neg (by rintro (e | e); exact hx.1 e; exact hx.2.1 e), spl_ok2 c r hc p (fun d hd => h d (List.mem_cons_of_mem _ hd))]
theorem pct_ok (q r : List UInt8) (hr : r ≠ []) (h : Okc r) : pct (q ++ r) = (q ++ r, false) := by
  obtain ⟨d, x, rfl⟩ := eq_snocB hr
  rw [← List.append_assoc, pct_snoc, if_neg]
  rintro rfl
  exact (dgt_sep (h 37 (by simp))).2.2 rfl
theorem pct_37 (l : List UInt8) : pct (l ++ [37]) = (l, true) := by rw [pct_snoc, if_pos rfl]
theorem rdN_shift : ∀ (l : List UInt8) (v : Nat), rdN l v = (rdN l 0).map (· + v * 10 ^ l.length)
  | [], v => by simp [rdN]
  | c :: l, v => by
    unfold rdN
    cases dgt c with
    | none => rfl
    | some d =>
      dsimp only
      rw [rdN_shift l (v * 10 + d), rdN_shift l (0 * 10 + d)]
      cases rdN l 0 with
      | none => rfl
      | some w =>
        simp only [Option.map_some, List.length_cons, Nat.pow_succ]
        congr 1
        grind
theorem rdN_zeros : ∀ k : Nat, rdN (List.replicate k 48) 0 = some 0
  | 0 => rfl
  | k + 1 => by
    rw [List.replicate_succ]
    unfold rdN
    exact rdN_zeros k
theorem rdN_pad (n x : Nat) : rdN (padL n (Lib.decDigits x)) 0 = some x := by
  unfold padL
  rw [rdN_append, rdN_zeros]
  exact rdN_dec x
/-- the text by tenths is read as it was meant -/
theorem prt_put (n x : Nat) : prt (putL n (padL n (Lib.decDigits x))) = .inr (x, 10 ^ n) ∧ ∃ q r, putL n (padL n (Lib.decDigits x)) = q ++ r ∧ r ≠ [] ∧ Okc r := by
  have hv := rdN_pad n x
  have hlen := padL_len n (Lib.decDigits x)
  generalize padL n (Lib.decDigits x) = p at *
  have hok := rdN_ok p 0 x hv
  have hne : p ≠ [] := fun h => by rw [h] at hlen; simp at hlen; omega
  unfold putL
  by_cases h0 : 0 < n
  · rw [if_pos h0]
    have hsplit := List.take_append_drop (p.length - n) p
    have l1 : (p.take (p.length - n)).length = p.length - n := by rw [List.length_take]; omega
    have l2 : (p.drop (p.length - n)).length = n := by rw [List.length_drop]; omega
    generalize p.take (p.length - n) = a at *
    generalize p.drop (p.length - n) = b at *
    have ha : a ≠ [] := fun h => by rw [h] at l1; simp at l1; omega
    have hb : b ≠ [] := fun h => by rw [h] at l2; simp at l2; omega
    have oka : Okc a := fun c hc => hok c (by rw [← hsplit]; exact List.mem_append_left _ hc)
    have okb : Okc b := fun c hc => hok c (by rw [← hsplit]; exact List.mem_append_right _ hc)
    refine ⟨?_, a ++ [46], b, by simp, hb, okb⟩
    unfold prt
    rw [spl_ok2 46 b (.inr rfl) a oka]
    dsimp only
    rw [← hsplit, rdN_append] at hv
    cases h1 : rdN a 0 with
    | none => rw [h1] at hv; cases hv
    | some u =>
      rw [h1] at hv
      have hv : rdN b u = some x := hv
      rw [rdN_shift] at hv
      cases h2 : rdN b 0 with
      | none => rw [h2] at hv; cases hv
      | some w =>
        rw [h2] at hv
        have hv : w + u * 10 ^ b.length = x := Option.some.inj hv
        have r1 : rd10 a = some u := by unfold rd10; rw [if_neg ha, h1]
        have r2 : rd10 b = some w := by unfold rd10; rw [if_neg hb, h2]
        rw [r1, r2]
        dsimp only
        rw [l2] at hv
        rw [if_neg (by decide), l2, ← hv, Nat.add_comm]
  · rw [if_neg h0]
    refine ⟨?_, [], p, rfl, hne, hok⟩
    unfold prt
    rw [spl_ok p hok]
    dsimp only
    have r1 : rd10 p = some x := by unfold rd10; rw [if_neg hne, hv]
    rw [r1, show n = 0 by omega]
/-- what a text says is this fraction -/
theorem back_parse (l : List UInt8) (hl : l.length ≤ 5000) (A B X Y : Nat) (h : prs l = .inr (X, Y)) (hB : 0 < B) (hY : 0 < Y) (hg : Nat.gcd A B = 1) (he : X * B = A * Y) : m_ratio_Parse (bs l) = some (rI (A : Int) (B : Int), 0) := by
  rw [rParse_eq l hl, h]
  obtain ⟨h1, h2⟩ := lowest A B X Y hg hB hY he
  have e : Int.gcd (X : Int) (Y : Int) = Nat.gcd X Y := Int.gcd_natCast_natCast X Y
  dsimp only
  rw [e, ← Int.natCast_ediv, ← Int.natCast_ediv, h1, h2]
theorem prs_of {l : List UInt8} {X Y : Nat} (h : prt l = .inr (X, Y)) (hp : pct l = (l, false)) (hY : 0 < Y) : prs l = .inr (X, Y) := by
  unfold prs
  rw [hp]
  dsimp only
  rw [h]
  dsimp only
  rw [if_neg (by omega), if_neg (by decide)]
theorem prs_of37 {l : List UInt8} {X Y : Nat} (h : prt l = .inr (X, Y)) (hY : 0 < Y) : prs (l ++ [37]) = .inr (X, Y * 100) := by
  unfold prs
  rw [pct_37]
  dsimp only
  rw [h]
  dsimp only
  rw [if_neg (by omega), if_pos rfl]
theorem back_loop (a b : Int) (hb : 0 ≤ b) (hla : (nl (a.natAbs : Int)).length ≤ 1000000) (hlb : (nl b).length ≤ 1000000) (ts : List ByteArray) (hts : ts.length ≤ 1000000) (h : ∀ t ∈ ts, m_ratio_Parse t = some (rI (a.natAbs : Int) b, 0)) :
    ∀ (k i : Nat), i + k = ts.length → lp (m_triviumlaw09_RatioBack_l1 (rI a b) ts) (i : Int) = some true
  | 0, i, hk => lp_done (by
      unfold m_triviumlaw09_RatioBack_l1
      rw [if_neg (by rw [decide_eq_true_eq]; omega)])
  | k + 1, i, hk => by
    have hi : i < ts.length := by omega
    have e1 : rd ts (i : Int) = some ts[i] := by rw [rd_nat, List.getElem?_eq_getElem hi]
    have e2 := h ts[i] (List.getElem_mem hi)
    have e3 : wi64 ((i : Int) + 1) = ((i + 1 : Nat) : Int) := by rw [wi64_eq (by omega) (by omega)]; omega
    have e4 := rSame_eq (a.natAbs : Int) b hb (by rw [show ((((a.natAbs : Nat) : Int).natAbs : Nat) : Int) = (a.natAbs : Int) by omega]; exact hla) hlb
    have hz : (false, nl (a.natAbs : Int)) = zI (a.natAbs : Int) := (zI_of_nonneg (by omega)).symm
    have st : m_triviumlaw09_RatioBack_l1 (rI a b) ts (i : Int) = some (.inl ((i + 1 : Nat) : Int)) := by
      unfold m_triviumlaw09_RatioBack_l1
      rw [if_pos (decide_eq_true (by omega)), e1, bd_some, e2, bd_some]
      dsimp only
      rw [if_neg (show ¬ (!decide ((0 : Int) = 0)) = true by decide)]
      show bd (bd (m_rat_Same ((false, nl (a.natAbs : Int)), nl b) (rI (a.natAbs : Int) b)) _) _ = _
      rw [hz]
      show bd (bd (m_rat_Same (rI (a.natAbs : Int) b) (rI (a.natAbs : Int) b)) _) _ = _
      rw [e4, bd_some, bd_some, if_neg (by decide), e3]
    rw [lp_more st]
    exact back_loop a b hb hla hlb ts hts h k (i + 1) (by omega)
theorem ratioBack_plain (p : D_api_Rat) (h1 : Limbs p.1.2) (h2 : Limbs p.2) (k1 : p.1.2.length ≤ 9223372036854775807) (k2 : p.2.length ≤ 9223372036854775807) : m_triviumlaw09_RatioBack p = some true := by
  have c1 : m_triviumref08_Clean ((p.1.1, p.1.2), p.2) 2 = some (rI (cleanN p 2) (cleanD p 2)) := ref08Clean_eq p 2 h1 h2 (by decide) (by decide) k1 k2 (by decide)
  have hbp := cleanD_pos p 2
  have hbl := cleanD_lt p 2 (by decide)
  have hal := cleanN_lt p 2
  have hco := clean_coprime p 2
  generalize cleanN p 2 = a at *
  generalize cleanD p 2 = b' at *
  obtain ⟨b, rfl⟩ := Int.eq_ofNat_of_zero_le (Int.le_of_lt hbp)
  have e2 : (4294967296 : Int) ^ 2 = 18446744073709551616 := by decide
  have e3 : (4294967296 : Int) ^ 3 = 79228162514264337593543950336 := by decide
  have la := nl_len (x := (a.natAbs : Int)) (n := 2) (by omega) hal
  have lb := nl_len (x := (b : Int)) (n := 2) (by omega) hbl
  have za := zl_nl_len (x := (a.natAbs : Int)) (by omega)
  have zb := zl_nl_len (x := (b : Int)) (by omega)
  have hgN : Nat.gcd a.natAbs b = 1 := hco
  obtain ⟨A, hA⟩ : ∃ A, a.natAbs = A := ⟨_, rfl⟩
  rw [hA] at hal la za hgN
  have eA : (((A : Int).natAbs : Nat) : Int) = (A : Int) := by omega
  have eA' : (A : Int).natAbs = A := by omega
  have hco' : Int.gcd (A : Int) (b : Int) = 1 := by rw [Int.gcd_natCast_natCast]; exact hgN
  have hneg : decide ((A : Int) < 0) = false := decide_eq_false (by omega)
  obtain ⟨o, d1, -, d3⟩ := dec_facts (A : Int) b (by omega) hbl (by rw [eA]; omega) hco'
  obtain ⟨A2, B2, m1, -, f1, f2, f3, f4, f5, f6⟩ := percent_facts (A : Int) b (by omega) hbl (by rw [eA]; exact hal)
  obtain ⟨o2, g1, -, g3⟩ := dec_facts A2 B2 f1 f2 f3 f4
  have pr1 := ratioPrint_eq (A : Int) (b : Int) (by omega) (by rw [eA]; omega) (by omega)
  rw [eA', hneg] at d1
  rw [eA', hneg] at d3
  rw [f6, hneg] at g1 g3
  rw [eA'] at f5
  -- what was printed
  have t1 : m_ratio_Parse (bs (rtL (A : Int) (b : Int))) = some (rI (A : Int) (b : Int), 0) := by
    have hlen := rtL_len (A : Int) (b : Int) (by omega)
    rw [eA] at hlen
    have hz : zsL (A : Int) = Lib.decDigits A := by unfold zsL; rw [if_neg (by omega), eA']
    by_cases hb1 : (b : Int) = 1
    · have hr : rtL (A : Int) (b : Int) = Lib.decDigits A := by unfold rtL; rw [if_pos hb1, hz]
      rw [hr] at hlen ⊢
      have hp : prt (Lib.decDigits A) = .inr (A, 1) := by
        unfold prt
        rw [spl_ok _ (dec_ok A)]
        dsimp only
        rw [rd10_dec]
      have hb1 : b = 1 := by omega
      refine back_parse _ (by omega) A b A 1 (prs_of hp (by have := pct_ok [] (Lib.decDigits A) (dec_ne A) (dec_ok A); simpa using this) (by decide)) (by omega) (by decide) hgN (by rw [hb1])
    · have hr : rtL (A : Int) (b : Int) = Lib.decDigits A ++ 47 :: Lib.decDigits b := by unfold rtL; rw [if_neg hb1, hz, Int.toNat_natCast]
      rw [hr] at hlen ⊢
      have hp : prt (Lib.decDigits A ++ 47 :: Lib.decDigits b) = .inr (A, b) := by
        unfold prt
        rw [spl_ok2 47 _ (.inl rfl) _ (dec_ok A)]
        dsimp only
        rw [rd10_dec, rd10_dec]
        rfl
      refine back_parse _ (by omega) A b A b (prs_of hp (by have := pct_ok (Lib.decDigits A ++ [47]) (Lib.decDigits b) (dec_ne b) (dec_ok b); simpa using this) (by omega)) (by omega) (by omega) hgN rfl
  have t2 : ∀ n, o = some n → m_ratio_Parse (bs (decL false (A * 10 ^ n / b) n)) = some (rI (A : Int) (b : Int), 0) := fun n hn => by
    obtain ⟨q1, q2, q3⟩ := d3 n hn
    obtain ⟨r1, qq, rr, r2, r3, r4⟩ := prt_put n (A * 10 ^ n / b)
    have hdl : decL false (A * 10 ^ n / b) n = putL n (padL n (Lib.decDigits (A * 10 ^ n / b))) := rfl
    rw [hdl] at q3 ⊢
    refine back_parse _ (by omega) A b _ _ (prs_of r1 (by rw [r2]; exact pct_ok qq rr r3 r4) (Nat.pow_pos (by decide))) (by omega) (Nat.pow_pos (by decide)) hgN (Nat.div_mul_cancel q1)
  have t3 : ∀ n, o2 = some n → m_ratio_Parse (bs (decL false (A2.natAbs * 10 ^ n / B2) n ++ [37])) = some (rI (A : Int) (b : Int), 0) := fun n hn => by
    obtain ⟨q1, q2, q3⟩ := g3 n hn
    obtain ⟨r1, qq, rr, r2, r3, r4⟩ := prt_put n (A2.natAbs * 10 ^ n / B2)
    have hdl : decL false (A2.natAbs * 10 ^ n / B2) n = putL n (padL n (Lib.decDigits (A2.natAbs * 10 ^ n / B2))) := rfl
    rw [hdl] at q3 ⊢
    have h1 := Nat.div_mul_cancel q1
    refine back_parse _ (by simp only [List.length_append, List.length_cons, List.length_nil]; omega) A b _ _ (prs_of37 r1 (Nat.pow_pos (by decide))) (by omega) (Nat.mul_pos (Nat.pow_pos (by decide)) (by decide)) hgN ?_
    apply Nat.eq_of_mul_eq_mul_right f1
    generalize A2.natAbs * 10 ^ n / B2 = X at *
    calc X * b * B2 = (X * B2) * b := by grind
      _ = A2.natAbs * 10 ^ n * b := by rw [h1]
      _ = (A2.natAbs * b) * 10 ^ n := by grind
      _ = A * 100 * B2 * 10 ^ n := by rw [f5]
      _ = A * (10 ^ n * 100) * B2 := by grind
  have z1 : ((false, (rI a (b : Int)).1.2), (rI a (b : Int)).2) = rI (A : Int) (b : Int) := by
    have := zI_of_nonneg (x := (A : Int)) (by omega)
    unfold rI
    rw [this]
    show ((false, nl (a.natAbs : Int)), nl (b : Int)) = _
    rw [hA]
  have per : m_ratio_Percent (rI (A : Int) (b : Int)) = some (dres o2 fun n => decL false (A2.natAbs * 10 ^ n / B2) n ++ [37]) := by
    unfold m_ratio_Percent
    rw [rOf100, bd_some]
    show bd (m_rat_Mul (rI (A : Int) (b : Int)) (rI 100 1)) _ = _
    rw [m1, bd_some, g1, bd_some]
    cases o2 with
    | none => rfl
    | some n =>
      have := (g3 n rfl).2.2
      show (if (!true) = true then _ else bd (cat (bs (decL false (A2.natAbs * 10 ^ n / B2) n)) (bs [37])) fun x8 => some (x8, true)) = _
      rw [if_neg (by decide), cat_bs (by simp only [List.length_cons, List.length_nil]; omega), bd_some]
      rfl
  unfold m_triviumlaw09_RatioBack
  rw [works09, bd_some, if_neg (by decide), c1, bd_some, z1, pr1, bd_some, d1, per]
  have lst : ∃ ts : List ByteArray, (bd (if (dres o fun n => decL false (A * 10 ^ n / b) n).2 = true then bd (ap 16 [bs (rtL (A : Int) (b : Int))] [(dres o fun n => decL false (A * 10 ^ n / b) n).1]) fun x12 => some x12 else some [bs (rtL (A : Int) (b : Int))]) fun v8 =>
      bd (if (dres o2 fun n => decL false (A2.natAbs * 10 ^ n / B2) n ++ [37]).2 = true then bd (ap 16 v8 [(dres o2 fun n => decL false (A2.natAbs * 10 ^ n / B2) n ++ [37]).1]) fun x18 => some x18 else some v8) fun v14 => some v14) = some ts ∧ ts.length ≤ 3 ∧ ∀ t ∈ ts, m_ratio_Parse t = some (rI (a.natAbs : Int) (b : Int), 0) := by
    rw [hA]
    cases o with
    | none =>
      cases o2 with
      | none => exact ⟨[bs (rtL (A : Int) (b : Int))], rfl, by simp, fun t ht => by rw [List.mem_singleton.1 ht]; exact t1⟩
      | some n2 =>
        refine ⟨[bs (rtL (A : Int) (b : Int)), bs (decL false (A2.natAbs * 10 ^ n2 / B2) n2 ++ [37])], ?_, by simp, fun t ht => ?_⟩
        · show bd (bd (ap 16 [bs (rtL (A : Int) (b : Int))] [bs (decL false (A2.natAbs * 10 ^ n2 / B2) n2 ++ [37])]) fun x18 => some x18) (fun v14 => some v14) = _
          rw [ap_of (by simp), bd_some, bd_some]; rfl
        · rcases List.mem_cons.1 ht with rfl | ht
          · exact t1
          · rw [List.mem_singleton.1 ht]; exact t3 n2 rfl
    | some n1 =>
      cases o2 with
      | none =>
        refine ⟨[bs (rtL (A : Int) (b : Int)), bs (decL false (A * 10 ^ n1 / b) n1)], ?_, by simp, fun t ht => ?_⟩
        · show bd (bd (ap 16 [bs (rtL (A : Int) (b : Int))] [bs (decL false (A * 10 ^ n1 / b) n1)]) fun x12 => some x12) (fun v8 => bd (some v8) fun v14 => some v14) = _
          rw [ap_of (by simp), bd_some, bd_some, bd_some]; rfl
        · rcases List.mem_cons.1 ht with rfl | ht
          · exact t1
          · rw [List.mem_singleton.1 ht]; exact t2 n1 rfl
      | some n2 =>
        refine ⟨[bs (rtL (A : Int) (b : Int)), bs (decL false (A * 10 ^ n1 / b) n1), bs (decL false (A2.natAbs * 10 ^ n2 / B2) n2 ++ [37])], ?_, by simp, fun t ht => ?_⟩
        · show bd (bd (ap 16 [bs (rtL (A : Int) (b : Int))] [bs (decL false (A * 10 ^ n1 / b) n1)]) fun x12 => some x12) (fun v8 => bd (bd (ap 16 v8 [bs (decL false (A2.natAbs * 10 ^ n2 / B2) n2 ++ [37])]) fun x18 => some x18) fun v14 => some v14) = _
          rw [ap_of (by simp), bd_some, bd_some, ap_of (by simp), bd_some, bd_some]; rfl
        · rcases List.mem_cons.1 ht with rfl | ht
          · exact t1
          · rcases List.mem_cons.1 ht with rfl | ht
            · exact t2 n1 rfl
            · rw [List.mem_singleton.1 ht]; exact t3 n2 rfl
  obtain ⟨ts, l1, l2, l3⟩ := lst
  have run := back_loop a (b : Int) (by omega) (by rw [hA]; omega) (by omega) ts (by omega) l3 ts.length 0 (by omega)
  rw [bd_some]
  cases hA1 : (if (dres o fun n => decL false (A * 10 ^ n / b) n).2 = true then bd (ap 16 [bs (rtL (A : Int) (b : Int))] [(dres o fun n => decL false (A * 10 ^ n / b) n).1]) fun x12 => some x12 else some [bs (rtL (A : Int) (b : Int))]) with
  | none => rw [hA1] at l1; cases l1
  | some v8 =>
    rw [hA1, bd_some] at l1
    rw [bd_some, bd_some]
    cases hB1 : (if (dres o2 fun n => decL false (A2.natAbs * 10 ^ n / B2) n ++ [37]).2 = true then bd (ap 16 v8 [(dres o2 fun n => decL false (A2.natAbs * 10 ^ n / B2) n ++ [37]).1]) fun x18 => some x18 else some v8) with
    | none => rw [hB1] at l1; cases l1
    | some v14 =>
      rw [hB1, bd_some] at l1
      cases l1
      rw [bd_some]
      exact run
end Go.Proofs.YtfboepeadeafmaaGreatDoor.AP
/- RatioBack: the plain law, of all that may be handed in. -/
namespace Go.Proofs.YtfboepeadeafmaaGreatDoor.Pure
open Go Go.Proofs.YtfboepeadeafmaaGreatDoor.AP Go.Proofs.YtfboepeadeafmaaGreatDoor.AE
theorem RatioBack (y0 : D_api_Rat) (h0 : Ty.ok Y_api_Rat y0) : m_triviumlaw09_RatioBack y0 = some true :=
  ratioBack_plain y0 (u64lim h0.1.2) (u64lim h0.2) h0.1.2.1 h0.2.1
end Go.Proofs.YtfboepeadeafmaaGreatDoor.Pure
/- The law RatioBack holds of every input: the row, and its card. -/
namespace Go.Proofs.YtfboepeadeafmaaGreatDoor.ratioBack
open Go.ChangeShapes Go.WideShapes Go.ChangeAt Go.RowKit
set_option linter.unusedVariables false
theorem own : ownKnob Tryz.prog.godebug = none := by kernel_rfl
theorem laidOut : laidOutB Tryz.prog = true := by kernel_rfl
theorem table {W : World} (h : laidMet Tryz.prog Rows.ratioBackRow.laid W) : AE.Glo W := trivial
set_option maxRecDepth 100000 in
theorem lifted (os : Os) (started : os.Started) (H : Type) (enc : TypeId × Value → H) :
    ReturnsInHanded {} Tryz.checked os 4 .any (fun w args => (Rows.ratioBackSpec.pre enc Tryz.prog Tryz.f4 [] false w args ∧ laidMetH Tryz.prog Rows.ratioBackRow.laid w) ∧ sizedMet enc Tryz.prog Tryz.f4 (OpenSpec.ofChange Rows.ratioBackSpec) false w args)
      (Rows.ratioBackSpec.post enc Tryz.prog Tryz.f4 false true false false) := by
  refine returnsInHanded_of_change_and (C := Tryz.checked) (X := fun w _ => laidMetH Tryz.prog Rows.ratioBackRow.laid w) (fun _ _ _ hh h => h.of_heap hh) own started (by kernel_rfl) Tryz.func4
    (ChangeSpec.witness_shaped (enc := enc) (C := Tryz.checked) (os := os) (X := fun w _ => laidMetH Tryz.prog Rows.ratioBackRow.laid w) false (World.laidAll Tryz.prog os Rows.ratioBackRow.laid) #[.agg #[.bool false, .slice none 0 0, .slice none 0 0]] 8 (World.laidAll_os _ _ _)
      (World.shaped_of_ZipB (by kernel_rfl) (by kernel_rfl)) (by kernel_rfl) (by kernel_rfl) (by kernel_rfl)
      (by rw [MakeChecks.laidMetH_plain _ _ _ (by kernel_rfl)]; exact laidMet_laidAll _ (by kernel_rfl) (by kernel_rfl))) ?_
  intro W base args ds gs before hval0 hW _ hsz0 hL0 _
  have hL : laidMet Tryz.prog Rows.ratioBackRow.laid W := by rw [MakeChecks.laidMetH_plain _ _ _ (by kernel_rfl)] at hL0; exact hL0
  clear hsz0
  have hval : ∀ (j : Nat) t v, Tryz.f4.params[j]? = some t → args[j]? = some v → Value.okWide Tryz.prog W .any base t v := hval0
  have hW' := hW
  obtain ⟨p, q, hA0, hV, rfl, hfz, hnd⟩ := hW
  have hA : DataW.TrodAll enc Tryz.prog W 0 (fun _ => true) true Tryz.f4.params.toList args.toList ds p := hA0
  rw [Tryz.params4] at hA hval
  obtain ⟨v0, vs0, d0, ds0, p0, q0, hargs, rfl, rfl, h0, r0⟩ := trodAll_cons hA
  obtain ⟨rfl, rfl, rfl⟩ := trodAll_nil r0
  obtain rfl : args = #[v0] := by cases args; simp_all
  obtain ⟨rfl, rfl⟩ := trodVars_none hV
  have lt0 : ∀ x ∈ p0, x.block < W.heap.size := by obtain ⟨m, hm⟩ := h0; exact DataW.trod_lt m _ _ _ hm
  obtain ⟨a0, o0, e0⟩ := AE.open_v (t := AE.Y_api_Rat) ⟨40, by kernel_rfl⟩ (hval 0 27 v0 rfl rfl) h0
  clear hA0 hval0
  have h := Pure.RatioBack a0 o0
  have C := AE.law_calls (table hL) (AE.k_triviumlaw09_RatioBack h) (W := W) (args := [v0]) ⟨v0, [], rfl, e0, rfl⟩
  refine C.mono fun e W' ⟨he, bel⟩ => ?_
  subst he
  exact ⟨_, rfl, _, _, _, [], _, [], hW', trodAll_mk1 (shut_bool Tryz.underlying4 _), (trodAll_cons_mk (Below.trod laidOut (by kernel_rfl) (of_decide_eq_true (by kernel_rfl)) h0 bel lt0) trodAll_mk0), rfl, bel.frame _, fun h => by cases h⟩
theorem over : Rows.ratioBackRow.holds Tryz.pinned (OpenSpec.ofChange Rows.ratioBackSpec) :=
  OpenClaim.holds_of_wide 4 Tryz.f4 rfl rfl rfl rfl rfl rfl rfl ⟨rfl, rfl, rfl, rfl, rfl⟩ rfl rfl rfl rfl rfl (by kernel_rfl) Tryz.func4 (by kernel_rfl)
    (of_decide_eq_true (by kernel_rfl)) (by unfold Func.isWrapper; first | (rw [if_pos (by decide +kernel)]; kernel_rfl) | (rw [if_neg (by decide +kernel)]; exact ⟨rfl, rfl⟩))
    (fun os started H enc _ => lifted os started H enc)
theorem proved : Rows.RatioBackSaid := over
theorem plain (f : FuncId) (fn : Func) (hf : Tryz.pinned.checked.prog.funcNamed "trivium/triviumlaw09.RatioBack" = some f) (hfn : Tryz.pinned.checked.prog.funcs[f]? = some fn) :
    false = Tryz.pinned.checked.prog.looks [] ∧ ∀ (j : Nat) t, fn.params[j]? = some t → Tryz.pinned.checked.prog.wantsStandIn t = false := by
  obtain rfl : f = 4 := Option.some.inj ((show Tryz.prog.funcNamed "trivium/triviumlaw09.RatioBack" = some 4 by kernel_rfl).symm.trans hf) |>.symm
  obtain rfl : fn = Tryz.f4 := (Option.some.inj (Tryz.func4.symm.trans hfn)).symm
  exact ⟨by kernel_rfl, fun j t ht => by
    rw [Tryz.params4] at ht
    have hm : t ∈ [27] := by simpa using Array.mem_of_getElem? ht
    have hall : ([27].all fun u => !Tryz.prog.wantsStandIn u) = true := by kernel_rfl
    exact (show Tryz.prog.wantsStandIn t = false by simpa using List.all_eq_true.1 hall t hm)⟩
theorem card : Rows.RatioBackCardSaid :=
  Claim7.holds_tied_plain_at .later [] _ _ _ _ proved (fun _ h => by cases h) (by kernel_rfl) (fun _ h => by cases h) ratioBack_row_tie rfl ⟨rfl, rfl⟩ (by kernel_rfl) rfl plain (by kernel_rfl)
#print axioms card
end Go.Proofs.YtfboepeadeafmaaGreatDoor.ratioBack
namespace Go.Proofs.YtfboepeadeafmaaGreatDoor
/-- The statement, under a short name, for the claim. -/
theorem ratioBack_holds : Rows.RatioBackCardSaid := ratioBack.card
end Go.Proofs.YtfboepeadeafmaaGreatDoor
