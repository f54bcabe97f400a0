/- The law DigitsBack holds of every input: the row, and its card. -/
import Derived.Test.YthcmjcjgaebciaaDoorQDB2
import Derived.Test.YthcmjcjgaebciaaDoorQDB1
import Derived.KernelRfl
import Derived.Test.YthcmjcjgaebciaaDoorCards
import Derived.Test.YthcmjcjgaebciaaDoorTie
import Derived.WalkKit
import Derived.ProofKit
import Derived.OpenShut
import Derived.ShutString
import Derived.ChangeOld
import Derived.Below
import Derived.Lib.SmallJoins
import Derived.Lay
import Derived.SevenTiedAt
import Derived.Lib.LaidTab
import Derived.Lib.LaidU8
import Derived.Stop.LaidErr
import Derived.LaidMore
/- Digits read by any base: the program's way and the document's. -/
namespace Go.Proofs.YthcmjcjgaebciaaDoor.T
open Go.RowKit Go.Proofs.YthcmjcjgaebciaaDoorW.PrintWords Go.Proofs.YthcmjcjgaebciaaDoorW.PrintLast Go.Proofs.YthcmjcjgaebciaaDoorW.PrintMore Go.Proofs.YthcmjcjgaebciaaDoor.Tri

/-- a digit's value; -1: none -/
def valD (c : UInt8) : Int := if 48 ≤ c.toNat ∧ c.toNat ≤ 57 then (c.toNat : Int) - 48 else if 97 ≤ c.toNat ∧ c.toNat ≤ 122 then (c.toNat : Int) - 87 else -1
/-- the digits' signs -/
def alpha : List UInt8 := [48, 49, 50, 51, 52, 53, 54, 55, 56, 57, 97, 98, 99, 100, 101, 102, 103, 104, 105, 106, 107, 108, 109, 110, 111, 112, 113, 114, 115, 116, 117, 118, 119, 120, 121, 122]
theorem index_all : (List.range 256).all (fun n => decide (Lib.indexByte alpha (UInt8.ofNat n) = valD (UInt8.ofNat n))) = true := by kernel_rfl
theorem index_val (c : UInt8) : Lib.indexByte alpha c = valD c := by
  have h := (List.all_eq_true.1 index_all) c.toNat (List.mem_range.2 c.toNat_lt)
  rw [decide_eq_true_eq, UInt8.ofNat_toNat] at h
  exact h
theorem valD_le (c : UInt8) : -1 ≤ valD c ∧ valD c < 36 := by
  unfold valD; split
  · omega
  · split <;> omega
def digD (base : Int) (c : UInt8) : Option Int := if 0 ≤ valD c ∧ valD c < base then some (valD c) else none
def foldD (base : Int) : List UInt8 → Int → Option Int
  | [], v => some v
  | c :: cs, v => match digD base c with
    | none => none
    | some d => foldD base cs (v * base + d)
theorem based_val (b : Int) (h0 : 2 ≤ b) (h1 : b ≤ 36) : digits_based.f b = some 0 := by
  unfold digits_based.f; rw [if_neg (by omega), if_neg (by omega)]
theorem based_bad (b : Int) (h : ¬ (2 ≤ b ∧ b ≤ 36)) : digits_based.f b = some 2 := by
  unfold digits_based.f
  by_cases h1 : b < 2
  · rw [if_pos h1]
  · rw [if_neg h1, if_pos (by omega)]
theorem value_val (c : UInt8) (base : Int) (hc : c.toNat < 128) : ∃ x, digits_value.f (c.toNat : Int) base = some (x, (digD base c).isSome) ∧ ∀ d, digD base c = some d → x = d := by
  have hv := valD_le c
  have e : strings_IndexByte.f (⟨#[48, 49, 50, 51, 52, 53, 54, 55, 56, 57, 97, 98, 99, 100, 101, 102, 103, 104, 105, 106, 107, 108, 109, 110, 111, 112, 113, 114, 115, 116, 117, 118, 119, 120, 121, 122]⟩ : ByteArray) ((c.toNat : Int) % 256) = some (valD c) := by
    unfold strings_IndexByte.f
    have e1 : (((c.toNat : Int)) % 256).toNat.toUInt8 = c := by
      have : (((c.toNat : Int)) % 256).toNat = c.toNat := by omega
      rw [this]; simp
    rw [e1]
    exact congrArg some (index_val c)
  unfold digits_value.f
  rw [e]
  simp only [Option.bind_some]
  rw [if_pos (by omega)]
  unfold digD
  by_cases h0 : valD c ≥ 0
  · rw [if_pos h0]
    have hm : mx (valD c) 0 = valD c := by unfold mx; rw [if_neg (by omega)]
    rw [hm, u64' h0 (by omega)]
    refine ⟨valD c, ?_, ?_⟩
    · by_cases h1 : valD c < base
      · rw [if_pos ⟨h0, h1⟩]; simp [h1]
      · rw [if_neg (fun z => h1 z.2)]; simp [h1]
    · intro d hd
      split at hd
      · exact Option.some.inj hd
      · simp at hd
  · rw [if_neg h0, if_neg (fun z => h0 z.1)]
    exact ⟨_, rfl, fun d hd => by simp at hd⟩
theorem dig_high (c : UInt8) (base : Int) (hc : 128 ≤ c.toNat) : digD base c = none := by
  have : valD c = -1 := by unfold valD; rw [if_neg (by omega), if_neg (by omega)]
  unfold digD; rw [this, if_neg (by omega)]
/-- what a text says, and how it is told -/
def Told (o : Option Int) (r : List Int × Int) : Prop := match o with
  | none => r = ([], 5)
  | some v => Tri.Can 4294967296 r.1 ∧ dv 4294967296 r.1 = v ∧ r.2 = 0
theorem Told.uniq {o : Option Int} {r s : List Int × Int} (h : Told o r) (k : Told o s) : r = s := by
  cases o with
  | none => exact Eq.trans h (Eq.symm k)
  | some v =>
    obtain ⟨h1, h2, h3⟩ := h
    obtain ⟨k1, k2, k3⟩ := k
    exact Prod.ext (Can.inj (by decide) h1 k1 (h2.trans k2.symm)) (h3.trans k3.symm)
theorem go_ev (base : Int) (hb0 : 2 ≤ base) (hb1 : base ≤ 36) (l : List UInt8) : ∀ (a : List Int) (p t : Int), Dig 4294967296 a → 1 ≤ p → p < 4294967296 → 0 ≤ t → t < p → a.length + l.length ≤ 100000000 →
    ∃ r, Told (foldD base l (dv 4294967296 a * p + t)) r ∧ r.1.length ≤ a.length + l.length + 1 ∧ Ev (fun k => digits_From.go k base l a p t) r := by
  induction l with
  | nil =>
    intro a p t ha hp0 hp1 ht0 ht1 hl
    obtain ⟨r, h1, h2, h3, h4⟩ := small_ev a p t ha ⟨by omega, hp1⟩ ⟨ht0, by omega⟩ (by simp at hl; omega)
    exact ⟨(r, 0), ⟨h1, h2, rfl⟩, by simp; omega, Ev.bind h4 (Ev.now _)⟩
  | cons c cs ih =>
    intro a p t ha hp0 hp1 ht0 ht1 hl
    simp only [List.length_cons] at hl
    by_cases hc : 128 ≤ c.toNat
    · refine ⟨([], 5), ?_, by simp, evSame (Ev.now _) fun k => ?_⟩
      · unfold foldD; rw [dig_high c base hc]; rfl
      · conv => lhs; unfold digits_From.go
        rw [if_pos hc]
    · obtain ⟨x, hx, hx2⟩ := value_val c base (by omega)
      have step : ∀ k, digits_From.go k base (c :: cs) a p t = (if (digD base c).isSome = true then
        (if IntKind.u64.wrap (p * IntKind.u64.wrap base) ≥ 4294967296 then
          (mul_Small.f k a p t).bind fun r => digits_From.go k base cs r (IntKind.u64.wrap (IntKind.u64.wrap base)) (IntKind.u64.wrap x)
        else digits_From.go k base cs a (IntKind.u64.wrap (p * IntKind.u64.wrap base)) (IntKind.u64.wrap (IntKind.u64.wrap (t * IntKind.u64.wrap base) + x)))
      else some ([], 5)) := by
        intro k
        conv => lhs; unfold digits_From.go
        rw [if_neg hc, hx]
        rfl
      have hub : IntKind.u64.wrap base = base := u64' (by omega) (by omega)
      unfold foldD
      cases hd : digD base c with
      | none =>
        refine ⟨([], 5), rfl, by simp, evSame (Ev.now _) fun k => ?_⟩
        rw [step, hd]; rfl
      | some d =>
        have hxd := hx2 d hd
        subst hxd
        have hdr : 0 ≤ x ∧ x < base := by
          unfold digD at hd
          split at hd
          · rename_i h; have := Option.some.inj hd; omega
          · simp at hd
        have hpb0 : p * base < 4294967296 * 37 := by
          have h1 : p * base ≤ 4294967295 * base := Int.mul_le_mul_of_nonneg_right (by omega) (by omega)
          omega
        have hpb1 : 1 ≤ p * base := by
          have h1 : 1 * base ≤ p * base := Int.mul_le_mul_of_nonneg_right hp0 (by omega)
          omega
        dsimp only
        by_cases hbig : p * base ≥ 4294967296
        · obtain ⟨r1, h1, h2, h3, h4⟩ := small_ev a p t ha ⟨by omega, hp1⟩ ⟨ht0, by omega⟩ (by omega)
          obtain ⟨r, g1, g3, g2⟩ := ih r1 base x h1.1 (by omega) (by omega) hdr.1 hdr.2 (by omega)
          rw [h2] at g1
          refine ⟨r, g1, by simp only [List.length_cons]; omega, evSame (g := fun k => (mul_Small.f k a p t).bind fun r => digits_From.go k base cs r base x) (Ev.bind h4 g2) fun k => ?_⟩
          rw [step, hd, hub, hub, u64' (x := p * base) (by omega) (by omega), u64' (x := x) hdr.1 (by omega), if_pos (by rfl), if_pos hbig]
        · have ht2 : t * base + x < p * base := by
            have h1 : (t + 1) * base ≤ p * base := Int.mul_le_mul_of_nonneg_right (by omega) (by omega)
            rw [Int.add_mul] at h1
            omega
          have ht3 : 0 ≤ t * base := Int.mul_nonneg ht0 (by omega)
          obtain ⟨r, g1, g3, g2⟩ := ih a (p * base) (t * base + x) ha hpb1 (by omega) (by omega) ht2 (by omega)
          have ev : dv 4294967296 a * (p * base) + (t * base + x) = (dv 4294967296 a * p + t) * base + x := by grind
          rw [ev] at g1
          refine ⟨r, g1, by simp only [List.length_cons]; omega, evSame g2 fun k => ?_⟩
          rw [step, hd, hub, u64' (x := p * base) (by omega) (by omega), u64' (x := t * base) ht3 (by omega), u64' (x := t * base + x) (by omega) (by omega), if_pos (by rfl), if_neg hbig]
theorem refdigit_ev (c : UInt8) (base : Int) (_hb0 : 2 ≤ base) (hb1 : base ≤ 36) : Ev (fun k => triviumref06_digit.f k (c.toNat : Int) base) (match digD base c with | none => -1 | some d => d) := by
  have hc := c.toNat_lt
  have h2 : ∀ (x5 : Int) (b : Bool), b = decide (97 ≤ c.toNat ∧ c.toNat ≤ 122) → x5 = (if 48 ≤ c.toNat ∧ c.toNat ≤ 57 then (c.toNat : Int) - 48 else -1) → Ev (fun k => triviumref06_digit.j2 k (c.toNat : Int) base x5 b) (match digD base c with | none => -1 | some d => d) := by
    intro x5 b hbb hx5
    refine evStep (Ev.now _) fun k => ?_
    simp only [triviumref06_digit.j2]
    unfold digD
    by_cases h97 : 97 ≤ c.toNat ∧ c.toNat ≤ 122
    · have hv : valD c = (c.toNat : Int) - 87 := by unfold valD; rw [if_neg (by omega), if_pos h97]
      have hb : b = true := by rw [hbb]; exact decide_eq_true h97
      have e : ((c.toNat : Int) - 97) % 256 + 10 = (c.toNat : Int) - 87 := by omega
      rw [hv, if_pos hb, e]
      by_cases hge : (c.toNat : Int) - 87 ≥ base
      · rw [if_pos hge, if_neg (by omega)]
      · rw [if_neg hge, if_pos (by omega)]
    · have hb : ¬ (b = true) := by rw [hbb, decide_eq_true_eq]; exact h97
      rw [if_neg hb, hx5]
      by_cases h48 : 48 ≤ c.toNat ∧ c.toNat ≤ 57
      · have hv : valD c = (c.toNat : Int) - 48 := by unfold valD; rw [if_pos h48]
        rw [hv, if_pos h48]
        by_cases hge : (c.toNat : Int) - 48 ≥ base
        · rw [if_pos hge, if_neg (by omega)]
        · rw [if_neg hge, if_pos (by omega)]
      · have hv : valD c = -1 := by unfold valD; rw [if_neg h48, if_neg h97]
        rw [hv, if_neg h48, if_neg (by omega), if_neg (by omega)]
  have h1 : ∀ (x5 : Int), x5 = (if 48 ≤ c.toNat ∧ c.toNat ≤ 57 then (c.toNat : Int) - 48 else -1) → Ev (fun k => triviumref06_digit.j1 k (c.toNat : Int) base x5) (match digD base c with | none => -1 | some d => d) := by
    intro x5 hx5
    by_cases h : (c.toNat : Int) ≥ 97
    · refine evStep (h2 x5 (decide ((c.toNat : Int) ≤ 122)) (by rw [decide_eq_decide]; omega) hx5) fun k => ?_
      simp only [triviumref06_digit.j1]
      rw [if_pos h]
    · refine evStep (h2 x5 false (by symm; rw [decide_eq_false_iff_not]; omega) hx5) fun k => ?_
      simp only [triviumref06_digit.j1]
      rw [if_neg h]
  have h0 : ∀ (b : Bool), b = decide (48 ≤ c.toNat ∧ c.toNat ≤ 57) → Ev (fun k => triviumref06_digit.j0 k (c.toNat : Int) base (-1) b) (match digD base c with | none => -1 | some d => d) := by
    intro b hb
    by_cases h : 48 ≤ c.toNat ∧ c.toNat ≤ 57
    · refine evStep (h1 (((c.toNat : Int) - 48) % 256) (by rw [if_pos h]; omega)) fun k => ?_
      simp only [triviumref06_digit.j0]
      rw [if_pos (by rw [hb]; exact decide_eq_true h)]
    · refine evStep (h1 (-1) (by rw [if_neg h])) fun k => ?_
      simp only [triviumref06_digit.j0]
      rw [if_neg (by rw [hb, decide_eq_true_eq]; exact h)]
  by_cases h : (c.toNat : Int) ≥ 48
  · refine evSame (h0 (decide ((c.toNat : Int) ≤ 57)) (by rw [decide_eq_decide]; omega)) fun k => ?_
    unfold triviumref06_digit.f
    rw [if_pos h]
  · refine evSame (h0 false (by symm; rw [decide_eq_false_iff_not]; omega)) fun k => ?_
    unfold triviumref06_digit.f
    rw [if_neg h]
theorem bt_drop' (s : ByteArray) (i : Nat) (c : UInt8) (l : List UInt8) (h : s.data.toList.drop i = c :: l) : bt s i = c.toNat ∧ i < s.size ∧ s.data.toList.drop (i + 1) = l := by
  have hs : s.data.toList.length = s.size := data_length s
  have hi : i < s.data.toList.length := by
    apply Classical.byContradiction
    intro z
    rw [List.drop_eq_nil_of_le (by omega)] at h
    simp at h
  rw [List.drop_eq_getElem_cons hi] at h
  injection h with h3 h4
  refine ⟨?_, by omega, h4⟩
  rw [← bt_at s i (by simp; omega), ← h3]
  rfl
theorem reffrom_loop (s : ByteArray) (base : Int) (hb0 : 2 ≤ base) (hb1 : base ≤ 36) (hs : s.size ≤ 10000000) (l : List UInt8) : ∀ (i : Nat) (x : List Int), s.data.toList.drop i = l → i + l.length = s.size → Tri.Can 10000 x → x.length ≤ 3 * i →
    ∃ r, Told (foldD base l (dv 10000 x)) r ∧ Ev (fun k => triviumref06_From.l0 k s base x (i : Int)) r := by
  induction l with
  | nil =>
    intro i x hd hi hx hxl
    simp only [List.length_nil, Nat.add_zero] at hi
    obtain ⟨e, h1, h2, h3⟩ := back_ev x hx (by omega)
    refine ⟨(e, 0), ⟨h1, h2, rfl⟩, evStep (g := fun k => (triviumref02_Back.f k x).bind fun t => some (t, (0 : Int))) (Ev.bind h3 (Ev.now _)) fun k => ?_⟩
    simp only [triviumref06_From.l0]
    rw [if_neg (by omega)]
  | cons c l ih =>
    intro i x hd hi hx hxl
    obtain ⟨hbt, hlt, hr⟩ := bt_drop' s i c l hd
    simp only [List.length_cons] at hi
    have hdig := refdigit_ev c base hb0 hb1
    have w : wrap64 ((i : Int) + 1) = ((i + 1 : Nat) : Int) := by rw [w64' (by omega) (by omega)]; omega
    have step : ∀ k, triviumref06_From.l0 (k + 1) s base x (i : Int) = (triviumref06_digit.f k (c.toNat : Int) base).bind fun t => if t < 0 then some ([], 5) else (triviumref02_MulAdd.f k x base t).bind fun u => triviumref06_From.l0 k s base u ((i + 1 : Nat) : Int) := by
      intro k
      conv => lhs; unfold triviumref06_From.l0
      rw [if_pos (by omega), if_pos (by omega), hbt, w]
    unfold foldD
    cases hd : digD base c with
    | none =>
      rw [hd] at hdig
      refine ⟨([], 5), rfl, evStep (Ev.bind hdig ?_) step⟩
      exact evSame (Ev.now _) fun k => by dsimp only; rw [if_pos (by omega)]
    | some d =>
      rw [hd] at hdig
      have hdr : 0 ≤ d ∧ d < base := by
        unfold digD at hd
        split at hd
        · rename_i h; have := Option.some.inj hd; omega
        · simp at hd
      obtain ⟨u, h1, h2, h3, h4⟩ := mulAdd_ev x base d hx.1 (by omega) (by omega) hdr.1 (by omega) (by omega)
      obtain ⟨r, g1, g2⟩ := ih (i + 1) u hr (by omega) h1 (by omega)
      rw [h2] at g1
      refine ⟨r, g1, evStep (Ev.bind hdig ?_) step⟩
      refine evSame (Ev.bind (f := fun k u => triviumref06_From.l0 k s base u ((i + 1 : Nat) : Int)) h4 g2) fun k => ?_
      dsimp only
      rw [if_neg (by omega)]
/-- what a text says by a base -/
def fromD (base : Int) (s : ByteArray) (r : List Int × Int) : Prop :=
  if 2 ≤ base ∧ base ≤ 36 then (if s.data.toList = [] then r = ([], 5) else Told (foldD base s.data.toList 0) r) else r = ([], 2)
theorem fromD.uniq {base : Int} {s : ByteArray} {r q : List Int × Int} (h : fromD base s r) (k : fromD base s q) : r = q := by
  unfold fromD at h k
  split at h
  · rename_i hb
    rw [if_pos hb] at k
    split at h
    · rename_i hn; rw [if_pos hn] at k; exact h.trans k.symm
    · rename_i hn; rw [if_neg hn] at k; exact h.uniq k
  · rename_i hb; rw [if_neg hb] at k; exact h.trans k.symm
theorem fromD_ok {base : Int} {s : ByteArray} {r : List Int × Int} (hb : 2 ≤ base ∧ base ≤ 36) (hn : s.data.toList ≠ []) (h : Told (foldD base s.data.toList 0) r) : fromD base s r := by
  unfold fromD; rw [if_pos hb, if_neg hn]; exact h
theorem fromD_nil {base : Int} {s : ByteArray} (hb : 2 ≤ base ∧ base ≤ 36) (hn : s.data.toList = []) : fromD base s ([], 5) := by
  unfold fromD; rw [if_pos hb, if_pos hn]
theorem fromD_bad {base : Int} {s : ByteArray} (hb : ¬ (2 ≤ base ∧ base ≤ 36)) : fromD base s ([], 2) := by
  unfold fromD; rw [if_neg hb]
theorem from_ev (s : ByteArray) (base : Int) (hs : s.size ≤ 10000000) : ∃ r, fromD base s r ∧ r.1.length ≤ s.size + 1 ∧ Ev (fun k => digits_From.f k s base) r := by
  by_cases hb : 2 ≤ base ∧ base ≤ 36
  · by_cases hn : s.data.toList = []
    · refine ⟨_, fromD_nil hb hn, by simp, evSame (Ev.now _) fun k => ?_⟩
      unfold digits_From.f
      rw [based_val base hb.1 hb.2]
      simp only [Option.bind_some]
      rw [if_pos trivial, if_pos hn]
    · have hl : s.data.toList.length = s.size := data_length s
      obtain ⟨r, h1, h3, h2⟩ := go_ev base hb.1 hb.2 s.data.toList [] 1 0 (Dig.nil _) (by omega) (by omega) (by omega) (by omega) (by simp; omega)
      have e : dv 4294967296 [] * 1 + 0 = 0 := by simp [dv]
      rw [e] at h1
      refine ⟨r, fromD_ok hb hn h1, by simp at h3; omega, evSame h2 fun k => ?_⟩
      unfold digits_From.f
      rw [based_val base hb.1 hb.2]
      simp only [Option.bind_some]
      rw [if_pos trivial, if_neg hn]
  · refine ⟨_, fromD_bad hb, by simp, evSame (Ev.now _) fun k => ?_⟩
    unfold digits_From.f
    rw [based_bad base hb]
    simp only [Option.bind_some]
    rw [if_neg (by omega)]
theorem reffrom_ev (s : ByteArray) (base : Int) (hs : s.size ≤ 10000000) : ∃ r, fromD base s r ∧ Ev (fun k => triviumref06_From.f k s base) r := by
  have j : ∀ b : Bool, b = decide (¬ (2 ≤ base ∧ base ≤ 36)) → ∃ r, fromD base s r ∧ Ev (fun k => triviumref06_From.j0 k s base b) r := by
    intro b hbb
    by_cases hb : 2 ≤ base ∧ base ≤ 36
    · have hl : s.data.toList.length = s.size := data_length s
      have hbf : ¬ (b = true) := by rw [hbb, decide_eq_true_eq]; exact fun z => z hb
      by_cases hn : s.data.toList = []
      · refine ⟨_, fromD_nil hb hn, evStep (Ev.now _) fun k => ?_⟩
        simp only [triviumref06_From.j0]
        rw [if_neg hbf, if_pos (by rw [hn] at hl; simp at hl; omega)]
      · obtain ⟨r, h1, h2⟩ := reffrom_loop s base hb.1 hb.2 hs s.data.toList 0 [] rfl (by omega) (Can.nil _) (by simp)
        refine ⟨r, fromD_ok hb hn h1, evStep h2 fun k => ?_⟩
        simp only [triviumref06_From.j0]
        have : s.size ≠ 0 := by
          intro z; apply hn; apply List.eq_nil_of_length_eq_zero; omega
        rw [if_neg hbf, if_neg (by omega)]
        rfl
    · refine ⟨_, fromD_bad hb, evStep (Ev.now _) fun k => ?_⟩
      simp only [triviumref06_From.j0]
      rw [if_pos (by rw [hbb]; exact decide_eq_true hb)]
  by_cases h : base < 2
  · obtain ⟨r, h1, h2⟩ := j true (by symm; rw [decide_eq_true_eq]; omega)
    refine ⟨r, h1, evSame h2 fun k => ?_⟩
    unfold triviumref06_From.f
    rw [if_pos h]
  · obtain ⟨r, h1, h2⟩ := j (decide (base > 36)) (by rw [decide_eq_decide]; omega)
    refine ⟨r, h1, evSame h2 fun k => ?_⟩
    unfold triviumref06_From.f
    rw [if_neg h]
theorem same_ev (a : List Int) (h : a.length ≤ 1000000000000) : Ev (fun k => triviumref02_Same.f k a a) true := by
  have loop : ∀ (n i : Nat), i + n = a.length → Ev (fun k => triviumref02_Same.l0 k a a (i : Int)) true := by
    intro n
    induction n with
    | zero =>
      intro i hi
      refine evStep (Ev.now _) fun k => ?_
      simp only [triviumref02_Same.l0]
      rw [if_neg (by omega)]
    | succ n ih =>
      intro i hi
      refine evStep (ih (i + 1) (by omega)) fun k => ?_
      have w : wrap64 ((i : Int) + 1) = ((i + 1 : Nat) : Int) := by rw [w64' (by omega) (by omega)]; omega
      conv => lhs; unfold triviumref02_Same.l0
      rw [if_pos (by omega), if_pos (by omega), if_pos (by omega), if_pos rfl, w]
  refine evSame (loop a.length 0 (by omega)) fun k => ?_
  unfold triviumref02_Same.f
  rw [if_pos rfl]
  rfl
end Go.Proofs.YthcmjcjgaebciaaDoor.T
-- Out of the translation, by a program (myprint.py).
namespace Go.Proofs.YthcmjcjgaebciaaDoor.T
open Go.RowKit Go.Proofs.YthcmjcjgaebciaaDoorW.PrintWords Go.Proofs.YthcmjcjgaebciaaDoorW.PrintLast Go.Proofs.YthcmjcjgaebciaaDoorW.PrintMore
attribute [local go_sem] max2_int min2_int max_two min_two max_three min_three max_four min_four   -- for this text's walks alone
set_option linter.unusedVariables false
set_option linter.unusedSimpArgs false

/-! ### triviumref06_In: function 22 -/
mutual
def triviumref06_In.j0 : Nat → List Int → Int → Bool → Option (ByteArray × Int)
  | 0, _, _, _ => none
  | k + 1, x0, x1, x16 => if x16 = true then (some ((⟨#[]⟩ : ByteArray), 2)) else ((triviumref02_Of.f k x0).bind fun t262 => (if (t262.length : Int) = 0 then (some ((⟨#[48]⟩ : ByteArray), 0)) else (triviumref06_In.l0 k x1 t262 (⟨#[48, 49, 50, 51, 52, 53, 54, 55, 56, 57, 97, 98, 99, 100, 101, 102, 103, 104, 105, 106, 107, 108, 109, 110, 111, 112, 113, 114, 115, 116, 117, 118, 119, 120, 121, 122]⟩ : ByteArray) (([] : List Int)))))
def triviumref06_In.l0 : Nat → Int → List Int → ByteArray → List Int → Option (ByteArray × Int)
  | 0, _, _, _, _ => none
  | k + 1, x1, x6, x7, x8 => if (x6.length : Int) > 0 then ((triviumref02_DivSmall.f k x6 x1).bind fun bt268 => (if 0 ≤ bt268.2 then (if bt268.2 < (x7.size : Int) then ((some (([bt x7 bt268.2] : List Int) : List Int)).bind fun y272 => (if y272.length + x8.length < 140737488355328 then (triviumref06_In.l0 k x1 bt268.1 x7 (y272 ++ x8)) else (none))) else (none)) else (none))) else (some (strOfNums x8, 0))
end
def triviumref06_In.f (k : Nat) (l0 : List Int) (a1 : Int) : Option (ByteArray × Int) := if a1 < 2 then (triviumref06_In.j0 k l0 a1 true) else (triviumref06_In.j0 k l0 a1 (decide (a1 > 36)))
theorem triviumref06_In.mono_l : ∀ k, (∀ y0 y1 y2, LeO (triviumref06_In.j0 k y0 y1 y2) (triviumref06_In.j0 (k + 1) y0 y1 y2)) ∧ (∀ y0 y1 y2 y3, LeO (triviumref06_In.l0 k y0 y1 y2 y3) (triviumref06_In.l0 (k + 1) y0 y1 y2 y3))
  | 0 => ⟨fun _ _ _ r h => by simp [triviumref06_In.j0] at h, fun _ _ _ _ r h => by simp [triviumref06_In.l0] at h⟩
  | k + 1 => by
    obtain ⟨ih0, ih1⟩ := triviumref06_In.mono_l k
    refine ⟨?_, ?_⟩
    · intro y0 y1 y2
      unfold triviumref06_In.j0
      repeat' first
      | (with_reducible exact ih0 _ _ _)
      | (with_reducible exact ih1 _ _ _ _)
      | (with_reducible exact triviumref02_DivSmall.mono _ _ _)
      | (with_reducible exact triviumref02_Of.mono _ _)
      | (with_reducible exact LeO.refl _)
      | (with_reducible exact LeO.none _)
      | (with_reducible refine LeO.ite ?_ ?_)
      | (with_reducible refine LeO.bind ?_ (fun _ => ?_))
      | exact ih0 _ _ _
      | exact ih1 _ _ _ _
      | exact triviumref02_DivSmall.mono _ _ _
      | exact triviumref02_Of.mono _ _
      | exact LeO.none _
      | refine LeO.ite ?_ ?_
      | refine LeO.bind ?_ (fun _ => ?_)
    · intro y0 y1 y2 y3
      unfold triviumref06_In.l0
      repeat' first
      | (with_reducible exact ih0 _ _ _)
      | (with_reducible exact ih1 _ _ _ _)
      | (with_reducible exact triviumref02_DivSmall.mono _ _ _)
      | (with_reducible exact triviumref02_Of.mono _ _)
      | (with_reducible exact LeO.refl _)
      | (with_reducible exact LeO.none _)
      | (with_reducible refine LeO.ite ?_ ?_)
      | (with_reducible refine LeO.bind ?_ (fun _ => ?_))
      | exact ih0 _ _ _
      | exact ih1 _ _ _ _
      | exact triviumref02_DivSmall.mono _ _ _
      | exact triviumref02_Of.mono _ _
      | exact LeO.none _
      | refine LeO.ite ?_ ?_
      | refine LeO.bind ?_ (fun _ => ?_)
theorem triviumref06_In.mono : ∀ a0 a1 k, LeO (triviumref06_In.f k a0 a1) (triviumref06_In.f (k + 1) a0 a1) := by
  intro a0 a1 k
  obtain ⟨ih0, ih1⟩ := triviumref06_In.mono_l k
  unfold triviumref06_In.f
  repeat' first
      | (with_reducible exact ih0 _ _ _)
      | (with_reducible exact ih1 _ _ _ _)
      | (with_reducible exact triviumref02_DivSmall.mono _ _ _)
      | (with_reducible exact triviumref02_Of.mono _ _)
      | (with_reducible exact LeO.refl _)
      | (with_reducible exact LeO.none _)
      | (with_reducible refine LeO.ite ?_ ?_)
      | (with_reducible refine LeO.bind ?_ (fun _ => ?_))
      | exact ih0 _ _ _
      | exact ih1 _ _ _ _
      | exact triviumref02_DivSmall.mono _ _ _
      | exact triviumref02_Of.mono _ _
      | exact LeO.none _
      | refine LeO.ite ?_ ?_
      | refine LeO.bind ?_ (fun _ => ?_)
set_option maxHeartbeats 8000000 in
set_option maxRecDepth 100000 in
theorem triviumref06_In.calls (k : Nat) (A0 : Option Addr) (c0 : Nat) (l0 : List Int) (a1 : Int) (r1 : ByteArray) (r2 : Int) (w : World) (hr0 : Kd.C (Kd.int .u64) w A0 l0.length l0) (hc0 : l0.length ≤ c0) (h : triviumref06_In.f k l0 a1 = some (r1, r2)) :
    Calls Tryd.prog 22 #[.slice A0 l0.length c0, .int .i64 a1] w fun e w' => e = .returned (.tuple #[.string r1, .int .i64 r2]) ∧ Below w.heap.size w w' := by
  have HR0 := Aside0.mk hr0
  have HC0 := Aside0.mk hc0
  clear hr0 hc0
  have HB := Aside0.mk (Below.refl w.heap.size w)
  have H : (if a1 < 2 then (triviumref06_In.j0 k l0 a1 true) else (triviumref06_In.j0 k l0 a1 (decide (a1 > 36)))) = some (r1, r2) := h
  clear h
  have HC3 := Aside0.mk H
  clear H
  go_enter Tryd.func22, Tryd.ntmps22
  go_upto_region 1 with (fail)
  go_cut [16] (fun v16 wc => ∃ (kq : Nat) (x16_2 : Bool), v16 = .bool x16_2 ∧ Aside0 (triviumref06_In.j0 kq l0 a1 x16_2 = some (r1, r2)) ∧ Aside0 (kq ≤ k) ∧ Aside0 (Below w.heap.size w wc))
  case first =>
    have H := HC3.out
    clear HC3
    by_cases c4 : a1 < 2
    · rw [if_pos c4] at H
      have c4b0 : decide (a1 < 2) = true := decide_eq_true c4
      clear c4
      (first | rw [c4b0] | (simp only [i64_w, i32_w]; rw [c4b0]) | skip)
      have H' := Aside0.mk H
      clear H
      go_wp2
      go_meet
      case rel => exact ⟨_, (true), (by first | rfl | (simp; done) | (simp [*]; done) | (congr 1; omega) | (simp; omega)), H', ⟨by first | omega | exact Nat.le_refl _⟩, ⟨by repeat (first | (with_reducible first | exact HB.out | apply below_alloc | apply pw_below_drewN | apply below_drew1) | exact HB.out)⟩⟩
    · rw [if_neg c4] at H
      have c4b0 : decide (a1 < 2) = false := decide_eq_false c4
      clear c4
      (first | rw [c4b0] | (simp only [i64_w, i32_w]; rw [c4b0]) | skip)
      have H' := Aside0.mk H
      clear H
      go_wp2
      go_meet
      case rel => exact ⟨_, (decide (a1 > 36)), (by first | rfl | (simp; done) | (simp [*]; done) | (congr 1; omega) | (simp; omega)), H', ⟨by first | omega | exact Nat.le_refl _⟩, ⟨by repeat (first | (with_reducible first | exact HB.out | apply below_alloc | apply pw_below_drewN | apply below_drew1) | exact HB.out)⟩⟩
  case rest =>
    clear HC3
    try clear c2
    try clear p2
    try clear c4
    try clear c4b0
    obtain ⟨kq, x16_2, rfl, HA, HJ2, HB⟩ := hcut
    cases kq with
    | zero => exact absurd HA.out (by simp [triviumref06_In.j0])
    | succ kj2 =>
      have H := HA.out
      clear HA
      simp only [triviumref06_In.j0] at H
      by_cases c5 : x16_2 = true
      · subst c5
        have H1 : (some ((⟨#[]⟩ : ByteArray), 2)) = some (r1, r2) := by rw [if_pos rfl] at H; exact H
        clear H
        have H := H1
        clear H1
        simp only [Option.some.injEq, Prod.mk.injEq] at H
        obtain ⟨rfl, rfl⟩ := H
        go_wp2
        go_ret2
        exact ⟨by first | rfl | (simp only [u32_w, u64_u32, i64_u32]; rfl) | (simp [errW_none, errW_some] <;> rfl) | (simp [*, errW_none, errW_some] <;> rfl), by repeat (first | (with_reducible first | exact HB.out | apply below_alloc | apply pw_below_drewN | apply below_drew1) | exact HB.out)⟩
      · replace c5 := Bool.eq_false_iff.mpr c5
        subst c5
        have H1 : ((triviumref02_Of.f kj2 l0).bind fun t262 => (if (t262.length : Int) = 0 then (some ((⟨#[48]⟩ : ByteArray), 0)) else (triviumref06_In.l0 kj2 a1 t262 (⟨#[48, 49, 50, 51, 52, 53, 54, 55, 56, 57, 97, 98, 99, 100, 101, 102, 103, 104, 105, 106, 107, 108, 109, 110, 111, 112, 113, 114, 115, 116, 117, 118, 119, 120, 121, 122]⟩ : ByteArray) (([] : List Int))))) = some (r1, r2) := by rw [if_neg (show ¬ (false = true) by decide)] at H; exact H
        clear H
        have H := H1
        clear H1
        replace H := Option.bind_eq_some_iff.mp H
        obtain ⟨t262, A60, H⟩ := H
        replace H : (if (t262.length : Int) = 0 then (some ((⟨#[48]⟩ : ByteArray), 0)) else (triviumref06_In.l0 kj2 a1 t262 (⟨#[48, 49, 50, 51, 52, 53, 54, 55, 56, 57, 97, 98, 99, 100, 101, 102, 103, 104, 105, 106, 107, 108, 109, 110, 111, 112, 113, 114, 115, 116, 117, 118, 119, 120, 121, 122]⟩ : ByteArray) (([] : List Int)))) = some (r1, r2) := H
        have A6 := Aside0.mk A60
        clear A60
        by_cases c7 : (t262.length : Int) = 0
        · rw [if_pos c7] at H
          have c7b0 : ((t262.length : Int) == 0) = true := beq_iff_eq.mpr c7
          have c7b1 : ((t262.length : Int) != 0) = false := bne_eq_false_iff_eq.mpr c7
          clear c7
          simp only [Option.some.injEq, Prod.mk.injEq] at H
          obtain ⟨rfl, rfl⟩ := H
          go_wp2_with (first | ((with_reducible refine gate_callee (f := 83) rfl ?_); refine goesL_ (some 18) rfl rfl Tryd.func83 (by kernel_rfl) rfl #[.slice A0 l0.length c0] rfl (by (try simp only [List.map_toArray, List.map_cons, List.map_nil]); first | done | rfl | (simp only [List.length_drop, List.length_take]; rfl)) ?_; (with_reducible refine (triviumref02_Of.calls kj2 _ _ l0 t262 _ ?side1 ?side2 A6.out).mono ?_); (case side1 => repeat (first | exact (Kd.C_below HR0.out HB.out) | (with_reducible refine Kd.C_alloc ?_ _) | (with_reducible refine Kd.C_drewN ?_ _) | (with_reducible refine Kd.C_drew ?_))); (case side2 => exact HC0.out); rintro e w8 ⟨v263, rfl, ho0, hb⟩; refine ⟨_, rfl, ?_⟩; have n0_ := Aside0.mk (Kd.R_lower ho0 (below_size (by repeat (first | (with_reducible first | exact HB.out | apply below_alloc | apply pw_below_drewN | apply below_drew1) | exact HB.out)))); have n1_ := Aside0.mk (below_step (by repeat (first | (with_reducible first | exact HB.out | apply below_alloc | apply pw_below_drewN | apply below_drew1) | exact HB.out)) hb); clear HB; have HO264 := n0_; have HB := n1_; clear n0_ n1_; (try clear hb); (try clear hb2); (try clear hk); (try clear hi); (try clear ho0); obtain ⟨Ao9, co9, eo9⟩ := Kd.R_slice HO264.out; subst eo9))
          go_ret2
          exact ⟨by first | rfl | (simp only [u32_w, u64_u32, i64_u32]; rfl) | (simp [errW_none, errW_some] <;> rfl) | (simp [*, errW_none, errW_some] <;> rfl), by repeat (first | (with_reducible first | exact HB.out | apply below_alloc | apply pw_below_drewN | apply below_drew1) | exact HB.out)⟩
        · rw [if_neg c7] at H
          have c7b0 : ((t262.length : Int) == 0) = false := beq_eq_false_iff_ne.mpr c7
          have c7b1 : ((t262.length : Int) != 0) = true := bne_iff_ne.mpr c7
          have c7b2 : ¬ (t262 = []) := fun h_ => c7 (by rw [h_]; rfl)
          obtain ⟨y265, hy265⟩ : ∃ y_ : List Int, y_ = (([] : List Int)) := ⟨_, rfl⟩
          replace H : (triviumref06_In.l0 kj2 a1 t262 (⟨#[48, 49, 50, 51, 52, 53, 54, 55, 56, 57, 97, 98, 99, 100, 101, 102, 103, 104, 105, 106, 107, 108, 109, 110, 111, 112, 113, 114, 115, 116, 117, 118, 119, 120, 121, 122]⟩ : ByteArray) y265) = some (r1, r2) := by first | (rw [hy265]; with_reducible exact H) | (have H2_ := (Option.bind_some _ _).symm.trans H; rw [hy265]; with_reducible exact H2_) | (have H2_ := (Option.bind_some _ _).symm.trans H; with_reducible exact H2_) | with_reducible exact H | (rw [hy265]; exact H) | exact H
          have Ny265 := Aside0.mk hy265
          clear hy265
          have H' := Aside0.mk H
          clear H
          go_wp2_with (first | ((with_reducible refine gate_callee (f := 83) rfl ?_); refine goesL_ (some 18) rfl rfl Tryd.func83 (by kernel_rfl) rfl #[.slice A0 l0.length c0] rfl (by (try simp only [List.map_toArray, List.map_cons, List.map_nil]); first | done | rfl | (simp only [List.length_drop, List.length_take]; rfl)) ?_; (with_reducible refine (triviumref02_Of.calls kj2 _ _ l0 t262 _ ?side1 ?side2 A6.out).mono ?_); (case side1 => repeat (first | exact (Kd.C_below HR0.out HB.out) | (with_reducible refine Kd.C_alloc ?_ _) | (with_reducible refine Kd.C_drewN ?_ _) | (with_reducible refine Kd.C_drew ?_))); (case side2 => exact HC0.out); rintro e w10 ⟨v263, rfl, ho0, hb⟩; refine ⟨_, rfl, ?_⟩; have n0_ := Aside0.mk (Kd.R_lower ho0 (below_size (by repeat (first | (with_reducible first | exact HB.out | apply below_alloc | apply pw_below_drewN | apply below_drew1) | exact HB.out)))); have n1_ := Aside0.mk (below_step (by repeat (first | (with_reducible first | exact HB.out | apply below_alloc | apply pw_below_drewN | apply below_drew1) | exact HB.out)) hb); clear HB; have HO264 := n0_; have HB := n1_; clear n0_ n1_; (try clear hb); (try clear hb2); (try clear hk); (try clear hi); (try clear ho0); obtain ⟨Ao11, co11, eo11⟩ := Kd.R_slice HO264.out; subst eo11) | ((with_reducible refine gate_dst (N := 22) rfl ?_); refine Kd.R_lit (Kd.int .u8) _ 5 ?hg (N := 22) ?hd (xs := ([] : List Int)) (inner := []) (ok := fun _ => True) (okp := fun _ => True) ?hr ?hp (fun _ hk => hk) trivial (Below.refl _ _) (Nat.le_refl _) (by simp) ?_; (case hd => rfl); (case hg => rfl); (case hr => first | (go_simp; done) | (go_simp; rfl)); (case hp => exact (Reps.none _ _)); intro v266 w12 ho13 hb hg_ hnew_; clear hg_ hnew_; (first | rw [← Ny265.out] at ho13 | (simp only [Int.reduceToNat] at ho13; rw [← Ny265.out] at ho13)); have n0_ := Aside0.mk (Kd.R_below (by (with_reducible repeat (first | apply Kd.R_alloc | apply Kd.R_drewN | apply Kd.R_drew)); exact HO264.out) hb); have n1_ := Aside0.mk (Kd.R_lower ho13 (below_size (by repeat (first | (with_reducible first | exact HB.out | apply below_alloc | apply pw_below_drewN | apply below_drew1) | exact HB.out)))); have n2_ := Aside0.mk (below_step (by repeat (first | (with_reducible first | exact HB.out | apply below_alloc | apply pw_below_drewN | apply below_drew1) | exact HB.out)) hb); clear HO264; clear HB; have HO264 := n0_; have HO267 := n1_; have HB := n2_; clear n0_ n1_ n2_; clear hb ho13))
          go_loopg [6, 8] kj2 (fun kq v6 v8 w' => ∃ (x6_2 : List Int) (x8_2 : List Int), Aside0 (triviumref06_In.l0 kq a1 x6_2 (⟨#[48, 49, 50, 51, 52, 53, 54, 55, 56, 57, 97, 98, 99, 100, 101, 102, 103, 104, 105, 106, 107, 108, 109, 110, 111, 112, 113, 114, 115, 116, 117, 118, 119, 120, 121, 122]⟩ : ByteArray) x8_2 = some (r1, r2)) ∧ Aside0 (kq ≤ kj2) ∧ Aside0 (Kd.R (Kd.int .i64) 3 w' w.heap.size (fun _ => True) v6 x6_2) ∧ Aside0 (Kd.R (Kd.int .u8) 5 w' w.heap.size (fun _ => True) v8 x8_2) ∧ Aside0 (Below w.heap.size w w'))
          case atStart => exact ⟨(t262), (y265), H', ⟨Nat.le_refl _⟩, ⟨by (with_reducible repeat (first | apply Kd.R_alloc | apply Kd.R_drewN | apply Kd.R_drew)); exact HO264.out⟩, ⟨by (with_reducible repeat (first | apply Kd.R_alloc | apply Kd.R_drewN | apply Kd.R_drew)); exact HO267.out⟩, ⟨by repeat (first | (with_reducible first | exact HB.out | apply below_alloc | apply pw_below_drewN | apply below_drew1) | exact HB.out)⟩⟩
          case round =>
            clear H'
            try clear c2
            try clear p2
            try clear c4
            try clear c4b0
            try clear c5
            try clear c7
            try clear c7b0
            try clear c7b1
            try clear c7b2
            try clear c8
            try clear p2
            obtain ⟨x6_2, x8_2, HA, HK2, HO_6, HO_8, HB⟩ := hrel
            cases gk with
            | zero => exact absurd HA.out (by simp [triviumref06_In.l0])
            | succ k2 =>
              have H := HA.out
              clear HA
              simp only [triviumref06_In.l0] at H
              by_cases c14 : (x6_2.length : Int) > 0
              · rw [if_pos c14] at H
                have c14b0 : decide (0 < (x6_2.length : Int)) = true := decide_eq_true c14
                have c14b1 : decide (0 < x6_2.length) = true := decide_eq_true (by omega)
                clear c14
                replace H := Option.bind_eq_some_iff.mp H
                obtain ⟨⟨t268, t269⟩, A150, H⟩ := H
                replace H : (if 0 ≤ t269 then (if t269 < ((⟨#[48, 49, 50, 51, 52, 53, 54, 55, 56, 57, 97, 98, 99, 100, 101, 102, 103, 104, 105, 106, 107, 108, 109, 110, 111, 112, 113, 114, 115, 116, 117, 118, 119, 120, 121, 122]⟩ : ByteArray).size : Int) then ((some (([bt (⟨#[48, 49, 50, 51, 52, 53, 54, 55, 56, 57, 97, 98, 99, 100, 101, 102, 103, 104, 105, 106, 107, 108, 109, 110, 111, 112, 113, 114, 115, 116, 117, 118, 119, 120, 121, 122]⟩ : ByteArray) t269] : List Int) : List Int)).bind fun y272 => (if y272.length + x8_2.length < 140737488355328 then (triviumref06_In.l0 k2 a1 t268 (⟨#[48, 49, 50, 51, 52, 53, 54, 55, 56, 57, 97, 98, 99, 100, 101, 102, 103, 104, 105, 106, 107, 108, 109, 110, 111, 112, 113, 114, 115, 116, 117, 118, 119, 120, 121, 122]⟩ : ByteArray) (y272 ++ x8_2)) else (none))) else (none)) else (none)) = some (r1, r2) := H
                have A15 := Aside0.mk A150
                clear A150
                by_cases c16 : 0 ≤ t269
                · rw [if_pos c16] at H
                  have c16b0 : decide (0 ≤ t269) = true := decide_eq_true c16
                  clear c16
                  by_cases c17 : t269 < ((⟨#[48, 49, 50, 51, 52, 53, 54, 55, 56, 57, 97, 98, 99, 100, 101, 102, 103, 104, 105, 106, 107, 108, 109, 110, 111, 112, 113, 114, 115, 116, 117, 118, 119, 120, 121, 122]⟩ : ByteArray).size : Int)
                  · rw [if_pos c17] at H
                    have c17b0 : decide (t269 < ((⟨#[48, 49, 50, 51, 52, 53, 54, 55, 56, 57, 97, 98, 99, 100, 101, 102, 103, 104, 105, 106, 107, 108, 109, 110, 111, 112, 113, 114, 115, 116, 117, 118, 119, 120, 121, 122]⟩ : ByteArray).size : Int)) = true := decide_eq_true c17
                    clear c17
                    obtain ⟨y272, hy272⟩ : ∃ y_ : List Int, y_ = (([bt (⟨#[48, 49, 50, 51, 52, 53, 54, 55, 56, 57, 97, 98, 99, 100, 101, 102, 103, 104, 105, 106, 107, 108, 109, 110, 111, 112, 113, 114, 115, 116, 117, 118, 119, 120, 121, 122]⟩ : ByteArray) t269] : List Int)) := ⟨_, rfl⟩
                    replace H : (if y272.length + x8_2.length < 140737488355328 then (triviumref06_In.l0 k2 a1 t268 (⟨#[48, 49, 50, 51, 52, 53, 54, 55, 56, 57, 97, 98, 99, 100, 101, 102, 103, 104, 105, 106, 107, 108, 109, 110, 111, 112, 113, 114, 115, 116, 117, 118, 119, 120, 121, 122]⟩ : ByteArray) (y272 ++ x8_2)) else (none)) = some (r1, r2) := by first | (rw [hy272]; with_reducible exact H) | (have H2_ := (Option.bind_some _ _).symm.trans H; rw [hy272]; with_reducible exact H2_) | (have H2_ := (Option.bind_some _ _).symm.trans H; with_reducible exact H2_) | with_reducible exact H | (rw [hy272]; exact H) | exact H
                    have Ny272 := Aside0.mk hy272
                    clear hy272
                    by_cases c19 : y272.length + x8_2.length < 140737488355328
                    · rw [if_pos c19] at H
                      have LMc19 := Aside0.mk c19
                      clear c19
                      obtain ⟨y275, hy275⟩ : ∃ y_ : List Int, y_ = (y272 ++ x8_2) := ⟨_, rfl⟩
                      replace H : (triviumref06_In.l0 k2 a1 t268 (⟨#[48, 49, 50, 51, 52, 53, 54, 55, 56, 57, 97, 98, 99, 100, 101, 102, 103, 104, 105, 106, 107, 108, 109, 110, 111, 112, 113, 114, 115, 116, 117, 118, 119, 120, 121, 122]⟩ : ByteArray) y275) = some (r1, r2) := by first | (rw [hy275]; with_reducible exact H) | (have H2_ := (Option.bind_some _ _).symm.trans H; rw [hy275]; with_reducible exact H2_) | (have H2_ := (Option.bind_some _ _).symm.trans H; with_reducible exact H2_) | with_reducible exact H | (rw [hy275]; exact H) | exact H
                      have Ny275 := Aside0.mk hy275
                      clear hy275
                      have H' := Aside0.mk H
                      clear H
                      obtain ⟨Ao20, co20, eo20⟩ := Kd.R_slice HO_6.out
                      subst eo20
                      go_wp2_with (first | ((with_reducible refine gate_callee (f := 84) rfl ?_); refine goesL_ (some 29) rfl rfl Tryd.func84 (by kernel_rfl) rfl #[.slice Ao20 x6_2.length co20, .int .i64 a1] rfl (by (try simp only [List.map_toArray, List.map_cons, List.map_nil]); first | done | rfl | (simp only [List.length_drop, List.length_take]; rfl)) ?_; (with_reducible refine (triviumref02_DivSmall.calls k2 _ _ x6_2 a1 t268 t269 _ ?side1 ?side2 A15.out).mono ?_); (case side1 => repeat (first | exact (Kd.R_reads' HO_6.out).2.2 | (with_reducible refine Kd.C_alloc ?_ _) | (with_reducible refine Kd.C_drewN ?_ _) | (with_reducible refine Kd.C_drew ?_))); (case side2 => exact (Kd.R_reads' HO_6.out).2.1); rintro e w21 ⟨v270, rfl, ho0, hb⟩; refine ⟨_, rfl, ?_⟩; have n0_ := Aside0.mk (Kd.R_elder' (by (with_reducible repeat (first | apply Kd.R_alloc | apply Kd.R_drewN | apply Kd.R_drew)); exact HO_6.out) (Kd.R_base ho0) hb); have n1_ := Aside0.mk (Kd.R_below (by (with_reducible repeat (first | apply Kd.R_alloc | apply Kd.R_drewN | apply Kd.R_drew)); exact HO_8.out) hb); have n2_ := Aside0.mk (Kd.R_lower (Kd.R_new' ho0 (Kd.R_lt (by (with_reducible repeat (first | apply Kd.R_alloc | apply Kd.R_drewN | apply Kd.R_drew)); exact HO_6.out))) (below_size (by repeat (first | (with_reducible first | exact HB.out | apply below_alloc | apply pw_below_drewN | apply below_drew1) | exact HB.out)))); have n3_ := Aside0.mk (below_step (by repeat (first | (with_reducible first | exact HB.out | apply below_alloc | apply pw_below_drewN | apply below_drew1) | exact HB.out)) hb); clear HO_6; clear HO_8; clear HB; have HO_6 := n0_; have HO_8 := n1_; have HO271 := n2_; have HB := n3_; clear n0_ n1_ n2_ n3_; (try clear hb); (try clear hb2); (try clear hk); (try clear hi); (try clear ho0); have p18 : 0 ≤ (t269 : Int) := of_decide_eq_true (by first | (with_reducible assumption) | assumption); have q18 : t269 < (36 : Int) := of_decide_eq_true (by first | (with_reducible assumption) | assumption); have hx18 := bt_at (⟨#[48, 49, 50, 51, 52, 53, 54, 55, 56, 57, 97, 98, 99, 100, 101, 102, 103, 104, 105, 106, 107, 108, 109, 110, 111, 112, 113, 114, 115, 116, 117, 118, 119, 120, 121, 122]⟩ : ByteArray) t269; replace p18 := eq_true p18; replace q18 := eq_true q18) | ((with_reducible refine gate_dst (N := 35) rfl ?_); refine Kd.R_lit (Kd.int .u8) _ 5 ?hg (N := 35) ?hd (xs := ([bt (⟨#[48, 49, 50, 51, 52, 53, 54, 55, 56, 57, 97, 98, 99, 100, 101, 102, 103, 104, 105, 106, 107, 108, 109, 110, 111, 112, 113, 114, 115, 116, 117, 118, 119, 120, 121, 122]⟩ : ByteArray) t269] : List Int)) (inner := [.int .u8 (bt (⟨#[48, 49, 50, 51, 52, 53, 54, 55, 56, 57, 97, 98, 99, 100, 101, 102, 103, 104, 105, 106, 107, 108, 109, 110, 111, 112, 113, 114, 115, 116, 117, 118, 119, 120, 121, 122]⟩ : ByteArray) t269)]) (ok := fun _ => True) (okp := fun _ => True) ?hr ?hp (fun _ hk => hk) trivial (Below.refl _ _) (Nat.le_refl _) (by simp) ?_; (case hd => rfl); (case hg => rfl); (case hr => first | (go_simp; done) | (go_simp; rfl)); (case hp => exact (Reps.one (show Kd.M (Kd.int .u8) _ _ _ (bt (⟨#[48, 49, 50, 51, 52, 53, 54, 55, 56, 57, 97, 98, 99, 100, 101, 102, 103, 104, 105, 106, 107, 108, 109, 110, 111, 112, 113, 114, 115, 116, 117, 118, 119, 120, 121, 122]⟩ : ByteArray) t269) [.int .u8 (bt (⟨#[48, 49, 50, 51, 52, 53, 54, 55, 56, 57, 97, 98, 99, 100, 101, 102, 103, 104, 105, 106, 107, 108, 109, 110, 111, 112, 113, 114, 115, 116, 117, 118, 119, 120, 121, 122]⟩ : ByteArray) t269)] from rfl) (Reps.none _ _))); intro v273 w22 ho23 hb hg_ hnew_; clear hg_ hnew_; (first | rw [← Ny272.out] at ho23 | (simp only [Int.reduceToNat] at ho23; rw [← Ny272.out] at ho23)); have n0_ := Aside0.mk (Kd.R_below (by (with_reducible repeat (first | apply Kd.R_alloc | apply Kd.R_drewN | apply Kd.R_drew)); exact HO_6.out) hb); have n1_ := Aside0.mk (Kd.R_elder' (by (with_reducible repeat (first | apply Kd.R_alloc | apply Kd.R_drewN | apply Kd.R_drew)); exact HO_8.out) (Kd.R_base ho23) hb); have n2_ := Aside0.mk (Kd.R_below (by (with_reducible repeat (first | apply Kd.R_alloc | apply Kd.R_drewN | apply Kd.R_drew)); exact HO271.out) hb); have n3_ := Aside0.mk (Kd.R_lower (Kd.R_new' ho23 (Kd.R_lt (by (with_reducible repeat (first | apply Kd.R_alloc | apply Kd.R_drewN | apply Kd.R_drew)); exact HO_8.out))) (below_size (by repeat (first | (with_reducible first | exact HB.out | apply below_alloc | apply pw_below_drewN | apply below_drew1) | exact HB.out)))); have n4_ := Aside0.mk (below_step (by repeat (first | (with_reducible first | exact HB.out | apply below_alloc | apply pw_below_drewN | apply below_drew1) | exact HB.out)) hb); clear HO_6; clear HO_8; clear HO271; clear HB; have HO_6 := n0_; have HO_8 := n1_; have HO271 := n2_; have HO274 := n3_; have HB := n4_; clear n0_ n1_ n2_ n3_ n4_; clear hb ho23; obtain ⟨Ao25, co25, eo25⟩ := Kd.R_slice HO_8.out; subst eo25) | ((with_reducible refine gate_builtin (b := .append) (xs := #[.tmp 35, .tmp 36]) rfl ?_); at_builtin; refine Kd.R_append_rows (Kd.int .u8) (w0 := w) w.heap.size rfl (.tmp 35) (.tmp 36) 110 5 (.int .u8 0) 1 rfl Tryd.underlying110 info5 rfl (by decide) (by omega) v273 y272 x8_2 _ _ _ (fun k_ => some k_ ≠ (.slice Ao25 x8_2.length co25 : Value).ownBlock) (fun _ => False) rfl rfl ?aO ?aR (fun _ _ h => h) (fun _ h => h.elim) ?aF ?aB ?aS ?aL ?_; (case aR => repeat (first | exact (Kd.R_reads' HO_8.out).2.2 | (with_reducible refine Kd.C_alloc ?_ _) | (with_reducible refine Kd.C_drewN ?_ _) | (with_reducible refine Kd.C_drew ?_))); (case aB => exact (by repeat (first | (with_reducible first | exact HB.out | apply below_alloc | apply pw_below_drewN | apply below_drew1) | exact HB.out))); (case aF => exact (fun k_ hk => Kd.fresh' (Kd.R_lt (by (with_reducible repeat (first | apply Kd.R_alloc | apply Kd.R_drewN | apply Kd.R_drew)); exact HO_8.out)) k_ hk)); (case aO => exact (by (with_reducible repeat (first | apply Kd.R_alloc | apply Kd.R_drewN | apply Kd.R_drew)); exact Kd.R_mono HO274.out (fun _ hk => hk.2))); (case aS => exact (below_size (by repeat (first | (with_reducible first | exact HB.out | apply below_alloc | apply pw_below_drewN | apply below_drew1) | exact HB.out)))); (case aL => have := LMc19.out; omega); intro v276 w24 ho hb hg hat; rw [← Ny275.out] at ho; have n0_ := Aside0.mk (Kd.R_over' (by (with_reducible repeat (first | apply Kd.R_alloc | apply Kd.R_drewN | apply Kd.R_drew)); exact HO_6.out) (Kd.R_typed (by (with_reducible repeat (first | apply Kd.R_alloc | apply Kd.R_drewN | apply Kd.R_drew)); exact HO274.out)) (by decide) hg); have n1_ := Aside0.mk (Kd.R_after (ok := (fun _ => True)) (by (with_reducible repeat (first | apply Kd.R_alloc | apply Kd.R_drewN | apply Kd.R_drew)); exact HO_8.out) hg hat); have n2_ := Aside0.mk (Kd.R_over' (by (with_reducible repeat (first | apply Kd.R_alloc | apply Kd.R_drewN | apply Kd.R_drew)); exact HO271.out) (Kd.R_typed (by (with_reducible repeat (first | apply Kd.R_alloc | apply Kd.R_drewN | apply Kd.R_drew)); exact HO274.out)) (by decide) hg); have n3_ := Aside0.mk (hb); have n4_ := Aside0.mk (ho); clear HO_6; clear HO_8; clear HO271; clear HB; clear HO274; have HO_6 := n0_; have HO_8 := n1_; have HO271 := n2_; have HB := n3_; have HO277 := n4_; clear n0_ n1_ n2_ n3_ n4_; clear ho hb hg hat))
                      go_roundg k2
                      case measure => have := HJ2.out; have := HK2.out; omega
                      case rel => exact ⟨(t268), (y275), H', ⟨by have := HJ2.out; have := HK2.out; omega⟩, ⟨by (with_reducible repeat (first | apply Kd.R_alloc | apply Kd.R_drewN | apply Kd.R_drew)); exact Kd.R_mono HO271.out (fun _ hk => trivial)⟩, ⟨by (with_reducible repeat (first | apply Kd.R_alloc | apply Kd.R_drewN | apply Kd.R_drew)); exact Kd.R_mono HO277.out (fun _ hk => trivial)⟩, ⟨by repeat (first | (with_reducible first | exact HB.out | apply below_alloc | apply pw_below_drewN | apply below_drew1) | exact HB.out)⟩⟩
                    · rw [if_neg c19] at H
                      exact absurd H (by simp)
                  · rw [if_neg c17] at H
                    exact absurd H (by simp)
                · rw [if_neg c16] at H
                  exact absurd H (by simp)
              · rw [if_neg c14] at H
                have c14b0 : decide (0 < (x6_2.length : Int)) = false := decide_eq_false c14
                have c14b1 : decide (0 < x6_2.length) = false := decide_eq_false (by omega)
                clear c14
                simp only [Option.some.injEq, Prod.mk.injEq] at H
                obtain ⟨rfl, rfl⟩ := H
                obtain ⟨Ao26, co26, eo26⟩ := Kd.R_slice HO_6.out
                subst eo26
                have hcv27 := own_string (P := Tryd.prog) Tryd.underlying110 Tryd.underlying5 Tryd.underlying9 (Kd.own_of_R HO_8.out)
                go_wp2
                go_ret2
                exact ⟨by first | rfl | (simp only [u32_w, u64_u32, i64_u32]; rfl) | (simp [errW_none, errW_some] <;> rfl) | (simp [*, errW_none, errW_some] <;> rfl), by repeat (first | (with_reducible first | exact HB.out | apply below_alloc | apply pw_below_drewN | apply below_drew1) | exact HB.out)⟩

end Go.Proofs.YthcmjcjgaebciaaDoor.T
/- Digits told by any base: the program's way and the document's. -/
namespace Go.Proofs.YthcmjcjgaebciaaDoor.T
open Go.RowKit Go.Proofs.YthcmjcjgaebciaaDoorW.PrintWords Go.Proofs.YthcmjcjgaebciaaDoorW.PrintLast Go.Proofs.YthcmjcjgaebciaaDoorW.PrintMore Go.Proofs.YthcmjcjgaebciaaDoor.Tri

theorem or_limb (h l : Int) (h0 : 0 ≤ h) (h1 : h < 4294967296) (l0 : 0 ≤ l) (l1 : l < 4294967296) : Go.bits .or .u64 (h * 4294967296) l = h * 4294967296 + l := by
  rw [u64_or _ _ (by omega) (by omega) l0 (by omega), nat_join 32 _ _ (by omega) (by omega)]
  omega
theorem limbDiv_val (h l d : Int) (hh : 0 ≤ h ∧ h < d) (hl : 0 ≤ l ∧ l < 4294967296) (hd : 0 < d ∧ d < 4294967296) : limb_Div.f h l d = some ((h * 4294967296 + l) / d, (h * 4294967296 + l) % d, 0) := by
  unfold limb_Div.f
  obtain ⟨h0, h1⟩ := hh
  obtain ⟨l0, l1⟩ := hl
  obtain ⟨d0, d1⟩ := hd
  rw [and_low h h0 (by omega), and_low l l0 (by omega), and_low d (by omega) (by omega), Int.emod_eq_of_lt h0 (by omega), Int.emod_eq_of_lt l0 l1, Int.emod_eq_of_lt (by omega) d1, u64' (x := h * 4294967296) (by omega) (by omega), or_limb h l h0 (by omega) l0 l1, tdiv_pos (by omega), tmod_pos (by omega)]
  have hq0 : 0 ≤ (h * 4294967296 + l) / d := Int.ediv_nonneg (by omega) (by omega)
  have hq1 : (h * 4294967296 + l) / d ≤ h * 4294967296 + l := Int.ediv_le_self _ (by omega)
  rw [u64' hq0 (by omega), if_neg (by omega), if_neg (by omega)]
theorem divS_loop (n : Nat) : ∀ (a b z q : List Int) (d r : Int), a.length = n → Dig 4294967296 (a ++ b) → Dig 4294967296 q → z.length = a.length → q.length = b.length → 0 < d → d < 4294967296 → 0 ≤ r → r < d → dv 4294967296 b = dv 4294967296 q * d + r → (a ++ b).length ≤ 1000000000 →
    ∃ t s, Dig 4294967296 t ∧ dv 4294967296 (a ++ b) = dv 4294967296 t * d + s ∧ 0 ≤ s ∧ s < d ∧ t.length = (a ++ b).length ∧ Ev (fun k => divide_Small.l0 k (a ++ b) d (z ++ q) r (((a ++ b).length : Nat) : Int) (b.length : Int)) (trimz t, s, (0 : Int)) := by
  induction n with
  | zero =>
    intro a b z q d r hn hd hq hz hql hd0 hd1 hr0 hr1 hv hl
    obtain rfl : a = [] := List.eq_nil_of_length_eq_zero hn
    obtain rfl : z = [] := List.eq_nil_of_length_eq_zero hz
    refine ⟨q, r, hq, hv, hr0, hr1, hql, ?_⟩
    refine evStep (g := fun k => (nat_Make.f k q).bind fun t => some (t.1, r, (0 : Int))) (Ev.bind (make_ev q hq (by simp at hl; omega)) (Ev.now _)) fun k => ?_
    simp only [divide_Small.l0]
    rw [if_neg (by simp)]
    rfl
  | succ n ih =>
    intro a b z q d r hn hd hq hz hql hd0 hd1 hr0 hr1 hv hl
    obtain ⟨c, y, rfl⟩ := eq_snoc (l := a) (by rintro rfl; simp at hn)
    obtain ⟨z1, z0, rfl⟩ := eq_snoc (l := z) (by rintro rfl; simp at hz)
    have hy := hd.left.right.head
    simp only [List.length_append, List.length_cons, List.length_nil, Nat.zero_add] at hn hl hz
    have e : c ++ [y] ++ b = c ++ y :: b := by simp
    have hx0 : 0 ≤ r * 4294967296 + y := by omega
    have hx1 : r * 4294967296 + y < 4294967296 * d := by omega
    have hq0 : 0 ≤ (r * 4294967296 + y) / d ∧ (r * 4294967296 + y) / d < 4294967296 := ⟨Int.ediv_nonneg hx0 (by omega), Int.ediv_lt_of_lt_mul hd0 hx1⟩
    have hm0 := Int.emod_nonneg (r * 4294967296 + y) (show d ≠ 0 by omega)
    have hm1 := Int.emod_lt_of_pos (r * 4294967296 + y) hd0
    have hdm := Int.mul_ediv_add_emod (r * 4294967296 + y) d
    obtain ⟨t, s, h1, h2, h3, h4, h5, h6⟩ := ih c (y :: b) z1 ((r * 4294967296 + y) / d :: q) d ((r * 4294967296 + y) % d) (by omega) (by rw [← e]; exact hd) (Dig.cons hq0 hq) (by omega) (by simp; omega) hd0 hd1 hm0 hm1 (by
      rw [dv_cons, dv_cons, hv]
      generalize (r * 4294967296 + y) / d = u at hdm
      generalize (r * 4294967296 + y) % d = v at hdm
      have : y = d * u + v - r * 4294967296 := by omega
      subst this
      grind) (by simp; omega)
    refine ⟨t, s, h1, by rw [e]; exact h2, h3, h4, by rw [e]; exact h5, ?_⟩
    have hr : rd (c ++ y :: b) (c.length : Int) = y := rd_at c b y _ rfl
    have hlen : (c ++ y :: b).length = c.length + b.length + 1 := by simp; omega
    have w : wrap64 ((wrap64 ((((c ++ y :: b).length : Nat) : Int) - 1)) - (b.length : Int)) = (c.length : Int) := by
      rw [hlen, w64' (x := ((c.length + b.length + 1 : Nat) : Int) - 1) (by omega) (by omega), w64' (by omega) (by omega)]; omega
    have w2 : wrap64 ((b.length : Int) + 1) = (((y :: b).length : Nat) : Int) := by rw [w64' (by omega) (by omega)]; simp
    have es : (z1 ++ [z0] ++ q).set ((c.length : Int)).toNat ((r * 4294967296 + y) / d) = z1 ++ (r * 4294967296 + y) / d :: q := by
      have : c.length = z1.length := by omega
      rw [Int.toNat_natCast, this]; simp
    refine evStep h6 fun k => ?_
    conv => lhs; unfold divide_Small.l0
    rw [e, w, hr, limbDiv_val r y d ⟨hr0, hr1⟩ hy ⟨hd0, hd1⟩, if_pos (by rw [hlen]; omega), if_pos (by omega), if_pos (by rw [hlen]; omega)]
    simp only [Option.bind_some]
    rw [if_pos (by simp; omega), es, w2]
theorem divS_ev (a : List Int) (d : Int) (ha : Dig 4294967296 a) (hd0 : 0 < d) (hd1 : d < 4294967296) (hl : a.length ≤ 1000000000) :
    ∃ t, Tri.Can 4294967296 t ∧ dv 4294967296 t = dv 4294967296 a / d ∧ t.length ≤ a.length ∧ Ev (fun k => divide_Small.f k a d) (t, dv 4294967296 a % d, (0 : Int)) := by
  obtain ⟨t, s, h1, h2, h3, h4, h5, h6⟩ := divS_loop a.length a [] (List.replicate a.length 0) [] d 0 rfl (by rw [List.append_nil]; exact ha) (Dig.nil _) (by simp) rfl hd0 hd1 (by omega) hd0 (by simp [dv]) (by rw [List.append_nil]; exact hl)
  rw [List.append_nil] at *
  have hs : dv 4294967296 a % d = s := by
    rw [h2, Int.add_comm, Int.add_mul_emod_self_right, Int.emod_eq_of_lt h3 h4]
  have hq : dv 4294967296 a / d = dv 4294967296 t := by
    rw [h2, Int.add_comm, Int.add_mul_ediv_right _ _ (by omega), Int.ediv_eq_zero_of_lt h3 h4, Int.zero_add]
  refine ⟨trimz t, trimz_can h1, by rw [trimz_dv, hq], by have := trimz_length t; omega, ?_⟩
  rw [hs]
  refine evSame h6 fun k => ?_
  unfold divide_Small.f
  rw [tmod_pos (by omega), Int.emod_eq_of_lt (by omega) hd1, if_neg (by omega), if_pos (by omega), if_pos (by omega), Int.toNat_natCast, List.append_nil]
  rfl
/-- the greatest power that is a limb -/
theorem chunk_loop (base : Int) (hb0 : 2 ≤ base) (hb1 : base ≤ 36) (m : Nat) : ∀ n : Nat, 1 ≤ n → 32 ≤ n + m → base ^ n < 4294967296 → ∃ N : Nat, 1 ≤ N ∧ N ≤ 32 ∧ base ^ N < 4294967296 ∧ Ev (fun k => digits_chunk.l0 k base (base ^ n) (n : Int)) (base ^ N, (N : Int)) := by
  have two : ∀ n : Nat, (2 : Int) ^ n ≤ base ^ n := by
    intro n
    induction n with
    | zero => simp
    | succ n ih =>
      rw [Int.pow_succ, Int.pow_succ]
      have h1 : (0 : Int) ≤ 2 ^ n := Int.le_of_lt (Int.pow_pos (by decide))
      have h2 : 2 ^ n * 2 ≤ base ^ n * 2 := Int.mul_le_mul_of_nonneg_right ih (by omega)
      have h3 : base ^ n * 2 ≤ base ^ n * base := Int.mul_le_mul_of_nonneg_left hb0 (by omega)
      omega
  have small : ∀ n : Nat, base ^ n < 4294967296 → n ≤ 31 := by
    intro n hn
    apply Classical.byContradiction
    intro z
    have h1 := two n
    have h2 := pow_mono (B := 2) (by decide) (show 32 ≤ n by omega)
    have h3 : (2 : Int) ^ 32 = 4294967296 := by decide
    omega
  induction m with
  | zero =>
    intro n _ h2 h3
    have := small n h3
    omega
  | succ m ih =>
    intro n h1 h2 h3
    have hs := small n h3
    have hub : IntKind.u64.wrap base = base := u64' (by omega) (by omega)
    have hp0 : 0 < base ^ n := Int.pow_pos (by omega)
    have hpb : base ^ n * base ≤ 4294967296 * 36 := by
      have h4 : base ^ n * base ≤ 4294967296 * base := Int.mul_le_mul_of_nonneg_right (by omega) (by omega)
      omega
    have hpb0 : 0 ≤ base ^ n * base := Int.mul_nonneg (by omega) (by omega)
    have w : wrap64 ((n : Int) + 1) = ((n + 1 : Nat) : Int) := by rw [w64' (by omega) (by omega)]; omega
    by_cases hbig : base ^ n * base < 4294967296
    · obtain ⟨N, g1, g2, g3, g4⟩ := ih (n + 1) (by omega) (by omega) (by rw [Int.pow_succ]; exact hbig)
      refine ⟨N, g1, g2, g3, evStep g4 fun k => ?_⟩
      conv => lhs; unfold digits_chunk.l0
      rw [hub, u64' hpb0 (by omega), if_pos hbig, w, Int.pow_succ]
    · refine ⟨n, h1, by omega, h3, evStep (Ev.now _) fun k => ?_⟩
      simp only [digits_chunk.l0]
      rw [hub, u64' hpb0 (by omega), if_neg hbig]
theorem chunk_ev (base : Int) (hb0 : 2 ≤ base) (hb1 : base ≤ 36) : ∃ N : Nat, 1 ≤ N ∧ N ≤ 32 ∧ base ^ N < 4294967296 ∧ Ev (fun k => digits_chunk.f k base) (base ^ N, (N : Int)) := by
  have e1 : base ^ 1 = base := by rw [Int.pow_succ, Int.pow_zero, Int.one_mul]
  obtain ⟨N, h1, h2, h3, h4⟩ := chunk_loop base hb0 hb1 32 1 (by omega) (by omega) (by rw [e1]; omega)
  refine ⟨N, h1, h2, h3, evSame h4 fun k => ?_⟩
  unfold digits_chunk.f
  rw [u64' (by omega) (by omega), e1]
  rfl
/-- so many digits, the lowest first -/
def digsN (base : Int) : Nat → Int → List Int
  | 0, _ => []
  | n + 1, r => r % base :: digsN base n (r / base)
theorem digsN_length (base : Int) (n : Nat) : ∀ r, (digsN base n r).length = n := by
  induction n with
  | zero => intro r; rfl
  | succ n ih => intro r; simp [digsN, ih]
theorem digsN_dig (base : Int) (hb : 0 < base) (n : Nat) : ∀ r, Dig base (digsN base n r) := by
  induction n with
  | zero => intro r; exact Dig.nil _
  | succ n ih => intro r; exact Dig.cons ⟨Int.emod_nonneg _ (by omega), Int.emod_lt_of_pos _ hb⟩ (ih _)
theorem digsN_dv (base : Int) (hb : 0 < base) (n : Nat) : ∀ r, 0 ≤ r → r < base ^ n → dv base (digsN base n r) = r := by
  induction n with
  | zero => intro r h0 h1; simp at h1; simp [digsN, dv]; omega
  | succ n ih =>
    intro r h0 h1
    unfold digsN
    rw [dv_cons, ih (r / base) (Int.ediv_nonneg h0 (by omega)) (Int.ediv_lt_of_lt_mul hb (by rw [Int.pow_succ] at h1; exact h1))]
    have := Int.mul_ediv_add_emod r base
    omega
/-- a digit's sign -/
def sgn (d : Int) : UInt8 := alpha.getD d.toNat 0
/-- the text of digits, the lowest first -/
def txt (D : List Int) : List UInt8 := D.reverse.map sgn
theorem txt_append (a b : List Int) : txt (a ++ b) = txt b ++ txt a := by simp [txt]
theorem sgn_all : (List.range 36).all (fun n => decide ((sgn (n : Int) = 48) ↔ n = 0) && decide (valD (sgn (n : Int)) = (n : Int)) && decide ((sgn (n : Int)).toNat < 128)) = true := by kernel_rfl
theorem sgn_spec (d : Int) (h0 : 0 ≤ d) (h1 : d < 36) : (sgn d = 48 ↔ d = 0) ∧ valD (sgn d) = d ∧ (sgn d).toNat < 128 := by
  obtain ⟨n, rfl⟩ := Int.eq_ofNat_of_zero_le h0
  have h := (List.all_eq_true.1 sgn_all) n (List.mem_range.2 (by omega))
  simp only [Bool.and_eq_true, decide_eq_true_eq] at h
  obtain ⟨⟨a, b⟩, c⟩ := h
  refine ⟨?_, b, c⟩
  rw [a]; omega
theorem trimLeft_txt (base : Int) (hb : base ≤ 36) (D : List Int) (hD : Dig base D) : Lib.trimLeftB (txt D) 48 = txt (trimz D) := by
  induction hn : D.length generalizing D with
  | zero =>
    obtain rfl := List.eq_nil_of_length_eq_zero hn
    rfl
  | succ n ih =>
    obtain ⟨c, x, rfl⟩ := eq_snoc (l := D) (by rintro rfl; simp at hn)
    have hx := hD.right.head
    obtain ⟨s1, _, _⟩ := sgn_spec x hx.1 (by omega)
    have e : txt (c ++ [x]) = sgn x :: txt c := by simp [txt]
    by_cases h : x = 0
    · subst h
      rw [trimz_snoc_zero, e, ← ih c hD.left (by simpa using hn)]
      have : sgn 0 = 48 := s1.2 rfl
      rw [this]
      simp [Lib.trimLeftB]
    · rw [trimz_of_top (Top.snoc.2 h), e]
      have : sgn x ≠ 48 := fun z => h (s1.1 z)
      simp [Lib.trimLeftB, this]
theorem bt_alpha (d : Int) (h0 : 0 ≤ d) (h1 : d < 36) : bt (⟨#[48, 49, 50, 51, 52, 53, 54, 55, 56, 57, 97, 98, 99, 100, 101, 102, 103, 104, 105, 106, 107, 108, 109, 110, 111, 112, 113, 114, 115, 116, 117, 118, 119, 120, 121, 122]⟩ : ByteArray) d = ((sgn d).toNat : Int) := by
  obtain ⟨n, rfl⟩ := Int.eq_ofNat_of_zero_le h0
  have h := (List.all_eq_true.1 (show (List.range 36).all (fun n => decide (bt (⟨#[48, 49, 50, 51, 52, 53, 54, 55, 56, 57, 97, 98, 99, 100, 101, 102, 103, 104, 105, 106, 107, 108, 109, 110, 111, 112, 113, 114, 115, 116, 117, 118, 119, 120, 121, 122]⟩ : ByteArray) (n : Int) = ((sgn (n : Int)).toNat : Int))) = true by kernel_rfl)) n (List.mem_range.2 (by omega))
  exact of_decide_eq_true h
/-- signs as numbers -/
def sgns (D : List Int) : List Int := D.reverse.map fun d => ((sgn d).toNat : Int)
theorem sgns_txt (D : List Int) : strOfNums (sgns D) = ⟨(txt D).toArray⟩ := by
  unfold strOfNums sgns txt
  rw [List.map_map]
  congr 2
  apply List.map_congr_left
  intro d _
  simp
theorem sgns_length (D : List Int) : (sgns D).length = D.length := by simp [sgns]
theorem sgns_snoc (D : List Int) (x : Int) : sgns (D ++ [x]) = ((sgn x).toNat : Int) :: sgns D := by simp [sgns]
theorem sgns_append (a b : List Int) : sgns (a ++ b) = sgns b ++ sgns a := by simp [sgns]
theorem piece_loop (base : Int) (hb0 : 2 ≤ base) (hb1 : base ≤ 36) (m : Nat) : ∀ (x : Int) (z D : List Int) (N : Nat), 0 ≤ x → x < 18446744073709551616 → z.length = m → D.length + m = N → N ≤ 32 →
    Ev (fun k => digits_piece.l0 k x base (N : Int) (z ++ sgns D) (N : Int) (D.length : Int)) (⟨(txt (D ++ digsN base m x)).toArray⟩ : ByteArray) := by
  induction m with
  | zero =>
    intro x z D N _ _ hz hl hN
    obtain rfl := List.eq_nil_of_length_eq_zero hz
    refine evStep (Ev.now _) fun k => ?_
    simp only [digits_piece.l0]
    rw [if_neg (by omega), List.nil_append, sgns_txt]
    simp [digsN]
  | succ m ih =>
    intro x z D N h0 h1 hz hl hN
    obtain ⟨z1, z0, rfl⟩ := eq_snoc (l := z) (by rintro rfl; simp at hz)
    simp only [List.length_append, List.length_cons, List.length_nil, Nat.zero_add] at hz
    have hub : IntKind.u64.wrap base = base := u64' (by omega) (by omega)
    have hm0 := Int.emod_nonneg x (show base ≠ 0 by omega)
    have hm1 := Int.emod_lt_of_pos x (show 0 < base by omega)
    have hd0 : 0 ≤ x / base := Int.ediv_nonneg h0 (by omega)
    have hd1 : x / base ≤ x := Int.ediv_le_self _ h0
    have := ih (x / base) z1 (D ++ [x % base]) N hd0 (by omega) (by omega) (by simp; omega) hN
    have e : D ++ [x % base] ++ digsN base m (x / base) = D ++ digsN base (m + 1) x := by simp [digsN]
    rw [e] at this
    refine evStep this fun k => ?_
    have w : wrap64 ((wrap64 ((N : Int) - 1)) - (D.length : Int)) = (m : Int) := by
      rw [w64' (x := (N : Int) - 1) (by omega) (by omega), w64' (by omega) (by omega)]; omega
    have w2 : wrap64 ((D.length : Int) + 1) = (((D ++ [x % base]).length : Nat) : Int) := by rw [w64' (by omega) (by omega)]; simp
    have es : (z1 ++ [z0] ++ sgns D).set ((m : Int)).toNat (((sgn (x % base)).toNat : Int)) = z1 ++ sgns (D ++ [x % base]) := by
      have : m = z1.length := by omega
      rw [Int.toNat_natCast, this, sgns_snoc]; simp
    conv => lhs; unfold digits_piece.l0
    rw [hub, tmod_pos h0, tdiv_pos h0, w, u64' hd0 (by omega), bt_alpha _ hm0 (by omega), es, w2, if_pos (by omega), if_neg (by omega), if_pos hm0, if_pos (by omega), if_pos (by omega), if_pos (by simp; omega)]
theorem piece_ev (base x : Int) (N : Nat) (hb0 : 2 ≤ base) (hb1 : base ≤ 36) (h0 : 0 ≤ x) (h1 : x < 18446744073709551616) (hN : N ≤ 32) : Ev (fun k => digits_piece.f k x base (N : Int)) (⟨(txt (digsN base N x)).toArray⟩ : ByteArray) := by
  have := piece_loop base hb0 hb1 N x (List.replicate N 0) [] N h0 h1 (by simp) (by simp) hN
  refine evSame this fun k => ?_
  unfold digits_piece.f
  rw [if_pos (by omega), if_pos (by omega), Int.toNat_natCast]
  simp [sgns]
end Go.Proofs.YthcmjcjgaebciaaDoor.T
/- A number's digits by any base: the same text by both ways. -/
namespace Go.Proofs.YthcmjcjgaebciaaDoor.T
open Go.RowKit Go.Proofs.YthcmjcjgaebciaaDoorW.PrintWords Go.Proofs.YthcmjcjgaebciaaDoorW.PrintLast Go.Proofs.YthcmjcjgaebciaaDoorW.PrintMore Go.Proofs.YthcmjcjgaebciaaDoor.Tri

/-- the text of a number's digits -/
def inD (base v : Int) (r : ByteArray × Int) : Prop :=
  if 2 ≤ base ∧ base ≤ 36 then (∃ E, Tri.Can base E ∧ dv base E = v ∧ r = (if E = [] then (⟨#[48]⟩ : ByteArray) else ⟨(txt E).toArray⟩, 0)) else r = (⟨#[]⟩, 2)
theorem inD.uniq {base v : Int} {r q : ByteArray × Int} (h : inD base v r) (k : inD base v q) : r = q := by
  unfold inD at h k
  by_cases hb : 2 ≤ base ∧ base ≤ 36
  · rw [if_pos hb] at h k
    obtain ⟨E, h1, h2, h3⟩ := h
    obtain ⟨F, k1, k2, k3⟩ := k
    have : E = F := Can.inj (by omega) h1 k1 (h2.trans k2.symm)
    subst this
    rw [h3, k3]
  · rw [if_neg hb] at h k
    rw [h, k]
theorem inD_ok {base v : Int} (hb : 2 ≤ base ∧ base ≤ 36) (E : List Int) (h1 : Tri.Can base E) (h2 : dv base E = v) : inD base v (if E = [] then (⟨#[48]⟩ : ByteArray) else ⟨(txt E).toArray⟩, 0) := by
  unfold inD; rw [if_pos hb]; exact ⟨E, h1, h2, rfl⟩
theorem inD_bad {base v : Int} (hb : ¬ (2 ≤ base ∧ base ≤ 36)) : inD base v (⟨#[]⟩, 2) := by
  unfold inD; rw [if_neg hb]
/-- a text of signs -/
def txb (D : List Int) : ByteArray := ⟨(txt D).toArray⟩
theorem txb_append (a b : List Int) : txb b ++ txb a = txb (a ++ b) := by
  have e : ∀ x y : ByteArray, x.data.toList = y.data.toList → x = y := by
    intro x y h
    obtain ⟨⟨l⟩⟩ := x
    obtain ⟨⟨m⟩⟩ := y
    have : l = m := h
    rw [this]
  apply e
  simp [txb, txt]
theorem txb_size (D : List Int) : (txb D).size = D.length := by simp [txb, ByteArray.size, txt]
theorem txt_nil_iff (D : List Int) : txt D = [] ↔ D = [] := by simp [txt]
theorem l1_ev (base : Int) (hb : 2 ≤ base ∧ base ≤ 36) (n : Nat) : ∀ (A B : List (List Int)), A.length = n → (∀ D ∈ A ++ B, Dig base D) → (A ++ B).flatten.length ≤ 100000000000 → (A ++ B).length ≤ 1000000000 →
    ∃ r, inD base (dv base (A ++ B).flatten) r ∧ Ev (fun k => digits_In.l1 k ((A ++ B).map txb) (txb B.flatten) ((((A ++ B).map txb).length : Nat) : Int) (B.length : Int)) r := by
  induction n with
  | zero =>
    intro A B hn hd hl _
    obtain rfl := List.eq_nil_of_length_eq_zero hn
    rw [List.nil_append] at *
    have hD : Dig base B.flatten := by
      intro x hx
      obtain ⟨D, h1, h2⟩ := List.mem_flatten.1 hx
      exact hd D h1 x h2
    refine ⟨_, inD_ok hb (trimz B.flatten) (trimz_can hD) (trimz_dv _ _), evStep (Ev.now _) fun k => ?_⟩
    simp only [digits_In.l1]
    rw [if_neg (by simp)]
    have e1 : strings_TrimLeft.f (txb B.flatten) (⟨#[48]⟩ : ByteArray) = some (txb (trimz B.flatten)) := by
      have e2 : (⟨#[48]⟩ : ByteArray).data.toList = [48] := rfl
      have e3 : (txb B.flatten).data.toList = txt B.flatten := by simp [txb]
      unfold strings_TrimLeft.f
      rw [e2, e3]
      dsimp only
      rw [trimLeft_txt base hb.2 _ hD]
      rfl
    rw [e1]
    simp only [Option.bind_some]
    have e4 : (txb (trimz B.flatten)).toList = [] ↔ trimz B.flatten = [] := by
      rw [ByteArray.toList_eq, ← txt_nil_iff]
      simp [txb]
    by_cases h : trimz B.flatten = []
    · rw [if_pos (e4.2 h), if_pos h]
    · rw [if_neg (fun z => h (e4.1 z)), if_neg h]; rfl
  | succ n ih =>
    intro A B hn hd hl hl2
    obtain ⟨C, D, rfl⟩ := eq_snoc (l := A) (by rintro rfl; simp at hn)
    have e : C ++ [D] ++ B = C ++ D :: B := by simp
    rw [e] at hl hl2 ⊢
    obtain ⟨r, h1, h2⟩ := ih C (D :: B) (by simpa using hn) (fun E hE => hd E (by simpa using hE)) hl hl2
    refine ⟨r, h1, evStep h2 fun k => ?_⟩
    have hlen : ((C ++ D :: B).map txb).length = C.length + B.length + 1 := by simp; omega
    have hl3 : C.length + B.length + 1 ≤ 1000000000 := by simp at hl2; omega
    have w : wrap64 ((wrap64 (((((C ++ D :: B).map txb).length : Nat) : Int) - 1)) - (B.length : Int)) = (C.length : Int) := by
      rw [hlen, w64' (x := ((C.length + B.length + 1 : Nat) : Int) - 1) (by omega) (by omega), w64' (by omega) (by omega)]; omega
    have w2 : wrap64 ((B.length : Int) + 1) = (((D :: B).length : Nat) : Int) := by rw [w64' (by omega) (by omega)]; simp
    have hr : rdOf ByteArray.empty ((C ++ D :: B).map txb) (C.length : Int) = txb D := by
      unfold rdOf
      simp [List.getD_eq_getElem?_getD]
    have hsz : B.flatten.length + D.length ≤ 100000000000 := by
      simp at hl ⊢; omega
    conv => lhs; unfold digits_In.l1
    rw [w, hr, if_pos (by rw [hlen]; omega), if_pos (by omega), if_pos (by rw [hlen]; omega), txb_size, txb_size, if_pos (by omega), txb_append, w2]
    rfl
theorem pow_big {p : Int} (hp : 2 ≤ p) (c : Int) (m : Nat) (hc0 : 0 ≤ c) (hc : c ≤ 2 ^ m) (n : Nat) : c ^ n ≤ p ^ (m * n) := by
  have two : ∀ j : Nat, (2 : Int) ^ j ≤ p ^ j := by
    intro j
    induction j with
    | zero => simp
    | succ j ih =>
      rw [Int.pow_succ, Int.pow_succ]
      have h1 : (0 : Int) ≤ 2 ^ j := Int.le_of_lt (Int.pow_pos (by decide))
      have h2 : 2 ^ j * 2 ≤ p ^ j * 2 := Int.mul_le_mul_of_nonneg_right ih (by omega)
      have h3 : p ^ j * 2 ≤ p ^ j * p := Int.mul_le_mul_of_nonneg_left hp (by omega)
      omega
  induction n with
  | zero => simp
  | succ n ih =>
    rw [Int.pow_succ, Nat.mul_succ, Int.pow_add]
    have h1 : 0 ≤ p ^ (m * n) := Int.le_of_lt (Int.pow_pos (by omega))
    have h2 := two m
    have h3 : c ^ n * c ≤ p ^ (m * n) * c := Int.mul_le_mul_of_nonneg_right ih hc0
    have h4 : p ^ (m * n) * c ≤ p ^ (m * n) * p ^ m := Int.mul_le_mul_of_nonneg_left (by omega) h1
    omega
theorem l0_ev (base : Int) (hb : 2 ≤ base ∧ base ≤ 36) (N : Nat) (hN2 : N ≤ 32) (hp : base ^ N < 4294967296) (m : Nat) : ∀ (x : List Int) (Ds : List (List Int)), Tri.Can 4294967296 x → dv 4294967296 x < (base ^ N) ^ m → x.length ≤ 1000000 → (∀ D ∈ Ds, Dig base D ∧ D.length = N) → Ds.length + m ≤ 100000000 →
    ∃ r, inD base (dv base Ds.flatten + base ^ (Ds.flatten.length) * dv 4294967296 x) r ∧ Ev (fun k => digits_In.l0 k base (base ^ N) (N : Int) (Ds.map txb) x) r := by
  have flen : ∀ Ds : List (List Int), (∀ D ∈ Ds, Dig base D ∧ D.length = N) → Ds.flatten.length = N * Ds.length := by
    intro Ds
    induction Ds with
    | nil => intro _; simp
    | cons D Ds ih =>
      intro h
      have h1 := (h D (by simp)).2
      have h2 := ih (fun E hE => h E (by simp [hE]))
      simp only [List.flatten_cons, List.length_append, List.length_cons, Nat.mul_succ]
      omega
  have fin : ∀ (Ds : List (List Int)), (∀ D ∈ Ds, Dig base D ∧ D.length = N) → Ds.length ≤ 100000000 → ∃ r, inD base (dv base Ds.flatten + base ^ (Ds.flatten.length) * dv 4294967296 []) r ∧ Ev (fun k => digits_In.l0 k base (base ^ N) (N : Int) (Ds.map txb) []) r := by
    intro Ds hDs hl
    have hf := flen Ds hDs
    have hfl : Ds.flatten.length ≤ 100000000000 := by
      rw [hf]
      have : N * Ds.length ≤ 32 * 100000000 := Nat.mul_le_mul hN2 hl
      omega
    obtain ⟨r, h1, h2⟩ := l1_ev base hb Ds.length Ds [] rfl (by rw [List.append_nil]; exact fun D hD => (hDs D hD).1) (by rw [List.append_nil]; exact hfl) (by rw [List.append_nil]; omega)
    rw [List.append_nil] at *
    refine ⟨r, ?_, evStep h2 fun k => ?_⟩
    · simpa [dv] using h1
    · simp only [digits_In.l0]
      rw [if_neg (by simp)]
      rfl
  induction m with
  | zero =>
    intro x Ds hx hv hxl hDs hl
    have h0 := dv_nonneg (by decide) hx.1
    have hx0 : x = [] := (hx.eq_nil (by decide)).2 (by simp at hv; omega)
    subst hx0
    exact fin Ds hDs (by omega)
  | succ m ih =>
    intro x Ds hx hv hxl hDs hl
    by_cases hx0 : x = []
    · subst hx0
      exact fin Ds hDs (by omega)
    · have hp0 : 0 < base ^ N := Int.pow_pos (by omega)
      have hxp := dv_nonneg (by decide) hx.1
      obtain ⟨t, h1, h2, h3, h4⟩ := divS_ev x (base ^ N) hx.1 hp0 hp (by omega)
      have hm0 := Int.emod_nonneg (dv 4294967296 x) (show base ^ N ≠ 0 by omega)
      have hm1 := Int.emod_lt_of_pos (dv 4294967296 x) hp0
      have hpc := piece_ev base (dv 4294967296 x % base ^ N) N hb.1 hb.2 hm0 (by omega) hN2
      have hDd := digsN_dig base (by omega) N (dv 4294967296 x % base ^ N)
      have hDl := digsN_length base N (dv 4294967296 x % base ^ N)
      have hDv := digsN_dv base (by omega) N (dv 4294967296 x % base ^ N) hm0 hm1
      generalize digsN base N (dv 4294967296 x % base ^ N) = D at hpc hDd hDl hDv
      obtain ⟨r, g1, g2⟩ := ih t (Ds ++ [D]) h1 (by rw [h2]; exact Int.ediv_lt_of_lt_mul hp0 (by rw [Int.pow_succ] at hv; exact hv)) (by omega) (by
        intro E hE
        rcases List.mem_append.1 hE with hE | hE
        · exact hDs E hE
        · obtain rfl := List.mem_singleton.1 hE
          exact ⟨hDd, hDl⟩) (by simp; omega)
      refine ⟨r, ?_, evStep (g := fun k => (divide_Small.f k x (base ^ N)).bind fun bt => (digits_piece.f k bt.2.1 base (N : Int)).bind fun t170 => (if (Ds.map txb).length < 8796093022208 then digits_In.l0 k base (base ^ N) (N : Int) (Ds.map txb ++ [t170]) bt.1 else none)) (Ev.bind h4 (Ev.bind hpc ?_)) fun k => ?_⟩
      · have e : dv base (Ds ++ [D]).flatten + base ^ ((Ds ++ [D]).flatten.length) * dv 4294967296 t = dv base Ds.flatten + base ^ (Ds.flatten.length) * dv 4294967296 x := by
          have hdm := Int.mul_ediv_add_emod (dv 4294967296 x) (base ^ N)
          have ef : (Ds ++ [D]).flatten = Ds.flatten ++ D := by simp
          rw [ef, dv_append, List.length_append, hDl, Int.pow_add, hDv, h2]
          generalize dv 4294967296 x / base ^ N = u at hdm
          generalize dv 4294967296 x % base ^ N = s at hdm
          rw [← hdm]
          grind
        rw [e] at g1
        exact g1
      · refine evSame g2 fun k => ?_
        dsimp only
        rw [if_pos (by simp; omega), List.map_append]
        rfl
      · conv => lhs; unfold digits_In.l0
        have : 0 < x.length := List.length_pos_iff.2 hx0
        rw [if_pos (by omega)]
theorem trimz_of_can {x : List Int} {B : Int} (h : Tri.Can B x) : trimz x = x := trimz_of_top h.2
theorem in_ev (x : List Int) (base : Int) (hx : Tri.Can 4294967296 x) (hl : x.length ≤ 1000000) : ∃ r, inD base (dv 4294967296 x) r ∧ Ev (fun k => digits_In.f k x base) r := by
  by_cases hb : 2 ≤ base ∧ base ≤ 36
  · obtain ⟨N, h1, h2, h3, h4⟩ := chunk_ev base hb.1 hb.2
    have hp2 : 2 ≤ base ^ N := by
      have := pow_mono (B := base) (by omega) h1
      rw [Int.pow_succ, Int.pow_zero, Int.one_mul] at this
      omega
    have hlt := dv_lt (by decide) hx.1
    have hpb := pow_big hp2 4294967296 32 (by decide) (by decide) x.length
    obtain ⟨r, g1, g2⟩ := l0_ev base hb N h2 h3 (32 * x.length) x [] hx (by omega) hl (fun D hD => by simp at hD) (by simp; omega)
    have e : dv base ([] : List (List Int)).flatten + base ^ (([] : List (List Int)).flatten.length) * dv 4294967296 x = dv 4294967296 x := by simp [dv]
    rw [e] at g1
    have hmk := make_ev x hx.1 (by omega)
    rw [trimz_of_can hx] at hmk
    refine ⟨r, g1, evSame (g := fun k => (digits_chunk.f k base).bind fun bt159 => (nat_Make.f k x).bind fun bt161 => digits_In.l0 k base bt159.1 bt159.2 ([] : List ByteArray) bt161.1) (Ev.bind h4 (Ev.bind hmk g2)) fun k => ?_⟩
    unfold digits_In.f
    rw [based_val base hb.1 hb.2]
    simp only [Option.bind_some]
    rw [if_pos trivial]
  · refine ⟨_, inD_bad hb, evSame (Ev.now _) fun k => ?_⟩
    unfold digits_In.f
    rw [based_bad base hb]
    simp only [Option.bind_some]
    rw [if_neg (by omega)]
theorem refIn_loop (base : Int) (hb : 2 ≤ base ∧ base ≤ 36) (n : Nat) : ∀ (y D : List Int), Tri.Can 10000 y → dv 10000 y < base ^ n → y.length ≤ 1000000000 → D.length + n ≤ 100000000000 →
    ∃ e, Tri.Can base e ∧ dv base e = dv 10000 y ∧ Ev (fun k => triviumref06_In.l0 k base y (⟨#[48, 49, 50, 51, 52, 53, 54, 55, 56, 57, 97, 98, 99, 100, 101, 102, 103, 104, 105, 106, 107, 108, 109, 110, 111, 112, 113, 114, 115, 116, 117, 118, 119, 120, 121, 122]⟩ : ByteArray) (sgns D)) (txb (D ++ e), (0 : Int)) := by
  have fin : ∀ D : List Int, Ev (fun k => triviumref06_In.l0 k base [] (⟨#[48, 49, 50, 51, 52, 53, 54, 55, 56, 57, 97, 98, 99, 100, 101, 102, 103, 104, 105, 106, 107, 108, 109, 110, 111, 112, 113, 114, 115, 116, 117, 118, 119, 120, 121, 122]⟩ : ByteArray) (sgns D)) (txb (D ++ []), (0 : Int)) := by
    intro D
    refine evStep (Ev.now _) fun k => ?_
    simp only [triviumref06_In.l0]
    rw [if_neg (by simp), sgns_txt, List.append_nil]
    rfl
  induction n with
  | zero =>
    intro y D hy hv hyl hl
    have h0 := dv_nonneg (by decide) hy.1
    have hy0 : y = [] := (hy.eq_nil (by decide)).2 (by simp at hv; omega)
    subst hy0
    exact ⟨[], Can.nil _, rfl, fin D⟩
  | succ n ih =>
    intro y D hy hv hyl hl
    by_cases hy0 : y = []
    · subst hy0
      exact ⟨[], Can.nil _, rfl, fin D⟩
    · have hpos := hy.pos (by decide) hy0
      obtain ⟨t, h1, h2, h3, h4⟩ := divSmall_ev y base hy.1 (by omega) (by omega) (by omega)
      have hm0 := Int.emod_nonneg (dv 10000 y) (show base ≠ 0 by omega)
      have hm1 := Int.emod_lt_of_pos (dv 10000 y) (show 0 < base by omega)
      have hdm := Int.mul_ediv_add_emod (dv 10000 y) base
      obtain ⟨e, g1, g2, g3⟩ := ih t (D ++ [dv 10000 y % base]) h1 (by rw [h2]; exact Int.ediv_lt_of_lt_mul (by omega) (by rw [Int.pow_succ] at hv; exact hv)) (by omega) (by simp; omega)
      refine ⟨dv 10000 y % base :: e, ⟨Dig.cons ⟨hm0, hm1⟩ g1.1, ?_⟩, ?_, ?_⟩
      · by_cases he : e = []
        · subst he
          have hz : dv 10000 y / base = 0 := by rw [← h2, ← g2]; rfl
          rw [hz] at hdm
          have : dv 10000 y % base ≠ 0 := by omega
          simpa [Top] using this
        · unfold Top
          rw [List.getLast?_cons_of_ne_nil he]
          exact g1.2
      · rw [dv_cons, g2, h2]; omega
      · have ea : D ++ [dv 10000 y % base] ++ e = D ++ dv 10000 y % base :: e := by simp
        rw [ea] at g3
        refine evStep (Ev.bind h4 (evSame g3 fun k => ?_)) fun k => by
          conv => lhs; unfold triviumref06_In.l0
          have : 0 < y.length := List.length_pos_iff.2 hy0
          rw [if_pos (by omega)]
        dsimp only
        have hsz : dv 10000 y % base < ((⟨#[48, 49, 50, 51, 52, 53, 54, 55, 56, 57, 97, 98, 99, 100, 101, 102, 103, 104, 105, 106, 107, 108, 109, 110, 111, 112, 113, 114, 115, 116, 117, 118, 119, 120, 121, 122]⟩ : ByteArray).size : Int) := by
          have : ((⟨#[48, 49, 50, 51, 52, 53, 54, 55, 56, 57, 97, 98, 99, 100, 101, 102, 103, 104, 105, 106, 107, 108, 109, 110, 111, 112, 113, 114, 115, 116, 117, 118, 119, 120, 121, 122]⟩ : ByteArray).size : Int) = 36 := rfl
          omega
        rw [if_pos hm0, if_pos hsz, bt_alpha _ hm0 (by omega)]
        simp only [Option.bind_some]
        rw [if_pos (by rw [sgns_length]; simp; omega), sgns_snoc]
        rfl
theorem refin_ev (x : List Int) (base : Int) (hx : Dig 4294967296 x) (hl : x.length ≤ 1000000) : ∃ r, inD base (dv 4294967296 x) r ∧ Ev (fun k => triviumref06_In.f k x base) r := by
  have j : ∀ b : Bool, b = decide (¬ (2 ≤ base ∧ base ≤ 36)) → ∃ r, inD base (dv 4294967296 x) r ∧ Ev (fun k => triviumref06_In.j0 k x base b) r := by
    intro b hbb
    by_cases hb : 2 ≤ base ∧ base ≤ 36
    · have hbf : ¬ (b = true) := by rw [hbb, decide_eq_true_eq]; exact fun z => z hb
      obtain ⟨y, h1, h2, h3, h4⟩ := of_ev x hx (by omega)
      have hlt := dv_lt (by decide) h1.1
      have hpb := pow_big hb.1 10000 14 (by decide) (by decide) y.length
      obtain ⟨e, g1, g2, g3⟩ := refIn_loop base hb (14 * y.length) y [] h1 (by omega) (by omega) (by simp; omega)
      rw [List.nil_append] at g3
      refine ⟨_, inD_ok hb e g1 (g2.trans h2), ?_⟩
      have key : Ev (fun k => if (y.length : Int) = 0 then some ((⟨#[48]⟩ : ByteArray), (0 : Int)) else triviumref06_In.l0 k base y (⟨#[48, 49, 50, 51, 52, 53, 54, 55, 56, 57, 97, 98, 99, 100, 101, 102, 103, 104, 105, 106, 107, 108, 109, 110, 111, 112, 113, 114, 115, 116, 117, 118, 119, 120, 121, 122]⟩ : ByteArray) ([] : List Int)) ((if e = [] then (⟨#[48]⟩ : ByteArray) else ⟨(txt e).toArray⟩), (0 : Int)) := by
        have hey : e = [] ↔ y = [] := by
          rw [g1.eq_nil (by omega), h1.eq_nil (by decide), g2]
        by_cases hy : y = []
        · subst hy
          rw [if_pos (hey.2 rfl)]
          exact evSame (Ev.now _) fun k => by rw [if_pos (by simp)]
        · rw [if_neg (fun z => hy (hey.1 z))]
          have : 0 < y.length := List.length_pos_iff.2 hy
          exact evSame g3 fun k => by rw [if_neg (by omega)]; rfl
      refine evStep (g := fun k => (triviumref02_Of.f k x).bind fun t => if (t.length : Int) = 0 then some ((⟨#[48]⟩ : ByteArray), (0 : Int)) else triviumref06_In.l0 k base t (⟨#[48, 49, 50, 51, 52, 53, 54, 55, 56, 57, 97, 98, 99, 100, 101, 102, 103, 104, 105, 106, 107, 108, 109, 110, 111, 112, 113, 114, 115, 116, 117, 118, 119, 120, 121, 122]⟩ : ByteArray) ([] : List Int)) (Ev.bind (f := fun k t => if (t.length : Int) = 0 then some ((⟨#[48]⟩ : ByteArray), (0 : Int)) else triviumref06_In.l0 k base t (⟨#[48, 49, 50, 51, 52, 53, 54, 55, 56, 57, 97, 98, 99, 100, 101, 102, 103, 104, 105, 106, 107, 108, 109, 110, 111, 112, 113, 114, 115, 116, 117, 118, 119, 120, 121, 122]⟩ : ByteArray) ([] : List Int)) h4 key) fun k => ?_
      simp only [triviumref06_In.j0]
      rw [if_neg hbf]
    · refine ⟨_, inD_bad hb, evStep (Ev.now _) fun k => ?_⟩
      simp only [triviumref06_In.j0]
      rw [if_pos (by rw [hbb]; exact decide_eq_true hb)]
  by_cases h : base < 2
  · obtain ⟨r, h1, h2⟩ := j true (by symm; rw [decide_eq_true_eq]; omega)
    refine ⟨r, h1, evSame h2 fun k => ?_⟩
    unfold triviumref06_In.f
    rw [if_pos h]
  · obtain ⟨r, h1, h2⟩ := j (decide (base > 36)) (by rw [decide_eq_decide]; omega)
    refine ⟨r, h1, evSame h2 fun k => ?_⟩
    unfold triviumref06_In.f
    rw [if_neg h]
end Go.Proofs.YthcmjcjgaebciaaDoor.T
/- Limbs made such as may be a number: what the document's helper computes. -/
namespace Go.Proofs.YthcmjcjgaebciaaDoor.T
open Go.RowKit Go.Proofs.YthcmjcjgaebciaaDoorW.PrintWords Go.Proofs.YthcmjcjgaebciaaDoorW.PrintLast Go.Proofs.YthcmjcjgaebciaaDoorW.PrintMore Go.Proofs.YthcmjcjgaebciaaDoor.Tri

theorem clean_l1 (n : Nat) : ∀ a : List Int, a.length = n → a.length ≤ 1000000000000 → Ev (fun k => triviumref02_Clean.l1 k a) (trimz a) := by
  induction n with
  | zero =>
    intro a hn _
    obtain rfl := List.eq_nil_of_length_eq_zero hn
    refine evStep (Ev.now []) fun k => ?_
    simp only [triviumref02_Clean.l1]
    rw [if_neg (by simp)]
  | succ n ih =>
    intro a hn hl
    obtain ⟨c, x, rfl⟩ := eq_snoc (l := a) (by rintro rfl; simp at hn)
    have hlen : (c ++ [x]).length = c.length + 1 := by simp
    have w : wrap64 ((((c ++ [x]).length : Nat) : Int) - 1) = (c.length : Int) := by rw [hlen, w64' (by omega) (by omega)]; omega
    have hr : rd (c ++ [x]) (c.length : Int) = x := rd_at c [] x _ rfl
    by_cases hx : x = 0
    · subst hx
      rw [trimz_snoc_zero]
      refine evStep (ih c (by omega) (by omega)) fun k => ?_
      conv => lhs; unfold triviumref02_Clean.l1
      rw [w, hr, if_pos (by omega), if_pos (by omega), if_pos (by omega), if_pos rfl, if_pos (by omega), Int.toNat_natCast, List.take_left]
    · rw [trimz_of_top (Top.snoc.2 hx)]
      refine evStep (Ev.now _) fun k => ?_
      simp only [triviumref02_Clean.l1]
      rw [w, hr, if_pos (by omega), if_pos (by omega), if_pos (by omega), if_neg hx]
theorem clean_loop (most : Nat) (hm : most ≤ 1000000) (b : List Int) : ∀ (a d : List Int), (∀ x ∈ b, 0 ≤ x) → d.length = a.length → a.length ≤ most →
    Ev (fun k => triviumref02_Clean.l0 k (a ++ b) (most : Int) d (a.length : Int)) (trimz (d ++ (b.take (most - a.length)).map (· % 4294967296))) := by
  induction b with
  | nil =>
    intro a d _ hd ha
    rw [List.append_nil]
    simp only [List.take_nil, List.map_nil, List.append_nil]
    refine evStep (g := fun k => triviumref02_Clean.j1 k d) (evStep (clean_l1 d.length d rfl (by omega)) fun k => by simp only [triviumref02_Clean.j1]) fun k => ?_
    simp only [triviumref02_Clean.l0]
    rw [if_neg (by omega)]
  | cons x b ih =>
    intro a d hx hd ha
    have hr : rd (a ++ x :: b) (a.length : Int) = x := rd_at a b x _ rfl
    have e : a ++ x :: b = (a ++ [x]) ++ b := by simp
    by_cases hlt : a.length < most
    · have w : wrap64 ((a.length : Int) + 1) = (((a ++ [x]).length : Nat) : Int) := by rw [w64' (by omega) (by omega)]; simp
      have et : (x :: b).take (most - a.length) = x :: b.take (most - (a ++ [x]).length) := by
        obtain ⟨j, hj⟩ : ∃ j, most - a.length = j + 1 := ⟨most - a.length - 1, by omega⟩
        have hj2 : most - (a ++ [x]).length = j := by simp; omega
        rw [hj, hj2, List.take_succ_cons]
      have := ih (a ++ [x]) (d ++ [x % 4294967296]) (fun y hy => hx y (by simp [hy])) (by simp; omega) (by simp; omega)
      rw [et, List.map_cons]
      have e2 : ∀ M : List Int, d ++ [x % 4294967296] ++ M = d ++ x % 4294967296 :: M := fun M => by simp
      rw [← e, e2] at this
      refine evStep this fun k => ?_
      conv => lhs; unfold triviumref02_Clean.l0
      rw [hr, tmod_pos (hx x (by simp)), if_pos (by simp; omega), if_pos (by omega), if_pos (by omega), if_pos (by omega), w]
    · have et : (x :: b).take (most - a.length) = [] := by
        have : most - a.length = 0 := by omega
        rw [this]; rfl
      rw [et, List.map_nil, List.append_nil]
      refine evStep (g := fun k => triviumref02_Clean.j1 k d) (evStep (clean_l1 d.length d rfl (by omega)) fun k => by simp only [triviumref02_Clean.j1]) fun k => ?_
      simp only [triviumref02_Clean.l0]
      rw [if_pos (by simp; omega), if_neg (by omega)]
theorem clean_ev (l : List Int) (most : Nat) (hm : most ≤ 1000000) (hl : ∀ x ∈ l, 0 ≤ x) : ∃ r, Tri.Can 4294967296 r ∧ r.length ≤ most ∧ Ev (fun k => triviumref02_Clean.f k l (most : Int)) r := by
  have := clean_loop most hm l [] [] hl rfl (by simp)
  refine ⟨_, trimz_can ?_, ?_, evSame this fun _ => rfl⟩
  · intro x hx
    rw [List.nil_append] at hx
    obtain ⟨y, _, rfl⟩ := List.mem_map.1 hx
    exact ⟨Int.emod_nonneg _ (by decide), Int.emod_lt_of_pos _ (by decide)⟩
  · refine Nat.le_trans (trimz_length _) ?_
    simp; omega
theorem u64_nonneg {l : List Int} (h : ∀ x ∈ l, (Lit.int .u64 x).wf = true) : ∀ x ∈ l, 0 ≤ x := by
  intro x hx
  have := h x hx
  simp [Lit.wf, IntKind.min, IntKind.max, IntKind.signed, IntKind.bits] at this
  omega
end Go.Proofs.YthcmjcjgaebciaaDoor.T
/- What was printed is read; what is read, printed again, is the text, but for noughts ahead: plain facts. -/
namespace Go.Proofs.YthcmjcjgaebciaaDoor.T
open Go.RowKit Go.Proofs.YthcmjcjgaebciaaDoorW.PrintWords Go.Proofs.YthcmjcjgaebciaaDoorW.PrintLast Go.Proofs.YthcmjcjgaebciaaDoorW.PrintMore Go.Proofs.YthcmjcjgaebciaaDoor.Tri

theorem txt_snoc (c : List Int) (x : Int) : txt (c ++ [x]) = sgn x :: txt c := by simp [txt]
theorem fold_txt (base : Int) (hb : base ≤ 36) (n : Nat) : ∀ (D : List Int) (v : Int), D.length = n → Dig base D → foldD base (txt D) v = some (v * base ^ D.length + dv base D) := by
  induction n with
  | zero =>
    intro D v hn _
    obtain rfl := List.eq_nil_of_length_eq_zero hn
    simp [txt, foldD, dv]
  | succ n ih =>
    intro D v hn hD
    obtain ⟨c, x, rfl⟩ := eq_snoc (l := D) (by rintro rfl; simp at hn)
    have hx := hD.right.head
    obtain ⟨_, s2, _⟩ := sgn_spec x hx.1 (by omega)
    have hd : digD base (sgn x) = some x := by unfold digD; rw [s2, if_pos hx]
    rw [txt_snoc]
    unfold foldD
    rw [hd]
    dsimp only
    rw [ih c (v * base + x) (by simpa using hn) hD.left, dv_snoc, List.length_append, List.length_cons, List.length_nil, Nat.zero_add, Int.pow_succ]
    congr 1
    grind
theorem val_sgn_all : (List.range 256).all (fun n => decide (valD (UInt8.ofNat n) < 0) || decide (sgn (valD (UInt8.ofNat n)) = UInt8.ofNat n)) = true := by kernel_rfl
theorem val_sgn (c : UInt8) (h : 0 ≤ valD c) : sgn (valD c) = c := by
  have h2 := (List.all_eq_true.1 val_sgn_all) c.toNat (List.mem_range.2 c.toNat_lt)
  rw [UInt8.ofNat_toNat] at h2
  simp only [Bool.or_eq_true, decide_eq_true_eq] at h2
  rcases h2 with h2 | h2
  · omega
  · exact h2
theorem read_txt (base : Int) (l : List UInt8) : ∀ (v w : Int), foldD base l v = some w → ∃ D, l = txt D ∧ Dig base D := by
  induction l with
  | nil => intro v w _; exact ⟨[], rfl, Dig.nil _⟩
  | cons c l ih =>
    intro v w h
    unfold foldD at h
    cases hd : digD base c with
    | none => rw [hd] at h; simp at h
    | some d =>
      rw [hd] at h
      obtain ⟨D, h1, h2⟩ := ih _ w h
      unfold digD at hd
      split at hd
      · rename_i hc
        have hd2 := Option.some.inj hd
        refine ⟨D ++ [d], ?_, h2.snoc (by omega)⟩
        rw [txt_snoc, h1, ← hd2, val_sgn c hc.1]
      · simp at hd
/-- noughts ahead are let go, but one sign stays -/
theorem drop_loop (base : Int) (hb : base ≤ 36) (s u : ByteArray) (hs : s.size ≤ 1000000) (E : List Int) (hu : u = if E = [] then (⟨#[48]⟩ : ByteArray) else ⟨(txt E).toArray⟩) (n : Nat) : ∀ (D : List Int) (i : Nat), D.length = n + 1 → Dig base D → s.data.toList.drop i = txt D → trimz D = E → Ev (fun k => triviumlaw06_DigitsBack.l0 k s u 0 (i : Int)) true := by
  have hl : s.data.toList.length = s.size := data_length s
  have fin : ∀ (D : List Int) (i : Nat), s.data.toList.drop i = txt D → u.data.toList = txt D → (u.toList == (s.extract i s.size).toList) = true := by
    intro D i hd he
    rw [beq_iff_eq, ByteArray.toList_eq, ByteArray.toList_eq, he, ByteArray.data_extract, Array.toList_extract, List.extract_eq_take_drop, List.take_of_length_le (by rw [List.length_drop, hl]; omega), hd]
  have top : ∀ (D : List Int), D ≠ [] → trimz D = E → (trimz D = D ∨ D = [0]) → u.data.toList = txt D := by
    intro D hD he ho
    rcases ho with ho | ho
    · have : E ≠ [] := by rw [← he, ho]; exact hD
      rw [hu, if_neg this, ← he, ho]
    · subst ho
      have : E = [] := by rw [← he]; rfl
      rw [hu, if_pos this]
      rfl
  induction n with
  | zero =>
    intro D i hn hD hd he
    obtain ⟨x, rfl⟩ := List.length_eq_one_iff.1 hn
    have hi : i + 1 = s.size := by
      have := congrArg List.length hd
      rw [List.length_drop, hl] at this
      simp [txt] at this
      omega
    have h := fin [x] i hd (top [x] (by simp) he (by
      by_cases h0 : x = 0
      · right; rw [h0]
      · left; exact trimz_of_top (by simpa [Top] using h0)))
    refine evStep (Ev.now _) fun k => ?_
    simp only [triviumlaw06_DigitsBack.l0]
    rw [w64' (by omega) (by omega), if_neg (by omega), if_pos trivial, if_pos (by omega), if_pos (by omega), Int.toNat_natCast, h]
  | succ n ih =>
    intro D i hn hD hd he
    obtain ⟨c, x, rfl⟩ := eq_snoc (l := D) (by rintro rfl; simp at hn)
    have hx := hD.right.head
    obtain ⟨s1, _, _⟩ := sgn_spec x hx.1 (by omega)
    have hc : c.length = n + 1 := by simpa using hn
    have hd2 := hd
    rw [txt_snoc] at hd2
    obtain ⟨hbt, hlt, hr⟩ := bt_drop' s i (sgn x) (txt c) hd2
    have hi : i + (n + 2) = s.size := by
      have := congrArg List.length hd
      rw [List.length_drop, hl] at this
      simp [txt] at this
      omega
    by_cases h0 : x = 0
    · subst h0
      have hsg : sgn 0 = 48 := s1.2 rfl
      have hb48 : bt s (i : Int) = 48 := by rw [hbt, hsg]; rfl
      refine evStep (ih c (i + 1) hc hD.left hr (by rw [← he, trimz_snoc_zero])) fun k => ?_
      conv => lhs; unfold triviumlaw06_DigitsBack.l0
      rw [w64' (by omega) (by omega), if_pos (by omega), if_pos (by omega), if_pos (by omega), if_pos hb48]
      rfl
    · have h := fin (c ++ [x]) i hd (top (c ++ [x]) (by simp) he (Or.inl (trimz_of_top (Top.snoc.2 h0))))
      have hb48 : ¬ (bt s (i : Int) = 48) := by
        rw [hbt]
        intro z
        apply h0
        apply s1.1
        apply UInt8.toNat_inj.1
        have e48 : (48 : UInt8).toNat = 48 := rfl
        rw [e48]; omega
      refine evStep (Ev.now _) fun k => ?_
      simp only [triviumlaw06_DigitsBack.l0]
      rw [w64' (by omega) (by omega), if_pos (by omega), if_pos (by omega), if_pos (by omega), if_neg hb48, if_pos trivial, if_pos (by omega), Int.toNat_natCast, h]
end Go.Proofs.YthcmjcjgaebciaaDoor.T
/- The plain law: what was printed is read, by each base; and what is read, printed again, is the text, but for noughts ahead. -/
namespace Go.Proofs.YthcmjcjgaebciaaDoor.T
open Go.RowKit Go.Proofs.YthcmjcjgaebciaaDoorW.PrintWords Go.Proofs.YthcmjcjgaebciaaDoorW.PrintLast Go.Proofs.YthcmjcjgaebciaaDoorW.PrintMore Go.Proofs.YthcmjcjgaebciaaDoor.Tri
set_option maxRecDepth 100000 in
theorem works06b : triviumlaw06_works.f 63 = some true := by kernel_rfl
theorem works06b_ev : Ev (fun k => triviumlaw06_works.f k) true := Ev.of (k := 63) (fun k => triviumlaw06_works.mono k) works06b
/-- what was told is read -/
theorem back_read (b : Int) (hb : 2 ≤ b ∧ b ≤ 36) (x : List Int) (hx : Tri.Can 4294967296 x) (r q : List Int × Int) (u : ByteArray × Int) (h1 : inD b (dv 4294967296 x) u) (h2 : fromD b u.1 q) (hr : r = (x, 0)) : u.2 = 0 ∧ q = r := by
  unfold inD at h1
  rw [if_pos hb] at h1
  obtain ⟨E, e1, e2, e3⟩ := h1
  have hz : foldD b u.1.data.toList 0 = some (dv 4294967296 x) ∧ u.1.data.toList ≠ [] := by
    rw [e3]
    by_cases hE : E = []
    · rw [if_pos hE]
      subst hE
      have : dv 4294967296 x = 0 := by rw [← e2]; rfl
      rw [this]
      have hd : digD b 48 = some 0 := by
        have h48 : valD 48 = 0 := by decide
        unfold digD; rw [h48, if_pos (by omega)]
      refine ⟨?_, by simp⟩
      show foldD b [48] 0 = some 0
      unfold foldD
      rw [hd]
      simp [foldD]
    · rw [if_neg hE]
      have := fold_txt b hb.2 E.length E 0 rfl e1.1
      refine ⟨?_, ?_⟩
      · show foldD b (txt E) 0 = _
        rw [this, Int.zero_mul, Int.zero_add, e2]
      · show txt E ≠ []
        rw [Ne, txt_nil_iff]; exact hE
  refine ⟨by rw [e3], ?_⟩
  unfold fromD at h2
  rw [if_pos hb, if_neg hz.2, hz.1] at h2
  obtain ⟨f1, f2, f3⟩ := h2
  rw [hr]
  exact Prod.ext (Can.inj (by decide) f1 hx f2) f3
theorem j0_ev (b : Int) (hb : 2 ≤ b ∧ b ≤ 36) (s : ByteArray) (hs : s.size ≤ 120) : Ev (fun k => triviumlaw06_DigitsBack.j0 k s b false) true := by
  obtain ⟨r, h1, h2, h3⟩ := from_ev s b (by omega)
  have step : ∀ {v : Bool}, Ev (fun k => if r.2 = 0 then (digits_In.f k r.1 b).bind fun bt328 => triviumlaw06_DigitsBack.l0 k s bt328.1 bt328.2 0 else some (((r.1.length : Nat) : Int) == 0)) v → Ev (fun k => triviumlaw06_DigitsBack.j0 k s b false) v := fun {v} h =>
    evStep (g := fun k => (digits_From.f k s b).bind fun bt324 => if bt324.2 = 0 then (digits_In.f k bt324.1 b).bind fun bt328 => triviumlaw06_DigitsBack.l0 k s bt328.1 bt328.2 0 else some (((bt324.1.length : Nat) : Int) == 0)) (Ev.bind (f := fun k (bt324 : List Int × Int) => if bt324.2 = 0 then (digits_In.f k bt324.1 b).bind fun bt328 => triviumlaw06_DigitsBack.l0 k s bt328.1 bt328.2 0 else some (((bt324.1.length : Nat) : Int) == 0)) h3 h) fun k => by
      simp only [triviumlaw06_DigitsBack.j0, Bool.false_eq_true, if_false]
  apply step
  unfold fromD at h1
  rw [if_pos hb] at h1
  by_cases hn : s.data.toList = []
  · rw [if_pos hn] at h1
    subst h1
    exact evSame (Ev.now _) fun k => by rw [if_neg (by decide)]; rfl
  · rw [if_neg hn] at h1
    cases hf : foldD b s.data.toList 0 with
    | none =>
      rw [hf] at h1
      have h1 : r = ([], 5) := h1
      subst h1
      exact evSame (Ev.now _) fun k => by rw [if_neg (by decide)]; rfl
    | some w =>
      rw [hf] at h1
      obtain ⟨f1, f2, f3⟩ := h1
      obtain ⟨D, d1, d2⟩ := read_txt b s.data.toList 0 w hf
      have hdv := fold_txt b hb.2 D.length D 0 rfl d2
      rw [← d1, hf] at hdv
      have hw : w = dv b D := by have := Option.some.inj hdv; omega
      obtain ⟨u, g1, g2⟩ := in_ev r.1 b f1 (by omega)
      unfold inD at g1
      rw [if_pos hb] at g1
      obtain ⟨E, e1, e2, e3⟩ := g1
      have hE : trimz D = E := Can.inj (by omega) (trimz_can d2) e1 (by rw [trimz_dv, e2, f2, hw])
      have hDl : D.length = (D.length - 1) + 1 := by
        have : D ≠ [] := by rintro rfl; exact hn d1
        have := List.length_pos_iff.2 this
        omega
      have hdrop := drop_loop b hb.2 s u.1 (by omega) E (by rw [e3]) (D.length - 1) D 0 hDl d2 d1 hE
      have hu2 : u.2 = 0 := by rw [e3]
      refine evSame (g := fun k => (digits_In.f k r.1 b).bind fun bt328 => triviumlaw06_DigitsBack.l0 k s bt328.1 bt328.2 0) (Ev.bind g2 ?_) fun k => by rw [if_pos f3]
      rw [hu2]
      exact hdrop
theorem in_size (b : Int) (hb : 2 ≤ b ∧ b ≤ 36) (x : List Int) (hx : Tri.Can 4294967296 x) (hxl : x.length ≤ 30) (u : ByteArray × Int) (h : inD b (dv 4294967296 x) u) : u.1.size ≤ 10000000 := by
  unfold inD at h
  rw [if_pos hb] at h
  obtain ⟨E, e1, e2, e3⟩ := h
  rw [e3]
  by_cases hE : E = []
  · rw [if_pos hE]; decide
  · rw [if_neg hE]
    have hsz : (⟨(txt E).toArray⟩ : ByteArray).size = E.length := txb_size E
    rw [hsz]
    apply Classical.byContradiction
    intro z
    have h1 := e1.ge (by omega) hE
    have h2 := dv_lt (by decide) hx.1
    have h3 := pow_big hb.1 4294967296 32 (by decide) (by decide) x.length
    have h4 := pow_mono (B := b) (by omega) (show 32 * x.length ≤ E.length - 1 by omega)
    omega
theorem pure_DigitsBack : triviumlaw06_DigitsBack.Pure := by
  intro l a s _ hw ha _
  apply evAt (v := true)
  have ha0 : 0 ≤ a ∧ a < 256 := by
    simp [Lit.wf, IntKind.min, IntKind.max, IntKind.signed, IntKind.bits] at ha
    omega
  have hbv : wrap64 (2 + wrap64 (Int.tmod a 35)) = 2 + a % 35 := by
    rw [tmod_pos ha0.1, w64' (x := a % 35) (by omega) (by omega), w64' (by omega) (by omega)]
  have hb : 2 ≤ 2 + a % 35 ∧ 2 + a % 35 ≤ 36 := by omega
  have h0 : 0 ≤ mn (s.size : Int) 120 := by unfold mn; split <;> omega
  have h1 : mn (s.size : Int) 120 ≤ (s.size : Int) := by unfold mn; split <;> omega
  have h2 : mn (s.size : Int) 120 ≤ 120 := by unfold mn; split <;> omega
  obtain ⟨t, ht⟩ : ∃ t, t = s.extract 0 (mn (s.size : Int) 120).toNat := ⟨_, rfl⟩
  have hts : t.size ≤ 120 := by rw [ht, ByteArray.size_extract]; omega
  obtain ⟨x, hx, hxl, hc⟩ := clean_ev l 30 (by decide) (u64_nonneg hw)
  obtain ⟨u, a1, b1⟩ := in_ev x (2 + a % 35) hx (by omega)
  have hus : u.1.size ≤ 10000000 := in_size _ hb x hx hxl u a1
  obtain ⟨q, a2, _, b2⟩ := from_ev u.1 (2 + a % 35) hus
  obtain ⟨k1, k2⟩ := back_read _ hb x hx (x, 0) q u a1 a2 rfl
  subst k2
  have hj := j0_ev _ hb t hts
  have hsame := same_ev x (by omega)
  refine evSame (g := fun k => (triviumlaw06_works.f k).bind fun t313 => if t313 = true then ((triviumref02_Clean.f k l 30).bind fun t314 => (digits_In.f k t314 (2 + a % 35)).bind fun bt317 => ((digits_From.f k bt317.1 (2 + a % 35)).bind fun bt319 => (if bt317.2 = 0 then (if bt319.2 = 0 then ((triviumref02_Same.f k t314 bt319.1).bind fun t323 => (triviumlaw06_DigitsBack.j0 k t (2 + a % 35) (!t323))) else (triviumlaw06_DigitsBack.j0 k t (2 + a % 35) true)) else (triviumlaw06_DigitsBack.j0 k t (2 + a % 35) true)))) else none) ?_ fun k => ?_
  · refine Ev.bind works06b_ev ?_
    refine evSame ?_ fun k => if_pos rfl
    refine Ev.bind hc (Ev.bind b1 (Ev.bind b2 ?_))
    refine evSame (g := fun k => (triviumref02_Same.f k x x).bind fun t323 => (triviumlaw06_DigitsBack.j0 k t (2 + a % 35) (!t323))) (Ev.bind hsame hj) fun k => ?_
    dsimp only
    rw [if_pos k1, if_pos rfl]
  · unfold triviumlaw06_DigitsBack.f
    simp only [hbv, if_pos h0, if_pos h1, ← ht]
end Go.Proofs.YthcmjcjgaebciaaDoor.T
namespace Go.Proofs.YthcmjcjgaebciaaDoor.Pure
theorem DigitsBack : T.triviumlaw06_DigitsBack.Pure := T.pure_DigitsBack
end Go.Proofs.YthcmjcjgaebciaaDoor.Pure
/- The law DigitsBack holds of every input: the row, and its card. -/
namespace Go.Proofs.YthcmjcjgaebciaaDoor.digitsBack
open Go.ChangeShapes Go.WideShapes Go.ChangeAt Go.RowKit
open Go.ChangeMaps (open_string shut_string)
open Go.Proofs.YthcmjcjgaebciaaDoorW.PrintWords Go.Proofs.YthcmjcjgaebciaaDoorW.PrintLast Go.Proofs.YthcmjcjgaebciaaDoorW.PrintMore
set_option linter.unusedVariables false
theorem own : ownKnob Tryd.prog.godebug = none := by kernel_rfl
theorem laidOut : laidOutB Tryd.prog = true := by kernel_rfl
def IsRow (k : IntKind) (w : World) (a : Option Addr) (len cap : Nat) (zs : List Int) : Prop :=
  (a = none ∧ len = 0 ∧ cap = 0 ∧ zs = []) ∨
  ∃ x, a = some x ∧ len ≤ cap ∧ cap ≤ maxLen ∧ zs.length = cap ∧ (∀ i, i < zs.length → w.cell? (x.add i) = some (.int k (zs.getD i 0))) ∧ ∀ n ∈ zs, (Lit.int k n).wf = true
set_option maxRecDepth 100000 in
theorem lifted (os : Os) (started : os.Started) (H : Type) (enc : TypeId × Value → H) :
    ReturnsInHanded {} Tryd.checked os 4 .any (fun w args => (Rows.digitsBackSpec.pre enc Tryd.prog Tryd.f4 [] false w args ∧ laidMetH Tryd.prog Rows.digitsBackRow.laid w) ∧ sizedMet enc Tryd.prog Tryd.f4 (OpenSpec.ofChange Rows.digitsBackSpec) false w args)
      (Rows.digitsBackSpec.post enc Tryd.prog Tryd.f4 false true false false) := by
  refine returnsInHanded_of_change_and (C := Tryd.checked) (X := fun w _ => laidMetH Tryd.prog Rows.digitsBackRow.laid w) (fun _ _ _ hh h => h.of_heap hh) own started (by kernel_rfl) Tryd.func4
    (ChangeSpec.witness_shaped (enc := enc) (C := Tryd.checked) (os := os) (X := fun w _ => laidMetH Tryd.prog Rows.digitsBackRow.laid w) false (World.laidAll Tryd.prog os Rows.digitsBackRow.laid) #[.slice none 0 0, .int .u8 0, .string ByteArray.empty] 8 (World.laidAll_os _ _ _)
      (World.shaped_of_ZipB (by kernel_rfl) (by kernel_rfl)) (by kernel_rfl) (by kernel_rfl) (by kernel_rfl)
      (by rw [MakeChecks.laidMetH_plain _ _ _ (by kernel_rfl)]; exact laidMet_laidAll _ (by kernel_rfl) (by kernel_rfl))) ?_
  intro W base args ds gs before hval0 hW _ hsz0 hL0 _
  have hL : laidMet Tryd.prog Rows.digitsBackRow.laid W := by rw [MakeChecks.laidMetH_plain _ _ _ (by kernel_rfl)] at hL0; exact hL0
  clear hsz0
  have hval : ∀ (j : Nat) t v, Tryd.f4.params[j]? = some t → args[j]? = some v → Value.okWide Tryd.prog W .any base t v := hval0
  have hW' := hW
  obtain ⟨p, q, hA0, hV, rfl, hfz, hnd⟩ := hW
  have hA : DataW.TrodAll enc Tryd.prog W 0 (fun _ => true) true Tryd.f4.params.toList args.toList ds p := hA0
  rw [Tryd.params4] at hA hval
  obtain ⟨v0, vs0, d0, ds0, p0, q0, hargs, rfl, rfl, h0, r0⟩ := trodAll_cons hA
  obtain ⟨v1, vs1, d1, ds1, p1, q1, rfl, rfl, rfl, h1, r1⟩ := trodAll_cons r0
  obtain ⟨v2, vs2, d2, ds2, p2, q2, rfl, rfl, rfl, h2, r2⟩ := trodAll_cons r1
  obtain ⟨rfl, rfl, rfl⟩ := trodAll_nil r2
  obtain rfl : args = #[v0, v1, v2] := by cases args; simp_all
  obtain ⟨rfl, rfl⟩ := trodVars_none hV
  have k0 := h0
  have lt0 : ∀ x ∈ p0, x.block < W.heap.size := by obtain ⟨m, hm⟩ := k0; exact DataW.trod_lt m _ _ _ hm
  obtain ⟨a_0, len_0, cap_0, rfl⟩ := okWide_slice Tryd.underlying23 (hval 0 23 v0 rfl rfl)
  obtain ⟨A0, len0, c0, z0, e0, iw0⟩ : ∃ A len c zs, Value.slice a_0 len_0 cap_0 = Value.slice A len c ∧ IsRow .u64 W A len c zs := by
    obtain ⟨fuel, hf⟩ := h0
    rcases open_ints Tryd.underlying23 Tryd.underlying96 (by kernel_rfl) hf with ⟨hcs, _⟩ | ⟨x, l, c, zs, hcs, _, hl, hm, hz, _, hcell, hwz⟩
    · exact ⟨none, 0, 0, [], by simpa [Value.cells] using hcs, .inl ⟨rfl, rfl, rfl, rfl⟩⟩
    · exact ⟨some x, l, c, zs, by simpa [Value.cells] using hcs, .inr ⟨_, rfl, hl, hm, by simpa using hz, hcell, hwz⟩⟩
  obtain ⟨l0, rfl, hr0, hm0, hw0, hc0⟩ := ReadsInt.ofRowC iw0
  cases e0
  have k1 := h1
  have lt1 : ∀ x ∈ p1, x.block < W.heap.size := by obtain ⟨m, hm⟩ := k1; exact DataW.trod_lt m _ _ _ hm
  obtain ⟨a1, rfl, rfl, rfl, w1⟩ := open_int Tryd.underlying5 (hval 1 5 v1 rfl rfl) h1
  have k2 := h2
  have lt2 : ∀ x ∈ p2, x.block < W.heap.size := by obtain ⟨m, hm⟩ := k2; exact DataW.trod_lt m _ _ _ hm
  obtain ⟨a2, rfl, rfl, rfl, w2⟩ := open_string Tryd.underlying9 (hval 2 9 v2 rfl rfl) h2
  clear hA0 hval0
  obtain ⟨k, h⟩ := Pure.DigitsBack l0 a1 a2 hm0 hw0 w1 w2
  have C := T.triviumlaw06_DigitsBack.calls k _ _ l0 a1 a2 true W (Kd.C_of_reads (d := (0 : Int)) (h1 := fun _ => rfl) hr0) hc0 h
  refine C.mono fun e W' ⟨he, bel⟩ => ?_
  subst he
  exact ⟨_, rfl, _, _, _, [], _, [], hW', trodAll_mk1 (shut_bool Tryd.underlying4 _), (trodAll_cons_mk (Below.trod laidOut (by kernel_rfl) (of_decide_eq_true (by kernel_rfl)) k0 bel lt0) (trodAll_cons_mk (Below.trod laidOut (by kernel_rfl) (of_decide_eq_true (by kernel_rfl)) k1 bel lt1) (trodAll_cons_mk (Below.trod laidOut (by kernel_rfl) (of_decide_eq_true (by kernel_rfl)) k2 bel lt2) trodAll_mk0))), rfl, bel.frame _, fun h => by cases h⟩
theorem over : Rows.digitsBackRow.holds Tryd.pinned (OpenSpec.ofChange Rows.digitsBackSpec) :=
  OpenClaim.holds_of_wide 4 Tryd.f4 rfl rfl rfl rfl rfl rfl rfl ⟨rfl, rfl, rfl, rfl, rfl⟩ rfl rfl rfl rfl rfl (by kernel_rfl) Tryd.func4 (by kernel_rfl)
    (of_decide_eq_true (by kernel_rfl)) (by unfold Func.isWrapper; first | (rw [if_pos (by decide +kernel)]; kernel_rfl) | (rw [if_neg (by decide +kernel)]; exact ⟨rfl, rfl⟩))
    (fun os started H enc _ => lifted os started H enc)
theorem proved : Rows.DigitsBackSaid := over
theorem plain (f : FuncId) (fn : Func) (hf : Tryd.pinned.checked.prog.funcNamed "trivium/triviumlaw06.DigitsBack" = some f) (hfn : Tryd.pinned.checked.prog.funcs[f]? = some fn) :
    false = Tryd.pinned.checked.prog.looks [] ∧ ∀ (j : Nat) t, fn.params[j]? = some t → Tryd.pinned.checked.prog.wantsStandIn t = false := by
  obtain rfl : f = 4 := Option.some.inj ((show Tryd.prog.funcNamed "trivium/triviumlaw06.DigitsBack" = some 4 by kernel_rfl).symm.trans hf) |>.symm
  obtain rfl : fn = Tryd.f4 := (Option.some.inj (Tryd.func4.symm.trans hfn)).symm
  exact ⟨by kernel_rfl, fun j t ht => by
    rw [Tryd.params4] at ht
    have hm : t ∈ [23, 5, 9] := by simpa using Array.mem_of_getElem? ht
    have hall : ([23, 5, 9].all fun u => !Tryd.prog.wantsStandIn u) = true := by kernel_rfl
    exact (show Tryd.prog.wantsStandIn t = false by simpa using List.all_eq_true.1 hall t hm)⟩
theorem card : Rows.DigitsBackCardSaid :=
  Claim7.holds_tied_plain_at .later [] _ _ _ _ proved (fun _ h => by cases h) (by kernel_rfl) (fun _ h => by cases h) digitsBack_row_tie rfl ⟨rfl, rfl⟩ (by kernel_rfl) rfl plain (by kernel_rfl)
#print axioms card
end Go.Proofs.YthcmjcjgaebciaaDoor.digitsBack
namespace Go.Proofs.YthcmjcjgaebciaaDoor
/-- The statement, under a short name, for the claim. -/
theorem digitsBack_holds : Rows.DigitsBackCardSaid := digitsBack.card
end Go.Proofs.YthcmjcjgaebciaaDoor
