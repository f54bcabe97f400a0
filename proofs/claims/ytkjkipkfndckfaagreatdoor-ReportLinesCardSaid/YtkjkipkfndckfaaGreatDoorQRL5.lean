/- Networks' texts: the program's. -/
import Derived.Test.YtkjkipkfndckfaaGreatDoorQRL1
import Derived.WalkKit
import Derived.ProofKit
import Derived.OpenShut
import Derived.ShutString
import Derived.ChangeOld
import Derived.Lib.SmallJoins
import Derived.Lay
import Derived.Test.YtkjkipkfndckfaaGreatDoorQRL2
import Derived.Test.YtkjkipkfndckfaaGreatDoorQRL3
import Derived.Laws.BitsAllLaws
import Derived.Lib.ItoaLen
import Derived.KernelRfl
/- From a law's contract to its row: how what is handed in reads. -/
namespace Go.Proofs.YtkjkipkfndckfaaGreatDoor.AE
open Go Go.RowKit Go.WideShapes Go.ChangeAt Go.ChangeShapes

/-- values as a program has them -/
def Ty.ok : (t : Ty) → t.den → Prop
  | .int k, n => (Lit.int k n).wf = true
  | .bool, _ => True
  | .str, s => ByteArray.size s ≤ 9223372036854775807
  | .sl t, l => List.length (α := t.den) l ≤ 9223372036854775807 ∧ ∀ (i : Nat) (x : t.den), at? (α := t.den) l i = some x → t.ok x
  | .wrap t, x => t.ok x
  | .pair a b, x => a.ok x.1 ∧ b.ok x.2

theorem listed {α : Type} {Q : Nat → α → Prop} : ∀ n : Nat, (∀ i, i < n → ∃ y, Q i y) → ∃ l : List α, l.length = n ∧ ∀ (i : Nat) (x : α), at? l i = some x → Q i x
  | 0, _ => ⟨[], rfl, fun i x h => by cases h⟩
  | n + 1, h => by
    obtain ⟨l, h1, h2⟩ := listed n fun i hi => h i (by omega)
    obtain ⟨y, hy⟩ := h n (by omega)
    refine ⟨l ++ [y], by simp [h1], fun i x hx => ?_⟩
    unfold at? at hx
    by_cases hi : i < n
    · rw [List.getElem?_append_left (by omega)] at hx; exact h2 i x hx
    · have : i < (l ++ [y]).length := (List.getElem?_eq_some_iff.1 hx).1
      simp at this
      obtain rfl : i = n := by omega
      rw [List.getElem?_append_right (by omega)] at hx
      simp [h1] at hx
      exact hx ▸ hy

section
variable {H : Type} {enc : TypeId × Value → H} {P : Program} {w : World}
abbrev N0 : Nat → Prop := fun _ => False

def OpenT (enc : TypeId × Value → H) (P : Program) (w : World) (t : Ty) : Prop := ∀ (n : Nat) (i : TypeId) (fuel : Nat) (cs : List Value) (x : DataW H × List MemPlace),
  chk P n t i = true → DataW.trod enc P w 0 (fun _ => true) true fuel i cs = some x → ∃ y : t.den, t.relc w N0 y cs ∧ t.ok y
def OpenR (enc : TypeId × Value → H) (P : Program) (w : World) (t : Ty) : Prop := ∀ (n : Nat) (fs : List Field) (off : Nat) (m : Nat) (cs : List Value),
  chkR (chk P n) t fs off = true → cs.length = off + t.sz → (∀ (j : Nat) f, fs[j]? = some f → ∃ z, DataW.trod enc P w 0 (fun _ => true) true m f.type ((cs.drop f.offset).take (P.cellsOf f.type)) = some z) →
    ∃ y : t.den, t.relc w N0 y (cs.drop off) ∧ t.ok y
theorem chk_cells {n : Nat} {t : Ty} {i : TypeId} (h : chk P n t i = true) : P.cellsOf i = t.sz := by
  obtain ⟨f, z, h1, h2, _⟩ := Is.info ⟨n, h⟩
  simp [Program.cellsOf, h1, h2]
theorem openR_one {t : Ty} (ht : OpenT enc P w t) {n : Nat} {f : Field} {off m : Nat} {cs : List Value} (h : (f.offset == off && chk P n t f.type) = true) (hl : cs.length = off + t.sz)
    (hz : ∃ z, DataW.trod enc P w 0 (fun _ => true) true m f.type ((cs.drop f.offset).take (P.cellsOf f.type)) = some z) : ∃ y : t.den, t.relc w N0 y (cs.drop off) ∧ t.ok y := by
  rw [Bool.and_eq_true, beq_iff_eq] at h
  obtain ⟨rfl, hc⟩ := h
  obtain ⟨z, hz⟩ := hz
  rw [chk_cells hc, List.take_of_length_le (by rw [List.length_drop]; omega)] at hz
  exact ht n _ _ _ _ hc hz
theorem open_all (t : Ty) : OpenT enc P w t ∧ OpenR enc P w t := by
  have base : ∀ t : Ty, (∀ a b, t ≠ .pair a b) → OpenT enc P w t → OpenR enc P w t := by
    intro t hn ht n fs off m cs h hl hz
    cases fs with
    | nil => simp [chkR] at h
    | cons f r =>
      cases r with
      | nil => exact openR_one ht (by cases t <;> simpa [chkR] using h) hl (hz 0 f rfl)
      | cons g r => cases t <;> first | exact absurd rfl (hn _ _) | simp [chkR] at h
  induction t with
  | int k =>
    refine (fun h => ⟨h, base _ (fun _ _ h => by cases h) h⟩) ?_
    intro n i fuel cs x hc hx
    obtain ⟨z, h1, _, h2⟩ := DataW.trod_int (Is.desc ⟨n, hc⟩) hx
    exact ⟨z, h1, h2⟩
  | bool =>
    refine (fun h => ⟨h, base _ (fun _ _ h => by cases h) h⟩) ?_
    intro n i fuel cs x hc hx
    obtain ⟨z, h1, _⟩ := DataW.trod_bool (Is.desc ⟨n, hc⟩) hx
    exact ⟨z, h1, trivial⟩
  | str =>
    refine (fun h => ⟨h, base _ (fun _ _ h => by cases h) h⟩) ?_
    intro n i fuel cs x hc hx
    obtain ⟨z, h1, _, h2⟩ := DataW.trod_string (Is.desc ⟨n, hc⟩) hx
    exact ⟨z, h1, h2⟩
  | sl t ih =>
    refine (fun h => ⟨h, base _ (fun _ _ h => by cases h) h⟩) ?_
    intro n i fuel cs x hc hx
    obtain ⟨e, h1, h2⟩ := Is.desc ⟨n, hc⟩
    obtain ⟨k, h2⟩ := h2
    rcases DataW.trod_slice h1 hx with ⟨rfl, _⟩ | ⟨a, len, cap, elems, rest, m, _, rfl, _, _, hl, hm, hel, hcell, _⟩
    · exact ⟨([] : List t.den), ⟨none, 0, rfl, Nat.le_refl _, Nat.zero_le _, fun h => absurd h (Nat.lt_irrefl _)⟩, Nat.zero_le _, fun i x h => by cases h⟩
    · rw [chk_cells h2] at hcell
      obtain ⟨l, hll, hlq⟩ := listed (Q := fun j (y : t.den) => ∃ ds, t.relc w N0 y ds ∧ t.ok y ∧ ∀ (q : Nat) u, ds[q]? = some u → w.cell? (a.add (j * t.sz + q)) = some u) len (by
        intro j hj
        have hb := hcell j hj
        obtain ⟨el, hel'⟩ : ∃ z, elems[j]? = some z := ⟨_, List.getElem?_eq_getElem (by omega)⟩
        rw [hel'] at hb
        obtain ⟨ds, hd1, hd2⟩ := Option.bind_eq_some_iff.1 hb
        obtain ⟨_, hlen, hcs⟩ := World.cells?_some hd1
        obtain ⟨y, hy1, hy2⟩ := ih.1 k e m ds el h2 hd2
        refine ⟨y, ds, hy1, hy2, fun q u hu => ?_⟩
        have hq : q < t.sz := by have := (List.getElem?_eq_some_iff.1 hu).1; omega
        have := hcs q hq
        rw [Addr.add_add] at this
        rw [this, hu])
      refine ⟨l, ⟨some a, cap, by show _ = [Value.slice (some a) (List.length l) cap]; rw [hll], by show List.length l ≤ cap; omega, hm, fun _ => ⟨a, rfl, fun h => h, fun i x hx => ?_⟩⟩, by show List.length l ≤ _; have : maxLen = 9223372036854775807 := rfl; omega, fun i x hx => ?_⟩
      · obtain ⟨ds, h3, _, h4⟩ := hlq i x hx; exact ⟨ds, h3, h4⟩
      · obtain ⟨ds, _, h3, _⟩ := hlq i x hx; exact h3
  | wrap t ih =>
    refine (fun h => ⟨h, base _ (fun _ _ h => by cases h) h⟩) ?_
    intro n i fuel cs x hc hx
    obtain ⟨f, h1, h2, k, h3⟩ := Is.desc ⟨n, hc⟩
    obtain ⟨xs, m, _, _, hl, hlen, hf⟩ := DataW.trod_struct h1 hx
    rw [chk_cells hc] at hl
    have h4 := hf 0 f rfl
    rw [h2, chk_cells h3, List.drop_zero, List.take_of_length_le (by rw [hl]; exact Nat.le_refl _)] at h4
    obtain ⟨z, hz⟩ : ∃ z, xs[0]? = some z := ⟨_, List.getElem?_eq_getElem (by rw [hlen]; exact Nat.one_pos)⟩
    rw [hz] at h4
    exact ih.1 k _ _ _ _ h3 h4
  | pair a b iha ihb =>
    have hT : OpenT enc P w (.pair a b) := by
      intro n i fuel cs x hc hx
      obtain ⟨f, g, r, h1, h2, k, h3, h4⟩ := Is.desc ⟨n, hc⟩
      obtain ⟨xs, m, _, _, hl, hlen, hf⟩ := DataW.trod_struct h1 hx
      rw [chk_cells hc] at hl
      have hl : cs.length = a.sz + b.sz := hl
      have hsome : ∀ (j : Nat) f', (f :: g :: r)[j]? = some f' → ∃ z, DataW.trod enc P w 0 (fun _ => true) true m f'.type ((cs.drop f'.offset).take (P.cellsOf f'.type)) = some z := by
        intro j f' hj
        have h5 := hf j f' (by simpa using hj)
        have hj' : j < xs.length := by rw [hlen]; simpa using (List.getElem?_eq_some_iff.1 hj).1
        exact ⟨xs[j], by rw [h5, List.getElem?_eq_getElem hj']⟩
      obtain ⟨z, hz⟩ := hsome 0 f rfl
      rw [h2, chk_cells h3, List.drop_zero] at hz
      obtain ⟨y1, r1, o1⟩ := iha.1 k _ _ _ _ h3 hz
      obtain ⟨y2, r2, o2⟩ := ihb.2 k (g :: r) a.sz m cs h4 hl (fun j f' hj => hsome (j + 1) f' (by simpa using hj))
      exact ⟨(y1, y2), ⟨_, _, (List.take_append_drop a.sz cs).symm, r1, r2⟩, o1, o2⟩
    refine ⟨hT, ?_⟩
    intro n fs off m cs h hl hz
    cases fs with
    | nil => simp [chkR] at h
    | cons f r =>
      cases r with
      | nil => exact openR_one hT (by simpa [chkR] using h) hl (hz 0 f rfl)
      | cons g r =>
        simp only [chkR, Bool.and_eq_true, beq_iff_eq] at h
        obtain ⟨⟨rfl, hc⟩, hr⟩ := h
        have hl : cs.length = f.offset + (a.sz + b.sz) := hl
        obtain ⟨z, hz0⟩ := hz 0 f rfl
        rw [chk_cells hc] at hz0
        obtain ⟨y1, r1, o1⟩ := iha.1 n _ _ _ _ hc hz0
        obtain ⟨y2, r2, o2⟩ := ihb.2 n (g :: r) (f.offset + a.sz) m cs hr (by omega) (fun j f' hj => hz (j + 1) f' (by simpa using hj))
        refine ⟨(y1, y2), ⟨_, _, ?_, r1, r2⟩, o1, o2⟩
        rw [← List.drop_drop, List.take_append_drop]

/-- What is handed in is a value. -/
theorem open_v {t : Ty} {i : TypeId} {b0 : Nat} {r : Reach} {v : Value} {d : DataW H} {p : List MemPlace} (hi : Is P t i) (hv : Value.okWide P w r b0 i v) (h : DataW.Trod enc P w 0 (fun _ => true) true i v d p) :
    ∃ y : t.den, t.ok y ∧ t.rel w N0 y v := by
  obtain ⟨fuel, hf⟩ := h
  obtain ⟨n, hn⟩ := hi
  obtain ⟨y, h1, h2⟩ := (open_all (enc := enc) (P := P) (w := w) t).1 n i fuel _ _ hn hf
  refine ⟨y, h2, _, h1, ?_⟩
  have hd := Is.desc ⟨n, hn⟩
  have flat : t.agg = false → v.cells = #[v] → v = t.val v.cells.toList := by
    intro ha hc
    rw [hc]
    unfold Ty.val
    rw [ha]
    rfl
  have aggr : t.agg = true → (∃ cs, v = .agg cs) → v = t.val v.cells.toList := by
    rintro ha ⟨cs, rfl⟩
    unfold Ty.val
    rw [ha]
    rfl
  cases t with
  | int k => obtain ⟨z, rfl⟩ := okWide_int hd hv; exact flat rfl rfl
  | bool => obtain ⟨z, rfl⟩ := okWide_bool hd hv; exact flat rfl rfl
  | str => obtain ⟨z, rfl⟩ := okWide_string hd hv; exact flat rfl rfl
  | sl t => obtain ⟨e, hd, _⟩ := hd; obtain ⟨a, l, c, rfl⟩ := okWide_slice hd hv; exact flat rfl rfl
  | wrap t => obtain ⟨f, hd, _⟩ := hd; obtain ⟨cs, rfl, _⟩ := okWide_struct hd hv; exact aggr rfl ⟨_, rfl⟩
  | pair a b => obtain ⟨f, g, r, hd, _⟩ := hd; obtain ⟨cs, rfl, _⟩ := okWide_struct hd hv; exact aggr rfl ⟨_, rfl⟩
end

/-- a law holds of all arguments -/
def LawArgs : List Ty → (List AV → Prop) → Prop
  | [], Q => Q []
  | t :: r, Q => ∀ y : t.den, t.ok y → LawArgs r (fun l => Q (.v t y :: l))
theorem law_calls {P : Program} {f : Nat} {avs : List AV} {W : World} {args : List Value} (hG : Glo W) (h : Spec P f avs (.v .bool true) []) (hr : AV.rels W N0 (fun _ => (0, 0)) [] avs args) :
    Calls P f args.toArray W fun e W' => e = .returned (.bool true) ∧ Below W.heap.size W W' := by
  refine (h N0 W args hG (fun _ h => h.elim) hr).mono fun e W' ⟨u, loc, he, _, hu, hb⟩ => ?_
  obtain ⟨cs, hc, rfl⟩ := hu
  have hc : cs = [.bool true] := hc
  subst hc
  exact ⟨he, hb⟩
end Go.Proofs.YtkjkipkfndckfaaGreatDoor.AE
/- Plain facts on numbers by digits of any base, and on lists: no program in sight. -/
namespace Go.Proofs.YtkjkipkfndckfaaGreatDoor.Tri

def dv (B : Int) : List Int → Int
  | [] => 0
  | x :: xs => x + B * dv B xs

def Dig (B : Int) (l : List Int) : Prop := ∀ x, x ∈ l → 0 ≤ x ∧ x < B

/-- no nought at the end -/
def Top (l : List Int) : Prop := l.getLast? ≠ some 0

def Can (B : Int) (l : List Int) : Prop := Dig B l ∧ Top l

theorem dv_nil (B : Int) : dv B [] = 0 := rfl
theorem dv_cons (B x : Int) (xs : List Int) : dv B (x :: xs) = x + B * dv B xs := rfl
theorem dv_one (B x : Int) : dv B [x] = x := by simp [dv]

theorem dv_append (B : Int) (a b : List Int) : dv B (a ++ b) = dv B a + B ^ a.length * dv B b := by
  induction a with
  | nil => simp [dv]
  | cons x xs ih =>
    simp only [List.cons_append, dv, ih, List.length_cons, Int.pow_succ]
    grind

theorem dv_snoc (B : Int) (a : List Int) (x : Int) : dv B (a ++ [x]) = dv B a + B ^ a.length * x := by
  rw [dv_append, dv_one]

theorem Dig.nil (B : Int) : Dig B [] := fun _ h => by simp at h
theorem Dig.cons {B x : Int} {l : List Int} (h : 0 ≤ x ∧ x < B) (hl : Dig B l) : Dig B (x :: l) := by
  intro y hy
  rcases List.mem_cons.1 hy with rfl | hy
  · exact h
  · exact hl y hy
theorem Dig.head {B x : Int} {l : List Int} (h : Dig B (x :: l)) : 0 ≤ x ∧ x < B := h x (by simp)
theorem Dig.tail {B x : Int} {l : List Int} (h : Dig B (x :: l)) : Dig B l := fun y hy => h y (by simp [hy])
theorem Dig.append {B : Int} {a b : List Int} (ha : Dig B a) (hb : Dig B b) : Dig B (a ++ b) := by
  intro y hy
  rcases List.mem_append.1 hy with hy | hy
  · exact ha y hy
  · exact hb y hy
theorem Dig.snoc {B x : Int} {l : List Int} (hl : Dig B l) (h : 0 ≤ x ∧ x < B) : Dig B (l ++ [x]) :=
  hl.append (Dig.cons h (Dig.nil B))
theorem Dig.left {B : Int} {a b : List Int} (h : Dig B (a ++ b)) : Dig B a := fun y hy => h y (by simp [hy])
theorem Dig.right {B : Int} {a b : List Int} (h : Dig B (a ++ b)) : Dig B b := fun y hy => h y (by simp [hy])
theorem Dig.take {B : Int} {a : List Int} (h : Dig B a) (n : Nat) : Dig B (a.take n) := fun y hy => h y (List.mem_of_mem_take hy)
theorem Dig.drop {B : Int} {a : List Int} (h : Dig B a) (n : Nat) : Dig B (a.drop n) := fun y hy => h y (List.mem_of_mem_drop hy)
theorem Dig.set {B : Int} {a : List Int} (h : Dig B a) (n : Nat) {v : Int} (hv : 0 ≤ v ∧ v < B) : Dig B (a.set n v) := by
  intro y hy
  rcases List.mem_or_eq_of_mem_set hy with hy | rfl
  · exact h y hy
  · exact hv
theorem Dig.replicate {B : Int} (hB : 0 < B) (n : Nat) : Dig B (List.replicate n 0) := by
  intro y hy
  have := (List.mem_replicate.1 hy).2
  subst this; omega

theorem dv_nonneg {B : Int} (hB : 0 < B) {l : List Int} (h : Dig B l) : 0 ≤ dv B l := by
  induction l with
  | nil => simp [dv]
  | cons x xs ih =>
    have h1 := h.head
    have h2 := ih h.tail
    have := Int.mul_nonneg (Int.le_of_lt hB) h2
    simp only [dv]; omega

theorem pow_pos' {B : Int} (hB : 0 < B) (n : Nat) : 0 < B ^ n := Int.pow_pos hB

theorem dv_lt {B : Int} (hB : 0 < B) {l : List Int} (h : Dig B l) : dv B l < B ^ l.length := by
  induction l with
  | nil => simp [dv]
  | cons x xs ih =>
    have h1 := h.head
    have h2 := ih h.tail
    have : B * (dv B xs + 1) ≤ B * B ^ xs.length := Int.mul_le_mul_of_nonneg_left (by omega) (Int.le_of_lt hB)
    simp only [dv, List.length_cons, Int.pow_succ]
    grind

theorem dv_replicate (B : Int) (n : Nat) : dv B (List.replicate n 0) = 0 := by
  induction n with
  | zero => rfl
  | succ n ih => simp [List.replicate_succ, dv, ih]

theorem dv_append_zeros (B : Int) (a : List Int) (n : Nat) : dv B (a ++ List.replicate n 0) = dv B a := by
  rw [dv_append, dv_replicate]; simp

/-- two lists of digits of one length and one value are the same -/
theorem dv_inj_len {B : Int} (hB : 0 < B) : ∀ {a b : List Int}, Dig B a → Dig B b → a.length = b.length → dv B a = dv B b → a = b
  | [], [], _, _, _, _ => rfl
  | [], _ :: _, _, _, h, _ => by simp at h
  | _ :: _, [], _, _, h, _ => by simp at h
  | x :: xs, y :: ys, ha, hb, hl, hv => by
    have h1 := ha.head
    have h2 := hb.head
    simp only [dv] at hv
    have e1 : (x + B * dv B xs) % B = x := by rw [Int.add_mul_emod_self_left, Int.emod_eq_of_lt h1.1 h1.2]
    have e2 : (y + B * dv B ys) % B = y := by rw [Int.add_mul_emod_self_left, Int.emod_eq_of_lt h2.1 h2.2]
    have hxy : x = y := by rw [← e1, ← e2, hv]
    subst hxy
    have h3 : B * dv B xs = B * dv B ys := by omega
    have h4 : dv B xs = dv B ys := Int.eq_of_mul_eq_mul_left (by omega) h3
    rw [dv_inj_len hB ha.tail hb.tail (by simpa using hl) h4]

theorem Top.nil : Top [] := by simp [Top]
theorem Top.snoc {l : List Int} {x : Int} : Top (l ++ [x]) ↔ x ≠ 0 := by simp [Top]
theorem Can.nil (B : Int) : Can B [] := ⟨Dig.nil B, Top.nil⟩

theorem eq_snoc {α : Type} {l : List α} (h : l ≠ []) : ∃ a x, l = a ++ [x] :=
  ⟨l.dropLast, l.getLast h, (List.dropLast_concat_getLast h).symm⟩

theorem Can.ge {B : Int} (hB : 0 < B) {l : List Int} (h : Can B l) (hl : l ≠ []) : B ^ (l.length - 1) ≤ dv B l := by
  obtain ⟨a, x, rfl⟩ := eq_snoc hl
  have hx := Top.snoc.1 h.2
  have hd := h.1.right.head
  have ha := dv_nonneg hB h.1.left
  rw [dv_snoc]
  have : B ^ a.length * 1 ≤ B ^ a.length * x := Int.mul_le_mul_of_nonneg_left (by omega) (Int.le_of_lt (pow_pos' hB _))
  simp only [List.length_append, List.length_cons, List.length_nil, Nat.add_sub_cancel, Nat.zero_add]
  omega

theorem Can.pos {B : Int} (hB : 0 < B) {l : List Int} (h : Can B l) (hl : l ≠ []) : 0 < dv B l := by
  have := h.ge hB hl
  have := pow_pos' hB (l.length - 1)
  omega

theorem Can.eq_nil {B : Int} (hB : 0 < B) {l : List Int} (h : Can B l) : l = [] ↔ dv B l = 0 := by
  constructor
  · rintro rfl; rfl
  · intro hv
    apply Classical.byContradiction
    intro hl
    have := h.pos hB hl
    omega

theorem pow_mono {B : Int} (hB : 0 < B) {m n : Nat} (h : m ≤ n) : B ^ m ≤ B ^ n := by
  obtain ⟨d, rfl⟩ := Nat.exists_eq_add_of_le h
  rw [Int.pow_add]
  have h1 := pow_pos' hB m
  have h2 := pow_pos' hB d
  have : B ^ m * 1 ≤ B ^ m * B ^ d := Int.mul_le_mul_of_nonneg_left (by omega) (Int.le_of_lt h1)
  omega

/-- of two canonical lists the longer one is the greater -/
theorem Can.lt_of_length {B : Int} (hB : 0 < B) {a b : List Int} (ha : Dig B a) (hb : Can B b) (h : a.length < b.length) : dv B a < dv B b := by
  have h1 := dv_lt hB ha
  have hne : b ≠ [] := by rintro rfl; simp at h
  have h2 := hb.ge hB hne
  have h3 := pow_mono hB (show a.length ≤ b.length - 1 by omega)
  omega

theorem Can.inj {B : Int} (hB : 0 < B) {a b : List Int} (ha : Can B a) (hb : Can B b) (hv : dv B a = dv B b) : a = b := by
  rcases Nat.lt_trichotomy a.length b.length with h | h | h
  · have := Can.lt_of_length hB ha.1 hb h; omega
  · exact dv_inj_len hB ha.1 hb.1 h hv
  · have := Can.lt_of_length hB hb.1 ha h; omega

/-- without noughts at the end -/
def trimz : List Int → List Int
  | [] => []
  | x :: xs => if trimz xs = [] ∧ x = 0 then [] else x :: trimz xs

theorem trimz_dig {B : Int} {l : List Int} (h : Dig B l) : Dig B (trimz l) := by
  induction l with
  | nil => exact h
  | cons x xs ih =>
    simp only [trimz]; split
    · exact Dig.nil B
    · exact Dig.cons h.head (ih h.tail)

theorem trimz_top (l : List Int) : Top (trimz l) := by
  induction l with
  | nil => exact Top.nil
  | cons x xs ih =>
    simp only [trimz]; split
    · exact Top.nil
    · rename_i hn
      by_cases he : trimz xs = []
      · rw [he]; simp [Top]; intro hx; exact hn ⟨he, hx⟩
      · unfold Top; rw [List.getLast?_cons_of_ne_nil he]; exact ih

theorem trimz_dv (B : Int) (l : List Int) : dv B (trimz l) = dv B l := by
  induction l with
  | nil => rfl
  | cons x xs ih =>
    simp only [trimz]; split
    · rename_i h
      rw [h.1] at ih; simp only [dv] at *; rw [← ih, h.2]; simp
    · simp only [dv, ih]

theorem trimz_can {B : Int} {l : List Int} (h : Dig B l) : Can B (trimz l) := ⟨trimz_dig h, trimz_top l⟩

theorem trimz_snoc_zero (l : List Int) : trimz (l ++ [0]) = trimz l := by
  induction l with
  | nil => simp [trimz]
  | cons x xs ih => simp only [List.cons_append, trimz, ih]

theorem trimz_of_top {l : List Int} (h : Top l) : trimz l = l := by
  induction l with
  | nil => rfl
  | cons x xs ih =>
    simp only [trimz]
    by_cases he : xs = []
    · subst he
      have : x ≠ 0 := by simpa [Top] using h
      simp [trimz, this]
    · have ht : Top xs := by unfold Top at *; rwa [List.getLast?_cons_of_ne_nil he] at h
      rw [ih ht, if_neg (by simp [he])]

theorem trimz_length (l : List Int) : (trimz l).length ≤ l.length := by
  induction l with
  | nil => simp [trimz]
  | cons x xs ih => simp only [trimz]; split <;> simp <;> omega

end Go.Proofs.YtkjkipkfndckfaaGreatDoor.Tri
/- Plain facts for printed functions: numbers by digits, loops, reads. -/
namespace Go.Proofs.YtkjkipkfndckfaaGreatDoor.AP
open Go Go.Proofs.YtkjkipkfndckfaaGreatDoor.Tri
set_option linter.unusedVariables false

/-! loops, round by round -/
def go_ {S X : Type} : Option (S ⊕ X) → (S → Option X) → Option X
  | none, _ => none
  | some (.inl s), k => k s
  | some (.inr x), _ => some x
@[simp] theorem go_inl {S X : Type} (s : S) (k : S → Option X) : go_ (some (.inl s)) k = k s := rfl
@[simp] theorem go_inr {S X : Type} (x : X) (k : S → Option X) : go_ (some (.inr x)) k = some x := rfl
theorem lp_go {S X : Type} (f : S → Option (S ⊕ X)) (s : S) : lp f s = go_ (f s) (lp f) := by
  rw [lp_eq]
  cases f s with
  | none => rfl
  | some z => cases z <;> rfl
/-- the place of the first one that has p; the length where there is none -/
def fst_ {α : Type} (p : α → Bool) : List α → Nat
  | [] => 0
  | x :: l => if p x then 0 else fst_ p l + 1
/-- where the first one is, -1: nowhere -/
def idx {α : Type} (p : α → Bool) (l : List α) : Int := if fst_ p l < l.length then (fst_ p l : Int) else -1
/-! reads of numbers -/
def gI (l : List Int) (i : Int) : Int := l.getD i.toNat 0
theorem rd_I {l : List Int} {i : Int} (h0 : 0 ≤ i) (h1 : i < l.length) : rd l i = some (gI l i) := rd_getD 0 h0 h1
theorem gI_dig {B : Int} {l : List Int} (h : Dig B l) (hB : 0 < B) (i : Int) : 0 ≤ gI l i ∧ gI l i < B := by
  unfold gI
  rw [List.getD_eq_getElem?_getD]
  cases hx : l[i.toNat]? with
  | none => exact ⟨Int.le_refl _, hB⟩
  | some x => exact h x (List.mem_of_getElem? hx)
theorem take_gI (B : Int) : ∀ (l : List Int) (i : Nat), i < l.length → dv B (l.take (i + 1)) = dv B (l.take i) + B ^ i * gI l (i : Int) := by
  intro l i h
  rw [List.take_add_one, List.getElem?_eq_getElem h]
  simp only [Option.toList]
  rw [dv_snoc, List.length_take, Nat.min_eq_left (Nat.le_of_lt h)]
  simp [gI, h]
theorem drop_gI (l : List Int) (q : Nat) (h : q < l.length) : l.drop q = gI l (q : Int) :: l.drop (q + 1) := by
  rw [List.drop_eq_getElem_cons h]; simp [gI, h]
theorem gI_last (a : List Int) (x : Int) : gI (a ++ [x]) (a.length : Int) = x := by simp [gI]

/-! numbers of a value -/
def num (B : Nat) (x : Nat) : List Int := if h : 1 < B ∧ 0 < x then ((x % B : Nat) : Int) :: num B (x / B) else []
termination_by x
decreasing_by exact Nat.div_lt_self h.2 h.1
theorem num_dv {B : Nat} (hB : 1 < B) : ∀ x : Nat, dv (B : Int) (num B x) = x := by
  intro x
  induction x using Nat.strongRecOn with
  | _ x ih =>
    rw [num]
    by_cases h : 0 < x
    · rw [dif_pos ⟨hB, h⟩, dv, ih _ (Nat.div_lt_self h hB)]
      have := Nat.mod_add_div x B
      have e : ((x % B : Nat) : Int) + (B : Int) * ((x / B : Nat) : Int) = ((x % B + B * (x / B) : Nat) : Int) := by push_cast; rfl
      rw [e, this]
    · rw [dif_neg (by omega)]
      have : x = 0 := by omega
      rw [this]; rfl
theorem num_can {B : Nat} (hB : 1 < B) : ∀ x : Nat, Tri.Can (B : Int) (num B x) := by
  intro x
  induction x using Nat.strongRecOn with
  | _ x ih =>
    rw [num]
    by_cases h : 0 < x
    · rw [dif_pos ⟨hB, h⟩]
      have hc := ih _ (Nat.div_lt_self h hB)
      have hm := Nat.mod_lt x (show 0 < B by omega)
      refine ⟨Dig.cons ⟨by omega, by omega⟩ hc.1, ?_⟩
      by_cases he : num B (x / B) = []
      · rw [he]
        have h0 : x / B = 0 := by
          have := num_dv hB (x / B)
          rw [he] at this
          have h2 : ((x / B : Nat) : Int) = 0 := this.symm
          omega
        have h1 : x % B = x := by have := Nat.mod_add_div x B; rw [h0, Nat.mul_zero] at this; omega
        rw [h1]
        simp [Top]
        omega
      · unfold Top
        rw [List.getLast?_cons_of_ne_nil he]
        exact hc.2
    · rw [dif_neg (by omega)]
      exact Tri.Can.nil _
theorem can_num {B : Nat} (hB : 1 < B) {l : List Int} (h : Tri.Can (B : Int) l) : l = num B (dv (B : Int) l).toNat := by
  refine Tri.Can.inj (by omega) h (num_can hB _) ?_
  rw [num_dv hB]
  have := dv_nonneg (B := (B : Int)) (by omega) h.1
  omega
def nl (x : Int) : List Int := num 4294967296 x.toNat
def zl (x : Int) : List Int := num 10000 x.toNat
theorem nl_can (x : Int) : Tri.Can (4294967296 : Int) (nl x) := num_can (by decide) _
theorem zl_can (x : Int) : Tri.Can (10000 : Int) (zl x) := num_can (by decide) _
theorem nl_dv {x : Int} (h : 0 ≤ x) : dv (4294967296 : Int) (nl x) = x := by
  have := num_dv (B := 4294967296) (by decide) x.toNat
  have e : ((4294967296 : Nat) : Int) = (4294967296 : Int) := rfl
  rw [e] at this
  unfold nl
  rw [this]; omega
theorem zl_dv {x : Int} (h : 0 ≤ x) : dv (10000 : Int) (zl x) = x := by
  have := num_dv (B := 10000) (by decide) x.toNat
  have e : ((10000 : Nat) : Int) = (10000 : Int) := rfl
  rw [e] at this
  unfold zl
  rw [this]; omega
theorem can_nl {d : List Int} (h : Tri.Can (4294967296 : Int) d) {x : Int} (hx : dv (4294967296 : Int) d = x) : d = nl x := by
  have h2 := can_num (B := 4294967296) (by decide) h
  rw [h2]; unfold nl; congr 2
theorem can_zl {d : List Int} (h : Tri.Can (10000 : Int) d) {x : Int} (hx : dv (10000 : Int) d = x) : d = zl x := by
  have h2 := can_num (B := 10000) (by decide) h
  rw [h2]; unfold zl; congr 2
theorem trimz_nl {d : List Int} (h : Dig (4294967296 : Int) d) {x : Int} (hx : dv (4294967296 : Int) d = x) : trimz d = nl x := can_nl (trimz_can h) (by rw [trimz_dv, hx])
theorem trimz_zl {d : List Int} (h : Dig (10000 : Int) d) {x : Int} (hx : dv (10000 : Int) d = x) : trimz d = zl x := can_zl (trimz_can h) (by rw [trimz_dv, hx])
theorem nl_zero : nl 0 = [] := by unfold nl; rw [num]; simp
theorem zl_zero : zl 0 = [] := by unfold zl; rw [num]; simp
theorem nl_nil {x : Int} (h : 0 ≤ x) : nl x = [] ↔ x = 0 := by
  rw [Can.eq_nil (by decide) (nl_can x), nl_dv h]
theorem zl_nil {x : Int} (h : 0 ≤ x) : zl x = [] ↔ x = 0 := by
  rw [Can.eq_nil (by decide) (zl_can x), zl_dv h]
theorem can_len {B : Int} (hB : 1 < B) {l : List Int} (h : Tri.Can B l) {n : Nat} (hx : dv B l < B ^ n) : l.length ≤ n := by
  apply Nat.le_of_not_lt
  intro hlt
  have hne : l ≠ [] := by rintro rfl; simp at hlt
  have h1 := h.ge (by omega) hne
  have h2 := pow_mono (B := B) (by omega) (show n ≤ l.length - 1 by omega)
  omega
theorem zl_len {x : Int} (h0 : 0 ≤ x) {n : Nat} (hx : x < (10000 : Int) ^ n) : (zl x).length ≤ n := can_len (by decide) (zl_can x) (by rw [zl_dv h0]; exact hx)
theorem nl_len {x : Int} (h0 : 0 ≤ x) {n : Nat} (hx : x < (4294967296 : Int) ^ n) : (nl x).length ≤ n := can_len (by decide) (nl_can x) (by rw [nl_dv h0]; exact hx)
theorem zl_mono {x y : Int} (h0 : 0 ≤ x) (h : x ≤ y) : (zl x).length ≤ (zl y).length := by
  apply Nat.le_of_not_lt
  intro hlt
  have := Can.lt_of_length (by decide) (zl_can y).1 (zl_can x) hlt
  rw [zl_dv h0, zl_dv (by omega)] at this; omega
theorem nl_mono {x y : Int} (h0 : 0 ≤ x) (h : x ≤ y) : (nl x).length ≤ (nl y).length := by
  apply Nat.le_of_not_lt
  intro hlt
  have := Can.lt_of_length (by decide) (nl_can y).1 (nl_can x) hlt
  rw [nl_dv h0, nl_dv (by omega)] at this; omega
theorem pow_le {a b : Int} (ha : 0 ≤ a) (h : a ≤ b) : ∀ n : Nat, a ^ n ≤ b ^ n
  | 0 => by simp
  | n + 1 => by
    rw [Int.pow_succ, Int.pow_succ]
    exact Int.mul_le_mul (pow_le ha h n) h ha (Int.pow_nonneg (by omega))
theorem lb_zb (n : Nat) : (4294967296 : Int) ^ n ≤ (10000 : Int) ^ (3 * n) := by
  rw [Int.pow_mul]; exact pow_le (by decide) (by decide) n
theorem zb_lb (n : Nat) : (10000 : Int) ^ n ≤ (4294967296 : Int) ^ n := pow_le (by decide) (by decide) n
/-- sign -/
def sg (x : Int) : Int := if x < 0 then -1 else if 0 < x then 1 else 0
end Go.Proofs.YtkjkipkfndckfaaGreatDoor.AP
/- The document's numbers, as printed: what they come to. -/
namespace Go.Proofs.YtkjkipkfndckfaaGreatDoor.AP
open Go Go.Proofs.YtkjkipkfndckfaaGreatDoor.Tri
set_option linter.unusedVariables false
set_option linter.unusedSimpArgs false
theorem split_last {n : Nat} {a : List Int} (h : a.length = n + 1) : ∃ d x, a = d ++ [x] ∧ d.length = n := by
  have hne : a ≠ [] := by rintro rfl; simp at h
  obtain ⟨d, x, rfl⟩ := eq_snoc hne
  exact ⟨d, x, rfl, by simpa using h⟩
theorem refTrim_loop (p0 : List Int) (hl : p0.length ≤ 4611686018427387904) : ∀ (n : Nat) (a b : List Int), a.length = n → p0 = a ++ b → ∃ k : Nat, lp (m_triviumref02_Trim_l1 p0) (n : Int) = some (k : Int) ∧ k ≤ n ∧ a.take k = trimz a
  | 0, a, b, h, hp => by
    have : a = [] := List.eq_nil_of_length_eq_zero h
    subst this
    exact ⟨0, by rw [lp_go]; simp [m_triviumref02_Trim_l1], Nat.le_refl _, rfl⟩
  | n + 1, a, b, h, hp => by
    obtain ⟨d, x, rfl, hd⟩ := split_last h
    have hlen : p0.length = n + 1 + b.length := by rw [hp]; simp [hd]; omega
    have hx : gI p0 (n : Int) = x := by rw [hp, List.append_assoc]; unfold gI; rw [List.getD_eq_getElem?_getD, List.getElem?_append_right (by simp [hd])]; simp [hd]
    have hstep : m_triviumref02_Trim_l1 p0 ((n + 1 : Nat) : Int) = if x = 0 then some (.inl (n : Int)) else some (.inr ((n + 1 : Nat) : Int)) := by
      have e1 : wi64 (((n + 1 : Nat) : Int) - 1) = (n : Int) := by rw [wi64_eq (by omega) (by omega)]; omega
      have e2 : rd p0 (n : Int) = some x := by rw [rd_I (by omega) (by omega), hx]
      have e3 : decide (0 < ((n + 1 : Nat) : Int)) = true := decide_eq_true (by omega)
      simp only [m_triviumref02_Trim_l1, e3, if_true, e1, e2, bd_some, decide_eq_true_eq]
    by_cases h0 : x = 0
    · subst h0
      rw [lp_more (by rw [hstep, if_pos rfl])]
      obtain ⟨k, h1, h2, h3⟩ := refTrim_loop p0 hl n d ([0] ++ b) hd (by rw [hp]; simp)
      refine ⟨k, h1, by omega, ?_⟩
      rw [trimz_snoc_zero, ← h3, List.take_append_of_le_length (by omega)]
    · refine ⟨n + 1, lp_done (by rw [hstep, if_neg h0]), Nat.le_refl _, ?_⟩
      rw [List.take_of_length_le (by omega), trimz_of_top (Top.snoc.2 h0)]
theorem refTrim_eq (a : List Int) (hl : a.length ≤ 10000000000000) : m_triviumref02_Trim a = some (trimz a) := by
  obtain ⟨k, h1, h2, h3⟩ := refTrim_loop a (by omega) a.length a [] rfl (by simp)
  unfold m_triviumref02_Trim
  rw [h1, bd_some, ct_of (by omega), bd_some, ap_of (by simp; omega), bd_some]
  simp [h3]
theorem carry_loop : ∀ (n : Nat) (c : Int) (d : List Int), 0 ≤ c → c < (10000 : Int) ^ n → c < 1000000000000000000 → Dig (10000 : Int) d → d.length + n ≤ 1000000000000 →
    ∃ r, lp m_triviumref02_MulAdd_l2 (c, d) = some r ∧ Dig (10000 : Int) r ∧ dv (10000 : Int) r = dv (10000 : Int) d + (10000 : Int) ^ d.length * c ∧ r.length ≤ d.length + n
  | n, c, d, h0, h1, h2, hd, hl => by
    by_cases hc : 0 < c
    · cases n with
      | zero => simp at h1; omega
      | succ n =>
        have e1 : m_triviumref02_MulAdd_l2 (c, d) = some (.inl (c / (10000 : Int), d ++ [c % (10000 : Int)])) := by
          simp only [m_triviumref02_MulAdd_l2, decide_eq_true hc, if_true, rm_of h0 (show (0 : Int) < 10000 by decide), bd_some, ap_of (l := d) (m := [c % 10000]) (b := 8) (by simp; omega), qd64 h0 (show (0 : Int) < 10000 by decide) (by omega)]
        have hq : c / (10000 : Int) < (10000 : Int) ^ n := Int.ediv_lt_of_lt_mul (by decide) (by rw [← Int.pow_succ]; exact h1)
        obtain ⟨r, r1, r2, r3, r4⟩ := carry_loop n (c / (10000 : Int)) (d ++ [c % (10000 : Int)]) (Int.ediv_nonneg h0 (by decide)) hq (by have : c / (10000 : Int) ≤ c := Int.ediv_le_self _ h0; omega) (Dig.snoc hd ⟨by omega, by omega⟩) (by simp; omega)
        refine ⟨r, by rw [lp_more e1]; exact r1, r2, ?_, by simp at r4; omega⟩
        rw [r3, dv_snoc, List.length_append, List.length_singleton, Int.pow_succ]
        have := Int.mul_ediv_add_emod c (10000 : Int)
        generalize (10000 : Int) ^ d.length = p at *
        generalize c / (10000 : Int) = q at *
        have e : c = (10000 : Int) * q + c % (10000 : Int) := this.symm
        generalize c % (10000 : Int) = m at *
        subst e
        grind
    · have : c = 0 := by omega
      subst this
      refine ⟨d, lp_done (by simp [m_triviumref02_MulAdd_l2]), hd, by simp, by omega⟩
theorem mulAdd_loop (p0 : List Int) (p1 : Int) (ha : Dig (10000 : Int) p0) (hm0 : 0 ≤ p1) (hm1 : p1 ≤ 4294967296) (hl : p0.length ≤ 100000000000) (c0 : Int) : ∀ (k i : Nat) (c : Int) (d : List Int), i + k = p0.length → d.length = i → 0 ≤ c → c ≤ 4294967296 → Dig (10000 : Int) d → dv (10000 : Int) d + (10000 : Int) ^ i * c = dv (10000 : Int) (p0.take i) * p1 + c0 →
    ∃ c' d', lp (m_triviumref02_MulAdd_l1 p0 p1) (c, (i : Int), d) = some (c', d') ∧ d'.length = p0.length ∧ 0 ≤ c' ∧ c' ≤ 4294967296 ∧ Dig (10000 : Int) d' ∧ dv (10000 : Int) d' + (10000 : Int) ^ p0.length * c' = dv (10000 : Int) p0 * p1 + c0
  | 0, i, c, d, hk, hi, h0, h1, hd, hv => by
    obtain rfl : i = p0.length := by omega
    refine ⟨c, d, lp_done (by simp [m_triviumref02_MulAdd_l1]), hi, h0, h1, hd, by rw [hv, List.take_length]⟩
  | k + 1, i, c, d, hk, hi, h0, h1, hd, hv => by
    have g := gI_dig ha (by decide) (i : Int)
    have hp0 : 0 ≤ gI p0 (i : Int) * p1 := Int.mul_nonneg g.1 hm0
    have hp1 : gI p0 (i : Int) * p1 ≤ 9999 * 4294967296 := Int.mul_le_mul (by omega) hm1 hm0 (by decide)
    generalize hx : c + gI p0 (i : Int) * p1 = x
    have hx0 : 0 ≤ x := by omega
    have e1 : m_triviumref02_MulAdd_l1 p0 p1 (c, (i : Int), d) = some (.inl (x / (10000 : Int), ((i + 1 : Nat) : Int), d ++ [x % (10000 : Int)])) := by
      have a1 : decide ((i : Int) < (p0.length : Int)) = true := decide_eq_true (by omega)
      have a2 : rd p0 (i : Int) = some (gI p0 (i : Int)) := rd_I (by omega) (by omega)
      have a3 : wi64 (gI p0 (i : Int) * p1) = gI p0 (i : Int) * p1 := wi64_eq (by omega) (by omega)
      have a4 : wi64 (c + gI p0 (i : Int) * p1) = x := by rw [hx]; exact wi64_eq (by omega) (by omega)
      have a5 : wi64 ((i : Int) + 1) = ((i + 1 : Nat) : Int) := by rw [wi64_eq (by omega) (by omega)]; omega
      simp only [m_triviumref02_MulAdd_l1, a1, if_true, a2, bd_some, a3, a4, rm_of hx0 (show (0 : Int) < 10000 by decide), ap_of (l := d) (m := [x % 10000]) (b := 8) (by simp; omega), qd64 hx0 (show (0 : Int) < 10000 by decide) (by omega), a5]
    obtain ⟨c', d', r1, r2⟩ := mulAdd_loop p0 p1 ha hm0 hm1 hl c0 k (i + 1) (x / (10000 : Int)) (d ++ [x % (10000 : Int)]) (by omega) (by simp [hi]) (Int.ediv_nonneg hx0 (by decide)) (by omega) (Dig.snoc hd ⟨by omega, by omega⟩) (by
      rw [dv_snoc, take_gI (10000 : Int) p0 i (by omega), hi, Int.pow_succ]
      have := Int.mul_ediv_add_emod x (10000 : Int)
      generalize (10000 : Int) ^ i = p at *
      generalize x / (10000 : Int) = q at *
      generalize x % (10000 : Int) = m at *
      generalize gI p0 (i : Int) = gg at *
      subst hx
      generalize dv (10000 : Int) (List.take i p0) = T at *
      have h3 : m = c + gg * p1 - (10000 : Int) * q := by omega
      subst h3
      grind)
    exact ⟨c', d', by rw [lp_more e1]; exact r1, r2⟩
theorem mulAdd_dig (a : List Int) (m c : Int) (ha : Dig (10000 : Int) a) (hm0 : 0 ≤ m) (hm1 : m ≤ 4294967296) (hc0 : 0 ≤ c) (hc1 : c ≤ 4294967296) (hl : a.length ≤ 100000000000) : m_triviumref02_MulAdd a m c = some (zl (dv (10000 : Int) a * m + c)) := by
  obtain ⟨c', d', h1, h2, h3, h4, h5, h6⟩ := mulAdd_loop a m ha hm0 hm1 hl c a.length 0 c [] (by omega) rfl hc0 hc1 (Dig.nil _) (by simp [dv])
  obtain ⟨r, r1, r2, r3, r4⟩ := carry_loop 3 c' d' h3 (by have : (10000 : Int) ^ 3 = 1000000000000 := by decide
                                                          omega) (by omega) h5 (by omega)
  unfold m_triviumref02_MulAdd
  rw [show ((0 : Int)) = ((0 : Nat) : Int) from rfl, h1, bd_some]
  dsimp only
  rw [r1, bd_some, refTrim_eq r (by omega), bd_some, trimz_zl r2 (by rw [r3, h2, h6])]
theorem mulAdd_eq (x m c : Int) (hx : 0 ≤ x) (hm0 : 0 ≤ m) (hm1 : m ≤ 4294967296) (hc0 : 0 ≤ c) (hc1 : c ≤ 4294967296) (hl : (zl x).length ≤ 100000000000) : m_triviumref02_MulAdd (zl x) m c = some (zl (x * m + c)) := by
  rw [mulAdd_dig _ _ _ (zl_can x).1 hm0 hm1 hc0 hc1 hl, zl_dv hx]
theorem of_loop (a : List Int) (ha : Dig (4294967296 : Int) a) (hl : a.length ≤ 30000000000) : ∀ (n : Nat), n ≤ a.length → lp (m_triviumref02_Of_l1 a) (zl (dv (4294967296 : Int) (a.drop n)), (n : Int) - 1) = some (zl (dv (4294967296 : Int) a))
  | 0, _ => by
    refine lp_done ?_
    simp [m_triviumref02_Of_l1]
  | n + 1, h => by
    have g := gI_dig ha (by decide) (n : Int)
    have hd : Dig (4294967296 : Int) (a.drop (n + 1)) := ha.drop _
    have h0 := dv_nonneg (by decide) hd
    have hlen : (zl (dv (4294967296 : Int) (a.drop (n + 1)))).length ≤ 100000000000 := by
      have h1 := dv_lt (by decide) hd
      have := zl_len h0 (n := 3 * (a.drop (n + 1)).length) (Int.lt_of_lt_of_le h1 (lb_zb _))
      simp at this ⊢; omega
    have hv : dv (4294967296 : Int) (a.drop n) = dv (4294967296 : Int) (a.drop (n + 1)) * 4294967296 + gI a (n : Int) := by
      rw [drop_gI a n (by omega), dv_cons]; omega
    have e1 : m_triviumref02_Of_l1 a (zl (dv (4294967296 : Int) (a.drop (n + 1))), ((n + 1 : Nat) : Int) - 1) = some (.inl (zl (dv (4294967296 : Int) (a.drop n)), (n : Int) - 1)) := by
      have a0 : ((n + 1 : Nat) : Int) - 1 = (n : Int) := by omega
      have a1 : decide ((0 : Int) ≤ (n : Int)) = true := decide_eq_true (by omega)
      have a2 : rd a (n : Int) = some (gI a (n : Int)) := rd_I (by omega) (by omega)
      have a3 : gI a (n : Int) % 4294967296 = gI a (n : Int) := Int.emod_eq_of_lt g.1 g.2
      have a4 : wi64 (gI a (n : Int)) = gI a (n : Int) := wi64_eq (by omega) (by omega)
      have a5 : wi64 ((n : Int) - 1) = (n : Int) - 1 := wi64_eq (by omega) (by omega)
      rw [a0]
      simp only [m_triviumref02_Of_l1, a1, if_true, a2, bd_some, rm_of g.1 (show (0 : Int) < 4294967296 by decide), a3, a4, mulAdd_eq _ _ _ h0 (show (0 : Int) ≤ 4294967296 by decide) (Int.le_refl _) g.1 (by omega) hlen, a5, hv]
    rw [lp_more e1]
    exact of_loop a ha hl n (by omega)
theorem refOf_dig (a : List Int) (ha : Dig (4294967296 : Int) a) (hl : a.length ≤ 30000000000) : m_triviumref02_Of a = some (zl (dv (4294967296 : Int) a)) := by
  unfold m_triviumref02_Of
  have e : wi64 ((a.length : Int) - 1) = (a.length : Int) - 1 := wi64_eq (by omega) (by omega)
  have := of_loop a ha hl a.length (Nat.le_refl _)
  rw [List.drop_length, dv_nil, zl_zero] at this
  rw [e, this]; rfl
theorem refOf_eq (x : Int) (hx : 0 ≤ x) (hl : (nl x).length ≤ 30000000000) : m_triviumref02_Of (nl x) = some (zl x) := by
  rw [refOf_dig _ (nl_can x).1 hl, nl_dv hx]
end Go.Proofs.YtkjkipkfndckfaaGreatDoor.AP
/- The document's numbers, as printed: compared, taken off, divided. -/
namespace Go.Proofs.YtkjkipkfndckfaaGreatDoor.AP
open Go Go.Proofs.YtkjkipkfndckfaaGreatDoor.Tri
set_option linter.unusedVariables false
set_option linter.unusedSimpArgs false
theorem dv_split (B : Int) (a : List Int) (n : Nat) (h : n ≤ a.length) : dv B a = dv B (a.take n) + B ^ n * dv B (a.drop n) := by
  have := dv_append B (a.take n) (a.drop n)
  rw [List.take_append_drop, List.length_take, Nat.min_eq_left h] at this
  exact this
theorem dv_take_lt {B : Int} (hB : 0 < B) {a : List Int} (h : Dig B a) (n : Nat) : dv B (a.take n) < B ^ n := by
  have h1 := dv_lt hB (h.take n)
  have h2 := pow_mono hB (show (a.take n).length ≤ n by simp; omega)
  omega
theorem digit_lt {B : Int} (hB : 0 < B) {a b : List Int} (ha : Dig B a) (hb : Dig B b) (q : Nat) (hqa : q < a.length) (hqb : q < b.length) (ht : dv B (a.drop (q + 1)) = dv B (b.drop (q + 1))) (h : gI a (q : Int) < gI b (q : Int)) : dv B a < dv B b := by
  rw [dv_split B a q (by omega), dv_split B b q (by omega), drop_gI a q hqa, drop_gI b q hqb, dv_cons, dv_cons, ht]
  have h1 := dv_take_lt hB ha q
  have h2 := dv_nonneg hB (hb.take q)
  have h3 := pow_pos' hB q
  have h4 : B ^ q * (gI a (q : Int) + 1) ≤ B ^ q * gI b (q : Int) := Int.mul_le_mul_of_nonneg_left (by omega) (by omega)
  rw [Int.mul_add, Int.mul_add]
  rw [Int.mul_add, Int.mul_one] at h4
  omega
theorem refCmp_loop (a b : List Int) (ha : Dig (10000 : Int) a) (hb : Dig (10000 : Int) b) (he : a.length = b.length) (hl : a.length ≤ 4611686018427387904) : ∀ n : Nat, n ≤ a.length → dv (10000 : Int) (a.drop n) = dv (10000 : Int) (b.drop n) → lp (m_triviumref02_Cmp_l1 a b) ((n : Int) - 1) = some (sg (dv (10000 : Int) a - dv (10000 : Int) b))
  | 0, _, h => by
    rw [List.drop_zero, List.drop_zero] at h
    refine lp_done ?_
    rw [h, Int.sub_self]
    simp [m_triviumref02_Cmp_l1, sg]
  | n + 1, hn, h => by
    have ga := gI_dig ha (by decide) (n : Int)
    have gb := gI_dig hb (by decide) (n : Int)
    have a0 : ((n + 1 : Nat) : Int) - 1 = (n : Int) := by omega
    have a1 : decide ((0 : Int) ≤ (n : Int)) = true := decide_eq_true (by omega)
    have a2 : rd a (n : Int) = some (gI a (n : Int)) := rd_I (by omega) (by omega)
    have a3 : rd b (n : Int) = some (gI b (n : Int)) := rd_I (by omega) (by omega)
    have a5 : wi64 ((n : Int) - 1) = (n : Int) - 1 := wi64_eq (by omega) (by omega)
    have e : m_triviumref02_Cmp_l1 a b (((n + 1 : Nat) : Int) - 1) = if gI a (n : Int) < gI b (n : Int) then some (.inr (-1)) else if gI b (n : Int) < gI a (n : Int) then some (.inr 1) else some (.inl ((n : Int) - 1)) := by
      rw [a0]
      simp only [m_triviumref02_Cmp_l1, a1, if_true, a2, a3, bd_some, a5, decide_eq_true_eq]
    rcases Int.lt_trichotomy (gI a (n : Int)) (gI b (n : Int)) with hlt | heq | hgt
    · have := digit_lt (by decide) ha hb n (by omega) (by omega) h hlt
      rw [lp_done (by rw [e, if_pos hlt])]
      unfold sg; rw [if_pos (by omega)]
    · rw [lp_more (by rw [e, if_neg (by omega), if_neg (by omega)])]
      refine refCmp_loop a b ha hb he hl n (by omega) ?_
      rw [drop_gI a n (by omega), drop_gI b n (by omega), dv_cons, dv_cons, h, heq]
    · have := digit_lt (by decide) hb ha n (by omega) (by omega) h.symm hgt
      rw [lp_done (by rw [e, if_neg (by omega), if_pos hgt])]
      unfold sg; rw [if_neg (by omega), if_pos (by omega)]
theorem refCmp_can (a b : List Int) (ha : Tri.Can (10000 : Int) a) (hb : Tri.Can (10000 : Int) b) (hl : a.length ≤ 4611686018427387904) : m_triviumref02_Cmp a b = some (sg (dv (10000 : Int) a - dv (10000 : Int) b)) := by
  unfold m_triviumref02_Cmp
  by_cases he : a.length = b.length
  · rw [if_neg (by simp [he]), wi64_eq (by omega) (by omega)]
    exact refCmp_loop a b ha.1 hb.1 he hl a.length (Nat.le_refl _) (by rw [List.drop_length, he, List.drop_length])
  · rw [if_pos (by simp; omega)]
    rcases Nat.lt_or_gt_of_ne he with h | h
    · have := Can.lt_of_length (by decide) ha.1 hb h
      rw [if_pos (by simp; omega)]
      unfold sg; rw [if_pos (by omega)]
    · have := Can.lt_of_length (by decide) hb.1 ha h
      rw [if_neg (by simp; omega)]
      unfold sg; rw [if_neg (by omega), if_pos (by omega)]
theorem refCmp_eq (x y : Int) (hx : 0 ≤ x) (hy : 0 ≤ y) (hl : (zl x).length ≤ 4611686018427387904) : m_triviumref02_Cmp (zl x) (zl y) = some (sg (x - y)) := by
  rw [refCmp_can _ _ (zl_can x) (zl_can y) hl, zl_dv hx, zl_dv hy]
theorem take_gI' (B : Int) (l : List Int) (i : Nat) : dv B (l.take (i + 1)) = dv B (l.take i) + B ^ i * gI l (i : Int) := by
  by_cases h : i < l.length
  · exact take_gI B l i h
  · rw [List.take_of_length_le (by omega), List.take_of_length_le (by omega)]
    have : gI l (i : Int) = 0 := by unfold gI; rw [List.getD_eq_getElem?_getD, List.getElem?_eq_none (by omega)]; rfl
    rw [this]; simp
theorem refSub_loop (a b : List Int) (ha : Dig (10000 : Int) a) (hb : Dig (10000 : Int) b) (hl : a.length ≤ 1000000000000) : ∀ (k i : Nat) (c : Int) (d : List Int), i + k = a.length → d.length = i → (c = 0 ∨ c = 1) → Dig (10000 : Int) d → dv (10000 : Int) d - (10000 : Int) ^ i * c = dv (10000 : Int) (a.take i) - dv (10000 : Int) (b.take i) →
    ∃ c' d', lp (m_triviumref02_Sub_l1 a b) (c, (i : Int), d) = some d' ∧ d'.length = a.length ∧ (c' = 0 ∨ c' = 1) ∧ Dig (10000 : Int) d' ∧ dv (10000 : Int) d' - (10000 : Int) ^ a.length * c' = dv (10000 : Int) a - dv (10000 : Int) (b.take a.length)
  | 0, i, c, d, hk, hi, hc, hd, hv => by
    obtain rfl : i = a.length := by omega
    exact ⟨c, d, lp_done (by simp [m_triviumref02_Sub_l1]), hi, hc, hd, by rw [hv, List.take_length]⟩
  | k + 1, i, c, d, hk, hi, hc, hd, hv => by
    have ga := gI_dig ha (by decide) (i : Int)
    have gb := gI_dig hb (by decide) (i : Int)
    generalize hx : gI a (i : Int) - c - gI b (i : Int) = x
    have e1 : m_triviumref02_Sub_l1 a b (c, (i : Int), d) = some (.inl (if x < 0 then 1 else 0, ((i + 1 : Nat) : Int), d ++ [if x < 0 then x + (10000 : Int) else x])) := by
      have a1 : decide ((i : Int) < (a.length : Int)) = true := decide_eq_true (by omega)
      have a2 : rd a (i : Int) = some (gI a (i : Int)) := rd_I (by omega) (by omega)
      have a3 : wi64 (gI a (i : Int) - c) = gI a (i : Int) - c := wi64_eq (by omega) (by omega)
      have a5 : wi64 ((i : Int) + 1) = ((i + 1 : Nat) : Int) := by rw [wi64_eq (by omega) (by omega)]; omega
      have a6 : (if decide ((i : Int) < (b.length : Int)) then (bd (rd b (i : Int)) fun x10 => some (wi64 ((wi64 (gI a (i : Int) - c)) - x10))) else some (wi64 (gI a (i : Int) - c))) = some x := by
        by_cases hib : i < b.length
        · rw [if_pos (by simp; omega), rd_I (by omega) (by omega), bd_some, a3, wi64_eq (by omega) (by omega), hx]
        · rw [if_neg (by simp; omega), a3]
          have : gI b (i : Int) = 0 := by unfold gI; rw [List.getD_eq_getElem?_getD, List.getElem?_eq_none (by omega)]; rfl
          rw [← hx, this]; simp
      have a7 : (if decide (x < 0) = true then some ((1 : Int), wi64 (x + 10000)) else some (0, x)) = some (if x < 0 then 1 else 0, if x < 0 then x + (10000 : Int) else x) := by
        by_cases h0 : x < 0
        · rw [if_pos (by simpa using h0), if_pos h0, if_pos h0, wi64_eq (by omega) (by omega)]
        · rw [if_neg (by simpa using h0), if_neg h0, if_neg h0]
      have a8 : ap 8 d [if x < 0 then x + (10000 : Int) else x] = some (d ++ [if x < 0 then x + (10000 : Int) else x]) := ap_of (by simp; omega)
      simp only [m_triviumref02_Sub_l1, a1, if_true, a2, bd_some, a6, a7, a8, a5]
    obtain ⟨c', d', r1, r2⟩ := refSub_loop a b ha hb hl k (i + 1) (if x < 0 then 1 else 0) (d ++ [if x < 0 then x + (10000 : Int) else x]) (by omega) (by simp [hi]) (by split <;> simp) (Dig.snoc hd (by split <;> omega)) (by
      rw [dv_snoc, take_gI (10000 : Int) a i (by omega), take_gI' (10000 : Int) b i, hi, Int.pow_succ]
      have h2 : (if x < 0 then x + (10000 : Int) else x) = x + (10000 : Int) * (if x < 0 then 1 else 0) := by split <;> omega
      rw [h2]
      generalize (if x < 0 then (1 : Int) else 0) = z
      subst hx
      generalize (10000 : Int) ^ i = p at *
      generalize dv (10000 : Int) (List.take i a) = T at *
      generalize dv (10000 : Int) (List.take i b) = U at *
      generalize gI a (i : Int) = g1 at *
      generalize gI b (i : Int) = g2 at *
      grind)
    exact ⟨c', d', by rw [lp_more e1]; exact r1, r2⟩
theorem refSub_eq (x y : Int) (hy : 0 ≤ y) (hxy : y ≤ x) (hl : (zl x).length ≤ 1000000000000) : m_triviumref02_Sub (zl x) (zl y) = some (zl (x - y)) := by
  obtain ⟨c', d', h1, h2, h3, h4, h5⟩ := refSub_loop (zl x) (zl y) (zl_can x).1 (zl_can y).1 hl _ 0 0 [] (Nat.zero_add _) rfl (.inl rfl) (Dig.nil _) (by simp [dv])
  have hm := zl_mono hy hxy
  rw [List.take_of_length_le hm, zl_dv (by omega), zl_dv hy] at h5
  have hc : c' = 0 := by
    rcases h3 with h3 | h3
    · exact h3
    · subst h3
      have := dv_lt (by decide) h4
      rw [h2] at this
      omega
  subst hc
  unfold m_triviumref02_Sub
  rw [show ((0 : Int), (0 : Int), ([] : List Int)) = ((0 : Int), ((0 : Nat) : Int), ([] : List Int)) from rfl, h1, bd_some, refTrim_eq d' (by omega), bd_some, trimz_zl (x := x - y) h4 (by rw [Int.mul_zero] at h5; omega)]
/-- a middle one is looked for -/
theorem refMid_loop (y r : Int) (hy : 0 < y) (hr : 0 ≤ r) (hq : r / y < 10000) (hl : (zl y).length ≤ 10000000000) (hl2 : (zl r).length ≤ 10000000000) : ∀ (n : Nat) (lo hi : Int), (hi - lo).toNat ≤ n → 0 ≤ lo → lo < hi → hi ≤ 10000 → lo ≤ r / y → r / y < hi → lp (m_triviumref02_Div_l2 (zl y) (zl r)) (lo, hi) = some (r / y)
  | n, lo, hi, hn, h0, h1, h2, h3, h4 => by
    by_cases hd : 1 < hi - lo
    · cases n with
      | zero => omega
      | succ n =>
        have b1 : wi64 (hi - lo) = hi - lo := wi64_eq (by omega) (by omega)
        have b2 : wi64 (lo + hi) = lo + hi := wi64_eq (by omega) (by omega)
        have b3 : qd .i64 (lo + hi) 2 = some ((lo + hi) / 2) := qd64 (by omega) (by omega) (by omega)
        generalize hm : (lo + hi) / 2 = m at b3
        have hm0 : lo < m := by omega
        have hm1 : m < hi := by omega
        have b4 := mulAdd_eq y m 0 (by omega) (by omega) (by omega) (Int.le_refl _) (by omega) (by omega)
        rw [Int.add_zero] at b4
        have hlen : (zl (y * m)).length ≤ 4611686018427387904 := by
          have h5 := dv_lt (by decide) (zl_can y).1
          rw [zl_dv (by omega)] at h5
          have h6 : y * m ≤ y * 10000 := Int.mul_le_mul_of_nonneg_left (by omega) (by omega)
          have := zl_len (x := y * m) (Int.mul_nonneg (by omega) (by omega)) (n := (zl y).length + 1) (by rw [Int.pow_succ]; omega)
          omega
        have b5 := refCmp_eq (y * m) r (Int.mul_nonneg (by omega) (by omega)) hr hlen
        have key : (sg (y * m - r) ≤ 0) ↔ m ≤ r / y := by
          rw [Int.le_ediv_iff_mul_le hy, Int.mul_comm m y]
          unfold sg
          split <;> (try split) <;> omega
        have e : m_triviumref02_Div_l2 (zl y) (zl r) (lo, hi) = if m ≤ r / y then some (.inl (m, hi)) else some (.inl (lo, m)) := by
          simp only [m_triviumref02_Div_l2, b1, b2, b3, b4, b5, bd_some, decide_eq_true_eq, hd, if_true, key]
        by_cases hk : m ≤ r / y
        · rw [lp_more (by rw [e, if_pos hk])]
          exact refMid_loop y r hy hr hq hl hl2 n m hi (by omega) (by omega) hm1 h2 hk h4
        · rw [lp_more (by rw [e, if_neg hk])]
          exact refMid_loop y r hy hr hq hl hl2 n lo m (by omega) h0 hm0 (by omega) h3 (by omega)
    · have b1 : wi64 (hi - lo) = hi - lo := wi64_eq (by omega) (by omega)
      have : lo = r / y := by omega
      have e : m_triviumref02_Div_l2 (zl y) (zl r) (lo, hi) = some (.inr lo) := by
        simp only [m_triviumref02_Div_l2, b1]
        rw [if_neg (by simpa using hd)]
      rw [lp_done e, this]
theorem set_down (q : List Int) (j : Nat) (v : Int) : (List.replicate (j + 1) 0 ++ q).set j v = List.replicate j 0 ++ v :: q := by
  rw [List.set_append_left _ _ (by simp), show List.replicate (j + 1) (0 : Int) = List.replicate j 0 ++ [0] from List.replicate_succ', List.set_append_right _ _ (by simp)]
  simp
theorem refDiv_loop (x y : Int) (hx : 0 ≤ x) (hy : 0 < y) (hlx : (zl x).length ≤ 1000000000) (hly : (zl y).length ≤ 1000000000) : ∀ (n : Nat) (r : Int) (q : List Int), n ≤ (zl x).length → 0 ≤ r → r < y → q.length + n = (zl x).length → Dig (10000 : Int) q → dv (10000 : Int) ((zl x).drop n) = dv (10000 : Int) q * y + r →
    ∃ q', lp (m_triviumref02_Div_l1 (zl x) (zl y)) (zl r, (n : Int) - 1, List.replicate n 0 ++ q) = some (zl (x % y), q') ∧ q'.length = (zl x).length ∧ Dig (10000 : Int) q' ∧ dv (10000 : Int) q' = x / y
  | 0, r, q, hn, h0, h1, hq, hd, hv => by
    rw [List.drop_zero, zl_dv hx] at hv
    have e := Int.ediv_emod_unique (a := x) (b := y) (r := r) (q := dv (10000 : Int) q) hy
    obtain ⟨e1, e2⟩ := e.2 ⟨by rw [hv, Int.mul_comm y]; omega, h0, h1⟩
    exact ⟨q, lp_done (by simp [m_triviumref02_Div_l1, e2]), by omega, hd, e1.symm⟩
  | n + 1, r, q, hn, h0, h1, hq, hd, hv => by
    have g := gI_dig (zl_can x).1 (by decide) (n : Int)
    generalize hs : gI (zl x) (n : Int) + (10000 : Int) * r = s
    have hs0 : 0 ≤ s := by omega
    have hsy : s < (10000 : Int) * y := by omega
    have hqd : s / y < 10000 := Int.ediv_lt_of_lt_mul hy hsy
    have hqd0 : 0 ≤ s / y := Int.ediv_nonneg hs0 (by omega)
    have hrl : (zl r).length ≤ 1000000000 := Nat.le_trans (zl_mono h0 (by omega)) hly
    have hsl : (zl s).length ≤ 10000000000 := by
      have h5 := dv_lt (by decide) (zl_can y).1
      rw [zl_dv (by omega)] at h5
      have := zl_len hs0 (n := (zl y).length + 1) (by rw [Int.pow_succ]; omega)
      omega
    have a0 : ((n + 1 : Nat) : Int) - 1 = (n : Int) := by omega
    have a1 : decide ((0 : Int) ≤ (n : Int)) = true := decide_eq_true (by omega)
    have a2 : rd (zl x) (n : Int) = some (gI (zl x) (n : Int)) := rd_I (by omega) (by omega)
    have a3 : ap 8 [gI (zl x) (n : Int)] (zl r) = some (gI (zl x) (n : Int) :: zl r) := by rw [ap_of (by simp; omega)]; rfl
    have a4 : m_triviumref02_Trim (gI (zl x) (n : Int) :: zl r) = some (zl s) := by
      rw [refTrim_eq _ (by simp; omega), trimz_zl (Dig.cons g (zl_can r).1) (by rw [dv_cons, zl_dv h0, hs])]
    have a5 := refMid_loop y s hy hs0 hqd (by omega) hsl 10000 0 10000 (by omega) (Int.le_refl _) (by omega) (Int.le_refl _) hqd0 hqd
    have a6 : ix (List.replicate (n + 1) 0 ++ q) (n : Int) = some n := ix_nat (by simp; omega)
    have a7 := mulAdd_eq y (s / y) 0 (by omega) hqd0 (by omega) (Int.le_refl _) (by omega) (by omega)
    have hle : y * (s / y) ≤ s := Int.mul_ediv_self_le (by omega)
    have a8 := refSub_eq s (y * (s / y)) (Int.mul_nonneg (by omega) hqd0) hle (by omega)
    have a9 : s - y * (s / y) = s % y := by have := Int.mul_ediv_add_emod s y; omega
    have b1 : wi64 ((n : Int) - 1) = (n : Int) - 1 := wi64_eq (by omega) (by omega)
    have e : m_triviumref02_Div_l1 (zl x) (zl y) (zl r, ((n + 1 : Nat) : Int) - 1, List.replicate (n + 1) 0 ++ q) = some (.inl (zl (s % y), (n : Int) - 1, List.replicate n 0 ++ (s / y) :: q)) := by
      rw [a0]
      simp only [m_triviumref02_Div_l1, a1, if_true, a2, bd_some, a3, a4, a5, a6, lt_eq, set_down, a7, Int.add_zero, a8, a9, b1]
    rw [lp_more e]
    exact refDiv_loop x y hx hy hlx hly n (s % y) (s / y :: q) (by omega) (Int.emod_nonneg _ (by omega)) (Int.emod_lt_of_pos _ hy) (by simp; omega) (Dig.cons ⟨hqd0, hqd⟩ hd) (by
      rw [drop_gI (zl x) n (by omega), dv_cons, dv_cons, hv]
      have := Int.mul_ediv_add_emod s y
      generalize s / y = t at *
      generalize s % y = u at *
      generalize gI (zl x) (n : Int) = gg at *
      subst hs
      have h9 : u = gg + (10000 : Int) * r - y * t := by omega
      subst h9
      grind)
theorem refDiv_eq (x y : Int) (hx : 0 ≤ x) (hy : 0 < y) (hlx : (zl x).length ≤ 1000000000) (hly : (zl y).length ≤ 1000000000) : m_triviumref02_Div (zl x) (zl y) = some (zl (x / y), zl (x % y)) := by
  obtain ⟨q', h1, h2, h3, h4⟩ := refDiv_loop x y hx hy hlx hly (zl x).length 0 [] (Nat.le_refl _) (Int.le_refl _) hy (by simp) (Dig.nil _) (by rw [List.drop_length]; simp [dv])
  unfold m_triviumref02_Div
  rw [mk_of (by omega), bd_some, wi64_eq (by omega) (by omega)]
  rw [zl_zero, List.append_nil] at h1
  rw [show ((zl x).length : Int).toNat = (zl x).length by omega, h1, bd_some]
  dsimp only
  rw [refTrim_eq q' (by omega), bd_some, trimz_zl h3 h4]
theorem gcd_mod (x y : Int) (hx : 0 ≤ x) : Int.gcd y (x % y) = Int.gcd x y := by
  rw [Int.gcd_comm y, Int.gcd_comm x]
  have e : (x % y).natAbs = x.natAbs % y.natAbs := by rw [Int.natAbs_emod_of_nonneg hx]
  unfold Int.gcd
  rw [e, ← Nat.gcd_rec]
theorem refGcd_eq : ∀ (n : Nat) (x y : Int), y.toNat ≤ n → 0 ≤ x → 0 ≤ y → (zl x).length ≤ 1000000000 → (zl y).length ≤ 1000000000 → m_triviumref02_Gcd (zl x) (zl y) = some (zl (Int.gcd x y))
  | n, x, y, hn, hx, hy, hlx, hly => by
    have main : ∀ (n : Nat) (x y : Int), y.toNat ≤ n → 0 ≤ x → 0 ≤ y → (zl x).length ≤ 1000000000 → (zl y).length ≤ 1000000000 → lp m_triviumref02_Gcd_l1 (zl x, zl y) = some (zl (Int.gcd x y)) := by
      intro n
      induction n with
      | zero =>
        intro x y hn hx hy hlx hly
        obtain rfl : y = 0 := by omega
        have hxx : ((Int.gcd x 0 : Nat) : Int) = x := by rw [Int.gcd_zero_right]; omega
        have e : m_triviumref02_Gcd_l1 (zl x, zl 0) = some (.inr (zl x)) := by simp [m_triviumref02_Gcd_l1, zl_zero]
        rw [lp_done e, hxx]
      | succ n ih =>
        intro x y hn hx hy hlx hly
        by_cases h0 : y = 0
        · exact ih x y (by omega) hx hy hlx hly
        · have hpos : 0 < y := by omega
          have hne : zl y ≠ [] := fun h => h0 ((zl_nil hy).1 h)
          have hlen : 0 < (zl y).length := List.length_pos_iff.2 hne
          have e : m_triviumref02_Gcd_l1 (zl x, zl y) = some (.inl (zl y, zl (x % y))) := by
            simp only [m_triviumref02_Gcd_l1, decide_eq_true (show (0 : Int) < ((zl y).length : Int) by omega), if_true, refDiv_eq x y hx hpos hlx hly, bd_some]
          rw [lp_more e, ih y (x % y) (by have := Int.emod_lt_of_pos x hpos; have := Int.emod_nonneg x (show y ≠ 0 by omega); omega) hy (Int.emod_nonneg _ (by omega)) hly (Nat.le_trans (zl_mono (Int.emod_nonneg _ (by omega)) (by have := Int.emod_lt_of_pos x hpos; omega)) hly)]
          rw [gcd_mod x y hx]
    unfold m_triviumref02_Gcd
    rw [main n x y hn hx hy hlx hly]
    rfl
theorem refDivSmall_loop (x d : Int) (hx : 0 ≤ x) (hd0 : 0 < d) (hd1 : d ≤ 4294967296) (hl : (zl x).length ≤ 1000000000000) : ∀ (n : Nat) (r : Int) (q : List Int), n ≤ (zl x).length → 0 ≤ r → r < d → q.length + n = (zl x).length → Dig (10000 : Int) q → dv (10000 : Int) ((zl x).drop n) = dv (10000 : Int) q * d + r →
    ∃ q', lp (m_triviumref02_DivSmall_l1 (zl x) d) (r, (n : Int) - 1, List.replicate n 0 ++ q) = some (x % d, q') ∧ q'.length = (zl x).length ∧ Dig (10000 : Int) q' ∧ dv (10000 : Int) q' = x / d
  | 0, r, q, hn, h0, h1, hq, hd, hv => by
    rw [List.drop_zero, zl_dv hx] at hv
    have e := Int.ediv_emod_unique (a := x) (b := d) (r := r) (q := dv (10000 : Int) q) hd0
    obtain ⟨e1, e2⟩ := e.2 ⟨by rw [hv, Int.mul_comm d]; omega, h0, h1⟩
    exact ⟨q, lp_done (by simp [m_triviumref02_DivSmall_l1, e2]), by omega, hd, e1.symm⟩
  | n + 1, r, q, hn, h0, h1, hq, hd, hv => by
    have g := gI_dig (zl_can x).1 (by decide) (n : Int)
    generalize hs : (10000 : Int) * r + gI (zl x) (n : Int) = s
    have hs0 : 0 ≤ s := by omega
    have hsy : s < (10000 : Int) * d := by omega
    have hqd : s / d < 10000 := Int.ediv_lt_of_lt_mul hd0 hsy
    have hqd0 : 0 ≤ s / d := Int.ediv_nonneg hs0 (by omega)
    have a0 : ((n + 1 : Nat) : Int) - 1 = (n : Int) := by omega
    have a1 : decide ((0 : Int) ≤ (n : Int)) = true := decide_eq_true (by omega)
    have a2 : rd (zl x) (n : Int) = some (gI (zl x) (n : Int)) := rd_I (by omega) (by omega)
    have a3 : wi64 ((wi64 (10000 * r)) + gI (zl x) (n : Int)) = s := by rw [wi64_eq (x := 10000 * r) (by omega) (by omega), hs, wi64_eq (by omega) (by omega)]
    have a4 : qd .i64 s d = some (s / d) := qd64 hs0 hd0 (by omega)
    have a5 : rm .i64 s d = some (s % d) := rm_of hs0 hd0
    have a6 : ix (List.replicate (n + 1) 0 ++ q) (n : Int) = some n := ix_nat (by simp; omega)
    have b1 : wi64 ((n : Int) - 1) = (n : Int) - 1 := wi64_eq (by omega) (by omega)
    have e : m_triviumref02_DivSmall_l1 (zl x) d (r, ((n + 1 : Nat) : Int) - 1, List.replicate (n + 1) 0 ++ q) = some (.inl (s % d, (n : Int) - 1, List.replicate n 0 ++ (s / d) :: q)) := by
      rw [a0]
      simp only [m_triviumref02_DivSmall_l1, a1, if_true, a2, bd_some, a3, a4, a5, a6, lt_eq, set_down, b1]
    rw [lp_more e]
    exact refDivSmall_loop x d hx hd0 hd1 hl n (s % d) (s / d :: q) (by omega) (Int.emod_nonneg _ (by omega)) (Int.emod_lt_of_pos _ hd0) (by simp; omega) (Dig.cons ⟨hqd0, hqd⟩ hd) (by
      rw [drop_gI (zl x) n (by omega), dv_cons, dv_cons, hv]
      have := Int.mul_ediv_add_emod s d
      generalize s / d = t at *
      generalize s % d = u at *
      generalize gI (zl x) (n : Int) = gg at *
      subst hs
      have h9 : u = (10000 : Int) * r + gg - d * t := by omega
      subst h9
      grind)
theorem refDivSmall_eq (x d : Int) (hx : 0 ≤ x) (hd0 : 0 < d) (hd1 : d ≤ 4294967296) (hl : (zl x).length ≤ 1000000000000) : m_triviumref02_DivSmall (zl x) d = some (zl (x / d), x % d) := by
  obtain ⟨q', h1, h2, h3, h4⟩ := refDivSmall_loop x d hx hd0 hd1 hl (zl x).length 0 [] (Nat.le_refl _) (Int.le_refl _) hd0 (by simp) (Dig.nil _) (by rw [List.drop_length]; simp [dv])
  unfold m_triviumref02_DivSmall
  rw [mk_of (by omega), bd_some, wi64_eq (by omega) (by omega)]
  rw [List.append_nil] at h1
  rw [show ((zl x).length : Int).toNat = (zl x).length by omega, h1, bd_some]
  dsimp only
  rw [refTrim_eq q' (by omega), bd_some, trimz_zl h3 h4]
theorem refBack_loop : ∀ (n : Nat) (x : Int) (d : List Int), 0 ≤ x → x.toNat ≤ n → (zl x).length ≤ 100000000000 → Dig (4294967296 : Int) d → d.length + (nl x).length ≤ 1000000000000 →
    ∃ r, lp m_triviumref02_Back_l1 (zl x, d) = some r ∧ r = d ++ nl x
  | n, x, d, h0, hn, hl, hd, hd2 => by
    by_cases hx : x = 0
    · subst hx
      exact ⟨d, lp_done (by simp [m_triviumref02_Back_l1, zl_zero]), by simp [nl_zero]⟩
    · cases n with
      | zero => omega
      | succ n =>
        have hpos : 0 < x := by omega
        have hlen : 0 < (zl x).length := List.length_pos_iff.2 (fun h => hx ((zl_nil h0).1 h))
        have hm : x % (4294967296 : Int) < (4294967296 : Int) := Int.emod_lt_of_pos _ (by decide)
        have hm0 : 0 ≤ x % (4294967296 : Int) := Int.emod_nonneg _ (by decide)
        have hnl : nl x = (x % (4294967296 : Int)) :: nl (x / (4294967296 : Int)) := by
          show num 4294967296 x.toNat = _
          rw [num, dif_pos ⟨by decide, by omega⟩]
          unfold nl
          congr 1
          · omega
          · congr 1; omega
        have a1 : wu64 (x % (4294967296 : Int)) = x % (4294967296 : Int) := wu64_eq hm0 (by omega)
        have a2 : ap 8 d [x % (4294967296 : Int)] = some (d ++ [x % (4294967296 : Int)]) := ap_of (by simp; omega)
        have e : m_triviumref02_Back_l1 (zl x, d) = some (.inl (zl (x / (4294967296 : Int)), d ++ [x % (4294967296 : Int)])) := by
          simp only [m_triviumref02_Back_l1, decide_eq_true (show (0 : Int) < ((zl x).length : Int) by omega), if_true, refDivSmall_eq x (4294967296 : Int) h0 (by decide) (Int.le_refl _) (by omega), bd_some, a1, a2]
        have hq : x / (4294967296 : Int) < x := Int.ediv_lt_of_lt_mul (by decide) (by omega)
        have hq0 : 0 ≤ x / (4294967296 : Int) := Int.ediv_nonneg h0 (by decide)
        rw [hnl] at hd2
        obtain ⟨r, r1, r2⟩ := refBack_loop n (x / (4294967296 : Int)) (d ++ [x % (4294967296 : Int)]) hq0 (by omega) (Nat.le_trans (zl_mono hq0 (by omega)) hl) (Dig.snoc hd ⟨hm0, hm⟩) (by simp at hd2 ⊢; omega)
        exact ⟨r, by rw [lp_more e]; exact r1, by rw [r2, hnl]; simp⟩
theorem nl_zl_len {x : Int} (h : 0 ≤ x) : (nl x).length ≤ (zl x).length := by
  have h1 := dv_lt (by decide) (zl_can x).1
  rw [zl_dv h] at h1
  exact nl_len h (Int.lt_of_lt_of_le h1 (zb_lb _))
theorem zl_nl_len {x : Int} (h : 0 ≤ x) : (zl x).length ≤ 3 * (nl x).length := by
  have h1 := dv_lt (by decide) (nl_can x).1
  rw [nl_dv h] at h1
  exact zl_len h (Int.lt_of_lt_of_le h1 (lb_zb _))
theorem refBack_eq (x : Int) (hx : 0 ≤ x) (hl : (zl x).length ≤ 100000000000) : m_triviumref02_Back (zl x) = some (nl x) := by
  obtain ⟨r, h1, h2⟩ := refBack_loop x.toNat x [] hx (Nat.le_refl _) hl (Dig.nil _) (by have := nl_zl_len hx; simp; omega)
  unfold m_triviumref02_Back
  rw [h1, bd_some, h2, List.nil_append]
end Go.Proofs.YtkjkipkfndckfaaGreatDoor.AP
/- The program's numbers, as printed: noughts, limbs, compared, added. -/
namespace Go.Proofs.YtkjkipkfndckfaaGreatDoor.AP
open Go Go.Proofs.YtkjkipkfndckfaaGreatDoor.Tri
set_option linter.unusedVariables false
set_option linter.unusedSimpArgs false
theorem trimN_loop (p0 : List Int) (hl : p0.length ≤ 4611686018427387904) : ∀ (n : Nat) (a b : List Int), a.length = n → p0 = a ++ b → ∃ k : Nat, lp (m_nat_trim_l1 p0) (n : Int) = some (k : Int) ∧ k ≤ n ∧ a.take k = trimz a
  | 0, a, b, h, hp => by
    have : a = [] := List.eq_nil_of_length_eq_zero h
    subst this
    exact ⟨0, by rw [lp_go]; simp [m_nat_trim_l1], Nat.le_refl _, rfl⟩
  | n + 1, a, b, h, hp => by
    obtain ⟨d, x, rfl, hd⟩ := split_last h
    have hlen : p0.length = n + 1 + b.length := by rw [hp]; simp [hd]; omega
    have hx : gI p0 (n : Int) = x := by rw [hp, List.append_assoc]; unfold gI; rw [List.getD_eq_getElem?_getD, List.getElem?_append_right (by simp [hd])]; simp [hd]
    have hstep : m_nat_trim_l1 p0 ((n + 1 : Nat) : Int) = if x = 0 then some (.inl (n : Int)) else some (.inr ((n + 1 : Nat) : Int)) := by
      have e1 : wi64 (((n + 1 : Nat) : Int) - 1) = (n : Int) := by rw [wi64_eq (by omega) (by omega)]; omega
      have e2 : rd p0 (n : Int) = some x := by rw [rd_I (by omega) (by omega), hx]
      have e3 : decide (0 < ((n + 1 : Nat) : Int)) = true := decide_eq_true (by omega)
      simp only [m_nat_trim_l1, e3, if_true, e1, e2, bd_some, decide_eq_true_eq]
    by_cases h0 : x = 0
    · subst h0
      rw [lp_more (by rw [hstep, if_pos rfl])]
      obtain ⟨k, h1, h2, h3⟩ := trimN_loop p0 hl n d ([0] ++ b) hd (by rw [hp]; simp)
      refine ⟨k, h1, by omega, ?_⟩
      rw [trimz_snoc_zero, ← h3, List.take_append_of_le_length (by omega)]
    · refine ⟨n + 1, lp_done (by rw [hstep, if_neg h0]), Nat.le_refl _, ?_⟩
      rw [List.take_of_length_le (by omega), trimz_of_top (Top.snoc.2 h0)]
theorem trimN_eq (a : List Int) (hl : a.length ≤ 4611686018427387904) : m_nat_trim a = some (trimz a) := by
  obtain ⟨k, h1, h2, h3⟩ := trimN_loop a hl a.length a [] rfl (by simp)
  unfold m_nat_trim
  rw [h1, bd_some, ct_of (by omega), bd_some]
  simp [h3]
theorem make_loop (p0 : List Int) (hd : Dig (4294967296 : Int) p0) (hl : p0.length ≤ 10000000000000) : ∀ (k i : Nat), i + k = p0.length → lp (m_nat_Make_l1 p0) ((i : Int), p0.take i) = some (trimz p0, 0)
  | 0, i, hk => by
    obtain rfl : i = p0.length := by omega
    refine lp_done ?_
    simp only [m_nat_Make_l1, List.take_length, trimN_eq p0 (by omega), bd_some]
    simp
  | k + 1, i, hk => by
    have g := gI_dig hd (by decide) (i : Int)
    have e1 : decide ((i : Int) < (p0.length : Int)) = true := decide_eq_true (by omega)
    have e2 : rd p0 (i : Int) = some (gI p0 (i : Int)) := rd_I (by omega) (by omega)
    have e3 : decide ((4294967296 : Int) ≤ gI p0 (i : Int)) = false := decide_eq_false (by omega)
    have e4 : wi64 ((i : Int) + 1) = ((i + 1 : Nat) : Int) := by rw [wi64_eq (by omega) (by omega)]; omega
    have e5 : ap 8 (p0.take i) [gI p0 (i : Int)] = some (p0.take (i + 1)) := by
      rw [ap_of (by simp; omega), List.take_add_one, List.getElem?_eq_getElem (by omega)]
      have : gI p0 (i : Int) = p0[i] := by simp [gI, show i < p0.length by omega]
      rw [this]; rfl
    rw [lp_more (s' := (((i + 1 : Nat) : Int), p0.take (i + 1))) (by simp only [m_nat_Make_l1, e1, if_true, e2, bd_some, e3, e5, e4]; rfl)]
    exact make_loop p0 hd hl k (i + 1) (by omega)
theorem make_dig (a : List Int) (hd : Dig (4294967296 : Int) a) (hl : a.length ≤ 10000000000000) : m_nat_Make a = some (trimz a, 0) := by
  unfold m_nat_Make
  rw [mk_of (by omega), bd_some]
  have := make_loop a hd hl a.length 0 (by omega)
  simpa using this
theorem make_nl (x : Int) (hl : (nl x).length ≤ 10000000000000) : m_nat_Make (nl x) = some (nl x, 0) := by
  rw [make_dig _ (nl_can x).1 hl, trimz_of_top (nl_can x).2]
theorem may_can (a : List Int) (h : Tri.Can (4294967296 : Int) a) (hl : a.length ≤ 4611686018427387904) : m_nat_May a = some true := by
  have key : ∀ (k i : Nat), i + k = a.length → lp (m_nat_May_l1 a) (i : Int) = some true := by
    intro k
    induction k with
    | zero =>
      intro i hk
      obtain rfl : i = a.length := by omega
      refine lp_done ?_
      by_cases h0 : a = []
      · subst h0; simp [m_nat_May_l1]
      · obtain ⟨d, x, rfl⟩ := eq_snoc h0
        have hx := Top.snoc.1 h.2
        have e1 : wi64 (((d ++ [x]).length : Int) - 1) = (d.length : Int) := by rw [wi64_eq (by omega) (by omega)]; simp
        have e2 : rd (d ++ [x]) (d.length : Int) = some x := by rw [rd_I (by omega) (by simp; omega), gI_last]
        have e3 : decide (((d ++ [x]).length : Int) = 0) = false := decide_eq_false (by simp; omega)
        simp only [m_nat_May_l1, show decide (((d ++ [x]).length : Int) < ((d ++ [x]).length : Int)) = false by simp, e3, e1, e2, bd_some]
        simp [hx]
    | succ k ih =>
      intro i hk
      have g := gI_dig h.1 (by decide) (i : Int)
      have e1 : decide ((i : Int) < (a.length : Int)) = true := decide_eq_true (by omega)
      have e2 : rd a (i : Int) = some (gI a (i : Int)) := rd_I (by omega) (by omega)
      have e3 : decide ((4294967296 : Int) ≤ gI a (i : Int)) = false := decide_eq_false (by omega)
      have e4 : wi64 ((i : Int) + 1) = ((i + 1 : Nat) : Int) := by rw [wi64_eq (by omega) (by omega)]; omega
      rw [lp_more (s' := ((i + 1 : Nat) : Int)) (by simp only [m_nat_May_l1, e1, if_true, e2, bd_some, e3, e4]; rfl)]
      exact ih (i + 1) (by omega)
  exact key a.length 0 (by omega)
theorem cmpN_loop (a b : List Int) (ha : Dig (4294967296 : Int) a) (hb : Dig (4294967296 : Int) b) (he : a.length = b.length) (hl : a.length ≤ 4611686018427387904) : ∀ n : Nat, n ≤ a.length → dv (4294967296 : Int) (a.drop n) = dv (4294967296 : Int) (b.drop n) → lp (m_nat_Cmp_l1 a b) ((n : Int) - 1) = some (sg (dv (4294967296 : Int) a - dv (4294967296 : Int) b))
  | 0, _, h => by
    rw [List.drop_zero, List.drop_zero] at h
    refine lp_done ?_
    rw [h, Int.sub_self]
    simp [m_nat_Cmp_l1, sg]
  | n + 1, hn, h => by
    have ga := gI_dig ha (by decide) (n : Int)
    have gb := gI_dig hb (by decide) (n : Int)
    have a0 : ((n + 1 : Nat) : Int) - 1 = (n : Int) := by omega
    have a1 : decide ((0 : Int) ≤ (n : Int)) = true := decide_eq_true (by omega)
    have a2 : rd a (n : Int) = some (gI a (n : Int)) := rd_I (by omega) (by omega)
    have a3 : rd b (n : Int) = some (gI b (n : Int)) := rd_I (by omega) (by omega)
    have a5 : wi64 ((n : Int) - 1) = (n : Int) - 1 := wi64_eq (by omega) (by omega)
    have e : m_nat_Cmp_l1 a b (((n + 1 : Nat) : Int) - 1) = if gI a (n : Int) < gI b (n : Int) then some (.inr (-1)) else if gI b (n : Int) < gI a (n : Int) then some (.inr 1) else some (.inl ((n : Int) - 1)) := by
      rw [a0]
      simp only [m_nat_Cmp_l1, a1, if_true, a2, a3, bd_some, a5, decide_eq_true_eq]
    rcases Int.lt_trichotomy (gI a (n : Int)) (gI b (n : Int)) with hlt | heq | hgt
    · have := digit_lt (by decide) ha hb n (by omega) (by omega) h hlt
      rw [lp_done (by rw [e, if_pos hlt])]
      unfold sg; rw [if_pos (by omega)]
    · rw [lp_more (by rw [e, if_neg (by omega), if_neg (by omega)])]
      refine cmpN_loop a b ha hb he hl n (by omega) ?_
      rw [drop_gI a n (by omega), drop_gI b n (by omega), dv_cons, dv_cons, h, heq]
    · have := digit_lt (by decide) hb ha n (by omega) (by omega) h.symm hgt
      rw [lp_done (by rw [e, if_neg (by omega), if_pos hgt])]
      unfold sg; rw [if_neg (by omega), if_pos (by omega)]
theorem cmpN_can (a b : List Int) (ha : Tri.Can (4294967296 : Int) a) (hb : Tri.Can (4294967296 : Int) b) (hl : a.length ≤ 4611686018427387904) : m_nat_Cmp a b = some (sg (dv (4294967296 : Int) a - dv (4294967296 : Int) b)) := by
  unfold m_nat_Cmp
  rcases Nat.lt_trichotomy a.length b.length with h | h | h
  · have := Can.lt_of_length (by decide) ha.1 hb h
    rw [lt_eq, if_pos (by simp; omega)]
    unfold sg; rw [if_pos (by omega)]
  · rw [lt_eq, if_neg (by simp; omega), lt_eq, if_neg (by simp; omega), wi64_eq (by omega) (by omega)]
    exact cmpN_loop a b ha.1 hb.1 h hl a.length (Nat.le_refl _) (by rw [List.drop_length, h, List.drop_length])
  · have := Can.lt_of_length (by decide) hb.1 ha h
    rw [lt_eq, if_neg (by simp; omega), lt_eq, if_pos (by simp; omega)]
    unfold sg; rw [if_neg (by omega), if_pos (by omega)]
theorem cmpN_eq (x y : Int) (hx : 0 ≤ x) (hy : 0 ≤ y) (hl : (nl x).length ≤ 4611686018427387904) : m_nat_Cmp (nl x) (nl y) = some (sg (x - y)) := by
  rw [cmpN_can _ _ (nl_can x) (nl_can y) hl, nl_dv hx, nl_dv hy]
/-! limbs -/
theorem and_low (x : Int) (h0 : 0 ≤ x) (h1 : x < 18446744073709551616) : Go.bits .and .u64 x 4294967295 = x % 4294967296 := by
  rw [u64_and x _ h0 h1 (by omega) (by omega)]
  have : (4294967295 : Int).toNat = 2 ^ 32 - 1 := rfl
  rw [this, Nat.and_two_pow_sub_one_eq_mod]
  omega
theorem and_limb (x : Int) (h0 : 0 ≤ x) (h1 : x < (4294967296 : Int)) : Go.bits .and .u64 x 4294967295 = x := by
  rw [and_low x h0 (by omega)]; omega
theorem sr32 (x : Int) : sr .u64 x 32 = some (x / (4294967296 : Int)) := by
  unfold sr
  rw [if_pos (by decide)]
  have e : (2 : Int) ^ (min (32 : Int).toNat IntKind.u64.bits) = (4294967296 : Int) := by decide
  rw [e, Int.fdiv_eq_ediv_of_nonneg _ (by decide)]
theorem sh32 (x : Int) (h0 : 0 ≤ x) (h1 : x < (4294967296 : Int)) : sh .u64 x 32 = some (x * (4294967296 : Int)) := by
  unfold sh
  rw [if_pos (by decide)]
  have e : (2 : Int) ^ (min (32 : Int).toNat IntKind.u64.bits) = (4294967296 : Int) := by decide
  rw [e]
  congr 1
  exact wu64_eq (by omega) (by omega)
theorem or_low (x y : Int) (h0 : 0 ≤ x) (h1 : x < (4294967296 : Int)) (h2 : 0 ≤ y) (h3 : y < (4294967296 : Int)) : Go.bits .or .u64 (x * (4294967296 : Int)) y = x * (4294967296 : Int) + y := by
  rw [u64_or _ _ (by omega) (by omega) h2 (by omega)]
  obtain ⟨X, rfl⟩ := Int.eq_ofNat_of_zero_le h0
  obtain ⟨Y, rfl⟩ := Int.eq_ofNat_of_zero_le h2
  have e1 : ((X : Int) * (4294967296 : Int)).toNat = 2 ^ 32 * X := by omega
  rw [e1, Int.toNat_natCast, ← Nat.two_pow_add_eq_or_of_lt (by omega)]
  omega
theorem mul_bound {a b c d : Int} (ha : 0 ≤ a ∧ a < (4294967296 : Int)) (hb : 0 ≤ b ∧ b < (4294967296 : Int)) (hc : 0 ≤ c ∧ c < (4294967296 : Int)) (hd : 0 ≤ d ∧ d < (4294967296 : Int)) : 0 ≤ a * b ∧ a * b + c + d < (4294967296 : Int) * (4294967296 : Int) := by
  have h1 : 0 ≤ a * b := Int.mul_nonneg ha.1 hb.1
  have h2 : a * b ≤ ((4294967296 : Int) - 1) * ((4294967296 : Int) - 1) := by
    have h3 : a * b ≤ ((4294967296 : Int) - 1) * b := Int.mul_le_mul_of_nonneg_right (by omega) hb.1
    have h4 : ((4294967296 : Int) - 1) * b ≤ ((4294967296 : Int) - 1) * ((4294967296 : Int) - 1) := Int.mul_le_mul_of_nonneg_left (by omega) (by decide)
    omega
  refine ⟨h1, ?_⟩
  have e : (4294967296 - 1) * (4294967296 - 1) = (18446744065119617025 : Int) := by decide
  have e2 : 4294967296 * 4294967296 = (18446744073709551616 : Int) := by decide
  omega
theorem limbMul_eq (a b c d : Int) (ha : 0 ≤ a ∧ a < (4294967296 : Int)) (hb : 0 ≤ b ∧ b < (4294967296 : Int)) (hc : 0 ≤ c ∧ c < (4294967296 : Int)) (hd : 0 ≤ d ∧ d < (4294967296 : Int)) : m_limb_Mul a b c d = some ((a * b + c + d) % (4294967296 : Int), (a * b + c + d) / (4294967296 : Int)) := by
  unfold m_limb_Mul
  obtain ⟨h1, h2⟩ := mul_bound ha hb hc hd
  have e2 : 4294967296 * 4294967296 = (18446744073709551616 : Int) := by decide
  rw [and_limb a ha.1 ha.2, and_limb b hb.1 hb.2, and_limb c hc.1 hc.2, and_limb d hd.1 hd.2]
  have hc1 := hc.1
  have hd1 := hd.1
  generalize a * b = p at h1 h2
  rw [lt_eq, wu64_eq (x := p) (by omega) (by omega), wu64_eq (x := p + c) (by omega) (by omega), wu64_eq (x := p + c + d) (by omega) (by omega), sr32, bd_some, and_low _ (by omega) (by omega)]
theorem limbAdd_eq (a b c : Int) (ha : 0 ≤ a ∧ a < (4294967296 : Int)) (hb : 0 ≤ b ∧ b < (4294967296 : Int)) (hc : 0 ≤ c ∧ c < (4294967296 : Int)) : m_limb_Add a b c = some ((a + b + c) % (4294967296 : Int), (a + b + c) / (4294967296 : Int)) := by
  unfold m_limb_Add
  rw [and_limb a ha.1 ha.2, and_limb b hb.1 hb.2, and_limb c hc.1 hc.2]
  rw [lt_eq, wu64_eq (x := a + b) (by omega) (by omega), wu64_eq (x := a + b + c) (by omega) (by omega), sr32, bd_some, and_low _ (by omega) (by omega)]
theorem limbDiv_eq (h l d : Int) (hh : 0 ≤ h ∧ h < d) (hl : 0 ≤ l ∧ l < (4294967296 : Int)) (hd : 0 < d ∧ d < (4294967296 : Int)) : m_limb_Div h l d = some ((h * (4294967296 : Int) + l) / d, (h * (4294967296 : Int) + l) % d, 0) := by
  unfold m_limb_Div
  rw [and_limb h hh.1 (by omega), and_limb l hl.1 hl.2, and_limb d (by omega) hd.2]
  rw [lt_eq, if_neg (by simp; omega), lt_eq, if_neg (by simp; omega), sh32 h hh.1 (by omega), bd_some, or_low h l hh.1 (by omega) hl.1 hl.2, lt_eq, qdU (by omega) hd.1 (by omega), bd_some, rm_of (by omega) hd.1, bd_some]
theorem natOf_eq (x : Int) (h0 : 0 ≤ x) (h1 : x < 18446744073709551616) : m_nat_Of x = some (nl x) := by
  unfold m_nat_Of
  rw [rm_of h0 (by decide), bd_some, sr32, bd_some, trimN_eq _ (by simp), bd_some]
  rw [trimz_nl (Dig.cons ⟨by omega, by omega⟩ (Dig.cons ⟨by omega, by omega⟩ (Dig.nil _))) (x := x) (by simp only [dv]; omega)]
theorem natAt_eq (a : List Int) (i : Nat) (hl : a.length ≤ 4611686018427387904) : m_nat_at a (i : Int) = some (gI a (i : Int)) := by
  unfold m_nat_at
  by_cases h : a.length ≤ i
  · rw [if_pos (by simp; omega)]
    have : gI a (i : Int) = 0 := by unfold gI; rw [List.getD_eq_getElem?_getD, List.getElem?_eq_none (by omega)]; rfl
    rw [this]
  · rw [if_neg (by simp; omega), rd_I (by omega) (by omega), bd_some]
theorem set_at {α : Type} (d : List α) (x y : α) (r : List α) : (d ++ x :: r).set d.length y = (d ++ [y]) ++ r := by simp
end Go.Proofs.YtkjkipkfndckfaaGreatDoor.AP
/- What is cleaned: numbers, fractions. -/
namespace Go.Proofs.YtkjkipkfndckfaaGreatDoor.AP
open Go Go.Proofs.YtkjkipkfndckfaaGreatDoor.Tri
set_option linter.unusedVariables false
set_option linter.unusedSimpArgs false
/-- a loop that puts something of each of the first N behind a row -/
theorem lp_mapN {α β X : Type} {f : (Int × List β) → Option ((Int × List β) ⊕ X)} (l : List α) (N : Nat) (h : α → β) (e : Option X)
    (hs : ∀ (i : Nat) x acc, l[i]? = some x → i < N → acc.length = i → f ((i : Int), acc) = some (.inl ((i : Int) + 1, acc ++ [h x])))
    (he : lp f (((l.take N).length : Int), (l.take N).map h) = e) : lp f (0, []) = e := by
  have key : ∀ (k i : Nat), i + k = (l.take N).length → lp f ((i : Int), (l.take i).map h) = e := by
    intro k
    induction k with
    | zero =>
      intro i hk
      have hk : i = (l.take N).length := by omega
      have e1 : l.take i = l.take N := by rw [hk, List.take_eq_take_iff]; simp
      rw [e1, hk]; exact he
    | succ k ih =>
      intro i hk
      have hlt : i < l.length ∧ i < N := by simp at hk; omega
      have := hs i l[i] ((l.take i).map h) (List.getElem?_eq_getElem hlt.1) hlt.2 (by simp; omega)
      rw [lp_more this]
      have h2 := ih (i + 1) (by omega)
      rw [List.take_add_one, List.getElem?_eq_getElem hlt.1, List.map_append] at h2
      exact h2
  simpa using key _ 0 (by rw [Nat.zero_add])
theorem len_of_get {α : Type} {l : List α} {i : Nat} {x : α} (h : l[i]? = some x) : i < l.length := (List.getElem?_eq_some_iff.1 h).1
def Limbs (l : List Int) : Prop := ∀ x ∈ l, 0 ≤ x ∧ x < 18446744073709551616
def cleanL (l : List Int) (n : Nat) : List Int := trimz ((l.take n).map fun x => x % (4294967296 : Int))
theorem cleanL_can (l : List Int) (n : Nat) : Tri.Can (4294967296 : Int) (cleanL l n) := trimz_can fun x hx => by
  obtain ⟨y, _, rfl⟩ := List.mem_map.1 hx
  exact ⟨Int.emod_nonneg _ (by decide), Int.emod_lt_of_pos _ (by decide)⟩
def cleanV (l : List Int) (n : Nat) : Int := dv (4294967296 : Int) (cleanL l n)
theorem cleanL_nl (l : List Int) (n : Nat) : cleanL l n = nl (cleanV l n) := can_nl (cleanL_can l n) rfl
theorem cleanV_nonneg (l : List Int) (n : Nat) : 0 ≤ cleanV l n := dv_nonneg (by decide) (cleanL_can l n).1
theorem cleanV_lt (l : List Int) (n : Nat) : cleanV l n < (4294967296 : Int) ^ n := by
  have h1 := dv_lt (by decide) (cleanL_can l n).1
  have h2 : (cleanL l n).length ≤ n := by
    have h3 := trimz_length ((l.take n).map fun x => x % (4294967296 : Int))
    rw [List.length_map, List.length_take] at h3; unfold cleanL; omega
  exact Int.lt_of_lt_of_le h1 (pow_mono (by decide) h2)
theorem trim2_loop : ∀ (n : Nat) (a : List Int), a.length = n → n ≤ 4611686018427387904 → lp m_triviumref02_Clean_l2 a = some (trimz a)
  | 0, a, h, _ => by
    obtain rfl := List.eq_nil_of_length_eq_zero h
    rw [lp_go]; simp [m_triviumref02_Clean_l2, trimz]
  | n + 1, a, h, hn => by
    obtain ⟨d, x, rfl, hd⟩ := split_last h
    have e1 : wi64 (((d ++ [x]).length : Int) - 1) = (n : Int) := by rw [wi64_eq (by omega) (by omega)]; omega
    have e2 : rd (d ++ [x]) (n : Int) = some x := by rw [rd_I (by omega) (by omega), ← hd, gI_last]
    have e3 : decide ((0 : Int) < ((d ++ [x]).length : Int)) = true := decide_eq_true (by omega)
    have e4 : ct (d ++ [x]) 0 (n : Int) = some d := by rw [ct_of (by omega)]; simp [← hd]
    have e : m_triviumref02_Clean_l2 (d ++ [x]) = if x = 0 then some (.inl d) else some (.inr (d ++ [x])) := by
      simp only [m_triviumref02_Clean_l2, e3, if_true, e1, e2, bd_some, decide_eq_true_eq, e4]
    by_cases h0 : x = 0
    · subst h0
      rw [lp_more (by rw [e, if_pos rfl]), trimz_snoc_zero]
      exact trim2_loop n d hd (by omega)
    · rw [lp_done (by rw [e, if_neg h0]), trimz_of_top (Top.snoc.2 h0)]
theorem refClean_eq (l : List Int) (n : Nat) (hl : Limbs l) (hn : n ≤ 1000000) (hlen : l.length ≤ 9223372036854775807) : m_triviumref02_Clean l (n : Int) = some (nl (cleanV l n)) := by
  unfold m_triviumref02_Clean
  rw [lp_mapN l n (fun x => x % (4294967296 : Int)) (some ((l.take n).map fun x => x % (4294967296 : Int)))]
  · rw [bd_some, trim2_loop _ _ rfl (by simp; omega), bd_some, ← cleanL_nl]; rfl
  · intro i x acc hx hi ha
    have hlt := len_of_get hx
    have h0 := hl x (List.mem_of_getElem? hx)
    have e1 : decide ((i : Int) < (l.length : Int)) = true := decide_eq_true (by omega)
    have e2 : decide ((i : Int) < (n : Int)) = true := decide_eq_true (by omega)
    have e3 : rd l (i : Int) = some x := by rw [rd_nat]; exact hx
    have e4 : wi64 ((i : Int) + 1) = (i : Int) + 1 := wi64_eq (by omega) (by omega)
    simp only [m_triviumref02_Clean_l1, e1, if_true, e2, bd_some, e3, rm_of h0.1 (show (0 : Int) < 4294967296 by decide), ap_of (l := acc) (m := [x % 4294967296]) (b := 8) (by simp; omega), e4]
  · refine lp_done ?_
    by_cases hle : l.length ≤ n
    · have e1 : decide (((l.take n).length : Int) < (l.length : Int)) = false := decide_eq_false (by simp; omega)
      simp only [m_triviumref02_Clean_l1, e1, bd_some]; rfl
    · have e1 : decide (((l.take n).length : Int) < (l.length : Int)) = true := decide_eq_true (by simp; omega)
      have e2 : decide (((l.take n).length : Int) < (n : Int)) = false := decide_eq_false (by simp; omega)
      simp only [m_triviumref02_Clean_l1, e1, if_true, e2, bd_some]; rfl
/-- a number with a sign -/
def zI (z : Int) : D_api_Int := (decide (z < 0), nl (z.natAbs : Int))
def zZ (z : Int) : D_triviumref07_Z := (decide (z < 0), zl (z.natAbs : Int))
/-- a fraction -/
def rI (a b : Int) : D_api_Rat := (zI a, nl b)
def rQ (a b : Int) : D_triviumref08_Q := (zZ a, zl b)
def cleanZ (p : D_api_Int) (n : Nat) : Int := if p.1 then -cleanV p.2 n else cleanV p.2 n
theorem cleanZ_abs (p : D_api_Int) (n : Nat) : ((cleanZ p n).natAbs : Int) = cleanV p.2 n := by
  have := cleanV_nonneg p.2 n
  unfold cleanZ; split <;> omega
theorem neg_or_nil {x : Int} (h : 0 ≤ x) : decide (0 < ((nl x).length : Int)) = decide (0 < x) := by
  have := nl_nil h
  by_cases hx : x = 0
  · rw [this.2 hx]; simp [hx]
  · have : nl x ≠ [] := fun e => hx (this.1 e)
    have := List.length_pos_iff.2 this
    rw [decide_eq_true (by omega), decide_eq_true (by omega)]
theorem neg_or_zl {x : Int} (h : 0 ≤ x) : decide (0 < ((zl x).length : Int)) = decide (0 < x) := by
  have := zl_nil h
  by_cases hx : x = 0
  · rw [this.2 hx]; simp [hx]
  · have : zl x ≠ [] := fun e => hx (this.1 e)
    have := List.length_pos_iff.2 this
    rw [decide_eq_true (by omega), decide_eq_true (by omega)]
theorem ref07Clean_eq (p : D_api_Int) (n : Nat) (hl : Limbs p.2) (hn : n ≤ 1000000) (hlen : p.2.length ≤ 9223372036854775807) : m_triviumref07_Clean p (n : Int) = some (zI (cleanZ p n)) := by
  unfold m_triviumref07_Clean
  have h0 := cleanV_nonneg p.2 n
  rw [refClean_eq p.2 n hl hn hlen, bd_some]
  unfold zI
  rw [cleanZ_abs]
  unfold cleanZ
  by_cases hp : p.1 = true
  · rw [if_pos hp, if_pos hp, neg_or_nil h0]; congr 2; rw [decide_eq_decide]; omega
  · rw [if_neg hp, if_neg hp]; congr 2; rw [decide_eq_false (by omega)]
theorem ref07Made_eq (b : Bool) (x : Int) (h : 0 ≤ x) : m_triviumref07_made b (zl x) = some (zZ (if b then -x else x)) := by
  unfold m_triviumref07_made zZ
  cases b with
  | true => rw [if_pos rfl, if_pos rfl, neg_or_zl h]; rw [show (((-x).natAbs : Nat) : Int) = x by omega]; congr 2; rw [decide_eq_decide]; omega
  | false => rw [if_neg (by decide), if_neg (by decide), decide_eq_false (by omega), show ((x.natAbs : Nat) : Int) = x by omega]
theorem signed (z : Int) : (if decide (z < 0) = true then -(z.natAbs : Int) else (z.natAbs : Int)) = z := by
  by_cases h : z < 0
  · rw [if_pos (decide_eq_true h)]; omega
  · rw [if_neg (by simpa using h)]; omega
theorem ref07Of_eq (z : Int) (hl : (nl (z.natAbs : Int)).length ≤ 30000000000) : m_triviumref07_Of (zI z) = some (zZ z) := by
  unfold m_triviumref07_Of
  show bd (m_triviumref02_Of (nl (z.natAbs : Int))) _ = _
  rw [refOf_eq _ (by omega) hl, bd_some, ref07Made_eq _ _ (by omega), bd_some]
  show some (zZ (if decide (z < 0) = true then -(z.natAbs : Int) else (z.natAbs : Int))) = _
  rw [signed]
theorem ref07Back_eq (z : Int) (hl : (zl (z.natAbs : Int)).length ≤ 100000000000) : m_triviumref07_Back (zZ z) = some (zI z) := by
  unfold m_triviumref07_Back
  show bd (m_triviumref02_Back (zl (z.natAbs : Int))) _ = _
  rw [refBack_eq _ (by omega) hl, bd_some]
  rfl
theorem gcd_abs (a b : Int) : Int.gcd (a.natAbs : Int) b = Int.gcd a b := by
  unfold Int.gcd; rw [Int.natAbs_natCast]
theorem ref08Low_eq (a b : Int) (hb : 0 < b) (hla : (zl (a.natAbs : Int)).length ≤ 100000000) (hlb : (zl b).length ≤ 100000000) : m_triviumref08_Low (zZ a) (zl b) = some (rQ (a / Int.gcd a b) (b / Int.gcd a b)) := by
  unfold m_triviumref08_Low
  show bd (m_triviumref02_Gcd (zl (a.natAbs : Int)) (zl b)) _ = _
  have hg : 0 < (Int.gcd a b : Int) := by
    have := Int.gcd_pos_of_ne_zero_right a (show b ≠ 0 by omega); omega
  have hgb : (Int.gcd a b : Int) ≤ b := Int.le_of_dvd hb (Int.gcd_dvd_right a b)
  have hgl : (zl (Int.gcd a b : Int)).length ≤ 100000000 := Nat.le_trans (zl_mono (by omega) hgb) hlb
  rw [refGcd_eq b.toNat _ b (Nat.le_refl _) (by omega) (by omega) (by omega) (by omega), bd_some, gcd_abs]
  show bd (m_triviumref02_Div (zl (a.natAbs : Int)) _) _ = _
  rw [refDiv_eq _ _ (by omega) hg (by omega) (by omega), bd_some]
  rw [refDiv_eq _ _ (by omega) hg (by omega) (by omega), bd_some]
  have hd : (Int.gcd a b : Int) ∣ a := Int.gcd_dvd_left a b
  generalize (Int.gcd a b : Int) = g at *
  obtain ⟨q, rfl⟩ := hd
  have e1 : g * q / g = q := Int.mul_ediv_cancel_left q (by omega)
  have e2 : ((g * q).natAbs : Int) / g = (q.natAbs : Int) := by
    rw [Int.natAbs_mul, Int.natCast_mul, show ((g.natAbs : Nat) : Int) = g by omega, Int.mul_ediv_cancel_left _ (by omega)]
  have e3 : (g * q < 0) ↔ (q < 0) := by
    constructor
    · intro h; apply Int.lt_of_not_ge; intro h2; have := Int.mul_nonneg (Int.le_of_lt hg) h2; omega
    · intro h; exact Int.mul_neg_of_pos_of_neg hg h
  rw [e1, e2]
  unfold rQ zZ
  dsimp only
  by_cases hq : q < 0
  · rw [if_pos (decide_eq_true (e3.2 hq)), neg_or_zl (by omega), decide_eq_true hq, decide_eq_true (by omega)]
  · rw [if_neg (by simp [e3]; omega), decide_eq_false hq]
theorem ref08Back_eq (a b : Int) (hb : 0 ≤ b) (hla : (zl (a.natAbs : Int)).length ≤ 100000000) (hlb : (zl b).length ≤ 100000000) : m_triviumref08_Back (rQ a b) = some (rI a b) := by
  unfold m_triviumref08_Back
  show bd (m_triviumref07_Back (zZ a)) _ = _
  rw [ref07Back_eq a (by omega), bd_some]
  show bd (m_triviumref02_Back (zl b)) _ = _
  rw [refBack_eq b hb (by omega), bd_some]
  rfl
/-- a fraction that is cleaned -/
def cleanB (p : D_api_Rat) (n : Nat) : Int := if cleanV p.2 n = 0 then 1 else cleanV p.2 n
def cleanN (p : D_api_Rat) (n : Nat) : Int := cleanZ p.1 n / Int.gcd (cleanZ p.1 n) (cleanB p n)
def cleanD (p : D_api_Rat) (n : Nat) : Int := cleanB p n / Int.gcd (cleanZ p.1 n) (cleanB p n)
theorem cleanB_pos (p : D_api_Rat) (n : Nat) : 0 < cleanB p n := by
  have := cleanV_nonneg p.2 n
  unfold cleanB; split <;> omega
theorem cleanB_lt (p : D_api_Rat) (n : Nat) (hn : 0 < n) : cleanB p n < (4294967296 : Int) ^ n := by
  have := cleanV_lt p.2 n
  unfold cleanB; split
  · have := pow_mono (B := (4294967296 : Int)) (by decide) hn
    rw [Int.pow_one] at this; omega
  · exact this
theorem cleanD_pos (p : D_api_Rat) (n : Nat) : 0 < cleanD p n := by
  have h := cleanB_pos p n
  have hg : 0 < (Int.gcd (cleanZ p.1 n) (cleanB p n) : Int) := by
    have := Int.gcd_pos_of_ne_zero_right (cleanZ p.1 n) (show cleanB p n ≠ 0 by omega); omega
  exact Int.ediv_pos_of_pos_of_dvd h (by omega) (Int.gcd_dvd_right _ _)
theorem cleanD_lt (p : D_api_Rat) (n : Nat) (hn : 0 < n) : cleanD p n < (4294967296 : Int) ^ n := by
  have := cleanB_lt p n hn
  have := Int.ediv_le_self (Int.gcd (cleanZ p.1 n) (cleanB p n) : Int) (Int.le_of_lt (cleanB_pos p n))
  unfold cleanD; omega
theorem cleanN_lt (p : D_api_Rat) (n : Nat) : ((cleanN p n).natAbs : Int) < (4294967296 : Int) ^ n := by
  have h1 := cleanV_lt p.1.2 n
  rw [← cleanZ_abs] at h1
  have : (cleanN p n).natAbs ≤ (cleanZ p.1 n).natAbs := by unfold cleanN; exact Int.natAbs_ediv_le_natAbs _ _
  omega
theorem ref08Clean_eq (p : D_api_Rat) (n : Nat) (h1 : Limbs p.1.2) (h2 : Limbs p.2) (hn0 : 0 < n) (hn : n ≤ 10000000) (hl1 : p.1.2.length ≤ 9223372036854775807) (hl2 : p.2.length ≤ 9223372036854775807) (hn' : n ≤ 1000000) :
    m_triviumref08_Clean p (n : Int) = some (rI (cleanN p n) (cleanD p n)) := by
  have hz : ∀ x : Int, 0 ≤ x → x < (4294967296 : Int) ^ n → (zl x).length ≤ 3 * n := fun x h0 h => zl_len h0 (Int.lt_of_lt_of_le h (lb_zb n))
  have hv := cleanV_lt p.1.2 n
  have hb := cleanB_lt p n hn0
  have hbp := cleanB_pos p n
  have e2 : (if decide (((nl (cleanV p.2 n)).length : Int) = 0) = true then some [(1 : Int)] else some (nl (cleanV p.2 n))) = some (nl (cleanB p n)) := by
    have hn := nl_nil (cleanV_nonneg p.2 n)
    unfold cleanB
    by_cases h0 : cleanV p.2 n = 0
    · rw [if_pos h0, hn.2 h0]; simp [nl, num]
    · rw [if_neg h0]
      have : (nl (cleanV p.2 n)) ≠ [] := fun e => h0 (hn.1 e)
      have := List.length_pos_iff.2 this
      rw [if_neg (by simp; omega)]
  unfold m_triviumref08_Clean
  rw [refClean_eq p.2 n h2 hn' hl2, bd_some, e2, bd_some]
  rw [show ((p.1.1, p.1.2) : D_api_Int) = p.1 from rfl, ref07Clean_eq p.1 n h1 hn' hl1, bd_some, ref07Of_eq _ (by rw [cleanZ_abs]; have := nl_len (cleanV_nonneg p.1.2 n) hv; omega), bd_some,
    refOf_eq _ (by omega) (by have := nl_len (Int.le_of_lt hbp) hb; omega), bd_some,
    ref08Low_eq _ _ hbp (by rw [cleanZ_abs]; have := hz _ (cleanV_nonneg p.1.2 n) hv; omega) (by have := hz _ (Int.le_of_lt hbp) hb; omega), bd_some]
  show bd (m_triviumref08_Back (rQ (cleanN p n) (cleanD p n))) _ = _
  rw [ref08Back_eq _ _ (Int.le_of_lt (cleanD_pos p n)) (by have := hz _ (by omega) (cleanN_lt p n); omega) (by have := hz _ (Int.le_of_lt (cleanD_pos p n)) (cleanD_lt p n hn0); omega), bd_some]
end Go.Proofs.YtkjkipkfndckfaaGreatDoor.AP
/- A number divided by a limb. -/
namespace Go.Proofs.YtkjkipkfndckfaaGreatDoor.AP
open Go Go.Proofs.YtkjkipkfndckfaaGreatDoor.Tri
set_option linter.unusedVariables false
set_option linter.unusedSimpArgs false
theorem smallD_loop (x d : Int) (hx : 0 ≤ x) (hd0 : 0 < d) (hd1 : d < (4294967296 : Int)) (hl : (nl x).length ≤ 1000000000000) : ∀ (n i : Nat) (r : Int) (q : List Int), i + n = (nl x).length → 0 ≤ r → r < d → q.length = i → Dig (4294967296 : Int) q → dv (4294967296 : Int) ((nl x).drop n) = dv (4294967296 : Int) q * d + r →
    ∃ q', lp (m_divide_Small_l1 (nl x) d) (r, (i : Int), List.replicate n 0 ++ q) = some (x % d, q') ∧ q'.length = (nl x).length ∧ Dig (4294967296 : Int) q' ∧ dv (4294967296 : Int) q' = x / d
  | 0, i, r, q, hn, h0, h1, hq, hd, hv => by
    rw [List.drop_zero, nl_dv hx] at hv
    have e := Int.ediv_emod_unique (a := x) (b := d) (r := r) (q := dv (4294967296 : Int) q) hd0
    obtain ⟨e1, e2⟩ := e.2 ⟨by rw [hv, Int.mul_comm d]; omega, h0, h1⟩
    obtain rfl : i = (nl x).length := by omega
    exact ⟨q, lp_done (by simp [m_divide_Small_l1, e2]), by omega, hd, e1.symm⟩
  | n + 1, i, r, q, hn, h0, h1, hq, hd, hv => by
    have g := gI_dig (nl_can x).1 (by decide) (n : Int)
    generalize hs : r * (4294967296 : Int) + gI (nl x) (n : Int) = s
    have hs0 : 0 ≤ s := by omega
    have hsy : s < (4294967296 : Int) * d := by omega
    have hqd : s / d < 4294967296 := Int.ediv_lt_of_lt_mul hd0 hsy
    have hqd0 : 0 ≤ s / d := Int.ediv_nonneg hs0 (by omega)
    have a1 : decide ((i : Int) < ((nl x).length : Int)) = true := decide_eq_true (by omega)
    have a0 : wi64 ((wi64 (((nl x).length : Int) - 1)) - (i : Int)) = (n : Int) := by rw [wi64_eq (x := ((nl x).length : Int) - 1) (by omega) (by omega), wi64_eq (by omega) (by omega)]; omega
    have a2 : rd (nl x) (n : Int) = some (gI (nl x) (n : Int)) := rd_I (by omega) (by omega)
    have a3 := limbDiv_eq r (gI (nl x) (n : Int)) d ⟨h0, h1⟩ g ⟨hd0, hd1⟩
    rw [hs] at a3
    have a6 : ix (List.replicate (n + 1) 0 ++ q) (n : Int) = some n := ix_nat (by simp; omega)
    have b1 : wi64 ((i : Int) + 1) = ((i + 1 : Nat) : Int) := by rw [wi64_eq (by omega) (by omega)]; omega
    have e : m_divide_Small_l1 (nl x) d (r, (i : Int), List.replicate (n + 1) 0 ++ q) = some (.inl (s % d, ((i + 1 : Nat) : Int), List.replicate n 0 ++ (s / d) :: q)) := by
      simp only [m_divide_Small_l1, a1, if_true, a0, a2, bd_some, a3, a6, lt_eq, set_down, b1]
    rw [lp_more e]
    exact smallD_loop x d hx hd0 hd1 hl n (i + 1) (s % d) (s / d :: q) (by omega) (Int.emod_nonneg _ (by omega)) (Int.emod_lt_of_pos _ hd0) (by simp; omega) (Dig.cons ⟨hqd0, hqd⟩ hd) (by
      rw [drop_gI (nl x) n (by omega), dv_cons, dv_cons, hv]
      have := Int.mul_ediv_add_emod s d
      generalize s / d = t at *
      generalize s % d = u at *
      generalize gI (nl x) (n : Int) = gg at *
      subst hs
      have h9 : u = r * (4294967296 : Int) + gg - d * t := by omega
      subst h9
      grind)
theorem smallD_eq (x d : Int) (hx : 0 ≤ x) (hd0 : 0 < d) (hd1 : d < (4294967296 : Int)) (hl : (nl x).length ≤ 1000000000000) : m_divide_Small (nl x) d = some (nl (x / d), x % d, 0) := by
  obtain ⟨q', h1, h2, h3, h4⟩ := smallD_loop x d hx hd0 hd1 hl (nl x).length 0 0 [] (by omega) (Int.le_refl _) hd0 rfl (Dig.nil _) (by rw [List.drop_length]; simp [dv])
  unfold m_divide_Small
  have e : d % (4294967296 : Int) = d := Int.emod_eq_of_lt (by omega) hd1
  rw [rm_of (by omega) (by decide), bd_some, e, if_neg (by simp; omega), mk_of (by omega), bd_some]
  rw [List.append_nil] at h1
  rw [show ((nl x).length : Int).toNat = (nl x).length by omega]
  rw [show ((0 : Int), (0 : Int), List.replicate (nl x).length (0 : Int)) = ((0 : Int), ((0 : Nat) : Int), List.replicate (nl x).length (0 : Int)) from rfl, h1, bd_some]
  dsimp only
  rw [make_dig q' h3 (by omega), bd_some, trimz_nl h3 h4]
theorem nl_one {d : Int} (h0 : 0 < d) (h1 : d < (4294967296 : Int)) : nl d = [d] := by
  unfold nl
  rw [num, dif_pos ⟨by decide, by omega⟩]
  have e1 : d.toNat % 4294967296 = d.toNat := Nat.mod_eq_of_lt (by omega)
  have e2 : d.toNat / 4294967296 = 0 := Nat.div_eq_of_lt (by omega)
  rw [e1, e2, num, dif_neg (by omega)]
  congr 1; omega
end Go.Proofs.YtkjkipkfndckfaaGreatDoor.AP
/- The program's numbers, as printed: divided by a limb, multiplied; with signs; fractions. -/
namespace Go.Proofs.YtkjkipkfndckfaaGreatDoor.AP
open Go Go.Proofs.YtkjkipkfndckfaaGreatDoor.Tri
set_option linter.unusedVariables false
set_option linter.unusedSimpArgs false
/-- divided by a limb -/
theorem div1_eq (x d : Int) (hx : 0 ≤ x) (hd0 : 0 < d) (hd1 : d < (4294967296 : Int)) (hl : (nl x).length ≤ 1000000000000) : m_divide_Div (nl x) (nl d) = some (nl (x / d), nl (x % d), 0) := by
  have hr : (nl d).length = 1 := by rw [nl_one hd0 hd1]; rfl
  have h0 := Int.emod_nonneg x (show d ≠ 0 by omega)
  have h1 := Int.emod_lt_of_pos x hd0
  unfold m_divide_Div
  rw [if_neg (by rw [hr]; decide), may_can _ (nl_can x) (by omega), bd_some, may_can _ (nl_can d) (by omega)]
  simp only [bd_some, Bool.not_true]
  rw [if_neg (by decide), bd_some, if_neg (by decide), cmpN_eq x d hx (by omega) (by omega), bd_some]
  by_cases hlt : x < d
  · have e1 : sg (x - d) = -1 := by unfold sg; rw [if_pos (by omega)]
    rw [e1, if_pos (by decide), make_nl x (by omega), bd_some, Int.ediv_eq_zero_of_lt hx hlt, Int.emod_eq_of_lt hx hlt, nl_zero]
  · have e1 : ¬ sg (x - d) < 0 := by unfold sg; split <;> (try split) <;> omega
    rw [if_neg (by simpa using e1), if_pos (by simp; omega)]
    have e2 : rd (nl d) 0 = some d := by rw [nl_one hd0 hd1]; rfl
    rw [e2, bd_some, smallD_eq x d hx hd0 hd1 hl, bd_some]
    dsimp only
    rw [natOf_eq _ h0 (by omega), bd_some]
end Go.Proofs.YtkjkipkfndckfaaGreatDoor.AP
/- Limbs: taking off, cutting, sums, and the product by Karatsuba's way. -/
namespace Go.Proofs.YtkjkipkfndckfaaGreatDoor.AP
open Go Go.Proofs.YtkjkipkfndckfaaGreatDoor.Tri
set_option linter.unusedVariables false
set_option linter.unusedSimpArgs false
theorem limbSub_eq (a b c : Int) (ha : 0 ≤ a ∧ a < (4294967296 : Int)) (hb : 0 ≤ b ∧ b < (4294967296 : Int)) (hc : c = 0 ∨ c = 1) : m_limb_Sub a b c = some (if a < b + c then a + (4294967296 : Int) - (b + c) else a - (b + c), if a < b + c then 1 else 0) := by
  unfold m_limb_Sub
  rw [and_limb a ha.1 ha.2, and_limb b hb.1 hb.2, and_limb c (by omega) (by omega)]
  rw [lt_eq, wu64_eq (x := b + c) (by omega) (by omega)]
  by_cases h : a < b + c
  · rw [if_pos (decide_eq_true h), if_pos h, if_pos h, wu64_eq (x := b + c - a) (by omega) (by omega), wu64_eq (x := b + c - a + 4294967295) (by omega) (by omega), sr32, bd_some, bd_some]
    rw [show (b + c - a + 4294967295) / (4294967296 : Int) = 1 by omega, sh32 1 (by decide) (by decide), bd_some, lt_eq, wu64_eq (x := a + 1 * (4294967296 : Int)) (by omega) (by omega), wu64_eq (x := a + 1 * (4294967296 : Int) - (b + c)) (by omega) (by omega), Int.one_mul]
  · rw [if_neg (by simpa using h), if_neg h, if_neg h, bd_some, sh32 0 (by decide) (by decide), bd_some, lt_eq, Int.zero_mul, wu64_eq (x := a + 0) (by omega) (by omega), Int.add_zero, wu64_eq (x := a - (b + c)) (by omega) (by omega)]
theorem lt_pow_len {x : Int} (hx : 0 ≤ x) : x < (4294967296 : Int) ^ (nl x).length := by
  have := dv_lt (by decide) (nl_can x).1
  rwa [nl_dv hx] at this
end Go.Proofs.YtkjkipkfndckfaaGreatDoor.AP
/- The document's numbers and fractions, as printed: added, multiplied. -/
namespace Go.Proofs.YtkjkipkfndckfaaGreatDoor.AP
open Go Go.Proofs.YtkjkipkfndckfaaGreatDoor.Tri
set_option linter.unusedVariables false
set_option linter.unusedSimpArgs false
end Go.Proofs.YtkjkipkfndckfaaGreatDoor.AP
/- The document's fractions, as printed. -/
namespace Go.Proofs.YtkjkipkfndckfaaGreatDoor.AP
open Go Go.Proofs.YtkjkipkfndckfaaGreatDoor.Tri
set_option linter.unusedVariables false
set_option linter.unusedSimpArgs false
/-- of at most n digits -/
def Sm (n : Nat) (x : Int) : Prop := (x.natAbs : Int) < (10000 : Int) ^ n
theorem Sm.len {n : Nat} {x : Int} (h : Sm n x) : (zl (x.natAbs : Int)).length ≤ n := zl_len (by omega) h
theorem Sm.len' {n : Nat} {x : Int} (h : Sm n x) (h0 : 0 ≤ x) : (zl x).length ≤ n := by
  have := h.len; rwa [show ((x.natAbs : Nat) : Int) = x by omega] at this
theorem Sm.mono {n m : Nat} {x : Int} (h : Sm n x) (k : n ≤ m) : Sm m x := Int.lt_of_lt_of_le h (pow_mono (by decide) k)
theorem Sm.neg {n : Nat} {x : Int} (h : Sm n x) : Sm n (-x) := by unfold Sm; rw [Int.natAbs_neg]; exact h
theorem Sm.mul {n m : Nat} {x y : Int} (h : Sm n x) (k : Sm m y) : Sm (n + m) (x * y) := by
  unfold Sm at *
  rw [Int.natAbs_mul, Int.natCast_mul, Int.pow_add]
  have h1 : (x.natAbs : Int) * (y.natAbs : Int) ≤ (x.natAbs : Int) * (10000 : Int) ^ m := Int.mul_le_mul_of_nonneg_left (Int.le_of_lt k) (by omega)
  have h2 : (x.natAbs : Int) * (10000 : Int) ^ m < (10000 : Int) ^ n * (10000 : Int) ^ m := Int.mul_lt_mul_of_pos_right h (pow_pos' (by decide) m)
  omega
theorem Sm.add {n : Nat} {x y : Int} (h : Sm n x) (k : Sm n y) : Sm (n + 1) (x + y) := by
  unfold Sm at *
  have : (x + y).natAbs ≤ x.natAbs + y.natAbs := Int.natAbs_add_le x y
  rw [Int.pow_succ]
  have := pow_pos' (B := (10000 : Int)) (by decide) n
  omega
theorem Sm.limb {x : Int} {n : Nat} (h : (x.natAbs : Int) < (4294967296 : Int) ^ n) : Sm (3 * n) x := Int.lt_of_lt_of_le h (lb_zb n)
theorem ref08Of_eq (a b : Int) (hb : 0 ≤ b) (h1 : (nl (a.natAbs : Int)).length ≤ 30000000000) (h2 : (nl b).length ≤ 30000000000) : m_triviumref08_Of (rI a b) = some (rQ a b) := by
  unfold m_triviumref08_Of
  show bd (m_triviumref07_Of (zI a)) _ = _
  rw [ref07Of_eq a h1, bd_some]
  show bd (m_triviumref02_Of (nl b)) _ = _
  rw [refOf_eq b hb h2, bd_some]; rfl
end Go.Proofs.YtkjkipkfndckfaaGreatDoor.AP
/- The program's fractions, as printed: parts of a limb. -/
namespace Go.Proofs.YtkjkipkfndckfaaGreatDoor.AP
open Go Go.Proofs.YtkjkipkfndckfaaGreatDoor.Tri
set_option linter.unusedVariables false
set_option linter.unusedSimpArgs false
theorem wMade_eq (b : Bool) (x : Int) (h : 0 ≤ x) (hl : (nl x).length ≤ 10000000000000) : m_whole_Made b (nl x) = some (zI (if b then -x else x)) := by
  unfold m_whole_Made zI
  rw [make_nl x hl, bd_some]
  dsimp only
  cases b with
  | true => rw [if_pos rfl, if_pos rfl, neg_or_nil h, show (((-x).natAbs : Nat) : Int) = x by omega]; congr 2; rw [decide_eq_decide]; omega
  | false => rw [if_neg (by decide), if_neg (by decide), decide_eq_false (by omega), show ((x.natAbs : Nat) : Int) = x by omega]
theorem wSign_eq (a : Int) : m_whole_Sign (zI a) = some (sg a) := by
  unfold m_whole_Sign
  show (if decide (((nl (a.natAbs : Int)).length : Int) = 0) = true then some 0 else if decide (a < 0) = true then some (-1) else some 1) = _
  have hz := nl_nil (x := (a.natAbs : Int)) (by omega)
  unfold sg
  by_cases h0 : a = 0
  · subst h0; rw [if_pos (by rw [show (((0 : Int).natAbs : Nat) : Int) = 0 from rfl, nl_zero]; rfl)]; rfl
  · have : nl (a.natAbs : Int) ≠ [] := fun e => by have := hz.1 e; omega
    have := List.length_pos_iff.2 this
    rw [if_neg (by rw [decide_eq_true_eq]; omega)]
    by_cases h : a < 0
    · rw [if_pos (decide_eq_true h), if_pos h]
    · rw [if_neg (by simpa using h), if_neg h, if_pos (by omega)]
/-- of at most n limbs -/
def Lm (n : Nat) (x : Int) : Prop := (x.natAbs : Int) < (4294967296 : Int) ^ n
theorem Lm.len {n : Nat} {x : Int} (h : Lm n x) : (nl (x.natAbs : Int)).length ≤ n := nl_len (by omega) h
theorem Lm.len' {n : Nat} {x : Int} (h : Lm n x) (h0 : 0 ≤ x) : (nl x).length ≤ n := by
  have := h.len; rwa [show ((x.natAbs : Nat) : Int) = x by omega] at this
theorem Lm.mul {n m : Nat} {x y : Int} (h : Lm n x) (k : Lm m y) : Lm (n + m) (x * y) := by
  unfold Lm at *
  rw [Int.natAbs_mul, Int.natCast_mul, Int.pow_add]
  have h1 : (x.natAbs : Int) * (y.natAbs : Int) ≤ (x.natAbs : Int) * (4294967296 : Int) ^ m := Int.mul_le_mul_of_nonneg_left (Int.le_of_lt k) (by omega)
  have h2 : (x.natAbs : Int) * (4294967296 : Int) ^ m < (4294967296 : Int) ^ n * (4294967296 : Int) ^ m := Int.mul_lt_mul_of_pos_right h (pow_pos' (by decide) m)
  omega
end Go.Proofs.YtkjkipkfndckfaaGreatDoor.AP
/- Products of any length; whole numbers of any length: add, take off, multiply; the document's ones. -/
namespace Go.Proofs.YtkjkipkfndckfaaGreatDoor.AP
open Go Go.Proofs.YtkjkipkfndckfaaGreatDoor.Tri
set_option linter.unusedVariables false
set_option linter.unusedSimpArgs false
theorem Lm.neg {n : Nat} {x : Int} (h : Lm n x) : Lm n (-x) := by unfold Lm; rw [Int.natAbs_neg]; exact h
theorem Lm.add {n : Nat} {x y : Int} (h : Lm n x) (k : Lm n y) : Lm (n + 1) (x + y) := by
  unfold Lm at *
  have := pow_pos' (show (0 : Int) < (4294967296 : Int) by decide) n
  rw [Int.pow_succ]; omega
theorem Lm.mono {n m : Nat} {x : Int} (h : Lm n x) (k : n ≤ m) : Lm m x := Int.lt_of_lt_of_le h (pow_mono (by decide) k)
end Go.Proofs.YtkjkipkfndckfaaGreatDoor.AP
/- Dividing by two limbs or more: what the guess is, bits, shifts. -/
namespace Go.Proofs.YtkjkipkfndckfaaGreatDoor.AP
open Go Go.Proofs.YtkjkipkfndckfaaGreatDoor.Tri
set_option linter.unusedVariables false
set_option linter.unusedSimpArgs false
/-! the guess: no program in sight -/
theorem gs_le {P W R U V Vl Ul g : Int} (hP : 0 < P) (hV : V = Vl + P * W) (hU : U = Ul + P * R) (v0 : 0 ≤ Vl) (u1 : Ul < P) (hg : 0 ≤ g) (h : g * V ≤ U) : g * W ≤ R := by
  have h1 : 0 ≤ g * Vl := Int.mul_nonneg hg v0
  have h2 : P * (g * W) < P * (R + 1) := by
    have e : g * V = g * Vl + P * (g * W) := by rw [hV]; grind
    have e2 : P * (R + 1) = P * R + P := by grind
    omega
  have := Int.lt_of_mul_lt_mul_left h2 (Int.le_of_lt hP)
  omega
theorem gs_up {P W R U V Vl Ul g : Int} (hP : 0 < P) (hV : V = Vl + P * W) (hU : U = Ul + P * R) (v0 : 0 ≤ Vl) (v1 : Vl < P) (u0 : 0 ≤ Ul) (hg : 0 ≤ g) (hg1 : g < (4294967296 : Int)) (hW : (4294967296 : Int) ≤ W) (h : g * W ≤ R) : g * V < U + V := by
  have h1 : g * Vl ≤ g * P := Int.mul_le_mul_of_nonneg_left (Int.le_of_lt v1) hg
  have h2 : g * P < (4294967296 : Int) * P := Int.mul_lt_mul_of_pos_right hg1 hP
  have h3 : (4294967296 : Int) * P ≤ P * W := by rw [Int.mul_comm (4294967296 : Int)]; exact Int.mul_le_mul_of_nonneg_left hW (Int.le_of_lt hP)
  have h4 : P * (g * W) ≤ P * R := Int.mul_le_mul_of_nonneg_left h (Int.le_of_lt hP)
  have e : g * V = g * Vl + P * (g * W) := by rw [hV]; grind
  omega
/-- what a guess must be: with q the quotient -/
theorem gs_fin {U V g : Int} (hV : 0 < V) (h0 : U / V ≤ g) (h : g * V < U + V) : g = U / V ∨ g = U / V + 1 := by
  have : g - 1 ≤ U / V := Int.le_ediv_of_mul_le hV (by have : (g - 1) * V = g * V - V := by grind
                                                       omega)
  omega
/-- the guess's rounds -/
theorem guess_loop (u v : List Int) (i n : Nat) (v1 v0 u0 num q : Int) (hn : 2 ≤ n) (hvl : v.length = n) (hi : i + n < u.length) (hl : u.length ≤ 1000000000000)
    (hv1 : gI v ((n - 1 : Nat) : Int) = v1) (hv0 : gI v ((n - 2 : Nat) : Int) = v0) (hu0 : gI u ((i + n - 2 : Nat) : Int) = u0)
    (b1 : 2147483648 ≤ v1 ∧ v1 < (4294967296 : Int)) (b0 : 0 ≤ v0 ∧ v0 < (4294967296 : Int)) (c0 : 0 ≤ u0 ∧ u0 < (4294967296 : Int)) (hq0 : 0 ≤ q) (hq1 : q < (4294967296 : Int)) (hnum : num < v1 * (4294967296 : Int) + (4294967296 : Int))
    (hstep : ∀ g : Int, 0 ≤ g → num * (4294967296 : Int) + u0 < g * (v1 * (4294967296 : Int) + v0) → q < g) :
    ∀ (k : Nat) (g r : Int), g.toNat ≤ k → 0 ≤ r → r < (4294967296 : Int) → g < (4294967296 : Int) + (4294967296 : Int) → g * v1 + r = num → q ≤ g →
      ∃ g', lp (m_divide_guess_l1 u (i : Int) v) (g, r) = some g' ∧ q ≤ g' ∧ 0 ≤ g' ∧ g' < (4294967296 : Int) ∧ g' * (v1 * (4294967296 : Int) + v0) ≤ num * (4294967296 : Int) + u0
  | k, g, r, hk, r0, r1, hgb, hr, hg => by
    subst hvl
    have x1 : wi64 ((v.length : Int) - 1) = ((v.length - 1 : Nat) : Int) := by rw [wi64_eq (by omega) (by omega)]; omega
    have x2 : wi64 ((v.length : Int) - 2) = ((v.length - 2 : Nat) : Int) := by rw [wi64_eq (by omega) (by omega)]; omega
    have x3 : wi64 ((i : Int) + (v.length : Int)) = ((i + v.length : Nat) : Int) := by rw [wi64_eq (by omega) (by omega)]; omega
    have x4 : wi64 (((i + v.length : Nat) : Int) - 2) = ((i + v.length - 2 : Nat) : Int) := by rw [wi64_eq (by omega) (by omega)]; omega
    have y1 : rd v ((v.length - 1 : Nat) : Int) = some v1 := by rw [rd_I (by omega) (by omega), hv1]
    have y2 : rd v ((v.length - 2 : Nat) : Int) = some v0 := by rw [rd_I (by omega) (by omega), hv0]
    have y3 : rd u ((i + v.length - 2 : Nat) : Int) = some u0 := by rw [rd_I (by omega) (by omega), hu0]
    have z1 : wu64 (g - 1) = g - 1 ∨ g = 0 := by
      by_cases h : g = 0
      · exact .inr h
      · exact .inl (wu64_eq (by omega) (by omega))
    have z2 : wu64 (r + v1) = r + v1 := wu64_eq (by omega) (by omega)
    have z3 := sh32 r r0 r1
    have z4 := or_low r u0 r0 r1 c0.1 c0.2
    have hgv : g < (4294967296 : Int) → wu64 (g * v0) = g * v0 := fun h => by
      have := mul_bound ⟨by omega, h⟩ b0 ⟨Int.le_refl _, by decide⟩ (d := 0) ⟨Int.le_refl _, by decide⟩
      exact wu64_eq this.1 (by omega)
    have hmul : g * (v1 * (4294967296 : Int) + v0) = (num - r) * (4294967296 : Int) + g * v0 := by rw [← hr]; grind
    by_cases hc : (4294967296 : Int) ≤ g ∨ r * (4294967296 : Int) + u0 < g * v0
    · have hqg : q < g := by
        rcases hc with hc | hc
        · omega
        · refine hstep g (by omega) ?_
          rw [hmul]
          have : (num - r) * (4294967296 : Int) = num * (4294967296 : Int) - r * (4294967296 : Int) := by grind
          omega
      have z1' : wu64 (g - 1) = g - 1 := by omega
      have hr' : (g - 1) * v1 + (r + v1) = num := by rw [← hr]; grind
      by_cases hb : (4294967296 : Int) ≤ r + v1
      · have hg2 : g - 1 < (4294967296 : Int) := by
          have : (g - 1) * v1 < (4294967296 : Int) * v1 := by
            have : (4294967296 : Int) * v1 = v1 * (4294967296 : Int) := Int.mul_comm _ _
            omega
          exact Int.lt_of_mul_lt_mul_right this (by omega)
        refine ⟨g - 1, lp_done ?_, by omega, by omega, hg2, ?_⟩
        · have hcond : (if decide (4294967296 ≤ g) = true then some true else bd (rd v (wi64 ((v.length : Int) - 2))) fun x20 => bd (sh .u64 r 32) fun x22 => bd (rd u (wi64 ((wi64 ((i : Int) + (v.length : Int))) - 2))) fun x24 => some (decide ((Go.bits .or .u64 x22 x24) < (wu64 (g * x20))))) = some true := by
            by_cases hgb : 4294967296 ≤ g
            · rw [if_pos (decide_eq_true hgb)]
            · rw [if_neg (by simpa using hgb), x2, y2, bd_some, z3, bd_some, x3, x4, y3, bd_some, z4, hgv (by omega)]
              congr 1
              exact decide_eq_true (by omega)
          simp only [m_divide_guess_l1, hcond, bd_some, x1, y1, if_true, z1', z2, decide_eq_true hb]
        · have := mul_bound ⟨by omega, hg2⟩ b0 ⟨Int.le_refl _, by decide⟩ (d := 0) ⟨Int.le_refl _, by decide⟩
          have e : (g - 1) * (v1 * (4294967296 : Int) + v0) = num * (4294967296 : Int) - (r + v1) * (4294967296 : Int) + (g - 1) * v0 := by rw [← hr']; grind
          have h2 : (4294967296 : Int) * (4294967296 : Int) ≤ (r + v1) * (4294967296 : Int) := Int.mul_le_mul_of_nonneg_right hb (by decide)
          omega
      · cases k with
        | zero => omega
        | succ k =>
          obtain ⟨g', h1, h2⟩ := guess_loop u v i v.length v1 v0 u0 num q hn rfl hi hl hv1 hv0 hu0 b1 b0 c0 hq0 hq1 hnum hstep k (g - 1) (r + v1) (by omega) (by omega) (by omega) (by omega) hr' (by omega)
          refine ⟨g', ?_, h2⟩
          rw [lp_more (s' := (g - 1, r + v1)) ?_]
          · exact h1
          · have hcond : (if decide (4294967296 ≤ g) = true then some true else bd (rd v (wi64 ((v.length : Int) - 2))) fun x20 => bd (sh .u64 r 32) fun x22 => bd (rd u (wi64 ((wi64 ((i : Int) + (v.length : Int))) - 2))) fun x24 => some (decide ((Go.bits .or .u64 x22 x24) < (wu64 (g * x20))))) = some true := by
              by_cases hgb : 4294967296 ≤ g
              · rw [if_pos (decide_eq_true hgb)]
              · rw [if_neg (by simpa using hgb), x2, y2, bd_some, z3, bd_some, x3, x4, y3, bd_some, z4, hgv (by omega)]
                congr 1
                exact decide_eq_true (by omega)
            simp only [m_divide_guess_l1, hcond, bd_some, x1, y1, if_true, z1', z2, show decide (4294967296 ≤ r + v1) = false from decide_eq_false hb]; rfl
    · refine ⟨g, lp_done ?_, hg, by omega, by omega, ?_⟩
      · have hcond : (if decide (4294967296 ≤ g) = true then some true else bd (rd v (wi64 ((v.length : Int) - 2))) fun x20 => bd (sh .u64 r 32) fun x22 => bd (rd u (wi64 ((wi64 ((i : Int) + (v.length : Int))) - 2))) fun x24 => some (decide ((Go.bits .or .u64 x22 x24) < (wu64 (g * x20))))) = some false := by
          by_cases hgb : 4294967296 ≤ g
          · rw [if_pos (decide_eq_true hgb)]; exact absurd hgb (by omega)
          · rw [if_neg (by simpa using hgb), x2, y2, bd_some, z3, bd_some, x3, x4, y3, bd_some, z4, hgv (by omega)]
            congr 1
            exact decide_eq_false (by omega)
        simp only [m_divide_guess_l1, hcond, bd_some]; rfl
      · rw [hmul]
        have : (num - r) * (4294967296 : Int) = num * (4294967296 : Int) - r * (4294967296 : Int) := by grind
        omega
/-! bits of a limb -/
theorem mod_step (a : Int) (k : Nat) : a % 2 ^ (k + 1) = a % 2 ^ k + 2 ^ k * ((a / 2 ^ k) % 2) := by
  have hp : (0 : Int) < 2 ^ k := pow_pos' (by decide) k
  have h1 := Int.mul_ediv_add_emod a (2 ^ k)
  have h2 := Int.mul_ediv_add_emod (a / 2 ^ k) 2
  have h3 := Int.emod_nonneg a (show (2 : Int) ^ k ≠ 0 by omega)
  have h4 := Int.emod_lt_of_pos a hp
  have h5 := Int.emod_nonneg (a / 2 ^ k) (show (2 : Int) ≠ 0 by decide)
  have h6 := Int.emod_lt_of_pos (a / 2 ^ k) (show (0 : Int) < 2 by decide)
  have e := Int.ediv_emod_unique (a := a) (b := 2 ^ (k + 1)) (r := a % 2 ^ k + 2 ^ k * ((a / 2 ^ k) % 2)) (q := a / 2 ^ k / 2) (pow_pos' (by decide) _)
  refine (e.2 ⟨?_, ?_, ?_⟩).2
  · rw [Int.pow_succ]
    generalize a / 2 ^ k / 2 = q2 at *
    generalize (a / 2 ^ k) % 2 = m2 at *
    generalize a / 2 ^ k = q1 at *
    generalize a % 2 ^ k = m1 at *
    subst h2
    rw [← h1]; grind
  · have := Int.mul_nonneg (Int.le_of_lt hp) h5; omega
  · rw [Int.pow_succ]
    have : (2 : Int) ^ k * ((a / 2 ^ k) % 2) ≤ 2 ^ k * 1 := Int.mul_le_mul_of_nonneg_left (by omega) (Int.le_of_lt hp)
    omega
/-- n bits: just as many as a number needs -/
def Nb (a : Int) (n : Nat) : Prop := a < 2 ^ n ∧ (0 < n → 2 ^ (n - 1) ≤ a)
theorem Nb.step {a : Int} {k n : Nat} (hn : n ≤ k) (h : Nb (a % 2 ^ k) n) : Nb (a % 2 ^ (k + 1)) (if (a / 2 ^ k) % 2 = 1 then k + 1 else n) := by
  have hp : (0 : Int) < 2 ^ k := pow_pos' (by decide) k
  have h3 := Int.emod_nonneg a (show (2 : Int) ^ k ≠ 0 by omega)
  have h4 := Int.emod_lt_of_pos a hp
  have h5 := Int.emod_nonneg (a / 2 ^ k) (show (2 : Int) ≠ 0 by decide)
  have h6 := Int.emod_lt_of_pos (a / 2 ^ k) (show (0 : Int) < 2 by decide)
  rw [mod_step]
  by_cases h1 : (a / 2 ^ k) % 2 = 1
  · rw [if_pos h1, h1, Int.mul_one]
    refine ⟨by rw [Int.pow_succ]; omega, fun _ => by rw [Nat.add_sub_cancel]; omega⟩
  · rw [if_neg h1, show (a / 2 ^ k) % 2 = 0 by omega, Int.mul_zero, Int.add_zero]
    exact h
theorem gI_mid (L D R : List Int) (x : Int) : gI (L ++ D ++ x :: R) ((L.length + D.length : Nat) : Int) = x := by
  unfold gI
  rw [Int.toNat_natCast, List.getD_eq_getElem?_getD, List.getElem?_append_right (by simp)]
  simp
theorem set_mid (L D R : List Int) (x y : Int) : (L ++ D ++ x :: R).set (L.length + D.length) y = L ++ (D ++ [y]) ++ R := by
  rw [show L.length + D.length = (L ++ D).length by simp, set_at]; simp
theorem gI_beyond (l : List Int) (i : Nat) (h : l.length ≤ i) : gI l (i : Int) = 0 := by
  unfold gI; rw [List.getD_eq_getElem?_getD, List.getElem?_eq_none (by simpa using h)]; rfl
theorem split_two {n : Nat} {v : List Int} (h : v.length = n + 2) : ∃ l a b, v = l ++ [a, b] ∧ l.length = n := by
  obtain ⟨d, b, rfl, hd⟩ := split_last h
  obtain ⟨l, a, rfl, hl⟩ := split_last hd
  exact ⟨l, a, b, by simp, hl⟩
theorem split_three {n : Nat} {v : List Int} (h : v.length = n + 3) : ∃ l a b c, v = l ++ [a, b, c] ∧ l.length = n := by
  obtain ⟨d, c, rfl, hd⟩ := split_last h
  obtain ⟨l, a, b, rfl, hl⟩ := split_two hd
  exact ⟨l, a, b, c, by simp, hl⟩
/-- the guess: right, or one too great -/
theorem guess_eq (L M R v : List Int) (n : Nat) (hvl : v.length = n + 2) (hM : M.length = v.length + 1) (hv : Dig (4294967296 : Int) v) (hm : Dig (4294967296 : Int) M) (ht : 2147483648 ≤ gI v ((n + 1 : Nat) : Int)) (hU : dv (4294967296 : Int) M < dv (4294967296 : Int) v * (4294967296 : Int))
    (hl : (L ++ M ++ R).length ≤ 1000000000000) : ∃ g, m_divide_guess (L ++ M ++ R) (L.length : Int) v = some g ∧ 0 ≤ g ∧ g < (4294967296 : Int) ∧ (g = dv (4294967296 : Int) M / dv (4294967296 : Int) v ∨ g = dv (4294967296 : Int) M / dv (4294967296 : Int) v + 1) := by
  obtain ⟨Vl, v0, v1, rfl, hVl⟩ := split_two hvl
  obtain ⟨Ml, u0, u1, u2, rfl, hMl⟩ := split_three (v := M) (n := n) (by omega)
  have dV := hv.left
  have dU := hm.left
  have b0 := hv.right.head
  have b1 := hv.right.tail.head
  have c0 := hm.right.head
  have c1 := hm.right.tail.head
  have c2 := hm.right.tail.tail.head
  have ev1 : gI (Vl ++ [v0, v1]) ((n + 1 : Nat) : Int) = v1 := by
    have := gI_mid Vl [v0] [] v1
    rw [hVl] at this
    simpa using this
  rw [ev1] at ht
  have ev0 : gI (Vl ++ [v0, v1]) ((n : Nat) : Int) = v0 := by
    have := gI_mid Vl [] [v1] v0
    rw [hVl] at this
    simpa using this
  have eu0 : gI (L ++ (Ml ++ [u0, u1, u2]) ++ R) ((L.length + n : Nat) : Int) = u0 := by
    have := gI_mid L Ml (u1 :: u2 :: R) u0
    rw [hMl] at this
    simpa using this
  have eu1 : gI (L ++ (Ml ++ [u0, u1, u2]) ++ R) ((L.length + n + 1 : Nat) : Int) = u1 := by
    have := gI_mid L (Ml ++ [u0]) (u2 :: R) u1
    rw [List.length_append, hMl] at this
    simpa [Nat.add_assoc] using this
  have eu2 : gI (L ++ (Ml ++ [u0, u1, u2]) ++ R) ((L.length + n + 2 : Nat) : Int) = u2 := by
    have := gI_mid L (Ml ++ [u0, u1]) R u2
    rw [List.length_append, hMl] at this
    simpa [Nat.add_assoc] using this
  have hlu : (L ++ (Ml ++ [u0, u1, u2]) ++ R).length = L.length + (n + 3) + R.length := by simp [hMl]; omega
  generalize hu : L ++ (Ml ++ [u0, u1, u2]) ++ R = u at *
  have eV : dv (4294967296 : Int) (Vl ++ [v0, v1]) = dv (4294967296 : Int) Vl + (4294967296 : Int) ^ n * (v1 * (4294967296 : Int) + v0) := by
    rw [dv_append, hVl]; simp only [dv]; rw [Int.mul_zero, Int.add_zero, Int.mul_comm (4294967296 : Int) v1, Int.add_comm v0]
  have eU : dv (4294967296 : Int) (Ml ++ [u0, u1, u2]) = dv (4294967296 : Int) Ml + (4294967296 : Int) ^ n * ((u2 * (4294967296 : Int) + u1) * (4294967296 : Int) + u0) := by
    rw [dv_append, hMl]; simp only [dv]
    have : u0 + (4294967296 : Int) * (u1 + (4294967296 : Int) * (u2 + (4294967296 : Int) * 0)) = (u2 * (4294967296 : Int) + u1) * (4294967296 : Int) + u0 := by grind
    rw [this]
  have lV0 := dv_nonneg (by decide) dV
  have lU0 := dv_nonneg (by decide) dU
  have lV := dv_lt (by decide) dV
  have lU := dv_lt (by decide) dU
  rw [hVl] at lV
  rw [hMl] at lU
  have hP := pow_pos' (show (0 : Int) < (4294967296 : Int) by decide) n
  generalize dv (4294967296 : Int) (Vl ++ [v0, v1]) = V at *
  generalize dv (4294967296 : Int) (Ml ++ [u0, u1, u2]) = U at *
  generalize dv (4294967296 : Int) Vl = VL at *
  generalize dv (4294967296 : Int) Ml = UL at *
  generalize hnum : u2 * (4294967296 : Int) + u1 = num at *
  have hVp : 0 < V := by
    have : 0 < (4294967296 : Int) ^ n * (v1 * (4294967296 : Int) + v0) := Int.mul_pos hP (by omega)
    omega
  have hU0 : 0 ≤ U := by
    have : 0 ≤ (4294967296 : Int) ^ n * (num * (4294967296 : Int) + u0) := Int.mul_nonneg (by omega) (by omega)
    omega
  have q0 : 0 ≤ U / V := Int.ediv_nonneg hU0 (by omega)
  have q1 : U / V < (4294967296 : Int) := Int.ediv_lt_of_lt_mul hVp (by rw [Int.mul_comm]; exact hU)
  have hqU : (U / V) * V ≤ U := Int.ediv_mul_le U (by omega)
  have hn2 : num < v1 * (4294967296 : Int) + (4294967296 : Int) := by
    have h1 : (4294967296 : Int) ^ n * (num * (4294967296 : Int) + u0) < (4294967296 : Int) ^ n * ((v1 * (4294967296 : Int) + v0 + 1) * (4294967296 : Int)) := by
      have e2 : V * (4294967296 : Int) < ((4294967296 : Int) ^ n * (v1 * (4294967296 : Int) + v0 + 1)) * (4294967296 : Int) := by
        refine Int.mul_lt_mul_of_pos_right ?_ (by decide)
        rw [eV, Int.mul_add ((4294967296 : Int) ^ n) (v1 * (4294967296 : Int) + v0) 1]; omega
      have e3 : (4294967296 : Int) ^ n * ((v1 * (4294967296 : Int) + v0 + 1) * (4294967296 : Int)) = ((4294967296 : Int) ^ n * (v1 * (4294967296 : Int) + v0 + 1)) * (4294967296 : Int) := by rw [Int.mul_assoc]
      omega
    have := Int.lt_of_mul_lt_mul_left h1 (Int.le_of_lt hP)
    omega
  have g0 : (U / V) * (v1 * (4294967296 : Int) + v0) ≤ num * (4294967296 : Int) + u0 := gs_le hP eV eU lV0 lU q0 hqU
  have g1 : U / V ≤ num / v1 := by
    refine Int.le_ediv_of_mul_le (by omega) ?_
    have h1 : (U / V) * (v1 * (4294967296 : Int) + v0) = (U / V) * v1 * (4294967296 : Int) + (U / V) * v0 := by grind
    have h2 : 0 ≤ (U / V) * v0 := Int.mul_nonneg q0 b0.1
    omega
  have hr1 := Int.emod_nonneg num (show v1 ≠ 0 by omega)
  have hr2 := Int.emod_lt_of_pos num (show 0 < v1 by omega)
  have hr3 := Int.mul_ediv_add_emod num v1
  have hstep : ∀ g : Int, 0 ≤ g → num * (4294967296 : Int) + u0 < g * (v1 * (4294967296 : Int) + v0) → U / V < g := fun g hg hlt => by
    refine Int.ediv_lt_of_lt_mul hVp ?_
    apply Int.lt_of_not_ge
    intro hge
    have := gs_le hP eV eU lV0 lU hg hge
    omega
  have hgb : num / v1 < (4294967296 : Int) + (4294967296 : Int) := by
    refine Int.ediv_lt_of_lt_mul (by omega) ?_
    omega
  obtain ⟨g, r1, r2, r3, r4, r5⟩ := guess_loop u (Vl ++ [v0, v1]) L.length (n + 2) v1 v0 u0 num (U / V) (by omega) (by simp [hVl]) (by omega) (by omega) (by rw [show n + 2 - 1 = n + 1 by omega, ev1]) (by rw [show n + 2 - 2 = n by omega, ev0]) (by rw [show L.length + (n + 2) - 2 = L.length + n by omega, eu0]) ⟨ht, b1.2⟩ b0 c0 q0 q1 hn2 hstep (num / v1).toNat (num / v1) (num % v1) (Nat.le_refl _) hr1 (by omega) hgb (by rw [Int.mul_comm]; exact hr3) g1
  have hfin := gs_up hP eV eU lV0 lV lU0 r3 r4 (by omega) r5
  refine ⟨g, ?_, r3, r4, gs_fin hVp r2 hfin⟩
  have hln : (Vl ++ [v0, v1]).length = n + 2 := by simp [hVl]
  have x1 : wi64 (((n + 2 : Nat) : Int) - 1) = ((n + 1 : Nat) : Int) := by rw [wi64_eq (by omega) (by omega)]; omega
  have x3 : wi64 ((L.length : Int) + ((n + 2 : Nat) : Int)) = ((L.length + n + 2 : Nat) : Int) := by rw [wi64_eq (by omega) (by omega)]; omega
  have x4 : wi64 (((L.length + n + 2 : Nat) : Int) - 1) = ((L.length + n + 1 : Nat) : Int) := by rw [wi64_eq (by omega) (by omega)]; omega
  have y1 : rd (Vl ++ [v0, v1]) ((n + 1 : Nat) : Int) = some v1 := by rw [rd_I (by omega) (by omega), ev1]
  have y2 : rd u ((L.length + n + 2 : Nat) : Int) = some u2 := by rw [rd_I (by omega) (by omega), eu2]
  have y3 : rd u ((L.length + n + 1 : Nat) : Int) = some u1 := by rw [rd_I (by omega) (by omega), eu1]
  unfold m_divide_guess
  rw [hln, x3, y2, bd_some, sh32 u2 c2.1 c2.2, bd_some, x4, y3, bd_some, x1, y1, bd_some, or_low u2 u1 c2.1 c2.2 c1.1 c1.2, hnum, qdU (by omega) (by omega) (by omega), bd_some, bd_some, rm_of (by omega) (by omega), bd_some, r1, bd_some]
end Go.Proofs.YtkjkipkfndckfaaGreatDoor.AP
/- Dividing by two limbs or more: taking off, giving back, the rounds. -/
namespace Go.Proofs.YtkjkipkfndckfaaGreatDoor.AP
open Go Go.Proofs.YtkjkipkfndckfaaGreatDoor.Tri
set_option linter.unusedVariables false
set_option linter.unusedSimpArgs false
theorem eln_eq {α : Type} {a b : List α} (h : a.length = b.length) : eln a b = some () := by unfold eln; simp [h]
theorem divAt_eq (a : List Int) (i : Nat) (hl : a.length ≤ 4611686018427387904) : m_divide_at a (i : Int) = some (gI a (i : Int)) := by
  unfold m_divide_at
  by_cases h : a.length ≤ i
  · rw [if_pos (by simp; omega), gI_beyond a i h]
  · rw [if_neg (by simp; omega), rd_I (by omega) (by omega), bd_some]
theorem take_loop (v L R : List Int) (g : Int) (hv : Dig (4294967296 : Int) v) (hg : 0 ≤ g ∧ g < (4294967296 : Int)) (hl : v.length ≤ 1000000000) (hL : L.length ≤ 1000000000) :
    ∀ (M D : List Int) (ca bo : Int), D.length + M.length = v.length + 1 → Dig (4294967296 : Int) M → Dig (4294967296 : Int) D → (0 ≤ ca ∧ ca < (4294967296 : Int)) → (bo = 0 ∨ bo = 1) → (v.length < D.length → ca = 0) → ∀ X, dv (4294967296 : Int) D - (4294967296 : Int) ^ D.length * (ca + bo) = X - g * dv (4294967296 : Int) (v.take D.length) →
    ∃ D' bo', lp (m_divide_take_M_l1 (L.length : Int) v g) (ca, bo, (D.length : Int), L ++ D ++ (M ++ R)) = some (bo', L ++ D' ++ R) ∧ (bo' = 0 ∨ bo' = 1) ∧ Dig (4294967296 : Int) D' ∧ D'.length = v.length + 1 ∧ dv (4294967296 : Int) D' - (4294967296 : Int) ^ (v.length + 1) * bo' = X + (4294967296 : Int) ^ D.length * dv (4294967296 : Int) M - g * dv (4294967296 : Int) v
  | [], D, ca, bo, hM, hm, hD, hc, hb, hz, X, hX => by
    simp only [List.length_nil, Nat.add_zero] at hM
    have := hz (by omega)
    subst this
    refine ⟨D, bo, lp_done ?_, hb, hD, hM, ?_⟩
    · have a1 : wi64 ((v.length : Int) + 1) = ((v.length + 1 : Nat) : Int) := by rw [wi64_eq (by omega) (by omega)]; omega
      simp only [m_divide_take_M_l1, a1, show decide ((D.length : Int) < ((v.length + 1 : Nat) : Int)) = false from decide_eq_false (by omega)]
      rfl
    · rw [hM, Int.zero_add, List.take_of_length_le (by omega)] at hX
      rw [dv_nil, Int.mul_zero, Int.add_zero]; exact hX
  | m :: M, D, ca, bo, hM, hm, hD, hc, hb, hz, X, hX => by
    simp only [List.length_cons] at hM
    have gv := gI_dig hv (by decide) (D.length : Int)
    obtain ⟨s0, s1⟩ := mul_bound hg gv hc (d := 0) ⟨Int.le_refl _, by decide⟩
    have a8 := limbMul_eq g (gI v (D.length : Int)) ca 0 hg gv hc ⟨Int.le_refl _, by decide⟩
    generalize hs : g * gI v (D.length : Int) + ca + 0 = s at *
    have hsq : s / (4294967296 : Int) < (4294967296 : Int) := Int.ediv_lt_of_lt_mul (by decide) s1
    have a9 := limbSub_eq m (s % (4294967296 : Int)) bo hm.head ⟨by omega, by omega⟩ hb
    generalize hd : (if m < s % (4294967296 : Int) + bo then m + (4294967296 : Int) - (s % (4294967296 : Int) + bo) else m - (s % (4294967296 : Int) + bo)) = d at *
    generalize hb1 : (if m < s % (4294967296 : Int) + bo then (1 : Int) else 0) = b1 at *
    have hmh := hm.head
    have hdb : d = m - (s % (4294967296 : Int) + bo) + (4294967296 : Int) * b1 ∧ (b1 = 0 ∨ b1 = 1) ∧ 0 ≤ d ∧ d < (4294967296 : Int) := by
      subst hd; subst hb1; split <;> omega
    have e1 : m_divide_take_M_l1 (L.length : Int) v g (ca, bo, (D.length : Int), L ++ D ++ (m :: M ++ R)) = some (.inl (s / (4294967296 : Int), b1, ((D.length + 1 : Nat) : Int), L ++ (D ++ [d]) ++ (M ++ R))) := by
      have a1 : wi64 ((v.length : Int) + 1) = ((v.length + 1 : Nat) : Int) := by rw [wi64_eq (by omega) (by omega)]; omega
      have a2 : decide ((D.length : Int) < ((v.length + 1 : Nat) : Int)) = true := decide_eq_true (by omega)
      have a3 : wi64 ((L.length : Int) + (D.length : Int)) = ((L.length + D.length : Nat) : Int) := by rw [wi64_eq (by omega) (by omega)]; omega
      have a4 : rd (L ++ D ++ (m :: M ++ R)) ((L.length + D.length : Nat) : Int) = some m := by rw [rd_I (by omega) (by simp; omega), List.cons_append, gI_mid]
      have a5 : ix (L ++ D ++ (m :: M ++ R)) ((L.length + D.length : Nat) : Int) = some (L.length + D.length) := ix_nat (by simp only [List.length_append, List.length_cons]; omega)
      have a6 : (L ++ D ++ (m :: M ++ R)).set (L.length + D.length) d = L ++ (D ++ [d]) ++ (M ++ R) := by rw [List.cons_append, set_mid]
      have a7 : wi64 ((D.length : Int) + 1) = ((D.length + 1 : Nat) : Int) := by rw [wi64_eq (by omega) (by omega)]; omega
      simp only [m_divide_take_M_l1, a1, a2, if_true, divAt_eq v D.length (by omega), bd_some, a8, a3, a4, a9, a5, lt_eq, a6, a7]
    have ih := take_loop v L R g hv hg hl hL M (D ++ [d]) (s / (4294967296 : Int)) b1 (by simp; omega) hm.tail (hD.snoc hdb.2.2) ⟨by omega, hsq⟩ hdb.2.1 (by
      intro h
      simp at h
      have hgz := gI_beyond v D.length (by omega)
      by_cases h2 : v.length < D.length
      · have := hz h2; rw [hgz, this] at hs; simp at hs; subst hs; rfl
      · rw [hgz] at hs; simp at hs; subst hs; exact Int.ediv_eq_zero_of_lt hc.1 hc.2) (X + (4294967296 : Int) ^ D.length * m) (by
      rw [dv_snoc, List.length_append, List.length_singleton, take_gI', Int.pow_succ]
      have := Int.mul_ediv_add_emod s (4294967296 : Int)
      obtain ⟨h3, -⟩ := hdb
      clear hd hb1 a8 a9 e1
      generalize (4294967296 : Int) ^ D.length = P at *
      generalize gI v (D.length : Int) = g1 at *
      generalize dv (4294967296 : Int) (List.take D.length v) = T at *
      generalize dv (4294967296 : Int) D = DD at *
      generalize s / (4294967296 : Int) = q at *
      generalize s % (4294967296 : Int) = r at *
      have hr : r = g * g1 + ca - (4294967296 : Int) * q := by omega
      subst hr
      subst h3
      grind)
    obtain ⟨D', bo', r1, r2, r3, r4, r5⟩ := ih
    refine ⟨D', bo', ?_, r2, r3, r4, ?_⟩
    · rw [lp_more e1]
      simpa using r1
    · rw [r5, dv_cons, List.length_append, List.length_singleton, Int.pow_succ]
      grind
theorem give_loop (v L R o1 : List Int) (ho : o1.length = L.length + (v.length + 1) + R.length) (hv : Dig (4294967296 : Int) v) (hl : v.length ≤ 1000000000) (hL : L.length ≤ 1000000000) :
    ∀ (M D : List Int) (ca : Int), D.length + M.length = v.length + 1 → Dig (4294967296 : Int) M → Dig (4294967296 : Int) D → (ca = 0 ∨ ca = 1) → ∀ X, dv (4294967296 : Int) D + (4294967296 : Int) ^ D.length * ca = X + dv (4294967296 : Int) (v.take D.length) →
    ∃ D' ca', lp (m_divide_give_M_l1 (L.length : Int) v o1) (ca, (D.length : Int), L ++ D ++ (M ++ R)) = some (L ++ D' ++ R) ∧ (ca' = 0 ∨ ca' = 1) ∧ Dig (4294967296 : Int) D' ∧ D'.length = v.length + 1 ∧ dv (4294967296 : Int) D' + (4294967296 : Int) ^ (v.length + 1) * ca' = X + (4294967296 : Int) ^ D.length * dv (4294967296 : Int) M + dv (4294967296 : Int) v
  | [], D, ca, hM, hm, hD, hc, X, hX => by
    simp only [List.length_nil, Nat.add_zero] at hM
    refine ⟨D, ca, lp_done ?_, hc, hD, hM, ?_⟩
    · have a1 : wi64 ((v.length : Int) + 1) = ((v.length + 1 : Nat) : Int) := by rw [wi64_eq (by omega) (by omega)]; omega
      simp only [m_divide_give_M_l1, a1, show decide ((D.length : Int) < ((v.length + 1 : Nat) : Int)) = false from decide_eq_false (by omega)]
      have e : eln o1 (L ++ D ++ ([] ++ R)) = some () := eln_eq (by simp; omega)
      rw [e]
      rfl
    · rw [hM, List.take_of_length_le (by omega)] at hX
      rw [dv_nil, Int.mul_zero, Int.add_zero]; exact hX
  | m :: M, D, ca, hM, hm, hD, hc, X, hX => by
    simp only [List.length_cons] at hM
    have gv := gI_dig hv (by decide) (D.length : Int)
    have hmh := hm.head
    have a9 := limbAdd_eq m (gI v (D.length : Int)) ca hmh gv (by omega)
    generalize hs : m + gI v (D.length : Int) + ca = s at *
    have e1 : m_divide_give_M_l1 (L.length : Int) v o1 (ca, (D.length : Int), L ++ D ++ (m :: M ++ R)) = some (.inl (s / (4294967296 : Int), ((D.length + 1 : Nat) : Int), L ++ (D ++ [s % (4294967296 : Int)]) ++ (M ++ R))) := by
      have a1 : wi64 ((v.length : Int) + 1) = ((v.length + 1 : Nat) : Int) := by rw [wi64_eq (by omega) (by omega)]; omega
      have a2 : decide ((D.length : Int) < ((v.length + 1 : Nat) : Int)) = true := decide_eq_true (by omega)
      have a3 : wi64 ((L.length : Int) + (D.length : Int)) = ((L.length + D.length : Nat) : Int) := by rw [wi64_eq (by omega) (by omega)]; omega
      have a4 : rd (L ++ D ++ (m :: M ++ R)) ((L.length + D.length : Nat) : Int) = some m := by rw [rd_I (by omega) (by simp; omega), List.cons_append, gI_mid]
      have a5 : ix (L ++ D ++ (m :: M ++ R)) ((L.length + D.length : Nat) : Int) = some (L.length + D.length) := ix_nat (by simp only [List.length_append, List.length_cons]; omega)
      have a6 : (L ++ D ++ (m :: M ++ R)).set (L.length + D.length) (s % (4294967296 : Int)) = L ++ (D ++ [s % (4294967296 : Int)]) ++ (M ++ R) := by rw [List.cons_append, set_mid]
      have a7 : wi64 ((D.length : Int) + 1) = ((D.length + 1 : Nat) : Int) := by rw [wi64_eq (by omega) (by omega)]; omega
      simp only [m_divide_give_M_l1, a1, a2, if_true, divAt_eq v D.length (by omega), bd_some, a3, a4, a9, a5, lt_eq, a6, a7]
    have ih := give_loop v L R o1 ho hv hl hL M (D ++ [s % (4294967296 : Int)]) (s / (4294967296 : Int)) (by simp; omega) hm.tail (hD.snoc ⟨by omega, by omega⟩) (by omega) (X + (4294967296 : Int) ^ D.length * m) (by
      rw [dv_snoc, List.length_append, List.length_singleton, take_gI', Int.pow_succ]
      have := Int.mul_ediv_add_emod s (4294967296 : Int)
      clear a9 e1
      generalize (4294967296 : Int) ^ D.length = P at *
      generalize gI v (D.length : Int) = g1 at *
      generalize dv (4294967296 : Int) (List.take D.length v) = T at *
      generalize dv (4294967296 : Int) D = DD at *
      generalize s / (4294967296 : Int) = q at *
      generalize s % (4294967296 : Int) = r at *
      have hr : r = m + g1 + ca - (4294967296 : Int) * q := by omega
      subst hr
      grind)
    obtain ⟨D', ca', r1, r2, r3, r4, r5⟩ := ih
    refine ⟨D', ca', ?_, r2, r3, r4, ?_⟩
    · rw [lp_more e1]
      simpa using r1
    · rw [r5, dv_cons, List.length_append, List.length_singleton, Int.pow_succ]
      grind
theorem take_eq (L M R v : List Int) (g : Int) (hM : M.length = v.length + 1) (hv : Dig (4294967296 : Int) v) (hm : Dig (4294967296 : Int) M) (hg : 0 ≤ g ∧ g < (4294967296 : Int)) (hl : (L ++ M ++ R).length ≤ 1000000000) (hlv : v.length ≤ 1000000000) :
    ∃ D, m_divide_take_M (L.length : Int) v g (L ++ M ++ R) = some (decide (dv (4294967296 : Int) M < g * dv (4294967296 : Int) v), L ++ D ++ R) ∧ D.length = v.length + 1 ∧ Dig (4294967296 : Int) D ∧ dv (4294967296 : Int) D = dv (4294967296 : Int) M - g * dv (4294967296 : Int) v + (if dv (4294967296 : Int) M < g * dv (4294967296 : Int) v then (4294967296 : Int) ^ (v.length + 1) else 0) := by
  simp only [List.length_append] at hl
  obtain ⟨D', bo', h1, h2, h3, h4, h5⟩ := take_loop v L R g hv hg hlv (by omega) M [] 0 0 (by simp; omega) hm (Dig.nil _) ⟨Int.le_refl _, by decide⟩ (.inl rfl) (fun _ => rfl) 0 (by simp [dv])
  simp only [List.append_nil, List.length_nil, Int.pow_zero, Int.zero_add, Int.one_mul] at h1 h5
  refine ⟨D', ?_, h4, h3, ?_⟩
  · unfold m_divide_take_M
    rw [← List.append_assoc] at h1
    have h1' : lp (m_divide_take_M_l1 (L.length : Int) v g) (0, 0, 0, L ++ M ++ R) = some (bo', L ++ D' ++ R) := h1
    rw [h1', bd_some]
    dsimp only
    rw [eln_eq (by simp; omega), bd_some]
    congr 2
    rw [decide_eq_decide]
    have := dv_lt (by decide) h3
    have := dv_nonneg (by decide) h3
    rw [h4] at *
    rcases h2 with h | h <;> subst h <;> omega
  · have := dv_lt (by decide) h3
    have := dv_nonneg (by decide) h3
    rw [h4] at *
    rcases h2 with h | h <;> subst h <;> split <;> omega
theorem give_eq (L M R v : List Int) (hM : M.length = v.length + 1) (hv : Dig (4294967296 : Int) v) (hm : Dig (4294967296 : Int) M) (hl : (L ++ M ++ R).length ≤ 1000000000) (hlv : v.length ≤ 1000000000) :
    ∃ D c, m_divide_give_M (L.length : Int) v (L ++ M ++ R) = some (L ++ D ++ R) ∧ D.length = v.length + 1 ∧ Dig (4294967296 : Int) D ∧ (c = 0 ∨ c = 1) ∧ dv (4294967296 : Int) D + (4294967296 : Int) ^ (v.length + 1) * c = dv (4294967296 : Int) M + dv (4294967296 : Int) v := by
  simp only [List.length_append] at hl
  obtain ⟨D', c, h1, h2, h3, h4, h5⟩ := give_loop v L R (L ++ M ++ R) (by simp; omega) hv hlv (by omega) M [] 0 (by simp; omega) hm (Dig.nil _) (.inl rfl) 0 (by simp [dv])
  simp only [List.append_nil, List.length_nil, Int.pow_zero, Int.zero_add, Int.one_mul] at h1 h5
  refine ⟨D', c, ?_, h4, h3, h2, h5⟩
  unfold m_divide_give_M
  rw [← List.append_assoc] at h1
  exact h1
end Go.Proofs.YtkjkipkfndckfaaGreatDoor.AP
/- Bits of a limb, shifts, and Knuth's division. -/
namespace Go.Proofs.YtkjkipkfndckfaaGreatDoor.AP
open Go Go.Proofs.YtkjkipkfndckfaaGreatDoor.Tri
set_option linter.unusedVariables false
set_option linter.unusedSimpArgs false
theorem sr_nat (x : Int) (k : Nat) (hk : k ≤ 64) : sr .u64 x (k : Int) = some (x / 2 ^ k) := by
  unfold sr
  rw [if_pos (by omega)]
  have e : min ((k : Int)).toNat IntKind.u64.bits = k := by
    have : IntKind.u64.bits = 64 := rfl
    omega
  rw [e, Int.fdiv_eq_ediv_of_nonneg _ (Int.le_of_lt (pow_pos' (by decide) k))]
theorem sh_nat (x : Int) (k : Nat) (hk : k ≤ 64) : sh .u64 x (k : Int) = some (wu64 (x * 2 ^ k)) := by
  unfold sh
  rw [if_pos (by omega)]
  have e : min ((k : Int)).toNat IntKind.u64.bits = k := by
    have : IntKind.u64.bits = 64 := rfl
    omega
  rw [e]; rfl
theorem and_one (x : Int) (h0 : 0 ≤ x) (h1 : x < 18446744073709551616) : Go.bits .and .u64 x 1 = x % 2 := by
  rw [u64_and x _ h0 h1 (by omega) (by omega)]
  have : (1 : Int).toNat = 2 ^ 1 - 1 := rfl
  rw [this, Nat.and_two_pow_sub_one_eq_mod]
  omega
theorem bits_loop (a : Int) (h0 : 0 ≤ a) (h1 : a < (4294967296 : Int)) : ∀ (r k n : Nat), k + r = 32 → n ≤ k → Nb (a % 2 ^ k) n → ∃ m : Nat, lp (m_limb_Bits_l1 a) ((n : Int), (k : Int)) = some (m : Int) ∧ m ≤ 32 ∧ Nb a m
  | 0, k, n, hk, hn, h => by
    obtain rfl : k = 32 := by omega
    rw [Int.emod_eq_of_lt h0 (by rw [show (2 : Int) ^ 32 = 4294967296 from rfl]; exact h1)] at h
    exact ⟨n, lp_done (by simp [m_limb_Bits_l1]), hn, h⟩
  | r + 1, k, n, hk, hn, h => by
    have hq := Int.ediv_nonneg h0 (Int.le_of_lt (pow_pos' (show (0 : Int) < 2 by decide) k))
    have hq2 : a / 2 ^ k ≤ a := Int.ediv_le_self _ h0
    have a1 : decide ((k : Int) < 32) = true := decide_eq_true (by omega)
    have a2 : wi64 ((k : Int) + 1) = ((k + 1 : Nat) : Int) := by rw [wi64_eq (by omega) (by omega)]; omega
    have e1 : m_limb_Bits_l1 a ((n : Int), (k : Int)) = some (.inl (((if (a / 2 ^ k) % 2 = 1 then k + 1 else n : Nat) : Int), ((k + 1 : Nat) : Int))) := by
      simp only [m_limb_Bits_l1, a1, if_true, sr_nat a k (by omega), bd_some, and_one (a / 2 ^ k) hq (by omega), a2]
      by_cases hb : (a / 2 ^ k) % 2 = 1
      · rw [if_pos (decide_eq_true hb), if_pos hb, bd_some]
      · rw [if_neg (by simpa using hb), if_neg hb, bd_some]
    rw [lp_more e1]
    exact bits_loop a h0 h1 r (k + 1) _ (by omega) (by split <;> omega) (h.step hn)
theorem bits_eq (a : Int) (h0 : 0 ≤ a) (h1 : a < (4294967296 : Int)) : ∃ m : Nat, m_limb_Bits a = some (m : Int) ∧ m ≤ 32 ∧ Nb a m := by
  obtain ⟨m, e, r⟩ := bits_loop a h0 h1 32 0 0 rfl (Nat.le_refl _) ⟨by rw [Int.pow_zero, Int.emod_one]; decide, fun h => absurd h (by decide)⟩
  refine ⟨m, ?_, r⟩
  unfold m_limb_Bits
  have e' : lp (m_limb_Bits_l1 a) (0, 0) = some (m : Int) := e
  rw [e', bd_some]
/-! shifted up -/
theorem lb_pow (s : Nat) (hs : s ≤ 32) : (4294967296 : Int) = 2 ^ s * 2 ^ (32 - s) := by
  rw [← Int.pow_add, show s + (32 - s) = 32 by omega]; rfl
theorem shl_or (c a : Int) (s : Nat) (hs : s < 32) (hc : 0 ≤ c ∧ c < 2 ^ s) (ha : 0 ≤ a ∧ a < (4294967296 : Int)) : Go.bits .or .u64 c (a * 2 ^ s % (4294967296 : Int)) = c + a * 2 ^ s % (4294967296 : Int) ∧ c + a * 2 ^ s % (4294967296 : Int) < (4294967296 : Int) ∧ a * 2 ^ s / (4294967296 : Int) < 2 ^ s := by
  have hp : (0 : Int) < 2 ^ s := pow_pos' (by decide) s
  have hB := lb_pow s (by omega)
  have e : a * 2 ^ s % (4294967296 : Int) = 2 ^ s * (a % 2 ^ (32 - s)) := by
    rw [hB, Int.mul_comm a]; exact Int.mul_emod_mul_of_pos _ _ hp
  have h1 := Int.emod_nonneg a (show (2 : Int) ^ (32 - s) ≠ 0 from Int.ne_of_gt (pow_pos' (by decide) _))
  have h2 := Int.emod_lt_of_pos a (pow_pos' (show (0 : Int) < 2 by decide) (32 - s))
  have h3 : 2 ^ s * (a % 2 ^ (32 - s)) + 2 ^ s ≤ (4294967296 : Int) := by
    have : 2 ^ s * (a % 2 ^ (32 - s) + 1) ≤ 2 ^ s * 2 ^ (32 - s) := Int.mul_le_mul_of_nonneg_left (by omega) (Int.le_of_lt hp)
    rw [← hB, Int.mul_add, Int.mul_one] at this
    exact this
  have h4 : 0 ≤ 2 ^ s * (a % 2 ^ (32 - s)) := Int.mul_nonneg (Int.le_of_lt hp) h1
  have h5 : a * 2 ^ s / (4294967296 : Int) < 2 ^ s := Int.ediv_lt_of_lt_mul (by decide) (by rw [Int.mul_comm (2 ^ s)]; exact Int.mul_lt_mul_of_pos_right ha.2 hp)
  refine ⟨?_, by omega, h5⟩
  rw [u64_or _ _ hc.1 (by omega) (by omega) (by omega), e]
  obtain ⟨C, hC⟩ := Int.eq_ofNat_of_zero_le hc.1
  obtain ⟨W, hW⟩ := Int.eq_ofNat_of_zero_le h1
  rw [hW]
  have e2 : ((2 : Int) ^ s * (W : Int)).toNat = 2 ^ s * W := by
    have : (2 : Int) ^ s * (W : Int) = ((2 ^ s * W : Nat) : Int) := by push_cast; rfl
    rw [this]; rfl
  have e3 : C < 2 ^ s := by
    have := hc.2
    have e : ((2 : Int) ^ s) = ((2 ^ s : Nat) : Int) := by push_cast; rfl
    rw [e, hC] at this
    exact Int.ofNat_lt.1 this
  rw [hC, e2, Int.toNat_natCast, Nat.or_comm, ← Nat.two_pow_add_eq_or_of_lt e3]
  push_cast
  rw [Int.add_comm]
theorem shl_loop (a : List Int) (s : Nat) (hs : s < 32) (ha : Dig (4294967296 : Int) a) (hl : a.length ≤ 1000000000) : ∀ (k i : Nat) (D : List Int) (c : Int), i + k = a.length → D.length = i → Dig (4294967296 : Int) D → (0 ≤ c ∧ c < 2 ^ s) → dv (4294967296 : Int) D + (4294967296 : Int) ^ i * c = dv (4294967296 : Int) (a.take i) * 2 ^ s →
    ∃ r, lp (m_nat_Shl_l1 a (s : Int)) ((i : Int), D ++ c :: List.replicate k 0) = some r ∧ Dig (4294967296 : Int) r ∧ r.length = a.length + 1 ∧ dv (4294967296 : Int) r = dv (4294967296 : Int) a * 2 ^ s
  | 0, i, D, c, hk, hi, hD, hc, hv => by
    obtain rfl : i = a.length := by omega
    have hb := (shl_or c 0 s hs hc ⟨Int.le_refl _, by decide⟩).2.1
    refine ⟨D ++ [c], lp_done (by simp [m_nat_Shl_l1]), hD.snoc ⟨hc.1, by omega⟩, by simp [hi], ?_⟩
    rw [dv_snoc, hi, hv, List.take_length]
  | k + 1, i, D, c, hk, hi, hD, hc, hv => by
    have ga := gI_dig ha (by decide) (i : Int)
    generalize hx : gI a (i : Int) = x at *
    obtain ⟨o1, o2, o3⟩ := shl_or c x s hs hc ga
    have hp : (0 : Int) < 2 ^ s := pow_pos' (by decide) s
    have hpB : (2 : Int) ^ s ≤ (4294967296 : Int) := by
      rw [lb_pow s (by omega)]
      have := pow_pos' (show (0 : Int) < 2 by decide) (32 - s)
      have h : (2 : Int) ^ s * 1 ≤ 2 ^ s * 2 ^ (32 - s) := Int.mul_le_mul_of_nonneg_left (by omega) (Int.le_of_lt hp)
      omega
    have hxs : 0 ≤ x * 2 ^ s := Int.mul_nonneg ga.1 (Int.le_of_lt hp)
    have hxs2 : x * 2 ^ s ≤ 4294967295 * 4294967296 := Int.mul_le_mul (by omega) hpB (Int.le_of_lt hp) (by decide)
    have a1 : decide ((i : Int) < (a.length : Int)) = true := decide_eq_true (by omega)
    have a2 : rd a (i : Int) = some x := by rw [rd_I (by omega) (by omega), hx]
    have a3 : qd .i64 (s : Int) 32 = some 0 := by rw [qd64 (by omega) (by decide) (by omega)]; congr 1; omega
    have a4 : rm .i64 (s : Int) 32 = some (s : Int) := by rw [rm_of (by omega) (by decide)]; congr 1; omega
    have a5 : wi64 ((i : Int) + 0) = (i : Int) := by rw [wi64_eq (by omega) (by omega)]; omega
    have a6 : wi64 ((i : Int) + 1) = ((i + 1 : Nat) : Int) := by rw [wi64_eq (by omega) (by omega)]; omega
    have a7 : rd (D ++ c :: List.replicate (k + 1) 0) (i : Int) = some c := by
      rw [rd_I (by omega) (by simp; omega)]
      have := gI_mid [] D (List.replicate (k + 1) 0) c
      simp only [List.nil_append, List.length_nil, Nat.zero_add, hi] at this
      rw [this]
    have a8 : ix (D ++ c :: List.replicate (k + 1) 0) (i : Int) = some i := ix_nat (by simp; omega)
    have a9 : (D ++ c :: List.replicate (k + 1) 0).set i (c + x * 2 ^ s % (4294967296 : Int)) = (D ++ [c + x * 2 ^ s % (4294967296 : Int)]) ++ 0 :: List.replicate k 0 := by
      rw [← hi, set_at]; rfl
    have b1 : ix ((D ++ [c + x * 2 ^ s % (4294967296 : Int)]) ++ 0 :: List.replicate k 0) ((i + 1 : Nat) : Int) = some (i + 1) := ix_nat (by simp; omega)
    have b2 : ((D ++ [c + x * 2 ^ s % (4294967296 : Int)]) ++ 0 :: List.replicate k 0).set (i + 1) (x * 2 ^ s / (4294967296 : Int)) = (D ++ [c + x * 2 ^ s % (4294967296 : Int)]) ++ (x * 2 ^ s / (4294967296 : Int)) :: List.replicate k 0 := by
      have : i + 1 = (D ++ [c + x * 2 ^ s % (4294967296 : Int)]).length := by simp [hi]
      rw [this, set_at]; simp
    have e1 : m_nat_Shl_l1 a (s : Int) ((i : Int), D ++ c :: List.replicate (k + 1) 0) = some (.inl (((i + 1 : Nat) : Int), (D ++ [c + x * 2 ^ s % (4294967296 : Int)]) ++ (x * 2 ^ s / (4294967296 : Int)) :: List.replicate k 0)) := by
      simp only [m_nat_Shl_l1, a1, if_true, a2, bd_some, a3, a4, sh_nat x s (by omega), wu64_eq hxs (by omega), a5, a7, rm_of hxs (show (0 : Int) < 4294967296 by decide), a8, o1, lt_eq, a9, sr32, a6, b1, b2]
    have h0 := Int.emod_nonneg (x * 2 ^ s) (show (4294967296 : Int) ≠ 0 by decide)
    obtain ⟨r, r1, r2⟩ := shl_loop a s hs ha hl k (i + 1) (D ++ [c + x * 2 ^ s % (4294967296 : Int)]) (x * 2 ^ s / (4294967296 : Int)) (by omega) (by simp [hi]) (hD.snoc ⟨by omega, o2⟩) ⟨Int.ediv_nonneg hxs (by decide), o3⟩ (by
      rw [dv_snoc, take_gI', hi, Int.pow_succ, hx]
      have := Int.mul_ediv_add_emod (x * 2 ^ s) (4294967296 : Int)
      clear e1 b1 b2 a7 a8 a9 o1 o2 o3
      generalize (4294967296 : Int) ^ i = P at *
      generalize dv (4294967296 : Int) (List.take i a) = T at *
      generalize dv (4294967296 : Int) D = DD at *
      generalize x * 2 ^ s / (4294967296 : Int) = q at *
      generalize x * 2 ^ s % (4294967296 : Int) = m at *
      have e : (T + P * x) * 2 ^ s = T * 2 ^ s + P * (x * 2 ^ s) := by rw [Int.add_mul, Int.mul_assoc]
      rw [e, ← hv, ← this]
      grind)
    exact ⟨r, by rw [lp_more e1]; exact r1, r2⟩
theorem shl_eq (x : Int) (s : Nat) (hs : s < 32) (hx : 0 ≤ x) (hl : (nl x).length ≤ 1000000000) : m_nat_Shl (nl x) (s : Int) = some (nl (x * 2 ^ s), 0) := by
  have e0 : m_nat_shift (s : Int) = some 0 := by
    unfold m_nat_shift
    rw [if_neg (by rw [decide_eq_true_eq]; omega), bd_some, if_neg (by rw [decide_eq_true_eq]; omega)]
  unfold m_nat_Shl
  rw [e0, bd_some, if_neg (by decide), bd_some]
  by_cases h0 : nl x = []
  · have hx0 := (nl_nil hx).1 h0
    subst hx0
    rw [h0, if_pos (by rfl), Int.zero_mul, nl_zero]
  · have hlen := List.length_pos_iff.2 h0
    rw [if_neg (by rw [decide_eq_true_eq]; omega)]
    have a3 : qd .i64 (s : Int) 32 = some 0 := by rw [qd64 (by omega) (by decide) (by omega)]; congr 1; omega
    have a4 : wi64 ((wi64 (((nl x).length : Int) + 0)) + 1) = (((nl x).length + 1 : Nat) : Int) := by rw [wi64_eq (x := ((nl x).length : Int) + 0) (by omega) (by omega), wi64_eq (by omega) (by omega)]; omega
    have hp : (0 : Int) < 2 ^ s := pow_pos' (by decide) s
    obtain ⟨r, r1, r2, r3, r4⟩ := shl_loop (nl x) s hs (nl_can x).1 hl (nl x).length 0 [] 0 (by omega) rfl (Dig.nil _) ⟨Int.le_refl _, hp⟩ (by simp [dv])
    have r1' : lp (m_nat_Shl_l1 (nl x) (s : Int)) (0, List.replicate ((nl x).length + 1) 0) = some r := r1
    rw [a3, bd_some, a4, mk_of (by omega), bd_some, show ((((nl x).length + 1 : Nat) : Int)).toNat = (nl x).length + 1 by omega, r1', bd_some, trimN_eq _ (by omega), bd_some, trimz_nl r2 (by rw [r4, nl_dv hx])]
end Go.Proofs.YtkjkipkfndckfaaGreatDoor.AP
/- Shifted down; Knuth's rounds; division of any two numbers. -/
namespace Go.Proofs.YtkjkipkfndckfaaGreatDoor.AP
open Go Go.Proofs.YtkjkipkfndckfaaGreatDoor.Tri
set_option linter.unusedVariables false
set_option linter.unusedSimpArgs false
theorem drop_gI' (B : Int) (l : List Int) (i : Nat) : dv B (l.drop i) = gI l (i : Int) + B * dv B (l.drop (i + 1)) := by
  by_cases h : i < l.length
  · rw [drop_gI l i h, dv_cons]
  · rw [List.drop_of_length_le (by omega), List.drop_of_length_le (by omega), gI_beyond l i (by omega), dv_nil, Int.mul_zero]; rfl
theorem shr_step (a0 a1 T : Int) (s : Nat) (hs : s ≤ 32) (h0 : 0 ≤ a0 ∧ a0 < (4294967296 : Int)) : (a0 + (4294967296 : Int) * (a1 + (4294967296 : Int) * T)) / 2 ^ s = (a0 + (4294967296 : Int) * a1) / 2 ^ s % (4294967296 : Int) + (4294967296 : Int) * ((a1 + (4294967296 : Int) * T) / 2 ^ s) := by
  have hp : (0 : Int) < 2 ^ s := pow_pos' (by decide) s
  have hB := lb_pow s hs
  have e1 : (a0 + (4294967296 : Int) * (a1 + (4294967296 : Int) * T)) / 2 ^ s = (a0 + (4294967296 : Int) * a1) / 2 ^ s + (4294967296 : Int) * (2 ^ (32 - s) * T) := by
    have : a0 + (4294967296 : Int) * (a1 + (4294967296 : Int) * T) = a0 + (4294967296 : Int) * a1 + 2 ^ s * ((4294967296 : Int) * (2 ^ (32 - s) * T)) := by
      have h : (4294967296 : Int) * ((4294967296 : Int) * T) = 2 ^ s * ((4294967296 : Int) * (2 ^ (32 - s) * T)) := by
        conv => lhs; rw [show (4294967296 : Int) * ((4294967296 : Int) * T) = (4294967296 : Int) * T * (4294967296 : Int) from Int.mul_comm _ _]
        conv => lhs; arg 2; rw [hB]
        grind
      rw [← h]; grind
    rw [this, Int.add_mul_ediv_left _ _ (by omega)]
  have e2 : (a1 + (4294967296 : Int) * T) / 2 ^ s = a1 / 2 ^ s + 2 ^ (32 - s) * T := by
    have : a1 + (4294967296 : Int) * T = a1 + 2 ^ s * (2 ^ (32 - s) * T) := by rw [← Int.mul_assoc, ← hB]
    rw [this, Int.add_mul_ediv_left _ _ (by omega)]
  have e3 : (a0 + (4294967296 : Int) * a1) / 2 ^ s / (4294967296 : Int) = a1 / 2 ^ s := by
    rw [Int.ediv_ediv_of_nonneg (Int.le_of_lt hp), Int.mul_comm (2 ^ s), ← Int.ediv_ediv_of_nonneg (show (0 : Int) ≤ (4294967296 : Int) by decide), Int.add_mul_ediv_left _ _ (show (4294967296 : Int) ≠ 0 by decide), Int.ediv_eq_zero_of_lt h0.1 h0.2, Int.zero_add]
  have e4 := Int.mul_ediv_add_emod ((a0 + (4294967296 : Int) * a1) / 2 ^ s) (4294967296 : Int)
  rw [e1, e2, Int.mul_add, ← e3]
  omega
theorem or_high (x y : Int) (h0 : 0 ≤ x) (h1 : x < (4294967296 : Int)) (h2 : 0 ≤ y) (h3 : y < (4294967296 : Int)) : Go.bits .or .u64 y (x * (4294967296 : Int)) = y + (4294967296 : Int) * x := by
  have := or_low x y h0 h1 h2 h3
  rw [u64_or _ _ (by omega) (by omega) h2 (by omega)] at this
  rw [u64_or _ _ h2 (by omega) (by omega) (by omega), Nat.or_comm, this]
  omega
theorem shr_loop (a z : List Int) (s : Nat) (hs : s < 32) (ha : Dig (4294967296 : Int) a) (hl : a.length ≤ 1000000000) (hz : z.length = a.length) : ∀ (k i : Nat) (D : List Int), i + k = a.length → D.length = i → Dig (4294967296 : Int) D → dv (4294967296 : Int) D + (4294967296 : Int) ^ i * (dv (4294967296 : Int) (a.drop i) / 2 ^ s) = dv (4294967296 : Int) a / 2 ^ s →
    ∃ r, lp (m_nat_Shr_l1 a (s : Int) z) ((i : Int), D ++ List.replicate k 0) = some r ∧ Dig (4294967296 : Int) r ∧ r.length = a.length ∧ dv (4294967296 : Int) r = dv (4294967296 : Int) a / 2 ^ s
  | 0, i, D, hk, hi, hD, hv => by
    obtain rfl : i = a.length := by omega
    refine ⟨D, lp_done (by simp [m_nat_Shr_l1, hz]), hD, hi, ?_⟩
    rw [List.drop_length, dv_nil, Int.zero_ediv, Int.mul_zero, Int.add_zero] at hv
    exact hv
  | k + 1, i, D, hk, hi, hD, hv => by
    have g0 := gI_dig ha (by decide) (i : Int)
    have g1 := gI_dig ha (by decide) ((i + 1 : Nat) : Int)
    have hst := shr_step (gI a (i : Int)) (gI a ((i + 1 : Nat) : Int)) (dv (4294967296 : Int) (a.drop (i + 2))) s (by omega) g0
    have d1 := drop_gI' (4294967296 : Int) a (i + 1)
    have d0 := drop_gI' (4294967296 : Int) a i
    rw [show i + 1 + 1 = i + 2 from rfl] at d1
    rw [← d1, ← d0] at hst
    generalize hx : gI a (i : Int) = x at *
    generalize hy : gI a ((i + 1 : Nat) : Int) = y at *
    have hw : 0 ≤ (x + (4294967296 : Int) * y) / 2 ^ s := Int.ediv_nonneg (by omega) (Int.le_of_lt (pow_pos' (by decide) s))
    have a1 : decide ((i : Int) < (z.length : Int)) = true := decide_eq_true (by omega)
    have a2 : rd a (i : Int) = some x := by rw [rd_I (by omega) (by omega), hx]
    have a3 : qd .i64 (s : Int) 32 = some 0 := by rw [qd64 (by omega) (by decide) (by omega)]; congr 1; omega
    have a4 : rm .i64 (s : Int) 32 = some (s : Int) := by rw [rm_of (by omega) (by decide)]; congr 1; omega
    have a5 : wi64 ((i : Int) + 0) = (i : Int) := by rw [wi64_eq (by omega) (by omega)]; omega
    have a6 : wi64 ((i : Int) + 1) = ((i + 1 : Nat) : Int) := by rw [wi64_eq (by omega) (by omega)]; omega
    have a7 := natAt_eq a (i + 1) (by omega)
    rw [hy] at a7
    have a8 : ix (D ++ List.replicate (k + 1) 0) (i : Int) = some i := ix_nat (by simp; omega)
    have a9 : (D ++ List.replicate (k + 1) 0).set i ((x + (4294967296 : Int) * y) / 2 ^ s % (4294967296 : Int)) = (D ++ [(x + (4294967296 : Int) * y) / 2 ^ s % (4294967296 : Int)]) ++ List.replicate k 0 := by
      rw [show List.replicate (k + 1) (0 : Int) = 0 :: List.replicate k 0 from rfl, ← hi, set_at]
    have e1 : m_nat_Shr_l1 a (s : Int) z ((i : Int), D ++ List.replicate (k + 1) 0) = some (.inl (((i + 1 : Nat) : Int), (D ++ [(x + (4294967296 : Int) * y) / 2 ^ s % (4294967296 : Int)]) ++ List.replicate k 0)) := by
      simp only [m_nat_Shr_l1, a1, if_true, a3, bd_some, a5, a2, a6, a7, sh32 y g1.1 g1.2, a4, or_high y x g1.1 g1.2 g0.1 g0.2, sr_nat _ s (by omega), rm_of hw (show (0 : Int) < 4294967296 by decide), a8, lt_eq, a9]
    obtain ⟨r, r1, r2⟩ := shr_loop a z s hs ha hl hz k (i + 1) (D ++ [(x + (4294967296 : Int) * y) / 2 ^ s % (4294967296 : Int)]) (by omega) (by simp [hi]) (hD.snoc ⟨by omega, by omega⟩) (by
      rw [dv_snoc, hi, Int.pow_succ, ← hv, hst]
      grind)
    exact ⟨r, by rw [lp_more e1]; exact r1, r2⟩
theorem shr_eq (x : Int) (s : Nat) (hs : s < 32) (hx : 0 ≤ x) (hl : (nl x).length ≤ 1000000000) : m_nat_Shr (nl x) (s : Int) = some (nl (x / 2 ^ s), 0) := by
  have e0 : m_nat_shift (s : Int) = some 0 := by
    unfold m_nat_shift
    rw [if_neg (by rw [decide_eq_true_eq]; omega), bd_some, if_neg (by rw [decide_eq_true_eq]; omega)]
  have a3 : qd .i64 (s : Int) 32 = some 0 := by rw [qd64 (by omega) (by decide) (by omega)]; congr 1; omega
  unfold m_nat_Shr
  rw [e0, bd_some, if_neg (by decide), a3, bd_some, bd_some, bd_some]
  by_cases h0 : nl x = []
  · have hx0 := (nl_nil hx).1 h0
    subst hx0
    rw [h0, if_pos (by rfl), Int.zero_ediv, nl_zero]
  · have hlen := List.length_pos_iff.2 h0
    rw [if_neg (by rw [decide_eq_true_eq]; omega)]
    have a4 : wi64 (((nl x).length : Int) - 0) = ((nl x).length : Int) := by rw [wi64_eq (by omega) (by omega)]; omega
    obtain ⟨r, r1, r2, r3, r4⟩ := shr_loop (nl x) (List.replicate (nl x).length 0) s hs (nl_can x).1 hl (by simp) (nl x).length 0 [] (by omega) rfl (Dig.nil _) (by simp [dv])
    have r1' : lp (m_nat_Shr_l1 (nl x) (s : Int) (List.replicate (nl x).length 0)) (0, List.replicate (nl x).length 0) = some r := r1
    rw [a4, mk_of (by omega), bd_some, show (((nl x).length : Int)).toNat = (nl x).length by omega, r1', bd_some, trimN_eq _ (by omega), bd_some, trimz_nl r2 (by rw [r4, nl_dv hx])]
theorem dv_zero_of_lt {l : List Int} (hl : Dig (4294967296 : Int) l) {n : Nat} {X : Int} (h0 : 0 ≤ X) (h : X + (4294967296 : Int) ^ n * dv (4294967296 : Int) l < (4294967296 : Int) ^ n) : dv (4294967296 : Int) l = 0 := by
  have h1 := dv_nonneg (by decide) hl
  apply Classical.byContradiction
  intro hne
  have : (4294967296 : Int) ^ n * 1 ≤ (4294967296 : Int) ^ n * dv (4294967296 : Int) l := Int.mul_le_mul_of_nonneg_left (by omega) (Int.le_of_lt (pow_pos' (by decide) n))
  omega
/-- one round -/
theorem knuth_round (v u q : List Int) (n k : Nat) (hvl : v.length = n + 2) (hv : Dig (4294967296 : Int) v) (ht : 2147483648 ≤ gI v ((n + 1 : Nat) : Int)) (hu : Dig (4294967296 : Int) u) (hq : Dig (4294967296 : Int) q) (hku : k + v.length + 1 ≤ u.length) (hkq : k < q.length)
    (hlu : u.length ≤ 1000000000) (hlq : q.length ≤ 1000000000) (hU : dv (4294967296 : Int) (u.drop (k + 1)) < dv (4294967296 : Int) v) :
    ∃ u' q', m_divide_knuth_l1 (v, 0) ((k : Int), u, q) = some (.inl ((k : Int) - 1, u', q')) ∧ Dig (4294967296 : Int) u' ∧ u'.length = u.length ∧ Dig (4294967296 : Int) q' ∧ q'.length = q.length ∧ dv (4294967296 : Int) (u'.drop k) < dv (4294967296 : Int) v ∧ dv (4294967296 : Int) u' + dv (4294967296 : Int) v * ((4294967296 : Int) ^ k * dv (4294967296 : Int) (q'.drop k)) = dv (4294967296 : Int) u + dv (4294967296 : Int) v * ((4294967296 : Int) ^ (k + 1) * dv (4294967296 : Int) (q.drop (k + 1))) := by
  obtain ⟨L, M, R, rfl, hL, hM⟩ : ∃ L M R : List Int, u = L ++ M ++ R ∧ L.length = k ∧ M.length = v.length + 1 := by
    refine ⟨u.take k, (u.drop k).take (v.length + 1), (u.drop k).drop (v.length + 1), ?_, by simp; omega, by simp; omega⟩
    rw [List.append_assoc, List.take_append_drop, List.take_append_drop]
  obtain ⟨m0, M1, rfl⟩ : ∃ a l, M = a :: l := by
    cases M with
    | nil => simp at hM
    | cons a l => exact ⟨a, l, rfl⟩
  have hM1 : M1.length = v.length := by simpa using hM
  have dL := hu.left.left
  have dM := hu.left.right
  have dR := hu.right
  have hlt := dv_lt (by decide) hv
  have hV0 := dv_nonneg (by decide) hv
  have e1 : (L ++ m0 :: M1 ++ R).drop (k + 1) = M1 ++ R := by
    rw [← hL, show L ++ m0 :: M1 ++ R = (L ++ [m0]) ++ (M1 ++ R) by simp, List.drop_left' (by simp)]
  rw [e1, dv_append, hM1] at hU
  have zR : dv (4294967296 : Int) R = 0 := dv_zero_of_lt dR (dv_nonneg (by decide) dM.tail) (Int.lt_trans hU hlt)
  rw [zR, Int.mul_zero, Int.add_zero] at hU
  have hm0 := dM.head
  have hUM : dv (4294967296 : Int) (m0 :: M1) < dv (4294967296 : Int) v * (4294967296 : Int) := by rw [dv_cons]; omega
  simp only [List.length_append] at hlu hku
  have hlen : (L ++ (m0 :: M1) ++ R).length ≤ 1000000000 := by simp only [List.length_append]; exact hlu
  obtain ⟨g, g1, g2, g3, g4⟩ := guess_eq L (m0 :: M1) R v n hvl hM hv dM ht hUM (by omega)
  obtain ⟨D, t1, t2, t3, t4⟩ := take_eq L (m0 :: M1) R v g hM hv dM ⟨g2, g3⟩ hlen (by omega)
  have hVp : 0 < dv (4294967296 : Int) v := by have := dv_nonneg (by decide) dM.tail; omega
  have hU0 := dv_nonneg (by decide) dM
  have q0 : 0 ≤ dv (4294967296 : Int) (m0 :: M1) / dv (4294967296 : Int) v := Int.ediv_nonneg hU0 (by omega)
  have hr1 := Int.emod_nonneg (dv (4294967296 : Int) (m0 :: M1)) (show dv (4294967296 : Int) v ≠ 0 by omega)
  have hr2 := Int.emod_lt_of_pos (dv (4294967296 : Int) (m0 :: M1)) hVp
  have hr3 := Int.mul_ediv_add_emod (dv (4294967296 : Int) (m0 :: M1)) (dv (4294967296 : Int) v)
  have hpw : (4294967296 : Int) ^ (v.length + 1) = (4294967296 : Int) ^ v.length * (4294967296 : Int) := Int.pow_succ _ _
  rw [hL] at g1 t1
  have b1 : decide ((0 : Int) ≤ (k : Int)) = true := decide_eq_true (by omega)
  have b2 : ix q (k : Int) = some k := ix_nat hkq
  have b3 : rd (q.set k g) (k : Int) = some g := by rw [rd_nat]; simp [hkq]
  have b4 : ix (q.set k g) (k : Int) = some k := ix_nat (by simpa using hkq)
  have b5 : wi64 ((k : Int) - 1) = (k : Int) - 1 := wi64_eq (by omega) (by omega)
  -- what comes out, either way
  have main : ∃ E, m_divide_knuth_l1 (v, 0) ((k : Int), L ++ (m0 :: M1) ++ R, q) = some (.inl ((k : Int) - 1, L ++ E ++ R, q.set k (dv (4294967296 : Int) (m0 :: M1) / dv (4294967296 : Int) v))) ∧ Dig (4294967296 : Int) E ∧ E.length = v.length + 1 ∧ dv (4294967296 : Int) E = dv (4294967296 : Int) (m0 :: M1) % dv (4294967296 : Int) v := by
    by_cases hc : dv (4294967296 : Int) (m0 :: M1) < g * dv (4294967296 : Int) v
    · have hg : g = dv (4294967296 : Int) (m0 :: M1) / dv (4294967296 : Int) v + 1 := by
        rcases g4 with h | h
        · rw [h, Int.mul_comm] at hc; omega
        · exact h
      rw [if_pos hc] at t4
      obtain ⟨E, c, s1, s2, s3, s4, s5⟩ := give_eq L D R v t2 hv t3 (by simp only [List.length_append, t2]; omega) (by omega)
      rw [hL] at s1
      have hgV : g * dv (4294967296 : Int) v = dv (4294967296 : Int) v * (dv (4294967296 : Int) (m0 :: M1) / dv (4294967296 : Int) v) + dv (4294967296 : Int) v := by rw [hg]; grind
      have hE := dv_lt (by decide) s3
      have hE0 := dv_nonneg (by decide) s3
      rw [s2] at hE
      have hpos := pow_pos' (show (0 : Int) < (4294967296 : Int) by decide) v.length
      have hc1 : c = 1 := by
        rcases s4 with h | h
        · subst h; rw [Int.mul_zero] at s5; omega
        · exact h
      subst hc1
      refine ⟨E, ?_, s3, s2, by omega⟩
      have c1 : (q.set k g).set k (dv (4294967296 : Int) (m0 :: M1) / dv (4294967296 : Int) v) = q.set k (dv (4294967296 : Int) (m0 :: M1) / dv (4294967296 : Int) v) := by simp
      have c2 : wu64 (g - 1) = dv (4294967296 : Int) (m0 :: M1) / dv (4294967296 : Int) v := by rw [wu64_eq (by omega) (by omega)]; omega
      simp only [m_divide_knuth_l1, b1, if_true, g1, bd_some, b2, lt_eq, b3, t1, decide_eq_true hc, b4, c2, c1, s1, b5]
    · have hg : g = dv (4294967296 : Int) (m0 :: M1) / dv (4294967296 : Int) v := by
        rcases g4 with h | h
        · exact h
        · exfalso
          apply hc
          have : g * dv (4294967296 : Int) v = dv (4294967296 : Int) v * (dv (4294967296 : Int) (m0 :: M1) / dv (4294967296 : Int) v) + dv (4294967296 : Int) v := by rw [h]; grind
          omega
      rw [if_neg hc] at t4
      refine ⟨D, ?_, t3, t2, ?_⟩
      · simp only [m_divide_knuth_l1, b1, if_true, g1, bd_some, b2, lt_eq, b3, t1, decide_eq_false hc, b5]
        rw [← hg]; rfl
      · rw [t4, hg, Int.mul_comm]; omega
  obtain ⟨E, m1, m2, m3, m4⟩ := main
  have hqr : Dig (4294967296 : Int) (q.set k (dv (4294967296 : Int) (m0 :: M1) / dv (4294967296 : Int) v)) := hq.set _ ⟨q0, Int.ediv_lt_of_lt_mul hVp (by rw [Int.mul_comm]; exact hUM)⟩
  refine ⟨L ++ E ++ R, q.set k (dv (4294967296 : Int) (m0 :: M1) / dv (4294967296 : Int) v), m1, (dL.append m2).append dR, by simp only [List.length_append, m3]; simp only [List.length_cons] at hM ⊢; omega, hqr, by simp, ?_, ?_⟩
  · have : (L ++ E ++ R).drop k = E ++ R := by rw [List.append_assoc, List.drop_left' hL]
    rw [this, dv_append, zR, Int.mul_zero, Int.add_zero, m4]
    exact hr2
  · have e2 : (q.set k (dv (4294967296 : Int) (m0 :: M1) / dv (4294967296 : Int) v)).drop k = (dv (4294967296 : Int) (m0 :: M1) / dv (4294967296 : Int) v) :: q.drop (k + 1) := by
      rw [List.drop_set, if_neg (by omega), Nat.sub_self, List.drop_eq_getElem_cons hkq]; rfl
    rw [e2, dv_append, dv_append, dv_append, dv_append, zR, Int.mul_zero, Int.add_zero, Int.mul_zero, Int.add_zero, hL, m4, Int.pow_succ]
    simp only [dv_cons (4294967296 : Int) (dv (4294967296 : Int) (m0 :: M1) / dv (4294967296 : Int) v)]
    generalize dv (4294967296 : Int) (m0 :: M1) = X at *
    generalize dv (4294967296 : Int) v = V at *
    generalize X / V = Q at *
    generalize X % V = W at *
    generalize dv (4294967296 : Int) (q.drop (k + 1)) = Y at *
    generalize (4294967296 : Int) ^ k = P at *
    rw [← hr3]
    grind
end Go.Proofs.YtkjkipkfndckfaaGreatDoor.AP
/- Division of any two numbers; floors; the document's floor. -/
namespace Go.Proofs.YtkjkipkfndckfaaGreatDoor.AP
open Go Go.Proofs.YtkjkipkfndckfaaGreatDoor.Tri
set_option linter.unusedVariables false
set_option linter.unusedSimpArgs false
theorem knuth_loop (v : List Int) (n : Nat) (hvl : v.length = n + 2) (hv : Dig (4294967296 : Int) v) (ht : 2147483648 ≤ gI v ((n + 1 : Nat) : Int)) : ∀ (k : Nat) (u q : List Int), Dig (4294967296 : Int) u → Dig (4294967296 : Int) q → k + v.length ≤ u.length → k ≤ q.length → u.length ≤ 1000000000 → q.length ≤ 1000000000 → dv (4294967296 : Int) (u.drop k) < dv (4294967296 : Int) v →
    ∃ u' q', lp (m_divide_knuth_l1 (v, 0)) ((k : Int) - 1, u, q) = some (u', q') ∧ Dig (4294967296 : Int) u' ∧ u'.length = u.length ∧ Dig (4294967296 : Int) q' ∧ q'.length = q.length ∧ dv (4294967296 : Int) u' < dv (4294967296 : Int) v ∧ dv (4294967296 : Int) u' + dv (4294967296 : Int) v * dv (4294967296 : Int) q' = dv (4294967296 : Int) u + dv (4294967296 : Int) v * ((4294967296 : Int) ^ k * dv (4294967296 : Int) (q.drop k))
  | 0, u, q, hu, hq, h1, h2, h3, h4, h5 => ⟨u, q, lp_done (by simp [m_divide_knuth_l1]), hu, rfl, hq, rfl, by simpa using h5, by simp⟩
  | k + 1, u, q, hu, hq, h1, h2, h3, h4, h5 => by
    obtain ⟨u1, q1, r1, r2, r3, r4, r5, r6, r7⟩ := knuth_round v u q n k hvl hv ht hu hq (by omega) (by omega) h3 h4 h5
    obtain ⟨u2, q2, s1, s2, s3, s4, s5, s6, s7⟩ := knuth_loop v n hvl hv ht k u1 q1 r2 r4 (by omega) (by omega) (by omega) (by omega) r6
    refine ⟨u2, q2, ?_, s2, s3.trans r3, s4, s5.trans r5, s6, s7.trans r7⟩
    rw [show ((k + 1 : Nat) : Int) - 1 = (k : Int) by omega, lp_more r1]
    exact s1
theorem knuth_eq (x y : Int) (hy : (4294967296 : Int) ≤ y) (hxy : y ≤ x) (hl : (nl x).length ≤ 100000000) : m_divide_knuth (nl x) (nl y) = some (nl (x / y), nl (x % y)) := by
  have hlb := nl_mono (by omega) hxy
  obtain ⟨n, hn⟩ : ∃ n, (nl y).length = n + 2 := by
    refine ⟨(nl y).length - 2, ?_⟩
    have h1 := lt_pow_len (x := y) (by omega)
    have : ¬ (nl y).length ≤ 1 := fun h => by
      have := pow_mono (show (0 : Int) < (4294967296 : Int) by decide) h
      rw [Int.pow_one] at this
      omega
    omega
  obtain ⟨Bl, t, hb, hBl⟩ := split_last hn
  have dB := (nl_can y).1
  have hvy := nl_dv (x := y) (by omega)
  have htop := (nl_can y).2
  rw [hb] at dB hvy htop
  have ht0 := Top.snoc.1 htop
  have htd := dB.right.head
  rw [dv_snoc, hBl] at hvy
  have lBl0 := dv_nonneg (by decide) dB.left
  have lBl := dv_lt (by decide) dB.left
  rw [hBl] at lBl
  obtain ⟨m, hm, hm1, hm2, hm3⟩ := bits_eq t htd.1 htd.2
  have hmpos : 0 < m := by
    apply Nat.pos_of_ne_zero
    rintro rfl
    rw [Int.pow_zero] at hm2; omega
  have hm3 := hm3 hmpos
  obtain ⟨s, hs⟩ : ∃ s, s = 32 - m := ⟨_, rfl⟩
  have hs31 : s < 32 := by omega
  have hpw := lb_pow m (by omega)
  rw [← hs] at hpw
  have hp : (0 : Int) < 2 ^ s := pow_pos' (by decide) s
  have hpm : (2 : Int) ^ m = 2 ^ (m - 1) * 2 := by
    have e : m = (m - 1) + 1 := by omega
    conv => lhs; rw [e]
    exact Int.pow_succ _ _
  have hhalf : (2 : Int) ^ (m - 1) * 2 ^ s = 2147483648 := by
    have : (2 : Int) ^ (m - 1) * 2 * 2 ^ s = (4294967296 : Int) := by rw [← hpm, ← hpw]
    have e : (2 : Int) ^ (m - 1) * 2 * 2 ^ s = 2 * (2 ^ (m - 1) * 2 ^ s) := by grind
    omega
  have hs2 : (2 : Int) ^ s ≤ 2147483648 := by
    rw [← hhalf]
    have := pow_pos' (show (0 : Int) < 2 by decide) (m - 1)
    have h : 1 * (2 : Int) ^ s ≤ 2 ^ (m - 1) * 2 ^ s := Int.mul_le_mul_of_nonneg_right (by omega) (Int.le_of_lt hp)
    omega
  have hP := pow_pos' (show (0 : Int) < (4294967296 : Int) by decide) (n + 1)
  have hVlt : y * 2 ^ s < (4294967296 : Int) ^ (n + 2) := by
    have h1 : y < (4294967296 : Int) ^ (n + 1) * 2 ^ m := by
      have : (4294967296 : Int) ^ (n + 1) * (t + 1) ≤ (4294967296 : Int) ^ (n + 1) * 2 ^ m := Int.mul_le_mul_of_nonneg_left (by omega) (Int.le_of_lt hP)
      rw [Int.mul_add, Int.mul_one] at this
      omega
    have h2 := Int.mul_lt_mul_of_pos_right h1 hp
    rw [Int.mul_assoc, ← hpw, ← Int.pow_succ] at h2
    exact h2
  have hVge : (4294967296 : Int) ^ (n + 1) * 2147483648 ≤ y * 2 ^ s := by
    have h1 : (4294967296 : Int) ^ (n + 1) * 2 ^ (m - 1) ≤ y := by
      have : (4294967296 : Int) ^ (n + 1) * 2 ^ (m - 1) ≤ (4294967296 : Int) ^ (n + 1) * t := Int.mul_le_mul_of_nonneg_left hm3 (Int.le_of_lt hP)
      omega
    have h2 := Int.mul_le_mul_of_nonneg_right h1 (Int.le_of_lt hp)
    rw [Int.mul_assoc, hhalf] at h2
    exact h2
  have hV0 : 0 ≤ y * 2 ^ s := by omega
  have hlV : (nl (y * 2 ^ s)).length = n + 2 := by
    have h1 := nl_len hV0 hVlt
    have h2 := lt_pow_len hV0
    have : ¬ (nl (y * 2 ^ s)).length ≤ n + 1 := fun h => by
      have := pow_mono (show (0 : Int) < (4294967296 : Int) by decide) h
      omega
    omega
  have dV := (nl_can (y * 2 ^ s)).1
  have vV := nl_dv hV0
  have htV : 2147483648 ≤ gI (nl (y * 2 ^ s)) ((n + 1 : Nat) : Int) := by
    obtain ⟨Vl, w, hw, hVl⟩ := split_last hlV
    rw [hw] at dV vV ⊢
    have := gI_last Vl w
    rw [hVl] at this
    rw [this]
    rw [dv_snoc, hVl] at vV
    have h1 := dv_lt (by decide) dV.left
    rw [hVl] at h1
    have h2 : (4294967296 : Int) ^ (n + 1) * 2147483648 < (4294967296 : Int) ^ (n + 1) * (w + 1) := by rw [Int.mul_add, Int.mul_one]; omega
    have := Int.lt_of_mul_lt_mul_left h2 (Int.le_of_lt hP)
    omega
  have hx0 : 0 ≤ x := by omega
  have hA0 : 0 ≤ x * 2 ^ s := Int.mul_nonneg hx0 (Int.le_of_lt hp)
  have hA1 : x * 2 ^ s < (4294967296 : Int) ^ (nl x).length * 2 ^ s := Int.mul_lt_mul_of_pos_right (lt_pow_len hx0) hp
  have hPl := pow_pos' (show (0 : Int) < (4294967296 : Int) by decide) (nl x).length
  have hlA : (nl (x * 2 ^ s)).length ≤ (nl x).length + 1 := nl_len hA0 (by
    rw [Int.pow_succ]
    have : (4294967296 : Int) ^ (nl x).length * 2 ^ s ≤ (4294967296 : Int) ^ (nl x).length * (4294967296 : Int) := Int.mul_le_mul_of_nonneg_left (by omega) (Int.le_of_lt hPl)
    omega)
  obtain ⟨z, hz⟩ : ∃ z, z = (nl x).length + 1 - (nl (x * 2 ^ s)).length := ⟨_, rfl⟩
  obtain ⟨k, hk⟩ : ∃ k, k = (nl x).length - (n + 2) + 1 := ⟨_, rfl⟩
  have dA := (nl_can (x * 2 ^ s)).1
  have vA := nl_dv hA0
  have du : Dig (4294967296 : Int) (nl (x * 2 ^ s) ++ List.replicate z 0) := dA.append (Dig.replicate (by decide) z)
  have vu : dv (4294967296 : Int) (nl (x * 2 ^ s) ++ List.replicate z 0) = x * 2 ^ s := by rw [dv_append_zeros, vA]
  have lu : (nl (x * 2 ^ s) ++ List.replicate z 0).length = (nl x).length + 1 := by simp; omega
  have hdrop : dv (4294967296 : Int) ((nl (x * 2 ^ s) ++ List.replicate z 0).drop k) < dv (4294967296 : Int) (nl (y * 2 ^ s)) := by
    have h1 := dv_split (4294967296 : Int) (nl (x * 2 ^ s) ++ List.replicate z 0) k (by omega)
    rw [vu] at h1
    have h2 := dv_nonneg (by decide) (du.take k)
    have h3 : (nl x).length = k + (n + 1) := by omega
    rw [h3, Int.pow_add, Int.mul_assoc] at hA1
    have h4 : (4294967296 : Int) ^ k * dv (4294967296 : Int) ((nl (x * 2 ^ s) ++ List.replicate z 0).drop k) < (4294967296 : Int) ^ k * ((4294967296 : Int) ^ (n + 1) * 2 ^ s) := by omega
    have h5 := Int.lt_of_mul_lt_mul_left h4 (Int.le_of_lt (pow_pos' (by decide) k))
    have h6 : (4294967296 : Int) ^ (n + 1) * 2 ^ s ≤ (4294967296 : Int) ^ (n + 1) * 2147483648 := Int.mul_le_mul_of_nonneg_left hs2 (Int.le_of_lt hP)
    rw [vV]; omega
  obtain ⟨u', q', r1, r2, r3, r4, r5, r6, r7⟩ := knuth_loop (nl (y * 2 ^ s)) n hlV dV htV k (nl (x * 2 ^ s) ++ List.replicate z 0) (List.replicate k 0) du (Dig.replicate (by decide) k) (by omega) (by simp) (by omega) (by simp; omega) hdrop
  rw [vu, vV] at r7
  rw [vV] at r6
  have hd0 : List.drop k (List.replicate k (0 : Int)) = [] := List.drop_of_length_le (by simp)
  rw [hd0, dv_nil, Int.mul_zero, Int.mul_zero, Int.add_zero] at r7
  have hVpos : 0 < y * 2 ^ s := Int.mul_pos (by omega) hp
  obtain ⟨f1, f2⟩ := (Int.ediv_emod_unique (a := x * 2 ^ s) (b := y * 2 ^ s) (r := dv (4294967296 : Int) u') (q := dv (4294967296 : Int) q') hVpos).2 ⟨r7, dv_nonneg (by decide) r2, r6⟩
  rw [Int.mul_ediv_mul_of_pos_left x y hp] at f1
  have f3 : dv (4294967296 : Int) u' / 2 ^ s = x % y := by
    rw [← f2, Int.mul_comm x, Int.mul_comm y, Int.mul_emod_mul_of_pos _ _ hp, Int.mul_ediv_cancel_left _ (Int.ne_of_gt hp)]
  have hlu' : (nl (dv (4294967296 : Int) u')).length ≤ (nl x).length + 1 := by
    refine nl_len (dv_nonneg (by decide) r2) ?_
    have := dv_lt (by decide) r2
    rw [r3, lu] at this
    exact this
  -- the walk
  have hlA2 := lt_pow_len hA0
  have c1 : wi64 (((nl y).length : Int) - 1) = ((n + 1 : Nat) : Int) := by rw [wi64_eq (by omega) (by omega)]; omega
  have c2 : rd (nl y) ((n + 1 : Nat) : Int) = some t := by rw [hb, rd_I (by omega) (by simp; omega), ← hBl, gI_last]
  have c3 : wi64 (32 - (m : Int)) = (s : Int) := by rw [wi64_eq (by omega) (by omega)]; omega
  have c4 : wi64 (((nl x).length : Int) + 1) = (((nl x).length + 1 : Nat) : Int) := by rw [wi64_eq (by omega) (by omega)]; omega
  have c5 : cpy (List.replicate ((nl x).length + 1) (0 : Int)) 0 (nl (x * 2 ^ s)) = some (nl (x * 2 ^ s) ++ List.replicate z 0) := by
    unfold cpy
    rw [if_pos (by rw [List.length_replicate]; omega), List.take_zero, List.nil_append, List.drop_replicate, Nat.zero_add, ← hz]
  have c6 : wi64 (((nl x).length : Int) - ((nl y).length : Int)) = (k : Int) - 1 := by rw [wi64_eq (by omega) (by omega)]; omega
  have c7 : wi64 ((k : Int) - 1 + 1) = (k : Int) := by rw [wi64_eq (by omega) (by omega)]; omega
  unfold m_divide_knuth
  rw [c1, c2, bd_some, hm, bd_some, c3, shl_eq y s hs31 (by omega) (by omega), bd_some, c4, mk_of (by omega), bd_some, shl_eq x s hs31 hx0 (by omega), bd_some, Int.toNat_natCast]
  dsimp only
  rw [c5, bd_some, c6, c7, mk_of (by omega), bd_some, Int.toNat_natCast, lt_eq, r1, bd_some]
  dsimp only
  rw [make_dig q' r4 (by rw [r5]; simp; omega), bd_some, make_dig u' r2 (by omega), bd_some]
  dsimp only
  rw [trimz_nl r2 rfl, shr_eq _ s hs31 (dv_nonneg (by decide) r2) (by omega), bd_some, trimz_nl r4 f1.symm, f3]
theorem div_eq (x y : Int) (hx : 0 ≤ x) (hy : 0 < y) (hl : (nl x).length ≤ 100000000) (hl2 : (nl y).length ≤ 100000000) : m_divide_Div (nl x) (nl y) = some (nl (x / y), nl (x % y), 0) := by
  by_cases h1 : y < (4294967296 : Int)
  · exact div1_eq x y hx hy h1 (by omega)
  · have hlen : 1 < (nl y).length := by
      have h2 := lt_pow_len (x := y) (by omega)
      apply Nat.lt_of_not_le
      intro h
      have := pow_mono (show (0 : Int) < (4294967296 : Int) by decide) h
      rw [Int.pow_one] at this
      omega
    unfold m_divide_Div
    rw [if_neg (by rw [decide_eq_true_eq]; omega), may_can _ (nl_can x) (by omega), bd_some, may_can _ (nl_can y) (by omega)]
    simp only [bd_some, Bool.not_true]
    rw [if_neg (by decide), bd_some, if_neg (by decide), cmpN_eq x y hx (by omega) (by omega), bd_some]
    by_cases hlt : x < y
    · have e1 : sg (x - y) = -1 := by unfold sg; rw [if_pos (by omega)]
      rw [e1, if_pos (by decide), make_nl x (by omega), bd_some, Int.ediv_eq_zero_of_lt hx hlt, Int.emod_eq_of_lt hx hlt, nl_zero]
    · have e1 : ¬ sg (x - y) < 0 := by unfold sg; split <;> (try split) <;> omega
      rw [if_neg (by simpa using e1), if_neg (by rw [decide_eq_true_eq]; omega), knuth_eq x y (by omega) (by omega) hl, bd_some]
end Go.Proofs.YtkjkipkfndckfaaGreatDoor.AP
/- Texts: put together, joined, printed numbers. -/
namespace Go.Proofs.YtkjkipkfndckfaaGreatDoor.AP
open Go
set_option linter.unusedVariables false
set_option linter.unusedSimpArgs false
theorem data_bs (l : List UInt8) : (bs l).data.toList = l := rfl
theorem bs_size (l : List UInt8) : (bs l).size = l.length := rfl
theorem bs_append (a b : List UInt8) : bs a ++ bs b = bs (a ++ b) := by
  apply ByteArray.ext
  apply Array.toList_inj.1
  rw [ByteArray.data_append]
  simp [bs]
/-- The same text. -/
theorem sq_self (a : ByteArray) : sq a a = true := by unfold sq; simp
theorem sq_bs {a b : List UInt8} : sq (bs a) (bs b) = decide (a = b) := by
  unfold sq
  rw [toList_data, toList_data, data_bs, data_bs]
  by_cases h : a = b
  · subst h; simp
  · rw [decide_eq_false h]; simp [h]
theorem cat_bs {a b : List UInt8} (h : a.length + b.length ≤ 9223372036854775807) : cat (bs a) (bs b) = some (bs (a ++ b)) := by
  unfold cat
  rw [if_pos (by rw [bs_size, bs_size]; exact h), bs_append]
theorem join2 (s x y : List UInt8) (l : List (List UInt8)) : Lib.join (x :: y :: l) s = x ++ (s ++ Lib.join (y :: l) s) := by
  rw [Lib.join_cons, Lib.join_cons]
  simp [Lib.joinTail, List.append_assoc]
theorem join_bs (l : List (List UInt8)) (s : List UInt8) (h1 : l.length ≤ 140737488355328) (h2 : (Lib.join l s).length ≤ 140737488355328) : m_strings_Join (l.map bs) (bs s) = some (bs (Lib.join l s)) := by
  have e : (l.map bs).map (fun x : ByteArray => x.data.toList) = l := by
    rw [List.map_map]
    have : (fun x : ByteArray => x.data.toList) ∘ bs = id := rfl
    rw [this, List.map_id]
  unfold m_strings_Join
  rw [e, data_bs, if_pos ⟨by rw [List.length_map]; exact h1, h2⟩]
  rfl
/-- a bound of a join's length -/
theorem join_len (s : List UInt8) (c : Nat) : ∀ l : List (List UInt8), (∀ x ∈ l, x.length ≤ c) → (Lib.join l s).length ≤ l.length * (c + s.length)
  | [], _ => by rw [Lib.join_nil]; simp
  | [x], h => by
    rw [Lib.join_one]
    have := h x (by simp)
    simp; omega
  | x :: y :: l, h => by
    have h1 := h x (by simp)
    have h2 := join_len s c (y :: l) (fun z hz => h z (by simp [hz]))
    rw [join2]
    simp only [List.length_append, List.length_cons] at h2 ⊢
    rw [Nat.succ_mul]
    omega
theorem itoa_bs (n : Int) (h0 : -9223372036854775808 ≤ n) (h1 : n ≤ 9223372036854775807) : m_strconv_Itoa n = some (bs (Lib.itoa n)) := by
  unfold m_strconv_Itoa
  rw [if_pos ⟨h0, h1⟩]
  rfl
theorem nd_le (n : Nat) (h : n ≤ 9223372036854775808) : Lib.nDigits n ≤ 19 := by
  have hd : ∀ (j n : Nat), n < 10 ^ (j + 1) → Lib.nDigits n ≤ j + 1 := by
    intro j
    induction j with
    | zero => intro n hn; rw [Lib.nDigits_small (by simpa using hn)]; omega
    | succ j ih =>
      intro n hn
      by_cases h : n < 10
      · rw [Lib.nDigits_small h]; omega
      · rw [Lib.nDigits_big h]
        have := ih (n / 10) (by rw [Nat.pow_succ] at hn; omega)
        omega
  exact hd 18 n (by omega)
theorem itoa_len (n : Int) (h0 : -9223372036854775808 ≤ n) (h1 : n ≤ 9223372036854775807) : (Lib.itoa n).length ≤ 20 := by
  unfold Lib.itoa
  split
  · rw [List.length_cons, Lib.decDigits_length]
    have := nd_le n.natAbs (by omega)
    omega
  · rw [Lib.decDigits_length]
    have := nd_le n.toNat (by omega)
    omega
/-- a loop that fills a row with what is made of each -/
theorem lp_fill {α β : Type} {f : (Int × List β) → Option ((Int × List β) ⊕ (List β))} (l : List α) (g : α → β)
    (h : ∀ (i : Nat) x v, l[i]? = some x → v.length = l.length → f ((i : Int), v) = some (.inl ((i : Int) + 1, v.set i (g x)))) (he : ∀ v, f ((l.length : Int), v) = some (.inr v)) (v0 : List β) (hv : v0.length = l.length) : lp f (0, v0) = some (l.map g) := by
  have key : ∀ (k i : Nat) (v : List β), i + k = l.length → v.length = l.length → v.take i = (l.take i).map g → lp f ((i : Int), v) = some (l.map g) := by
    intro k
    induction k with
    | zero =>
      intro i v hk hv ht
      obtain rfl : i = l.length := by omega
      rw [lp_done (he v)]
      rw [List.take_of_length_le (by omega), List.take_of_length_le (Nat.le_refl _)] at ht
      rw [ht]
    | succ k ih =>
      intro i v hk hv ht
      have hi : l[i]? = some l[i] := List.getElem?_eq_getElem (by omega)
      rw [lp_more (h i _ v hi hv)]
      have := ih (i + 1) (v.set i (g l[i])) (by omega) (by rw [List.length_set]; exact hv) (by
        rw [List.take_add_one, List.take_add_one, hi, List.take_set_of_le (Nat.le_refl i), ht, List.map_append]
        congr 1
        rw [List.getElem?_set_self (by omega)]
        rfl)
      simpa using this
  exact key l.length 0 v0 (by omega) hv (by simp)
theorem mk16 (n : Nat) (h : n ≤ 4294967296) : AP.mk 16 (bs []) (n : Int) (n : Int) = some (List.replicate n (bs [])) := by
  rw [mk_of (by omega)]
  simp

/-! numbers by ten, the document's way -/
theorem tx_one (d : Nat) (h : d < 10) : tx [wu8 (wi64 (48 + (d : Int)))] = bs [UInt8.ofNat (48 + d)] := by
  rw [wi64_eq (by omega) (by omega), wu8_eq (by omega) (by omega)]
  unfold tx bs
  have : (48 + (d : Int)).toNat = 48 + d := by omega
  simp [this]
theorem baseItoa_loop (σ : Int) (hσ : σ = 1 ∨ σ = -1) (m : Nat) : ∀ acc : List UInt8, 0 < m → m ≤ 9223372036854775807 → acc.length + Lib.nDigits m ≤ 100 → lp m_triviumbase_Itoa_l1 (bs acc, σ * (m : Int)) = some (bs (Lib.decDigits m ++ acc)) := by
  induction m using Nat.strongRecOn with
  | _ m ih =>
    intro acc hm hmax hl
    have hnd := Lib.nDigits_pos m
    have e0 : (!decide (σ * (m : Int) = 0)) = true := by
      rw [decide_eq_false]; rfl
      rcases hσ with rfl | rfl <;> omega
    have e1 : rm .i64 (σ * (m : Int)) 10 = some (σ * ((m % 10 : Nat) : Int)) := by
      unfold rm
      rw [if_neg (by decide)]
      congr 1
      rcases hσ with rfl | rfl
      · rw [Int.one_mul, Int.one_mul, Int.tmod_eq_emod_of_nonneg (by omega)]; omega
      · rw [show (-1 : Int) * (m : Int) = -(m : Int) by omega, Int.neg_tmod, Int.tmod_eq_emod_of_nonneg (by omega)]; omega
    have e2 : qd .i64 (σ * (m : Int)) 10 = some (σ * ((m / 10 : Nat) : Int)) := by
      unfold qd
      rw [if_neg (by decide)]
      have : (σ * (m : Int)).tdiv 10 = σ * ((m / 10 : Nat) : Int) := by
        rcases hσ with rfl | rfl
        · rw [Int.one_mul, Int.one_mul, Int.tdiv_eq_ediv_of_nonneg (by omega)]; omega
        · rw [show (-1 : Int) * (m : Int) = -(m : Int) by omega, Int.neg_tdiv, Int.tdiv_eq_ediv_of_nonneg (by omega)]; omega
      rw [this]
      congr 1
      exact wi64_eq (by rcases hσ with rfl | rfl <;> omega) (by rcases hσ with rfl | rfl <;> omega)
    have e3 : (if decide (σ * ((m % 10 : Nat) : Int) < 0) = true then some (wi64 (0 - σ * ((m % 10 : Nat) : Int))) else some (σ * ((m % 10 : Nat) : Int))) = some ((m % 10 : Nat) : Int) := by
      rcases hσ with rfl | rfl
      · rw [if_neg (by simp; omega), Int.one_mul]
      · by_cases h : 0 < m % 10
        · rw [if_pos (by simp; omega), wi64_eq (by omega) (by omega)]
          congr 1; omega
        · rw [if_neg (by simp; omega)]
          congr 1; omega
    have e4 : cat (tx [wu8 (wi64 (48 + ((m % 10 : Nat) : Int)))]) (bs acc) = some (bs (UInt8.ofNat (48 + m % 10) :: acc)) := by
      rw [tx_one _ (Nat.mod_lt _ (by decide)), cat_bs (by simp; omega)]
      rfl
    have hs : m_triviumbase_Itoa_l1 (bs acc, σ * (m : Int)) = some (.inl (bs (UInt8.ofNat (48 + m % 10) :: acc), σ * ((m / 10 : Nat) : Int))) := by
      simp only [m_triviumbase_Itoa_l1, e0, if_true, e1, bd_some, e3, e4, e2]
    rw [lp_more hs]
    by_cases h : m < 10
    · have h1 : m / 10 = 0 := by omega
      have h2 : m % 10 = m := by omega
      rw [h1, h2, lp_done (x := bs (UInt8.ofNat (48 + m) :: acc))]
      · rw [Lib.decDigits, dif_pos h]; rfl
      · simp [m_triviumbase_Itoa_l1]
    · have h4 := Lib.nDigits_big h
      rw [ih (m / 10) (by omega) _ (by omega) (by omega) (by simp; omega)]
      conv => rhs; rw [Lib.decDigits, dif_neg h]
      simp
theorem baseItoa (n : Int) (h0 : -9223372036854775807 ≤ n) (h1 : n ≤ 9223372036854775807) : m_triviumbase_Itoa n = some (bs (Lib.itoa n)) := by
  unfold m_triviumbase_Itoa
  by_cases hz : n = 0
  · subst hz
    rw [if_pos (by decide)]
    have : Lib.itoa 0 = [48] := by unfold Lib.itoa; rw [if_neg (by decide), Lib.decDigits, dif_pos (by decide)]; rfl
    rw [this]
  · rw [if_neg (by simpa using hz)]
    by_cases hn : n < 0
    · have e : n = -1 * ((n.natAbs : Nat) : Int) := by omega
      have hd := nd_le n.natAbs (by omega)
      have := baseItoa_loop (-1) (.inr rfl) n.natAbs [] (by omega) (by omega) (by simp; omega)
      rw [← e] at this
      have hl := Lib.decDigits_length n.natAbs
      rw [this, List.append_nil]
      have c := cat_bs (a := [45]) (b := Lib.decDigits n.natAbs) (by rw [hl]; simp; omega)
      simp only [bd_some, decide_eq_true hn, if_true, c]
      unfold Lib.itoa
      rw [if_pos hn]
      rfl
    · have e : n = 1 * ((n.toNat : Nat) : Int) := by omega
      have hd := nd_le n.toNat (by omega)
      have := baseItoa_loop 1 (.inl rfl) n.toNat [] (by omega) (by omega) (by simp; omega)
      rw [← e] at this
      rw [this, List.append_nil]
      simp only [bd_some, decide_eq_false hn]
      unfold Lib.itoa
      rw [if_neg hn]
      rfl
/-! parts behind one another -/
def catI {α : Type} (g : Nat → α → List UInt8) : Nat → List α → List UInt8
  | _, [] => []
  | i, x :: l => g i x ++ catI g (i + 1) l
/-! bytes in a builder -/
def i8 (l : List UInt8) : List Int := l.map fun b => (b.toNat : Int)
theorem apS_i8 (a b : List UInt8) (h : a.length + b.length ≤ 140737488355328) : apS_ (i8 a) (bs b) = some (i8 (a ++ b)) := by
  unfold apS_ i8
  rw [if_pos (by rw [List.length_map, bs_size]; exact h), List.map_append]
  rfl
theorem ust_i8 (l : List UInt8) (h : l ≠ []) : ust (i8 l) = some (bs l) := by
  unfold ust
  rw [if_pos]
  · congr 1
    unfold tx bs i8
    rw [List.map_map]
    congr 1
    apply Array.toList_inj.1
    simp only [List.toList_toArray]
    have : ∀ l : List UInt8, l.map ((fun n : Int => UInt8.ofNat n.toNat) ∘ fun b => (b.toNat : Int)) = l := by
      intro l
      induction l with
      | nil => rfl
      | cons x l ih => rw [List.map_cons, ih]; congr 1; simp
    exact this l
  · refine ⟨by cases l with | nil => exact absurd rfl h | cons x l => exact List.cons_ne_nil _ _, ?_⟩
    apply List.all_eq_true.2
    intro z hz
    unfold i8 at hz
    obtain ⟨b, _, rfl⟩ := List.mem_map.1 hz
    have := b.toNat_lt
    rw [Bool.and_eq_true]
    exact ⟨decide_eq_true (by omega), decide_eq_true (by omega)⟩
end Go.Proofs.YtkjkipkfndckfaaGreatDoor.AP
/- A number's digits, by ten: the program's way. -/
namespace Go.Proofs.YtkjkipkfndckfaaGreatDoor.AP
open Go Go.Proofs.YtkjkipkfndckfaaGreatDoor.Tri
set_option linter.unusedVariables false
set_option linter.unusedSimpArgs false
set_option maxRecDepth 4000
/-- n places of a number -/
def padN : Nat → Nat → List UInt8
  | 0, _ => []
  | n + 1, r => padN n (r / 10) ++ [UInt8.ofNat (48 + r % 10)]
theorem padN_len : ∀ (n r : Nat), (padN n r).length = n
  | 0, _ => rfl
  | n + 1, r => by rw [padN, List.length_append, padN_len n]; rfl
theorem padN_cons : ∀ (n r : Nat), padN (n + 1) r = UInt8.ofNat (48 + r / 10 ^ n % 10) :: padN n r
  | 0, r => by simp [padN]
  | n + 1, r => by
    rw [padN, padN_cons n (r / 10), padN]
    rw [Nat.div_div_eq_div_mul, Nat.pow_succ, Nat.mul_comm 10]
    rfl
theorem digit_bt (x : Int) (h0 : 0 ≤ x) (h1 : x < 10) : bt (bs [48, 49, 50, 51, 52, 53, 54, 55, 56, 57, 97, 98, 99, 100, 101, 102, 103, 104, 105, 106, 107, 108, 109, 110, 111, 112, 113, 114, 115, 116, 117, 118, 119, 120, 121, 122]) x = some (48 + x) := by
  have : x = 0 ∨ x = 1 ∨ x = 2 ∨ x = 3 ∨ x = 4 ∨ x = 5 ∨ x = 6 ∨ x = 7 ∨ x = 8 ∨ x = 9 := by omega
  rcases this with rfl | rfl | rfl | rfl | rfl | rfl | rfl | rfl | rfl | rfl <;> rfl
theorem set_back {α : Type} (z : α) (k : Nat) (v : α) (t : List α) : (List.replicate (k + 1) z ++ t).set k v = List.replicate k z ++ v :: t := by
  induction k with
  | zero => rfl
  | succ k ih =>
    show z :: (List.replicate (k + 1) z ++ t).set k v = z :: (List.replicate k z ++ v :: t)
    rw [ih]
theorem piece_loop (r : Nat) (n : Nat) (hn : n ≤ 100) (hr : r < 10000000000000000000) : ∀ (k j : Nat), j + k = n → lp (m_digits_piece_l1 10 (n : Int)) (((r / 10 ^ j : Nat) : Int), (j : Int), List.replicate k 0 ++ i8 (padN j r)) = some (i8 (padN n r)) := by
  intro k
  induction k with
  | zero =>
    intro j hj
    obtain rfl : j = n := by omega
    exact lp_done (by simp [m_digits_piece_l1])
  | succ k ih =>
    intro j hj
    have hle := Nat.div_le_self r (10 ^ j)
    generalize hq : r / 10 ^ j = q at *
    have e1 : decide ((j : Int) < (n : Int)) = true := decide_eq_true (by omega)
    have w10 : wu64 10 = 10 := rfl
    have e2 : rm .u64 (q : Int) (wu64 10) = some (((q % 10 : Nat)) : Int) := by
      rw [w10, rm_of (by omega) (by decide)]; congr 1
    have e3 := digit_bt ((q % 10 : Nat) : Int) (by omega) (by omega)
    have e4 : wi64 ((wi64 ((n : Int) - 1)) - (j : Int)) = (k : Int) := by
      rw [wi64_eq (x := (n : Int) - 1) (by omega) (by omega), wi64_eq (by omega) (by omega)]; omega
    have e5 : ix (List.replicate (k + 1) (0 : Int) ++ i8 (padN j r)) (k : Int) = some k := ix_nat (by simp; omega)
    have e6 : qd .u64 (q : Int) (wu64 10) = some (((q / 10 : Nat)) : Int) := by
      rw [w10, qdU (by omega) (by decide) (by omega)]; congr 1
    have e7 : wi64 ((j : Int) + 1) = ((j + 1 : Nat) : Int) := by rw [wi64_eq (by omega) (by omega)]; omega
    have e8 := set_back (0 : Int) k (48 + ((q % 10 : Nat) : Int)) (i8 (padN j r))
    have e9 : (48 + ((q % 10 : Nat) : Int)) :: i8 (padN j r) = i8 (padN (j + 1) r) := by
      rw [padN_cons, hq]
      show _ = ((UInt8.ofNat (48 + q % 10)).toNat : Int) :: i8 (padN j r)
      congr 1
      rw [UInt8.toNat_ofNat']
      have := Nat.mod_lt q (show 0 < 10 by decide)
      rw [Nat.mod_eq_of_lt (show 48 + q % 10 < 2 ^ 8 by omega)]
      omega
    have hs : m_digits_piece_l1 10 (n : Int) ((q : Int), (j : Int), List.replicate (k + 1) 0 ++ i8 (padN j r)) = some (.inl (((q / 10 : Nat) : Int), ((j + 1 : Nat) : Int), List.replicate k 0 ++ i8 (padN (j + 1) r))) := by
      simp only [m_digits_piece_l1, e1, if_true, e2, bd_some, e3, e4, e5, e8, e9, lt_eq, e6, e7]
    rw [lp_more hs]
    have := ih (j + 1) (by omega)
    rw [Nat.pow_succ, ← Nat.div_div_eq_div_mul, hq] at this
    exact this
theorem piece_eq (r n : Nat) (hn : n ≤ 100) (hr : r < 10000000000000000000) : m_digits_piece (r : Int) 10 (n : Int) = some (bs (padN n r)) := by
  have e1 : AP.mk 1 (0 : Int) (n : Int) (n : Int) = some (List.replicate n 0) := by
    rw [mk_of (by omega)]; simp
  have e2 := piece_loop r n hn hr n 0 (by omega)
  have e2 : lp (m_digits_piece_l1 10 (n : Int)) ((r : Int), 0, List.replicate n 0) = some (i8 (padN n r)) := by
    simpa [padN, i8] using e2
  have e3 : tx (i8 (padN n r)) = bs (padN n r) := by
    by_cases h : padN n r = []
    · rw [h]; rfl
    · have := ust_i8 _ h
      unfold ust at this
      split at this
      · exact Option.some.inj this
      · cases this
  unfold m_digits_piece
  simp only [e1, bd_some, e2, e3]
theorem chunk10 : m_digits_chunk 10 = some (1000000000, 9) := by
  have h : lp (m_digits_chunk_l1 10) (10, 1) = some (1000000000, 9) := by
    rw [lp_more (s' := (100, 2)) (by rfl), lp_more (s' := (1000, 3)) (by rfl), lp_more (s' := (10000, 4)) (by rfl), lp_more (s' := (100000, 5)) (by rfl), lp_more (s' := (1000000, 6)) (by rfl), lp_more (s' := (10000000, 7)) (by rfl), lp_more (s' := (100000000, 8)) (by rfl), lp_more (s' := (1000000000, 9)) (by rfl)]
    exact lp_done (by rfl)
  unfold m_digits_chunk
  have : wu64 10 = 10 := rfl
  rw [this, h]
  rfl
/-- pieces of nine places, the lowest first -/
def pcs (x : Nat) : List (List UInt8) := if h : 0 < x then padN 9 (x % 1000000000) :: pcs (x / 1000000000) else []
termination_by x
decreasing_by exact Nat.div_lt_self h (by decide)
theorem pcs_zero : pcs 0 = [] := by rw [pcs]; rfl
theorem pcs_pos {x : Nat} (h : 0 < x) : pcs x = padN 9 (x % 1000000000) :: pcs (x / 1000000000) := by rw [pcs, dif_pos h]
theorem pcs_len : ∀ (n x : Nat), x < 1000000000 ^ n → (pcs x).length ≤ n
  | 0, x, h => by
    have : x = 0 := by simpa using h
    rw [this, pcs_zero]; simp
  | n + 1, x, h => by
    by_cases hx : 0 < x
    · rw [pcs_pos hx, List.length_cons]
      have := pcs_len n (x / 1000000000) (by rw [Nat.pow_succ] at h; exact Nat.div_lt_of_lt_mul (by rw [Nat.mul_comm]; exact h))
      omega
    · have : x = 0 := by omega
      rw [this, pcs_zero]; simp
theorem nl_nat (x : Nat) : ((nl (x : Int)).length = 0) ↔ x = 0 := by
  rw [List.length_eq_zero_iff, nl_nil (by omega)]
  omega
theorem in_l1 (x : Nat) (hl : (nl (x : Int)).length ≤ 1000000000) : ∀ Ds : List ByteArray, Ds.length + (pcs x).length ≤ 1000000000000 → lp (m_digits_In_l1 10 (1000000000, 9)) (nl (x : Int), Ds) = some (Ds ++ (pcs x).map bs) := by
  induction x using Nat.strongRecOn with
  | _ x ih =>
    intro Ds hD
    by_cases hx : 0 < x
    · have e1 : decide (0 < ((nl (x : Int)).length : Int)) = true := decide_eq_true (by
        have := nl_nat x
        omega)
      have e2 := smallD_eq (x : Int) 1000000000 (by omega) (by decide) (by decide) (by omega)
      have e3 := piece_eq (x % 1000000000) 9 (by decide) (by have := Nat.mod_lt x (show 0 < 1000000000 by decide); omega)
      have e3 : m_digits_piece ((x : Int) % 1000000000) 10 9 = some (bs (padN 9 (x % 1000000000))) := e3
      rw [pcs_pos hx] at hD ⊢
      have e4 : ap 16 Ds [bs (padN 9 (x % 1000000000))] = some (Ds ++ [bs (padN 9 (x % 1000000000))]) := ap_of (by simp at hD ⊢; omega)
      have hs : m_digits_In_l1 10 (1000000000, 9) (nl (x : Int), Ds) = some (.inl (nl ((x / 1000000000 : Nat) : Int), Ds ++ [bs (padN 9 (x % 1000000000))])) := by
        simp only [m_digits_In_l1, e1, if_true, e2, bd_some, e3, e4]
        rfl
      rw [lp_more hs, ih (x / 1000000000) (Nat.div_lt_self hx (by decide)) (Nat.le_trans (nl_mono (by omega) (by omega)) hl) _ (by simp at hD ⊢; omega)]
      simp
    · have : x = 0 := by omega
      subst this
      rw [pcs_zero]
      have : nl ((0 : Nat) : Int) = [] := nl_zero
      rw [this]
      exact lp_done (by simp [m_digits_In_l1])
theorem in_l2 (L : List (List UInt8)) (hL : L.length ≤ 1000000000000) (h9 : ∀ s ∈ L, s.length = 9) : lp (m_digits_In_l2 (L.map bs)) (0, true, []) = some (decide (L = []), i8 L.reverse.flatten) := by
  have key : ∀ (k i : Nat) (c : Bool), i + k = L.length → (c = decide (i = 0)) → lp (m_digits_In_l2 (L.map bs)) ((i : Int), c, i8 (L.reverse.take i).flatten) = some (decide (L = []), i8 L.reverse.flatten) := by
    intro k
    induction k with
    | zero =>
      intro i c hi hc
      obtain rfl : i = L.length := by omega
      have e1 : decide (((L.length : Nat) : Int) < (((L.map bs).length : Nat) : Int)) = false := decide_eq_false (by simp)
      rw [lp_done (x := (c, i8 (L.reverse.take L.length).flatten)) (by simp only [m_digits_In_l2, e1]; rfl)]
      rw [List.take_of_length_le (by simp), hc]
      congr 2
      cases L <;> simp
    | succ k ih =>
      intro i c hi hc
      have e1 : decide ((i : Int) < ((L.map bs).length : Int)) = true := decide_eq_true (by rw [List.length_map]; omega)
      have e2 : wi64 ((wi64 (((L.map bs).length : Int) - 1)) - (i : Int)) = ((L.length - 1 - i : Nat) : Int) := by
        rw [List.length_map, wi64_eq (x := (L.length : Int) - 1) (by omega) (by omega), wi64_eq (by omega) (by omega)]; omega
      have hk : L.length - 1 - i < L.length := by omega
      have e3 : rd (L.map bs) ((L.length - 1 - i : Nat) : Int) = some (bs L[L.length - 1 - i]) := by
        rw [rd_nat, List.getElem?_map, List.getElem?_eq_getElem hk]; rfl
      have hr : L.reverse[i]? = some L[L.length - 1 - i] := by
        rw [List.getElem?_reverse (by omega), List.getElem?_eq_getElem hk]
      have hlen : (L.reverse.take i).flatten.length = i * 9 := by
        have : ∀ M : List (List UInt8), (∀ s ∈ M, s.length = 9) → M.flatten.length = M.length * 9 := by
          intro M
          induction M with
          | nil => intro _; rfl
          | cons s M ih =>
            intro h
            rw [List.flatten_cons, List.length_append, h s (by simp), ih (fun t ht => h t (by simp [ht])), List.length_cons, Nat.succ_mul]
            omega
        rw [this _ (fun s hs => h9 s (List.mem_reverse.1 (List.mem_of_mem_take hs))), List.length_take, List.length_reverse, Nat.min_eq_left (by omega)]
      have h9' := h9 L[L.length - 1 - i] (List.getElem_mem _)
      have e4 := apS_i8 (L.reverse.take i).flatten L[L.length - 1 - i] (by rw [hlen, h9']; omega)
      have e5 : m_strings_Builder_copyCheck_M c (i8 (L.reverse.take i).flatten) = some false := by
        unfold m_strings_Builder_copyCheck_M
        cases c <;> rfl
      have e7 : wi64 ((i : Int) + 1) = (i : Int) + 1 := wi64_eq (by omega) (by omega)
      have hs : m_digits_In_l2 (L.map bs) ((i : Int), c, i8 (L.reverse.take i).flatten) = some (.inl ((i : Int) + 1, false, i8 (L.reverse.take (i + 1)).flatten)) := by
        rw [List.take_add_one, hr, List.flatten_append]
        simp only [Option.toList, List.flatten_cons, List.flatten_nil, List.append_nil]
        simp only [m_digits_In_l2, e1, if_true, e2, e3, bd_some, m_strings_Builder_WriteString_M, e5, e4, e7]
      rw [lp_more hs]
      have := ih (i + 1) false (by omega) (by simp)
      simpa using this
  have := key L.length 0 true (by omega) rfl
  simpa [i8] using this
/-- without noughts ahead -/
def trimL : List UInt8 → List UInt8
  | [] => []
  | x :: l => if x = 48 then trimL l else x :: l
theorem trim_loop (l : List UInt8) : lp (m_strings_trimLeftByte_l1 48) (bs l) = some (bs (trimL l)) := by
  induction l with
  | nil => exact lp_done (by rfl)
  | cons x l ih =>
    have e1 : decide (0 < (((bs (x :: l)).size : Nat) : Int)) = true := decide_eq_true (by rw [bs_size]; simp)
    have e2 : bt (bs (x :: l)) 0 = some (x.toNat : Int) := by
      unfold bt
      rw [if_pos (by rw [bs_size]; simp)]
      rfl
    have e3 : (decide ((x.toNat : Int) = 48)) = decide (x = 48) := by
      by_cases h : x = 48
      · subst h; rfl
      · rw [decide_eq_false h, decide_eq_false]
        intro h2
        apply h
        apply UInt8.toNat_inj.1
        have : x.toNat = 48 := by omega
        rw [this]; rfl
    unfold trimL
    by_cases h : x = 48
    · have e4 : cs (bs (x :: l)) 1 ((bs (x :: l)).size : Int) = some (bs l) := by
        unfold cs
        rw [if_pos (by rw [bs_size]; simp; omega)]
        congr 1
        apply ByteArray.ext
        apply Array.toList_inj.1
        rw [ByteArray.data_extract, Array.toList_extract]
        simp [bs, ByteArray.size]
      rw [lp_more (s' := bs l) (by simp only [m_strings_trimLeftByte_l1, e1, if_true, e2, bd_some, e3, decide_eq_true h, e4]), if_pos h]
      exact ih
    · rw [if_neg h]
      exact lp_done (by simp only [m_strings_trimLeftByte_l1, e1, if_true, e2, bd_some, e3, decide_eq_false h, Bool.false_eq_true, if_false])
theorem trimLeft_eq (l : List UInt8) : m_strings_TrimLeft (bs l) (bs [48]) = some (bs (trimL l)) := by
  unfold m_strings_TrimLeft
  by_cases h : l = []
  · subst h; simp only [sq_self, if_true, bd_some]; rfl
  · have e1 : sq (bs l) (bs []) = false := by rw [sq_bs]; exact decide_eq_false h
    have e2 : sq (bs [48]) (bs []) = false := by rw [sq_bs]; rfl
    have e3 : bt (bs [48]) 0 = some 48 := rfl
    have e4 : decide (((bs [48]).size : Int) = 1) = true := rfl
    have e5 : m_strings_trimLeftByte (bs l) 48 = some (bs (trimL l)) := by
      unfold m_strings_trimLeftByte
      rw [trim_loop]; rfl
    simp only [e1, Bool.false_eq_true, if_false, e2, bd_some, e4, if_true, e3, e5]
    rfl
theorem trimL_pad : ∀ (n r : Nat), 0 < r → r < 10 ^ n → trimL (padN n r) = Lib.decDigits r
  | 0, r, h0, h1 => by simp at h1; omega
  | n + 1, r, h0, h1 => by
    have key : ∀ (l : List UInt8) (d : UInt8), trimL (l ++ [d]) = if trimL l = [] then trimL [d] else trimL l ++ [d] := by
      intro l d
      induction l with
      | nil => simp [trimL]
      | cons x l ih =>
        show (if x = 48 then trimL (l ++ [d]) else x :: (l ++ [d])) = _
        by_cases h : x = 48
        · rw [if_pos h, ih]
          have : trimL (x :: l) = trimL l := by show (if x = 48 then trimL l else x :: l) = _; rw [if_pos h]
          rw [this]
        · have : trimL (x :: l) = x :: l := by show (if x = 48 then trimL l else x :: l) = _; rw [if_neg h]
          rw [this, if_neg h, if_neg (by simp)]
          rfl
    rw [padN, key]
    by_cases hb : r < 10
    · have h10 : r / 10 = 0 := by omega
      have hz : ∀ m, trimL (padN m 0) = [] := by
        intro m
        induction m with
        | zero => rfl
        | succ m ih => rw [padN_cons]; show (if _ = (48 : UInt8) then _ else _) = _; rw [if_pos (by simp)]; exact ih
      rw [h10, hz, if_pos rfl, Lib.decDigits, dif_pos hb, Nat.mod_eq_of_lt hb]
      show (if UInt8.ofNat (48 + r) = (48 : UInt8) then trimL [] else [UInt8.ofNat (48 + r)]) = _
      rw [if_neg]
      intro h
      have h2 := congrArg UInt8.toNat h
      rw [UInt8.toNat_ofNat', Nat.mod_eq_of_lt (by omega)] at h2
      have : (48 : UInt8).toNat = 48 := rfl
      omega
    · rw [trimL_pad n (r / 10) (by omega) (by rw [Nat.pow_succ] at h1; exact Nat.div_lt_of_lt_mul (by rw [Nat.mul_comm]; exact h1))]
      have hne : Lib.decDigits (r / 10) ≠ [] := by
        intro h
        have h2 := Lib.decDigits_length (r / 10)
        rw [h] at h2
        have := Lib.nDigits_pos (r / 10)
        simp at h2; omega
      rw [if_neg hne]
      conv => rhs; rw [Lib.decDigits, dif_neg hb]
theorem padN_split : ∀ (m n r : Nat), padN (n + m) r = padN n (r / 10 ^ m) ++ padN m (r % 10 ^ m)
  | 0, n, r => by simp [padN]
  | m + 1, n, r => by
    show padN (n + m + 1) r = _
    rw [padN, padN_split m n (r / 10), padN, List.append_assoc]
    have e1 : r / 10 / 10 ^ m = r / 10 ^ (m + 1) := by rw [Nat.div_div_eq_div_mul, Nat.pow_succ, Nat.mul_comm 10]
    have e2 : r / 10 % 10 ^ m = r % 10 ^ (m + 1) / 10 := by
      rw [Nat.pow_succ, Nat.mul_comm, Nat.mod_mul_right_div_self]
    have e3 : r % 10 = r % 10 ^ (m + 1) % 10 := by rw [Nat.pow_succ, Nat.mul_comm, Nat.mod_mul_right_mod]
    rw [e1, e2, e3]
theorem pcs_pad : ∀ (x : Nat), (pcs x).reverse.flatten = padN (9 * (pcs x).length) x := by
  intro x
  induction x using Nat.strongRecOn with
  | _ x ih =>
    by_cases hx : 0 < x
    · rw [pcs_pos hx, List.reverse_cons, List.flatten_append, ih (x / 1000000000) (Nat.div_lt_self hx (by decide)), List.length_cons]
      have := padN_split 9 (9 * (pcs (x / 1000000000)).length) x
      rw [show 9 * ((pcs (x / 1000000000)).length + 1) = 9 * (pcs (x / 1000000000)).length + 9 by omega, this]
      simp
    · have : x = 0 := by omega
      subst this
      rw [pcs_zero]; rfl
theorem pcs_lt : ∀ (x : Nat), x < 10 ^ (9 * (pcs x).length) := by
  intro x
  induction x using Nat.strongRecOn with
  | _ x ih =>
    by_cases hx : 0 < x
    · have := ih (x / 1000000000) (Nat.div_lt_self hx (by decide))
      rw [pcs_pos hx, List.length_cons, show 9 * ((pcs (x / 1000000000)).length + 1) = 9 * (pcs (x / 1000000000)).length + 9 by omega, Nat.pow_add]
      have h2 : x < (x / 1000000000 + 1) * 1000000000 := by omega
      exact Nat.lt_of_lt_of_le h2 (Nat.mul_le_mul_right 1000000000 this)
    · have : x = 0 := by omega
      subst this
      exact Nat.pow_pos (by decide)
theorem digitsPrint_eq (x : Nat) (hl : (nl (x : Int)).length ≤ 1000000000) : m_digits_Print (nl (x : Int)) = some (bs (Lib.decDigits x)) := by
  have hpl : (pcs x).length ≤ 1000000000000 := by
    have h1 : x < 1000000000 ^ (2 * (nl (x : Int)).length) := by
      have h2 := dv_lt (B := (4294967296 : Int)) (by decide) (nl_can (x : Int)).1
      rw [nl_dv (by omega)] at h2
      have h3 : (4294967296 : Int) ^ (nl (x : Int)).length ≤ (1000000000 : Int) ^ (2 * (nl (x : Int)).length) := by
        rw [Int.pow_mul]; exact pow_le (by decide) (by decide) _
      have h4 : (x : Int) < (((1000000000 ^ (2 * (nl (x : Int)).length) : Nat)) : Int) := by
        rw [Int.natCast_pow]
        exact Int.lt_of_lt_of_le h2 h3
      omega
    have := pcs_len _ x h1
    omega
  have h9 : ∀ s ∈ pcs x, s.length = 9 := by
    have : ∀ x, ∀ s ∈ pcs x, s.length = 9 := by
      intro x
      induction x using Nat.strongRecOn with
      | _ x ih =>
        intro s hs
        by_cases hx : 0 < x
        · rw [pcs_pos hx] at hs
          rcases List.mem_cons.1 hs with rfl | hs
          · exact padN_len 9 _
          · exact ih (x / 1000000000) (Nat.div_lt_self hx (by decide)) s hs
        · have : x = 0 := by omega
          subst this
          rw [pcs_zero] at hs; cases hs
    exact this x
  have e0 : m_digits_based 10 = some 0 := rfl
  have e1 := make_nl (x : Int) (by omega)
  have e2 := in_l1 x hl [] (by simp; omega)
  have e3 := in_l2 (pcs x) hpl h9
  have e5 : m_strings_Builder_String_M (decide (pcs x = [])) (i8 (pcs x).reverse.flatten) = some (bs (pcs x).reverse.flatten) := by
    unfold m_strings_Builder_String_M
    by_cases h : (pcs x).reverse.flatten = []
    · rw [h]; rfl
    · have hz : (i8 (pcs x).reverse.flatten).length ≠ 0 := by
        unfold i8; rw [List.length_map]; intro h0; exact h (List.length_eq_zero_iff.1 h0)
      rw [decide_eq_false hz, ust_i8 _ h]; rfl
  have e6 := trimLeft_eq (pcs x).reverse.flatten
  unfold m_digits_Print m_digits_In
  rw [List.nil_append] at e2
  simp only [e0, bd_some, decide_true, Bool.not_true, Bool.false_eq_true, if_false, chunk10, e1, e2, e3, e5, e6, sq_bs]
  by_cases hx : 0 < x
  · have h7 : trimL (pcs x).reverse.flatten = Lib.decDigits x := by rw [pcs_pad]; exact trimL_pad _ x hx (pcs_lt x)
    have hne : Lib.decDigits x ≠ [] := by
      intro h
      have h2 := Lib.decDigits_length x
      rw [h] at h2
      have := Lib.nDigits_pos x
      simp at h2; omega
    rw [h7, decide_eq_false hne]
    rfl
  · have : x = 0 := by omega
    subst this
    rw [pcs_zero]
    have : Lib.decDigits 0 = [48] := by rw [Lib.decDigits, dif_pos (by decide)]; rfl
    rw [this]
    rfl
end Go.Proofs.YtkjkipkfndckfaaGreatDoor.AP
/- Numbers and fractions printed, by both. -/
namespace Go.Proofs.YtkjkipkfndckfaaGreatDoor.AP
open Go Go.Proofs.YtkjkipkfndckfaaGreatDoor.Tri
set_option linter.unusedVariables false
set_option linter.unusedSimpArgs false
theorem nd_pow : ∀ (j n : Nat), n < 10 ^ (j + 1) → Lib.nDigits n ≤ j + 1
  | 0, n, hn => by rw [Lib.nDigits_small (by simpa using hn)]; omega
  | j + 1, n, hn => by
    by_cases h : n < 10
    · rw [Lib.nDigits_small h]; omega
    · rw [Lib.nDigits_big h]
      have := nd_pow j (n / 10) (by rw [Nat.pow_succ] at hn; omega)
      omega
theorem nd_zl (x : Nat) : Lib.nDigits x ≤ 4 * (zl (x : Int)).length + 1 := by
  apply nd_pow
  have h2 := dv_lt (B := (10000 : Int)) (by decide) (zl_can (x : Int)).1
  rw [zl_dv (by omega)] at h2
  have h3 : ((10000 : Int) ^ (zl (x : Int)).length) = (((10 ^ (4 * (zl (x : Int)).length) : Nat)) : Int) := by
    rw [Int.natCast_pow, Int.pow_mul]
    rfl
  rw [h3] at h2
  have h4 : (10 : Nat) ^ (4 * (zl (x : Int)).length) ≤ 10 ^ (4 * (zl (x : Int)).length + 1) := Nat.pow_le_pow_right (by decide) (by omega)
  omega
theorem dd_len (x : Nat) : (Lib.decDigits x).length ≤ 4 * (zl (x : Int)).length + 1 := by rw [Lib.decDigits_length]; exact nd_zl x
theorem i8_cons (d : Nat) (h : d < 10) (l : List UInt8) : wu8 (wi64 (48 + (d : Int))) :: i8 l = i8 (UInt8.ofNat (48 + d) :: l) := by
  show _ = ((UInt8.ofNat (48 + d)).toNat : Int) :: i8 l
  congr 1
  rw [UInt8.toNat_ofNat', Nat.mod_eq_of_lt (show 48 + d < 2 ^ 8 by omega), wi64_eq (by omega) (by omega), wu8_eq (by omega) (by omega)]
  omega
theorem refText_loop (x : Nat) (hl : (zl (x : Int)).length ≤ 1000000000) : ∀ acc : List UInt8, acc.length + Lib.nDigits x ≤ 100000000000 → 0 < x → lp m_triviumref02_Text_l1 (zl (x : Int), i8 acc) = some (i8 (Lib.decDigits x ++ acc)) := by
  induction x using Nat.strongRecOn with
  | _ x ih =>
    intro acc ha hx
    have hnd := Lib.nDigits_pos x
    have e1 : decide (0 < ((zl (x : Int)).length : Int)) = true := decide_eq_true (by
      have : (zl (x : Int)).length ≠ 0 := by
        intro h
        have := (zl_nil (x := (x : Int)) (by omega)).1 (List.length_eq_zero_iff.1 h)
        omega
      omega)
    have e2 := refDivSmall_eq (x : Int) 10 (by omega) (by decide) (by decide) (by omega)
    have e3 : ((x : Int) % 10) = ((x % 10 : Nat) : Int) := by omega
    have e4 : ((x : Int) / 10) = ((x / 10 : Nat) : Int) := by omega
    rw [e3, e4] at e2
    have e5 : ap 1 [wu8 (wi64 (48 + ((x % 10 : Nat) : Int)))] (i8 acc) = some (i8 (UInt8.ofNat (48 + x % 10) :: acc)) := by
      rw [ap_of (by unfold i8; simp; omega)]
      congr 1
      exact i8_cons (x % 10) (Nat.mod_lt _ (by decide)) acc
    have hs : m_triviumref02_Text_l1 (zl (x : Int), i8 acc) = some (.inl (zl ((x / 10 : Nat) : Int), i8 (UInt8.ofNat (48 + x % 10) :: acc))) := by
      simp only [m_triviumref02_Text_l1, e1, if_true, e2, bd_some, e5]
    rw [lp_more hs]
    by_cases h : x < 10
    · have h0 : x / 10 = 0 := by omega
      have h1 : x % 10 = x := by omega
      rw [h0, h1]
      have hz : zl ((0 : Nat) : Int) = [] := zl_zero
      rw [hz, lp_done (x := i8 (UInt8.ofNat (48 + x) :: acc)) (by simp [m_triviumref02_Text_l1]), Lib.decDigits, dif_pos h]
      rfl
    · have h4 := Lib.nDigits_big h
      rw [ih (x / 10) (by omega) (Nat.le_trans (zl_mono (by omega) (by omega)) hl) _ (by simp; omega) (by omega)]
      conv => rhs; rw [Lib.decDigits, dif_neg h]
      simp
theorem tx_i8 (l : List UInt8) : tx (i8 l) = bs l := by
  by_cases h : l = []
  · rw [h]; rfl
  · have := ust_i8 _ h
    unfold ust at this
    split at this
    · exact Option.some.inj this
    · cases this
theorem refText_eq2 (x : Nat) (hl : (zl (x : Int)).length ≤ 1000000000) : m_triviumref02_Text (zl (x : Int)) = some (bs (Lib.decDigits x)) := by
  unfold m_triviumref02_Text
  by_cases hx : 0 < x
  · have e1 : decide (((zl (x : Int)).length : Int) = 0) = false := decide_eq_false (by
      intro h
      have := (zl_nil (x := (x : Int)) (by omega)).1 (List.length_eq_zero_iff.1 (by omega))
      omega)
    have e2 := refText_loop x hl [] (by have := nd_zl x; simp; omega) hx
    rw [List.append_nil] at e2
    have e2 : lp m_triviumref02_Text_l1 (zl (x : Int), []) = some (i8 (Lib.decDigits x)) := e2
    rw [e1]
    simp only [Bool.false_eq_true, if_false, e2, bd_some, tx_i8]
  · have : x = 0 := by omega
    subst this
    have hz : zl ((0 : Nat) : Int) = [] := zl_zero
    rw [hz, Lib.decDigits, dif_pos (by decide)]
    rfl
/-- a number with its sign -/
def zsL (a : Int) : List UInt8 := if a < 0 then 45 :: Lib.decDigits a.natAbs else Lib.decDigits a.natAbs
theorem zsL_len (a : Int) : (zsL a).length ≤ 4 * (zl (a.natAbs : Int)).length + 2 := by
  have := dd_len a.natAbs
  unfold zsL
  split
  · rw [List.length_cons]; omega
  · omega
theorem wholePrint_eq (a : Int) (hl : (zl (a.natAbs : Int)).length ≤ 100000000) : m_whole_Print (zI a) = some (bs (zsL a)) := by
  have h1 := digitsPrint_eq a.natAbs (by have := nl_zl_len (x := (a.natAbs : Int)) (by omega); omega)
  have h2 := dd_len a.natAbs
  have c := cat_bs (a := [45]) (b := Lib.decDigits a.natAbs) (by simp; omega)
  unfold m_whole_Print zI zsL
  by_cases h : a < 0
  · simp only [decide_eq_true h, if_true, h1, bd_some, c, if_pos h]
    rfl
  · simp only [decide_eq_false h, Bool.false_eq_true, if_false, h1, bd_some, if_neg h]
theorem ref07Print_eq (a : Int) (hl : (zl (a.natAbs : Int)).length ≤ 100000000) : m_triviumref07_Print (zZ a) = some (bs (zsL a)) := by
  have h1 := refText_eq2 a.natAbs (by omega)
  have h2 := dd_len a.natAbs
  have c := cat_bs (a := [45]) (b := Lib.decDigits a.natAbs) (by simp; omega)
  unfold m_triviumref07_Print zZ zsL
  by_cases h : a < 0
  · simp only [decide_eq_true h, if_true, h1, bd_some, c, if_pos h]
    rfl
  · simp only [decide_eq_false h, Bool.false_eq_true, if_false, h1, bd_some, if_neg h]
theorem sg_ne {b : Int} (h : ¬ b = 1) : ¬ sg (b - 1) = 0 := by
  unfold sg
  split
  · decide
  · split <;> omega
/-- a fraction -/
def rtL (a b : Int) : List UInt8 := if b = 1 then zsL a else zsL a ++ 47 :: Lib.decDigits b.toNat
theorem rtL_len (a b : Int) (hb : 0 ≤ b) : (rtL a b).length ≤ 4 * (zl (a.natAbs : Int)).length + 4 * (zl b).length + 10 := by
  have h1 := zsL_len a
  have h2 := dd_len b.toNat
  have e : ((b.toNat : Nat) : Int) = b := by omega
  rw [e] at h2
  unfold rtL
  split
  · omega
  · rw [List.length_append, List.length_cons]; omega
theorem one_nl : m_nat_Of 1 = some (nl 1) := natOf_eq 1 (by decide) (by decide)
theorem ratioPrint_eq (a b : Int) (hb : 0 ≤ b) (hla : (zl (a.natAbs : Int)).length ≤ 100000000) (hlb : (zl b).length ≤ 100000000) : m_ratio_Print (rI a b) = some (bs (rtL a b)) := by
  have h1 := wholePrint_eq a hla
  have h2 := zsL_len a
  have h3 := digitsPrint_eq b.toNat (by
    have e : ((b.toNat : Nat) : Int) = b := by omega
    rw [e]; have := nl_zl_len (x := b) hb; omega)
  have h4 := dd_len b.toNat
  have e : ((b.toNat : Nat) : Int) = b := by omega
  rw [e] at h3 h4
  have h5 := cmpN_eq b 1 hb (by decide) (by have := nl_zl_len (x := b) hb; omega)
  have c1 := cat_bs (a := zsL a) (b := [47]) (by simp; omega)
  have c2 := cat_bs (a := zsL a ++ [47]) (b := Lib.decDigits b.toNat) (by rw [List.length_append]; simp; omega)
  have h1 : m_whole_Print ((zI a).1, (zI a).2) = some (bs (zsL a)) := h1
  unfold m_ratio_Print rI rtL
  by_cases hb1 : b = 1
  · have : sg (b - 1) = 0 := by rw [hb1]; rfl
    simp only [h1, bd_some, one_nl, h5, this, decide_true, if_true, if_pos hb1]
  · have : ¬ sg (b - 1) = 0 := sg_ne hb1
    simp only [h1, bd_some, one_nl, h5, decide_eq_false this, Bool.false_eq_true, if_false, c1, h3, c2, if_neg hb1]
    simp
theorem ref_one : m_triviumref02_Num 1 = some (zl 1) := by
  have := mulAdd_eq 0 1 1 (by decide) (by decide) (by decide) (by decide) (by decide) (by rw [zl_zero]; decide)
  rw [zl_zero] at this
  unfold m_triviumref02_Num
  rw [this]
  rfl
theorem ref09Print_eq (a b : Int) (hb : 0 ≤ b) (hla : (zl (a.natAbs : Int)).length ≤ 100000000) (hlb : (zl b).length ≤ 100000000) : m_triviumref09_Print (rQ a b) = some (bs (rtL a b)) := by
  have h1 := ref07Print_eq a hla
  have h2 := zsL_len a
  have e : ((b.toNat : Nat) : Int) = b := by omega
  have h3 := refText_eq2 b.toNat (by rw [e]; omega)
  have h4 := dd_len b.toNat
  rw [e] at h3 h4
  have h5 := refCmp_eq b 1 hb (by decide) (by omega)
  have c1 := cat_bs (a := zsL a) (b := [47]) (by simp; omega)
  have c2 := cat_bs (a := zsL a ++ [47]) (b := Lib.decDigits b.toNat) (by rw [List.length_append]; simp; omega)
  have h1 : m_triviumref07_Print ((zZ a).1, (zZ a).2) = some (bs (zsL a)) := h1
  unfold m_triviumref09_Print rQ rtL
  by_cases hb1 : b = 1
  · have : sg (b - 1) = 0 := by rw [hb1]; rfl
    simp only [h1, bd_some, ref_one, h5, this, decide_true, if_true, if_pos hb1]
  · have : ¬ sg (b - 1) = 0 := sg_ne hb1
    simp only [h1, bd_some, ref_one, h5, decide_eq_false this, Bool.false_eq_true, if_false, c1, h3, c2, if_neg hb1]
    simp
end Go.Proofs.YtkjkipkfndckfaaGreatDoor.AP
/- WholeAdds: the chapter's example; the plain law. -/
namespace Go.Proofs.YtkjkipkfndckfaaGreatDoor.AP
open Go Go.Proofs.YtkjkipkfndckfaaGreatDoor.Tri
set_option linter.unusedVariables false
set_option linter.unusedSimpArgs false
end Go.Proofs.YtkjkipkfndckfaaGreatDoor.AP
namespace Go.Proofs.YtkjkipkfndckfaaGreatDoor.Pure
open Go Go.Proofs.YtkjkipkfndckfaaGreatDoor.AP Go.Proofs.YtkjkipkfndckfaaGreatDoor.AE
theorem u64lim {l : List Int} (h : Ty.ok (.sl (.int .u64)) l) : Limbs l := fun x hx => by
  obtain ⟨i, hi⟩ := List.getElem?_of_mem hx
  have h : (decide (IntKind.u64.min ≤ x) && decide (x ≤ IntKind.u64.max)) = true := h.2 i x hi
  rw [Bool.and_eq_true, decide_eq_true_eq, decide_eq_true_eq] at h
  exact ⟨h.1, Int.lt_add_one_of_le h.2⟩
end Go.Proofs.YtkjkipkfndckfaaGreatDoor.Pure
/- Floors, of the program and of the document; the plain laws of divisions and of the ring. -/
namespace Go.Proofs.YtkjkipkfndckfaaGreatDoor.AP
open Go Go.Proofs.YtkjkipkfndckfaaGreatDoor.Tri
set_option linter.unusedVariables false
set_option linter.unusedSimpArgs false
/-- apart: the signs are not the same, and something is left -/
def fgo (a b : Int) : Bool := !(decide (a < 0) == decide (b < 0)) && decide (0 < (a.natAbs : Int) % (b.natAbs : Int))
/-- the floor's quotient, and rest: sizes -/
def fA (a b : Int) : Int := if fgo a b then (a.natAbs : Int) / (b.natAbs : Int) + 1 else (a.natAbs : Int) / (b.natAbs : Int)
def fR (a b : Int) : Int := if fgo a b then (b.natAbs : Int) - (a.natAbs : Int) % (b.natAbs : Int) else (a.natAbs : Int) % (b.natAbs : Int)
def fq (a b : Int) : Int := if (!(decide (a < 0) == decide (b < 0))) = true then -fA a b else fA a b
end Go.Proofs.YtkjkipkfndckfaaGreatDoor.AP
/- Digits read, by ten: the program's way and the document's. -/
namespace Go.Proofs.YtkjkipkfndckfaaGreatDoor.AP
open Go Go.Proofs.YtkjkipkfndckfaaGreatDoor.Tri
set_option linter.unusedVariables false
set_option linter.unusedSimpArgs false
set_option maxRecDepth 4000
/-! texts, by bytes -/
theorem cs_bs (l : List UInt8) (a b : Nat) (h : a ≤ b) (hb : b ≤ l.length) : cs (bs l) (a : Int) (b : Int) = some (bs ((l.take b).drop a)) := by
  unfold cs
  rw [if_pos ⟨by omega, by omega, by show (b : Int) ≤ (l.length : Int); omega⟩, Int.toNat_natCast, Int.toNat_natCast]
  congr 1
  apply ByteArray.ext
  apply Array.ext'
  rw [ByteArray.data_extract, Array.toList_extract]
  show (List.extract l a b) = _
  rw [List.extract_eq_take_drop, List.drop_take]
  rfl
/-! runes -/
/-! what a text says -/
def dgt (c : UInt8) : Option Nat := if 48 ≤ c.toNat ∧ c.toNat ≤ 57 then some (c.toNat - 48) else none
def rdN : List UInt8 → Nat → Option Nat
  | [], v => some v
  | c :: l, v => match dgt c with
    | none => none
    | some d => rdN l (v * 10 + d)
def rd10 (l : List UInt8) : Option Nat := if l = [] then none else rdN l 0
/-! a limb's multiple -/
/-- how a number that is read is told -/
def tld (o : Option Nat) : List Int × Int := match o with | some v => (nl (v : Int), 0) | none => ([], 5)
end Go.Proofs.YtkjkipkfndckfaaGreatDoor.AP
/- Fractions of the program: the greatest divisor of any numbers, lowest terms, powers. -/
namespace Go.Proofs.YtkjkipkfndckfaaGreatDoor.AP
open Go Go.Proofs.YtkjkipkfndckfaaGreatDoor.Tri
set_option linter.unusedVariables false
set_option linter.unusedSimpArgs false
theorem gcdN_eq (x y : Int) (hx : 0 ≤ x) (hy : 0 ≤ y) (hlx : (nl x).length ≤ 1000000) (hly : (nl y).length ≤ 1000000) : m_gcd_Euclid (nl x) (nl y) = some (nl (Int.gcd x y)) := by
  have main : ∀ (n : Nat) (x y : Int), y.toNat ≤ n → 0 ≤ x → 0 ≤ y → (nl x).length ≤ 1000000 → (nl y).length ≤ 1000000 → lp m_gcd_Euclid_l1 (nl x, nl y) = some (nl (Int.gcd x y)) := by
    intro n
    induction n with
    | zero =>
      intro x y hn hx hy hlx hly
      obtain rfl : y = 0 := by omega
      have hxx : ((Int.gcd x 0 : Nat) : Int) = x := by rw [Int.gcd_zero_right]; omega
      have e : m_gcd_Euclid_l1 (nl x, nl 0) = some (.inr (nl x)) := by simp [m_gcd_Euclid_l1, nl_zero]
      rw [lp_done e, hxx]
    | succ n ih =>
      intro x y hn hx hy hlx hly
      by_cases h0 : y = 0
      · exact ih x y (by omega) hx hy hlx hly
      · have hpos : 0 < y := by omega
        have hne : nl y ≠ [] := fun h => h0 ((nl_nil hy).1 h)
        have hlen : 0 < (nl y).length := List.length_pos_iff.2 hne
        have h2 := Int.emod_lt_of_pos x hpos
        have h3 := Int.emod_nonneg x (show y ≠ 0 by omega)
        have h4 := nl_mono h3 (Int.le_of_lt h2)
        have e : m_gcd_Euclid_l1 (nl x, nl y) = some (.inl (nl y, nl (x % y))) := by
          simp only [m_gcd_Euclid_l1, m_divide_Mod, decide_eq_true (show (0 : Int) < ((nl y).length : Int) by omega), if_true, div_eq x y hx hpos (by omega) (by omega), bd_some]
        rw [lp_more e, ih y (x % y) (by omega) hy h3 (by omega) (by omega), gcd_mod x y hx]
  unfold m_gcd_Euclid
  rw [make_nl x (by omega), bd_some, make_nl y (by omega), bd_some]
  dsimp only
  rw [main y.toNat x y (Nat.le_refl _) hx hy hlx hly, bd_some]
theorem exactN_eq (x y : Int) (hx : 0 ≤ x) (hy : 0 < y) (hd : x % y = 0) (hl : (nl x).length ≤ 1000000) (hl2 : (nl y).length ≤ 1000000) : m_divide_Exact (nl x) (nl y) = some (nl (x / y), 0) := by
  unfold m_divide_Exact
  rw [div_eq x y hx hy (by omega) (by omega), bd_some]
  dsimp only
  rw [if_neg (show ¬ (!decide ((0 : Int) = 0)) = true by decide), hd, nl_zero, if_neg (show ¬ decide ((0 : Int) < (([] : List Int).length : Int)) = true by decide)]
theorem zI_of_nonneg {x : Int} (h : 0 ≤ x) : zI x = (false, nl x) := by
  unfold zI; rw [decide_eq_false (by omega), show ((x.natAbs : Nat) : Int) = x by omega]
theorem rLow_eq {n : Nat} (a b : Int) (hb : 0 < b) (ha : Lm n a) (hbl : Lm n b) (hn : n ≤ 100000) : m_rat_low (zI a) (nl b) = some (rI (a / Int.gcd a b) (b / Int.gcd a b)) := by
  have la := ha.len
  have lb := hbl.len' (by omega)
  have hg : 0 < (Int.gcd a b : Int) := by
    have := Int.gcd_pos_of_ne_zero_right a (show b ≠ 0 by omega); omega
  have hga : Int.gcd (a.natAbs : Int) b = Int.gcd a b := gcd_abs a b
  have d1 : (Int.gcd a b : Int) ∣ (a.natAbs : Int) := by rw [← hga]; exact Int.gcd_dvd_left _ _
  have d2 : (Int.gcd a b : Int) ∣ b := Int.gcd_dvd_right a b
  have d0 : (Int.gcd a b : Int) ∣ a := Int.gcd_dvd_left a b
  have lg : (nl (Int.gcd a b : Int)).length ≤ n := by
    have h := Int.le_of_dvd hb d2
    have := nl_mono (x := (Int.gcd a b : Int)) (by omega) h
    omega
  have hq0 : 0 ≤ (a.natAbs : Int) / (Int.gcd a b : Int) := Int.ediv_nonneg (by omega) (by omega)
  have hq1 : (a.natAbs : Int) / (Int.gcd a b : Int) ≤ (a.natAbs : Int) := Int.ediv_le_self _ (by omega)
  have lq := nl_mono hq0 hq1
  unfold m_rat_low
  show bd (m_gcd_Euclid (nl (a.natAbs : Int)) (nl b)) _ = _
  rw [gcdN_eq _ b (by omega) (by omega) (by omega) (by omega), bd_some, hga]
  show bd (m_divide_Exact (nl (a.natAbs : Int)) (nl (Int.gcd a b : Int))) _ = _
  rw [exactN_eq _ _ (by omega) hg (Int.emod_eq_zero_of_dvd d1) (by omega) (by omega), bd_some, exactN_eq _ _ (by omega) hg (Int.emod_eq_zero_of_dvd d2) (by omega) (by omega), bd_some]
  dsimp only
  show bd (m_whole_Made (decide (a < 0)) (nl ((a.natAbs : Int) / (Int.gcd a b : Int)))) _ = _
  rw [wMade_eq _ _ hq0 (by omega), bd_some]
  have e : (if decide (a < 0) = true then -((a.natAbs : Int) / (Int.gcd a b : Int)) else (a.natAbs : Int) / (Int.gcd a b : Int)) = a / (Int.gcd a b : Int) := by
    by_cases h : a < 0
    · rw [if_pos (decide_eq_true h), show (a.natAbs : Int) = -a by omega, Int.neg_ediv_of_dvd d0, Int.neg_neg]
    · rw [if_neg (by simpa using h), show (a.natAbs : Int) = a by omega]
  rw [e]
  rfl
theorem rMake_eq {n : Nat} (a b : Int) (hb : 0 < b) (ha : Lm n a) (hbl : Lm n b) (hn : n ≤ 100000) : m_rat_Make (zI a) (zI b) = some (rI (a / Int.gcd a b) (b / Int.gcd a b), 0) := by
  have la := ha.len
  have hz := zI_of_nonneg (x := b) (by omega)
  unfold m_rat_Make
  show bd (m_whole_Sign (zI b)) _ = _
  rw [wSign_eq, bd_some, if_neg (by rw [decide_eq_true_eq]; unfold sg; rw [if_neg (by omega), if_pos hb]; decide)]
  show bd (m_whole_Made (!(decide (a < 0) == (zI b).1)) (nl (a.natAbs : Int))) _ = _
  rw [hz, wMade_eq _ _ (by omega) (by omega), bd_some]
  have e : (if (!(decide (a < 0) == false)) = true then -(a.natAbs : Int) else (a.natAbs : Int)) = a := by
    by_cases h : a < 0
    · rw [decide_eq_true h]; simp; omega
    · rw [decide_eq_false h]; simp; omega
  rw [e, rLow_eq a b hb ha hbl hn, bd_some]
/-! powers -/
end Go.Proofs.YtkjkipkfndckfaaGreatDoor.AP
/- Masks and prefixes, plain. -/
namespace Go.Proofs.YtkjkipkfndckfaaGreatDoor.AP
open Go
set_option linter.unusedVariables false
set_option linter.unusedSimpArgs false
/-- how many addresses begin with the same n bits -/
def S32 (n : Int) : Int := 2 ^ (32 - n).toNat

theorem S32_pos (n : Int) : 0 < S32 n := Int.pow_pos (by decide)
theorem S32_le (n : Int) (h : 0 ≤ n) : S32 n ≤ 4294967296 := by
  have h1 : (32 - n).toNat ≤ 32 := by omega
  obtain ⟨d, hd⟩ := Nat.exists_eq_add_of_le h1
  have h2 : (4294967296 : Int) = 2 ^ (32 - n).toNat * 2 ^ d := by rw [← Int.pow_add, ← hd]; decide
  have h3 : (1 : Int) ≤ 2 ^ d := by have : (0 : Int) < 2 ^ d := Int.pow_pos (by decide); omega
  have h4 : (0 : Int) < 2 ^ (32 - n).toNat := Int.pow_pos (by decide)
  unfold S32
  rw [h2]
  have := Int.mul_le_mul_of_nonneg_left h3 (Int.le_of_lt h4)
  omega
theorem S32_nat (n : Int) : S32 n = ((2 ^ (32 - n).toNat : Nat) : Int) := by unfold S32; simp

theorem bits_andNot_mask (a n : Int) (ha0 : 0 ≤ a) (ha : a < 4294967296) (h0 : 0 ≤ n) : Go.bits .andNot .u32 a (4294967296 - S32 n) = a % S32 n := by
  have hS := S32_le n h0
  have hp := S32_pos n
  rw [u32_andNot a _ ha0 ha (by omega) (by omega)]
  obtain ⟨x, rfl⟩ := Int.eq_ofNat_of_zero_le ha0
  have e2 : 4294967295 - (4294967296 - S32 n).toNat = 2 ^ (32 - n).toNat - 1 := by
    rw [S32_nat] at hS hp ⊢; omega
  rw [e2, Int.toNat_natCast, Nat.and_two_pow_sub_one_eq_mod, S32_nat]
  simp

theorem mask_eq (n : Int) (h0 : 0 ≤ n) (h1 : n ≤ 32) : m_addr_Mask n = some (4294967296 - S32 n) := by
  have key : ∀ m : Int, 0 ≤ m → m ≤ 32 → (IntKind.u64.wrap (4294967295 * 2 ^ (min (32 - m).toNat IntKind.u64.bits))) % 4294967296 = 4294967296 - S32 m := by
    intro m h0 h1
    have h2 : m = 0 ∨ m = 1 ∨ m = 2 ∨ m = 3 ∨ m = 4 ∨ m = 5 ∨ m = 6 ∨ m = 7 ∨ m = 8 ∨ m = 9 ∨ m = 10 ∨ m = 11 ∨ m = 12 ∨ m = 13 ∨ m = 14 ∨ m = 15 ∨ m = 16 ∨ m = 17 ∨ m = 18 ∨ m = 19 ∨ m = 20 ∨ m = 21 ∨ m = 22 ∨ m = 23 ∨ m = 24 ∨ m = 25 ∨ m = 26 ∨ m = 27 ∨ m = 28 ∨ m = 29 ∨ m = 30 ∨ m = 31 ∨ m = 32 := by omega
    unfold S32
    rcases h2 with rfl | rfl | rfl | rfl | rfl | rfl | rfl | rfl | rfl | rfl | rfl | rfl | rfl | rfl | rfl | rfl | rfl | rfl | rfl | rfl | rfl | rfl | rfl | rfl | rfl | rfl | rfl | rfl | rfl | rfl | rfl | rfl | rfl <;> decide
  unfold m_addr_Mask
  rw [Int.max_eq_left h0, Int.min_eq_left h1, wi64_eq (by omega) (by omega)]
  unfold sh
  rw [if_pos (by omega), bd_some, wu32_mod, key n h0 h1]
/-- may a prefix be? -/
def mayP (p : D_api_Prefix) : Bool := decide (0 ≤ p.2) && decide (p.2 ≤ 32) && decide (p.1 % S32 p.2 = 0)
theorem may_eq (p : D_api_Prefix) (h0 : 0 ≤ p.1) (h1 : p.1 < 4294967296) : m_addr_May p = some (mayP p) := by
  unfold m_addr_May mayP
  by_cases a : 0 ≤ p.2
  · by_cases b : p.2 ≤ 32
    · rw [if_pos (decide_eq_true a), if_pos (decide_eq_true b), mask_eq _ a b, bd_some, lt_eq, bits_andNot_mask p.1 p.2 h0 h1 a]
      simp [a, b]
    · rw [if_pos (decide_eq_true a), if_neg (by simpa using b)]
      simp [a, b]
  · rw [if_neg (by simpa using a)]
    simp [a]
theorem size_loop : ∀ (n j : Nat), n + j ≤ 32 → lp m_triviumref18_Size_l1 ((2 : Int) ^ j, 32 - (n : Int)) = some ((2 : Int) ^ (j + n))
  | 0, j, h => lp_done (by simp [m_triviumref18_Size_l1])
  | n + 1, j, h => by
    have hp : (2 : Int) ^ (j + 1) ≤ 2 ^ 32 := Tri.pow_mono (by decide) (by omega)
    have h0 : (0 : Int) < 2 ^ (j + 1) := Int.pow_pos (by decide)
    have e1 : wu64 (2 * 2 ^ j) = 2 ^ (j + 1) := by rw [Int.pow_succ, Int.mul_comm] at *; exact wu64_eq (by omega) (by omega)
    have e2 : wi64 (32 - ((n + 1 : Nat) : Int) + 1) = 32 - (n : Int) := by rw [wi64_eq (by omega) (by omega)]; omega
    rw [lp_more (s' := ((2 : Int) ^ (j + 1), 32 - (n : Int))) (by
      simp only [m_triviumref18_Size_l1, decide_eq_true (show 32 - ((n + 1 : Nat) : Int) < 32 by omega), if_true, e1, e2])]
    rw [size_loop n (j + 1) (by omega)]
    congr 2; omega
theorem size_eq (n : Int) (h0 : 0 ≤ n) (h1 : n ≤ 32) : m_triviumref18_Size n = some (S32 n) := by
  have := size_loop (32 - n).toNat 0 (by omega)
  unfold m_triviumref18_Size
  rw [show (1 : Int) = 2 ^ 0 from rfl, show n = 32 - ((32 - n).toNat : Int) by omega, this, bd_some]
  unfold S32
  congr 2; omega
theorem refMay_eq (p : D_api_Prefix) (h0 : 0 ≤ p.1) (h1 : p.1 < 4294967296) : m_triviumref18_May p = some (mayP p) := by
  unfold m_triviumref18_May mayP
  by_cases a : 0 ≤ p.2
  · by_cases b : p.2 ≤ 32
    · have := S32_pos p.2
      rw [if_pos (decide_eq_true a), if_pos (decide_eq_true b), size_eq _ a b, bd_some, wu64_eq h0 (by omega), rm_of h0 this, bd_some]
      simp [a, b]
    · rw [if_pos (decide_eq_true a), if_neg (by simpa using b)]
      simp [a, b]
  · rw [if_neg (by simpa using a)]
    simp [a]
end Go.Proofs.YtkjkipkfndckfaaGreatDoor.AP
/- Addresses and prefixes, printed by both. -/
namespace Go.Proofs.YtkjkipkfndckfaaGreatDoor.AP
open Go
set_option linter.unusedVariables false
set_option linter.unusedSimpArgs false
/-- an address's text -/
def prL (a : Int) : List UInt8 := Lib.itoa (a / 16777216) ++ 46 :: (Lib.itoa (a / 65536 % 256) ++ 46 :: (Lib.itoa (a / 256 % 256) ++ 46 :: Lib.itoa (a % 256)))
theorem prL_len (a : Int) (h0 : 0 ≤ a) (h1 : a < 4294967296) : (prL a).length ≤ 83 := by
  have l1 := itoa_len (a / 16777216) (by omega) (by omega)
  have l2 := itoa_len (a / 65536 % 256) (by omega) (by omega)
  have l3 := itoa_len (a / 256 % 256) (by omega) (by omega)
  have l4 := itoa_len (a % 256) (by omega) (by omega)
  unfold prL
  simp only [List.length_append, List.length_cons]
  omega
theorem and255 (x : Int) (h0 : 0 ≤ x) (h1 : x < 4294967296) : wi64 (Go.bits .and .u32 x 255) = x % 256 := by
  obtain ⟨n, rfl⟩ := Int.eq_ofNat_of_zero_le h0
  have e : Go.bits .and .u32 (n : Int) 255 = ((n % 256 : Nat) : Int) := by
    have h2 := Nat.and_two_pow_sub_one_eq_mod n 8
    rw [u32_and (n : Int) 255 (by omega) h1 (by omega) (by omega)]
    have h3 : ((255 : Int).toNat) = 2 ^ 8 - 1 := rfl
    rw [Int.toNat_natCast, h3, h2]
  rw [e, wi64_eq (by omega) (by omega)]
  omega
theorem shr (a : Int) (h0 : 0 ≤ a) (h1 : a < 4294967296) (k : Nat) (hk : k ≤ 32) : sr .u32 a (k : Int) = some (a / 2 ^ k) := by
  unfold sr
  rw [if_pos (by omega)]
  have e : min ((k : Int).toNat) (IntKind.u32.bits) = k := by
    have : IntKind.u32.bits = 32 := rfl
    rw [this]; simp; omega
  rw [e]
  congr 1
  exact Int.fdiv_eq_ediv_of_nonneg a (Int.pow_nonneg (by decide))
theorem print_eq (a : Int) (h0 : 0 ≤ a) (h1 : a < 4294967296) : m_addr_Print a = some (bs (prL a)) := by
  have em : AP.mk 16 (bs []) 4 4 = some (List.replicate 4 (bs [])) := mk16 4 (by decide)
  have step : ∀ (i : Nat) (v : List ByteArray), i < 4 → v.length = 4 → m_addr_Print_l1 a (List.replicate 4 (bs [])) ((i : Int), v) = some (.inl ((i : Int) + 1, v.set i (bs (Lib.itoa (a / 2 ^ (8 * (3 - i)) % 256))))) := by
    intro i v hi hv
    have e1 : decide ((i : Int) < ((List.replicate 4 (bs [])).length : Int)) = true := by simp; omega
    have e2 : wi64 (8 * (wi64 (3 - (i : Int)))) = ((8 * (3 - i) : Nat) : Int) := by
      rw [wi64_eq (x := 3 - (i : Int)) (by omega) (by omega), wi64_eq (by omega) (by omega)]; omega
    have e3 := shr a h0 h1 (8 * (3 - i)) (by omega)
    have hq : 0 ≤ a / 2 ^ (8 * (3 - i)) := Int.ediv_nonneg h0 (Int.pow_nonneg (by decide))
    have hq2 : a / 2 ^ (8 * (3 - i)) < 4294967296 := by
      have := Int.ediv_le_self (2 ^ (8 * (3 - i))) h0
      omega
    have e4 := and255 _ hq hq2
    have e5 := itoa_bs (a / 2 ^ (8 * (3 - i)) % 256) (by omega) (by omega)
    have e6 : ix v (i : Int) = some i := ix_nat (by omega)
    have e7 : wi64 ((i : Int) + 1) = (i : Int) + 1 := wi64_eq (by omega) (by omega)
    simp only [m_addr_Print_l1, e1, if_true, e2, e3, bd_some, e4, e5, e6, lt_eq, e7]
  have fin : ∀ v, m_addr_Print_l1 a (List.replicate 4 (bs [])) (4, v) = some (.inr v) := by
    intro v
    simp [m_addr_Print_l1]
  have hloop := lp_fill (f := m_addr_Print_l1 a (List.replicate 4 (bs []))) [(0 : Nat), 1, 2, 3] (fun i => bs (Lib.itoa (a / 2 ^ (8 * (3 - i)) % 256))) (fun i x v hx hv => by
    have hi : i < 4 := by
      have := (List.getElem?_eq_some_iff.1 hx).1
      simpa using this
    have : x = i := by
      match i, hi, hx with
      | 0, _, hx => simpa using hx.symm
      | 1, _, hx => simpa using hx.symm
      | 2, _, hx => simpa using hx.symm
      | 3, _, hx => simpa using hx.symm
    subst this
    exact step x v hi (by simpa using hv)) fin (List.replicate 4 (bs [])) (by simp)
  have e8 : a / 2 ^ (8 * (3 - 0)) % 256 = a / 16777216 := by
    have : (2 : Int) ^ (8 * (3 - 0)) = 16777216 := rfl
    rw [this]; omega
  have hj := join_bs [Lib.itoa (a / 16777216), Lib.itoa (a / 65536 % 256), Lib.itoa (a / 256 % 256), Lib.itoa (a % 256)] [46] (by simp) (by
    have l1 := itoa_len (a / 16777216) (by omega) (by omega)
    have l2 := itoa_len (a / 65536 % 256) (by omega) (by omega)
    have l3 := itoa_len (a / 256 % 256) (by omega) (by omega)
    have l4 := itoa_len (a % 256) (by omega) (by omega)
    have := join_len [46] 20 [Lib.itoa (a / 16777216), Lib.itoa (a / 65536 % 256), Lib.itoa (a / 256 % 256), Lib.itoa (a % 256)] (by
      intro x hx
      simp only [List.mem_cons, List.not_mem_nil, or_false] at hx
      rcases hx with rfl | rfl | rfl | rfl <;> assumption)
    simp at this
    omega)
  have e9 : [(0 : Nat), 1, 2, 3].map (fun i => bs (Lib.itoa (a / 2 ^ (8 * (3 - i)) % 256))) = [Lib.itoa (a / 16777216), Lib.itoa (a / 65536 % 256), Lib.itoa (a / 256 % 256), Lib.itoa (a % 256)].map bs := by
    simp only [List.map_cons, List.map_nil, e8]
    have h1 : (2 : Int) ^ (8 * (3 - 1)) = 65536 := rfl
    have h2 : (2 : Int) ^ (8 * (3 - 2)) = 256 := rfl
    have h3 : (2 : Int) ^ (8 * (3 - 3)) = 1 := rfl
    rw [h1, h2, h3, Int.ediv_one]
  rw [e9] at hloop
  unfold m_addr_Print
  simp only [em, bd_some, hloop, hj]
  congr 2
  rw [join2, join2, join2, Lib.join_one]
  rfl
theorem refPrint_eq (a : Int) (h0 : 0 ≤ a) (h1 : a < 4294967296) : m_triviumref18_Print a = some (bs (prL a)) := by
  have l1 := itoa_len (a / 16777216) (by omega) (by omega)
  have l2 := itoa_len (a / 65536 % 256) (by omega) (by omega)
  have l3 := itoa_len (a / 256 % 256) (by omega) (by omega)
  have l4 := itoa_len (a % 256) (by omega) (by omega)
  have q : ∀ d : Int, 0 < d → qd .u32 a d = some (a / d) := fun d hd => by
    unfold qd
    rw [if_neg (by omega), Int.tdiv_eq_ediv_of_nonneg h0]
    have := Int.ediv_nonneg h0 (Int.le_of_lt hd)
    have := Int.ediv_le_self d h0
    rw [show IntKind.u32.wrap (a / d) = a / d from wu32_eq (by omega) (by omega)]
  have e1 := q 16777216 (by decide)
  have e2 := q 65536 (by decide)
  have e3 := q 256 (by decide)
  have r1 : rm .u32 (a / 65536) 256 = some (a / 65536 % 256) := rm_of (by omega) (by decide)
  have r2 : rm .u32 (a / 256) 256 = some (a / 256 % 256) := rm_of (by omega) (by decide)
  have r3 : rm .u32 a 256 = some (a % 256) := rm_of h0 (by decide)
  have w1 : wi64 (a / 16777216) = a / 16777216 := wi64_eq (by omega) (by omega)
  have w2 : wi64 (a / 65536 % 256) = a / 65536 % 256 := wi64_eq (by omega) (by omega)
  have w3 : wi64 (a / 256 % 256) = a / 256 % 256 := wi64_eq (by omega) (by omega)
  have w4 : wi64 (a % 256) = a % 256 := wi64_eq (by omega) (by omega)
  have b1 := baseItoa (a / 16777216) (by omega) (by omega)
  have b2 := baseItoa (a / 65536 % 256) (by omega) (by omega)
  have b3 := baseItoa (a / 256 % 256) (by omega) (by omega)
  have b4 := baseItoa (a % 256) (by omega) (by omega)
  unfold m_triviumref18_Print prL
  simp only [e1, bd_some, w1, b1, e2, r1, w2, b2, e3, r2, w3, b3, r3, w4, b4]
  generalize Lib.itoa (a / 16777216) = A at *
  generalize Lib.itoa (a / 65536 % 256) = B at *
  generalize Lib.itoa (a / 256 % 256) = C at *
  generalize Lib.itoa (a % 256) = D at *
  simp (disch := (simp only [List.length_append, List.length_cons, List.length_nil]; omega)) only [cat_bs, bd_some]
  simp [List.append_assoc]
/-- a prefix's text -/
def txL (p : D_api_Prefix) : List UInt8 := if mayP p then prL p.1 ++ 47 :: Lib.itoa p.2 else []
theorem may_len {p : D_api_Prefix} (h : mayP p = true) : 0 ≤ p.2 ∧ p.2 ≤ 32 := by
  unfold mayP at h
  simp only [Bool.and_eq_true, decide_eq_true_eq] at h
  exact h.1
theorem txL_len (p : D_api_Prefix) (h0 : 0 ≤ p.1) (h1 : p.1 < 4294967296) : (txL p).length ≤ 104 := by
  unfold txL
  split
  · rename_i h
    have h2 := may_len h
    have l1 := prL_len p.1 h0 h1
    have l2 := itoa_len p.2 (by omega) (by omega)
    simp only [List.length_append, List.length_cons]
    omega
  · simp
theorem text_eq (p : D_api_Prefix) (h0 : 0 ≤ p.1) (h1 : p.1 < 4294967296) : m_addr_Text p = some (bs (txL p)) := by
  have hm := may_eq p h0 h1
  have hm : m_addr_May (p.1, p.2) = some (mayP p) := hm
  unfold m_addr_Text txL
  rw [hm]
  cases hp : mayP p with
  | false => rfl
  | true =>
    have h2 := may_len hp
    have l1 := prL_len p.1 h0 h1
    have l2 := itoa_len p.2 (by omega) (by omega)
    have e1 := print_eq p.1 h0 h1
    have e2 := itoa_bs p.2 (by omega) (by omega)
    simp only [bd_some, Bool.not_true, if_true, e1, e2]
    rw [if_neg (by decide)]
    simp (disch := (simp only [List.length_append, List.length_cons, List.length_nil]; omega)) only [cat_bs, bd_some, List.append_assoc, List.cons_append, List.nil_append]
theorem refText_eq (p : D_api_Prefix) (h0 : 0 ≤ p.1) (h1 : p.1 < 4294967296) : m_triviumref18_Text p = some (bs (txL p)) := by
  have hm : m_triviumref18_May (p.1, p.2) = some (mayP p) := refMay_eq p h0 h1
  unfold m_triviumref18_Text txL
  rw [hm]
  cases hp : mayP p with
  | false => rfl
  | true =>
    have h2 := may_len hp
    have l1 := prL_len p.1 h0 h1
    have l2 := itoa_len p.2 (by omega) (by omega)
    have e1 := refPrint_eq p.1 h0 h1
    have e2 := baseItoa p.2 (by omega) (by omega)
    simp only [bd_some, Bool.not_true, if_true, e1, e2]
    rw [if_neg (by decide)]
    simp (disch := (simp only [List.length_append, List.length_cons, List.length_nil]; omega)) only [cat_bs, bd_some, List.append_assoc, List.cons_append, List.nil_append]
end Go.Proofs.YtkjkipkfndckfaaGreatDoor.AP
/- Networks' texts: the program's. -/
namespace Go.Proofs.YtkjkipkfndckfaaGreatDoor.AP
open Go
set_option linter.unusedVariables false
set_option linter.unusedSimpArgs false
theorem words_bs (l : List (List UInt8)) (h1 : l.length ≤ 10) (h2 : ∀ x ∈ l, x.length ≤ 2000000000) : m_canon_words (l.map bs) = some (bs (Lib.join l [32])) := by
  have := join_len [32] 2000000000 l h2
  have h3 : l.length * (2000000000 + [(32 : UInt8)].length) ≤ 10 * (2000000000 + [(32 : UInt8)].length) := Nat.mul_le_mul_right _ h1
  unfold m_canon_words
  have e := join_bs l [32] (by omega) (by simp at h3; simp at this; omega)
  have e : m_strings_Join (l.map bs) (bs [32]) = some (bs (Lib.join l [32])) := e
  rw [e]
  rfl
/-! what is written -/
def lnL (s : List UInt8) : List UInt8 := [32, 32] ++ s ++ [10]
def Pok (p : D_api_Prefix) : Prop := 0 ≤ p.1 ∧ p.1 < 4294967296
end Go.Proofs.YtkjkipkfndckfaaGreatDoor.AP
