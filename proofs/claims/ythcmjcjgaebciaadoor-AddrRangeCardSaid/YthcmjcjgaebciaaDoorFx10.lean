-- Out of the translation, by a program (myprint.py).
import Derived.Test.YthcmjcjgaebciaaDoorFx0
namespace Go.Proofs.YthcmjcjgaebciaaDoor.T
open Go.RowKit Go.Proofs.YthcmjcjgaebciaaDoorW.PrintWords Go.Proofs.YthcmjcjgaebciaaDoorW.PrintLast Go.Proofs.YthcmjcjgaebciaaDoorW.PrintMore
attribute [local go_sem] max2_int min2_int max_two min_two max_three min_three max_four min_four   -- for this text's walks alone
set_option linter.unusedVariables false
set_option linter.unusedSimpArgs false

/-! ### strings_Join: function 90 -/
def strings_Join.f (l0 : List (ByteArray)) (a1 : ByteArray) : Option (ByteArray) := if l0.length ≤ 140737488355328 then (if (Lib.join (l0.map (·.data.toList)) a1.data.toList).length ≤ 140737488355328 then some ⟨(Lib.join (l0.map (·.data.toList)) a1.data.toList).toArray⟩ else none) else none
theorem strings_Join.calls (A0 : Option Addr) (c0 : Nat) (l0 : List (ByteArray)) (a1 : ByteArray) (r : ByteArray) (w : World) (hr0 : Kd.C Kd.string w A0 l0.length l0) (hc0 : l0.length ≤ c0) (hp0 : ∀ ad, A0 = some ad → ad.spot = none) (h : strings_Join.f l0 a1 = some r) :
    Calls Tryd.prog 90 #[.slice A0 l0.length c0, .string a1] w fun e w' => e = .returned (.string r) ∧ Below w.heap.size w w' := by
  unfold strings_Join.f at h
  by_cases h1 : l0.length ≤ 140737488355328
  · rw [if_pos h1] at h
    by_cases h2 : (Lib.join (l0.map (·.data.toList)) a1.data.toList).length ≤ 140737488355328
    · rw [if_pos h2] at h
      obtain rfl := Option.some.inj h
      obtain ⟨_, _, h3⟩ := Kd.reads_of_C (d := (⟨#[]⟩ : ByteArray)) hr0
      cases l0 with
      | nil => exact (Tryd.strings_Join_none A0 c0 a1 w).mono fun e w' ⟨he, hw⟩ => ⟨he, by subst hw; exact Below.refl _ _⟩
      | cons x xs =>
        obtain ⟨ad, rfl, hcell⟩ := h3 (by simp)
        obtain ⟨b, o, s⟩ := ad
        have hs : s = none := hp0 _ rfl
        subst hs
        have hc : ∀ (j : Nat) y, (x :: xs)[j]? = some y → w.cell? ⟨b, o + j, none⟩ = some (.string y) := by
          intro j y hj
          obtain ⟨hjl, hjy⟩ := List.getElem?_eq_some_iff.1 hj
          have := hcell j hjl
          have e1 : (⟨b, o, none⟩ : Addr).add j = ⟨b, o + j, none⟩ := by unfold Addr.add; split <;> simp_all
          rw [e1] at this
          rw [this, List.getD_eq_getElem?_getD, hj]; rfl
        exact Tryd.strings_Join b o c0 (x :: xs) a1 w hc (World.block_lt_of_cell? w _ (hc 0 x rfl)) h1 hc0 h2
    · rw [if_neg h2] at h; cases h
  · rw [if_neg h1] at h; cases h

end Go.Proofs.YthcmjcjgaebciaaDoor.T
