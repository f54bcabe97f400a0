-- Out of the translation, by a program (myprint.py).
import Derived.Test.YthcmjcjgaebciaaDoorFx0
namespace Go.Proofs.YthcmjcjgaebciaaDoor.T
open Go.RowKit Go.Proofs.YthcmjcjgaebciaaDoorW.PrintWords Go.Proofs.YthcmjcjgaebciaaDoorW.PrintLast Go.Proofs.YthcmjcjgaebciaaDoorW.PrintMore
attribute [local go_sem] max2_int min2_int max_two min_two max_three min_three max_four min_four   -- for this text's walks alone
set_option linter.unusedVariables false
set_option linter.unusedSimpArgs false

/-! ### strings_Cut: function 85 -/
def strings_Cut.f (a0 : ByteArray) (a1 : ByteArray) : Option (ByteArray × ByteArray × Bool) := if a0.size ≤ 9223372036854775807 then (match a1.data.toList with
  | [c] => if 0 ≤ Lib.indexByte a0.data.toList c then some (a0.extract 0 (Lib.indexByte a0.data.toList c).toNat, a0.extract ((Lib.indexByte a0.data.toList c).toNat + 1) a0.size, true) else some (a0, ⟨#[]⟩, false)
  | _ => none) else none
theorem indexByte_lt (l : List UInt8) (c : UInt8) : Lib.indexByte l c < l.length := by
  induction l with
  | nil => simp [Lib.indexByte]
  | cons b l ih => simp only [Lib.indexByte]; split <;> (try split) <;> simp <;> omega
set_option maxHeartbeats 1000000 in
theorem cut_yes (s : ByteArray) (c : UInt8) (w : World) (maxS : s.size ≤ 9223372036854775807) (n : Nat) (hi : Lib.indexByte s.data.toList c = n) :
    Calls Tryd.prog 119 #[.string s, .string ⟨#[c]⟩] w fun e w' => e = .returned (.tuple #[.string (s.extract 0 n), .string (s.extract (n + 1) s.size), .bool true]) ∧ Drawn0 w w' := by
  have hlt : (n : Int) < s.size := by have := indexByte_lt s.data.toList c; rw [hi, data_length] at this; exact this
  have C := fun W => Tryd.stringslite_Index_one s c W
  rw [hi] at C
  clear hi
  have hn : n < s.size := by omega
  have hn1 : n + 1 ≤ s.size := by omega
  go_enter Tryd.func119, Tryd.ntmps119
  go_wp2_with (go_at_call 133; refine (C _).mono ?_; rintro e w' ⟨rfl, rfl⟩)
  have e1 : wrap64 ((n : Int) + 1) = (n : Int) + 1 := by unfold wrap64; have := maxS; omega
  have e2 : IntKind.i64.wrap ((n : Int) + 1) = (n : Int) + 1 := (i64_w _).trans e1
  clear hlt e1
  go_quiet (fail)
  go_wp2
  go_ret3
  exact ⟨rfl, by repeat (first | exact Drawn0.refl _ | apply Drawn0.step)⟩
set_option maxHeartbeats 1000000 in
theorem cut_no (s : ByteArray) (c : UInt8) (w : World) (hi : Lib.indexByte s.data.toList c = -1) :
    Calls Tryd.prog 119 #[.string s, .string ⟨#[c]⟩] w fun e w' => e = .returned (.tuple #[.string s, .string ⟨#[]⟩, .bool false]) ∧ Drawn0 w w' := by
  have C := fun W => Tryd.stringslite_Index_one s c W
  rw [hi] at C
  clear hi
  go_enter Tryd.func119, Tryd.ntmps119
  go_wp2_with (go_at_call 133; refine (C _).mono ?_; rintro e w' ⟨rfl, rfl⟩)
  go_ret3
  exact ⟨rfl, by repeat (first | exact Drawn0.refl _ | apply Drawn0.step)⟩
set_option maxHeartbeats 1000000 in
theorem cut_over (s p : ByteArray) (a b : ByteArray) (t : Bool) (C : ∀ W, Calls Tryd.prog 119 #[.string s, .string p] W fun e w' => e = .returned (.tuple #[.string a, .string b, .bool t]) ∧ Drawn0 W w') (w : World) :
    Calls Tryd.prog 85 #[.string s, .string p] w fun e w' => e = .returned (.tuple #[.string a, .string b, .bool t]) ∧ Drawn0 w w' := by
  go_enter Tryd.func85, Tryd.ntmps85
  go_wp2_with (go_at_call 119; refine (C _).mono ?_; rintro e w' ⟨rfl, hd⟩)
  go_ret3
  exact ⟨rfl, by repeat (first | exact hd | exact Drawn0.refl _ | apply Drawn0.step)⟩
theorem strings_Cut.calls (a0 : ByteArray) (a1 : ByteArray) (r1 : ByteArray) (r2 : ByteArray) (r3 : Bool) (w : World) (h : strings_Cut.f a0 a1 = some (r1, r2, r3)) :
    Calls Tryd.prog 85 #[.string a0, .string a1] w fun e w' => e = .returned (.tuple #[.string r1, .string r2, .bool r3]) ∧ Drawn0 w w' := by
  unfold strings_Cut.f at h
  by_cases hs : a0.size ≤ 9223372036854775807
  · rw [if_pos hs] at h
    obtain ⟨⟨l⟩⟩ := a1
    match l, h with
    | [c], h =>
      have h1 : (if 0 ≤ Lib.indexByte a0.data.toList c then some (a0.extract 0 (Lib.indexByte a0.data.toList c).toNat, a0.extract ((Lib.indexByte a0.data.toList c).toNat + 1) a0.size, true) else some (a0, (⟨#[]⟩ : ByteArray), false)) = some (r1, r2, r3) := h
      by_cases hc : 0 ≤ Lib.indexByte a0.data.toList c
      · rw [if_pos hc] at h1
        simp only [Option.some.injEq, Prod.mk.injEq] at h1
        obtain ⟨rfl, rfl, rfl⟩ := h1
        exact cut_over _ _ _ _ _ (fun W => cut_yes a0 c W hs _ (Int.toNat_of_nonneg hc).symm) w
      · rw [if_neg hc] at h1
        simp only [Option.some.injEq, Prod.mk.injEq] at h1
        obtain ⟨rfl, rfl, rfl⟩ := h1
        exact cut_over _ _ _ _ _ (fun W => cut_no a0 c W (by have := Lib.indexByte_ge a0.data.toList c; omega)) w
    | [], h => cases h
    | _ :: _ :: _, h => cases h
  · rw [if_neg hs] at h; cases h

end Go.Proofs.YthcmjcjgaebciaaDoor.T
