-- Out of the translation, by a program (myprint.py).
import Derived.Test.YthcmjcjgaebciaaDoorFx0
namespace Go.Proofs.YthcmjcjgaebciaaDoor.T
open Go.RowKit Go.Proofs.YthcmjcjgaebciaaDoorW.PrintWords Go.Proofs.YthcmjcjgaebciaaDoorW.PrintLast Go.Proofs.YthcmjcjgaebciaaDoorW.PrintMore
attribute [local go_sem] max2_int min2_int max_two min_two max_three min_three max_four min_four   -- for this text's walks alone
set_option linter.unusedVariables false
set_option linter.unusedSimpArgs false

/-! ### addr_number: function 86 -/
def addr_number.go : List UInt8 → Int → Option Int
  | [], n => some n
  | c :: cs, n => if 48 ≤ c.toNat ∧ c.toNat ≤ 57 then addr_number.go cs (10 * n + ((c.toNat : Int) - 48)) else none
def addr_number.f (a0 : ByteArray) : Option (Int × Int) :=
  if a0.size = 0 ∨ 3 < a0.size ∨ (1 < a0.size ∧ bt a0 0 = 48) then some (0, 5) else
  match addr_number.go a0.data.toList 0 with
  | some n => some (n, 0)
  | none => some (0, 5)

def NumRel (s : ByteArray) (w : World) (r1 r2 : Int) (v : Value) (W : World) : Prop :=
  ∃ (pos : Nat) (n : Int), pos ≤ s.size ∧ v = .int .i64 n ∧ W = w.iter s pos ∧ 0 ≤ n ∧ n < 10 ^ pos ∧
    (match addr_number.go (s.data.toList.drop pos) n with | some n => some (n, (0 : Int)) | none => some (0, 5)) = some (r1, r2)
theorem drop_at (s : ByteArray) (pos : Nat) (h : pos < s.size) : s.data.toList.drop pos = s[pos] :: s.data.toList.drop (pos + 1) := by
  rw [List.drop_eq_getElem_cons (by rw [data_length]; exact h)]; rfl
theorem sized_ne (s : ByteArray) (h0 : 0 < s.size) : s.toList.isEmpty = false := by
  cases h : s.toList.isEmpty with
  | false => rfl
  | true =>
    exfalso
    have h1 := List.isEmpty_iff.1 h
    have h2 : s.data.toList = [] := by rw [← ByteArray.toList_eq]; exact h1
    have h3 := data_length s
    rw [h2] at h3
    simp at h3
    omega
set_option maxHeartbeats 1000000 in
theorem number_loop (s : ByteArray) (w : World) (r1 r2 : Int) (h0 : 0 < s.size) (h3 : s.size ≤ 3) (hz : s.size = 1 ∨ (1 < s.size ∧ ((bt s 0 == 48) = false)))
    (hr : (match addr_number.go s.data.toList 0 with | some n => some (n, (0 : Int)) | none => some (0, 5)) = some (r1, r2)) :
    Calls Tryd.prog 86 #[.string s] w fun e w' => e = .returned (.tuple #[.int .i64 r1, .int .i64 r2]) ∧ Below w.heap.size w w' := by
  have hne := sized_ne s h0
  have hle : decide (3 < s.size) = false := decide_eq_false (by omega)
  have hle2 : decide (3 < (s.size : Int)) = false := decide_eq_false (by omega)
  have hS : NumRel s w r1 r2 (.int .i64 0) (w.iter s 0) := ⟨0, 0, by omega, rfl, rfl, by omega, by omega, by simpa using hr⟩
  have HS := Lib.hid hS
  clear hr hS
  rcases hz with hz | ⟨hz1, hz2⟩
  · have hb1 : decide (1 < s.size) = false := decide_eq_false (by omega)
    have hb2 : decide (1 < (s.size : Int)) = false := decide_eq_false (by omega)
    clear hz
    go_enter Tryd.func86, Tryd.ntmps86
    go_wp2
    go_loopw [4] (fun v W => NumRel s w r1 r2 v W) (fun _ W => s.size - W.iterPos w.heap.size)
    case atStart => exact HS.out
    case round =>
      obtain ⟨pos, n, hp, rfl, rfl, hn0, hn1, hg⟩ := hrel
      have HG := Lib.hid hg
      clear hg
      by_cases hlt : pos < s.size
      · have hb : n ≤ 99 := by
          have h2 : pos ≤ 2 := by omega
          rcases (show pos = 0 ∨ pos = 1 ∨ pos = 2 by omega) with rfl | rfl | rfl <;> simp at hn1 <;> omega
        by_cases hd : 48 ≤ (s[pos]).toNat ∧ (s[pos]).toNat ≤ 57
        · have hnx := run_next_ascii (P := Tryd.prog) w s pos 0 hlt (by omega)
          have c1 : decide (((s[pos]).toNat : Int) < 48) = false := decide_eq_false (by omega)
          have c2 : decide (57 < ((s[pos]).toNat : Int)) = false := decide_eq_false (by omega)
          have hnext : NumRel s w r1 r2 (.int .i64 (10 * n + (((s[pos]).toNat : Int) - 48))) (w.iter s (pos + 1)) := by
            refine ⟨pos + 1, _, by omega, rfl, rfl, by omega, ?_, ?_⟩
            · rw [Int.pow_succ]; omega
            · have := HG.out
              rw [drop_at s pos hlt, addr_number.go, if_pos hd] at this
              exact this
          have HN := Lib.hid hnext
          have hd1 := hd.1
          have hd2 := hd.2
          have hmeas : s.size - (w.iter s (pos + 1)).iterPos w.heap.size < s.size - (w.iter s pos).iterPos w.heap.size := by simp; omega
          have HM := Lib.hid hmeas
          clear hd hnext hmeas
          go_wp2
          exact ⟨HN.out, HM.out⟩
        · obtain ⟨R, k, hnx, hR⟩ : ∃ (R k : Nat), (Instr.next (.pointer (some ⟨w.heap.size, 0, none⟩)) true 0).run Tryd.prog (w.iter s pos) = .ok (.tuple #[.bool true, .int .i64 pos, .int .i32 R]) (w.iter s (pos + k)) ∧ (R < 48 ∨ 57 < R) := by
            by_cases ha : (s[pos]).toNat < 128
            · exact ⟨(s[pos]).toNat, 1, run_next_ascii (P := Tryd.prog) w s pos 0 hlt ha, by omega⟩
            · exact ⟨_, _, run_next_any (P := Tryd.prog) w s pos 0 hlt, .inr (by have := (decode_high s pos hlt (by omega)).1; omega)⟩
          obtain ⟨rfl, rfl⟩ : (0 : Int) = r1 ∧ (5 : Int) = r2 := by
            have := HG.out
            rw [drop_at s pos hlt, addr_number.go, if_neg hd] at this
            simpa using this
          clear hd
          rcases hR with hR | hR
          · have c1 : decide ((R : Int) < 48) = true := decide_eq_true (by omega)
            go_wp2
            go_ret2
            exact ⟨rfl, below_alloc (Below.refl _ _) _⟩
          · have c1 : decide ((R : Int) < 48) = false := decide_eq_false (by omega)
            have c2 : decide (57 < (R : Int)) = true := decide_eq_true (by omega)
            go_wp2
            go_ret2
            exact ⟨rfl, below_alloc (Below.refl _ _) _⟩
      · have hnx := run_next_end (P := Tryd.prog) w s pos 0 hlt
        obtain ⟨rfl, rfl⟩ : n = r1 ∧ (0 : Int) = r2 := by
          have := HG.out
          rw [List.drop_eq_nil_of_le (by rw [data_length]; omega), addr_number.go] at this
          simpa using this
        go_wp2
        go_ret2
        exact ⟨rfl, below_alloc (Below.refl _ _) _⟩
  · have hb1 : decide (1 < s.size) = true := decide_eq_true hz1
    have hb2 : decide (1 < (s.size : Int)) = true := decide_eq_true (by omega)
    have hx0 : ∀ h : 0 < s.size, ((s[0]'h).toNat : Int) = bt s 0 := bt_at s 0
    have hq0 : ((0 : Int) < (s.size : Int)) = True := eq_true (by omega)
    clear hz1
    go_enter Tryd.func86, Tryd.ntmps86
    go_wp2
    go_loopw [4] (fun v W => NumRel s w r1 r2 v W) (fun _ W => s.size - W.iterPos w.heap.size)
    case atStart => exact HS.out
    case round =>
      obtain ⟨pos, n, hp, rfl, rfl, hn0, hn1, hg⟩ := hrel
      have HG := Lib.hid hg
      clear hg
      by_cases hlt : pos < s.size
      · have hb : n ≤ 99 := by
          have h2 : pos ≤ 2 := by omega
          rcases (show pos = 0 ∨ pos = 1 ∨ pos = 2 by omega) with rfl | rfl | rfl <;> simp at hn1 <;> omega
        by_cases hd : 48 ≤ (s[pos]).toNat ∧ (s[pos]).toNat ≤ 57
        · have hnx := run_next_ascii (P := Tryd.prog) w s pos 0 hlt (by omega)
          have c1 : decide (((s[pos]).toNat : Int) < 48) = false := decide_eq_false (by omega)
          have c2 : decide (57 < ((s[pos]).toNat : Int)) = false := decide_eq_false (by omega)
          have hnext : NumRel s w r1 r2 (.int .i64 (10 * n + (((s[pos]).toNat : Int) - 48))) (w.iter s (pos + 1)) := by
            refine ⟨pos + 1, _, by omega, rfl, rfl, by omega, ?_, ?_⟩
            · rw [Int.pow_succ]; omega
            · have := HG.out
              rw [drop_at s pos hlt, addr_number.go, if_pos hd] at this
              exact this
          have HN := Lib.hid hnext
          have hd1 := hd.1
          have hd2 := hd.2
          have hmeas : s.size - (w.iter s (pos + 1)).iterPos w.heap.size < s.size - (w.iter s pos).iterPos w.heap.size := by simp; omega
          have HM := Lib.hid hmeas
          clear hd hnext hmeas
          go_wp2
          exact ⟨HN.out, HM.out⟩
        · obtain ⟨R, k, hnx, hR⟩ : ∃ (R k : Nat), (Instr.next (.pointer (some ⟨w.heap.size, 0, none⟩)) true 0).run Tryd.prog (w.iter s pos) = .ok (.tuple #[.bool true, .int .i64 pos, .int .i32 R]) (w.iter s (pos + k)) ∧ (R < 48 ∨ 57 < R) := by
            by_cases ha : (s[pos]).toNat < 128
            · exact ⟨(s[pos]).toNat, 1, run_next_ascii (P := Tryd.prog) w s pos 0 hlt ha, by omega⟩
            · exact ⟨_, _, run_next_any (P := Tryd.prog) w s pos 0 hlt, .inr (by have := (decode_high s pos hlt (by omega)).1; omega)⟩
          obtain ⟨rfl, rfl⟩ : (0 : Int) = r1 ∧ (5 : Int) = r2 := by
            have := HG.out
            rw [drop_at s pos hlt, addr_number.go, if_neg hd] at this
            simpa using this
          clear hd
          rcases hR with hR | hR
          · have c1 : decide ((R : Int) < 48) = true := decide_eq_true (by omega)
            go_wp2
            go_ret2
            exact ⟨rfl, below_alloc (Below.refl _ _) _⟩
          · have c1 : decide ((R : Int) < 48) = false := decide_eq_false (by omega)
            have c2 : decide (57 < (R : Int)) = true := decide_eq_true (by omega)
            go_wp2
            go_ret2
            exact ⟨rfl, below_alloc (Below.refl _ _) _⟩
      · have hnx := run_next_end (P := Tryd.prog) w s pos 0 hlt
        obtain ⟨rfl, rfl⟩ : n = r1 ∧ (0 : Int) = r2 := by
          have := HG.out
          rw [List.drop_eq_nil_of_le (by rw [data_length]; omega), addr_number.go] at this
          simpa using this
        go_wp2
        go_ret2
        exact ⟨rfl, below_alloc (Below.refl _ _) _⟩
set_option maxHeartbeats 1000000 in
theorem number_nil (w : World) :
    Calls Tryd.prog 86 #[.string ⟨#[]⟩] w fun e w' => e = .returned (.tuple #[.int .i64 0, .int .i64 5]) ∧ Below w.heap.size w w' := by
  go_enter Tryd.func86, Tryd.ntmps86
  go_wp2
  go_ret2
  exact ⟨rfl, by repeat (first | exact Below.refl _ _ | apply below_alloc | apply pw_below_drewN)⟩
set_option maxHeartbeats 1000000 in
theorem number_long (s : ByteArray) (w : World) (h : 3 < s.size) :
    Calls Tryd.prog 86 #[.string s] w fun e w' => e = .returned (.tuple #[.int .i64 0, .int .i64 5]) ∧ Below w.heap.size w w' := by
  have hne := sized_ne s (by omega)
  have hle : decide (3 < s.size) = true := decide_eq_true (by omega)
  have hle2 : decide (3 < (s.size : Int)) = true := decide_eq_true (by omega)
  clear h
  go_enter Tryd.func86, Tryd.ntmps86
  go_wp2
  go_ret2
  exact ⟨rfl, by repeat (first | exact Below.refl _ _ | apply below_alloc | apply pw_below_drewN)⟩
set_option maxHeartbeats 1000000 in
theorem number_nought (s : ByteArray) (w : World) (h : 1 < s.size) (h3 : s.size ≤ 3) (hz : (bt s 0 == 48) = true) :
    Calls Tryd.prog 86 #[.string s] w fun e w' => e = .returned (.tuple #[.int .i64 0, .int .i64 5]) ∧ Below w.heap.size w w' := by
  have hne := sized_ne s (by omega)
  have hle : decide (3 < s.size) = false := decide_eq_false (by omega)
  have hle2 : decide (3 < (s.size : Int)) = false := decide_eq_false (by omega)
  have hb1 : decide (1 < s.size) = true := decide_eq_true h
  have hb2 : decide (1 < (s.size : Int)) = true := decide_eq_true (by omega)
  have hx0 : ∀ h : 0 < s.size, ((s[0]'h).toNat : Int) = bt s 0 := bt_at s 0
  have hq1 : 0 < s.size := by omega
  have hq0 : ((0 : Int) < (s.size : Int)) = True := eq_true (by omega)
  clear h
  go_enter Tryd.func86, Tryd.ntmps86
  go_wp2
  go_ret2
  exact ⟨rfl, by repeat (first | exact Below.refl _ _ | apply below_alloc | apply pw_below_drewN)⟩
theorem addr_number.calls (a0 : ByteArray) (r1 : Int) (r2 : Int) (w : World) (h : addr_number.f a0 = some (r1, r2)) :
    Calls Tryd.prog 86 #[.string a0] w fun e w' => e = .returned (.tuple #[.int .i64 r1, .int .i64 r2]) ∧ Below w.heap.size w w' := by
  unfold addr_number.f at h
  by_cases hb : a0.size = 0 ∨ 3 < a0.size ∨ (1 < a0.size ∧ bt a0 0 = 48)
  · rw [if_pos hb] at h
    obtain ⟨rfl, rfl⟩ := Prod.mk.inj (Option.some.inj h)
    rcases hb with hb | hb | ⟨hb1, hb2⟩
    · obtain rfl : a0 = ⟨#[]⟩ := by
        obtain ⟨⟨l⟩⟩ := a0
        have : l.length = 0 := hb
        rw [List.length_eq_zero_iff.1 this]
      exact number_nil w
    · exact number_long a0 w hb
    · by_cases h3 : 3 < a0.size
      · exact number_long a0 w h3
      · exact number_nought a0 w hb1 (by omega) (by rw [hb2]; rfl)
  · rw [if_neg hb] at h
    refine number_loop a0 w r1 r2 (by omega) (by omega) ?_ h
    by_cases h1 : a0.size = 1
    · exact .inl h1
    · exact .inr ⟨by omega, by rw [beq_eq_false_iff_ne]; intro hc; exact hb (.inr (.inr ⟨by omega, hc⟩))⟩

end Go.Proofs.YthcmjcjgaebciaaDoor.T
