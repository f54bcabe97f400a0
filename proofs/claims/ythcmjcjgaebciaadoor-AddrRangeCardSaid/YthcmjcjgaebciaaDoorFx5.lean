-- Out of the translation, by a program (myprint.py).
import Derived.Test.YthcmjcjgaebciaaDoorFx0
import Derived.Test.YthcmjcjgaebciaaDoorFx3
import Derived.Test.YthcmjcjgaebciaaDoorFx4
namespace Go.Proofs.YthcmjcjgaebciaaDoor.T
open Go.RowKit Go.Proofs.YthcmjcjgaebciaaDoorW.PrintWords Go.Proofs.YthcmjcjgaebciaaDoorW.PrintLast Go.Proofs.YthcmjcjgaebciaaDoorW.PrintMore
attribute [local go_sem] max2_int min2_int max_two min_two max_three min_three max_four min_four   -- for this text's walks alone
set_option linter.unusedVariables false
set_option linter.unusedSimpArgs false

/-! ### addr_Parse: function 25 -/
def addr_Parse.l0 : Nat → Int → Bool → ByteArray → Bool → Int → Option (Int × Int)
  | 0, _, _, _, _, _ => none
  | k + 1, x4, x5, x6, x7, x12 => if x12 < 4 then (if x7 = true then ((strings_Cut.f x6 (⟨#[46]⟩ : ByteArray)).bind fun bt101 => ((addr_number.f bt101.1).bind fun bt104 => (if bt104.2 = 0 then (if x5 = true then (addr_Parse.l0 k (Go.bits .or .u32 ((x4 * 256) % 4294967296) ((Go.bits .and .i64 bt104.1 255) % 4294967296)) true bt101.2.1 bt101.2.2 (wrap64 (x12 + 1))) else (addr_Parse.l0 k (Go.bits .or .u32 ((x4 * 256) % 4294967296) ((Go.bits .and .i64 bt104.1 255) % 4294967296)) (decide (bt104.1 > 255)) bt101.2.1 bt101.2.2 (wrap64 (x12 + 1)))) else (some (0, bt104.2))))) else (some (0, 5))) else (if x7 = true then (some (0, 5)) else (if x5 = true then (some (0, 22)) else (some (x4, 0))))
def addr_Parse.f (k : Nat) (a0 : ByteArray) : Option (Int × Int) := addr_Parse.l0 k 0 false a0 true 0
theorem addr_Parse.mono_l : ∀ k, (∀ y0 y1 y2 y3 y4, LeO (addr_Parse.l0 k y0 y1 y2 y3 y4) (addr_Parse.l0 (k + 1) y0 y1 y2 y3 y4))
  | 0 => fun _ _ _ _ _ r h => by simp [addr_Parse.l0] at h
  | k + 1 => by
    have ih0 := addr_Parse.mono_l k
    · intro y0 y1 y2 y3 y4
      unfold addr_Parse.l0
      repeat' first
      | (with_reducible exact ih0 _ _ _ _ _)
      | (with_reducible exact LeO.refl _)
      | (with_reducible exact LeO.none _)
      | (with_reducible refine LeO.ite ?_ ?_)
      | (with_reducible refine LeO.bind ?_ (fun _ => ?_))
      | exact ih0 _ _ _ _ _
      | exact LeO.none _
      | refine LeO.ite ?_ ?_
      | refine LeO.bind ?_ (fun _ => ?_)
theorem addr_Parse.mono : ∀ a0 k, LeO (addr_Parse.f k a0) (addr_Parse.f (k + 1) a0) := by
  intro a0 k
  have ih0 := addr_Parse.mono_l k
  unfold addr_Parse.f
  repeat' first
      | (with_reducible exact ih0 _ _ _ _ _)
      | (with_reducible exact LeO.refl _)
      | (with_reducible exact LeO.none _)
      | (with_reducible refine LeO.ite ?_ ?_)
      | (with_reducible refine LeO.bind ?_ (fun _ => ?_))
      | exact ih0 _ _ _ _ _
      | exact LeO.none _
      | refine LeO.ite ?_ ?_
      | refine LeO.bind ?_ (fun _ => ?_)
set_option maxHeartbeats 8000000 in
set_option maxRecDepth 100000 in
theorem addr_Parse.calls (k : Nat) (a0 : ByteArray) (r1 : Int) (r2 : Int) (w : World) (h : addr_Parse.f k a0 = some (r1, r2)) :
    Calls Tryd.prog 25 #[.string a0] w fun e w' => e = .returned (.tuple #[.int .u32 r1, .int .i64 r2]) ∧ Below w.heap.size w w' := by
  have HB := Aside0.mk (Below.refl w.heap.size w)
  have H : (addr_Parse.l0 k 0 false a0 true 0) = some (r1, r2) := h
  clear h
  have H' := Aside0.mk H
  clear H
  go_enter Tryd.func25, Tryd.ntmps25
  go_wp2
  go_loopg [4, 5, 6, 7, 12] k (fun kq v4 v5 v6 v7 v12 w' => ∃ (x4_1 : Int) (x5_1 : Bool) (x6_1 : ByteArray) (x7_1 : Bool) (x12_1 : Int), v4 = .int .u32 x4_1 ∧ v5 = .bool x5_1 ∧ v6 = .string x6_1 ∧ v7 = .bool x7_1 ∧ v12 = .int .i64 x12_1 ∧ Aside0 (addr_Parse.l0 kq x4_1 x5_1 x6_1 x7_1 x12_1 = some (r1, r2)) ∧ Aside0 (kq ≤ k) ∧ Aside0 (Below w.heap.size w w'))
  case atStart => exact ⟨(0), (false), (a0), (true), (0), (by first | rfl | (simp; done) | (simp [*]; done) | (congr 1; omega) | (simp; omega)), (by first | rfl | (simp; done) | (simp [*]; done) | (congr 1; omega) | (simp; omega)), (by first | rfl | (simp; done) | (simp [*]; done) | (congr 1; omega) | (simp; omega)), (by first | rfl | (simp; done) | (simp [*]; done) | (congr 1; omega) | (simp; omega)), (by first | rfl | (simp; done) | (simp [*]; done) | (congr 1; omega) | (simp; omega)), H', ⟨Nat.le_refl _⟩, ⟨by repeat (first | (with_reducible first | exact HB.out | apply below_alloc | apply pw_below_drewN | apply below_drew1) | exact HB.out)⟩⟩
  case round =>
    clear H'
    obtain ⟨x4_1, x5_1, x6_1, x7_1, x12_1, rfl, rfl, rfl, rfl, rfl, HA, HK1, HB⟩ := hrel
    cases gk with
    | zero => exact absurd HA.out (by simp [addr_Parse.l0])
    | succ k1 =>
      have H := HA.out
      clear HA
      simp only [addr_Parse.l0] at H
      by_cases c2 : x12_1 < 4
      · rw [if_pos c2] at H
        have c2b0 : decide (x12_1 < 4) = true := decide_eq_true c2
        clear c2
        by_cases c3 : x7_1 = true
        · subst c3
          have H1 : ((strings_Cut.f x6_1 (⟨#[46]⟩ : ByteArray)).bind fun bt101 => ((addr_number.f bt101.1).bind fun bt104 => (if bt104.2 = 0 then (if x5_1 = true then (addr_Parse.l0 k1 (Go.bits .or .u32 ((x4_1 * 256) % 4294967296) ((Go.bits .and .i64 bt104.1 255) % 4294967296)) true bt101.2.1 bt101.2.2 (wrap64 (x12_1 + 1))) else (addr_Parse.l0 k1 (Go.bits .or .u32 ((x4_1 * 256) % 4294967296) ((Go.bits .and .i64 bt104.1 255) % 4294967296)) (decide (bt104.1 > 255)) bt101.2.1 bt101.2.2 (wrap64 (x12_1 + 1)))) else (some (0, bt104.2))))) = some (r1, r2) := by rw [if_pos rfl] at H; exact H
          clear H
          have H := H1
          clear H1
          replace H := Option.bind_eq_some_iff.mp H
          obtain ⟨⟨t101, t102, t103⟩, A40, H⟩ := H
          replace H : ((addr_number.f t101).bind fun bt104 => (if bt104.2 = 0 then (if x5_1 = true then (addr_Parse.l0 k1 (Go.bits .or .u32 ((x4_1 * 256) % 4294967296) ((Go.bits .and .i64 bt104.1 255) % 4294967296)) true t102 t103 (wrap64 (x12_1 + 1))) else (addr_Parse.l0 k1 (Go.bits .or .u32 ((x4_1 * 256) % 4294967296) ((Go.bits .and .i64 bt104.1 255) % 4294967296)) (decide (bt104.1 > 255)) t102 t103 (wrap64 (x12_1 + 1)))) else (some (0, bt104.2)))) = some (r1, r2) := H
          have A4 := Aside0.mk A40
          clear A40
          replace H := Option.bind_eq_some_iff.mp H
          obtain ⟨⟨t104, t105⟩, A50, H⟩ := H
          replace H : (if t105 = 0 then (if x5_1 = true then (addr_Parse.l0 k1 (Go.bits .or .u32 ((x4_1 * 256) % 4294967296) ((Go.bits .and .i64 t104 255) % 4294967296)) true t102 t103 (wrap64 (x12_1 + 1))) else (addr_Parse.l0 k1 (Go.bits .or .u32 ((x4_1 * 256) % 4294967296) ((Go.bits .and .i64 t104 255) % 4294967296)) (decide (t104 > 255)) t102 t103 (wrap64 (x12_1 + 1)))) else (some (0, t105))) = some (r1, r2) := H
          have A5 := Aside0.mk A50
          clear A50
          by_cases c6 : t105 = 0
          · rw [if_pos c6] at H
            have c6b0 : (t105 == 0) = true := beq_iff_eq.mpr c6
            have c6b1 : (t105 != 0) = false := bne_eq_false_iff_eq.mpr c6
            clear c6
            by_cases c7 : x5_1 = true
            · subst c7
              have H1 : (addr_Parse.l0 k1 (Go.bits .or .u32 ((x4_1 * 256) % 4294967296) ((Go.bits .and .i64 t104 255) % 4294967296)) true t102 t103 (wrap64 (x12_1 + 1))) = some (r1, r2) := by rw [if_pos rfl] at H; exact H
              clear H
              have H := H1
              clear H1
              have H' := Aside0.mk H
              clear H
              go_wp2_with (first | ((with_reducible refine gate_callee (f := 85) rfl ?_); refine goesL_ (some 18) rfl rfl Tryd.func85 (by kernel_rfl) rfl #[.string x6_1, .string (⟨#[46]⟩ : ByteArray)] rfl (by (try simp only [List.map_toArray, List.map_cons, List.map_nil]); first | done | rfl | (simp only [List.length_drop, List.length_take]; rfl)) ?_; (with_reducible refine (strings_Cut.calls x6_1 (⟨#[46]⟩ : ByteArray) t101 t102 t103 _ A4.out).mono ?_); rintro e w' ⟨rfl, ⟨nd, rfl⟩⟩; refine ⟨_, rfl, ?_⟩) | ((with_reducible refine gate_callee (f := 86) rfl ?_); refine goesL_ (some 24) rfl rfl Tryd.func86 (by kernel_rfl) rfl #[.string t101] rfl (by (try simp only [List.map_toArray, List.map_cons, List.map_nil]); first | done | rfl | (simp only [List.length_drop, List.length_take]; rfl)) ?_; (with_reducible refine (addr_number.calls t101 t104 t105 _ A5.out).mono ?_); rintro e w8 ⟨rfl, hb⟩; refine ⟨_, rfl, ?_⟩; have n0_ := Aside0.mk (below_step (by repeat (first | (with_reducible first | exact HB.out | apply below_alloc | apply pw_below_drewN | apply below_drew1) | exact HB.out)) hb); clear HB; have HB := n0_; clear n0_; (try clear hb); (try clear hb2); (try clear hk); (try clear hi)))
              go_roundg k1
              case measure => have := HK1.out; omega
              case rel => exact ⟨(Go.bits .or .u32 ((x4_1 * 256) % 4294967296) ((Go.bits .and .i64 t104 255) % 4294967296)), (true), (t102), (t103), (wrap64 (x12_1 + 1)), (by first | rfl | (simp; done) | (simp [*]; done) | (congr 1; omega) | (simp; omega)), (by first | rfl | (simp; done) | (simp [*]; done) | (congr 1; omega) | (simp; omega)), (by first | rfl | (simp; done) | (simp [*]; done) | (congr 1; omega) | (simp; omega)), (by first | rfl | (simp; done) | (simp [*]; done) | (congr 1; omega) | (simp; omega)), (by first | rfl | (simp; done) | (simp [*]; done) | (congr 1; omega) | (simp; omega)), H', ⟨by have := HK1.out; omega⟩, ⟨by repeat (first | (with_reducible first | exact HB.out | apply below_alloc | apply pw_below_drewN | apply below_drew1) | exact HB.out)⟩⟩
            · replace c7 := Bool.eq_false_iff.mpr c7
              subst c7
              have H1 : (addr_Parse.l0 k1 (Go.bits .or .u32 ((x4_1 * 256) % 4294967296) ((Go.bits .and .i64 t104 255) % 4294967296)) (decide (t104 > 255)) t102 t103 (wrap64 (x12_1 + 1))) = some (r1, r2) := by rw [if_neg (show ¬ (false = true) by decide)] at H; exact H
              clear H
              have H := H1
              clear H1
              have H' := Aside0.mk H
              clear H
              go_wp2_with (first | ((with_reducible refine gate_callee (f := 85) rfl ?_); refine goesL_ (some 18) rfl rfl Tryd.func85 (by kernel_rfl) rfl #[.string x6_1, .string (⟨#[46]⟩ : ByteArray)] rfl (by (try simp only [List.map_toArray, List.map_cons, List.map_nil]); first | done | rfl | (simp only [List.length_drop, List.length_take]; rfl)) ?_; (with_reducible refine (strings_Cut.calls x6_1 (⟨#[46]⟩ : ByteArray) t101 t102 t103 _ A4.out).mono ?_); rintro e w' ⟨rfl, ⟨nd, rfl⟩⟩; refine ⟨_, rfl, ?_⟩) | ((with_reducible refine gate_callee (f := 86) rfl ?_); refine goesL_ (some 24) rfl rfl Tryd.func86 (by kernel_rfl) rfl #[.string t101] rfl (by (try simp only [List.map_toArray, List.map_cons, List.map_nil]); first | done | rfl | (simp only [List.length_drop, List.length_take]; rfl)) ?_; (with_reducible refine (addr_number.calls t101 t104 t105 _ A5.out).mono ?_); rintro e w9 ⟨rfl, hb⟩; refine ⟨_, rfl, ?_⟩; have n0_ := Aside0.mk (below_step (by repeat (first | (with_reducible first | exact HB.out | apply below_alloc | apply pw_below_drewN | apply below_drew1) | exact HB.out)) hb); clear HB; have HB := n0_; clear n0_; (try clear hb); (try clear hb2); (try clear hk); (try clear hi)))
              go_roundg k1
              case measure => have := HK1.out; omega
              case rel => exact ⟨(Go.bits .or .u32 ((x4_1 * 256) % 4294967296) ((Go.bits .and .i64 t104 255) % 4294967296)), (decide (t104 > 255)), (t102), (t103), (wrap64 (x12_1 + 1)), (by first | rfl | (simp; done) | (simp [*]; done) | (congr 1; omega) | (simp; omega)), (by first | rfl | (simp; done) | (simp [*]; done) | (congr 1; omega) | (simp; omega)), (by first | rfl | (simp; done) | (simp [*]; done) | (congr 1; omega) | (simp; omega)), (by first | rfl | (simp; done) | (simp [*]; done) | (congr 1; omega) | (simp; omega)), (by first | rfl | (simp; done) | (simp [*]; done) | (congr 1; omega) | (simp; omega)), H', ⟨by have := HK1.out; omega⟩, ⟨by repeat (first | (with_reducible first | exact HB.out | apply below_alloc | apply pw_below_drewN | apply below_drew1) | exact HB.out)⟩⟩
          · rw [if_neg c6] at H
            have c6b0 : (t105 == 0) = false := beq_eq_false_iff_ne.mpr c6
            have c6b1 : (t105 != 0) = true := bne_iff_ne.mpr c6
            simp only [Option.some.injEq, Prod.mk.injEq] at H
            obtain ⟨rfl, rfl⟩ := H
            go_wp2_with (first | ((with_reducible refine gate_callee (f := 85) rfl ?_); refine goesL_ (some 18) rfl rfl Tryd.func85 (by kernel_rfl) rfl #[.string x6_1, .string (⟨#[46]⟩ : ByteArray)] rfl (by (try simp only [List.map_toArray, List.map_cons, List.map_nil]); first | done | rfl | (simp only [List.length_drop, List.length_take]; rfl)) ?_; (with_reducible refine (strings_Cut.calls x6_1 (⟨#[46]⟩ : ByteArray) t101 t102 t103 _ A4.out).mono ?_); rintro e w' ⟨rfl, ⟨nd, rfl⟩⟩; refine ⟨_, rfl, ?_⟩) | ((with_reducible refine gate_callee (f := 86) rfl ?_); refine goesL_ (some 24) rfl rfl Tryd.func86 (by kernel_rfl) rfl #[.string t101] rfl (by (try simp only [List.map_toArray, List.map_cons, List.map_nil]); first | done | rfl | (simp only [List.length_drop, List.length_take]; rfl)) ?_; (with_reducible refine (addr_number.calls t101 t104 t105 _ A5.out).mono ?_); rintro e w10 ⟨rfl, hb⟩; refine ⟨_, rfl, ?_⟩; have n0_ := Aside0.mk (below_step (by repeat (first | (with_reducible first | exact HB.out | apply below_alloc | apply pw_below_drewN | apply below_drew1) | exact HB.out)) hb); clear HB; have HB := n0_; clear n0_; (try clear hb); (try clear hb2); (try clear hk); (try clear hi)))
            go_ret2
            exact ⟨by first | rfl | (simp only [u32_w, u64_u32, i64_u32]; rfl) | (simp [errW_none, errW_some] <;> rfl) | (simp [*, errW_none, errW_some] <;> rfl), by repeat (first | (with_reducible first | exact HB.out | apply below_alloc | apply pw_below_drewN | apply below_drew1) | exact HB.out)⟩
        · replace c3 := Bool.eq_false_iff.mpr c3
          subst c3
          have H1 : (some (0, 5)) = some (r1, r2) := by rw [if_neg (show ¬ (false = true) by decide)] at H; exact H
          clear H
          have H := H1
          clear H1
          simp only [Option.some.injEq, Prod.mk.injEq] at H
          obtain ⟨rfl, rfl⟩ := H
          go_wp2
          go_ret2
          exact ⟨by first | rfl | (simp only [u32_w, u64_u32, i64_u32]; rfl) | (simp [errW_none, errW_some] <;> rfl) | (simp [*, errW_none, errW_some] <;> rfl), by repeat (first | (with_reducible first | exact HB.out | apply below_alloc | apply pw_below_drewN | apply below_drew1) | exact HB.out)⟩
      · rw [if_neg c2] at H
        have c2b0 : decide (x12_1 < 4) = false := decide_eq_false c2
        clear c2
        by_cases c11 : x7_1 = true
        · subst c11
          have H1 : (some (0, 5)) = some (r1, r2) := by rw [if_pos rfl] at H; exact H
          clear H
          have H := H1
          clear H1
          simp only [Option.some.injEq, Prod.mk.injEq] at H
          obtain ⟨rfl, rfl⟩ := H
          go_wp2
          go_ret2
          exact ⟨by first | rfl | (simp only [u32_w, u64_u32, i64_u32]; rfl) | (simp [errW_none, errW_some] <;> rfl) | (simp [*, errW_none, errW_some] <;> rfl), by repeat (first | (with_reducible first | exact HB.out | apply below_alloc | apply pw_below_drewN | apply below_drew1) | exact HB.out)⟩
        · replace c11 := Bool.eq_false_iff.mpr c11
          subst c11
          have H1 : (if x5_1 = true then (some (0, 22)) else (some (x4_1, 0))) = some (r1, r2) := by rw [if_neg (show ¬ (false = true) by decide)] at H; exact H
          clear H
          have H := H1
          clear H1
          by_cases c12 : x5_1 = true
          · subst c12
            have H1 : (some (0, 22)) = some (r1, r2) := by rw [if_pos rfl] at H; exact H
            clear H
            have H := H1
            clear H1
            simp only [Option.some.injEq, Prod.mk.injEq] at H
            obtain ⟨rfl, rfl⟩ := H
            go_wp2
            go_ret2
            exact ⟨by first | rfl | (simp only [u32_w, u64_u32, i64_u32]; rfl) | (simp [errW_none, errW_some] <;> rfl) | (simp [*, errW_none, errW_some] <;> rfl), by repeat (first | (with_reducible first | exact HB.out | apply below_alloc | apply pw_below_drewN | apply below_drew1) | exact HB.out)⟩
          · replace c12 := Bool.eq_false_iff.mpr c12
            subst c12
            have H1 : (some (x4_1, 0)) = some (r1, r2) := by rw [if_neg (show ¬ (false = true) by decide)] at H; exact H
            clear H
            have H := H1
            clear H1
            simp only [Option.some.injEq, Prod.mk.injEq] at H
            obtain ⟨rfl, rfl⟩ := H
            go_wp2
            go_ret2
            exact ⟨by first | rfl | (simp only [u32_w, u64_u32, i64_u32]; rfl) | (simp [errW_none, errW_some] <;> rfl) | (simp [*, errW_none, errW_some] <;> rfl), by repeat (first | (with_reducible first | exact HB.out | apply below_alloc | apply pw_below_drewN | apply below_drew1) | exact HB.out)⟩

end Go.Proofs.YthcmjcjgaebciaaDoor.T
