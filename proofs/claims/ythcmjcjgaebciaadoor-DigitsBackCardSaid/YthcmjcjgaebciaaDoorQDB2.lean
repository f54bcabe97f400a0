/- Texts of this claim, merged. -/
import Derived.Test.YthcmjcjgaebciaaDoorQDB1
import Derived.Laws.BitsAllLaws
-- Out of the translation, by a program (myprint.py).
namespace Go.Proofs.YthcmjcjgaebciaaDoor.T
open Go.RowKit Go.Proofs.YthcmjcjgaebciaaDoorW.PrintWords Go.Proofs.YthcmjcjgaebciaaDoorW.PrintLast Go.Proofs.YthcmjcjgaebciaaDoorW.PrintMore
attribute [local go_sem] max2_int min2_int max_two min_two max_three min_three max_four min_four   -- for this text's walks alone
set_option linter.unusedVariables false
set_option linter.unusedSimpArgs false

/-! ### triviumref02_Clean: function 20 -/
mutual
def triviumref02_Clean.j1 : Nat → List Int → Option (List Int)
  | 0, _ => none
  | k + 1, x5 => triviumref02_Clean.l1 k x5
def triviumref02_Clean.l1 : Nat → List Int → Option (List Int)
  | 0, _ => none
  | k + 1, x5 => if (x5.length : Int) > 0 then (if 0 ≤ (wrap64 ((x5.length : Int) - 1)) then (if (wrap64 ((x5.length : Int) - 1)) < (x5.length : Int) then (if (rd x5 (wrap64 ((x5.length : Int) - 1))) = 0 then (if (wrap64 ((x5.length : Int) - 1)) ≤ (x5.length : Int) then (triviumref02_Clean.l1 k (x5.take ((wrap64 ((x5.length : Int) - 1)) : Int).toNat)) else (none)) else (some x5)) else (none)) else (none)) else (some x5)
def triviumref02_Clean.l0 : Nat → List Int → Int → List Int → Int → Option (List Int)
  | 0, _, _, _, _ => none
  | k + 1, x0, x1, x5, x6 => if x6 < (x0.length : Int) then (if x6 < x1 then (if 0 ≤ x6 then (if x5.length < 17592186044416 then (triviumref02_Clean.l0 k x0 x1 (x5 ++ [Int.tmod (rd x0 x6) 4294967296]) (wrap64 (x6 + 1))) else (none)) else (none)) else (triviumref02_Clean.j1 k x5)) else (triviumref02_Clean.j1 k x5)
end
def triviumref02_Clean.f (k : Nat) (l0 : List Int) (a1 : Int) : Option (List Int) := triviumref02_Clean.l0 k l0 a1 (([] : List Int)) 0
theorem triviumref02_Clean.mono_l : ∀ k, (∀ y0, LeO (triviumref02_Clean.j1 k y0) (triviumref02_Clean.j1 (k + 1) y0)) ∧ (∀ y0, LeO (triviumref02_Clean.l1 k y0) (triviumref02_Clean.l1 (k + 1) y0)) ∧ (∀ y0 y1 y2 y3, LeO (triviumref02_Clean.l0 k y0 y1 y2 y3) (triviumref02_Clean.l0 (k + 1) y0 y1 y2 y3))
  | 0 => ⟨fun _ r h => by simp [triviumref02_Clean.j1] at h, fun _ r h => by simp [triviumref02_Clean.l1] at h, fun _ _ _ _ r h => by simp [triviumref02_Clean.l0] at h⟩
  | k + 1 => by
    obtain ⟨ih0, ih1, ih2⟩ := triviumref02_Clean.mono_l k
    refine ⟨?_, ?_, ?_⟩
    · intro y0
      unfold triviumref02_Clean.j1
      repeat' first
      | (with_reducible exact ih0 _)
      | (with_reducible exact ih1 _)
      | (with_reducible exact ih2 _ _ _ _)
      | (with_reducible exact LeO.refl _)
      | (with_reducible exact LeO.none _)
      | (with_reducible refine LeO.ite ?_ ?_)
      | (with_reducible refine LeO.bind ?_ (fun _ => ?_))
      | exact ih0 _
      | exact ih1 _
      | exact ih2 _ _ _ _
      | exact LeO.none _
      | refine LeO.ite ?_ ?_
      | refine LeO.bind ?_ (fun _ => ?_)
    · intro y0
      unfold triviumref02_Clean.l1
      repeat' first
      | (with_reducible exact ih0 _)
      | (with_reducible exact ih1 _)
      | (with_reducible exact ih2 _ _ _ _)
      | (with_reducible exact LeO.refl _)
      | (with_reducible exact LeO.none _)
      | (with_reducible refine LeO.ite ?_ ?_)
      | (with_reducible refine LeO.bind ?_ (fun _ => ?_))
      | exact ih0 _
      | exact ih1 _
      | exact ih2 _ _ _ _
      | exact LeO.none _
      | refine LeO.ite ?_ ?_
      | refine LeO.bind ?_ (fun _ => ?_)
    · intro y0 y1 y2 y3
      unfold triviumref02_Clean.l0
      repeat' first
      | (with_reducible exact ih0 _)
      | (with_reducible exact ih1 _)
      | (with_reducible exact ih2 _ _ _ _)
      | (with_reducible exact LeO.refl _)
      | (with_reducible exact LeO.none _)
      | (with_reducible refine LeO.ite ?_ ?_)
      | (with_reducible refine LeO.bind ?_ (fun _ => ?_))
      | exact ih0 _
      | exact ih1 _
      | exact ih2 _ _ _ _
      | exact LeO.none _
      | refine LeO.ite ?_ ?_
      | refine LeO.bind ?_ (fun _ => ?_)
theorem triviumref02_Clean.mono : ∀ a0 a1 k, LeO (triviumref02_Clean.f k a0 a1) (triviumref02_Clean.f (k + 1) a0 a1) := by
  intro a0 a1 k
  obtain ⟨ih0, ih1, ih2⟩ := triviumref02_Clean.mono_l k
  unfold triviumref02_Clean.f
  repeat' first
      | (with_reducible exact ih0 _)
      | (with_reducible exact ih1 _)
      | (with_reducible exact ih2 _ _ _ _)
      | (with_reducible exact LeO.refl _)
      | (with_reducible exact LeO.none _)
      | (with_reducible refine LeO.ite ?_ ?_)
      | (with_reducible refine LeO.bind ?_ (fun _ => ?_))
      | exact ih0 _
      | exact ih1 _
      | exact ih2 _ _ _ _
      | exact LeO.none _
      | refine LeO.ite ?_ ?_
      | refine LeO.bind ?_ (fun _ => ?_)
set_option maxHeartbeats 8000000 in
set_option maxRecDepth 100000 in
theorem triviumref02_Clean.calls (k : Nat) (A0 : Option Addr) (c0 : Nat) (l0 : List Int) (a1 : Int) (r : List Int) (w : World) (hr0 : Kd.C (Kd.int .u64) w A0 l0.length l0) (hc0 : l0.length ≤ c0) (h : triviumref02_Clean.f k l0 a1 = some r) :
    Calls Tryd.prog 20 #[.slice A0 l0.length c0, .int .i64 a1] w fun e w' => ∃ v0_ : Value, e = .returned (v0_) ∧ Kd.R (Kd.int .u64) 96 w' w.heap.size (fun _ => True) v0_ r ∧ Below w.heap.size w w' := by
  have HR0 := Aside0.mk hr0
  have HC0 := Aside0.mk hc0
  clear hr0 hc0
  have HB := Aside0.mk (Below.refl w.heap.size w)
  have H : (triviumref02_Clean.l0 k l0 a1 (([] : List Int)) 0) = some r := h
  clear h
  obtain ⟨y191, hy191⟩ : ∃ y_ : List Int, y_ = (([] : List Int)) := ⟨_, rfl⟩
  replace H : (triviumref02_Clean.l0 k l0 a1 y191 0) = some r := by first | (rw [hy191]; with_reducible exact H) | (have H2_ := (Option.bind_some _ _).symm.trans H; rw [hy191]; with_reducible exact H2_) | (have H2_ := (Option.bind_some _ _).symm.trans H; with_reducible exact H2_) | with_reducible exact H | (rw [hy191]; exact H) | exact H
  have Ny191 := Aside0.mk hy191
  clear hy191
  have HC3 := Aside0.mk H
  clear H
  go_enter Tryd.func20, Tryd.ntmps20
  go_upto_block 0 with (first | ((with_reducible refine gate_dst (N := 7) rfl ?_); (try (refine gate_guard (by rfl) ?_; dsimp only)); refine Kd.R_lit (Kd.int .u64) _ 96 ?hg (N := 7) ?hd (xs := ([] : List Int)) (inner := []) (ok := fun _ => True) (okp := fun _ => True) ?hr ?hp (fun _ hk => hk) trivial (Below.refl _ _) (Nat.le_refl _) (by simp) ?_; (case hd => rfl); (case hg => rfl); (case hr => first | (go_simp; done) | (go_simp; rfl)); (case hp => exact (Reps.none _ _)); intro v192 w4 ho5 hb hg_ hnew_; clear hg_ hnew_; (first | rw [← Ny191.out] at ho5 | (simp only [Int.reduceToNat] at ho5; rw [← Ny191.out] at ho5)); have n0_ := Aside0.mk (Kd.R_lower ho5 (below_size (by repeat (first | (with_reducible first | exact HB.out | apply below_alloc | apply pw_below_drewN | apply below_drew1) | exact HB.out)))); have n1_ := Aside0.mk (below_step (by repeat (first | (with_reducible first | exact HB.out | apply below_alloc | apply pw_below_drewN | apply below_drew1) | exact HB.out)) hb); clear HB; have HO193 := n0_; have HB := n1_; clear n0_ n1_; clear hb ho5))
  (try simp only [Act.put, List.setIfInBounds_toArray, List.set_cons_zero, List.set_cons_succ])
  go_cut [5] (fun v5 wc => ∃ (kq : Nat) (x5_2 : List Int), Aside0 (triviumref02_Clean.j1 kq x5_2 = some r) ∧ Aside0 (kq ≤ k) ∧ Aside0 (Kd.R (Kd.int .u64) 96 wc w.heap.size (fun _ => True) v5 x5_2) ∧ Aside0 (Below w.heap.size w wc))
  case first =>
    have H := HC3.out
    clear HC3
    have H' := Aside0.mk H
    clear H
    go_wp2
    go_loopg [5, 6] k (fun kq v5 v6 w' => ∃ (x5_1 : List Int) (x6_1 : Int), v6 = .int .i64 x6_1 ∧ Aside0 (triviumref02_Clean.l0 kq l0 a1 x5_1 x6_1 = some r) ∧ Aside0 (kq ≤ k) ∧ Aside0 (Kd.R (Kd.int .u64) 96 w' w.heap.size (fun _ => True) v5 x5_1) ∧ Aside0 (Below w.heap.size w w'))
    case atStart => exact ⟨(y191), (0), (by first | rfl | (simp; done) | (simp [*]; done) | (congr 1; omega) | (simp; omega)), H', ⟨Nat.le_refl _⟩, ⟨by (with_reducible repeat (first | apply Kd.R_alloc | apply Kd.R_drewN | apply Kd.R_drew)); exact HO193.out⟩, ⟨by repeat (first | (with_reducible first | exact HB.out | apply below_alloc | apply pw_below_drewN | apply below_drew1) | exact HB.out)⟩⟩
    case round =>
      clear H'
      try clear c2
      try clear p2
      obtain ⟨x5_1, x6_1, rfl, HA, HK1, HO_5, HB⟩ := hrel
      cases gk with
      | zero => exact absurd HA.out (by simp [triviumref02_Clean.l0])
      | succ k1 =>
        have H := HA.out
        clear HA
        simp only [triviumref02_Clean.l0] at H
        by_cases c6 : x6_1 < (l0.length : Int)
        · rw [if_pos c6] at H
          have c6b0 : decide (x6_1 < (l0.length : Int)) = true := decide_eq_true c6
          clear c6
          (first | rw [c6b0] | (simp only [i64_w, i32_w]; rw [c6b0]) | skip)
          by_cases c7 : x6_1 < a1
          · rw [if_pos c7] at H
            have c7b0 : decide (x6_1 < a1) = true := decide_eq_true c7
            clear c7
            by_cases c8 : 0 ≤ x6_1
            · rw [if_pos c8] at H
              have c8b0 : decide (0 ≤ x6_1) = true := decide_eq_true c8
              clear c8
              by_cases c9 : x5_1.length < 17592186044416
              · rw [if_pos c9] at H
                have LMc9 := Aside0.mk c9
                clear c9
                obtain ⟨y195, hy195⟩ : ∃ y_ : List Int, y_ = (x5_1 ++ [Int.tmod (rd l0 x6_1) 4294967296]) := ⟨_, rfl⟩
                replace H : (triviumref02_Clean.l0 k1 l0 a1 y195 (wrap64 (x6_1 + 1))) = some r := by first | (rw [hy195]; with_reducible exact H) | (have H2_ := (Option.bind_some _ _).symm.trans H; rw [hy195]; with_reducible exact H2_) | (have H2_ := (Option.bind_some _ _).symm.trans H; with_reducible exact H2_) | with_reducible exact H | (rw [hy195]; exact H) | exact H
                have Ny195 := Aside0.mk hy195
                clear hy195
                have H' := Aside0.mk H
                clear H
                have p194 : 0 ≤ (x6_1 : Int) := of_decide_eq_true (by first | (with_reducible assumption) | assumption)
                have q194 : x6_1 < (l0.length : Int) := of_decide_eq_true (by first | (with_reducible assumption) | assumption)
                obtain ⟨ad194, e194, hx194_0⟩ := Kd.at_int HR0.out x6_1 p194 q194
                cases e194
                replace hx194_0 := (HB.out.cell (World.block_lt_of_cell? w _ hx194_0)).trans hx194_0
                replace p194 := eq_true p194
                replace q194 := eq_true q194
                go_wp2_with (first | ((with_reducible refine gate_builtin (b := .append) (xs := #[.tmp 19, .tmp 25]) rfl ?_); (try (refine gate_guard (by rfl) ?_; dsimp only)); at_builtin; refine Kd.R_append (Kd.int .u64) (w0 := w) w.heap.size rfl (.tmp 19) (.tmp 25) 23 96 (.int .u64 0) 8 rfl Tryd.underlying23 info96 rfl (by decide) (by omega) u5 x5_1 (Int.tmod (rd l0 x6_1) 4294967296) [.int .u64 (Int.tmod (rd l0 x6_1) 4294967296)] (fun _ => True) (fun _ => False) rfl rfl ?aP (fun _ hk => hk.elim) ?aF ?aO ?aB ?aS ?aL ?_; (case aP => exact rfl); (case aB => exact (by repeat (first | (with_reducible first | exact HB.out | apply below_alloc | apply pw_below_drewN | apply below_drew1) | exact HB.out))); (case aF => exact (fun _ _ => trivial)); (case aO => exact (by (with_reducible repeat (first | apply Kd.R_alloc | apply Kd.R_drewN | apply Kd.R_drew)); exact HO_5.out)); (case aS => exact (below_size (by repeat (first | (with_reducible first | exact HB.out | apply below_alloc | apply pw_below_drewN | apply below_drew1) | exact HB.out)))); (case aL => have := LMc9.out; omega); intro v196 w10 ho hb hg hat; rw [← Ny195.out] at ho; have n0_ := Aside0.mk (hb); have n1_ := Aside0.mk (ho); clear HB; clear HO_5; have HB := n0_; have HO197 := n1_; clear n0_ n1_; clear ho hb hg hat))
                go_roundg k1
                case measure => have := HK1.out; omega
                case rel => exact ⟨(y195), (wrap64 (x6_1 + 1)), (by first | rfl | (simp; done) | (simp [*]; done) | (congr 1; omega) | (simp; omega)), H', ⟨by have := HK1.out; omega⟩, ⟨by (with_reducible repeat (first | apply Kd.R_alloc | apply Kd.R_drewN | apply Kd.R_drew)); exact HO197.out⟩, ⟨by repeat (first | (with_reducible first | exact HB.out | apply below_alloc | apply pw_below_drewN | apply below_drew1) | exact HB.out)⟩⟩
              · rw [if_neg c9] at H
                exact absurd H (by simp)
            · rw [if_neg c8] at H
              exact absurd H (by simp)
          · rw [if_neg c7] at H
            have c7b0 : decide (x6_1 < a1) = false := decide_eq_false c7
            clear c7
            have H' := Aside0.mk H
            clear H
            go_wp2
            go_meet
            case rel => exact ⟨_, (x5_1), H', ⟨by have := HK1.out; first | omega | exact Nat.le_refl _⟩, ⟨by (with_reducible repeat (first | apply Kd.R_alloc | apply Kd.R_drewN | apply Kd.R_drew)); exact HO_5.out⟩, ⟨by repeat (first | (with_reducible first | exact HB.out | apply below_alloc | apply pw_below_drewN | apply below_drew1) | exact HB.out)⟩⟩
        · rw [if_neg c6] at H
          have c6b0 : decide (x6_1 < (l0.length : Int)) = false := decide_eq_false c6
          clear c6
          (first | rw [c6b0] | (simp only [i64_w, i32_w]; rw [c6b0]) | skip)
          have H' := Aside0.mk H
          clear H
          go_wp2
          go_meet
          case rel => exact ⟨_, (x5_1), H', ⟨by have := HK1.out; first | omega | exact Nat.le_refl _⟩, ⟨by (with_reducible repeat (first | apply Kd.R_alloc | apply Kd.R_drewN | apply Kd.R_drew)); exact HO_5.out⟩, ⟨by repeat (first | (with_reducible first | exact HB.out | apply below_alloc | apply pw_below_drewN | apply below_drew1) | exact HB.out)⟩⟩
  case rest =>
    clear HC3
    try clear p1
    try clear q1
    try clear hx1
    try clear c2
    try clear p2
    try clear c6
    try clear c6b0
    try clear p6
    try clear c7
    try clear c7b0
    try clear c8
    try clear c8b0
    try clear c9
    try clear hx194_0
    try clear p194
    try clear p2
    try clear q194
    obtain ⟨kq, x5_2, HA, HJ2, HO_5, HB⟩ := hcut
    cases kq with
    | zero => exact absurd HA.out (by simp [triviumref02_Clean.j1])
    | succ kj2 =>
      have H := HA.out
      clear HA
      simp only [triviumref02_Clean.j1] at H
      have H' := Aside0.mk H
      clear H
      go_wp2
      go_loopg [5] kj2 (fun kq v5 w' => ∃ (x5_2 : List Int), Aside0 (triviumref02_Clean.l1 kq x5_2 = some r) ∧ Aside0 (kq ≤ kj2) ∧ Aside0 (Kd.R (Kd.int .u64) 96 w' w.heap.size (fun _ => True) v5 x5_2) ∧ Aside0 (Below w.heap.size w w'))
      case atStart => exact ⟨(x5_2), H', ⟨Nat.le_refl _⟩, ⟨by (with_reducible repeat (first | apply Kd.R_alloc | apply Kd.R_drewN | apply Kd.R_drew)); exact HO_5.out⟩, ⟨by repeat (first | (with_reducible first | exact HB.out | apply below_alloc | apply pw_below_drewN | apply below_drew1) | exact HB.out)⟩⟩
      case round =>
        clear H'
        try clear p1
        try clear q1
        try clear hx1
        try clear c2
        try clear p2
        try clear c6
        try clear c6b0
        try clear p6
        try clear c7
        try clear c7b0
        try clear c8
        try clear c8b0
        try clear c9
        try clear hx194_0
        try clear p1
        try clear p194
        try clear p2
        try clear p6
        try clear q1
        try clear q194
        obtain ⟨x5_2, HA, HK2, HO_5, HB⟩ := hrel
        cases gk with
        | zero => exact absurd HA.out (by simp [triviumref02_Clean.l1])
        | succ k2 =>
          have H := HA.out
          clear HA
          simp only [triviumref02_Clean.l1] at H
          by_cases c11 : (x5_2.length : Int) > 0
          · rw [if_pos c11] at H
            have c11b0 : decide (0 < (x5_2.length : Int)) = true := decide_eq_true c11
            have c11b1 : decide (0 < x5_2.length) = true := decide_eq_true (by omega)
            clear c11
            obtain ⟨ji12, hji12⟩ : ∃ j_ : Int, (wrap64 ((x5_2.length : Int) - 1)) = j_ := ⟨_, rfl⟩
            replace H : (if 0 ≤ (ji12) then (if (ji12) < (x5_2.length : Int) then (if (rd x5_2 (ji12)) = 0 then (if (ji12) ≤ (x5_2.length : Int) then (triviumref02_Clean.l1 k2 (x5_2.take ((ji12) : Int).toNat)) else (none)) else (some x5_2)) else (none)) else (none)) = some r := by first | (rw [hji12] at H; exact H) | (simp only [hji12] at H ⊢; exact H)
            have hji12w : (IntKind.i64.wrap ((x5_2.length : Int) - 1)) = ji12 := (i64_w _).trans hji12
            by_cases c13 : 0 ≤ (ji12)
            · rw [if_pos c13] at H
              have c13b0 : decide (0 ≤ (ji12)) = true := decide_eq_true c13
              clear c13
              by_cases c14 : (ji12) < (x5_2.length : Int)
              · rw [if_pos c14] at H
                have c14b0 : decide ((ji12) < (x5_2.length : Int)) = true := decide_eq_true c14
                clear c14
                by_cases c15 : (rd x5_2 (ji12)) = 0
                · rw [if_pos c15] at H
                  have c15b0 : ((rd x5_2 (ji12)) == 0) = true := beq_iff_eq.mpr c15
                  have c15b1 : ((rd x5_2 (ji12)) != 0) = false := bne_eq_false_iff_eq.mpr c15
                  clear c15
                  by_cases c16 : (ji12) ≤ (x5_2.length : Int)
                  · rw [if_pos c16] at H
                    have c16b0 := eq_true c16
                    have c16b1 : decide ((ji12) ≤ (x5_2.length : Int)) = true := decide_eq_true c16
                    clear c16
                    obtain ⟨y199, hy199⟩ : ∃ y_ : List Int, y_ = (x5_2.take ((ji12) : Int).toNat) := ⟨_, rfl⟩
                    replace H : (triviumref02_Clean.l1 k2 y199) = some r := by first | (rw [hy199]; with_reducible exact H) | (have H2_ := (Option.bind_some _ _).symm.trans H; rw [hy199]; with_reducible exact H2_) | (have H2_ := (Option.bind_some _ _).symm.trans H; with_reducible exact H2_) | with_reducible exact H | (rw [hy199]; exact H) | exact H
                    have Ny199 := Aside0.mk hy199
                    clear hy199
                    have H' := Aside0.mk H
                    clear H
                    obtain ⟨Ao17, co17, eo17⟩ := Kd.R_slice HO_5.out
                    subst eo17
                    have p198 : 0 ≤ ((ji12) : Int) := of_decide_eq_true (by first | (with_reducible assumption) | assumption)
                    have q198 : (ji12) < (x5_2.length : Int) := of_decide_eq_true (by first | (with_reducible assumption) | assumption)
                    obtain ⟨ad198, e198, hx198_0⟩ := Kd.at_int (Kd.R_reads' HO_5.out).2.2 (ji12) p198 q198
                    cases e198
                    replace p198 := eq_true p198
                    replace q198 := eq_true q198
                    have q18 : ((ji12) : Int) ≤ ((x5_2.length : Int) : Int) := of_decide_eq_true (by first | (with_reducible assumption) | assumption)
                    obtain ⟨i018, hi018, _, hsz18, _⟩ := info_parts info96
                    have hcut18 := cut_to (P := Tryd.prog) 23 96 .i64 Tryd.underlying23 hi018 (some ad198) x5_2.length co17 (ji12) (of_decide_eq_true (by first | (with_reducible assumption) | assumption)) q18 (Kd.R_reads' HO_5.out).2.1
                    have hr18 := Kd.R_take (m := ((ji12) : Int).toNat) HO_5.out (by omega)
                    have hy18 : y199.length = ((ji12) : Int).toNat := (by rw [Ny199.out, List.length_take]; omega)
                    rw [← Ny199.out] at hr18
                    rw [← hy18] at hr18 hcut18
                    clear hy18 hi018 hsz18 HO_5
                    have HO201 := Aside0.mk hr18
                    clear hr18
                    replace q18 := eq_true q18
                    go_wp2
                    go_roundg k2
                    case measure => have := HJ2.out; have := HK2.out; omega
                    case rel => exact ⟨(y199), H', ⟨by have := HJ2.out; have := HK2.out; omega⟩, ⟨by (with_reducible repeat (first | apply Kd.R_alloc | apply Kd.R_drewN | apply Kd.R_drew)); exact HO201.out⟩, ⟨by repeat (first | (with_reducible first | exact HB.out | apply below_alloc | apply pw_below_drewN | apply below_drew1) | exact HB.out)⟩⟩
                  · rw [if_neg c16] at H
                    exact absurd H (by simp)
                · rw [if_neg c15] at H
                  have c15b0 : ((rd x5_2 (ji12)) == 0) = false := beq_eq_false_iff_ne.mpr c15
                  have c15b1 : ((rd x5_2 (ji12)) != 0) = true := bne_iff_ne.mpr c15
                  obtain rfl := Option.some.inj H
                  obtain ⟨Ao19, co19, eo19⟩ := Kd.R_slice HO_5.out
                  subst eo19
                  have p198 : 0 ≤ ((ji12) : Int) := of_decide_eq_true (by first | (with_reducible assumption) | assumption)
                  have q198 : (ji12) < (x5_2.length : Int) := of_decide_eq_true (by first | (with_reducible assumption) | assumption)
                  obtain ⟨ad198, e198, hx198_0⟩ := Kd.at_int (Kd.R_reads' HO_5.out).2.2 (ji12) p198 q198
                  cases e198
                  replace p198 := eq_true p198
                  replace q198 := eq_true q198
                  go_wp2
                  go_ret
                  exact ⟨_, by first | rfl | (simp only [u32_w, u64_u32, i64_u32]; rfl) | (simp [errW_none, errW_some] <;> rfl) | (simp only [← hji12]; first | rfl | (simp only [u32_w, u64_u32, i64_u32]; rfl) | (simp [errW_none, errW_some] <;> rfl)) | (simp [*, errW_none, errW_some] <;> rfl), by (with_reducible repeat (first | apply Kd.R_alloc | apply Kd.R_drewN | apply Kd.R_drew)); exact HO_5.out, by repeat (first | (with_reducible first | exact HB.out | apply below_alloc | apply pw_below_drewN | apply below_drew1) | exact HB.out)⟩
              · rw [if_neg c14] at H
                exact absurd H (by simp)
            · rw [if_neg c13] at H
              exact absurd H (by simp)
          · rw [if_neg c11] at H
            have c11b0 : decide (0 < (x5_2.length : Int)) = false := decide_eq_false c11
            have c11b1 : decide (0 < x5_2.length) = false := decide_eq_false (by omega)
            clear c11
            obtain rfl := Option.some.inj H
            obtain ⟨Ao20, co20, eo20⟩ := Kd.R_slice HO_5.out
            subst eo20
            go_wp2
            go_ret
            exact ⟨_, by first | rfl | (simp only [u32_w, u64_u32, i64_u32]; rfl) | (simp [errW_none, errW_some] <;> rfl) | (simp [*, errW_none, errW_some] <;> rfl), by (with_reducible repeat (first | apply Kd.R_alloc | apply Kd.R_drewN | apply Kd.R_drew)); exact HO_5.out, by repeat (first | (with_reducible first | exact HB.out | apply below_alloc | apply pw_below_drewN | apply below_drew1) | exact HB.out)⟩

end Go.Proofs.YthcmjcjgaebciaaDoor.T
-- Out of the translation, by a program (myprint.py).
namespace Go.Proofs.YthcmjcjgaebciaaDoor.T
open Go.RowKit Go.Proofs.YthcmjcjgaebciaaDoorW.PrintWords Go.Proofs.YthcmjcjgaebciaaDoorW.PrintLast Go.Proofs.YthcmjcjgaebciaaDoorW.PrintMore
attribute [local go_sem] max2_int min2_int max_two min_two max_three min_three max_four min_four   -- for this text's walks alone
set_option linter.unusedVariables false
set_option linter.unusedSimpArgs false

/-! ### triviumlaw06_DigitsBack: function 4 -/
mutual
def triviumlaw06_DigitsBack.j0 : Nat → ByteArray → Int → Bool → Option (Bool)
  | 0, _, _, _ => none
  | k + 1, x2, x7, x53 => if x53 = true then (none) else ((digits_From.f k x2 x7).bind fun bt213 => (if bt213.2 = 0 then ((digits_In.f k bt213.1 x7).bind fun bt217 => (triviumlaw06_DigitsBack.l0 k x2 bt217.1 bt217.2 0)) else (some ((bt213.1.length : Int) == 0))))
def triviumlaw06_DigitsBack.l0 : Nat → ByteArray → ByteArray → Int → Int → Option (Bool)
  | 0, _, _, _, _ => none
  | k + 1, x2, x14, x15, x16 => if (wrap64 (x16 + 1)) < (x2.size : Int) then (if 0 ≤ x16 then (if x16 < (x2.size : Int) then (if (bt x2 x16) = 48 then (triviumlaw06_DigitsBack.l0 k x2 x14 x15 (wrap64 (x16 + 1))) else (if x15 = 0 then (if x16 ≤ (x2.size : Int) then (some (x14.toList == (x2.extract (x16 : Int).toNat x2.size).toList)) else (none)) else (none))) else (none)) else (none)) else (if x15 = 0 then (if 0 ≤ x16 then (if x16 ≤ (x2.size : Int) then (some (x14.toList == (x2.extract (x16 : Int).toNat x2.size).toList)) else (none)) else (none)) else (none))
end
def triviumlaw06_DigitsBack.f (k : Nat) (l0 : List Int) (a1 : Int) (a2 : ByteArray) : Option (Bool) := (triviumlaw06_works.f k).bind fun t202 => (if t202 = true then ((triviumref02_Clean.f k l0 30).bind fun t203 => (if 0 ≤ (mn (a2.size : Int) 120) then (if (mn (a2.size : Int) 120) ≤ (a2.size : Int) then ((digits_In.f k t203 (wrap64 (2 + (wrap64 (Int.tmod a1 35))))).bind fun bt206 => ((digits_From.f k bt206.1 (wrap64 (2 + (wrap64 (Int.tmod a1 35))))).bind fun bt208 => (if bt206.2 = 0 then (if bt208.2 = 0 then ((triviumref02_Same.f k t203 bt208.1).bind fun t212 => (triviumlaw06_DigitsBack.j0 k (a2.extract 0 ((mn (a2.size : Int) 120) : Int).toNat) (wrap64 (2 + (wrap64 (Int.tmod a1 35)))) (!t212))) else (triviumlaw06_DigitsBack.j0 k (a2.extract 0 ((mn (a2.size : Int) 120) : Int).toNat) (wrap64 (2 + (wrap64 (Int.tmod a1 35)))) true)) else (triviumlaw06_DigitsBack.j0 k (a2.extract 0 ((mn (a2.size : Int) 120) : Int).toNat) (wrap64 (2 + (wrap64 (Int.tmod a1 35)))) true)))) else (none)) else (none))) else (none))
theorem triviumlaw06_DigitsBack.mono_l : ∀ k, (∀ y0 y1 y2, LeO (triviumlaw06_DigitsBack.j0 k y0 y1 y2) (triviumlaw06_DigitsBack.j0 (k + 1) y0 y1 y2)) ∧ (∀ y0 y1 y2 y3, LeO (triviumlaw06_DigitsBack.l0 k y0 y1 y2 y3) (triviumlaw06_DigitsBack.l0 (k + 1) y0 y1 y2 y3))
  | 0 => ⟨fun _ _ _ r h => by simp [triviumlaw06_DigitsBack.j0] at h, fun _ _ _ _ r h => by simp [triviumlaw06_DigitsBack.l0] at h⟩
  | k + 1 => by
    obtain ⟨ih0, ih1⟩ := triviumlaw06_DigitsBack.mono_l k
    refine ⟨?_, ?_⟩
    · intro y0 y1 y2
      unfold triviumlaw06_DigitsBack.j0
      repeat' first
      | (with_reducible exact ih0 _ _ _)
      | (with_reducible exact ih1 _ _ _ _)
      | (with_reducible exact digits_From.mono _ _ _)
      | (with_reducible exact digits_In.mono _ _ _)
      | (with_reducible exact triviumlaw06_works.mono _)
      | (with_reducible exact triviumref02_Clean.mono _ _ _)
      | (with_reducible exact triviumref02_Same.mono _ _ _)
      | (with_reducible exact LeO.refl _)
      | (with_reducible exact LeO.none _)
      | (with_reducible refine LeO.ite ?_ ?_)
      | (with_reducible refine LeO.bind ?_ (fun _ => ?_))
      | exact ih0 _ _ _
      | exact ih1 _ _ _ _
      | exact digits_From.mono _ _ _
      | exact digits_In.mono _ _ _
      | exact triviumlaw06_works.mono _
      | exact triviumref02_Clean.mono _ _ _
      | exact triviumref02_Same.mono _ _ _
      | exact LeO.none _
      | refine LeO.ite ?_ ?_
      | refine LeO.bind ?_ (fun _ => ?_)
    · intro y0 y1 y2 y3
      unfold triviumlaw06_DigitsBack.l0
      repeat' first
      | (with_reducible exact ih0 _ _ _)
      | (with_reducible exact ih1 _ _ _ _)
      | (with_reducible exact digits_From.mono _ _ _)
      | (with_reducible exact digits_In.mono _ _ _)
      | (with_reducible exact triviumlaw06_works.mono _)
      | (with_reducible exact triviumref02_Clean.mono _ _ _)
      | (with_reducible exact triviumref02_Same.mono _ _ _)
      | (with_reducible exact LeO.refl _)
      | (with_reducible exact LeO.none _)
      | (with_reducible refine LeO.ite ?_ ?_)
      | (with_reducible refine LeO.bind ?_ (fun _ => ?_))
      | exact ih0 _ _ _
      | exact ih1 _ _ _ _
      | exact digits_From.mono _ _ _
      | exact digits_In.mono _ _ _
      | exact triviumlaw06_works.mono _
      | exact triviumref02_Clean.mono _ _ _
      | exact triviumref02_Same.mono _ _ _
      | exact LeO.none _
      | refine LeO.ite ?_ ?_
      | refine LeO.bind ?_ (fun _ => ?_)
theorem triviumlaw06_DigitsBack.mono : ∀ a0 a1 a2 k, LeO (triviumlaw06_DigitsBack.f k a0 a1 a2) (triviumlaw06_DigitsBack.f (k + 1) a0 a1 a2) := by
  intro a0 a1 a2 k
  obtain ⟨ih0, ih1⟩ := triviumlaw06_DigitsBack.mono_l k
  unfold triviumlaw06_DigitsBack.f
  repeat' first
      | (with_reducible exact ih0 _ _ _)
      | (with_reducible exact ih1 _ _ _ _)
      | (with_reducible exact digits_From.mono _ _ _)
      | (with_reducible exact digits_In.mono _ _ _)
      | (with_reducible exact triviumlaw06_works.mono _)
      | (with_reducible exact triviumref02_Clean.mono _ _ _)
      | (with_reducible exact triviumref02_Same.mono _ _ _)
      | (with_reducible exact LeO.refl _)
      | (with_reducible exact LeO.none _)
      | (with_reducible refine LeO.ite ?_ ?_)
      | (with_reducible refine LeO.bind ?_ (fun _ => ?_))
      | exact ih0 _ _ _
      | exact ih1 _ _ _ _
      | exact digits_From.mono _ _ _
      | exact digits_In.mono _ _ _
      | exact triviumlaw06_works.mono _
      | exact triviumref02_Clean.mono _ _ _
      | exact triviumref02_Same.mono _ _ _
      | exact LeO.none _
      | refine LeO.ite ?_ ?_
      | refine LeO.bind ?_ (fun _ => ?_)
def triviumlaw06_DigitsBack.T3 : Bool × List (List Nat × List Nat) := (true, [([], []), ([0], [0]), ([], []), ([], []), ([3], [3]), ([4], [4]), ([2, 5], [2, 5]), ([1, 1, 0, 1], [0, 1]), ([6, 7, 0, 1, 2, 3, 4, 5, 6, 7], [2, 3, 6])])
def triviumlaw06_DigitsBack.B3 : List Nat := [0, 1, 0, 0, 8, 24, 60, 3, 255]
theorem triviumlaw06_DigitsBack.tab3 : rtab .any (opsOf Tryd.f4 3) = triviumlaw06_DigitsBack.T3 := by kernel_rfl
theorem triviumlaw06_DigitsBack.bits3 : waitsOk triviumlaw06_DigitsBack.T3.2 triviumlaw06_DigitsBack.B3 = true := by kernel_rfl
set_option maxHeartbeats 8000000 in
set_option maxRecDepth 100000 in
theorem triviumlaw06_DigitsBack.calls (k : Nat) (A0 : Option Addr) (c0 : Nat) (l0 : List Int) (a1 : Int) (a2 : ByteArray) (r : Bool) (w : World) (hr0 : Kd.C (Kd.int .u64) w A0 l0.length l0) (hc0 : l0.length ≤ c0) (h : triviumlaw06_DigitsBack.f k l0 a1 a2 = some r) :
    Calls Tryd.prog 4 #[.slice A0 l0.length c0, .int .u8 a1, .string a2] w fun e w' => e = .returned (.bool r) ∧ Below w.heap.size w w' := by
  have HR0 := Aside0.mk hr0
  have HC0 := Aside0.mk hc0
  clear hr0 hc0
  have HB := Aside0.mk (Below.refl w.heap.size w)
  have H : ((triviumlaw06_works.f k).bind fun t202 => (if t202 = true then ((triviumref02_Clean.f k l0 30).bind fun t203 => (if 0 ≤ (mn (a2.size : Int) 120) then (if (mn (a2.size : Int) 120) ≤ (a2.size : Int) then ((digits_In.f k t203 (wrap64 (2 + (wrap64 (Int.tmod a1 35))))).bind fun bt206 => ((digits_From.f k bt206.1 (wrap64 (2 + (wrap64 (Int.tmod a1 35))))).bind fun bt208 => (if bt206.2 = 0 then (if bt208.2 = 0 then ((triviumref02_Same.f k t203 bt208.1).bind fun t212 => (triviumlaw06_DigitsBack.j0 k (a2.extract 0 ((mn (a2.size : Int) 120) : Int).toNat) (wrap64 (2 + (wrap64 (Int.tmod a1 35)))) (!t212))) else (triviumlaw06_DigitsBack.j0 k (a2.extract 0 ((mn (a2.size : Int) 120) : Int).toNat) (wrap64 (2 + (wrap64 (Int.tmod a1 35)))) true)) else (triviumlaw06_DigitsBack.j0 k (a2.extract 0 ((mn (a2.size : Int) 120) : Int).toNat) (wrap64 (2 + (wrap64 (Int.tmod a1 35)))) true)))) else (none)) else (none))) else (none))) = some r := h
  clear h
  replace H := Option.bind_eq_some_iff.mp H
  obtain ⟨t202, A40, H⟩ := H
  replace H : (if t202 = true then ((triviumref02_Clean.f k l0 30).bind fun t203 => (if 0 ≤ (mn (a2.size : Int) 120) then (if (mn (a2.size : Int) 120) ≤ (a2.size : Int) then ((digits_In.f k t203 (wrap64 (2 + (wrap64 (Int.tmod a1 35))))).bind fun bt206 => ((digits_From.f k bt206.1 (wrap64 (2 + (wrap64 (Int.tmod a1 35))))).bind fun bt208 => (if bt206.2 = 0 then (if bt208.2 = 0 then ((triviumref02_Same.f k t203 bt208.1).bind fun t212 => (triviumlaw06_DigitsBack.j0 k (a2.extract 0 ((mn (a2.size : Int) 120) : Int).toNat) (wrap64 (2 + (wrap64 (Int.tmod a1 35)))) (!t212))) else (triviumlaw06_DigitsBack.j0 k (a2.extract 0 ((mn (a2.size : Int) 120) : Int).toNat) (wrap64 (2 + (wrap64 (Int.tmod a1 35)))) true)) else (triviumlaw06_DigitsBack.j0 k (a2.extract 0 ((mn (a2.size : Int) 120) : Int).toNat) (wrap64 (2 + (wrap64 (Int.tmod a1 35)))) true)))) else (none)) else (none))) else (none)) = some r := H
  have A4 := Aside0.mk A40
  clear A40
  by_cases c5 : t202 = true
  · subst c5
    have H1 : ((triviumref02_Clean.f k l0 30).bind fun t203 => (if 0 ≤ (mn (a2.size : Int) 120) then (if (mn (a2.size : Int) 120) ≤ (a2.size : Int) then ((digits_In.f k t203 (wrap64 (2 + (wrap64 (Int.tmod a1 35))))).bind fun bt206 => ((digits_From.f k bt206.1 (wrap64 (2 + (wrap64 (Int.tmod a1 35))))).bind fun bt208 => (if bt206.2 = 0 then (if bt208.2 = 0 then ((triviumref02_Same.f k t203 bt208.1).bind fun t212 => (triviumlaw06_DigitsBack.j0 k (a2.extract 0 ((mn (a2.size : Int) 120) : Int).toNat) (wrap64 (2 + (wrap64 (Int.tmod a1 35)))) (!t212))) else (triviumlaw06_DigitsBack.j0 k (a2.extract 0 ((mn (a2.size : Int) 120) : Int).toNat) (wrap64 (2 + (wrap64 (Int.tmod a1 35)))) true)) else (triviumlaw06_DigitsBack.j0 k (a2.extract 0 ((mn (a2.size : Int) 120) : Int).toNat) (wrap64 (2 + (wrap64 (Int.tmod a1 35)))) true)))) else (none)) else (none))) = some r := by rw [if_pos rfl] at H; exact H
    clear H
    have H := H1
    clear H1
    replace H := Option.bind_eq_some_iff.mp H
    obtain ⟨t203, A60, H⟩ := H
    replace H : (if 0 ≤ (mn (a2.size : Int) 120) then (if (mn (a2.size : Int) 120) ≤ (a2.size : Int) then ((digits_In.f k t203 (wrap64 (2 + (wrap64 (Int.tmod a1 35))))).bind fun bt206 => ((digits_From.f k bt206.1 (wrap64 (2 + (wrap64 (Int.tmod a1 35))))).bind fun bt208 => (if bt206.2 = 0 then (if bt208.2 = 0 then ((triviumref02_Same.f k t203 bt208.1).bind fun t212 => (triviumlaw06_DigitsBack.j0 k (a2.extract 0 ((mn (a2.size : Int) 120) : Int).toNat) (wrap64 (2 + (wrap64 (Int.tmod a1 35)))) (!t212))) else (triviumlaw06_DigitsBack.j0 k (a2.extract 0 ((mn (a2.size : Int) 120) : Int).toNat) (wrap64 (2 + (wrap64 (Int.tmod a1 35)))) true)) else (triviumlaw06_DigitsBack.j0 k (a2.extract 0 ((mn (a2.size : Int) 120) : Int).toNat) (wrap64 (2 + (wrap64 (Int.tmod a1 35)))) true)))) else (none)) else (none)) = some r := H
    have A6 := Aside0.mk A60
    clear A60
    obtain ⟨ji7, hji7⟩ : ∃ j_ : Int, (mn (a2.size : Int) 120) = j_ := ⟨_, rfl⟩
    replace H : (if 0 ≤ (ji7) then (if (ji7) ≤ (a2.size : Int) then ((digits_In.f k t203 (wrap64 (2 + (wrap64 (Int.tmod a1 35))))).bind fun bt206 => ((digits_From.f k bt206.1 (wrap64 (2 + (wrap64 (Int.tmod a1 35))))).bind fun bt208 => (if bt206.2 = 0 then (if bt208.2 = 0 then ((triviumref02_Same.f k t203 bt208.1).bind fun t212 => (triviumlaw06_DigitsBack.j0 k (a2.extract 0 ((ji7) : Int).toNat) (wrap64 (2 + (wrap64 (Int.tmod a1 35)))) (!t212))) else (triviumlaw06_DigitsBack.j0 k (a2.extract 0 ((ji7) : Int).toNat) (wrap64 (2 + (wrap64 (Int.tmod a1 35)))) true)) else (triviumlaw06_DigitsBack.j0 k (a2.extract 0 ((ji7) : Int).toNat) (wrap64 (2 + (wrap64 (Int.tmod a1 35)))) true)))) else (none)) else (none)) = some r := by first | (rw [hji7] at H; exact H) | (simp only [hji7] at H ⊢; exact H)
    (try rw [hji7] at A4)
    (try rw [hji7] at A6)
    (try (have hji7h : ji7 ≤ 120 := by (rw [← hji7]; unfold mn; (repeat' split) <;> omega)))
    (try (have hji7g : ji7 ≤ 64 := by omega))
    (try (have hji7l : 0 ≤ ji7 := by (rw [← hji7]; unfold mn; (repeat' split) <;> omega)))
    (try (have hji7m : 0 ≤ ji7 := by omega))
    have hji7_ : (if 120 < (a2.size : Int) then 120 else (a2.size : Int)) = ji7 := hji7
    have hji7_n : (if 120 < a2.size then 120 else (a2.size : Int)) = ji7 := by rw [← hji7_]; (repeat' split) <;> omega
    by_cases c8 : 0 ≤ (ji7)
    · rw [if_pos c8] at H
      have c8b0 := eq_true c8
      have c8b1 : decide (0 ≤ (ji7)) = true := decide_eq_true c8
      clear c8
      by_cases c9 : (ji7) ≤ (a2.size : Int)
      · rw [if_pos c9] at H
        have c9b0 := eq_true c9
        have c9b1 : decide ((ji7) ≤ (a2.size : Int)) = true := decide_eq_true c9
        clear c9
        replace H := Option.bind_eq_some_iff.mp H
        obtain ⟨⟨t206, t207⟩, A100, H⟩ := H
        replace H : ((digits_From.f k t206 (wrap64 (2 + (wrap64 (Int.tmod a1 35))))).bind fun bt208 => (if t207 = 0 then (if bt208.2 = 0 then ((triviumref02_Same.f k t203 bt208.1).bind fun t212 => (triviumlaw06_DigitsBack.j0 k (a2.extract 0 ((ji7) : Int).toNat) (wrap64 (2 + (wrap64 (Int.tmod a1 35)))) (!t212))) else (triviumlaw06_DigitsBack.j0 k (a2.extract 0 ((ji7) : Int).toNat) (wrap64 (2 + (wrap64 (Int.tmod a1 35)))) true)) else (triviumlaw06_DigitsBack.j0 k (a2.extract 0 ((ji7) : Int).toNat) (wrap64 (2 + (wrap64 (Int.tmod a1 35)))) true))) = some r := H
        have A10 := Aside0.mk A100
        clear A100
        replace H := Option.bind_eq_some_iff.mp H
        obtain ⟨⟨t208, t209⟩, A110, H⟩ := H
        replace H : (if t207 = 0 then (if t209 = 0 then ((triviumref02_Same.f k t203 t208).bind fun t212 => (triviumlaw06_DigitsBack.j0 k (a2.extract 0 ((ji7) : Int).toNat) (wrap64 (2 + (wrap64 (Int.tmod a1 35)))) (!t212))) else (triviumlaw06_DigitsBack.j0 k (a2.extract 0 ((ji7) : Int).toNat) (wrap64 (2 + (wrap64 (Int.tmod a1 35)))) true)) else (triviumlaw06_DigitsBack.j0 k (a2.extract 0 ((ji7) : Int).toNat) (wrap64 (2 + (wrap64 (Int.tmod a1 35)))) true)) = some r := H
        have A11 := Aside0.mk A110
        clear A110
        have HC12 := Aside0.mk H
        clear H
        go_enter Tryd.func4, Tryd.ntmps4
        try go_wp2_with (first | ((with_reducible refine gate_callee (f := 19) rfl ?_); refine goesL_ (some 17) rfl rfl Tryd.func19 (by kernel_rfl) rfl #[] rfl (by (try simp only [List.map_toArray, List.map_cons, List.map_nil]); first | done | rfl | (simp only [List.length_drop, List.length_take]; rfl)) ?_; (with_reducible refine (triviumlaw06_works.calls k  true _ A4.out).mono ?_); rintro e w13 ⟨rfl, hb⟩; refine ⟨_, rfl, ?_⟩; have n0_ := Aside0.mk (below_step (by repeat (first | (with_reducible first | exact HB.out | apply below_alloc | apply pw_below_drewN | apply below_drew1) | exact HB.out)) hb); clear HB; have HB := n0_; clear n0_; (try clear hb); (try clear hb2); (try clear hk); (try clear hi)))
        have n0_ := Aside0.mk (below_drew1 HB.out)
        clear HB
        have HB := n0_
        clear n0_
        refine start_ (n := 9) (S := fun w' => True) (ds := []) #[false, false, false, false, false, false, false, false, false] (by kernel_rfl) rfl rfl trivial (fun hHeld => ?_); refine with_tabW triviumlaw06_DigitsBack.tab3 triviumlaw06_DigitsBack.bits3 (fun HT_ HW_ => ?_)
        generalize w13.drew = w14 at HB hHeld ⊢
        refine pure_ (i := 0) (N := some 19) (v := ?_) (a' := ?_) #[true, false, false, false, false, false, false, false, false] rfl rfl (any_of HT_.out (by kernel_rfl)) (fun _ _ _ h => h) (Or.inl ⟨by rfl, ?_⟩) ?_ ?_
        rotate_left
        · intro w'
          go_simp
          with_reducible rfl
        rotate_left
        · simp only [Act.put, List.setIfInBounds_toArray, List.set_cons_zero, List.set_cons_succ, i64_w, i32_w]
          rfl
        refine pure_ (i := 2) (N := some 21) (v := ?_) (a' := ?_) #[true, false, true, false, false, false, false, false, false] rfl rfl (any_of HT_.out (by kernel_rfl)) (fun _ _ _ h => h) (Or.inl ⟨by rfl, ?_⟩) ?_ ?_
        rotate_left
        · intro w'
          go_simp
          with_reducible rfl
        rotate_left
        · simp only [Act.put, List.setIfInBounds_toArray, List.set_cons_zero, List.set_cons_succ, i64_w, i32_w]
          rfl
        refine pure_ (i := 3) (N := some 22) (v := ?_) (a' := ?_) #[true, false, true, true, false, false, false, false, false] rfl rfl (any_of HT_.out (by kernel_rfl)) (fun _ _ _ h => h) (Or.inl ⟨by rfl, ?_⟩) ?_ ?_
        rotate_left
        · intro w'
          go_simp
          with_reducible rfl
        rotate_left
        · simp only [Act.put, List.setIfInBounds_toArray, List.set_cons_zero, List.set_cons_succ, i64_w, i32_w]
          rfl
        refine pure_ (i := 4) (N := some 23) (v := ?_) (a' := ?_) #[true, false, true, true, true, false, false, false, false] rfl rfl (any_of HT_.out (by kernel_rfl)) (fun _ _ _ h => h) (Or.inl ⟨by rfl, ?_⟩) ?_ ?_
        rotate_left
        · intro w'
          go_simp
          with_reducible rfl
        rotate_left
        · simp only [Act.put, List.setIfInBounds_toArray, List.set_cons_zero, List.set_cons_succ, i64_w, i32_w]
          rfl
        refine pure_ (i := 5) (N := some 24) (v := ?_) (a' := ?_) #[true, false, true, true, true, true, false, false, false] rfl rfl (any_of HT_.out (by kernel_rfl)) (fun _ _ _ h => h) (Or.inl ⟨by rfl, ?_⟩) ?_ ?_
        rotate_left
        · intro w'
          go_simp
          with_reducible rfl
        rotate_left
        · simp only [Act.put, List.setIfInBounds_toArray, List.set_cons_zero, List.set_cons_succ, i64_w, i32_w]
          rfl
        refine pure_ (i := 6) (N := some 25) (v := ?_) (a' := ?_) #[true, false, true, true, true, true, true, false, false] rfl rfl (any_of HT_.out (by kernel_rfl)) (fun _ _ _ h => h) (Or.inl ⟨by rfl, ?_⟩) ?_ ?_
        rotate_left
        · intro w'
          go_simp
          with_reducible rfl
        rotate_left
        · simp only [Act.put, List.setIfInBounds_toArray, List.set_cons_zero, List.set_cons_succ, i64_w, i32_w]
          rfl
        refine one_ (i := 1) (N := some 20) #[true, true, true, true, true, true, true, false, false] rfl rfl (one_of HT_.out (by kernel_rfl)) (by decide) (fun K hK => ?_)
        refine goes_ Tryd.func20 (by kernel_rfl) rfl #[.slice A0 l0.length c0, .int .i64 30] (by rfl) rfl rfl (by (try simp only [List.map_toArray, List.map_cons, List.map_nil]); first | done | rfl | (simp only [List.length_drop, List.length_take]; rfl)) ?_
        with_reducible refine (triviumref02_Clean.calls k _ _ l0 30 t203 _ ?side1 ?side2 A6.out).mono ?_
        (case side1 => repeat (first | exact (Kd.C_below HR0.out HB.out) | (with_reducible refine Kd.C_alloc ?_ _) | (with_reducible refine Kd.C_drewN ?_ _) | (with_reducible refine Kd.C_drew ?_)))
        (case side2 => exact HC0.out)
        rintro e w15 ⟨v204, rfl, ho0, hb⟩
        refine ⟨_, rfl, ?_⟩
        have n0_ := Aside0.mk (Kd.R_lower ho0 (below_size (by repeat (first | (with_reducible first | exact HB.out | apply below_alloc | apply pw_below_drewN | apply below_drew1) | exact HB.out))))
        have n1_ := Aside0.mk (below_step (by repeat (first | (with_reducible first | exact HB.out | apply below_alloc | apply pw_below_drewN | apply below_drew1) | exact HB.out)) hb)
        clear HB
        have HO205 := n0_
        have HB := n1_
        clear n0_ n1_
        (try clear hb)
        (try clear hb2)
        (try clear hk)
        (try clear hi)
        (try clear ho0)
        refine hK.out _ _ trivial (fun hHeld => ?_)
        clear hK K
        refine norm_ (a' := ?_) ?_ ?_
        rotate_left
        · show Act.put _ (some 20) _ = _
          simp only [Act.put, List.setIfInBounds_toArray, List.set_cons_zero, List.set_cons_succ, i64_w, i32_w]
          rfl
        refine pure_ (i := 7) (N := some 0) (v := ?_) (a' := ?_) #[true, true, true, true, true, true, true, true, false] rfl rfl (any_of HT_.out (by kernel_rfl)) (fun _ _ _ h => h) (Or.inl ⟨by rfl, ?_⟩) ?_ ?_
        rotate_left
        · intro w'
          go_simp
          with_reducible rfl
        rotate_left
        · simp only [Act.put, List.setIfInBounds_toArray, List.set_cons_zero, List.set_cons_succ, i64_w, i32_w]
          rfl
        refine pure_ (i := 8) (N := some 2) (v := ?_) (a' := ?_) #[true, true, true, true, true, true, true, true, true] rfl rfl (any_of HT_.out (by kernel_rfl)) (fun _ _ _ h => h) (Or.inl ⟨by rfl, ?_⟩) ?_ ?_
        rotate_left
        · intro w'
          go_simp
          with_reducible rfl
        rotate_left
        · simp only [Act.put, List.setIfInBounds_toArray, List.set_cons_zero, List.set_cons_succ, i64_w, i32_w]
          rfl
        refine done_ (done_of HT_.out (by kernel_rfl)) ?_
        obtain ⟨Ao16, co16, eo16⟩ := Kd.R_slice HO205.out
        subst eo16
        go_upto_region 7 with (first | ((with_reducible refine gate_callee (f := 21) rfl ?_); refine goesL_ (some 33) rfl rfl Tryd.func21 (by kernel_rfl) rfl #[.slice Ao16 t203.length co16, .int .i64 (wrap64 (2 + (wrap64 (Int.tmod a1 35))))] rfl (by (try simp only [List.map_toArray, List.map_cons, List.map_nil]); first | done | rfl | (simp only [List.length_drop, List.length_take]; rfl)) ?_; (with_reducible refine (digits_In.calls k _ _ t203 (wrap64 (2 + (wrap64 (Int.tmod a1 35)))) t206 t207 _ ?side1 ?side2 A10.out).mono ?_); (case side1 => repeat (first | exact (Kd.R_reads' HO205.out).2.2 | (with_reducible refine Kd.C_alloc ?_ _) | (with_reducible refine Kd.C_drewN ?_ _) | (with_reducible refine Kd.C_drew ?_))); (case side2 => exact (Kd.R_reads' HO205.out).2.1); rintro e w17 ⟨rfl, hb⟩; refine ⟨_, rfl, ?_⟩; have n0_ := Aside0.mk (Kd.R_below (by (with_reducible repeat (first | apply Kd.R_alloc | apply Kd.R_drewN | apply Kd.R_drew)); exact HO205.out) hb); have n1_ := Aside0.mk (below_step (by repeat (first | (with_reducible first | exact HB.out | apply below_alloc | apply pw_below_drewN | apply below_drew1) | exact HB.out)) hb); clear HO205; clear HB; have HO205 := n0_; have HB := n1_; clear n0_ n1_; (try clear hb); (try clear hb2); (try clear hk); (try clear hi)) | ((with_reducible refine gate_callee (f := 15) rfl ?_); refine goesL_ (some 39) rfl rfl Tryd.func15 (by kernel_rfl) rfl #[.string t206, .int .i64 (wrap64 (2 + (wrap64 (Int.tmod a1 35))))] rfl (by (try simp only [List.map_toArray, List.map_cons, List.map_nil]); first | done | rfl | (simp only [List.length_drop, List.length_take]; rfl)) ?_; (with_reducible refine (digits_From.calls k t206 (wrap64 (2 + (wrap64 (Int.tmod a1 35)))) t208 t209 _ A11.out).mono ?_); rintro e w18 ⟨v210, rfl, ho0, hb⟩; refine ⟨_, rfl, ?_⟩; have n0_ := Aside0.mk (Kd.R_elder' (by (with_reducible repeat (first | apply Kd.R_alloc | apply Kd.R_drewN | apply Kd.R_drew)); exact HO205.out) (Kd.R_base ho0) hb); have n1_ := Aside0.mk (Kd.R_lower (Kd.R_new' ho0 (Kd.R_lt (by (with_reducible repeat (first | apply Kd.R_alloc | apply Kd.R_drewN | apply Kd.R_drew)); exact HO205.out))) (below_size (by repeat (first | (with_reducible first | exact HB.out | apply below_alloc | apply pw_below_drewN | apply below_drew1) | exact HB.out)))); have n2_ := Aside0.mk (below_step (by repeat (first | (with_reducible first | exact HB.out | apply below_alloc | apply pw_below_drewN | apply below_drew1) | exact HB.out)) hb); clear HO205; clear HB; have HO205 := n0_; have HO211 := n1_; have HB := n2_; clear n0_ n1_ n2_; (try clear hb); (try clear hb2); (try clear hk); (try clear hi); (try clear ho0)))
        (try simp only [Act.put, List.setIfInBounds_toArray, List.set_cons_zero, List.set_cons_succ])
        go_cut [53] (fun v53 wc => ∃ (kq : Nat) (x53_11 : Bool), v53 = .bool x53_11 ∧ Aside0 (triviumlaw06_DigitsBack.j0 kq (a2.extract 0 ((ji7) : Int).toNat) (wrap64 (2 + (wrap64 (Int.tmod a1 35)))) x53_11 = some r) ∧ Aside0 (kq ≤ k) ∧ Aside0 (Below w.heap.size w wc))
        case first =>
          have H := HC12.out
          clear HC12
          by_cases c19 : t207 = 0
          · rw [if_pos c19] at H
            have c19b0 : (t207 == 0) = true := beq_iff_eq.mpr c19
            have c19b1 : (t207 != 0) = false := bne_eq_false_iff_eq.mpr c19
            clear c19
            (first | rw [c19b0] | (simp only [i64_w, i32_w]; rw [c19b0]) | skip)
            by_cases c20 : t209 = 0
            · rw [if_pos c20] at H
              have c20b0 : (t209 == 0) = true := beq_iff_eq.mpr c20
              have c20b1 : (t209 != 0) = false := bne_eq_false_iff_eq.mpr c20
              clear c20
              replace H := Option.bind_eq_some_iff.mp H
              obtain ⟨t212, A210, H⟩ := H
              replace H : (triviumlaw06_DigitsBack.j0 k (a2.extract 0 ((ji7) : Int).toNat) (wrap64 (2 + (wrap64 (Int.tmod a1 35)))) (!t212)) = some r := H
              have A21 := Aside0.mk A210
              clear A210
              have H' := Aside0.mk H
              clear H
              obtain ⟨Ao22, co22, eo22⟩ := Kd.R_slice HO211.out
              subst eo22
              go_wp2_with (first | (go_at_call 18; (with_reducible refine (triviumref02_Same.calls k _ _ t203 _ _ t208 t212 _ ?side1 ?side2 ?side3 ?side4 A21.out).mono ?_); (case side1 => repeat (first | exact (Kd.R_reads' HO205.out).2.2 | (with_reducible refine Kd.C_alloc ?_ _) | (with_reducible refine Kd.C_drewN ?_ _) | (with_reducible refine Kd.C_drew ?_))); (case side2 => exact (Kd.R_reads' HO205.out).2.1); (case side3 => repeat (first | exact (Kd.R_reads' HO211.out).2.2 | (with_reducible refine Kd.C_alloc ?_ _) | (with_reducible refine Kd.C_drewN ?_ _) | (with_reducible refine Kd.C_drew ?_))); (case side4 => exact (Kd.R_reads' HO211.out).2.1); rintro e w' ⟨rfl, ⟨nd, rfl⟩⟩))
              (try any_goals (exfalso; first | exact Eq.mp c30y0 (by assumption) | exact Eq.mp c32y0 (by assumption) | exact Eq.mp c37y1 (by assumption) | exact Eq.mp c40y1 (by assumption)))
              go_meet
              case rel => exact ⟨_, (!t212), (by first | rfl | (simp; done) | (simp [*]; done) | (congr 1; omega) | (simp; omega)), H', ⟨by first | omega | exact Nat.le_refl _⟩, ⟨by repeat (first | (with_reducible first | exact HB.out | apply below_alloc | apply pw_below_drewN | apply below_drew1) | exact HB.out)⟩⟩
            · rw [if_neg c20] at H
              have c20b0 : (t209 == 0) = false := beq_eq_false_iff_ne.mpr c20
              have c20b1 : (t209 != 0) = true := bne_iff_ne.mpr c20
              have H' := Aside0.mk H
              clear H
              go_wp2
              (try any_goals (exfalso; first | exact Eq.mp c30y0 (by assumption) | exact Eq.mp c32y0 (by assumption) | exact Eq.mp c37y1 (by assumption) | exact Eq.mp c40y1 (by assumption)))
              go_meet
              case rel => exact ⟨_, (true), (by first | rfl | (simp; done) | (simp [*]; done) | (congr 1; omega) | (simp; omega)), H', ⟨by first | omega | exact Nat.le_refl _⟩, ⟨by repeat (first | (with_reducible first | exact HB.out | apply below_alloc | apply pw_below_drewN | apply below_drew1) | exact HB.out)⟩⟩
          · rw [if_neg c19] at H
            have c19b0 : (t207 == 0) = false := beq_eq_false_iff_ne.mpr c19
            have c19b1 : (t207 != 0) = true := bne_iff_ne.mpr c19
            (first | rw [c19b0] | (simp only [i64_w, i32_w]; rw [c19b0]) | skip)
            have H' := Aside0.mk H
            clear H
            go_wp2
            (try any_goals (exfalso; first | exact Eq.mp c30y0 (by assumption) | exact Eq.mp c32y0 (by assumption) | exact Eq.mp c37y1 (by assumption) | exact Eq.mp c40y1 (by assumption)))
            go_meet
            case rel => exact ⟨_, (true), (by first | rfl | (simp; done) | (simp [*]; done) | (congr 1; omega) | (simp; omega)), H', ⟨by first | omega | exact Nat.le_refl _⟩, ⟨by repeat (first | (with_reducible first | exact HB.out | apply below_alloc | apply pw_below_drewN | apply below_drew1) | exact HB.out)⟩⟩
        case rest =>
          clear HC12
          try clear c1
          try clear c2
          try clear p2
          try clear c4
          try clear c5
          try clear p6
          try clear c8
          try clear c8b0
          try clear c8b1
          try clear c9
          try clear c9b0
          try clear c9b1
          try clear c15
          try clear c19
          try clear c19b0
          try clear c19b1
          try clear c20
          try clear c20b0
          try clear c20b1
          try clear c21
          obtain ⟨kq, x53_11, rfl, HA, HJ11, HB⟩ := hcut
          cases kq with
          | zero => exact absurd HA.out (by simp [triviumlaw06_DigitsBack.j0])
          | succ kj11 =>
            have H := HA.out
            clear HA
            simp only [triviumlaw06_DigitsBack.j0] at H
            by_cases c23 : x53_11 = true
            · subst c23
              have H1 : (none) = some r := by rw [if_pos rfl] at H; exact H
              clear H
              have H := H1
              clear H1
              exact absurd H (by simp)
            · replace c23 := Bool.eq_false_iff.mpr c23
              subst c23
              have H1 : ((digits_From.f kj11 (a2.extract 0 ((ji7) : Int).toNat) (wrap64 (2 + (wrap64 (Int.tmod a1 35))))).bind fun bt213 => (if bt213.2 = 0 then ((digits_In.f kj11 bt213.1 (wrap64 (2 + (wrap64 (Int.tmod a1 35))))).bind fun bt217 => (triviumlaw06_DigitsBack.l0 kj11 (a2.extract 0 ((ji7) : Int).toNat) bt217.1 bt217.2 0)) else (some ((bt213.1.length : Int) == 0)))) = some r := by rw [if_neg (show ¬ (false = true) by decide)] at H; exact H
              clear H
              have H := H1
              clear H1
              replace H := Option.bind_eq_some_iff.mp H
              obtain ⟨⟨t213, t214⟩, A240, H⟩ := H
              replace H : (if t214 = 0 then ((digits_In.f kj11 t213 (wrap64 (2 + (wrap64 (Int.tmod a1 35))))).bind fun bt217 => (triviumlaw06_DigitsBack.l0 kj11 (a2.extract 0 ((ji7) : Int).toNat) bt217.1 bt217.2 0)) else (some ((t213.length : Int) == 0))) = some r := H
              have A24 := Aside0.mk A240
              clear A240
              by_cases c25 : t214 = 0
              · rw [if_pos c25] at H
                have c25b0 : (t214 == 0) = true := beq_iff_eq.mpr c25
                have c25b1 : (t214 != 0) = false := bne_eq_false_iff_eq.mpr c25
                clear c25
                replace H := Option.bind_eq_some_iff.mp H
                obtain ⟨⟨t217, t218⟩, A260, H⟩ := H
                replace H : (triviumlaw06_DigitsBack.l0 kj11 (a2.extract 0 ((ji7) : Int).toNat) t217 t218 0) = some r := H
                have A26 := Aside0.mk A260
                clear A260
                have H' := Aside0.mk H
                clear H
                go_wp2_with (first | ((with_reducible refine gate_callee (f := 15) rfl ?_); refine goesL_ (some 57) rfl rfl Tryd.func15 (by kernel_rfl) rfl #[.string (a2.extract 0 ((ji7) : Int).toNat), .int .i64 (wrap64 (2 + (wrap64 (Int.tmod a1 35))))] rfl (by (try simp only [List.map_toArray, List.map_cons, List.map_nil]); first | done | (simp only [hji7]; rfl) | rfl | (simp only [List.length_drop, List.length_take]; rfl)) ?_; (with_reducible refine (digits_From.calls kj11 (a2.extract 0 ((ji7) : Int).toNat) (wrap64 (2 + (wrap64 (Int.tmod a1 35)))) t213 t214 _ A24.out).mono ?_); rintro e w27 ⟨v215, rfl, ho0, hb⟩; refine ⟨_, rfl, ?_⟩; have n0_ := Aside0.mk (Kd.R_lower ho0 (below_size (by repeat (first | (with_reducible first | exact HB.out | apply below_alloc | apply pw_below_drewN | apply below_drew1) | exact HB.out)))); have n1_ := Aside0.mk (below_step (by repeat (first | (with_reducible first | exact HB.out | apply below_alloc | apply pw_below_drewN | apply below_drew1) | exact HB.out)) hb); clear HB; have HO216 := n0_; have HB := n1_; clear n0_ n1_; (try clear hb); (try clear hb2); (try clear hk); (try clear hi); (try clear ho0); obtain ⟨Ao28, co28, eo28⟩ := Kd.R_slice HO216.out; subst eo28) | ((with_reducible refine gate_callee (f := 21) rfl ?_); refine goesL_ (some 68) rfl rfl Tryd.func21 (by kernel_rfl) rfl #[.slice Ao28 t213.length co28, .int .i64 (wrap64 (2 + (wrap64 (Int.tmod a1 35))))] rfl (by (try simp only [List.map_toArray, List.map_cons, List.map_nil]); first | done | rfl | (simp only [List.length_drop, List.length_take]; rfl)) ?_; (with_reducible refine (digits_In.calls kj11 _ _ t213 (wrap64 (2 + (wrap64 (Int.tmod a1 35)))) t217 t218 _ ?side1 ?side2 A26.out).mono ?_); (case side1 => repeat (first | exact (Kd.R_reads' HO216.out).2.2 | (with_reducible refine Kd.C_alloc ?_ _) | (with_reducible refine Kd.C_drewN ?_ _) | (with_reducible refine Kd.C_drew ?_))); (case side2 => exact (Kd.R_reads' HO216.out).2.1); rintro e w29 ⟨rfl, hb⟩; refine ⟨_, rfl, ?_⟩; have n0_ := Aside0.mk (Kd.R_below (by (with_reducible repeat (first | apply Kd.R_alloc | apply Kd.R_drewN | apply Kd.R_drew)); exact HO216.out) hb); have n1_ := Aside0.mk (below_step (by repeat (first | (with_reducible first | exact HB.out | apply below_alloc | apply pw_below_drewN | apply below_drew1) | exact HB.out)) hb); clear HO216; clear HB; have HO216 := n0_; have HB := n1_; clear n0_ n1_; (try clear hb); (try clear hb2); (try clear hk); (try clear hi)))
                (try any_goals (exfalso; first | exact Eq.mp c30y0 (by assumption) | exact Eq.mp c32y0 (by assumption) | exact Eq.mp c37y1 (by assumption) | exact Eq.mp c40y1 (by assumption)))
                go_loopg [16] kj11 (fun kq v16 w' => ∃ (x16_2 : Int), v16 = .int .i64 x16_2 ∧ Aside0 (triviumlaw06_DigitsBack.l0 kq (a2.extract 0 ((ji7) : Int).toNat) t217 t218 x16_2 = some r) ∧ Aside0 (kq ≤ kj11) ∧ Aside0 (Below w.heap.size w w'))
                case atStart => exact ⟨(0), (by first | rfl | (simp; done) | (simp [*]; done) | (congr 1; omega) | (simp; omega)), H', ⟨Nat.le_refl _⟩, ⟨by repeat (first | (with_reducible first | exact HB.out | apply below_alloc | apply pw_below_drewN | apply below_drew1) | exact HB.out)⟩⟩
                case round =>
                  clear H'
                  try clear c1
                  try clear c2
                  try clear p2
                  try clear c4
                  try clear c5
                  try clear p6
                  try clear c8
                  try clear c8b0
                  try clear c8b1
                  try clear c9
                  try clear c9b0
                  try clear c9b1
                  try clear c15
                  try clear c19
                  try clear c19b0
                  try clear c19b1
                  try clear c20
                  try clear c20b0
                  try clear c20b1
                  try clear c21
                  try clear c23
                  try clear c25
                  try clear c25b0
                  try clear c25b1
                  try clear p2
                  try clear p6
                  obtain ⟨x16_2, rfl, HA, HK2, HB⟩ := hrel
                  cases gk with
                  | zero => exact absurd HA.out (by simp [triviumlaw06_DigitsBack.l0])
                  | succ k2 =>
                    have H := HA.out
                    clear HA
                    simp only [triviumlaw06_DigitsBack.l0] at H
                    by_cases c30 : (wrap64 (x16_2 + 1)) < ((a2.extract 0 ((ji7) : Int).toNat).size : Int)
                    · rw [if_pos c30] at H
                      have c30b0 : decide ((wrap64 (x16_2 + 1)) < ((a2.extract 0 ((ji7) : Int).toNat).size : Int)) = true := decide_eq_true c30
                      (try have c30z0 : decide ((wrap64 (x16_2 + 1)) < ((min (ji7).toNat a2.size : Nat) : Int)) = true := by have e_ : (a2.extract 0 ((ji7) : Int).toNat).size = min (ji7).toNat a2.size := (by simp [ByteArray.size_extract]); have z_ := c30b0; rw [e_] at z_; exact z_)
                      (try have c30y0 : (((min (ji7).toNat a2.size : Nat) : Int) ≤ (wrap64 (x16_2 + 1))) = False := eq_false (by have z_ := of_decide_eq_true c30z0; omega))
                      clear c30
                      by_cases c31 : 0 ≤ x16_2
                      · rw [if_pos c31] at H
                        have c31b0 : decide (0 ≤ x16_2) = true := decide_eq_true c31
                        clear c31
                        by_cases c32 : x16_2 < ((a2.extract 0 ((ji7) : Int).toNat).size : Int)
                        · rw [if_pos c32] at H
                          have c32b0 : decide (x16_2 < ((a2.extract 0 ((ji7) : Int).toNat).size : Int)) = true := decide_eq_true c32
                          (try have c32z0 : decide (x16_2 < ((min (ji7).toNat a2.size : Nat) : Int)) = true := by have e_ : (a2.extract 0 ((ji7) : Int).toNat).size = min (ji7).toNat a2.size := (by simp [ByteArray.size_extract]); have z_ := c32b0; rw [e_] at z_; exact z_)
                          (try have c32y0 : (((min (ji7).toNat a2.size : Nat) : Int) ≤ x16_2) = False := eq_false (by have z_ := of_decide_eq_true c32z0; omega))
                          clear c32
                          by_cases c34 : (bt (a2.extract 0 ((ji7) : Int).toNat) x16_2) = 48
                          · rw [if_pos c34] at H
                            have c34b0 : ((bt (a2.extract 0 ((ji7) : Int).toNat) x16_2) == 48) = true := beq_iff_eq.mpr c34
                            have c34b1 : ((bt (a2.extract 0 ((ji7) : Int).toNat) x16_2) != 48) = false := bne_eq_false_iff_eq.mpr c34
                            clear c34
                            have H' := Aside0.mk H
                            clear H
                            have p33 : 0 ≤ (x16_2 : Int) := of_decide_eq_true (by first | (with_reducible assumption) | assumption)
                            have q33 : x16_2 < ((a2.extract 0 ((ji7) : Int).toNat).size : Int) := of_decide_eq_true (by first | (with_reducible assumption) | assumption)
                            have hx33 := bt_at (a2.extract 0 ((ji7) : Int).toNat) x16_2
                            replace p33 := eq_true p33
                            replace q33 := eq_true q33
                            go_wp2
                            (try any_goals (exfalso; first | exact Eq.mp c30y0 (by assumption) | exact Eq.mp c32y0 (by assumption) | exact Eq.mp c37y1 (by assumption) | exact Eq.mp c40y1 (by assumption)))
                            go_roundg k2
                            case measure => have := HJ11.out; have := HK2.out; omega
                            case rel => exact ⟨(wrap64 (x16_2 + 1)), (by first | rfl | (simp; done) | (simp [*]; done) | (congr 1; omega) | (simp; omega)), H', ⟨by have := HJ11.out; have := HK2.out; omega⟩, ⟨by repeat (first | (with_reducible first | exact HB.out | apply below_alloc | apply pw_below_drewN | apply below_drew1) | exact HB.out)⟩⟩
                          · rw [if_neg c34] at H
                            have c34b0 : ((bt (a2.extract 0 ((ji7) : Int).toNat) x16_2) == 48) = false := beq_eq_false_iff_ne.mpr c34
                            have c34b1 : ((bt (a2.extract 0 ((ji7) : Int).toNat) x16_2) != 48) = true := bne_iff_ne.mpr c34
                            by_cases c35 : t218 = 0
                            · rw [if_pos c35] at H
                              have c35b0 : (t218 == 0) = true := beq_iff_eq.mpr c35
                              have c35b1 : (t218 != 0) = false := bne_eq_false_iff_eq.mpr c35
                              clear c35
                              have c36b0 := eq_true (of_decide_eq_true (by first | (with_reducible assumption) | assumption) : 0 ≤ x16_2)
                              by_cases c37 : x16_2 ≤ ((a2.extract 0 ((ji7) : Int).toNat).size : Int)
                              · rw [if_pos c37] at H
                                have c37b0 := eq_true c37
                                have c37b1 : decide (x16_2 ≤ ((a2.extract 0 ((ji7) : Int).toNat).size : Int)) = true := decide_eq_true c37
                                (try have c37z1 : decide (x16_2 ≤ ((min (ji7).toNat a2.size : Nat) : Int)) = true := by have e_ : (a2.extract 0 ((ji7) : Int).toNat).size = min (ji7).toNat a2.size := (by simp [ByteArray.size_extract]); have z_ := c37b1; rw [e_] at z_; exact z_)
                                (try have c37y1 : (((min (ji7).toNat a2.size : Nat) : Int) < x16_2) = False := eq_false (by have z_ := of_decide_eq_true c37z1; omega))
                                clear c37
                                obtain rfl := Option.some.inj H
                                have p33 : 0 ≤ (x16_2 : Int) := of_decide_eq_true (by first | (with_reducible assumption) | assumption)
                                have q33 : x16_2 < ((a2.extract 0 ((ji7) : Int).toNat).size : Int) := of_decide_eq_true (by first | (with_reducible assumption) | assumption)
                                have hx33 := bt_at (a2.extract 0 ((ji7) : Int).toNat) x16_2
                                replace p33 := eq_true p33
                                replace q33 := eq_true q33
                                go_wp2
                                (try any_goals (exfalso; first | exact Eq.mp c30y0 (by assumption) | exact Eq.mp c32y0 (by assumption) | exact Eq.mp c37y1 (by assumption) | exact Eq.mp c40y1 (by assumption)))
                                go_ret
                                exact ⟨by first | rfl | (simp only [u32_w, u64_u32, i64_u32]; rfl) | (simp [errW_none, errW_some] <;> rfl) | (simp only [← hji7]; first | rfl | (simp only [u32_w, u64_u32, i64_u32]; rfl) | (simp [errW_none, errW_some] <;> rfl)) | (simp [*, errW_none, errW_some] <;> rfl), by repeat (first | (with_reducible first | exact HB.out | apply below_alloc | apply pw_below_drewN | apply below_drew1) | exact HB.out)⟩
                              · rw [if_neg c37] at H
                                exact absurd H (by simp)
                            · rw [if_neg c35] at H
                              exact absurd H (by simp)
                        · rw [if_neg c32] at H
                          exact absurd H (by simp)
                      · rw [if_neg c31] at H
                        exact absurd H (by simp)
                    · rw [if_neg c30] at H
                      have c30b0 : decide ((wrap64 (x16_2 + 1)) < ((a2.extract 0 ((ji7) : Int).toNat).size : Int)) = false := decide_eq_false c30
                      (try have c30z0 : decide ((wrap64 (x16_2 + 1)) < ((min (ji7).toNat a2.size : Nat) : Int)) = false := by have e_ : (a2.extract 0 ((ji7) : Int).toNat).size = min (ji7).toNat a2.size := (by simp [ByteArray.size_extract]); have z_ := c30b0; rw [e_] at z_; exact z_)
                      clear c30
                      by_cases c38 : t218 = 0
                      · rw [if_pos c38] at H
                        have c38b0 : (t218 == 0) = true := beq_iff_eq.mpr c38
                        have c38b1 : (t218 != 0) = false := bne_eq_false_iff_eq.mpr c38
                        clear c38
                        by_cases c39 : 0 ≤ x16_2
                        · rw [if_pos c39] at H
                          have c39b0 := eq_true c39
                          have c39b1 : decide (0 ≤ x16_2) = true := decide_eq_true c39
                          clear c39
                          by_cases c40 : x16_2 ≤ ((a2.extract 0 ((ji7) : Int).toNat).size : Int)
                          · rw [if_pos c40] at H
                            have c40b0 := eq_true c40
                            have c40b1 : decide (x16_2 ≤ ((a2.extract 0 ((ji7) : Int).toNat).size : Int)) = true := decide_eq_true c40
                            (try have c40z1 : decide (x16_2 ≤ ((min (ji7).toNat a2.size : Nat) : Int)) = true := by have e_ : (a2.extract 0 ((ji7) : Int).toNat).size = min (ji7).toNat a2.size := (by simp [ByteArray.size_extract]); have z_ := c40b1; rw [e_] at z_; exact z_)
                            (try have c40y1 : (((min (ji7).toNat a2.size : Nat) : Int) < x16_2) = False := eq_false (by have z_ := of_decide_eq_true c40z1; omega))
                            clear c40
                            obtain rfl := Option.some.inj H
                            go_wp2
                            (try any_goals (exfalso; first | exact Eq.mp c30y0 (by assumption) | exact Eq.mp c32y0 (by assumption) | exact Eq.mp c37y1 (by assumption) | exact Eq.mp c40y1 (by assumption)))
                            go_ret
                            exact ⟨by first | rfl | (simp only [u32_w, u64_u32, i64_u32]; rfl) | (simp [errW_none, errW_some] <;> rfl) | (simp only [← hji7]; first | rfl | (simp only [u32_w, u64_u32, i64_u32]; rfl) | (simp [errW_none, errW_some] <;> rfl)) | (simp [*, errW_none, errW_some] <;> rfl), by repeat (first | (with_reducible first | exact HB.out | apply below_alloc | apply pw_below_drewN | apply below_drew1) | exact HB.out)⟩
                          · rw [if_neg c40] at H
                            exact absurd H (by simp)
                        · rw [if_neg c39] at H
                          exact absurd H (by simp)
                      · rw [if_neg c38] at H
                        exact absurd H (by simp)
              · rw [if_neg c25] at H
                have c25b0 : (t214 == 0) = false := beq_eq_false_iff_ne.mpr c25
                have c25b1 : (t214 != 0) = true := bne_iff_ne.mpr c25
                obtain rfl := Option.some.inj H
                go_wp2_with (first | ((with_reducible refine gate_callee (f := 15) rfl ?_); refine goesL_ (some 57) rfl rfl Tryd.func15 (by kernel_rfl) rfl #[.string (a2.extract 0 ((ji7) : Int).toNat), .int .i64 (wrap64 (2 + (wrap64 (Int.tmod a1 35))))] rfl (by (try simp only [List.map_toArray, List.map_cons, List.map_nil]); first | done | (simp only [hji7]; rfl) | rfl | (simp only [List.length_drop, List.length_take]; rfl)) ?_; (with_reducible refine (digits_From.calls kj11 (a2.extract 0 ((ji7) : Int).toNat) (wrap64 (2 + (wrap64 (Int.tmod a1 35)))) t213 t214 _ A24.out).mono ?_); rintro e w41 ⟨v215, rfl, ho0, hb⟩; refine ⟨_, rfl, ?_⟩; have n0_ := Aside0.mk (Kd.R_lower ho0 (below_size (by repeat (first | (with_reducible first | exact HB.out | apply below_alloc | apply pw_below_drewN | apply below_drew1) | exact HB.out)))); have n1_ := Aside0.mk (below_step (by repeat (first | (with_reducible first | exact HB.out | apply below_alloc | apply pw_below_drewN | apply below_drew1) | exact HB.out)) hb); clear HB; have HO216 := n0_; have HB := n1_; clear n0_ n1_; (try clear hb); (try clear hb2); (try clear hk); (try clear hi); (try clear ho0); obtain ⟨Ao42, co42, eo42⟩ := Kd.R_slice HO216.out; subst eo42))
                (try any_goals (exfalso; first | exact Eq.mp c30y0 (by assumption) | exact Eq.mp c32y0 (by assumption) | exact Eq.mp c37y1 (by assumption) | exact Eq.mp c40y1 (by assumption)))
                go_ret
                exact ⟨by first | rfl | (simp only [u32_w, u64_u32, i64_u32]; rfl) | (simp [errW_none, errW_some] <;> rfl) | (simp only [← hji7]; first | rfl | (simp only [u32_w, u64_u32, i64_u32]; rfl) | (simp [errW_none, errW_some] <;> rfl)) | (simp [*, errW_none, errW_some] <;> rfl), by repeat (first | (with_reducible first | exact HB.out | apply below_alloc | apply pw_below_drewN | apply below_drew1) | exact HB.out)⟩
      · rw [if_neg c9] at H
        exact absurd H (by simp)
    · rw [if_neg c8] at H
      exact absurd H (by simp)
  · replace c5 := Bool.eq_false_iff.mpr c5
    subst c5
    have H1 : (none) = some r := by rw [if_neg (show ¬ (false = true) by decide)] at H; exact H
    clear H
    have H := H1
    clear H1
    exact absurd H (by simp)

end Go.Proofs.YthcmjcjgaebciaaDoor.T
/- The plain statement of the law DigitsBack: no memory, no machine. -/
namespace Go.Proofs.YthcmjcjgaebciaaDoor.T
open Go.RowKit Go.Proofs.YthcmjcjgaebciaaDoorW.PrintWords Go.Proofs.YthcmjcjgaebciaaDoorW.PrintLast Go.Proofs.YthcmjcjgaebciaaDoorW.PrintMore
def triviumlaw06_DigitsBack.Pure : Prop := ∀ (l0 : List Int) (a1 : Int) (a2 : ByteArray), l0.length ≤ 9223372036854775807 → (∀ x ∈ l0, (Lit.int .u64 x).wf = true) → (Lit.int .u8 a1).wf = true → a2.size ≤ 9223372036854775807 → ∃ k, triviumlaw06_DigitsBack.f k l0 a1 a2 = some true
end Go.Proofs.YthcmjcjgaebciaaDoor.T
/- Plain facts on numbers by digits of any base, and on lists: no program in sight. -/
namespace Go.Proofs.YthcmjcjgaebciaaDoor.Tri

def dv (B : Int) : List Int → Int
  | [] => 0
  | x :: xs => x + B * dv B xs

def Dig (B : Int) (l : List Int) : Prop := ∀ x, x ∈ l → 0 ≤ x ∧ x < B

/-- no nought at the end -/
def Top (l : List Int) : Prop := l.getLast? ≠ some 0

def Can (B : Int) (l : List Int) : Prop := Dig B l ∧ Top l

theorem dv_nil (B : Int) : dv B [] = 0 := rfl
theorem dv_cons (B x : Int) (xs : List Int) : dv B (x :: xs) = x + B * dv B xs := rfl
theorem dv_one (B x : Int) : dv B [x] = x := by simp [dv]

theorem dv_append (B : Int) (a b : List Int) : dv B (a ++ b) = dv B a + B ^ a.length * dv B b := by
  induction a with
  | nil => simp [dv]
  | cons x xs ih =>
    simp only [List.cons_append, dv, ih, List.length_cons, Int.pow_succ]
    grind

theorem dv_snoc (B : Int) (a : List Int) (x : Int) : dv B (a ++ [x]) = dv B a + B ^ a.length * x := by
  rw [dv_append, dv_one]

theorem Dig.nil (B : Int) : Dig B [] := fun _ h => by simp at h
theorem Dig.cons {B x : Int} {l : List Int} (h : 0 ≤ x ∧ x < B) (hl : Dig B l) : Dig B (x :: l) := by
  intro y hy
  rcases List.mem_cons.1 hy with rfl | hy
  · exact h
  · exact hl y hy
theorem Dig.head {B x : Int} {l : List Int} (h : Dig B (x :: l)) : 0 ≤ x ∧ x < B := h x (by simp)
theorem Dig.tail {B x : Int} {l : List Int} (h : Dig B (x :: l)) : Dig B l := fun y hy => h y (by simp [hy])
theorem Dig.append {B : Int} {a b : List Int} (ha : Dig B a) (hb : Dig B b) : Dig B (a ++ b) := by
  intro y hy
  rcases List.mem_append.1 hy with hy | hy
  · exact ha y hy
  · exact hb y hy
theorem Dig.snoc {B x : Int} {l : List Int} (hl : Dig B l) (h : 0 ≤ x ∧ x < B) : Dig B (l ++ [x]) :=
  hl.append (Dig.cons h (Dig.nil B))
theorem Dig.left {B : Int} {a b : List Int} (h : Dig B (a ++ b)) : Dig B a := fun y hy => h y (by simp [hy])
theorem Dig.right {B : Int} {a b : List Int} (h : Dig B (a ++ b)) : Dig B b := fun y hy => h y (by simp [hy])
theorem Dig.take {B : Int} {a : List Int} (h : Dig B a) (n : Nat) : Dig B (a.take n) := fun y hy => h y (List.mem_of_mem_take hy)
theorem Dig.drop {B : Int} {a : List Int} (h : Dig B a) (n : Nat) : Dig B (a.drop n) := fun y hy => h y (List.mem_of_mem_drop hy)
theorem Dig.set {B : Int} {a : List Int} (h : Dig B a) (n : Nat) {v : Int} (hv : 0 ≤ v ∧ v < B) : Dig B (a.set n v) := by
  intro y hy
  rcases List.mem_or_eq_of_mem_set hy with hy | rfl
  · exact h y hy
  · exact hv
theorem Dig.replicate {B : Int} (hB : 0 < B) (n : Nat) : Dig B (List.replicate n 0) := by
  intro y hy
  have := (List.mem_replicate.1 hy).2
  subst this; omega

theorem dv_nonneg {B : Int} (hB : 0 < B) {l : List Int} (h : Dig B l) : 0 ≤ dv B l := by
  induction l with
  | nil => simp [dv]
  | cons x xs ih =>
    have h1 := h.head
    have h2 := ih h.tail
    have := Int.mul_nonneg (Int.le_of_lt hB) h2
    simp only [dv]; omega

theorem pow_pos' {B : Int} (hB : 0 < B) (n : Nat) : 0 < B ^ n := Int.pow_pos hB

theorem dv_lt {B : Int} (hB : 0 < B) {l : List Int} (h : Dig B l) : dv B l < B ^ l.length := by
  induction l with
  | nil => simp [dv]
  | cons x xs ih =>
    have h1 := h.head
    have h2 := ih h.tail
    have : B * (dv B xs + 1) ≤ B * B ^ xs.length := Int.mul_le_mul_of_nonneg_left (by omega) (Int.le_of_lt hB)
    simp only [dv, List.length_cons, Int.pow_succ]
    grind

theorem dv_replicate (B : Int) (n : Nat) : dv B (List.replicate n 0) = 0 := by
  induction n with
  | zero => rfl
  | succ n ih => simp [List.replicate_succ, dv, ih]

theorem dv_append_zeros (B : Int) (a : List Int) (n : Nat) : dv B (a ++ List.replicate n 0) = dv B a := by
  rw [dv_append, dv_replicate]; simp

/-- two lists of digits of one length and one value are the same -/
theorem dv_inj_len {B : Int} (hB : 0 < B) : ∀ {a b : List Int}, Dig B a → Dig B b → a.length = b.length → dv B a = dv B b → a = b
  | [], [], _, _, _, _ => rfl
  | [], _ :: _, _, _, h, _ => by simp at h
  | _ :: _, [], _, _, h, _ => by simp at h
  | x :: xs, y :: ys, ha, hb, hl, hv => by
    have h1 := ha.head
    have h2 := hb.head
    simp only [dv] at hv
    have e1 : (x + B * dv B xs) % B = x := by rw [Int.add_mul_emod_self_left, Int.emod_eq_of_lt h1.1 h1.2]
    have e2 : (y + B * dv B ys) % B = y := by rw [Int.add_mul_emod_self_left, Int.emod_eq_of_lt h2.1 h2.2]
    have hxy : x = y := by rw [← e1, ← e2, hv]
    subst hxy
    have h3 : B * dv B xs = B * dv B ys := by omega
    have h4 : dv B xs = dv B ys := Int.eq_of_mul_eq_mul_left (by omega) h3
    rw [dv_inj_len hB ha.tail hb.tail (by simpa using hl) h4]

theorem Top.nil : Top [] := by simp [Top]
theorem Top.snoc {l : List Int} {x : Int} : Top (l ++ [x]) ↔ x ≠ 0 := by simp [Top]
theorem Can.nil (B : Int) : Can B [] := ⟨Dig.nil B, Top.nil⟩

theorem eq_snoc {α : Type} {l : List α} (h : l ≠ []) : ∃ a x, l = a ++ [x] :=
  ⟨l.dropLast, l.getLast h, (List.dropLast_concat_getLast h).symm⟩

theorem Can.ge {B : Int} (hB : 0 < B) {l : List Int} (h : Can B l) (hl : l ≠ []) : B ^ (l.length - 1) ≤ dv B l := by
  obtain ⟨a, x, rfl⟩ := eq_snoc hl
  have hx := Top.snoc.1 h.2
  have hd := h.1.right.head
  have ha := dv_nonneg hB h.1.left
  rw [dv_snoc]
  have : B ^ a.length * 1 ≤ B ^ a.length * x := Int.mul_le_mul_of_nonneg_left (by omega) (Int.le_of_lt (pow_pos' hB _))
  simp only [List.length_append, List.length_cons, List.length_nil, Nat.add_sub_cancel, Nat.zero_add]
  omega

theorem Can.pos {B : Int} (hB : 0 < B) {l : List Int} (h : Can B l) (hl : l ≠ []) : 0 < dv B l := by
  have := h.ge hB hl
  have := pow_pos' hB (l.length - 1)
  omega

theorem Can.eq_nil {B : Int} (hB : 0 < B) {l : List Int} (h : Can B l) : l = [] ↔ dv B l = 0 := by
  constructor
  · rintro rfl; rfl
  · intro hv
    apply Classical.byContradiction
    intro hl
    have := h.pos hB hl
    omega

theorem pow_mono {B : Int} (hB : 0 < B) {m n : Nat} (h : m ≤ n) : B ^ m ≤ B ^ n := by
  obtain ⟨d, rfl⟩ := Nat.exists_eq_add_of_le h
  rw [Int.pow_add]
  have h1 := pow_pos' hB m
  have h2 := pow_pos' hB d
  have : B ^ m * 1 ≤ B ^ m * B ^ d := Int.mul_le_mul_of_nonneg_left (by omega) (Int.le_of_lt h1)
  omega

/-- of two canonical lists the longer one is the greater -/
theorem Can.lt_of_length {B : Int} (hB : 0 < B) {a b : List Int} (ha : Dig B a) (hb : Can B b) (h : a.length < b.length) : dv B a < dv B b := by
  have h1 := dv_lt hB ha
  have hne : b ≠ [] := by rintro rfl; simp at h
  have h2 := hb.ge hB hne
  have h3 := pow_mono hB (show a.length ≤ b.length - 1 by omega)
  omega

theorem Can.inj {B : Int} (hB : 0 < B) {a b : List Int} (ha : Can B a) (hb : Can B b) (hv : dv B a = dv B b) : a = b := by
  rcases Nat.lt_trichotomy a.length b.length with h | h | h
  · have := Can.lt_of_length hB ha.1 hb h; omega
  · exact dv_inj_len hB ha.1 hb.1 h hv
  · have := Can.lt_of_length hB hb.1 ha h; omega

/-- without noughts at the end -/
def trimz : List Int → List Int
  | [] => []
  | x :: xs => if trimz xs = [] ∧ x = 0 then [] else x :: trimz xs

theorem trimz_dig {B : Int} {l : List Int} (h : Dig B l) : Dig B (trimz l) := by
  induction l with
  | nil => exact h
  | cons x xs ih =>
    simp only [trimz]; split
    · exact Dig.nil B
    · exact Dig.cons h.head (ih h.tail)

theorem trimz_top (l : List Int) : Top (trimz l) := by
  induction l with
  | nil => exact Top.nil
  | cons x xs ih =>
    simp only [trimz]; split
    · exact Top.nil
    · rename_i hn
      by_cases he : trimz xs = []
      · rw [he]; simp [Top]; intro hx; exact hn ⟨he, hx⟩
      · unfold Top; rw [List.getLast?_cons_of_ne_nil he]; exact ih

theorem trimz_dv (B : Int) (l : List Int) : dv B (trimz l) = dv B l := by
  induction l with
  | nil => rfl
  | cons x xs ih =>
    simp only [trimz]; split
    · rename_i h
      rw [h.1] at ih; simp only [dv] at *; rw [← ih, h.2]; simp
    · simp only [dv, ih]

theorem trimz_can {B : Int} {l : List Int} (h : Dig B l) : Can B (trimz l) := ⟨trimz_dig h, trimz_top l⟩

theorem trimz_snoc_zero (l : List Int) : trimz (l ++ [0]) = trimz l := by
  induction l with
  | nil => simp [trimz]
  | cons x xs ih => simp only [List.cons_append, trimz, ih]

theorem trimz_of_top {l : List Int} (h : Top l) : trimz l = l := by
  induction l with
  | nil => rfl
  | cons x xs ih =>
    simp only [trimz]
    by_cases he : xs = []
    · subst he
      have : x ≠ 0 := by simpa [Top] using h
      simp [trimz, this]
    · have ht : Top xs := by unfold Top at *; rwa [List.getLast?_cons_of_ne_nil he] at h
      rw [ih ht, if_neg (by simp [he])]

theorem trimz_length (l : List Int) : (trimz l).length ≤ l.length := by
  induction l with
  | nil => simp [trimz]
  | cons x xs ih => simp only [trimz]; split <;> simp <;> omega

end Go.Proofs.YthcmjcjgaebciaaDoor.Tri
/- Numbers by limbs: what the small functions compute. -/
namespace Go.Proofs.YthcmjcjgaebciaaDoor.T
open Go.RowKit Go.Proofs.YthcmjcjgaebciaaDoorW.PrintWords Go.Proofs.YthcmjcjgaebciaaDoorW.PrintLast Go.Proofs.YthcmjcjgaebciaaDoorW.PrintMore Go.Proofs.YthcmjcjgaebciaaDoor.Tri

theorem evAt {α : Type} {f : Nat → Option α} {v : α} (h : Ev f v) : ∃ k, f k = some v := h.rounds
theorem evStep {α : Type} {f g : Nat → Option α} {v : α} (k : Ev g v) (h : ∀ k, f (k + 1) = g k) : Ev f v := Ev.step h k
theorem evSame {α : Type} {f g : Nat → Option α} {v : α} (k : Ev g v) (h : ∀ k, f k = g k) : Ev f v := Ev.congr h k
theorem w64' {x : Int} (h0 : -9223372036854775808 ≤ x) (h1 : x ≤ 9223372036854775807) : wrap64 x = x := by unfold wrap64; omega
theorem u64' {x : Int} (h0 : 0 ≤ x) (h1 : x < 18446744073709551616) : IntKind.u64.wrap x = x := by
  simp [IntKind.wrap, IntKind.signed, IntKind.bits]; omega
theorem rd_at (a b : List Int) (x : Int) (i : Int) (h : i = a.length) : rd (a ++ x :: b) i = x := by
  subst h; unfold rd; simp [List.getD_eq_getElem?_getD]

theorem trim_loop (n : Nat) : ∀ (a b : List Int), a.length = n → a.length ≤ 4000000000000000000 → Ev (fun k => nat_trim.l0 k (a ++ b) (a.length : Int)) (trimz a) := by
  induction n with
  | zero =>
    intro a b hn _
    obtain rfl : a = [] := List.eq_nil_of_length_eq_zero hn
    refine evStep (Ev.now []) fun k => ?_
    simp only [nat_trim.l0]
    rw [if_neg (by simp), if_pos (by simp), if_pos (by simp)]
    simp
  | succ n ih =>
    intro a b hn hl
    obtain ⟨c, x, rfl⟩ := eq_snoc (l := a) (by rintro rfl; simp at hn)
    simp only [List.length_append, List.length_cons, List.length_nil, Nat.zero_add] at hn hl ⊢
    have w : wrap64 (((c.length + 1 : Nat) : Int) - 1) = (c.length : Int) := by rw [w64' (by omega) (by omega)]; omega
    have hr : rd (c ++ [x] ++ b) (c.length : Int) = x := by rw [List.append_assoc]; exact rd_at c b x _ rfl
    by_cases hx : x = 0
    · subst hx
      rw [trimz_snoc_zero]
      refine evStep (ih c (0 :: b) (by omega) (by omega)) fun k => ?_
      simp only [nat_trim.l0]
      rw [w, hr, if_pos (by omega), if_pos (by omega), if_pos (by simp; omega), if_pos rfl]
      simp
    · have ht : trimz (c ++ [x]) = c ++ [x] := trimz_of_top (Top.snoc.2 hx)
      rw [ht]
      refine evStep (Ev.now _) fun k => ?_
      simp only [nat_trim.l0]
      rw [w, hr, if_pos (by omega), if_pos (by omega), if_pos (by simp; omega), if_neg hx, if_pos (by omega), if_pos (by simp; omega)]
      have e : (((c.length + 1 : Nat) : Int)).toNat = (c ++ [x]).length := by simp
      rw [e, List.take_left]
theorem trim_ev (a : List Int) (h : a.length ≤ 4000000000000000000) : Ev (fun k => nat_trim.f k a) (trimz a) := by
  have := trim_loop a.length a [] rfl h
  rw [List.append_nil] at this
  exact evSame this fun _ => rfl
theorem make_loop (b : List Int) : ∀ (a : List Int), Dig 4294967296 (a ++ b) → (a ++ b).length ≤ 10000000000000 → Ev (fun k => nat_Make.l0 k a (a ++ b) (((a ++ b).length : Nat) : Int) (a.length : Int)) (trimz (a ++ b), (0 : Int)) := by
  induction b with
  | nil =>
    intro a ha hl
    rw [List.append_nil] at *
    refine evStep (g := fun k => (nat_trim.f k a).bind fun t => some (t, (0 : Int))) (Ev.bind (trim_ev a (by omega)) (Ev.now _)) fun k => ?_
    simp only [nat_Make.l0]
    rw [if_neg (by omega)]
  | cons x b ih =>
    intro a ha hl
    have hx := ha.right.head
    have e : a ++ x :: b = (a ++ [x]) ++ b := by simp
    have hl2 : a.length + (b.length + 1) ≤ 10000000000000 := by simpa using hl
    have hr : rd (a ++ x :: b) (a.length : Int) = x := rd_at a b x _ rfl
    have w : wrap64 ((a.length : Int) + 1) = (((a ++ [x]).length : Nat) : Int) := by rw [w64' (by omega) (by omega)]; simp
    refine evStep (g := fun k => nat_Make.l0 k (a ++ [x]) (a ++ x :: b) (((a ++ x :: b).length : Nat) : Int) (((a ++ [x]).length : Nat) : Int)) ?_ fun k => ?_
    · have := ih (a ++ [x]) (by rw [← e]; exact ha) (by rw [← e]; exact hl)
      rw [← e] at this
      exact this
    · conv => lhs; unfold nat_Make.l0
      rw [if_pos (by simp; omega), if_pos (by omega), if_pos (by simp; omega), hr, if_neg (by have := hx.2; omega), if_pos (by omega), w]
theorem make_ev (a : List Int) (ha : Dig 4294967296 a) (h : a.length ≤ 10000000000000) : Ev (fun k => nat_Make.f k a) (trimz a, (0 : Int)) := by
  have := make_loop a [] ha h
  refine evSame this fun k => ?_
  unfold nat_Make.f
  rw [if_pos (by simp; omega)]
  rfl
theorem made_ev (a : List Int) (ha : Dig 4294967296 a) (h : a.length ≤ 10000000000000) : Ev (fun k => mul_made.f k a) (trimz a) :=
  evSame (g := fun k => (nat_Make.f k a).bind fun t => some t.1) (Ev.bind (make_ev a ha h) (Ev.now _)) fun _ => rfl

theorem and_low (x : Int) (h0 : 0 ≤ x) (h1 : x < 18446744073709551616) : Go.bits .and .u64 x 4294967295 = x % 4294967296 := by
  rw [u64_and x _ h0 h1 (by omega) (by omega)]
  have : (4294967295 : Int).toNat = 2 ^ 32 - 1 := rfl
  rw [this, Nat.and_two_pow_sub_one_eq_mod]
  omega
theorem mul_bound {a b c d : Int} (ha : 0 ≤ a ∧ a < 4294967296) (hb : 0 ≤ b ∧ b < 4294967296) (hc : 0 ≤ c ∧ c < 4294967296) (hd : 0 ≤ d ∧ d < 4294967296) : 0 ≤ a * b ∧ a * b + c + d < 4294967296 * 4294967296 := by
  have h1 : 0 ≤ a * b := Int.mul_nonneg ha.1 hb.1
  have h2 : a * b ≤ (4294967296 - 1) * (4294967296 - 1) := by
    have h3 : a * b ≤ (4294967296 - 1) * b := Int.mul_le_mul_of_nonneg_right (by omega) hb.1
    have h4 : (4294967296 - 1) * b ≤ (4294967296 - 1) * (4294967296 - 1) := Int.mul_le_mul_of_nonneg_left (by omega) (by decide)
    omega
  refine ⟨h1, ?_⟩
  have e : (4294967296 - 1) * (4294967296 - 1) = 18446744065119617025 := by decide
  have e2 : 4294967296 * 4294967296 = 18446744073709551616 := by decide
  omega
theorem limbMul_val (a b c d : Int) (ha : 0 ≤ a ∧ a < 4294967296) (hb : 0 ≤ b ∧ b < 4294967296) (hc : 0 ≤ c ∧ c < 4294967296) (hd : 0 ≤ d ∧ d < 4294967296) : limb_Mul.f a b c d = some ((a * b + c + d) % 4294967296, (a * b + c + d) / 4294967296) := by
  unfold limb_Mul.f
  obtain ⟨h1, h2⟩ := mul_bound ha hb hc hd
  have e2 : 4294967296 * 4294967296 = 18446744073709551616 := by decide
  rw [and_low a ha.1 (by have := ha.2; omega), and_low b hb.1 (by have := hb.2; omega), and_low c hc.1 (by have := hc.2; omega), and_low d hd.1 (by have := hd.2; omega)]
  rw [Int.emod_eq_of_lt ha.1 ha.2, Int.emod_eq_of_lt hb.1 hb.2, Int.emod_eq_of_lt hc.1 hc.2, Int.emod_eq_of_lt hd.1 hd.2]
  have hc1 := hc.1
  have hd1 := hd.1
  generalize a * b = p at h1 h2
  rw [u64' (x := p) (by omega) (by omega), u64' (x := p + c) (by omega) (by omega), u64' (x := p + c + d) (by omega) (by omega)]
  rw [and_low _ (by omega) (by omega)]
theorem limbAdd_one (c : Int) (hc : 0 ≤ c ∧ c < 4294967296) : limb_Add.f c 0 0 = some (c, 0) := by
  unfold limb_Add.f
  obtain ⟨h0, h1⟩ := hc
  rw [and_low c h0 (by omega), and_low 0 (by omega) (by omega), Int.emod_eq_of_lt h0 h1]
  have e0 : (0 : Int) % 4294967296 = 0 := rfl
  have ec : c + 0 = c := by omega
  rw [e0, ec, u64' h0 (by omega), ec, u64' h0 (by omega), and_low c h0 (by omega), Int.emod_eq_of_lt h0 h1, Int.ediv_eq_zero_of_lt h0 h1]
theorem small_loop (b : List Int) : ∀ (a d : List Int) (m c : Int) (z : List Int), Dig 4294967296 (a ++ b) → Dig 4294967296 d → d.length = a.length → z.length = b.length + 1 → (0 ≤ m ∧ m < 4294967296) → (0 ≤ c ∧ c < 4294967296) → (a ++ b).length ≤ 1000000000000 →
    ∃ r, Dig 4294967296 r ∧ r.length = (a ++ b).length + 1 ∧ dv 4294967296 r = dv 4294967296 d + 4294967296 ^ a.length * (dv 4294967296 b * m + c) ∧ Ev (fun k => mul_Small.l0 k (a ++ b) m (d ++ z) c (a ++ b) (((a ++ b).length : Nat) : Int) (a.length : Int)) (trimz r) := by
  induction b with
  | nil =>
    intro a d m c z ha hd hdl hz hm hc hl
    rw [List.append_nil] at *
    obtain ⟨z0, rfl⟩ : ∃ z0, z = [z0] := List.length_eq_one_iff.1 (by simpa using hz)
    have hdc : Dig 4294967296 (d ++ [c]) := hd.snoc hc
    refine ⟨d ++ [c], hdc, by simp; omega, ?_, ?_⟩
    · rw [dv_snoc, hdl]; simp [dv]
    · refine evStep (g := fun k => (mul_made.f k (d ++ [c])).bind fun t => some t) (Ev.bind (made_ev (d ++ [c]) hdc (by simp; omega)) (Ev.now _)) fun k => ?_
      simp only [mul_Small.l0]
      have e : (d ++ [z0]).set ((a.length : Int)).toNat c = d ++ [c] := by
        rw [Int.toNat_natCast, ← hdl]; simp
      rw [if_neg (by omega), if_pos (by omega), if_pos (by simp; omega), e]
  | cons x b ih =>
    intro a d m c z ha hd hdl hz hm hc hl
    obtain ⟨z0, z1, rfl⟩ : ∃ z0 z1, z = z0 :: z1 := by
      cases z with
      | nil => simp at hz
      | cons z0 z1 => exact ⟨z0, z1, rfl⟩
    have hx := ha.right.head
    have e : a ++ x :: b = (a ++ [x]) ++ b := by simp
    have hl2 : a.length + (b.length + 1) ≤ 1000000000000 := by simpa using hl
    have hr : rd (a ++ x :: b) (a.length : Int) = x := rd_at a b x _ rfl
    have w : wrap64 ((a.length : Int) + 1) = (((a ++ [x]).length : Nat) : Int) := by rw [w64' (by omega) (by omega)]; simp
    have hmul := limbMul_val x m c 0 hx hm hc ⟨by omega, by decide⟩
    obtain ⟨hb1, hb2⟩ := mul_bound hx hm hc ⟨Int.le_refl 0, by decide⟩
    rw [Int.add_zero] at hmul hb2
    have hc0 := hc.1
    have hlo : 0 ≤ (x * m + c) % 4294967296 ∧ (x * m + c) % 4294967296 < 4294967296 := ⟨Int.emod_nonneg _ (by decide), Int.emod_lt_of_pos _ (by decide)⟩
    have hhi : 0 ≤ (x * m + c) / 4294967296 ∧ (x * m + c) / 4294967296 < 4294967296 := by
      refine ⟨Int.ediv_nonneg (by omega) (by decide), ?_⟩
      exact Int.ediv_lt_of_lt_mul (by decide) hb2
    obtain ⟨r, h1, h2, h3, h4⟩ := ih (a ++ [x]) (d ++ [(x * m + c) % 4294967296]) m ((x * m + c) / 4294967296) z1 (by rw [← e]; exact ha) (hd.snoc hlo) (by simp; omega) (by simpa using hz) hm hhi (by rw [← e]; exact hl)
    refine ⟨r, h1, by rw [h2, ← e], ?_, ?_⟩
    · rw [h3, dv_snoc, dv_cons, hdl]
      have hdm := Int.mul_ediv_add_emod (x * m + c) 4294967296
      simp only [List.length_append, List.length_cons, List.length_nil, Nat.zero_add, Int.pow_succ]
      generalize (x * m + c) / 4294967296 = q at hdm
      generalize (x * m + c) % 4294967296 = s at hdm
      have : x * m + c = 4294967296 * q + s := hdm.symm
      grind
    · refine evStep h4 fun k => ?_
      conv => lhs; unfold mul_Small.l0
      have es : (d ++ z0 :: z1).set ((a.length : Int)).toNat ((x * m + c) % 4294967296) = (d ++ [(x * m + c) % 4294967296]) ++ z1 := by
        rw [Int.toNat_natCast, ← hdl]; simp
      rw [if_pos (by simp; omega), if_pos (by omega), if_pos (by simp; omega), hr, hmul]
      simp only [Option.bind_some]
      rw [if_pos (by simp; omega), es, w, e]
theorem small_ev (a : List Int) (m c : Int) (ha : Dig 4294967296 a) (hm : 0 ≤ m ∧ m < 4294967296) (hc : 0 ≤ c ∧ c < 4294967296) (hl : a.length ≤ 1000000000000) :
    ∃ r, Tri.Can 4294967296 r ∧ dv 4294967296 r = dv 4294967296 a * m + c ∧ r.length ≤ a.length + 1 ∧ Ev (fun k => mul_Small.f k a m c) r := by
  obtain ⟨r, h1, h2, h3, h4⟩ := small_loop a [] [] m c (List.replicate (a.length + 1) 0) ha (Dig.nil _) rfl (by simp) hm hc hl
  refine ⟨trimz r, trimz_can h1, ?_, ?_, ?_⟩
  · rw [trimz_dv, h3]; simp [dv]
  · have := trimz_length r
    simp at h2; omega
  · refine evSame h4 fun k => ?_
    unfold mul_Small.f
    have w : wrap64 ((a.length : Int) + 1) = ((a.length + 1 : Nat) : Int) := by rw [w64' (by omega) (by omega)]; omega
    rw [w, if_pos (by omega), if_pos (by omega), limbAdd_one c hc]
    rfl
end Go.Proofs.YthcmjcjgaebciaaDoor.T
-- Out of the translation, by a program (myprint.py).
namespace Go.Proofs.YthcmjcjgaebciaaDoor.T
open Go.RowKit Go.Proofs.YthcmjcjgaebciaaDoorW.PrintWords Go.Proofs.YthcmjcjgaebciaaDoorW.PrintLast Go.Proofs.YthcmjcjgaebciaaDoorW.PrintMore
attribute [local go_sem] max2_int min2_int max_two min_two max_three min_three max_four min_four   -- for this text's walks alone
set_option linter.unusedVariables false
set_option linter.unusedSimpArgs false

/-! ### triviumref02_Trim: function 98 -/
def triviumref02_Trim.l0 : Nat → List Int → Int → Option (List Int)
  | 0, _, _ => none
  | k + 1, x0, x3 => if x3 > 0 then (if 0 ≤ (wrap64 (x3 - 1)) then (if (wrap64 (x3 - 1)) < (x0.length : Int) then (if (rd x0 (wrap64 (x3 - 1))) = 0 then (triviumref02_Trim.l0 k x0 (wrap64 (x3 - 1))) else ((some (([] : List Int) : List Int)).bind fun y220 => (if 0 ≤ x3 then (if x3 ≤ (x0.length : Int) then (if y220.length + (x0.take (x3 : Int).toNat).length < 17592186044416 then (some (y220 ++ (x0.take (x3 : Int).toNat))) else (none)) else (none)) else (none)))) else (none)) else (none)) else ((some (([] : List Int) : List Int)).bind fun y227 => (if 0 ≤ x3 then (if x3 ≤ (x0.length : Int) then (if y227.length + (x0.take (x3 : Int).toNat).length < 17592186044416 then (some (y227 ++ (x0.take (x3 : Int).toNat))) else (none)) else (none)) else (none)))
def triviumref02_Trim.f (k : Nat) (l0 : List Int) : Option (List Int) := triviumref02_Trim.l0 k l0 (l0.length : Int)
theorem triviumref02_Trim.mono_l : ∀ k, (∀ y0 y1, LeO (triviumref02_Trim.l0 k y0 y1) (triviumref02_Trim.l0 (k + 1) y0 y1))
  | 0 => fun _ _ r h => by simp [triviumref02_Trim.l0] at h
  | k + 1 => by
    have ih0 := triviumref02_Trim.mono_l k
    · intro y0 y1
      unfold triviumref02_Trim.l0
      repeat' first
      | (with_reducible exact ih0 _ _)
      | (with_reducible exact LeO.refl _)
      | (with_reducible exact LeO.none _)
      | (with_reducible refine LeO.ite ?_ ?_)
      | (with_reducible refine LeO.bind ?_ (fun _ => ?_))
      | exact ih0 _ _
      | exact LeO.none _
      | refine LeO.ite ?_ ?_
      | refine LeO.bind ?_ (fun _ => ?_)
theorem triviumref02_Trim.mono : ∀ a0 k, LeO (triviumref02_Trim.f k a0) (triviumref02_Trim.f (k + 1) a0) := by
  intro a0 k
  have ih0 := triviumref02_Trim.mono_l k
  unfold triviumref02_Trim.f
  repeat' first
      | (with_reducible exact ih0 _ _)
      | (with_reducible exact LeO.refl _)
      | (with_reducible exact LeO.none _)
      | (with_reducible refine LeO.ite ?_ ?_)
      | (with_reducible refine LeO.bind ?_ (fun _ => ?_))
      | exact ih0 _ _
      | exact LeO.none _
      | refine LeO.ite ?_ ?_
      | refine LeO.bind ?_ (fun _ => ?_)
set_option maxHeartbeats 8000000 in
set_option maxRecDepth 100000 in
theorem triviumref02_Trim.calls (k : Nat) (A0 : Option Addr) (c0 : Nat) (l0 : List Int) (r : List Int) (w : World) (hr0 : Kd.C (Kd.int .i64) w A0 l0.length l0) (hc0 : l0.length ≤ c0) (h : triviumref02_Trim.f k l0 = some r) :
    Calls Tryd.prog 98 #[.slice A0 l0.length c0] w fun e w' => ∃ v0_ : Value, e = .returned (v0_) ∧ Kd.R (Kd.int .i64) 3 w' w.heap.size (fun _ => True) v0_ r ∧ Below w.heap.size w w' := by
  have HR0 := Aside0.mk hr0
  have HC0 := Aside0.mk hc0
  clear hr0 hc0
  have HB := Aside0.mk (Below.refl w.heap.size w)
  have H : (triviumref02_Trim.l0 k l0 (l0.length : Int)) = some r := h
  clear h
  have H' := Aside0.mk H
  clear H
  go_enter Tryd.func98, Tryd.ntmps98
  go_wp2
  go_loopg [3] k (fun kq v3 w' => ∃ (x3_1 : Int), v3 = .int .i64 x3_1 ∧ Aside0 (triviumref02_Trim.l0 kq l0 x3_1 = some r) ∧ Aside0 (kq ≤ k) ∧ Aside0 (Below w.heap.size w w'))
  case atStart => exact ⟨((l0.length : Int)), (by first | rfl | (simp; done) | (simp [*]; done) | (congr 1; omega) | (simp; omega)), H', ⟨Nat.le_refl _⟩, ⟨by repeat (first | (with_reducible first | exact HB.out | apply below_alloc | apply pw_below_drewN | apply below_drew1) | exact HB.out)⟩⟩
  case round =>
    clear H'
    obtain ⟨x3_1, rfl, HA, HK1, HB⟩ := hrel
    cases gk with
    | zero => exact absurd HA.out (by simp [triviumref02_Trim.l0])
    | succ k1 =>
      have H := HA.out
      clear HA
      simp only [triviumref02_Trim.l0] at H
      by_cases c2 : x3_1 > 0
      · rw [if_pos c2] at H
        have c2b0 : decide (0 < x3_1) = true := decide_eq_true c2
        clear c2
        obtain ⟨ji3, hji3⟩ : ∃ j_ : Int, (wrap64 (x3_1 - 1)) = j_ := ⟨_, rfl⟩
        replace H : (if 0 ≤ (ji3) then (if (ji3) < (l0.length : Int) then (if (rd l0 (ji3)) = 0 then (triviumref02_Trim.l0 k1 l0 ji3) else ((some (([] : List Int) : List Int)).bind fun y220 => (if 0 ≤ x3_1 then (if x3_1 ≤ (l0.length : Int) then (if y220.length + (l0.take (x3_1 : Int).toNat).length < 17592186044416 then (some (y220 ++ (l0.take (x3_1 : Int).toNat))) else (none)) else (none)) else (none)))) else (none)) else (none)) = some r := by first | (rw [hji3] at H; exact H) | (simp only [hji3] at H ⊢; exact H)
        have hji3w : (IntKind.i64.wrap (x3_1 - 1)) = ji3 := (i64_w _).trans hji3
        by_cases c4 : 0 ≤ (ji3)
        · rw [if_pos c4] at H
          have c4b0 : decide (0 ≤ (ji3)) = true := decide_eq_true c4
          clear c4
          by_cases c5 : (ji3) < (l0.length : Int)
          · rw [if_pos c5] at H
            have c5b0 : decide ((ji3) < (l0.length : Int)) = true := decide_eq_true c5
            clear c5
            by_cases c6 : (rd l0 (ji3)) = 0
            · rw [if_pos c6] at H
              have c6b0 : ((rd l0 (ji3)) == 0) = true := beq_iff_eq.mpr c6
              have c6b1 : ((rd l0 (ji3)) != 0) = false := bne_eq_false_iff_eq.mpr c6
              clear c6
              have H' := Aside0.mk H
              clear H
              have p219 : 0 ≤ ((ji3) : Int) := of_decide_eq_true (by first | (with_reducible assumption) | assumption)
              have q219 : (ji3) < (l0.length : Int) := of_decide_eq_true (by first | (with_reducible assumption) | assumption)
              obtain ⟨ad219, e219, hx219_0⟩ := Kd.at_int HR0.out (ji3) p219 q219
              cases e219
              replace hx219_0 := (HB.out.cell (World.block_lt_of_cell? w _ hx219_0)).trans hx219_0
              replace p219 := eq_true p219
              replace q219 := eq_true q219
              go_wp2
              go_roundg k1
              case measure => have := HK1.out; omega
              case rel => exact ⟨(ji3), (by first | rfl | (simp; done) | (simp only [← hji3] <;> (first | rfl | simp)) | (simp [*]; done)), H', ⟨by have := HK1.out; omega⟩, ⟨by repeat (first | (with_reducible first | exact HB.out | apply below_alloc | apply pw_below_drewN | apply below_drew1) | exact HB.out)⟩⟩
            · rw [if_neg c6] at H
              have c6b0 : ((rd l0 (ji3)) == 0) = false := beq_eq_false_iff_ne.mpr c6
              have c6b1 : ((rd l0 (ji3)) != 0) = true := bne_iff_ne.mpr c6
              obtain ⟨y220, hy220⟩ : ∃ y_ : List Int, y_ = (([] : List Int)) := ⟨_, rfl⟩
              replace H : (if 0 ≤ x3_1 then (if x3_1 ≤ (l0.length : Int) then (if y220.length + (l0.take (x3_1 : Int).toNat).length < 17592186044416 then (some (y220 ++ (l0.take (x3_1 : Int).toNat))) else (none)) else (none)) else (none)) = some r := by first | (rw [hy220]; with_reducible exact H) | (have H2_ := (Option.bind_some _ _).symm.trans H; rw [hy220]; with_reducible exact H2_) | (have H2_ := (Option.bind_some _ _).symm.trans H; with_reducible exact H2_) | with_reducible exact H | (rw [hy220]; exact H) | exact H
              have Ny220 := Aside0.mk hy220
              clear hy220
              by_cases c7 : 0 ≤ x3_1
              · rw [if_pos c7] at H
                have c7b0 := eq_true c7
                have c7b1 : decide (0 ≤ x3_1) = true := decide_eq_true c7
                clear c7
                by_cases c8 : x3_1 ≤ (l0.length : Int)
                · rw [if_pos c8] at H
                  have c8b0 := eq_true c8
                  have c8b1 : decide (x3_1 ≤ (l0.length : Int)) = true := decide_eq_true c8
                  clear c8
                  by_cases c9 : y220.length + (l0.take (x3_1 : Int).toNat).length < 17592186044416
                  · rw [if_pos c9] at H
                    have LMc9 := Aside0.mk c9
                    clear c9
                    obtain ⟨y224, hy224⟩ : ∃ y_ : List Int, y_ = (y220 ++ (l0.take (x3_1 : Int).toNat)) := ⟨_, rfl⟩
                    replace H : (some y224) = some r := by first | (rw [hy224]; with_reducible exact H) | (have H2_ := (Option.bind_some _ _).symm.trans H; rw [hy224]; with_reducible exact H2_) | (have H2_ := (Option.bind_some _ _).symm.trans H; with_reducible exact H2_) | with_reducible exact H | (rw [hy224]; exact H) | exact H
                    have Ny224 := Aside0.mk hy224
                    clear hy224
                    obtain rfl := Option.some.inj H
                    have p219 : 0 ≤ ((ji3) : Int) := of_decide_eq_true (by first | (with_reducible assumption) | assumption)
                    have q219 : (ji3) < (l0.length : Int) := of_decide_eq_true (by first | (with_reducible assumption) | assumption)
                    obtain ⟨ad219, e219, hx219_0⟩ := Kd.at_int HR0.out (ji3) p219 q219
                    cases e219
                    replace hx219_0 := (HB.out.cell (World.block_lt_of_cell? w _ hx219_0)).trans hx219_0
                    replace p219 := eq_true p219
                    replace q219 := eq_true q219
                    go_wp2_with (first | ((with_reducible refine gate_dst (N := 18) rfl ?_); refine Kd.R_lit (Kd.int .i64) _ 3 ?hg (N := 18) ?hd (xs := ([] : List Int)) (inner := []) (ok := fun _ => True) (okp := fun _ => True) ?hr ?hp (fun _ hk => hk) trivial (Below.refl _ _) (Nat.le_refl _) (by simp) ?_; (case hd => rfl); (case hg => rfl); (case hr => first | (go_simp; done) | (go_simp; rfl)); (case hp => exact (Reps.none _ _)); intro v221 w10 ho11 hb hg_ hnew_; clear hg_ hnew_; (first | rw [← Ny220.out] at ho11 | (simp only [Int.reduceToNat] at ho11; rw [← Ny220.out] at ho11)); have n0_ := Aside0.mk (Kd.R_lower ho11 (below_size (by repeat (first | (with_reducible first | exact HB.out | apply below_alloc | apply pw_below_drewN | apply below_drew1) | exact HB.out)))); have n1_ := Aside0.mk (below_step (by repeat (first | (with_reducible first | exact HB.out | apply below_alloc | apply pw_below_drewN | apply below_drew1) | exact HB.out)) hb); clear HB; have HO222 := n0_; have HB := n1_; clear n0_ n1_; clear hb ho11; obtain ⟨i012, hi012, _, hsz12, _⟩ := info_parts info3; obtain ⟨hcut12, hA12, hC12⟩ := print_take_of (P := Tryd.prog) (Value.int .i64) 0 60 3 .i64 Tryd.underlying60 hi012 hsz12 (some ad219) c0 l0 x3_1 (of_decide_eq_true (by first | (with_reducible assumption) | assumption)) (of_decide_eq_true (by first | (with_reducible assumption) | assumption)) HC0.out; have HR223 := Aside0.mk (Kd.C_of_reads (h1 := fun _ => rfl) (hA12 _ (Kd.reads_of_C HR0.out))); have HC223 := Aside0.mk hC12; clear hA12 hC12 hi012 hsz12) | ((with_reducible refine gate_builtin (b := .append) (xs := #[.tmp 18, .tmp 21]) rfl ?_); at_builtin; refine Kd.R_append_rows (Kd.int .i64) (w0 := w) w.heap.size rfl (.tmp 18) (.tmp 21) 60 3 (.int .i64 0) 8 rfl Tryd.underlying60 info3 rfl (by decide) (by omega) v221 y220 (l0.take (x3_1 : Int).toNat) _ _ _ (fun _ => True) (fun _ => False) rfl rfl ?aO ?aR (fun _ _ h => h) (fun _ h => h.elim) ?aF ?aB ?aS ?aL ?_; (case aR => first | (refine rr_len (show (l0.take (x3_1 : Int).toNat).length = x3_1.toNat from (by rw [List.length_take]; have h_ : (x3_1 : Int) ≤ (l0.length : Int) := of_decide_eq_true (by first | (with_reducible assumption) | assumption); omega)) ?_; repeat (first | exact (Kd.C_below HR223.out HB.out) | (with_reducible refine Kd.C_alloc ?_ _) | (with_reducible refine Kd.C_drewN ?_ _) | (with_reducible refine Kd.C_drew ?_))) | (repeat (first | exact (Kd.C_below HR223.out HB.out) | (with_reducible refine Kd.C_alloc ?_ _) | (with_reducible refine Kd.C_drewN ?_ _) | (with_reducible refine Kd.C_drew ?_)))); (case aB => exact (by repeat (first | (with_reducible first | exact HB.out | apply below_alloc | apply pw_below_drewN | apply below_drew1) | exact HB.out))); (case aF => exact (fun _ _ => trivial)); (case aO => exact (by (with_reducible repeat (first | apply Kd.R_alloc | apply Kd.R_drewN | apply Kd.R_drew)); exact HO222.out)); (case aS => exact (below_size (by repeat (first | (with_reducible first | exact HB.out | apply below_alloc | apply pw_below_drewN | apply below_drew1) | exact HB.out)))); (case aL => have := LMc9.out; have hlx_ := (show (l0.take (x3_1 : Int).toNat).length = x3_1.toNat from (by rw [List.length_take]; have h_ : (x3_1 : Int) ≤ (l0.length : Int) := of_decide_eq_true (by first | (with_reducible assumption) | assumption); omega)); omega); intro v225 w13 ho hb hg hat; rw [← Ny224.out] at ho; have n0_ := Aside0.mk (hb); have n1_ := Aside0.mk (ho); clear HB; clear HO222; have HB := n0_; have HO226 := n1_; clear n0_ n1_; clear ho hb hg hat))
                    go_ret
                    exact ⟨_, by first | rfl | (simp only [u32_w, u64_u32, i64_u32]; rfl) | (simp [errW_none, errW_some] <;> rfl) | (simp only [← hji3]; first | rfl | (simp only [u32_w, u64_u32, i64_u32]; rfl) | (simp [errW_none, errW_some] <;> rfl)) | (simp [*, errW_none, errW_some] <;> rfl), by (with_reducible repeat (first | apply Kd.R_alloc | apply Kd.R_drewN | apply Kd.R_drew)); exact HO226.out, by repeat (first | (with_reducible first | exact HB.out | apply below_alloc | apply pw_below_drewN | apply below_drew1) | exact HB.out)⟩
                  · rw [if_neg c9] at H
                    exact absurd H (by simp)
                · rw [if_neg c8] at H
                  exact absurd H (by simp)
              · rw [if_neg c7] at H
                exact absurd H (by simp)
          · rw [if_neg c5] at H
            exact absurd H (by simp)
        · rw [if_neg c4] at H
          exact absurd H (by simp)
      · rw [if_neg c2] at H
        have c2b0 : decide (0 < x3_1) = false := decide_eq_false c2
        clear c2
        obtain ⟨y227, hy227⟩ : ∃ y_ : List Int, y_ = (([] : List Int)) := ⟨_, rfl⟩
        replace H : (if 0 ≤ x3_1 then (if x3_1 ≤ (l0.length : Int) then (if y227.length + (l0.take (x3_1 : Int).toNat).length < 17592186044416 then (some (y227 ++ (l0.take (x3_1 : Int).toNat))) else (none)) else (none)) else (none)) = some r := by first | (rw [hy227]; with_reducible exact H) | (have H2_ := (Option.bind_some _ _).symm.trans H; rw [hy227]; with_reducible exact H2_) | (have H2_ := (Option.bind_some _ _).symm.trans H; with_reducible exact H2_) | with_reducible exact H | (rw [hy227]; exact H) | exact H
        have Ny227 := Aside0.mk hy227
        clear hy227
        by_cases c14 : 0 ≤ x3_1
        · rw [if_pos c14] at H
          have c14b0 := eq_true c14
          have c14b1 : decide (0 ≤ x3_1) = true := decide_eq_true c14
          clear c14
          by_cases c15 : x3_1 ≤ (l0.length : Int)
          · rw [if_pos c15] at H
            have c15b0 := eq_true c15
            have c15b1 : decide (x3_1 ≤ (l0.length : Int)) = true := decide_eq_true c15
            clear c15
            by_cases c16 : y227.length + (l0.take (x3_1 : Int).toNat).length < 17592186044416
            · rw [if_pos c16] at H
              have LMc16 := Aside0.mk c16
              clear c16
              obtain ⟨y231, hy231⟩ : ∃ y_ : List Int, y_ = (y227 ++ (l0.take (x3_1 : Int).toNat)) := ⟨_, rfl⟩
              replace H : (some y231) = some r := by first | (rw [hy231]; with_reducible exact H) | (have H2_ := (Option.bind_some _ _).symm.trans H; rw [hy231]; with_reducible exact H2_) | (have H2_ := (Option.bind_some _ _).symm.trans H; with_reducible exact H2_) | with_reducible exact H | (rw [hy231]; exact H) | exact H
              have Ny231 := Aside0.mk hy231
              clear hy231
              obtain rfl := Option.some.inj H
              go_wp2_with (first | ((with_reducible refine gate_dst (N := 18) rfl ?_); refine Kd.R_lit (Kd.int .i64) _ 3 ?hg (N := 18) ?hd (xs := ([] : List Int)) (inner := []) (ok := fun _ => True) (okp := fun _ => True) ?hr ?hp (fun _ hk => hk) trivial (Below.refl _ _) (Nat.le_refl _) (by simp) ?_; (case hd => rfl); (case hg => rfl); (case hr => first | (go_simp; done) | (go_simp; rfl)); (case hp => exact (Reps.none _ _)); intro v228 w17 ho18 hb hg_ hnew_; clear hg_ hnew_; (first | rw [← Ny227.out] at ho18 | (simp only [Int.reduceToNat] at ho18; rw [← Ny227.out] at ho18)); have n0_ := Aside0.mk (Kd.R_lower ho18 (below_size (by repeat (first | (with_reducible first | exact HB.out | apply below_alloc | apply pw_below_drewN | apply below_drew1) | exact HB.out)))); have n1_ := Aside0.mk (below_step (by repeat (first | (with_reducible first | exact HB.out | apply below_alloc | apply pw_below_drewN | apply below_drew1) | exact HB.out)) hb); clear HB; have HO229 := n0_; have HB := n1_; clear n0_ n1_; clear hb ho18; obtain ⟨i019, hi019, _, hsz19, _⟩ := info_parts info3; obtain ⟨hcut19, hA19, hC19⟩ := print_take_of (P := Tryd.prog) (Value.int .i64) 0 60 3 .i64 Tryd.underlying60 hi019 hsz19 A0 c0 l0 x3_1 (of_decide_eq_true (by first | (with_reducible assumption) | assumption)) (of_decide_eq_true (by first | (with_reducible assumption) | assumption)) HC0.out; have HR230 := Aside0.mk (Kd.C_of_reads (h1 := fun _ => rfl) (hA19 _ (Kd.reads_of_C HR0.out))); have HC230 := Aside0.mk hC19; clear hA19 hC19 hi019 hsz19) | ((with_reducible refine gate_builtin (b := .append) (xs := #[.tmp 18, .tmp 21]) rfl ?_); at_builtin; refine Kd.R_append_rows (Kd.int .i64) (w0 := w) w.heap.size rfl (.tmp 18) (.tmp 21) 60 3 (.int .i64 0) 8 rfl Tryd.underlying60 info3 rfl (by decide) (by omega) v228 y227 (l0.take (x3_1 : Int).toNat) _ _ _ (fun _ => True) (fun _ => False) rfl rfl ?aO ?aR (fun _ _ h => h) (fun _ h => h.elim) ?aF ?aB ?aS ?aL ?_; (case aR => first | (refine rr_len (show (l0.take (x3_1 : Int).toNat).length = x3_1.toNat from (by rw [List.length_take]; have h_ : (x3_1 : Int) ≤ (l0.length : Int) := of_decide_eq_true (by first | (with_reducible assumption) | assumption); omega)) ?_; repeat (first | exact (Kd.C_below HR230.out HB.out) | (with_reducible refine Kd.C_alloc ?_ _) | (with_reducible refine Kd.C_drewN ?_ _) | (with_reducible refine Kd.C_drew ?_))) | (repeat (first | exact (Kd.C_below HR230.out HB.out) | (with_reducible refine Kd.C_alloc ?_ _) | (with_reducible refine Kd.C_drewN ?_ _) | (with_reducible refine Kd.C_drew ?_)))); (case aB => exact (by repeat (first | (with_reducible first | exact HB.out | apply below_alloc | apply pw_below_drewN | apply below_drew1) | exact HB.out))); (case aF => exact (fun _ _ => trivial)); (case aO => exact (by (with_reducible repeat (first | apply Kd.R_alloc | apply Kd.R_drewN | apply Kd.R_drew)); exact HO229.out)); (case aS => exact (below_size (by repeat (first | (with_reducible first | exact HB.out | apply below_alloc | apply pw_below_drewN | apply below_drew1) | exact HB.out)))); (case aL => have := LMc16.out; have hlx_ := (show (l0.take (x3_1 : Int).toNat).length = x3_1.toNat from (by rw [List.length_take]; have h_ : (x3_1 : Int) ≤ (l0.length : Int) := of_decide_eq_true (by first | (with_reducible assumption) | assumption); omega)); omega); intro v232 w20 ho hb hg hat; rw [← Ny231.out] at ho; have n0_ := Aside0.mk (hb); have n1_ := Aside0.mk (ho); clear HB; clear HO229; have HB := n0_; have HO233 := n1_; clear n0_ n1_; clear ho hb hg hat))
              go_ret
              exact ⟨_, by first | rfl | (simp only [u32_w, u64_u32, i64_u32]; rfl) | (simp [errW_none, errW_some] <;> rfl) | (simp [*, errW_none, errW_some] <;> rfl), by (with_reducible repeat (first | apply Kd.R_alloc | apply Kd.R_drewN | apply Kd.R_drew)); exact HO233.out, by repeat (first | (with_reducible first | exact HB.out | apply below_alloc | apply pw_below_drewN | apply below_drew1) | exact HB.out)⟩
            · rw [if_neg c16] at H
              exact absurd H (by simp)
          · rw [if_neg c15] at H
            exact absurd H (by simp)
        · rw [if_neg c14] at H
          exact absurd H (by simp)

end Go.Proofs.YthcmjcjgaebciaaDoor.T
-- Out of the translation, by a program (myprint.py).
namespace Go.Proofs.YthcmjcjgaebciaaDoor.T
open Go.RowKit Go.Proofs.YthcmjcjgaebciaaDoorW.PrintWords Go.Proofs.YthcmjcjgaebciaaDoorW.PrintLast Go.Proofs.YthcmjcjgaebciaaDoorW.PrintMore
attribute [local go_sem] max2_int min2_int max_two min_two max_three min_three max_four min_four   -- for this text's walks alone
set_option linter.unusedVariables false
set_option linter.unusedSimpArgs false

/-! ### triviumref02_MulAdd: function 75 -/
mutual
def triviumref02_MulAdd.l0 : Nat → List Int → Int → Int → List Int → Int → Option (List Int)
  | 0, _, _, _, _, _ => none
  | k + 1, x0, x1, x2, x7, x8 => if x8 < (x0.length : Int) then (if 0 ≤ x8 then (if x7.length < 17592186044416 then (triviumref02_MulAdd.l0 k x0 x1 (wrap64 (Int.tdiv (wrap64 (x2 + (wrap64 ((rd x0 x8) * x1)))) 10000)) (x7 ++ [Int.tmod (wrap64 (x2 + (wrap64 ((rd x0 x8) * x1)))) 10000]) (wrap64 (x8 + 1))) else (none)) else (none)) else (triviumref02_MulAdd.l1 k x2 x7)
def triviumref02_MulAdd.l1 : Nat → Int → List Int → Option (List Int)
  | 0, _, _ => none
  | k + 1, x2, x7 => if x2 > 0 then (if x7.length < 17592186044416 then (triviumref02_MulAdd.l1 k (wrap64 (Int.tdiv x2 10000)) (x7 ++ [Int.tmod x2 10000])) else (none)) else ((triviumref02_Trim.f k x7).bind fun t244 => (some t244))
end
def triviumref02_MulAdd.f (k : Nat) (l0 : List Int) (a1 : Int) (a2 : Int) : Option (List Int) := triviumref02_MulAdd.l0 k l0 a1 a2 (([] : List Int)) 0
theorem triviumref02_MulAdd.mono_l : ∀ k, (∀ y0 y1 y2 y3 y4, LeO (triviumref02_MulAdd.l0 k y0 y1 y2 y3 y4) (triviumref02_MulAdd.l0 (k + 1) y0 y1 y2 y3 y4)) ∧ (∀ y0 y1, LeO (triviumref02_MulAdd.l1 k y0 y1) (triviumref02_MulAdd.l1 (k + 1) y0 y1))
  | 0 => ⟨fun _ _ _ _ _ r h => by simp [triviumref02_MulAdd.l0] at h, fun _ _ r h => by simp [triviumref02_MulAdd.l1] at h⟩
  | k + 1 => by
    obtain ⟨ih0, ih1⟩ := triviumref02_MulAdd.mono_l k
    refine ⟨?_, ?_⟩
    · intro y0 y1 y2 y3 y4
      unfold triviumref02_MulAdd.l0
      repeat' first
      | (with_reducible exact ih0 _ _ _ _ _)
      | (with_reducible exact ih1 _ _)
      | (with_reducible exact triviumref02_Trim.mono _ _)
      | (with_reducible exact LeO.refl _)
      | (with_reducible exact LeO.none _)
      | (with_reducible refine LeO.ite ?_ ?_)
      | (with_reducible refine LeO.bind ?_ (fun _ => ?_))
      | exact ih0 _ _ _ _ _
      | exact ih1 _ _
      | exact triviumref02_Trim.mono _ _
      | exact LeO.none _
      | refine LeO.ite ?_ ?_
      | refine LeO.bind ?_ (fun _ => ?_)
    · intro y0 y1
      unfold triviumref02_MulAdd.l1
      repeat' first
      | (with_reducible exact ih0 _ _ _ _ _)
      | (with_reducible exact ih1 _ _)
      | (with_reducible exact triviumref02_Trim.mono _ _)
      | (with_reducible exact LeO.refl _)
      | (with_reducible exact LeO.none _)
      | (with_reducible refine LeO.ite ?_ ?_)
      | (with_reducible refine LeO.bind ?_ (fun _ => ?_))
      | exact ih0 _ _ _ _ _
      | exact ih1 _ _
      | exact triviumref02_Trim.mono _ _
      | exact LeO.none _
      | refine LeO.ite ?_ ?_
      | refine LeO.bind ?_ (fun _ => ?_)
theorem triviumref02_MulAdd.mono : ∀ a0 a1 a2 k, LeO (triviumref02_MulAdd.f k a0 a1 a2) (triviumref02_MulAdd.f (k + 1) a0 a1 a2) := by
  intro a0 a1 a2 k
  obtain ⟨ih0, ih1⟩ := triviumref02_MulAdd.mono_l k
  unfold triviumref02_MulAdd.f
  repeat' first
      | (with_reducible exact ih0 _ _ _ _ _)
      | (with_reducible exact ih1 _ _)
      | (with_reducible exact triviumref02_Trim.mono _ _)
      | (with_reducible exact LeO.refl _)
      | (with_reducible exact LeO.none _)
      | (with_reducible refine LeO.ite ?_ ?_)
      | (with_reducible refine LeO.bind ?_ (fun _ => ?_))
      | exact ih0 _ _ _ _ _
      | exact ih1 _ _
      | exact triviumref02_Trim.mono _ _
      | exact LeO.none _
      | refine LeO.ite ?_ ?_
      | refine LeO.bind ?_ (fun _ => ?_)
set_option maxHeartbeats 8000000 in
set_option maxRecDepth 100000 in
theorem triviumref02_MulAdd.calls (k : Nat) (A0 : Option Addr) (c0 : Nat) (l0 : List Int) (a1 : Int) (a2 : Int) (r : List Int) (w : World) (hr0 : Kd.C (Kd.int .i64) w A0 l0.length l0) (hc0 : l0.length ≤ c0) (h : triviumref02_MulAdd.f k l0 a1 a2 = some r) :
    Calls Tryd.prog 75 #[.slice A0 l0.length c0, .int .i64 a1, .int .i64 a2] w fun e w' => ∃ v0_ : Value, e = .returned (v0_) ∧ Kd.R (Kd.int .i64) 3 w' w.heap.size (fun _ => True) v0_ r ∧ Below w.heap.size w w' := by
  have HR0 := Aside0.mk hr0
  have HC0 := Aside0.mk hc0
  clear hr0 hc0
  have HB := Aside0.mk (Below.refl w.heap.size w)
  have H : (triviumref02_MulAdd.l0 k l0 a1 a2 (([] : List Int)) 0) = some r := h
  clear h
  obtain ⟨y234, hy234⟩ : ∃ y_ : List Int, y_ = (([] : List Int)) := ⟨_, rfl⟩
  replace H : (triviumref02_MulAdd.l0 k l0 a1 a2 y234 0) = some r := by first | (rw [hy234]; with_reducible exact H) | (have H2_ := (Option.bind_some _ _).symm.trans H; rw [hy234]; with_reducible exact H2_) | (have H2_ := (Option.bind_some _ _).symm.trans H; with_reducible exact H2_) | with_reducible exact H | (rw [hy234]; exact H) | exact H
  have Ny234 := Aside0.mk hy234
  clear hy234
  have H' := Aside0.mk H
  clear H
  go_enter Tryd.func75, Tryd.ntmps75
  go_wp2_with (first | ((with_reducible refine gate_dst (N := 9) rfl ?_); refine Kd.R_lit (Kd.int .i64) _ 3 ?hg (N := 9) ?hd (xs := ([] : List Int)) (inner := []) (ok := fun _ => True) (okp := fun _ => True) ?hr ?hp (fun _ hk => hk) trivial (Below.refl _ _) (Nat.le_refl _) (by simp) ?_; (case hd => rfl); (case hg => rfl); (case hr => first | (go_simp; done) | (go_simp; rfl)); (case hp => exact (Reps.none _ _)); intro v235 w4 ho5 hb hg_ hnew_; clear hg_ hnew_; (first | rw [← Ny234.out] at ho5 | (simp only [Int.reduceToNat] at ho5; rw [← Ny234.out] at ho5)); have n0_ := Aside0.mk (Kd.R_lower ho5 (below_size (by repeat (first | (with_reducible first | exact HB.out | apply below_alloc | apply pw_below_drewN | apply below_drew1) | exact HB.out)))); have n1_ := Aside0.mk (below_step (by repeat (first | (with_reducible first | exact HB.out | apply below_alloc | apply pw_below_drewN | apply below_drew1) | exact HB.out)) hb); clear HB; have HO236 := n0_; have HB := n1_; clear n0_ n1_; clear hb ho5))
  go_loopg [2, 7, 8] k (fun kq v2 v7 v8 w' => ∃ (x2_1 : Int) (x7_1 : List Int) (x8_1 : Int), v2 = .int .i64 x2_1 ∧ v8 = .int .i64 x8_1 ∧ Aside0 (triviumref02_MulAdd.l0 kq l0 a1 x2_1 x7_1 x8_1 = some r) ∧ Aside0 (kq ≤ k) ∧ Aside0 (Kd.R (Kd.int .i64) 3 w' w.heap.size (fun _ => True) v7 x7_1) ∧ Aside0 (Below w.heap.size w w'))
  case atStart => exact ⟨(a2), (y234), (0), (by first | rfl | (simp; done) | (simp [*]; done) | (congr 1; omega) | (simp; omega)), (by first | rfl | (simp; done) | (simp [*]; done) | (congr 1; omega) | (simp; omega)), H', ⟨Nat.le_refl _⟩, ⟨by (with_reducible repeat (first | apply Kd.R_alloc | apply Kd.R_drewN | apply Kd.R_drew)); exact HO236.out⟩, ⟨by repeat (first | (with_reducible first | exact HB.out | apply below_alloc | apply pw_below_drewN | apply below_drew1) | exact HB.out)⟩⟩
  case round =>
    clear H'
    try clear p2
    obtain ⟨x2_1, x7_1, x8_1, rfl, rfl, HA, HK1, HO_7, HB⟩ := hrel
    cases gk with
    | zero => exact absurd HA.out (by simp [triviumref02_MulAdd.l0])
    | succ k1 =>
      have H := HA.out
      clear HA
      simp only [triviumref02_MulAdd.l0] at H
      by_cases c6 : x8_1 < (l0.length : Int)
      · rw [if_pos c6] at H
        have c6b0 : decide (x8_1 < (l0.length : Int)) = true := decide_eq_true c6
        clear c6
        by_cases c7 : 0 ≤ x8_1
        · rw [if_pos c7] at H
          have c7b0 : decide (0 ≤ x8_1) = true := decide_eq_true c7
          clear c7
          by_cases c8 : x7_1.length < 17592186044416
          · rw [if_pos c8] at H
            have LMc8 := Aside0.mk c8
            clear c8
            obtain ⟨y238, hy238⟩ : ∃ y_ : List Int, y_ = (x7_1 ++ [Int.tmod (wrap64 (x2_1 + (wrap64 ((rd l0 x8_1) * a1)))) 10000]) := ⟨_, rfl⟩
            replace H : (triviumref02_MulAdd.l0 k1 l0 a1 (wrap64 (Int.tdiv (wrap64 (x2_1 + (wrap64 ((rd l0 x8_1) * a1)))) 10000)) y238 (wrap64 (x8_1 + 1))) = some r := by first | (rw [hy238]; with_reducible exact H) | (have H2_ := (Option.bind_some _ _).symm.trans H; rw [hy238]; with_reducible exact H2_) | (have H2_ := (Option.bind_some _ _).symm.trans H; with_reducible exact H2_) | with_reducible exact H | (rw [hy238]; exact H) | exact H
            have Ny238 := Aside0.mk hy238
            clear hy238
            have H' := Aside0.mk H
            clear H
            have p237 : 0 ≤ (x8_1 : Int) := of_decide_eq_true (by first | (with_reducible assumption) | assumption)
            have q237 : x8_1 < (l0.length : Int) := of_decide_eq_true (by first | (with_reducible assumption) | assumption)
            obtain ⟨ad237, e237, hx237_0⟩ := Kd.at_int HR0.out x8_1 p237 q237
            cases e237
            replace hx237_0 := (HB.out.cell (World.block_lt_of_cell? w _ hx237_0)).trans hx237_0
            replace p237 := eq_true p237
            replace q237 := eq_true q237
            go_wp2_with (first | ((with_reducible refine gate_builtin (b := .append) (xs := #[.tmp 24, .tmp 27]) rfl ?_); at_builtin; refine Kd.R_append (Kd.int .i64) (w0 := w) w.heap.size rfl (.tmp 24) (.tmp 27) 60 3 (.int .i64 0) 8 rfl Tryd.underlying60 info3 rfl (by decide) (by omega) u7 x7_1 (Int.tmod (wrap64 (x2_1 + (wrap64 ((rd l0 x8_1) * a1)))) 10000) [.int .i64 (Int.tmod (wrap64 (x2_1 + (wrap64 ((rd l0 x8_1) * a1)))) 10000)] (fun _ => True) (fun _ => False) rfl rfl ?aP (fun _ hk => hk.elim) ?aF ?aO ?aB ?aS ?aL ?_; (case aP => exact rfl); (case aB => exact (by repeat (first | (with_reducible first | exact HB.out | apply below_alloc | apply pw_below_drewN | apply below_drew1) | exact HB.out))); (case aF => exact (fun _ _ => trivial)); (case aO => exact (by (with_reducible repeat (first | apply Kd.R_alloc | apply Kd.R_drewN | apply Kd.R_drew)); exact HO_7.out)); (case aS => exact (below_size (by repeat (first | (with_reducible first | exact HB.out | apply below_alloc | apply pw_below_drewN | apply below_drew1) | exact HB.out)))); (case aL => have := LMc8.out; omega); intro v239 w9 ho hb hg hat; rw [← Ny238.out] at ho; have n0_ := Aside0.mk (hb); have n1_ := Aside0.mk (ho); clear HB; clear HO_7; have HB := n0_; have HO240 := n1_; clear n0_ n1_; clear ho hb hg hat))
            go_roundg k1
            case measure => have := HK1.out; omega
            case rel => exact ⟨(wrap64 (Int.tdiv (wrap64 (x2_1 + (wrap64 ((rd l0 x8_1) * a1)))) 10000)), (y238), (wrap64 (x8_1 + 1)), (by first | rfl | (simp; done) | (simp [*]; done) | (congr 1; omega) | (simp; omega)), (by first | rfl | (simp; done) | (simp [*]; done) | (congr 1; omega) | (simp; omega)), H', ⟨by have := HK1.out; omega⟩, ⟨by (with_reducible repeat (first | apply Kd.R_alloc | apply Kd.R_drewN | apply Kd.R_drew)); exact HO240.out⟩, ⟨by repeat (first | (with_reducible first | exact HB.out | apply below_alloc | apply pw_below_drewN | apply below_drew1) | exact HB.out)⟩⟩
          · rw [if_neg c8] at H
            exact absurd H (by simp)
        · rw [if_neg c7] at H
          exact absurd H (by simp)
      · rw [if_neg c6] at H
        have c6b0 : decide (x8_1 < (l0.length : Int)) = false := decide_eq_false c6
        clear c6
        have H' := Aside0.mk H
        clear H
        go_wp2
        go_loopg [2, 7] k1 (fun kq v2 v7 w' => ∃ (x2_2 : Int) (x7_2 : List Int), v2 = .int .i64 x2_2 ∧ Aside0 (triviumref02_MulAdd.l1 kq x2_2 x7_2 = some r) ∧ Aside0 (kq ≤ k1) ∧ Aside0 (Kd.R (Kd.int .i64) 3 w' w.heap.size (fun _ => True) v7 x7_2) ∧ Aside0 (Below w.heap.size w w'))
        case atStart => exact ⟨(x2_1), (x7_1), (by first | rfl | (simp; done) | (simp [*]; done) | (congr 1; omega) | (simp; omega)), H', ⟨Nat.le_refl _⟩, ⟨by (with_reducible repeat (first | apply Kd.R_alloc | apply Kd.R_drewN | apply Kd.R_drew)); exact HO_7.out⟩, ⟨by repeat (first | (with_reducible first | exact HB.out | apply below_alloc | apply pw_below_drewN | apply below_drew1) | exact HB.out)⟩⟩
        case round =>
          clear H'
          try clear p2
          try clear q2
          try clear hx2
          try clear c6
          try clear c6b0
          try clear p6
          try clear c7
          try clear c7b0
          try clear c8
          try clear hx237_0
          try clear p2
          try clear p237
          try clear q237
          obtain ⟨x2_2, x7_2, rfl, HA, HK2, HO_7, HB⟩ := hrel
          cases gk with
          | zero => exact absurd HA.out (by simp [triviumref02_MulAdd.l1])
          | succ k2 =>
            have H := HA.out
            clear HA
            simp only [triviumref02_MulAdd.l1] at H
            by_cases c10 : x2_2 > 0
            · rw [if_pos c10] at H
              have c10b0 : decide (0 < x2_2) = true := decide_eq_true c10
              clear c10
              by_cases c11 : x7_2.length < 17592186044416
              · rw [if_pos c11] at H
                have LMc11 := Aside0.mk c11
                clear c11
                obtain ⟨y241, hy241⟩ : ∃ y_ : List Int, y_ = (x7_2 ++ [Int.tmod x2_2 10000]) := ⟨_, rfl⟩
                replace H : (triviumref02_MulAdd.l1 k2 (wrap64 (Int.tdiv x2_2 10000)) y241) = some r := by first | (rw [hy241]; with_reducible exact H) | (have H2_ := (Option.bind_some _ _).symm.trans H; rw [hy241]; with_reducible exact H2_) | (have H2_ := (Option.bind_some _ _).symm.trans H; with_reducible exact H2_) | with_reducible exact H | (rw [hy241]; exact H) | exact H
                have Ny241 := Aside0.mk hy241
                clear hy241
                have H' := Aside0.mk H
                clear H
                go_wp2_with (first | ((with_reducible refine gate_builtin (b := .append) (xs := #[.tmp 33, .tmp 36]) rfl ?_); at_builtin; refine Kd.R_append (Kd.int .i64) (w0 := w) w.heap.size rfl (.tmp 33) (.tmp 36) 60 3 (.int .i64 0) 8 rfl Tryd.underlying60 info3 rfl (by decide) (by omega) u7 x7_2 (Int.tmod x2_2 10000) [.int .i64 (Int.tmod x2_2 10000)] (fun _ => True) (fun _ => False) rfl rfl ?aP (fun _ hk => hk.elim) ?aF ?aO ?aB ?aS ?aL ?_; (case aP => exact rfl); (case aB => exact (by repeat (first | (with_reducible first | exact HB.out | apply below_alloc | apply pw_below_drewN | apply below_drew1) | exact HB.out))); (case aF => exact (fun _ _ => trivial)); (case aO => exact (by (with_reducible repeat (first | apply Kd.R_alloc | apply Kd.R_drewN | apply Kd.R_drew)); exact HO_7.out)); (case aS => exact (below_size (by repeat (first | (with_reducible first | exact HB.out | apply below_alloc | apply pw_below_drewN | apply below_drew1) | exact HB.out)))); (case aL => have := LMc11.out; omega); intro v242 w12 ho hb hg hat; rw [← Ny241.out] at ho; have n0_ := Aside0.mk (hb); have n1_ := Aside0.mk (ho); clear HB; clear HO_7; have HB := n0_; have HO243 := n1_; clear n0_ n1_; clear ho hb hg hat))
                go_roundg k2
                case measure => have := HK1.out; have := HK2.out; omega
                case rel => exact ⟨(wrap64 (Int.tdiv x2_2 10000)), (y241), (by first | rfl | (simp; done) | (simp [*]; done) | (congr 1; omega) | (simp; omega)), H', ⟨by have := HK1.out; have := HK2.out; omega⟩, ⟨by (with_reducible repeat (first | apply Kd.R_alloc | apply Kd.R_drewN | apply Kd.R_drew)); exact HO243.out⟩, ⟨by repeat (first | (with_reducible first | exact HB.out | apply below_alloc | apply pw_below_drewN | apply below_drew1) | exact HB.out)⟩⟩
              · rw [if_neg c11] at H
                exact absurd H (by simp)
            · rw [if_neg c10] at H
              have c10b0 : decide (0 < x2_2) = false := decide_eq_false c10
              clear c10
              replace H := Option.bind_eq_some_iff.mp H
              obtain ⟨t244, A130, H⟩ := H
              replace H : (some t244) = some r := H
              have A13 := Aside0.mk A130
              clear A130
              obtain rfl := Option.some.inj H
              obtain ⟨Ao14, co14, eo14⟩ := Kd.R_slice HO_7.out
              subst eo14
              go_wp2_with (first | ((with_reducible refine gate_callee (f := 98) rfl ?_); refine goesL_ (some 41) rfl rfl Tryd.func98 (by kernel_rfl) rfl #[.slice Ao14 x7_2.length co14] rfl (by (try simp only [List.map_toArray, List.map_cons, List.map_nil]); first | done | rfl | (simp only [List.length_drop, List.length_take]; rfl)) ?_; (with_reducible refine (triviumref02_Trim.calls k2 _ _ x7_2 t244 _ ?side1 ?side2 A13.out).mono ?_); (case side1 => repeat (first | exact (Kd.R_reads' HO_7.out).2.2 | (with_reducible refine Kd.C_alloc ?_ _) | (with_reducible refine Kd.C_drewN ?_ _) | (with_reducible refine Kd.C_drew ?_))); (case side2 => exact (Kd.R_reads' HO_7.out).2.1); rintro e w15 ⟨v245, rfl, ho0, hb⟩; refine ⟨_, rfl, ?_⟩; have n0_ := Aside0.mk (Kd.R_elder' (by (with_reducible repeat (first | apply Kd.R_alloc | apply Kd.R_drewN | apply Kd.R_drew)); exact HO_7.out) (Kd.R_base ho0) hb); have n1_ := Aside0.mk (Kd.R_lower (Kd.R_new' ho0 (Kd.R_lt (by (with_reducible repeat (first | apply Kd.R_alloc | apply Kd.R_drewN | apply Kd.R_drew)); exact HO_7.out))) (below_size (by repeat (first | (with_reducible first | exact HB.out | apply below_alloc | apply pw_below_drewN | apply below_drew1) | exact HB.out)))); have n2_ := Aside0.mk (below_step (by repeat (first | (with_reducible first | exact HB.out | apply below_alloc | apply pw_below_drewN | apply below_drew1) | exact HB.out)) hb); clear HO_7; clear HB; have HO_7 := n0_; have HO246 := n1_; have HB := n2_; clear n0_ n1_ n2_; (try clear hb); (try clear hb2); (try clear hk); (try clear hi); (try clear ho0)))
              go_ret
              exact ⟨_, by first | rfl | (simp only [u32_w, u64_u32, i64_u32]; rfl) | (simp [errW_none, errW_some] <;> rfl) | (simp [*, errW_none, errW_some] <;> rfl), by (with_reducible repeat (first | apply Kd.R_alloc | apply Kd.R_drewN | apply Kd.R_drew)); exact Kd.R_mono HO246.out (fun _ hk => trivial), by repeat (first | (with_reducible first | exact HB.out | apply below_alloc | apply pw_below_drewN | apply below_drew1) | exact HB.out)⟩

end Go.Proofs.YthcmjcjgaebciaaDoor.T
-- Out of the translation, by a program (myprint.py).
namespace Go.Proofs.YthcmjcjgaebciaaDoor.T
open Go.RowKit Go.Proofs.YthcmjcjgaebciaaDoorW.PrintWords Go.Proofs.YthcmjcjgaebciaaDoorW.PrintLast Go.Proofs.YthcmjcjgaebciaaDoorW.PrintMore
attribute [local go_sem] max2_int min2_int max_two min_two max_three min_three max_four min_four   -- for this text's walks alone
set_option linter.unusedVariables false
set_option linter.unusedSimpArgs false

/-! ### triviumref02_Of: function 83 -/
def triviumref02_Of.l0 : Nat → List Int → List Int → Int → Option (List Int)
  | 0, _, _, _ => none
  | k + 1, x0, x3, x4 => if x4 ≥ 0 then (if 0 ≤ x4 then (if x4 < (x0.length : Int) then ((triviumref02_MulAdd.f k x3 4294967296 (wrap64 (Int.tmod (rd x0 x4) 4294967296))).bind fun t251 => (triviumref02_Of.l0 k x0 t251 (wrap64 (x4 - 1)))) else (none)) else (none)) else (some x3)
def triviumref02_Of.f (k : Nat) (l0 : List Int) : Option (List Int) := triviumref02_Of.l0 k l0 (([] : List Int)) (wrap64 ((l0.length : Int) - 1))
theorem triviumref02_Of.mono_l : ∀ k, (∀ y0 y1 y2, LeO (triviumref02_Of.l0 k y0 y1 y2) (triviumref02_Of.l0 (k + 1) y0 y1 y2))
  | 0 => fun _ _ _ r h => by simp [triviumref02_Of.l0] at h
  | k + 1 => by
    have ih0 := triviumref02_Of.mono_l k
    · intro y0 y1 y2
      unfold triviumref02_Of.l0
      repeat' first
      | (with_reducible exact ih0 _ _ _)
      | (with_reducible exact triviumref02_MulAdd.mono _ _ _ _)
      | (with_reducible exact LeO.refl _)
      | (with_reducible exact LeO.none _)
      | (with_reducible refine LeO.ite ?_ ?_)
      | (with_reducible refine LeO.bind ?_ (fun _ => ?_))
      | exact ih0 _ _ _
      | exact triviumref02_MulAdd.mono _ _ _ _
      | exact LeO.none _
      | refine LeO.ite ?_ ?_
      | refine LeO.bind ?_ (fun _ => ?_)
theorem triviumref02_Of.mono : ∀ a0 k, LeO (triviumref02_Of.f k a0) (triviumref02_Of.f (k + 1) a0) := by
  intro a0 k
  have ih0 := triviumref02_Of.mono_l k
  unfold triviumref02_Of.f
  repeat' first
      | (with_reducible exact ih0 _ _ _)
      | (with_reducible exact triviumref02_MulAdd.mono _ _ _ _)
      | (with_reducible exact LeO.refl _)
      | (with_reducible exact LeO.none _)
      | (with_reducible refine LeO.ite ?_ ?_)
      | (with_reducible refine LeO.bind ?_ (fun _ => ?_))
      | exact ih0 _ _ _
      | exact triviumref02_MulAdd.mono _ _ _ _
      | exact LeO.none _
      | refine LeO.ite ?_ ?_
      | refine LeO.bind ?_ (fun _ => ?_)
set_option maxHeartbeats 8000000 in
set_option maxRecDepth 100000 in
theorem triviumref02_Of.calls (k : Nat) (A0 : Option Addr) (c0 : Nat) (l0 : List Int) (r : List Int) (w : World) (hr0 : Kd.C (Kd.int .u64) w A0 l0.length l0) (hc0 : l0.length ≤ c0) (h : triviumref02_Of.f k l0 = some r) :
    Calls Tryd.prog 83 #[.slice A0 l0.length c0] w fun e w' => ∃ v0_ : Value, e = .returned (v0_) ∧ Kd.R (Kd.int .i64) 3 w' w.heap.size (fun _ => True) v0_ r ∧ Below w.heap.size w w' := by
  have HR0 := Aside0.mk hr0
  have HC0 := Aside0.mk hc0
  clear hr0 hc0
  have HB := Aside0.mk (Below.refl w.heap.size w)
  have H : (triviumref02_Of.l0 k l0 (([] : List Int)) (wrap64 ((l0.length : Int) - 1))) = some r := h
  clear h
  obtain ⟨y247, hy247⟩ : ∃ y_ : List Int, y_ = (([] : List Int)) := ⟨_, rfl⟩
  replace H : (triviumref02_Of.l0 k l0 y247 (wrap64 ((l0.length : Int) - 1))) = some r := by first | (rw [hy247]; with_reducible exact H) | (have H2_ := (Option.bind_some _ _).symm.trans H; rw [hy247]; with_reducible exact H2_) | (have H2_ := (Option.bind_some _ _).symm.trans H; with_reducible exact H2_) | with_reducible exact H | (rw [hy247]; exact H) | exact H
  have Ny247 := Aside0.mk hy247
  clear hy247
  have H' := Aside0.mk H
  clear H
  go_enter Tryd.func83, Tryd.ntmps83
  go_wp2_with (first | ((with_reducible refine gate_dst (N := 5) rfl ?_); refine Kd.R_lit (Kd.int .i64) _ 3 ?hg (N := 5) ?hd (xs := ([] : List Int)) (inner := []) (ok := fun _ => True) (okp := fun _ => True) ?hr ?hp (fun _ hk => hk) trivial (Below.refl _ _) (Nat.le_refl _) (by simp) ?_; (case hd => rfl); (case hg => rfl); (case hr => first | (go_simp; done) | (go_simp; rfl)); (case hp => exact (Reps.none _ _)); intro v248 w2 ho3 hb hg_ hnew_; clear hg_ hnew_; (first | rw [← Ny247.out] at ho3 | (simp only [Int.reduceToNat] at ho3; rw [← Ny247.out] at ho3)); have n0_ := Aside0.mk (Kd.R_lower ho3 (below_size (by repeat (first | (with_reducible first | exact HB.out | apply below_alloc | apply pw_below_drewN | apply below_drew1) | exact HB.out)))); have n1_ := Aside0.mk (below_step (by repeat (first | (with_reducible first | exact HB.out | apply below_alloc | apply pw_below_drewN | apply below_drew1) | exact HB.out)) hb); clear HB; have HO249 := n0_; have HB := n1_; clear n0_ n1_; clear hb ho3))
  go_loopg [3, 4] k (fun kq v3 v4 w' => ∃ (x3_1 : List Int) (x4_1 : Int), v4 = .int .i64 x4_1 ∧ Aside0 (triviumref02_Of.l0 kq l0 x3_1 x4_1 = some r) ∧ Aside0 (kq ≤ k) ∧ Aside0 (Kd.R (Kd.int .i64) 3 w' w.heap.size (fun _ => True) v3 x3_1) ∧ Aside0 (Below w.heap.size w w'))
  case atStart => exact ⟨(y247), (wrap64 ((l0.length : Int) - 1)), (by first | rfl | (simp; done) | (simp [*]; done) | (congr 1; omega) | (simp; omega)), H', ⟨Nat.le_refl _⟩, ⟨by (with_reducible repeat (first | apply Kd.R_alloc | apply Kd.R_drewN | apply Kd.R_drew)); exact HO249.out⟩, ⟨by repeat (first | (with_reducible first | exact HB.out | apply below_alloc | apply pw_below_drewN | apply below_drew1) | exact HB.out)⟩⟩
  case round =>
    clear H'
    try clear p2
    obtain ⟨x3_1, x4_1, rfl, HA, HK1, HO_3, HB⟩ := hrel
    cases gk with
    | zero => exact absurd HA.out (by simp [triviumref02_Of.l0])
    | succ k1 =>
      have H := HA.out
      clear HA
      simp only [triviumref02_Of.l0] at H
      by_cases c4 : x4_1 ≥ 0
      · rw [if_pos c4] at H
        have c4b0 : decide (0 ≤ x4_1) = true := decide_eq_true c4
        clear c4
        by_cases c5 : 0 ≤ x4_1
        · rw [if_pos c5] at H
          have c5b0 : decide (0 ≤ x4_1) = true := decide_eq_true c5
          clear c5
          by_cases c6 : x4_1 < (l0.length : Int)
          · rw [if_pos c6] at H
            have c6b0 : decide (x4_1 < (l0.length : Int)) = true := decide_eq_true c6
            clear c6
            replace H := Option.bind_eq_some_iff.mp H
            obtain ⟨t251, A70, H⟩ := H
            replace H : (triviumref02_Of.l0 k1 l0 t251 (wrap64 (x4_1 - 1))) = some r := H
            have A7 := Aside0.mk A70
            clear A70
            have H' := Aside0.mk H
            clear H
            have p250 : 0 ≤ (x4_1 : Int) := of_decide_eq_true (by first | (with_reducible assumption) | assumption)
            have q250 : x4_1 < (l0.length : Int) := of_decide_eq_true (by first | (with_reducible assumption) | assumption)
            obtain ⟨ad250, e250, hx250_0⟩ := Kd.at_int HR0.out x4_1 p250 q250
            cases e250
            replace hx250_0 := (HB.out.cell (World.block_lt_of_cell? w _ hx250_0)).trans hx250_0
            replace p250 := eq_true p250
            replace q250 := eq_true q250
            obtain ⟨Ao8, co8, eo8⟩ := Kd.R_slice HO_3.out
            subst eo8
            go_wp2_with (first | ((with_reducible refine gate_callee (f := 75) rfl ?_); refine goesL_ (some 20) rfl rfl Tryd.func75 (by kernel_rfl) rfl #[.slice Ao8 x3_1.length co8, .int .i64 4294967296, .int .i64 (wrap64 (Int.tmod (rd l0 x4_1) 4294967296))] rfl (by (try simp only [List.map_toArray, List.map_cons, List.map_nil]); first | done | rfl | (simp only [List.length_drop, List.length_take]; rfl)) ?_; (with_reducible refine (triviumref02_MulAdd.calls k1 _ _ x3_1 4294967296 (wrap64 (Int.tmod (rd l0 x4_1) 4294967296)) t251 _ ?side1 ?side2 A7.out).mono ?_); (case side1 => repeat (first | exact (Kd.R_reads' HO_3.out).2.2 | (with_reducible refine Kd.C_alloc ?_ _) | (with_reducible refine Kd.C_drewN ?_ _) | (with_reducible refine Kd.C_drew ?_))); (case side2 => exact (Kd.R_reads' HO_3.out).2.1); rintro e w9 ⟨v252, rfl, ho0, hb⟩; refine ⟨_, rfl, ?_⟩; have n0_ := Aside0.mk (Kd.R_elder' (by (with_reducible repeat (first | apply Kd.R_alloc | apply Kd.R_drewN | apply Kd.R_drew)); exact HO_3.out) (Kd.R_base ho0) hb); have n1_ := Aside0.mk (Kd.R_lower (Kd.R_new' ho0 (Kd.R_lt (by (with_reducible repeat (first | apply Kd.R_alloc | apply Kd.R_drewN | apply Kd.R_drew)); exact HO_3.out))) (below_size (by repeat (first | (with_reducible first | exact HB.out | apply below_alloc | apply pw_below_drewN | apply below_drew1) | exact HB.out)))); have n2_ := Aside0.mk (below_step (by repeat (first | (with_reducible first | exact HB.out | apply below_alloc | apply pw_below_drewN | apply below_drew1) | exact HB.out)) hb); clear HO_3; clear HB; have HO_3 := n0_; have HO253 := n1_; have HB := n2_; clear n0_ n1_ n2_; (try clear hb); (try clear hb2); (try clear hk); (try clear hi); (try clear ho0)))
            go_roundg k1
            case measure => have := HK1.out; omega
            case rel => exact ⟨(t251), (wrap64 (x4_1 - 1)), (by first | rfl | (simp; done) | (simp [*]; done) | (congr 1; omega) | (simp; omega)), H', ⟨by have := HK1.out; omega⟩, ⟨by (with_reducible repeat (first | apply Kd.R_alloc | apply Kd.R_drewN | apply Kd.R_drew)); exact Kd.R_mono HO253.out (fun _ hk => trivial)⟩, ⟨by repeat (first | (with_reducible first | exact HB.out | apply below_alloc | apply pw_below_drewN | apply below_drew1) | exact HB.out)⟩⟩
          · rw [if_neg c6] at H
            exact absurd H (by simp)
        · rw [if_neg c5] at H
          exact absurd H (by simp)
      · rw [if_neg c4] at H
        have c4b0 : decide (0 ≤ x4_1) = false := decide_eq_false c4
        clear c4
        obtain rfl := Option.some.inj H
        go_wp2
        go_ret
        exact ⟨_, by first | rfl | (simp only [u32_w, u64_u32, i64_u32]; rfl) | (simp [errW_none, errW_some] <;> rfl) | (simp [*, errW_none, errW_some] <;> rfl), by (with_reducible repeat (first | apply Kd.R_alloc | apply Kd.R_drewN | apply Kd.R_drew)); exact HO_3.out, by repeat (first | (with_reducible first | exact HB.out | apply below_alloc | apply pw_below_drewN | apply below_drew1) | exact HB.out)⟩

end Go.Proofs.YthcmjcjgaebciaaDoor.T
-- Out of the translation, by a program (myprint.py).
namespace Go.Proofs.YthcmjcjgaebciaaDoor.T
open Go.RowKit Go.Proofs.YthcmjcjgaebciaaDoorW.PrintWords Go.Proofs.YthcmjcjgaebciaaDoorW.PrintLast Go.Proofs.YthcmjcjgaebciaaDoorW.PrintMore
attribute [local go_sem] max2_int min2_int max_two min_two max_three min_three max_four min_four   -- for this text's walks alone
set_option linter.unusedVariables false
set_option linter.unusedSimpArgs false

/-! ### triviumref02_DivSmall: function 84 -/
def triviumref02_DivSmall.l0 : Nat → List Int → Int → List Int → Int → Int → Option (List Int × Int)
  | 0, _, _, _, _, _ => none
  | k + 1, x0, x1, x6, x7, x8 => if x8 ≥ 0 then (if 0 ≤ x8 then (if x8 < (x0.length : Int) then (if x1 = 0 then (none) else (if x8 < (x6.length : Int) then (triviumref02_DivSmall.l0 k x0 x1 (x6.set (x8 : Int).toNat (wrap64 (Int.tdiv (wrap64 ((wrap64 (10000 * x7)) + (rd x0 x8))) x1))) (Int.tmod (wrap64 ((wrap64 (10000 * x7)) + (rd x0 x8))) x1) (wrap64 (x8 - 1))) else (none))) else (none)) else (none)) else ((triviumref02_Trim.f k x6).bind fun t259 => (some (t259, x7)))
def triviumref02_DivSmall.f (k : Nat) (l0 : List Int) (a1 : Int) : Option (List Int × Int) := if 0 ≤ (l0.length : Int) then (if ((l0.length : Int) : Int).toNat ≤ 35184372088832 then (triviumref02_DivSmall.l0 k l0 a1 (List.replicate ((l0.length : Int) : Int).toNat 0) 0 (wrap64 ((l0.length : Int) - 1))) else (none)) else (none)
theorem triviumref02_DivSmall.mono_l : ∀ k, (∀ y0 y1 y2 y3 y4, LeO (triviumref02_DivSmall.l0 k y0 y1 y2 y3 y4) (triviumref02_DivSmall.l0 (k + 1) y0 y1 y2 y3 y4))
  | 0 => fun _ _ _ _ _ r h => by simp [triviumref02_DivSmall.l0] at h
  | k + 1 => by
    have ih0 := triviumref02_DivSmall.mono_l k
    · intro y0 y1 y2 y3 y4
      unfold triviumref02_DivSmall.l0
      repeat' first
      | (with_reducible exact ih0 _ _ _ _ _)
      | (with_reducible exact triviumref02_Trim.mono _ _)
      | (with_reducible exact LeO.refl _)
      | (with_reducible exact LeO.none _)
      | (with_reducible refine LeO.ite ?_ ?_)
      | (with_reducible refine LeO.bind ?_ (fun _ => ?_))
      | exact ih0 _ _ _ _ _
      | exact triviumref02_Trim.mono _ _
      | exact LeO.none _
      | refine LeO.ite ?_ ?_
      | refine LeO.bind ?_ (fun _ => ?_)
theorem triviumref02_DivSmall.mono : ∀ a0 a1 k, LeO (triviumref02_DivSmall.f k a0 a1) (triviumref02_DivSmall.f (k + 1) a0 a1) := by
  intro a0 a1 k
  have ih0 := triviumref02_DivSmall.mono_l k
  unfold triviumref02_DivSmall.f
  repeat' first
      | (with_reducible exact ih0 _ _ _ _ _)
      | (with_reducible exact triviumref02_Trim.mono _ _)
      | (with_reducible exact LeO.refl _)
      | (with_reducible exact LeO.none _)
      | (with_reducible refine LeO.ite ?_ ?_)
      | (with_reducible refine LeO.bind ?_ (fun _ => ?_))
      | exact ih0 _ _ _ _ _
      | exact triviumref02_Trim.mono _ _
      | exact LeO.none _
      | refine LeO.ite ?_ ?_
      | refine LeO.bind ?_ (fun _ => ?_)
set_option maxHeartbeats 8000000 in
set_option maxRecDepth 100000 in
theorem triviumref02_DivSmall.calls (k : Nat) (A0 : Option Addr) (c0 : Nat) (l0 : List Int) (a1 : Int) (r1 : List Int) (r2 : Int) (w : World) (hr0 : Kd.C (Kd.int .i64) w A0 l0.length l0) (hc0 : l0.length ≤ c0) (h : triviumref02_DivSmall.f k l0 a1 = some (r1, r2)) :
    Calls Tryd.prog 84 #[.slice A0 l0.length c0, .int .i64 a1] w fun e w' => ∃ v0_ : Value, e = .returned (.tuple #[v0_, .int .i64 r2]) ∧ Kd.R (Kd.int .i64) 3 w' w.heap.size (fun _ => True) v0_ r1 ∧ Below w.heap.size w w' := by
  have HR0 := Aside0.mk hr0
  have HC0 := Aside0.mk hc0
  clear hr0 hc0
  have HB := Aside0.mk (Below.refl w.heap.size w)
  have H : (if 0 ≤ (l0.length : Int) then (if ((l0.length : Int) : Int).toNat ≤ 35184372088832 then (triviumref02_DivSmall.l0 k l0 a1 (List.replicate ((l0.length : Int) : Int).toNat 0) 0 (wrap64 ((l0.length : Int) - 1))) else (none)) else (none)) = some (r1, r2) := h
  clear h
  by_cases c3 : 0 ≤ (l0.length : Int)
  · rw [if_pos c3] at H
    have c3b0 := eq_true c3
    have c3b1 : decide (0 ≤ (l0.length : Int)) = true := decide_eq_true c3
    clear c3
    by_cases c4 : ((l0.length : Int) : Int).toNat ≤ 35184372088832
    · rw [if_pos c4] at H
      have c4b0 := eq_true c4
      have c4b1 : decide (((l0.length : Int) : Int).toNat ≤ 35184372088832) = true := decide_eq_true c4
      clear c4
      obtain ⟨y254, hy254⟩ : ∃ y_ : List Int, y_ = (List.replicate ((l0.length : Int) : Int).toNat 0) := ⟨_, rfl⟩
      replace H : (triviumref02_DivSmall.l0 k l0 a1 y254 0 (wrap64 ((l0.length : Int) - 1))) = some (r1, r2) := by first | (rw [hy254]; with_reducible exact H) | (have H2_ := (Option.bind_some _ _).symm.trans H; rw [hy254]; with_reducible exact H2_) | (have H2_ := (Option.bind_some _ _).symm.trans H; with_reducible exact H2_) | with_reducible exact H | (rw [hy254]; exact H) | exact H
      have Ny254 := Aside0.mk hy254
      clear hy254
      have H' := Aside0.mk H
      clear H
      go_enter Tryd.func84, Tryd.ntmps84
      go_wp2_with (first | ((with_reducible refine gate_dst (N := 11) rfl ?_); refine Kd.R_make (Kd.int .i64) _ 3 rfl (N := 11) rfl 60 _ _ rfl (l0.length : Int) rfl rfl Tryd.underlying60 (.int .i64 0) 8 info3 rfl (by decide) (by omega) 0 (ok := fun _ => True) (okp := fun _ => True) rfl (fun _ hk => hk) trivial (of_decide_eq_true (by first | (with_reducible assumption) | assumption)) (Nat.le_trans (Nat.mul_le_mul_right _ (of_decide_eq_true (by first | (with_reducible assumption) | assumption) : (l0.length : Int).toNat ≤ 35184372088832)) (by omega)) (Below.refl _ _) (Nat.le_refl _) ?_; intro v255 w5 ho6 hb hg_ hnew_; clear hg_ hnew_; (first | rw [← Ny254.out] at ho6 | (simp only [Int.reduceToNat] at ho6; rw [← Ny254.out] at ho6)); have n0_ := Aside0.mk (Kd.R_lower ho6 (below_size (by repeat (first | (with_reducible first | exact HB.out | apply below_alloc | apply pw_below_drewN | apply below_drew1) | exact HB.out)))); have n1_ := Aside0.mk (below_step (by repeat (first | (with_reducible first | exact HB.out | apply below_alloc | apply pw_below_drewN | apply below_drew1) | exact HB.out)) hb); clear HB; have HO256 := n0_; have HB := n1_; clear n0_ n1_; clear hb ho6))
      go_loopg [7, 8] k (fun kq v7 v8 w' => ∃ (x6_1 : List Int) (x7_1 : Int) (x8_1 : Int), v7 = .int .i64 x7_1 ∧ v8 = .int .i64 x8_1 ∧ Aside0 (triviumref02_DivSmall.l0 kq l0 a1 x6_1 x7_1 x8_1 = some (r1, r2)) ∧ Aside0 (kq ≤ k) ∧ Aside0 (Kd.R (Kd.int .i64) 3 w' w.heap.size (fun _ => True) v255 x6_1) ∧ Aside0 (Below w.heap.size w w'))
      case atStart => exact ⟨(y254), (0), (wrap64 ((l0.length : Int) - 1)), (by first | rfl | (simp; done) | (simp [*]; done) | (congr 1; omega) | (simp; omega)), (by first | rfl | (simp; done) | (simp [*]; done) | (congr 1; omega) | (simp; omega)), H', ⟨Nat.le_refl _⟩, ⟨by (with_reducible repeat (first | apply Kd.R_alloc | apply Kd.R_drewN | apply Kd.R_drew)); exact HO256.out⟩, ⟨by repeat (first | (with_reducible first | exact HB.out | apply below_alloc | apply pw_below_drewN | apply below_drew1) | exact HB.out)⟩⟩
      case round =>
        clear H'
        try clear p2
        try clear c3
        try clear c3b0
        try clear c3b1
        try clear c4
        try clear c4b0
        try clear c4b1
        try clear p6
        obtain ⟨x6_1, x7_1, x8_1, rfl, rfl, HA, HK1, HO_6, HB⟩ := hrel
        cases gk with
        | zero => exact absurd HA.out (by simp [triviumref02_DivSmall.l0])
        | succ k1 =>
          have H := HA.out
          clear HA
          simp only [triviumref02_DivSmall.l0] at H
          by_cases c7 : x8_1 ≥ 0
          · rw [if_pos c7] at H
            have c7b0 : decide (0 ≤ x8_1) = true := decide_eq_true c7
            clear c7
            by_cases c8 : 0 ≤ x8_1
            · rw [if_pos c8] at H
              have c8b0 : decide (0 ≤ x8_1) = true := decide_eq_true c8
              clear c8
              by_cases c9 : x8_1 < (l0.length : Int)
              · rw [if_pos c9] at H
                have c9b0 : decide (x8_1 < (l0.length : Int)) = true := decide_eq_true c9
                clear c9
                by_cases c10 : a1 = 0
                · rw [if_pos c10] at H
                  exact absurd H (by simp)
                · rw [if_neg c10] at H
                  have c10b0 : (a1 == 0) = false := beq_eq_false_iff_ne.mpr c10
                  have c10b1 : (a1 != 0) = true := bne_iff_ne.mpr c10
                  by_cases c11 : x8_1 < (x6_1.length : Int)
                  · rw [if_pos c11] at H
                    have c11b0 : decide (x8_1 < (x6_1.length : Int)) = true := decide_eq_true c11
                    clear c11
                    obtain ⟨y258, hy258⟩ : ∃ y_ : List Int, y_ = (x6_1.set (x8_1 : Int).toNat (wrap64 (Int.tdiv (wrap64 ((wrap64 (10000 * x7_1)) + (rd l0 x8_1))) a1))) := ⟨_, rfl⟩
                    replace H : (triviumref02_DivSmall.l0 k1 l0 a1 y258 (Int.tmod (wrap64 ((wrap64 (10000 * x7_1)) + (rd l0 x8_1))) a1) (wrap64 (x8_1 - 1))) = some (r1, r2) := by first | (rw [hy258]; with_reducible exact H) | (have H2_ := (Option.bind_some _ _).symm.trans H; rw [hy258]; with_reducible exact H2_) | (have H2_ := (Option.bind_some _ _).symm.trans H; with_reducible exact H2_) | with_reducible exact H | (rw [hy258]; exact H) | exact H
                    have Ny258 := Aside0.mk hy258
                    clear hy258
                    have H' := Aside0.mk H
                    clear H
                    have p257 : 0 ≤ (x8_1 : Int) := of_decide_eq_true (by first | (with_reducible assumption) | assumption)
                    have q257 : x8_1 < (l0.length : Int) := of_decide_eq_true (by first | (with_reducible assumption) | assumption)
                    obtain ⟨ad257, e257, hx257_0⟩ := Kd.at_int HR0.out x8_1 p257 q257
                    cases e257
                    replace hx257_0 := (HB.out.cell (World.block_lt_of_cell? w _ hx257_0)).trans hx257_0
                    replace p257 := eq_true p257
                    replace q257 := eq_true q257
                    have p12 : 0 ≤ (x8_1 : Int) := of_decide_eq_true (by first | (with_reducible assumption) | assumption)
                    have q12 : (x8_1 : Int) < ((x6_1.length : Int) : Int) := of_decide_eq_true (by first | (with_reducible assumption) | assumption)
                    obtain ⟨go12, co12, eo12, gb12, gl12, cl12, HG12⟩ := Kd.R_form HO_6.out (by omega)
                    (first | cases eo12 | (injection eo12 with ea_ en_ ec_; (first | subst ea_ | (injection ea_ with ea_; subst ea_)); subst ec_; clear en_))
                    have GB12 := Aside0.mk gb12
                    have GG12 := Aside0.mk HG12
                    clear gb12 gl12 HG12
                    obtain ⟨hx12_0, hf12_0⟩ := Kd.R_celln 0 HO_6.out (x8_1 : Int) p12 q12
                    replace p12 := eq_true p12
                    replace q12 := eq_true q12
                    have HP13 := Kd.R_putg HO_6.out (x8_1 : Int) (wrap64 (Int.tdiv (wrap64 ((wrap64 (10000 * x7_1)) + (rd l0 x8_1))) a1))
                    go_wp2_with (first | ((with_reducible refine gate_store (t := 3) (p := 31) rfl ?_); refine store_event (t := 3) (p := 31) (v := ?vo_w14) (w1 := (wr.setCell ⟨go12, (x8_1 : Int).toNat, none⟩ (.int .i64 (wrap64 (Int.tdiv (wrap64 ((wrap64 (10000 * x7_1)) + (rd l0 x8_1))) a1))))) ?hg ?ho ?hn ?hr ?_; (case ho => rfl); (case hg => rfl); (case hn => rfl); (case hr => first | (go_simp; done) | (go_simp; rfl)); intro w14 hw; have hg : wr.grownBy w14 (some go12) := (by rw [hw]; exact HP13.2); have hp_ : Kd.R (Kd.int .i64) 3 w14 w.heap.size (fun _ => True) (.slice (some ⟨go12, 0, none⟩) x6_1.length co12) y258 := (by rw [hw, Ny258.out]; exact HP13.1); clear HP13; have n0_ := Aside0.mk (hp_); have n1_ := Aside0.mk ((by rw [hw]; exact below_set (HB.out) GB12.out : Below w.heap.size w w14)); clear HO_6; clear HB; have HO_6 := n0_; have HB := n1_; clear n0_ n1_; clear hg hw hp_))
                    go_roundg k1
                    case measure => have := HK1.out; omega
                    case rel => exact ⟨(y258), (Int.tmod (wrap64 ((wrap64 (10000 * x7_1)) + (rd l0 x8_1))) a1), (wrap64 (x8_1 - 1)), (by first | rfl | (simp; done) | (simp [*]; done) | (congr 1; omega) | (simp; omega)), (by first | rfl | (simp; done) | (simp [*]; done) | (congr 1; omega) | (simp; omega)), H', ⟨by have := HK1.out; omega⟩, ⟨by (with_reducible repeat (first | apply Kd.R_alloc | apply Kd.R_drewN | apply Kd.R_drew)); exact HO_6.out⟩, ⟨by repeat (first | (with_reducible first | exact HB.out | apply below_alloc | apply pw_below_drewN | apply below_drew1) | exact HB.out)⟩⟩
                  · rw [if_neg c11] at H
                    exact absurd H (by simp)
              · rw [if_neg c9] at H
                exact absurd H (by simp)
            · rw [if_neg c8] at H
              exact absurd H (by simp)
          · rw [if_neg c7] at H
            have c7b0 : decide (0 ≤ x8_1) = false := decide_eq_false c7
            clear c7
            replace H := Option.bind_eq_some_iff.mp H
            obtain ⟨t259, A150, H⟩ := H
            replace H : (some (t259, x7_1)) = some (r1, r2) := H
            have A15 := Aside0.mk A150
            clear A150
            simp only [Option.some.injEq, Prod.mk.injEq] at H
            obtain ⟨rfl, rfl⟩ := H
            obtain ⟨Ao16, co16, eo16⟩ := Kd.R_slice HO_6.out
            subst eo16
            go_wp2_with (first | ((with_reducible refine gate_callee (f := 98) rfl ?_); refine goesL_ (some 36) rfl rfl Tryd.func98 (by kernel_rfl) rfl #[.slice Ao16 x6_1.length co16] rfl (by (try simp only [List.map_toArray, List.map_cons, List.map_nil]); first | done | rfl | (simp only [List.length_drop, List.length_take]; rfl)) ?_; (with_reducible refine (triviumref02_Trim.calls k1 _ _ x6_1 t259 _ ?side1 ?side2 A15.out).mono ?_); (case side1 => repeat (first | exact (Kd.R_reads' HO_6.out).2.2 | (with_reducible refine Kd.C_alloc ?_ _) | (with_reducible refine Kd.C_drewN ?_ _) | (with_reducible refine Kd.C_drew ?_))); (case side2 => exact (Kd.R_reads' HO_6.out).2.1); rintro e w17 ⟨v260, rfl, ho0, hb⟩; refine ⟨_, rfl, ?_⟩; have n0_ := Aside0.mk (Kd.R_elder' (by (with_reducible repeat (first | apply Kd.R_alloc | apply Kd.R_drewN | apply Kd.R_drew)); exact HO_6.out) (Kd.R_base ho0) hb); have n1_ := Aside0.mk (Kd.R_lower (Kd.R_new' ho0 (Kd.R_lt (by (with_reducible repeat (first | apply Kd.R_alloc | apply Kd.R_drewN | apply Kd.R_drew)); exact HO_6.out))) (below_size (by repeat (first | (with_reducible first | exact HB.out | apply below_alloc | apply pw_below_drewN | apply below_drew1) | exact HB.out)))); have n2_ := Aside0.mk (below_step (by repeat (first | (with_reducible first | exact HB.out | apply below_alloc | apply pw_below_drewN | apply below_drew1) | exact HB.out)) hb); clear HO_6; clear HB; have HO_6 := n0_; have HO261 := n1_; have HB := n2_; clear n0_ n1_ n2_; (try clear hb); (try clear hb2); (try clear hk); (try clear hi); (try clear ho0)))
            go_ret2
            exact ⟨_, by first | rfl | (simp only [u32_w, u64_u32, i64_u32]; rfl) | (simp [errW_none, errW_some] <;> rfl) | (simp [*, errW_none, errW_some] <;> rfl), by (with_reducible repeat (first | apply Kd.R_alloc | apply Kd.R_drewN | apply Kd.R_drew)); exact Kd.R_mono HO261.out (fun _ hk => trivial), by repeat (first | (with_reducible first | exact HB.out | apply below_alloc | apply pw_below_drewN | apply below_drew1) | exact HB.out)⟩
    · rw [if_neg c4] at H
      exact absurd H (by simp)
  · rw [if_neg c3] at H
    exact absurd H (by simp)

end Go.Proofs.YthcmjcjgaebciaaDoor.T
-- Out of the translation, by a program (myprint.py).
namespace Go.Proofs.YthcmjcjgaebciaaDoor.T
open Go.RowKit Go.Proofs.YthcmjcjgaebciaaDoorW.PrintWords Go.Proofs.YthcmjcjgaebciaaDoorW.PrintLast Go.Proofs.YthcmjcjgaebciaaDoorW.PrintMore
attribute [local go_sem] max2_int min2_int max_two min_two max_three min_three max_four min_four   -- for this text's walks alone
set_option linter.unusedVariables false
set_option linter.unusedSimpArgs false

/-! ### triviumref02_Back: function 48 -/
def triviumref02_Back.l0 : Nat → List Int → List Int → Option (List Int)
  | 0, _, _ => none
  | k + 1, x0, x3 => if (x0.length : Int) > 0 then ((triviumref02_DivSmall.f k x0 4294967296).bind fun bt294 => (if x3.length < 17592186044416 then (triviumref02_Back.l0 k bt294.1 (x3 ++ [IntKind.u64.wrap (bt294.2)])) else (none))) else (some x3)
def triviumref02_Back.f (k : Nat) (l0 : List Int) : Option (List Int) := triviumref02_Back.l0 k l0 (([] : List Int))
theorem triviumref02_Back.mono_l : ∀ k, (∀ y0 y1, LeO (triviumref02_Back.l0 k y0 y1) (triviumref02_Back.l0 (k + 1) y0 y1))
  | 0 => fun _ _ r h => by simp [triviumref02_Back.l0] at h
  | k + 1 => by
    have ih0 := triviumref02_Back.mono_l k
    · intro y0 y1
      unfold triviumref02_Back.l0
      repeat' first
      | (with_reducible exact ih0 _ _)
      | (with_reducible exact triviumref02_DivSmall.mono _ _ _)
      | (with_reducible exact LeO.refl _)
      | (with_reducible exact LeO.none _)
      | (with_reducible refine LeO.ite ?_ ?_)
      | (with_reducible refine LeO.bind ?_ (fun _ => ?_))
      | exact ih0 _ _
      | exact triviumref02_DivSmall.mono _ _ _
      | exact LeO.none _
      | refine LeO.ite ?_ ?_
      | refine LeO.bind ?_ (fun _ => ?_)
theorem triviumref02_Back.mono : ∀ a0 k, LeO (triviumref02_Back.f k a0) (triviumref02_Back.f (k + 1) a0) := by
  intro a0 k
  have ih0 := triviumref02_Back.mono_l k
  unfold triviumref02_Back.f
  repeat' first
      | (with_reducible exact ih0 _ _)
      | (with_reducible exact triviumref02_DivSmall.mono _ _ _)
      | (with_reducible exact LeO.refl _)
      | (with_reducible exact LeO.none _)
      | (with_reducible refine LeO.ite ?_ ?_)
      | (with_reducible refine LeO.bind ?_ (fun _ => ?_))
      | exact ih0 _ _
      | exact triviumref02_DivSmall.mono _ _ _
      | exact LeO.none _
      | refine LeO.ite ?_ ?_
      | refine LeO.bind ?_ (fun _ => ?_)
set_option maxHeartbeats 8000000 in
set_option maxRecDepth 100000 in
theorem triviumref02_Back.calls (k : Nat) (P0_ : Nat → Prop) (A0 : Option Addr) (c0 : Nat) (l0 : List Int) (r : List Int) (w : World) (hs0 : Kd.V (Kd.int .i64) 3 w w.heap.size (fun k_ => P0_ k_) (.slice A0 l0.length c0) l0) (h : triviumref02_Back.f k l0 = some r) :
    Calls Tryd.prog 48 #[.slice A0 l0.length c0] w fun e w' => ∃ v0_ : Value, e = .returned (v0_) ∧ Kd.R (Kd.int .u64) 96 w' w.heap.size (fun k_ => (w.heap.size ≤ k_)) v0_ r ∧ Below w.heap.size w w' := by
  have HO0 := Aside0.mk (show Kd.V (Kd.int .i64) 3 w w.heap.size (fun k_ => (P0_ k_ ∨ w.heap.size ≤ k_)) (.slice A0 l0.length c0) l0 from Kd.V_mono hs0 (fun k_ hk => .inl hk))
  have HB := Aside0.mk (Below.refl w.heap.size w)
  have H : (triviumref02_Back.l0 k l0 (([] : List Int))) = some r := h
  clear h
  obtain ⟨y291, hy291⟩ : ∃ y_ : List Int, y_ = (([] : List Int)) := ⟨_, rfl⟩
  replace H : (triviumref02_Back.l0 k l0 y291) = some r := by first | (rw [hy291]; with_reducible exact H) | (have H2_ := (Option.bind_some _ _).symm.trans H; rw [hy291]; with_reducible exact H2_) | (have H2_ := (Option.bind_some _ _).symm.trans H; with_reducible exact H2_) | with_reducible exact H | (rw [hy291]; exact H) | exact H
  have Ny291 := Aside0.mk hy291
  clear hy291
  have H' := Aside0.mk H
  clear H
  go_enter Tryd.func48, Tryd.ntmps48
  go_wp2_with (first | ((with_reducible refine gate_dst (N := 6) rfl ?_); refine Kd.R_lit (Kd.int .u64) _ 96 ?hg (N := 6) ?hd (xs := ([] : List Int)) (inner := []) (ok := fun _ => True) (okp := fun _ => True) ?hr ?hp (fun _ hk => hk) trivial (Below.refl _ _) (Nat.le_refl _) (by simp) ?_; (case hd => rfl); (case hg => rfl); (case hr => first | (go_simp; done) | (go_simp; rfl)); (case hp => exact (Reps.none _ _)); intro v292 w2 ho3 hb hg_ hnew_; clear hg_ hnew_; (first | rw [← Ny291.out] at ho3 | (simp only [Int.reduceToNat] at ho3; rw [← Ny291.out] at ho3)); have n0_ := Aside0.mk (Kd.V_elder' (by (with_reducible repeat (first | apply Kd.V_alloc | apply Kd.V_drewN | apply Kd.V_drew)); exact HO0.out) (Kd.R_base ho3) hb); have n1_ := Aside0.mk (Kd.R_lower (Kd.R_newM (M := fun k_ => (w.heap.size ≤ k_)) ho3 (below_size (by repeat (first | (with_reducible first | exact HB.out | apply below_alloc | apply pw_below_drewN | apply below_drew1) | exact HB.out))) (fun k_ h_ => h_)) (below_size (by repeat (first | (with_reducible first | exact HB.out | apply below_alloc | apply pw_below_drewN | apply below_drew1) | exact HB.out)))); have n2_ := Aside0.mk (below_step (by repeat (first | (with_reducible first | exact HB.out | apply below_alloc | apply pw_below_drewN | apply below_drew1) | exact HB.out)) hb); clear HO0; clear HB; have HO0 := n0_; have HO293 := n1_; have HB := n2_; clear n0_ n1_ n2_; clear hb ho3))
  go_loopg [0, 3] k (fun kq v0 v3 w' => ∃ (x0_1 : List Int) (x3_1 : List Int), Aside0 (triviumref02_Back.l0 kq x0_1 x3_1 = some r) ∧ Aside0 (kq ≤ k) ∧ Aside0 (Kd.V (Kd.int .i64) 3 w' w.heap.size (fun k_ => (P0_ k_ ∨ w.heap.size ≤ k_) ∧ some k_ ≠ (v3 : Value).ownBlock) v0 x0_1) ∧ Aside0 (Kd.R (Kd.int .u64) 96 w' w.heap.size (fun k_ => (w.heap.size ≤ k_)) v3 x3_1) ∧ Aside0 (Below w.heap.size w w'))
  case atStart => exact ⟨(l0), (y291), H', ⟨Nat.le_refl _⟩, ⟨by (with_reducible repeat (first | apply Kd.V_alloc | apply Kd.V_drewN | apply Kd.V_drew)); exact HO0.out⟩, ⟨by (with_reducible repeat (first | apply Kd.R_alloc | apply Kd.R_drewN | apply Kd.R_drew)); exact Kd.R_mono HO293.out (fun _ hk => hk.1)⟩, ⟨by repeat (first | (with_reducible first | exact HB.out | apply below_alloc | apply pw_below_drewN | apply below_drew1) | exact HB.out)⟩⟩
  case round =>
    clear H'
    try clear p2
    obtain ⟨x0_1, x3_1, HA, HK1, HO_0, HO_3, HB⟩ := hrel
    cases gk with
    | zero => exact absurd HA.out (by simp [triviumref02_Back.l0])
    | succ k1 =>
      have H := HA.out
      clear HA
      simp only [triviumref02_Back.l0] at H
      by_cases c4 : (x0_1.length : Int) > 0
      · rw [if_pos c4] at H
        have c4b0 : decide (0 < (x0_1.length : Int)) = true := decide_eq_true c4
        have c4b1 : decide (0 < x0_1.length) = true := decide_eq_true (by omega)
        clear c4
        replace H := Option.bind_eq_some_iff.mp H
        obtain ⟨⟨t294, t295⟩, A50, H⟩ := H
        replace H : (if x3_1.length < 17592186044416 then (triviumref02_Back.l0 k1 t294 (x3_1 ++ [IntKind.u64.wrap (t295)])) else (none)) = some r := H
        have A5 := Aside0.mk A50
        clear A50
        by_cases c6 : x3_1.length < 17592186044416
        · rw [if_pos c6] at H
          have LMc6 := Aside0.mk c6
          clear c6
          obtain ⟨y298, hy298⟩ : ∃ y_ : List Int, y_ = (x3_1 ++ [IntKind.u64.wrap (t295)]) := ⟨_, rfl⟩
          replace H : (triviumref02_Back.l0 k1 t294 y298) = some r := by first | (rw [hy298]; with_reducible exact H) | (have H2_ := (Option.bind_some _ _).symm.trans H; rw [hy298]; with_reducible exact H2_) | (have H2_ := (Option.bind_some _ _).symm.trans H; with_reducible exact H2_) | with_reducible exact H | (rw [hy298]; exact H) | exact H
          have Ny298 := Aside0.mk hy298
          clear hy298
          have H' := Aside0.mk H
          clear H
          obtain ⟨Ao7, co7, eo7⟩ := Kd.V_slice HO_0.out
          subst eo7
          go_wp2_with (first | ((with_reducible refine gate_callee (f := 84) rfl ?_); refine goesL_ (some 12) rfl rfl Tryd.func84 (by kernel_rfl) rfl #[.slice Ao7 x0_1.length co7, .int .i64 4294967296] rfl (by (try simp only [List.map_toArray, List.map_cons, List.map_nil]); first | done | rfl | (simp only [List.length_drop, List.length_take]; rfl)) ?_; (with_reducible refine (triviumref02_DivSmall.calls k1 _ _ x0_1 4294967296 t294 t295 _ ?side1 ?side2 A5.out).mono ?_); (case side1 => repeat (first | exact (Kd.V_reads' HO_0.out).2.2 | (with_reducible refine Kd.C_alloc ?_ _) | (with_reducible refine Kd.C_drewN ?_ _) | (with_reducible refine Kd.C_drew ?_))); (case side2 => exact (Kd.V_reads' HO_0.out).2.1); rintro e w8 ⟨v296, rfl, ho0, hb⟩; refine ⟨_, rfl, ?_⟩; have n0_ := Aside0.mk (Kd.V_elder' (by (with_reducible repeat (first | apply Kd.V_alloc | apply Kd.V_drewN | apply Kd.V_drew)); exact HO_0.out) (Kd.R_base ho0) hb); have n1_ := Aside0.mk (Kd.R_below (by (with_reducible repeat (first | apply Kd.R_alloc | apply Kd.R_drewN | apply Kd.R_drew)); exact HO_3.out) hb); have n2_ := Aside0.mk (Kd.R_lower (Kd.R_newM (M := fun k_ => (w.heap.size ≤ k_)) ho0 (below_size (by repeat (first | (with_reducible first | exact HB.out | apply below_alloc | apply pw_below_drewN | apply below_drew1) | exact HB.out))) (fun k_ h_ => h_)) (below_size (by repeat (first | (with_reducible first | exact HB.out | apply below_alloc | apply pw_below_drewN | apply below_drew1) | exact HB.out)))); have n3_ := Aside0.mk (below_step (by repeat (first | (with_reducible first | exact HB.out | apply below_alloc | apply pw_below_drewN | apply below_drew1) | exact HB.out)) hb); clear HO_0; clear HO_3; clear HB; have HO_0 := n0_; have HO_3 := n1_; have HO297 := n2_; have HB := n3_; clear n0_ n1_ n2_ n3_; (try clear hb); (try clear hb2); (try clear hk); (try clear hi); (try clear ho0)) | ((with_reducible refine gate_builtin (b := .append) (xs := #[.tmp 15, .tmp 18]) rfl ?_); at_builtin; refine Kd.R_append (Kd.int .u64) (w0 := w) w.heap.size rfl (.tmp 15) (.tmp 18) 23 96 (.int .u64 0) 8 rfl Tryd.underlying23 info96 rfl (by decide) (by omega) u3 x3_1 (IntKind.u64.wrap (t295)) [.int .u64 (IntKind.u64.wrap (t295))] (fun k_ => (w.heap.size ≤ k_)) (fun _ => False) rfl rfl ?aP (fun _ hk => hk.elim) ?aF ?aO ?aB ?aS ?aL ?_; (case aP => exact rfl); (case aB => exact (by repeat (first | (with_reducible first | exact HB.out | apply below_alloc | apply pw_below_drewN | apply below_drew1) | exact HB.out))); (case aF => exact (fun k_ hk => (Nat.le_trans (below_size (by repeat (first | (with_reducible first | exact HB.out | apply below_alloc | apply pw_below_drewN | apply below_drew1) | exact HB.out))) hk))); (case aO => exact (by (with_reducible repeat (first | apply Kd.R_alloc | apply Kd.R_drewN | apply Kd.R_drew)); exact HO_3.out)); (case aS => exact (below_size (by repeat (first | (with_reducible first | exact HB.out | apply below_alloc | apply pw_below_drewN | apply below_drew1) | exact HB.out)))); (case aL => have := LMc6.out; omega); intro v299 w9 ho hb hg hat; rw [← Ny298.out] at ho; have n0_ := Aside0.mk (Kd.V_afterv (ok := (fun k_ => (P0_ k_ ∨ w.heap.size ≤ k_) ∧ some k_ ≠ (v296 : Value).ownBlock)) (by (with_reducible repeat (first | apply Kd.V_alloc | apply Kd.V_drewN | apply Kd.V_drew)); exact Kd.V_mono HO_0.out (fun _ hk => (And.intro ((And.intro (hk.1.1) (hk.2))) (hk.1.2)))) hg hat); have n1_ := Aside0.mk (Kd.R_over' (by (with_reducible repeat (first | apply Kd.R_alloc | apply Kd.R_drewN | apply Kd.R_drew)); exact HO297.out) (Kd.R_typed (by (with_reducible repeat (first | apply Kd.R_alloc | apply Kd.R_drewN | apply Kd.R_drew)); exact HO_3.out)) (by decide) hg); have n2_ := Aside0.mk (hb); have n3_ := Aside0.mk (ho); clear HO_0; clear HO297; clear HB; clear HO_3; have HO_0 := n0_; have HO297 := n1_; have HB := n2_; have HO300 := n3_; clear n0_ n1_ n2_ n3_; clear ho hb hg hat))
          go_roundg k1
          case measure => have := HK1.out; omega
          case rel => exact ⟨(t294), (y298), H', ⟨by have := HK1.out; omega⟩, ⟨Kd.V_mono (Kd.R_V (by (with_reducible repeat (first | apply Kd.R_alloc | apply Kd.R_drewN | apply Kd.R_drew)); exact Kd.R_mono (Kd.R_apart' HO297.out (Kd.R_typed HO300.out) (by decide)) (fun _ hk => (And.intro (hk.1.1) (hk.2))))) (fun k_ hk => by first | exact ⟨(.inr (hk.1)), hk.2⟩ | exact (.inr (hk)))⟩, ⟨by (with_reducible repeat (first | apply Kd.R_alloc | apply Kd.R_drewN | apply Kd.R_drew)); exact HO300.out⟩, ⟨by repeat (first | (with_reducible first | exact HB.out | apply below_alloc | apply pw_below_drewN | apply below_drew1) | exact HB.out)⟩⟩
        · rw [if_neg c6] at H
          exact absurd H (by simp)
      · rw [if_neg c4] at H
        have c4b0 : decide (0 < (x0_1.length : Int)) = false := decide_eq_false c4
        have c4b1 : decide (0 < x0_1.length) = false := decide_eq_false (by omega)
        clear c4
        obtain rfl := Option.some.inj H
        obtain ⟨Ao10, co10, eo10⟩ := Kd.V_slice HO_0.out
        subst eo10
        go_wp2
        go_ret
        exact ⟨_, by first | rfl | (simp only [u32_w, u64_u32, i64_u32]; rfl) | (simp [errW_none, errW_some] <;> rfl) | (simp [*, errW_none, errW_some] <;> rfl), by (with_reducible repeat (first | apply Kd.R_alloc | apply Kd.R_drewN | apply Kd.R_drew)); exact HO_3.out, by repeat (first | (with_reducible first | exact HB.out | apply below_alloc | apply pw_below_drewN | apply below_drew1) | exact HB.out)⟩

end Go.Proofs.YthcmjcjgaebciaaDoor.T
/- Numbers by digits of base 10000: what the document's own small functions compute. -/
namespace Go.Proofs.YthcmjcjgaebciaaDoor.T
open Go.RowKit Go.Proofs.YthcmjcjgaebciaaDoorW.PrintWords Go.Proofs.YthcmjcjgaebciaaDoorW.PrintLast Go.Proofs.YthcmjcjgaebciaaDoorW.PrintMore Go.Proofs.YthcmjcjgaebciaaDoor.Tri

theorem refTrim_loop (n : Nat) : ∀ (a b : List Int), a.length = n → a.length ≤ 10000000000000 → Ev (fun k => triviumref02_Trim.l0 k (a ++ b) (a.length : Int)) (trimz a) := by
  induction n with
  | zero =>
    intro a b hn _
    obtain rfl : a = [] := List.eq_nil_of_length_eq_zero hn
    refine evStep (Ev.now []) fun k => ?_
    simp only [triviumref02_Trim.l0, Option.bind_some]
    rw [if_neg (by simp), if_pos (by simp), if_pos (by simp), if_pos (by simp)]
    simp
  | succ n ih =>
    intro a b hn hl
    obtain ⟨c, x, rfl⟩ := eq_snoc (l := a) (by rintro rfl; simp at hn)
    simp only [List.length_append, List.length_cons, List.length_nil, Nat.zero_add] at hn hl ⊢
    have w : wrap64 (((c.length + 1 : Nat) : Int) - 1) = (c.length : Int) := by rw [w64' (by omega) (by omega)]; omega
    have hr : rd (c ++ [x] ++ b) (c.length : Int) = x := by rw [List.append_assoc]; exact rd_at c b x _ rfl
    by_cases hx : x = 0
    · subst hx
      rw [trimz_snoc_zero]
      refine evStep (ih c (0 :: b) (by omega) (by omega)) fun k => ?_
      simp only [triviumref02_Trim.l0]
      rw [w, hr, if_pos (by omega), if_pos (by omega), if_pos (by simp; omega), if_pos rfl]
      simp
    · have ht : trimz (c ++ [x]) = c ++ [x] := trimz_of_top (Top.snoc.2 hx)
      rw [ht]
      refine evStep (Ev.now _) fun k => ?_
      simp only [triviumref02_Trim.l0, Option.bind_some]
      have e : (((c.length + 1 : Nat) : Int)).toNat = (c ++ [x]).length := by simp
      rw [w, hr, if_pos (by omega), if_pos (by omega), if_pos (by simp; omega), if_neg hx, if_pos (by omega), if_pos (by simp; omega), e, List.take_left, if_pos (by simp; omega), List.nil_append]
theorem refTrim_ev (a : List Int) (h : a.length ≤ 10000000000000) : Ev (fun k => triviumref02_Trim.f k a) (trimz a) := by
  have := refTrim_loop a.length a [] rfl h
  rw [List.append_nil] at this
  exact evSame this fun _ => rfl
theorem tdiv_pos {a b : Int} (h : 0 ≤ a) : Int.tdiv a b = a / b := Int.tdiv_eq_ediv_of_nonneg h
theorem tmod_pos {a b : Int} (h : 0 ≤ a) : Int.tmod a b = a % b := Int.tmod_eq_emod_of_nonneg h
/-- what is carried on is written -/
theorem carry_loop (n : Nat) : ∀ (c : Int) (d : List Int), 0 ≤ c → c < 10000 ^ n → c < 1000000000000000000 → Dig 10000 d → d.length + n ≤ 1000000000000 →
    ∃ r, Dig 10000 r ∧ dv 10000 r = dv 10000 d + 10000 ^ d.length * c ∧ r.length ≤ d.length + n ∧ Ev (fun k => triviumref02_MulAdd.l1 k c d) (trimz r) := by
  induction n with
  | zero =>
    intro c d h0 h1 _ hd hl
    have : c = 0 := by simp at h1; omega
    subst this
    refine ⟨d, hd, by simp, by omega, ?_⟩
    refine evStep (g := fun k => (triviumref02_Trim.f k d).bind fun t => some t) (Ev.bind (refTrim_ev d (by omega)) (Ev.now _)) fun k => ?_
    simp only [triviumref02_MulAdd.l1]
    rw [if_neg (by omega)]
  | succ n ih =>
    intro c d h0 h1 hb hd hl
    by_cases hc : c = 0
    · subst hc
      refine ⟨d, hd, by simp, by omega, ?_⟩
      refine evStep (g := fun k => (triviumref02_Trim.f k d).bind fun t => some t) (Ev.bind (refTrim_ev d (by omega)) (Ev.now _)) fun k => ?_
      simp only [triviumref02_MulAdd.l1]
      rw [if_neg (by omega)]
    · have hlo : 0 ≤ c % 10000 ∧ c % 10000 < 10000 := by omega
      have hlt : c / 10000 < 10000 ^ n := Int.ediv_lt_of_lt_mul (by decide) (by rw [Int.pow_succ] at h1; exact h1)
      obtain ⟨r, h2, h3, h4, h5⟩ := ih (c / 10000) (d ++ [c % 10000]) (by omega) hlt (by omega) (hd.snoc hlo) (by simp; omega)
      refine ⟨r, h2, ?_, by simp at h4; omega, ?_⟩
      · rw [h3, dv_snoc]
        simp only [List.length_append, List.length_cons, List.length_nil, Nat.zero_add, Int.pow_succ]
        have hdm := Int.mul_ediv_add_emod c 10000
        generalize c / 10000 = q at hdm
        generalize c % 10000 = s at hdm
        subst hdm
        grind
      · refine evStep h5 fun k => ?_
        conv => lhs; unfold triviumref02_MulAdd.l1
        rw [tdiv_pos h0, tmod_pos h0, w64' (by omega) (by omega), if_pos (by omega), if_pos (by omega)]
theorem mulAdd_loop (b : List Int) : ∀ (a d : List Int) (m c : Int), Dig 10000 (a ++ b) → Dig 10000 d → d.length = a.length → 0 ≤ m → m ≤ 4294967296 → 0 ≤ c → c ≤ 4294967296 → (a ++ b).length ≤ 100000000000 →
    ∃ r, Dig 10000 r ∧ dv 10000 r = dv 10000 d + 10000 ^ a.length * (dv 10000 b * m + c) ∧ r.length ≤ (a ++ b).length + 3 ∧ Ev (fun k => triviumref02_MulAdd.l0 k (a ++ b) m c d (a.length : Int)) (trimz r) := by
  induction b with
  | nil =>
    intro a d m c ha hd hdl hm0 hm1 hc0 hc1 hl
    rw [List.append_nil] at *
    obtain ⟨r, h2, h3, h4, h5⟩ := carry_loop 3 c d hc0 (by omega) (by omega) hd (by omega)
    refine ⟨r, h2, ?_, by omega, ?_⟩
    · rw [h3, hdl]; simp [dv]
    · refine evStep h5 fun k => ?_
      simp only [triviumref02_MulAdd.l0]
      rw [if_neg (by omega)]
  | cons x b ih =>
    intro a d m c ha hd hdl hm0 hm1 hc0 hc1 hl
    have hx := ha.right.head
    have e : a ++ x :: b = (a ++ [x]) ++ b := by simp
    have hl2 : a.length + (b.length + 1) ≤ 100000000000 := by simpa using hl
    have hr : rd (a ++ x :: b) (a.length : Int) = x := rd_at a b x _ rfl
    have w : wrap64 ((a.length : Int) + 1) = (((a ++ [x]).length : Nat) : Int) := by rw [w64' (by omega) (by omega)]; simp
    have hp0 : 0 ≤ x * m := Int.mul_nonneg hx.1 hm0
    have hp1 : x * m ≤ 9999 * 4294967296 := by
      have h3 : x * m ≤ 9999 * m := Int.mul_le_mul_of_nonneg_right (by omega) hm0
      omega
    obtain ⟨p, hp⟩ : ∃ p, p = x * m := ⟨_, rfl⟩
    rw [← hp] at hp0 hp1
    have hlo : 0 ≤ (c + p) % 10000 ∧ (c + p) % 10000 < 10000 := by omega
    obtain ⟨r, h1, h3, h4, h5⟩ := ih (a ++ [x]) (d ++ [(c + p) % 10000]) m ((c + p) / 10000) (by rw [← e]; exact ha) (hd.snoc hlo) (by simp; omega) hm0 hm1 (by omega) (by omega) (by rw [← e]; exact hl)
    refine ⟨r, h1, ?_, by rw [e]; exact h4, ?_⟩
    · rw [h3, dv_snoc, dv_cons, hdl]
      have hdm := Int.mul_ediv_add_emod (c + p) 10000
      simp only [List.length_append, List.length_cons, List.length_nil, Nat.zero_add, Int.pow_succ]
      generalize (c + p) / 10000 = q at hdm
      generalize (c + p) % 10000 = s at hdm
      have : c = 10000 * q + s - x * m := by omega
      subst this
      grind
    · refine evStep h5 fun k => ?_
      conv => lhs; unfold triviumref02_MulAdd.l0
      rw [if_pos (by simp; omega), if_pos (by omega), hr, ← hp, w64' (x := p) (by omega) (by omega), w64' (x := c + p) (by omega) (by omega), tdiv_pos (by omega), tmod_pos (by omega), w64' (x := (c + p) / 10000) (by omega) (by omega), if_pos (by omega), w, e]
theorem mulAdd_ev (a : List Int) (m c : Int) (ha : Dig 10000 a) (hm0 : 0 ≤ m) (hm1 : m ≤ 4294967296) (hc0 : 0 ≤ c) (hc1 : c ≤ 4294967296) (hl : a.length ≤ 100000000000) :
    ∃ r, Tri.Can 10000 r ∧ dv 10000 r = dv 10000 a * m + c ∧ r.length ≤ a.length + 3 ∧ Ev (fun k => triviumref02_MulAdd.f k a m c) r := by
  obtain ⟨r, h1, h2, h3, h4⟩ := mulAdd_loop a [] [] m c ha (Dig.nil _) rfl hm0 hm1 hc0 hc1 hl
  refine ⟨trimz r, trimz_can h1, ?_, ?_, ?_⟩
  · rw [trimz_dv, h2]; simp [dv]
  · have := trimz_length r
    simp at h3; omega
  · exact evSame h4 fun _ => rfl
theorem of_loop (n : Nat) : ∀ (a b x : List Int), a.length = n → Dig 4294967296 (a ++ b) → Tri.Can 10000 x → dv 10000 x = dv 4294967296 b → x.length ≤ 3 * b.length → (a ++ b).length ≤ 1000000000 →
    ∃ r, Tri.Can 10000 r ∧ dv 10000 r = dv 4294967296 (a ++ b) ∧ r.length ≤ 3 * (a ++ b).length ∧ Ev (fun k => triviumref02_Of.l0 k (a ++ b) x ((a.length : Int) - 1)) r := by
  induction n with
  | zero =>
    intro a b x hn hd hx hv hxl hl
    obtain rfl : a = [] := List.eq_nil_of_length_eq_zero hn
    refine ⟨x, hx, hv, hxl, ?_⟩
    refine evStep (Ev.now x) fun k => ?_
    simp only [triviumref02_Of.l0]
    rw [if_neg (by simp)]
  | succ n ih =>
    intro a b x hn hd hx hv hxl hl
    obtain ⟨c, y, rfl⟩ := eq_snoc (l := a) (by rintro rfl; simp at hn)
    have hy := hd.left.right.head
    simp only [List.length_append, List.length_cons, List.length_nil, Nat.zero_add] at hn hl
    obtain ⟨r1, h1, h2, h3, h4⟩ := mulAdd_ev x 4294967296 y hx.1 (by omega) (by omega) hy.1 (by omega) (by omega)
    have e : c ++ [y] ++ b = c ++ y :: b := by simp
    obtain ⟨r, g1, g2, g3, g4⟩ := ih c (y :: b) r1 (by omega) (by rw [← e]; exact hd) h1 (by rw [h2, hv, dv_cons]; omega) (by simp; omega) (by simp; omega)
    refine ⟨r, g1, by rw [e]; exact g2, by rw [e]; exact g3, ?_⟩
    have hr : rd (c ++ y :: b) (c.length : Int) = y := rd_at c b y _ rfl
    have w : (((c ++ [y]).length : Nat) : Int) - 1 = (c.length : Int) := by simp
    have w2 : wrap64 ((c.length : Int) - 1) = (c.length : Int) - 1 := w64' (by omega) (by omega)
    refine evStep (g := fun k => (triviumref02_MulAdd.f k x 4294967296 y).bind fun t => triviumref02_Of.l0 k (c ++ y :: b) t ((c.length : Int) - 1)) (Ev.bind h4 g4) fun k => ?_
    conv => lhs; unfold triviumref02_Of.l0
    rw [w, e, hr, tmod_pos hy.1, Int.emod_eq_of_lt hy.1 hy.2, w64' (x := y) (by omega) (by omega), w2, if_pos (by omega), if_pos (by omega), if_pos (by simp; omega)]
theorem of_ev (a : List Int) (ha : Dig 4294967296 a) (hl : a.length ≤ 1000000000) :
    ∃ r, Tri.Can 10000 r ∧ dv 10000 r = dv 4294967296 a ∧ r.length ≤ 3 * a.length ∧ Ev (fun k => triviumref02_Of.f k a) r := by
  obtain ⟨r, h1, h2, h3, h4⟩ := of_loop a.length a [] [] rfl (by rw [List.append_nil]; exact ha) (Can.nil _) rfl (by simp) (by rw [List.append_nil]; exact hl)
  rw [List.append_nil] at *
  refine ⟨r, h1, h2, h3, evSame h4 fun k => ?_⟩
  unfold triviumref02_Of.f
  rw [w64' (by omega) (by omega)]
theorem divSmall_loop (n : Nat) : ∀ (a b z q : List Int) (d r : Int), a.length = n → Dig 10000 (a ++ b) → Dig 10000 q → z.length = a.length → q.length = b.length → 0 < d → d ≤ 4294967296 → 0 ≤ r → r < d → dv 10000 b = dv 10000 q * d + r → (a ++ b).length ≤ 1000000000000 →
    ∃ t s, Dig 10000 t ∧ dv 10000 (a ++ b) = dv 10000 t * d + s ∧ 0 ≤ s ∧ s < d ∧ t.length = (a ++ b).length ∧ Ev (fun k => triviumref02_DivSmall.l0 k (a ++ b) d (z ++ q) r ((a.length : Int) - 1)) (trimz t, s) := by
  induction n with
  | zero =>
    intro a b z q d r hn hd hq hz hql hd0 hd1 hr0 hr1 hv hl
    obtain rfl : a = [] := List.eq_nil_of_length_eq_zero hn
    obtain rfl : z = [] := List.eq_nil_of_length_eq_zero hz
    refine ⟨q, r, hq, hv, hr0, hr1, hql, ?_⟩
    refine evStep (g := fun k => (triviumref02_Trim.f k q).bind fun t => some (t, r)) (Ev.bind (refTrim_ev q (by simp at hl; omega)) (Ev.now _)) fun k => ?_
    simp only [triviumref02_DivSmall.l0]
    rw [if_neg (by simp)]
    rfl
  | succ n ih =>
    intro a b z q d r hn hd hq hz hql hd0 hd1 hr0 hr1 hv hl
    obtain ⟨c, y, rfl⟩ := eq_snoc (l := a) (by rintro rfl; simp at hn)
    obtain ⟨z1, z0, rfl⟩ := eq_snoc (l := z) (by rintro rfl; simp at hz)
    have hy := hd.left.right.head
    simp only [List.length_append, List.length_cons, List.length_nil, Nat.zero_add] at hn hl hz
    have e : c ++ [y] ++ b = c ++ y :: b := by simp
    have hx0 : 0 ≤ 10000 * r + y := by omega
    have hx1 : 10000 * r + y < 10000 * d := by omega
    have hq0 : 0 ≤ (10000 * r + y) / d ∧ (10000 * r + y) / d < 10000 := ⟨Int.ediv_nonneg hx0 (by omega), Int.ediv_lt_of_lt_mul hd0 hx1⟩
    have hm0 := Int.emod_nonneg (10000 * r + y) (show d ≠ 0 by omega)
    have hm1 := Int.emod_lt_of_pos (10000 * r + y) hd0
    have hdm := Int.mul_ediv_add_emod (10000 * r + y) d
    obtain ⟨t, s, h1, h2, h3, h4, h5, h6⟩ := ih c (y :: b) z1 ((10000 * r + y) / d :: q) d ((10000 * r + y) % d) (by omega) (by rw [← e]; exact hd) (Dig.cons hq0 hq) (by omega) (by simp; omega) hd0 hd1 hm0 hm1 (by
      rw [dv_cons, dv_cons, hv]
      generalize (10000 * r + y) / d = u at hdm
      generalize (10000 * r + y) % d = v at hdm
      have : y = d * u + v - 10000 * r := by omega
      subst this
      grind) (by simp; omega)
    refine ⟨t, s, h1, by rw [e]; exact h2, h3, h4, by rw [e]; exact h5, ?_⟩
    have hr : rd (c ++ y :: b) (c.length : Int) = y := rd_at c b y _ rfl
    have w : (((c ++ [y]).length : Nat) : Int) - 1 = (c.length : Int) := by simp
    have w2 : wrap64 ((c.length : Int) - 1) = (c.length : Int) - 1 := w64' (by omega) (by omega)
    have es : (z1 ++ [z0] ++ q).set ((c.length : Int)).toNat ((10000 * r + y) / d) = z1 ++ (10000 * r + y) / d :: q := by
      have : c.length = z1.length := by omega
      rw [Int.toNat_natCast, this]; simp
    have h7 : (10000 * r + y) / d ≤ 10000 * r + y := Int.ediv_le_self _ hx0
    refine evStep h6 fun k => ?_
    conv => lhs; unfold triviumref02_DivSmall.l0
    rw [w, e, hr, w64' (x := 10000 * r) (by omega) (by omega), w64' (x := 10000 * r + y) (by omega) (by omega), tdiv_pos hx0, tmod_pos hx0, w64' (x := (10000 * r + y) / d) (by omega) (by omega), es, w2, if_pos (by omega), if_pos (by omega), if_pos (by simp; omega), if_neg (by omega), if_pos (by simp; omega)]
theorem divSmall_ev (a : List Int) (d : Int) (ha : Dig 10000 a) (hd0 : 0 < d) (hd1 : d ≤ 4294967296) (hl : a.length ≤ 1000000000000) :
    ∃ t, Tri.Can 10000 t ∧ dv 10000 t = dv 10000 a / d ∧ t.length ≤ a.length ∧ Ev (fun k => triviumref02_DivSmall.f k a d) (t, dv 10000 a % d) := by
  obtain ⟨t, s, h1, h2, h3, h4, h5, h6⟩ := divSmall_loop a.length a [] (List.replicate a.length 0) [] d 0 rfl (by rw [List.append_nil]; exact ha) (Dig.nil _) (by simp) rfl hd0 hd1 (by omega) hd0 (by simp [dv]) (by rw [List.append_nil]; exact hl)
  rw [List.append_nil] at *
  have hs : dv 10000 a % d = s := by
    rw [h2, Int.add_comm, Int.add_mul_emod_self_right, Int.emod_eq_of_lt h3 h4]
  have hq : dv 10000 a / d = dv 10000 t := by
    rw [h2, Int.add_comm, Int.add_mul_ediv_right _ _ (by omega), Int.ediv_eq_zero_of_lt h3 h4, Int.zero_add]
  refine ⟨trimz t, trimz_can h1, by rw [trimz_dv, hq], by have := trimz_length t; omega, ?_⟩
  rw [hs]
  refine evSame h6 fun k => ?_
  unfold triviumref02_DivSmall.f
  rw [if_pos (by omega), if_pos (by omega), w64' (by omega) (by omega), Int.toNat_natCast, List.append_nil]
theorem back_loop (n : Nat) : ∀ (x d : List Int), Tri.Can 10000 x → dv 10000 x < 4294967296 ^ n → Dig 4294967296 d → x.length ≤ 1000000000000 → d.length + n ≤ 1000000000000 →
    ∃ e r, r = d ++ e ∧ Tri.Can 4294967296 e ∧ dv 4294967296 e = dv 10000 x ∧ e.length ≤ n ∧ Ev (fun k => triviumref02_Back.l0 k x d) r := by
  induction n with
  | zero =>
    intro x d hx hv hd hxl hl
    have h0 := dv_nonneg (by decide) hx.1
    have hx0 : x = [] := (hx.eq_nil (by decide)).2 (by simp at hv; omega)
    subst hx0
    refine ⟨[], d, by simp, Can.nil _, rfl, by simp, evStep (Ev.now d) fun k => ?_⟩
    simp only [triviumref02_Back.l0]
    rw [if_neg (by simp)]
  | succ n ih =>
    intro x d hx hv hd hxl hl
    by_cases hx0 : x = []
    · subst hx0
      refine ⟨[], d, by simp, Can.nil _, rfl, by simp, evStep (Ev.now d) fun k => ?_⟩
      simp only [triviumref02_Back.l0]
      rw [if_neg (by simp)]
    · have hpos := hx.pos (by decide) hx0
      obtain ⟨t, h1, h2, h3, h4⟩ := divSmall_ev x 4294967296 hx.1 (by decide) (by decide) hxl
      have hm0 : 0 ≤ dv 10000 x % 4294967296 := by omega
      have hm1 : dv 10000 x % 4294967296 < 4294967296 := by omega
      obtain ⟨e, r, g1, g2, g3, g4, g5⟩ := ih t (d ++ [dv 10000 x % 4294967296]) h1 (by
        rw [h2]; exact Int.ediv_lt_of_lt_mul (by decide) (by rw [Int.pow_succ] at hv; exact hv)) (hd.snoc ⟨hm0, hm1⟩) (by omega) (by simp; omega)
      refine ⟨dv 10000 x % 4294967296 :: e, r, by rw [g1]; simp, ⟨Dig.cons ⟨hm0, hm1⟩ g2.1, ?_⟩, ?_, by simp; omega, ?_⟩
      · by_cases he : e = []
        · subst he
          have hz : dv 10000 x / 4294967296 = 0 := by rw [← h2, ← g3]; rfl
          have : dv 10000 x % 4294967296 ≠ 0 := by omega
          simpa [Top] using this
        · unfold Top
          rw [List.getLast?_cons_of_ne_nil he]
          exact g2.2
      · rw [dv_cons, g3, h2]; omega
      · have hu : IntKind.u64.wrap (dv 10000 x % 4294967296) = dv 10000 x % 4294967296 := u64' hm0 (by omega)
        refine evStep (g := fun k => (triviumref02_DivSmall.f k x 4294967296).bind fun bt => if d.length < 17592186044416 then triviumref02_Back.l0 k bt.1 (d ++ [IntKind.u64.wrap bt.2]) else none) (Ev.bind h4 ?_) fun k => ?_
        · refine evSame g5 fun k => ?_
          dsimp only
          rw [if_pos (by omega), hu]
        · conv => lhs; unfold triviumref02_Back.l0
          have : 0 < x.length := List.length_pos_iff.2 hx0
          rw [if_pos (by omega)]
theorem back_ev (x : List Int) (hx : Tri.Can 10000 x) (hl : x.length ≤ 1000000000) :
    ∃ e, Tri.Can 4294967296 e ∧ dv 4294967296 e = dv 10000 x ∧ Ev (fun k => triviumref02_Back.f k x) e := by
  have hlt := dv_lt (by decide) hx.1
  have hp : (10000 : Int) ^ x.length ≤ 4294967296 ^ x.length := by
    generalize x.length = n
    induction n with
    | zero => simp
    | succ n ih =>
      rw [Int.pow_succ, Int.pow_succ]
      have h1 : (0 : Int) ≤ 4294967296 ^ n := Int.le_of_lt (Int.pow_pos (by decide))
      omega
  obtain ⟨e, r, h1, h2, h3, _, h5⟩ := back_loop x.length x [] hx (by omega) (Dig.nil _) (by omega) (by simp; omega)
  refine ⟨e, h2, h3, ?_⟩
  rw [List.nil_append] at h1
  subst h1
  exact evSame h5 fun _ => rfl
end Go.Proofs.YthcmjcjgaebciaaDoor.T
-- Out of the translation, by a program (myprint.py).
namespace Go.Proofs.YthcmjcjgaebciaaDoor.T
open Go.RowKit Go.Proofs.YthcmjcjgaebciaaDoorW.PrintWords Go.Proofs.YthcmjcjgaebciaaDoorW.PrintLast Go.Proofs.YthcmjcjgaebciaaDoorW.PrintMore
attribute [local go_sem] max2_int min2_int max_two min_two max_three min_three max_four min_four   -- for this text's walks alone
set_option linter.unusedVariables false
set_option linter.unusedSimpArgs false

/-! ### triviumref06_digit: function 74 -/
mutual
def triviumref06_digit.j0 : Nat → Int → Int → Int → Bool → Option (Int)
  | 0, _, _, _, _ => none
  | k + 1, x0, x1, x5, x11 => if x11 = true then (triviumref06_digit.j1 k x0 x1 ((x0 - 48) % 256)) else (triviumref06_digit.j1 k x0 x1 x5)
def triviumref06_digit.j1 : Nat → Int → Int → Int → Option (Int)
  | 0, _, _, _ => none
  | k + 1, x0, x1, x5 => if x0 ≥ 97 then (triviumref06_digit.j2 k x0 x1 x5 (decide (x0 ≤ 122))) else (triviumref06_digit.j2 k x0 x1 x5 false)
def triviumref06_digit.j2 : Nat → Int → Int → Int → Bool → Option (Int)
  | 0, _, _, _, _ => none
  | k + 1, x0, x1, x5, x20 => if x20 = true then (if (((x0 - 97) % 256) + 10) ≥ x1 then (some (-1)) else (some (((x0 - 97) % 256) + 10))) else (if x5 ≥ x1 then (some (-1)) else (some x5))
end
def triviumref06_digit.f (k : Nat) (a0 : Int) (a1 : Int) : Option (Int) := if a0 ≥ 48 then (triviumref06_digit.j0 k a0 a1 (-1) (decide (a0 ≤ 57))) else (triviumref06_digit.j0 k a0 a1 (-1) false)
theorem triviumref06_digit.mono_l : ∀ k, (∀ y0 y1 y2 y3, LeO (triviumref06_digit.j0 k y0 y1 y2 y3) (triviumref06_digit.j0 (k + 1) y0 y1 y2 y3)) ∧ (∀ y0 y1 y2, LeO (triviumref06_digit.j1 k y0 y1 y2) (triviumref06_digit.j1 (k + 1) y0 y1 y2)) ∧ (∀ y0 y1 y2 y3, LeO (triviumref06_digit.j2 k y0 y1 y2 y3) (triviumref06_digit.j2 (k + 1) y0 y1 y2 y3))
  | 0 => ⟨fun _ _ _ _ r h => by simp [triviumref06_digit.j0] at h, fun _ _ _ r h => by simp [triviumref06_digit.j1] at h, fun _ _ _ _ r h => by simp [triviumref06_digit.j2] at h⟩
  | k + 1 => by
    obtain ⟨ih0, ih1, ih2⟩ := triviumref06_digit.mono_l k
    refine ⟨?_, ?_, ?_⟩
    · intro y0 y1 y2 y3
      unfold triviumref06_digit.j0
      repeat' first
      | (with_reducible exact ih0 _ _ _ _)
      | (with_reducible exact ih1 _ _ _)
      | (with_reducible exact ih2 _ _ _ _)
      | (with_reducible exact LeO.refl _)
      | (with_reducible exact LeO.none _)
      | (with_reducible refine LeO.ite ?_ ?_)
      | (with_reducible refine LeO.bind ?_ (fun _ => ?_))
      | exact ih0 _ _ _ _
      | exact ih1 _ _ _
      | exact ih2 _ _ _ _
      | exact LeO.none _
      | refine LeO.ite ?_ ?_
      | refine LeO.bind ?_ (fun _ => ?_)
    · intro y0 y1 y2
      unfold triviumref06_digit.j1
      repeat' first
      | (with_reducible exact ih0 _ _ _ _)
      | (with_reducible exact ih1 _ _ _)
      | (with_reducible exact ih2 _ _ _ _)
      | (with_reducible exact LeO.refl _)
      | (with_reducible exact LeO.none _)
      | (with_reducible refine LeO.ite ?_ ?_)
      | (with_reducible refine LeO.bind ?_ (fun _ => ?_))
      | exact ih0 _ _ _ _
      | exact ih1 _ _ _
      | exact ih2 _ _ _ _
      | exact LeO.none _
      | refine LeO.ite ?_ ?_
      | refine LeO.bind ?_ (fun _ => ?_)
    · intro y0 y1 y2 y3
      unfold triviumref06_digit.j2
      repeat' first
      | (with_reducible exact ih0 _ _ _ _)
      | (with_reducible exact ih1 _ _ _)
      | (with_reducible exact ih2 _ _ _ _)
      | (with_reducible exact LeO.refl _)
      | (with_reducible exact LeO.none _)
      | (with_reducible refine LeO.ite ?_ ?_)
      | (with_reducible refine LeO.bind ?_ (fun _ => ?_))
      | exact ih0 _ _ _ _
      | exact ih1 _ _ _
      | exact ih2 _ _ _ _
      | exact LeO.none _
      | refine LeO.ite ?_ ?_
      | refine LeO.bind ?_ (fun _ => ?_)
theorem triviumref06_digit.mono : ∀ a0 a1 k, LeO (triviumref06_digit.f k a0 a1) (triviumref06_digit.f (k + 1) a0 a1) := by
  intro a0 a1 k
  obtain ⟨ih0, ih1, ih2⟩ := triviumref06_digit.mono_l k
  unfold triviumref06_digit.f
  repeat' first
      | (with_reducible exact ih0 _ _ _ _)
      | (with_reducible exact ih1 _ _ _)
      | (with_reducible exact ih2 _ _ _ _)
      | (with_reducible exact LeO.refl _)
      | (with_reducible exact LeO.none _)
      | (with_reducible refine LeO.ite ?_ ?_)
      | (with_reducible refine LeO.bind ?_ (fun _ => ?_))
      | exact ih0 _ _ _ _
      | exact ih1 _ _ _
      | exact ih2 _ _ _ _
      | exact LeO.none _
      | refine LeO.ite ?_ ?_
      | refine LeO.bind ?_ (fun _ => ?_)
set_option maxHeartbeats 8000000 in
set_option maxRecDepth 100000 in
theorem triviumref06_digit.calls (k : Nat) (a0 : Int) (a1 : Int) (r : Int) (w : World) (h : triviumref06_digit.f k a0 a1 = some r) :
    Calls Tryd.prog 74 #[.int .u8 a0, .int .i64 a1] w fun e w' => e = .returned (.int .i64 r) ∧ Drawn0 w w' := by
  have H : (if a0 ≥ 48 then (triviumref06_digit.j0 k a0 a1 (-1) (decide (a0 ≤ 57))) else (triviumref06_digit.j0 k a0 a1 (-1) false)) = some r := h
  clear h
  have HC3 := Aside0.mk H
  clear H
  go_enter Tryd.func74, Tryd.ntmps74
  go_upto_region 2 with (fail)
  go_cut [11] (fun v11 wc => ∃ (kq : Nat) (x11_2 : Bool), v11 = .bool x11_2 ∧ Aside0 (triviumref06_digit.j0 kq a0 a1 (-1) x11_2 = some r) ∧ Aside0 (kq ≤ k) ∧ Drawn0 w wc)
  case first =>
    have H := HC3.out
    clear HC3
    by_cases c4 : a0 ≥ 48
    · rw [if_pos c4] at H
      have c4b0 : decide (48 ≤ a0) = true := decide_eq_true c4
      clear c4
      (first | rw [c4b0] | (simp only [i64_w, i32_w]; rw [c4b0]) | skip)
      have H' := Aside0.mk H
      clear H
      go_wp2
      go_meet
      case rel => exact ⟨_, (decide (a0 ≤ 57)), (by first | rfl | (simp; done) | (simp [*]; done) | (congr 1; omega) | (simp; omega)), H', ⟨by first | omega | exact Nat.le_refl _⟩, by repeat (first | exact Drawn0.refl _ | apply Drawn0.step)⟩
    · rw [if_neg c4] at H
      have c4b0 : decide (48 ≤ a0) = false := decide_eq_false c4
      clear c4
      (first | rw [c4b0] | (simp only [i64_w, i32_w]; rw [c4b0]) | skip)
      have H' := Aside0.mk H
      clear H
      go_wp2
      go_meet
      case rel => exact ⟨_, (false), (by first | rfl | (simp; done) | (simp [*]; done) | (congr 1; omega) | (simp; omega)), H', ⟨by first | omega | exact Nat.le_refl _⟩, by repeat (first | exact Drawn0.refl _ | apply Drawn0.step)⟩
  case rest =>
    clear HC3
    try clear p2
    try clear c4
    try clear c4b0
    obtain ⟨kq, x11_2, rfl, HA, HJ2, ⟨mc2, rfl⟩⟩ := hcut
    cases kq with
    | zero => exact absurd HA.out (by simp [triviumref06_digit.j0])
    | succ kj2 =>
      have H := HA.out
      clear HA
      simp only [triviumref06_digit.j0] at H
      have HC5 := Aside0.mk H
      clear H
      go_upto_if 11 with (fail)
      go_cut [5] (fun v5 wc => ∃ (kq : Nat) (x5_4 : Int), v5 = .int .i64 x5_4 ∧ Aside0 (triviumref06_digit.j1 kq a0 a1 x5_4 = some r) ∧ Aside0 (kq ≤ kj2) ∧ Drawn0 w wc)
      case first =>
        have H := HC5.out
        clear HC5
        by_cases c6 : x11_2 = true
        · subst c6
          have H1 : (triviumref06_digit.j1 kj2 a0 a1 ((a0 - 48) % 256)) = some r := by rw [if_pos rfl] at H; exact H
          clear H
          have H := H1
          clear H1
          have H' := Aside0.mk H
          clear H
          go_wp2
          go_meet
          case rel => exact ⟨_, ((a0 - 48) % 256), (by first | rfl | (simp; done) | (simp [*]; done) | (congr 1; omega) | (simp; omega)), H', ⟨by have := HJ2.out; first | omega | exact Nat.le_refl _⟩, by repeat (first | exact Drawn0.refl _ | apply Drawn0.step)⟩
        · replace c6 := Bool.eq_false_iff.mpr c6
          subst c6
          have H1 : (triviumref06_digit.j1 kj2 a0 a1 (-1)) = some r := by rw [if_neg (show ¬ (false = true) by decide)] at H; exact H
          clear H
          have H := H1
          clear H1
          have H' := Aside0.mk H
          clear H
          go_wp2
          go_meet
          case rel => exact ⟨_, ((-1)), (by first | rfl | (simp; done) | (simp [*]; done) | (congr 1; omega) | (simp; omega)), H', ⟨by have := HJ2.out; first | omega | exact Nat.le_refl _⟩, by repeat (first | exact Drawn0.refl _ | apply Drawn0.step)⟩
      case rest =>
        clear HC5
        try clear c2
        try clear p2
        try clear c4
        try clear c4b0
        try clear c6
        try clear p2
        obtain ⟨kq, x5_4, rfl, HA, HJ4, ⟨mc4, rfl⟩⟩ := hcut
        cases kq with
        | zero => exact absurd HA.out (by simp [triviumref06_digit.j1])
        | succ kj4 =>
          have H := HA.out
          clear HA
          simp only [triviumref06_digit.j1] at H
          have HC7 := Aside0.mk H
          clear H
          go_upto_region 4 with (fail)
          go_cut [20] (fun v20 wc => ∃ (kq : Nat) (x20_6 : Bool), v20 = .bool x20_6 ∧ Aside0 (triviumref06_digit.j2 kq a0 a1 x5_4 x20_6 = some r) ∧ Aside0 (kq ≤ kj4) ∧ Drawn0 w wc)
          case first =>
            have H := HC7.out
            clear HC7
            by_cases c8 : a0 ≥ 97
            · rw [if_pos c8] at H
              have c8b0 : decide (97 ≤ a0) = true := decide_eq_true c8
              clear c8
              (first | rw [c8b0] | (simp only [i64_w, i32_w]; rw [c8b0]) | skip)
              have H' := Aside0.mk H
              clear H
              go_wp2
              go_meet
              case rel => exact ⟨_, (decide (a0 ≤ 122)), (by first | rfl | (simp; done) | (simp [*]; done) | (congr 1; omega) | (simp; omega)), H', ⟨by have := HJ2.out; have := HJ4.out; first | omega | exact Nat.le_refl _⟩, by repeat (first | exact Drawn0.refl _ | apply Drawn0.step)⟩
            · rw [if_neg c8] at H
              have c8b0 : decide (97 ≤ a0) = false := decide_eq_false c8
              clear c8
              (first | rw [c8b0] | (simp only [i64_w, i32_w]; rw [c8b0]) | skip)
              have H' := Aside0.mk H
              clear H
              go_wp2
              go_meet
              case rel => exact ⟨_, (false), (by first | rfl | (simp; done) | (simp [*]; done) | (congr 1; omega) | (simp; omega)), H', ⟨by have := HJ2.out; have := HJ4.out; first | omega | exact Nat.le_refl _⟩, by repeat (first | exact Drawn0.refl _ | apply Drawn0.step)⟩
          case rest =>
            clear HC7
            try clear c2
            try clear p2
            try clear c4
            try clear c4b0
            try clear c6
            try clear c7
            try clear c8
            try clear c8b0
            try clear p2
            obtain ⟨kq, x20_6, rfl, HA, HJ6, ⟨mc6, rfl⟩⟩ := hcut
            cases kq with
            | zero => exact absurd HA.out (by simp [triviumref06_digit.j2])
            | succ kj6 =>
              have H := HA.out
              clear HA
              simp only [triviumref06_digit.j2] at H
              by_cases c9 : x20_6 = true
              · subst c9
                have H1 : (if (((a0 - 97) % 256) + 10) ≥ a1 then (some (-1)) else (some (((a0 - 97) % 256) + 10))) = some r := by rw [if_pos rfl] at H; exact H
                clear H
                have H := H1
                clear H1
                by_cases c10 : (((a0 - 97) % 256) + 10) ≥ a1
                · rw [if_pos c10] at H
                  have c10b0 : decide (a1 ≤ (((a0 - 97) % 256) + 10)) = true := decide_eq_true c10
                  clear c10
                  obtain rfl := Option.some.inj H
                  go_wp2
                  go_ret
                  exact ⟨by first | rfl | (simp; done) | (simp [*]; done) | (congr 1; omega) | (simp; omega), by repeat (first | exact Drawn0.refl _ | apply Drawn0.step)⟩
                · rw [if_neg c10] at H
                  have c10b0 : decide (a1 ≤ (((a0 - 97) % 256) + 10)) = false := decide_eq_false c10
                  clear c10
                  obtain rfl := Option.some.inj H
                  go_wp2
                  go_ret
                  exact ⟨by first | rfl | (simp; done) | (simp [*]; done) | (congr 1; omega) | (simp; omega), by repeat (first | exact Drawn0.refl _ | apply Drawn0.step)⟩
              · replace c9 := Bool.eq_false_iff.mpr c9
                subst c9
                have H1 : (if x5_4 ≥ a1 then (some (-1)) else (some x5_4)) = some r := by rw [if_neg (show ¬ (false = true) by decide)] at H; exact H
                clear H
                have H := H1
                clear H1
                by_cases c11 : x5_4 ≥ a1
                · rw [if_pos c11] at H
                  have c11b0 : decide (a1 ≤ x5_4) = true := decide_eq_true c11
                  clear c11
                  obtain rfl := Option.some.inj H
                  go_wp2
                  go_ret
                  exact ⟨by first | rfl | (simp; done) | (simp [*]; done) | (congr 1; omega) | (simp; omega), by repeat (first | exact Drawn0.refl _ | apply Drawn0.step)⟩
                · rw [if_neg c11] at H
                  have c11b0 : decide (a1 ≤ x5_4) = false := decide_eq_false c11
                  clear c11
                  obtain rfl := Option.some.inj H
                  go_wp2
                  go_ret
                  exact ⟨by first | rfl | (simp; done) | (simp [*]; done) | (congr 1; omega) | (simp; omega), by repeat (first | exact Drawn0.refl _ | apply Drawn0.step)⟩

end Go.Proofs.YthcmjcjgaebciaaDoor.T
-- Out of the translation, by a program (myprint.py).
namespace Go.Proofs.YthcmjcjgaebciaaDoor.T
open Go.RowKit Go.Proofs.YthcmjcjgaebciaaDoorW.PrintWords Go.Proofs.YthcmjcjgaebciaaDoorW.PrintLast Go.Proofs.YthcmjcjgaebciaaDoorW.PrintMore
attribute [local go_sem] max2_int min2_int max_two min_two max_three min_three max_four min_four   -- for this text's walks alone
set_option linter.unusedVariables false
set_option linter.unusedSimpArgs false

/-! ### triviumref06_From: function 16 -/
mutual
def triviumref06_From.j0 : Nat → ByteArray → Int → Bool → Option (List Int × Int)
  | 0, _, _, _ => none
  | k + 1, x0, x1, x14 => if x14 = true then (some (([] : List Int), 2)) else (if (x0.size : Int) = 0 then (some (([] : List Int), 5)) else (triviumref06_From.l0 k x0 x1 (([] : List Int)) 0))
def triviumref06_From.l0 : Nat → ByteArray → Int → List Int → Int → Option (List Int × Int)
  | 0, _, _, _, _ => none
  | k + 1, x0, x1, x6, x7 => if x7 < (x0.size : Int) then (if 0 ≤ x7 then ((triviumref06_digit.f k (bt x0 x7) x1).bind fun t307 => (if t307 < 0 then (some (([] : List Int), 5)) else ((triviumref02_MulAdd.f k x6 x1 t307).bind fun t308 => (triviumref06_From.l0 k x0 x1 t308 (wrap64 (x7 + 1)))))) else (none)) else ((triviumref02_Back.f k x6).bind fun t304 => (some (t304, 0)))
end
def triviumref06_From.f (k : Nat) (a0 : ByteArray) (a1 : Int) : Option (List Int × Int) := if a1 < 2 then (triviumref06_From.j0 k a0 a1 true) else (triviumref06_From.j0 k a0 a1 (decide (a1 > 36)))
theorem triviumref06_From.mono_l : ∀ k, (∀ y0 y1 y2, LeO (triviumref06_From.j0 k y0 y1 y2) (triviumref06_From.j0 (k + 1) y0 y1 y2)) ∧ (∀ y0 y1 y2 y3, LeO (triviumref06_From.l0 k y0 y1 y2 y3) (triviumref06_From.l0 (k + 1) y0 y1 y2 y3))
  | 0 => ⟨fun _ _ _ r h => by simp [triviumref06_From.j0] at h, fun _ _ _ _ r h => by simp [triviumref06_From.l0] at h⟩
  | k + 1 => by
    obtain ⟨ih0, ih1⟩ := triviumref06_From.mono_l k
    refine ⟨?_, ?_⟩
    · intro y0 y1 y2
      unfold triviumref06_From.j0
      repeat' first
      | (with_reducible exact ih0 _ _ _)
      | (with_reducible exact ih1 _ _ _ _)
      | (with_reducible exact triviumref02_Back.mono _ _)
      | (with_reducible exact triviumref02_MulAdd.mono _ _ _ _)
      | (with_reducible exact triviumref06_digit.mono _ _ _)
      | (with_reducible exact LeO.refl _)
      | (with_reducible exact LeO.none _)
      | (with_reducible refine LeO.ite ?_ ?_)
      | (with_reducible refine LeO.bind ?_ (fun _ => ?_))
      | exact ih0 _ _ _
      | exact ih1 _ _ _ _
      | exact triviumref02_Back.mono _ _
      | exact triviumref02_MulAdd.mono _ _ _ _
      | exact triviumref06_digit.mono _ _ _
      | exact LeO.none _
      | refine LeO.ite ?_ ?_
      | refine LeO.bind ?_ (fun _ => ?_)
    · intro y0 y1 y2 y3
      unfold triviumref06_From.l0
      repeat' first
      | (with_reducible exact ih0 _ _ _)
      | (with_reducible exact ih1 _ _ _ _)
      | (with_reducible exact triviumref02_Back.mono _ _)
      | (with_reducible exact triviumref02_MulAdd.mono _ _ _ _)
      | (with_reducible exact triviumref06_digit.mono _ _ _)
      | (with_reducible exact LeO.refl _)
      | (with_reducible exact LeO.none _)
      | (with_reducible refine LeO.ite ?_ ?_)
      | (with_reducible refine LeO.bind ?_ (fun _ => ?_))
      | exact ih0 _ _ _
      | exact ih1 _ _ _ _
      | exact triviumref02_Back.mono _ _
      | exact triviumref02_MulAdd.mono _ _ _ _
      | exact triviumref06_digit.mono _ _ _
      | exact LeO.none _
      | refine LeO.ite ?_ ?_
      | refine LeO.bind ?_ (fun _ => ?_)
theorem triviumref06_From.mono : ∀ a0 a1 k, LeO (triviumref06_From.f k a0 a1) (triviumref06_From.f (k + 1) a0 a1) := by
  intro a0 a1 k
  obtain ⟨ih0, ih1⟩ := triviumref06_From.mono_l k
  unfold triviumref06_From.f
  repeat' first
      | (with_reducible exact ih0 _ _ _)
      | (with_reducible exact ih1 _ _ _ _)
      | (with_reducible exact triviumref02_Back.mono _ _)
      | (with_reducible exact triviumref02_MulAdd.mono _ _ _ _)
      | (with_reducible exact triviumref06_digit.mono _ _ _)
      | (with_reducible exact LeO.refl _)
      | (with_reducible exact LeO.none _)
      | (with_reducible refine LeO.ite ?_ ?_)
      | (with_reducible refine LeO.bind ?_ (fun _ => ?_))
      | exact ih0 _ _ _
      | exact ih1 _ _ _ _
      | exact triviumref02_Back.mono _ _
      | exact triviumref02_MulAdd.mono _ _ _ _
      | exact triviumref06_digit.mono _ _ _
      | exact LeO.none _
      | refine LeO.ite ?_ ?_
      | refine LeO.bind ?_ (fun _ => ?_)
set_option maxHeartbeats 8000000 in
set_option maxRecDepth 100000 in
theorem triviumref06_From.calls (k : Nat) (a0 : ByteArray) (a1 : Int) (r1 : List Int) (r2 : Int) (w : World) (h : triviumref06_From.f k a0 a1 = some (r1, r2)) :
    Calls Tryd.prog 16 #[.string a0, .int .i64 a1] w fun e w' => ∃ v0_ : Value, e = .returned (.tuple #[v0_, .int .i64 r2]) ∧ Kd.R (Kd.int .u64) 96 w' w.heap.size (fun _ => True) v0_ r1 ∧ Below w.heap.size w w' := by
  have HB := Aside0.mk (Below.refl w.heap.size w)
  have H : (if a1 < 2 then (triviumref06_From.j0 k a0 a1 true) else (triviumref06_From.j0 k a0 a1 (decide (a1 > 36)))) = some (r1, r2) := h
  clear h
  have HC3 := Aside0.mk H
  clear H
  go_enter Tryd.func16, Tryd.ntmps16
  go_upto_region 1 with (fail)
  go_cut [14] (fun v14 wc => ∃ (kq : Nat) (x14_2 : Bool), v14 = .bool x14_2 ∧ Aside0 (triviumref06_From.j0 kq a0 a1 x14_2 = some (r1, r2)) ∧ Aside0 (kq ≤ k) ∧ Aside0 (Below w.heap.size w wc))
  case first =>
    have H := HC3.out
    clear HC3
    by_cases c4 : a1 < 2
    · rw [if_pos c4] at H
      have c4b0 : decide (a1 < 2) = true := decide_eq_true c4
      clear c4
      (first | rw [c4b0] | (simp only [i64_w, i32_w]; rw [c4b0]) | skip)
      have H' := Aside0.mk H
      clear H
      go_wp2
      go_meet
      case rel => exact ⟨_, (true), (by first | rfl | (simp; done) | (simp [*]; done) | (congr 1; omega) | (simp; omega)), H', ⟨by first | omega | exact Nat.le_refl _⟩, ⟨by repeat (first | (with_reducible first | exact HB.out | apply below_alloc | apply pw_below_drewN | apply below_drew1) | exact HB.out)⟩⟩
    · rw [if_neg c4] at H
      have c4b0 : decide (a1 < 2) = false := decide_eq_false c4
      clear c4
      (first | rw [c4b0] | (simp only [i64_w, i32_w]; rw [c4b0]) | skip)
      have H' := Aside0.mk H
      clear H
      go_wp2
      go_meet
      case rel => exact ⟨_, (decide (a1 > 36)), (by first | rfl | (simp; done) | (simp [*]; done) | (congr 1; omega) | (simp; omega)), H', ⟨by first | omega | exact Nat.le_refl _⟩, ⟨by repeat (first | (with_reducible first | exact HB.out | apply below_alloc | apply pw_below_drewN | apply below_drew1) | exact HB.out)⟩⟩
  case rest =>
    clear HC3
    try clear c1
    try clear p2
    try clear c4
    try clear c4b0
    obtain ⟨kq, x14_2, rfl, HA, HJ2, HB⟩ := hcut
    cases kq with
    | zero => exact absurd HA.out (by simp [triviumref06_From.j0])
    | succ kj2 =>
      have H := HA.out
      clear HA
      simp only [triviumref06_From.j0] at H
      by_cases c5 : x14_2 = true
      · subst c5
        have H1 : (some (([] : List Int), 2)) = some (r1, r2) := by rw [if_pos rfl] at H; exact H
        clear H
        have H := H1
        clear H1
        simp only [Option.some.injEq, Prod.mk.injEq] at H
        obtain ⟨rfl, rfl⟩ := H
        go_wp2
        go_ret2
        exact ⟨_, by first | rfl | (simp only [u32_w, u64_u32, i64_u32]; rfl) | (simp [errW_none, errW_some] <;> rfl) | (simp [*, errW_none, errW_some] <;> rfl), by first | exact Kd.R_nil _ _ _ _ _ | exact Kd.N_nil _ _ _ _ _ | exact Kd.V_nil _ _ _ _ _ | exact Kd.Q_nil _ _ _ _ _ | exact Kd.S_nil _ _ _ _ _, by repeat (first | (with_reducible first | exact HB.out | apply below_alloc | apply pw_below_drewN | apply below_drew1) | exact HB.out)⟩
      · replace c5 := Bool.eq_false_iff.mpr c5
        subst c5
        have H1 : (if (a0.size : Int) = 0 then (some (([] : List Int), 5)) else (triviumref06_From.l0 kj2 a0 a1 (([] : List Int)) 0)) = some (r1, r2) := by rw [if_neg (show ¬ (false = true) by decide)] at H; exact H
        clear H
        have H := H1
        clear H1
        by_cases c6 : (a0.size : Int) = 0
        · rw [if_pos c6] at H
          have c6b0 : ((a0.size : Int) == 0) = true := beq_iff_eq.mpr c6
          have c6b1 : ((a0.size : Int) != 0) = false := bne_eq_false_iff_eq.mpr c6
          clear c6
          simp only [Option.some.injEq, Prod.mk.injEq] at H
          obtain ⟨rfl, rfl⟩ := H
          go_wp2
          go_ret2
          exact ⟨_, by first | rfl | (simp only [u32_w, u64_u32, i64_u32]; rfl) | (simp [errW_none, errW_some] <;> rfl) | (simp [*, errW_none, errW_some] <;> rfl), by first | exact Kd.R_nil _ _ _ _ _ | exact Kd.N_nil _ _ _ _ _ | exact Kd.V_nil _ _ _ _ _ | exact Kd.Q_nil _ _ _ _ _ | exact Kd.S_nil _ _ _ _ _, by repeat (first | (with_reducible first | exact HB.out | apply below_alloc | apply pw_below_drewN | apply below_drew1) | exact HB.out)⟩
        · rw [if_neg c6] at H
          have c6b0 : ((a0.size : Int) == 0) = false := beq_eq_false_iff_ne.mpr c6
          have c6b1 : ((a0.size : Int) != 0) = true := bne_iff_ne.mpr c6
          obtain ⟨y301, hy301⟩ : ∃ y_ : List Int, y_ = (([] : List Int)) := ⟨_, rfl⟩
          replace H : (triviumref06_From.l0 kj2 a0 a1 y301 0) = some (r1, r2) := by first | (rw [hy301]; with_reducible exact H) | (have H2_ := (Option.bind_some _ _).symm.trans H; rw [hy301]; with_reducible exact H2_) | (have H2_ := (Option.bind_some _ _).symm.trans H; with_reducible exact H2_) | with_reducible exact H | (rw [hy301]; exact H) | exact H
          have Ny301 := Aside0.mk hy301
          clear hy301
          have H' := Aside0.mk H
          clear H
          go_wp2_with (first | ((with_reducible refine gate_dst (N := 18) rfl ?_); refine Kd.R_lit (Kd.int .i64) _ 3 ?hg (N := 18) ?hd (xs := ([] : List Int)) (inner := []) (ok := fun _ => True) (okp := fun _ => True) ?hr ?hp (fun _ hk => hk) trivial (Below.refl _ _) (Nat.le_refl _) (by simp) ?_; (case hd => rfl); (case hg => rfl); (case hr => first | (go_simp; done) | (go_simp; rfl)); (case hp => exact (Reps.none _ _)); intro v302 w7 ho8 hb hg_ hnew_; clear hg_ hnew_; (first | rw [← Ny301.out] at ho8 | (simp only [Int.reduceToNat] at ho8; rw [← Ny301.out] at ho8)); have n0_ := Aside0.mk (Kd.R_lower ho8 (below_size (by repeat (first | (with_reducible first | exact HB.out | apply below_alloc | apply pw_below_drewN | apply below_drew1) | exact HB.out)))); have n1_ := Aside0.mk (below_step (by repeat (first | (with_reducible first | exact HB.out | apply below_alloc | apply pw_below_drewN | apply below_drew1) | exact HB.out)) hb); clear HB; have HO303 := n0_; have HB := n1_; clear n0_ n1_; clear hb ho8))
          go_loopg [6, 7] kj2 (fun kq v6 v7 w' => ∃ (x6_2 : List Int) (x7_2 : Int), v7 = .int .i64 x7_2 ∧ Aside0 (triviumref06_From.l0 kq a0 a1 x6_2 x7_2 = some (r1, r2)) ∧ Aside0 (kq ≤ kj2) ∧ Aside0 (Kd.R (Kd.int .i64) 3 w' w.heap.size (fun _ => True) v6 x6_2) ∧ Aside0 (Below w.heap.size w w'))
          case atStart => exact ⟨(y301), (0), (by first | rfl | (simp; done) | (simp [*]; done) | (congr 1; omega) | (simp; omega)), H', ⟨Nat.le_refl _⟩, ⟨by (with_reducible repeat (first | apply Kd.R_alloc | apply Kd.R_drewN | apply Kd.R_drew)); exact HO303.out⟩, ⟨by repeat (first | (with_reducible first | exact HB.out | apply below_alloc | apply pw_below_drewN | apply below_drew1) | exact HB.out)⟩⟩
          case round =>
            clear H'
            try clear c1
            try clear p2
            try clear c4
            try clear c4b0
            try clear c5
            try clear c6
            try clear c6b0
            try clear c6b1
            try clear p2
            obtain ⟨x6_2, x7_2, rfl, HA, HK2, HO_6, HB⟩ := hrel
            cases gk with
            | zero => exact absurd HA.out (by simp [triviumref06_From.l0])
            | succ k2 =>
              have H := HA.out
              clear HA
              simp only [triviumref06_From.l0] at H
              by_cases c9 : x7_2 < (a0.size : Int)
              · rw [if_pos c9] at H
                have c9b0 : decide (x7_2 < (a0.size : Int)) = true := decide_eq_true c9
                clear c9
                by_cases c10 : 0 ≤ x7_2
                · rw [if_pos c10] at H
                  have c10b0 : decide (0 ≤ x7_2) = true := decide_eq_true c10
                  clear c10
                  replace H := Option.bind_eq_some_iff.mp H
                  obtain ⟨t307, A120, H⟩ := H
                  replace H : (if t307 < 0 then (some (([] : List Int), 5)) else ((triviumref02_MulAdd.f k2 x6_2 a1 t307).bind fun t308 => (triviumref06_From.l0 k2 a0 a1 t308 (wrap64 (x7_2 + 1))))) = some (r1, r2) := H
                  have A12 := Aside0.mk A120
                  clear A120
                  by_cases c13 : t307 < 0
                  · rw [if_pos c13] at H
                    have c13b0 : decide (t307 < 0) = true := decide_eq_true c13
                    clear c13
                    simp only [Option.some.injEq, Prod.mk.injEq] at H
                    obtain ⟨rfl, rfl⟩ := H
                    have p11 : 0 ≤ (x7_2 : Int) := of_decide_eq_true (by first | (with_reducible assumption) | assumption)
                    have q11 : x7_2 < (a0.size : Int) := of_decide_eq_true (by first | (with_reducible assumption) | assumption)
                    have hx11 := bt_at a0 x7_2
                    replace p11 := eq_true p11
                    replace q11 := eq_true q11
                    go_wp2_with (first | ((with_reducible refine gate_callee (f := 74) rfl ?_); refine goesL_ (some 29) rfl rfl Tryd.func74 (by kernel_rfl) rfl #[.int .u8 (bt a0 x7_2), .int .i64 a1] rfl (by (try simp only [List.map_toArray, List.map_cons, List.map_nil]); first | done | rfl | (simp only [List.length_drop, List.length_take]; rfl)) ?_; (with_reducible refine (triviumref06_digit.calls k2 (bt a0 x7_2) a1 t307 _ A12.out).mono ?_); rintro e w' ⟨rfl, ⟨nd, rfl⟩⟩; refine ⟨_, rfl, ?_⟩))
                    go_ret2
                    exact ⟨_, by first | rfl | (simp only [u32_w, u64_u32, i64_u32]; rfl) | (simp [errW_none, errW_some] <;> rfl) | (simp [*, errW_none, errW_some] <;> rfl), by first | exact Kd.R_nil _ _ _ _ _ | exact Kd.N_nil _ _ _ _ _ | exact Kd.V_nil _ _ _ _ _ | exact Kd.Q_nil _ _ _ _ _ | exact Kd.S_nil _ _ _ _ _, by repeat (first | (with_reducible first | exact HB.out | apply below_alloc | apply pw_below_drewN | apply below_drew1) | exact HB.out)⟩
                  · rw [if_neg c13] at H
                    have c13b0 : decide (t307 < 0) = false := decide_eq_false c13
                    clear c13
                    replace H := Option.bind_eq_some_iff.mp H
                    obtain ⟨t308, A140, H⟩ := H
                    replace H : (triviumref06_From.l0 k2 a0 a1 t308 (wrap64 (x7_2 + 1))) = some (r1, r2) := H
                    have A14 := Aside0.mk A140
                    clear A140
                    have H' := Aside0.mk H
                    clear H
                    have p11 : 0 ≤ (x7_2 : Int) := of_decide_eq_true (by first | (with_reducible assumption) | assumption)
                    have q11 : x7_2 < (a0.size : Int) := of_decide_eq_true (by first | (with_reducible assumption) | assumption)
                    have hx11 := bt_at a0 x7_2
                    replace p11 := eq_true p11
                    replace q11 := eq_true q11
                    go_wp2_with (first | ((with_reducible refine gate_callee (f := 74) rfl ?_); refine goesL_ (some 29) rfl rfl Tryd.func74 (by kernel_rfl) rfl #[.int .u8 (bt a0 x7_2), .int .i64 a1] rfl (by (try simp only [List.map_toArray, List.map_cons, List.map_nil]); first | done | rfl | (simp only [List.length_drop, List.length_take]; rfl)) ?_; (with_reducible refine (triviumref06_digit.calls k2 (bt a0 x7_2) a1 t307 _ A12.out).mono ?_); rintro e w' ⟨rfl, ⟨nd, rfl⟩⟩; refine ⟨_, rfl, ?_⟩; obtain ⟨Ao15, co15, eo15⟩ := Kd.R_slice HO_6.out; subst eo15) | ((with_reducible refine gate_callee (f := 75) rfl ?_); refine goesL_ (some 35) rfl rfl Tryd.func75 (by kernel_rfl) rfl #[.slice Ao15 x6_2.length co15, .int .i64 a1, .int .i64 t307] rfl (by (try simp only [List.map_toArray, List.map_cons, List.map_nil]); first | done | rfl | (simp only [List.length_drop, List.length_take]; rfl)) ?_; (with_reducible refine (triviumref02_MulAdd.calls k2 _ _ x6_2 a1 t307 t308 _ ?side1 ?side2 A14.out).mono ?_); (case side1 => repeat (first | exact (Kd.R_reads' HO_6.out).2.2 | (with_reducible refine Kd.C_alloc ?_ _) | (with_reducible refine Kd.C_drewN ?_ _) | (with_reducible refine Kd.C_drew ?_))); (case side2 => exact (Kd.R_reads' HO_6.out).2.1); rintro e w16 ⟨v309, rfl, ho0, hb⟩; refine ⟨_, rfl, ?_⟩; have n0_ := Aside0.mk (Kd.R_elder' (by (with_reducible repeat (first | apply Kd.R_alloc | apply Kd.R_drewN | apply Kd.R_drew)); exact HO_6.out) (Kd.R_base ho0) hb); have n1_ := Aside0.mk (Kd.R_lower (Kd.R_new' ho0 (Kd.R_lt (by (with_reducible repeat (first | apply Kd.R_alloc | apply Kd.R_drewN | apply Kd.R_drew)); exact HO_6.out))) (below_size (by repeat (first | (with_reducible first | exact HB.out | apply below_alloc | apply pw_below_drewN | apply below_drew1) | exact HB.out)))); have n2_ := Aside0.mk (below_step (by repeat (first | (with_reducible first | exact HB.out | apply below_alloc | apply pw_below_drewN | apply below_drew1) | exact HB.out)) hb); clear HO_6; clear HB; have HO_6 := n0_; have HO310 := n1_; have HB := n2_; clear n0_ n1_ n2_; (try clear hb); (try clear hb2); (try clear hk); (try clear hi); (try clear ho0)))
                    go_roundg k2
                    case measure => have := HJ2.out; have := HK2.out; omega
                    case rel => exact ⟨(t308), (wrap64 (x7_2 + 1)), (by first | rfl | (simp; done) | (simp [*]; done) | (congr 1; omega) | (simp; omega)), H', ⟨by have := HJ2.out; have := HK2.out; omega⟩, ⟨by (with_reducible repeat (first | apply Kd.R_alloc | apply Kd.R_drewN | apply Kd.R_drew)); exact Kd.R_mono HO310.out (fun _ hk => trivial)⟩, ⟨by repeat (first | (with_reducible first | exact HB.out | apply below_alloc | apply pw_below_drewN | apply below_drew1) | exact HB.out)⟩⟩
                · rw [if_neg c10] at H
                  exact absurd H (by simp)
              · rw [if_neg c9] at H
                have c9b0 : decide (x7_2 < (a0.size : Int)) = false := decide_eq_false c9
                clear c9
                replace H := Option.bind_eq_some_iff.mp H
                obtain ⟨t304, A170, H⟩ := H
                replace H : (some (t304, 0)) = some (r1, r2) := H
                have A17 := Aside0.mk A170
                clear A170
                simp only [Option.some.injEq, Prod.mk.injEq] at H
                obtain ⟨rfl, rfl⟩ := H
                obtain ⟨Ao18, co18, eo18⟩ := Kd.R_slice HO_6.out
                subst eo18
                go_wp2_with (first | ((with_reducible refine gate_callee (f := 48) rfl ?_); refine goesL_ (some 37) rfl rfl Tryd.func48 (by kernel_rfl) rfl #[.slice Ao18 x6_2.length co18] rfl (by (try simp only [List.map_toArray, List.map_cons, List.map_nil]); first | done | rfl | (simp only [List.length_drop, List.length_take]; rfl)) ?_; (with_reducible refine (triviumref02_Back.calls k2 (fun k_ => some k_ = (.slice Ao18 x6_2.length co18 : Value).ownBlock) _ _ x6_2 t304 _ ?side1 A17.out).mono ?_); (case side1 => exact Kd.R_V (Kd.R_tight rfl (HO_6.out))); rintro e w19 ⟨v305, rfl, ho0, hb⟩; refine ⟨_, rfl, ?_⟩; have n0_ := Aside0.mk (Kd.R_below (by (with_reducible repeat (first | apply Kd.R_alloc | apply Kd.R_drewN | apply Kd.R_drew)); exact HO_6.out) hb); have n1_ := Aside0.mk (Kd.R_lower (Kd.R_mono (ok' := fun k_ => True) ho0 (fun _ hk_ => trivial)) (below_size (by repeat (first | (with_reducible first | exact HB.out | apply below_alloc | apply pw_below_drewN | apply below_drew1) | exact HB.out)))); have n2_ := Aside0.mk (below_step (by repeat (first | (with_reducible first | exact HB.out | apply below_alloc | apply pw_below_drewN | apply below_drew1) | exact HB.out)) hb); clear HO_6; clear HB; have HO_6 := n0_; have HO306 := n1_; have HB := n2_; clear n0_ n1_ n2_; (try clear hb); (try clear hb2); (try clear hk); (try clear hi); (try clear ho0)))
                go_ret2
                exact ⟨_, by first | rfl | (simp only [u32_w, u64_u32, i64_u32]; rfl) | (simp [errW_none, errW_some] <;> rfl) | (simp [*, errW_none, errW_some] <;> rfl), by (with_reducible repeat (first | apply Kd.R_alloc | apply Kd.R_drewN | apply Kd.R_drew)); exact HO306.out, by repeat (first | (with_reducible first | exact HB.out | apply below_alloc | apply pw_below_drewN | apply below_drew1) | exact HB.out)⟩

end Go.Proofs.YthcmjcjgaebciaaDoor.T
