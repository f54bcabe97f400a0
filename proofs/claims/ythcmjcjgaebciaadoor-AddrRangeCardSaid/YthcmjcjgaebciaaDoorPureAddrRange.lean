/- The plain law: a prefix has just the addresses of its range; of two prefixes one is within the other, or they have none together. -/
import Derived.Test.YthcmjcjgaebciaaDoorStaAddrRange
import Derived.Test.YthcmjcjgaebciaaDoorLAddr
import Derived.KernelRfl
namespace Go.Proofs.YthcmjcjgaebciaaDoor.T
open Go.RowKit Go.Proofs.YthcmjcjgaebciaaDoorW.PrintWords Go.Proofs.YthcmjcjgaebciaaDoorW.PrintLast Go.Proofs.YthcmjcjgaebciaaDoorW.PrintMore
set_option maxRecDepth 100000 in
theorem works18 : triviumlaw18_works.f 63 = some true := by kernel_rfl
theorem pure_AddrRange : triviumlaw18_AddrRange.Pure := by
  intro p n q m a hp _ hq _ ha
  obtain ⟨p0, p1⟩ := u32_bounds hp
  obtain ⟨q0, q1⟩ := u32_bounds hq
  obtain ⟨a0, a1⟩ := u32_bounds ha
  refine ⟨63, ?_⟩
  unfold triviumlaw18_AddrRange.f
  rw [works18, may_val p n p0 p1, may_val q m q0 q1]
  simp only [Option.bind_some, decide_eq_true_eq, if_true]
  have bad : ¬ (MayP p n ∧ MayP q m) → addr_Within.f p n q m = some false := by
    intro h
    rw [within_val p n q m p0 p1 q0 q1, decide_eq_false]
    rintro ⟨h1, _, h2⟩
    exact h ⟨h1, h2.1⟩
  by_cases h1 : MayP p n
  · rw [if_pos h1]
    by_cases h2 : MayP q m
    · simp only [triviumlaw18_AddrRange.j0, h2, decide_true, Bool.not_true, Bool.false_eq_true, if_false]
      rw [range_val p n p0 p1, has_val p n a p0 p1 a0 a1, if_pos h1]
      simp only [Option.bind_some]
      have hr := has_range p n a h1
      have e1 : (if p ≤ a then triviumlaw18_AddrRange.j1 62 a (decide (HasP p n a) != decide (a ≤ p + (S32 n - 1))) p n q m else triviumlaw18_AddrRange.j1 62 a (decide (HasP p n a) != false) p n q m) = triviumlaw18_AddrRange.j1 62 a false p n q m := by
        by_cases hpa : p ≤ a
        · rw [if_pos hpa]
          congr 1
          have : HasP p n a ↔ a ≤ p + (S32 n - 1) := by rw [hr]; simp [hpa]
          simp [this]
        · rw [if_neg hpa]
          congr 1
          have : ¬ HasP p n a := by rw [hr]; simp [hpa]
          simp [this]
      rw [e1]
      simp only [triviumlaw18_AddrRange.j1, Bool.false_eq_true, if_false]
      rw [within_val p n q m p0 p1 q0 q1, has_val p n a p0 p1 a0 a1, has_val q m a q0 q1 a0 a1]
      simp only [Option.bind_some, decide_eq_true_eq]
      have e2 : (if MayP p n ∧ m ≤ n ∧ HasP q m p then if HasP p n a then triviumlaw18_AddrRange.j2 61 a (!decide (HasP q m a)) p n q m else triviumlaw18_AddrRange.j2 61 a false p n q m else triviumlaw18_AddrRange.j2 61 a false p n q m) = triviumlaw18_AddrRange.j2 61 a false p n q m := by
        by_cases hw : MayP p n ∧ m ≤ n ∧ HasP q m p
        · rw [if_pos hw]
          by_cases hh : HasP p n a
          · rw [if_pos hh]
            have := has_within p n q m a hw.2 hh
            simp [this]
          · rw [if_neg hh]
        · rw [if_neg hw]
      rw [e2]
      simp only [triviumlaw18_AddrRange.j2, Bool.false_eq_true, if_false]
      rw [within_val p n q m p0 p1 q0 q1, within_val q m p n q0 q1 p0 p1, has_val p n a p0 p1 a0 a1, has_val q m a q0 q1 a0 a1]
      simp only [Option.bind_some, decide_eq_true_eq]
      by_cases hw : MayP p n ∧ m ≤ n ∧ HasP q m p
      · rw [if_pos hw]
      · rw [if_neg hw]
        by_cases hw2 : MayP q m ∧ n ≤ m ∧ HasP p n q
        · rw [if_pos hw2]
        · rw [if_neg hw2]
          by_cases hh : HasP p n a
          · rw [if_pos hh]
            have : ¬ HasP q m a := by
              intro hq2
              rcases Int.le_total m n with hmn | hmn
              · exact hw ⟨h1, hmn, has_both p n q m a hmn hh hq2⟩
              · exact hw2 ⟨h2, hmn, has_both q m p n a hmn hq2 hh⟩
            simp [this]
          · rw [if_neg hh]
    · simp only [triviumlaw18_AddrRange.j0, h2, decide_false, Bool.not_false, if_true]
      rw [bad (fun h => h2 h.2)]
      rfl
  · rw [if_neg h1]
    simp only [triviumlaw18_AddrRange.j0, if_true]
    rw [bad (fun h => h1 h.1)]
    rfl
end Go.Proofs.YthcmjcjgaebciaaDoor.T
namespace Go.Proofs.YthcmjcjgaebciaaDoor.Pure
theorem AddrRange : T.triviumlaw18_AddrRange.Pure := T.pure_AddrRange
end Go.Proofs.YthcmjcjgaebciaaDoor.Pure
