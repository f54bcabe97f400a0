/- The code comes to the printed functions (printed by a program of ours). -/
import Derived.Test.YtboghejfmmigkaaGreatDoorQAK3
/- The code comes to the printed functions (printed by a program of ours). -/
namespace Go.Proofs.YtboghejfmmigkaaGreatDoor.AE
open Go Go.RowKit Go.Proofs.YtboghejfmmigkaaGreatDoor.AP
set_option linter.unusedVariables false
set_option maxRecDepth 20000
theorem en81 : Enters Tryz.prog 81 := ⟨_, Tryz.func81, rfl, rfl⟩
theorem k_digits_based {p0 : Int} {y : Int} (h : m_digits_based p0 = some y) : Spec Tryz.prog 81 [(.v (.int .i64) p0)] (.v (.int .i64) y) [] := by
  rw [m_digits_based] at h
  refine enterN [(.v (.int .i64) p0)] 9 Tryz.func81 rfl rfl rfl ?_
  refine T.seq ?_
  refine T.region ?_
  refine Run.go (Ev.assign rfl rfl) ?_
  refine Run.nil ?_
  refine T.seq ?_
  obtain ⟨v1, hv, h⟩ := bdS h
  refine T.cut (fun _ : Unit => (⟨[(8, .v .bool v1)], [], 9⟩ : St)) (fun _ => True) ?_ (fun _ _ => ?_)
  · replace h := hv
    clear hv
    refine T.region ?_
    refine Run.go (Ev.move rfl rfl) ?_
    refine Run.go (Ev.int rfl rfl rfl rfl trivial) ?_
    refine Run.go (Ev.move rfl rfl) ?_
    rcases boolCases (decide (p0 < 2)) with hb2 | hb2
    · replace h := ifT hb2 h
      refine Run.offT rfl rfl rfl rfl hb2 ?_
      refine Run.offT rfl rfl rfl rfl hb2 ?_
      refine Run.go (Ev.pickT rfl hb2 rfl rfl) ?_
      refine Run.nil ?_
      cases h
      exact ⟨(), trivial, Ghost.only [] [8] rfl⟩
    · replace h := ifF hb2 h
      refine Run.on rfl rfl rfl hb2 (Ev.move rfl rfl) ?_
      refine Run.on rfl rfl rfl hb2 (Ev.int rfl rfl rfl rfl trivial) ?_
      refine Run.go (Ev.pickF rfl hb2 rfl rfl) ?_
      refine Run.nil ?_
      cases h
      exact ⟨(), trivial, Ghost.only [] [8] rfl⟩
  · refine T.cond rfl (fun hb3 => ?_) (fun hb3 => ?_)
    · replace h := ifT hb3 h
      refine T.seq ?_
      refine T.region ?_
      refine Run.go (Ev.assign rfl rfl) ?_
      refine Run.nil ?_
      refine T.ret ?_
      cases h
      exact Fin.one rfl .v
    · replace h := ifF hb3 h
      refine T.skip ?_
      refine T.seq ?_
      refine T.region ?_
      refine Run.go (Ev.assign rfl rfl) ?_
      refine Run.nil ?_
      refine T.ret ?_
      cases h
      exact Fin.one rfl .v
theorem en82 : Enters Tryz.prog 82 := ⟨_, Tryz.func82, rfl, rfl⟩
theorem k_digits_value {p0 : Int} {p1 : Int} {y : Int × Bool} (h : m_digits_value p0 p1 = some y) : Spec Tryz.prog 82 [(.v (.int .i32) p0), (.v (.int .i64) p1)] (.tup [.v (.int .u64) y.1, .v .bool y.2]) [] := by
  rw [m_digits_value] at h
  refine enterN [(.v (.int .i32) p0), (.v (.int .i64) p1)] 24 Tryz.func82 rfl rfl rfl ?_
  refine T.seq ?_
  refine T.region ?_
  refine Run.go (Ev.assign rfl rfl) ?_
  refine Run.go (Ev.assign rfl rfl) ?_
  refine Run.nil ?_
  refine T.seq ?_
  refine T.region ?_
  refine Run.go (Ev.move rfl rfl) ?_
  refine Run.go (Ev.conv X rfl rfl rfl rfl) ?_
  obtain ⟨x1, e2, h⟩ := bdS h
  refine Run.go (Ev.callC en58 (k_strings_IndexByte e2) rfl (.cons .v (.cons .v .nil)) rfl rfl) ?_
  refine Run.go (Ev.assign rfl rfl) ?_
  refine Run.nil ?_
  refine T.seq ?_
  refine T.region ?_
  refine Run.go (Ev.move rfl rfl) ?_
  refine Run.go (Ev.max rfl rfl rfl) ?_
  refine Run.go (Ev.conv X rfl rfl rfl rfl) ?_
  refine Run.go (Ev.move rfl rfl) ?_
  refine Run.go (Ev.int rfl rfl rfl rfl trivial) ?_
  refine Run.go (Ev.move rfl rfl) ?_
  rcases boolCases (decide (p0 < 128)) with hb3 | hb3
  · replace h := ifT hb3 h
    refine Run.on rfl rfl rfl hb3 (Ev.move rfl rfl) ?_
    refine Run.on rfl rfl rfl hb3 (Ev.int rfl rfl rfl rfl trivial) ?_
    refine Run.go (Ev.pickT rfl hb3 rfl rfl) ?_
    refine Run.go (Ev.move rfl rfl) ?_
    rcases boolCases (decide (0 ≤ x1)) with hb4 | hb4
    · replace h := ifT hb4 h
      refine Run.on rfl rfl rfl hb4 (Ev.move rfl rfl) ?_
      refine Run.on rfl rfl rfl hb4 (Ev.move rfl rfl) ?_
      refine Run.on rfl rfl rfl hb4 (Ev.int rfl rfl rfl rfl trivial) ?_
      refine Run.go (Ev.pickT rfl hb4 rfl rfl) ?_
      refine Run.go (Ev.assign rfl rfl) ?_
      refine Run.go (Ev.assign rfl rfl) ?_
      refine Run.nil ?_
      refine T.ret ?_
      cases h
      exact Fin.many X rfl (.cons (.tmp .v) (.cons (.tmp .v) .nil)) rfl
    · replace h := ifF hb4 h
      refine Run.offT rfl rfl rfl rfl hb4 ?_
      refine Run.offT rfl rfl rfl rfl hb4 ?_
      refine Run.offT rfl rfl rfl rfl hb4 ?_
      refine Run.go (Ev.pickF rfl hb4 rfl rfl) ?_
      refine Run.go (Ev.assign rfl rfl) ?_
      refine Run.go (Ev.assign rfl rfl) ?_
      refine Run.nil ?_
      refine T.ret ?_
      cases h
      exact Fin.many X rfl (.cons (.tmp .v) (.cons (.tmp .v) .nil)) rfl
  · replace h := ifF hb3 h
    refine Run.offT rfl rfl rfl rfl hb3 ?_
    refine Run.offT rfl rfl rfl rfl hb3 ?_
    refine Run.go (Ev.pickF rfl hb3 rfl rfl) ?_
    refine Run.go (Ev.move rfl rfl) ?_
    refine Run.offT rfl rfl rfl rfl rfl ?_
    refine Run.offT rfl rfl rfl rfl rfl ?_
    refine Run.offT rfl rfl rfl rfl rfl ?_
    refine Run.go (Ev.pickF rfl rfl rfl rfl) ?_
    refine Run.go (Ev.assign rfl rfl) ?_
    refine Run.go (Ev.assign rfl rfl) ?_
    refine Run.nil ?_
    refine T.ret ?_
    cases h
    exact Fin.many X rfl (.cons (.tmp .v) (.cons (.tmp .v) .nil)) rfl
theorem en97 : Enters Tryz.prog 97 := ⟨_, Tryz.func97, rfl, rfl⟩
theorem k_limb_Add {p0 : Int} {p1 : Int} {p2 : Int} {y : Int × Int} (h : m_limb_Add p0 p1 p2 = some y) : Spec Tryz.prog 97 [(.v (.int .u64) p0), (.v (.int .u64) p1), (.v (.int .u64) p2)] (.tup [.v (.int .u64) y.1, .v (.int .u64) y.2]) [] := by
  rw [m_limb_Add] at h
  refine enterN [(.v (.int .u64) p0), (.v (.int .u64) p1), (.v (.int .u64) p2)] 21 Tryz.func97 rfl rfl rfl ?_
  refine T.seq ?_
  refine T.region ?_
  refine Run.go (Ev.assign rfl rfl) ?_
  refine Run.go (Ev.assign rfl rfl) ?_
  refine Run.nil ?_
  refine T.seq ?_
  refine T.region ?_
  refine Run.go (Ev.move rfl rfl) ?_
  refine Run.go (Ev.int rfl rfl rfl rfl trivial) ?_
  refine Run.go (Ev.move rfl rfl) ?_
  refine Run.go (Ev.int rfl rfl rfl rfl trivial) ?_
  refine Run.go (Ev.int rfl rfl rfl rfl trivial) ?_
  refine Run.go (Ev.move rfl rfl) ?_
  refine Run.go (Ev.int rfl rfl rfl rfl trivial) ?_
  refine Run.go (Ev.int rfl rfl rfl rfl trivial) ?_
  obtain ⟨x1, e2, h⟩ := ltS h
  refine Run.go (Ev.avs (Ev.assign rfl rfl) e2) ?_
  refine Run.nil ?_
  refine T.seq ?_
  refine T.region ?_
  refine Run.go (Ev.move rfl rfl) ?_
  refine Run.go (Ev.int rfl rfl rfl rfl trivial) ?_
  refine Run.go (Ev.move rfl rfl) ?_
  obtain ⟨x3, e4, h⟩ := bdS h
  refine Run.go (Ev.e_sr e4 rfl rfl rfl) ?_
  refine Run.go (Ev.assign rfl rfl) ?_
  refine Run.go (Ev.assign rfl rfl) ?_
  refine Run.nil ?_
  refine T.ret ?_
  cases h
  exact Fin.many X rfl (.cons (.tmp .v) (.cons (.tmp .v) .nil)) rfl
theorem en98 : Enters Tryz.prog 98 := ⟨_, Tryz.func98, rfl, rfl⟩
theorem k_limb_Mul {p0 : Int} {p1 : Int} {p2 : Int} {p3 : Int} {y : Int × Int} (h : m_limb_Mul p0 p1 p2 p3 = some y) : Spec Tryz.prog 98 [(.v (.int .u64) p0), (.v (.int .u64) p1), (.v (.int .u64) p2), (.v (.int .u64) p3)] (.tup [.v (.int .u64) y.1, .v (.int .u64) y.2]) [] := by
  rw [m_limb_Mul] at h
  refine enterN [(.v (.int .u64) p0), (.v (.int .u64) p1), (.v (.int .u64) p2), (.v (.int .u64) p3)] 26 Tryz.func98 rfl rfl rfl ?_
  refine T.seq ?_
  refine T.region ?_
  refine Run.go (Ev.assign rfl rfl) ?_
  refine Run.go (Ev.assign rfl rfl) ?_
  refine Run.nil ?_
  refine T.seq ?_
  refine T.region ?_
  refine Run.go (Ev.move rfl rfl) ?_
  refine Run.go (Ev.int rfl rfl rfl rfl trivial) ?_
  refine Run.go (Ev.move rfl rfl) ?_
  refine Run.go (Ev.int rfl rfl rfl rfl trivial) ?_
  refine Run.go (Ev.int rfl rfl rfl rfl trivial) ?_
  refine Run.go (Ev.move rfl rfl) ?_
  refine Run.go (Ev.int rfl rfl rfl rfl trivial) ?_
  refine Run.go (Ev.int rfl rfl rfl rfl trivial) ?_
  refine Run.go (Ev.move rfl rfl) ?_
  refine Run.go (Ev.int rfl rfl rfl rfl trivial) ?_
  refine Run.go (Ev.int rfl rfl rfl rfl trivial) ?_
  obtain ⟨x1, e2, h⟩ := ltS h
  refine Run.go (Ev.avs (Ev.assign rfl rfl) e2) ?_
  refine Run.nil ?_
  refine T.seq ?_
  refine T.region ?_
  refine Run.go (Ev.move rfl rfl) ?_
  refine Run.go (Ev.int rfl rfl rfl rfl trivial) ?_
  refine Run.go (Ev.move rfl rfl) ?_
  obtain ⟨x3, e4, h⟩ := bdS h
  refine Run.go (Ev.e_sr e4 rfl rfl rfl) ?_
  refine Run.go (Ev.assign rfl rfl) ?_
  refine Run.go (Ev.assign rfl rfl) ?_
  refine Run.nil ?_
  refine T.ret ?_
  cases h
  exact Fin.many X rfl (.cons (.tmp .v) (.cons (.tmp .v) .nil)) rfl
theorem en109 : Enters Tryz.prog 109 := ⟨_, Tryz.func109, rfl, rfl⟩
theorem k_nat_trim {p0 : (List Int)} {y : (List Int)} (h : m_nat_trim p0 = some y) : Spec Tryz.prog 109 [(.v (.sl (.int .u64)) p0)] (.v (.sl (.int .u64)) y) [] := by
  rw [m_nat_trim] at h
  refine enterN [(.v (.sl (.int .u64)) p0)] 21 Tryz.func109 rfl rfl rfl ?_
  refine T.seq ?_
  refine T.region ?_
  refine Run.go (Ev.assign rfl rfl) ?_
  refine Run.nil ?_
  refine T.seq ?_
  refine T.region ?_
  refine Run.go (Ev.move rfl rfl) ?_
  refine Run.go (Ev.len X rfl rfl rfl rfl) ?_
  refine Run.go (Ev.assign rfl rfl) ?_
  refine Run.nil ?_
  obtain ⟨v1, hv, h⟩ := bdS h
  refine T.cut (fun _ : Unit => (⟨[(0, .v (.sl (.int .u64)) p0), (3, .v (.int .i64) v1)], [], 21⟩ : St)) (fun _ => True) ?_ (fun _ _ => ?_)
  · replace h := hv
    clear hv
    refine T.block ?_
    refine T.loop (LoopT.ghost (Ghost.only [] [0, 3] rfl) (LoopT.run (fun q : Int => (⟨[(0, .v (.sl (.int .u64)) p0), (3, .v (.int .i64) q)], [], 21⟩ : St)) (fun v2 z1 h hz1 => ?_) h))
    rw [m_nat_trim_l1] at h
    refine T.seq ?_
    obtain ⟨v3, hv, h⟩ := bdS h
    refine T.cut (fun _ : Unit => (⟨[(0, .v (.sl (.int .u64)) p0), (3, .v (.int .i64) v2), (15, .v .bool v3)], [], 21⟩ : St)) (fun _ => True) ?_ (fun _ _ => ?_)
    · replace h := hv
      clear hv
      refine T.region ?_
      refine Run.go (Ev.move rfl rfl) ?_
      refine Run.go (Ev.int rfl rfl rfl rfl trivial) ?_
      refine Run.go (Ev.move rfl rfl) ?_
      rcases boolCases (decide (0 < v2)) with hb4 | hb4
      · replace h := ifT hb4 h
        refine Run.on rfl rfl rfl hb4 (Ev.move rfl rfl) ?_
        refine Run.on rfl rfl rfl hb4 (Ev.move rfl rfl) ?_
        refine Run.on rfl rfl rfl hb4 (Ev.int rfl rfl rfl rfl trivial) ?_
        obtain ⟨x5, e6, h⟩ := bdS h
        refine Run.on rfl rfl rfl hb4 (Ev.e_rd X e6 rfl rfl rfl rfl) ?_
        refine Run.on rfl rfl rfl hb4 (Ev.load X rfl rfl rfl) ?_
        refine Run.on rfl rfl rfl hb4 (Ev.int rfl rfl rfl rfl trivial) ?_
        refine Run.go (Ev.pickT rfl hb4 rfl rfl) ?_
        refine Run.nil ?_
        cases h
        exact ⟨(), trivial, Ghost.only [] [0, 3, 15] rfl⟩
      · replace h := ifF hb4 h
        refine Run.offT rfl rfl rfl rfl hb4 ?_
        refine Run.offT rfl rfl rfl rfl hb4 ?_
        refine Run.offT rfl rfl rfl rfl hb4 ?_
        refine Run.offT rfl rfl rfl rfl hb4 ?_
        refine Run.offT rfl rfl rfl rfl hb4 ?_
        refine Run.offT rfl rfl rfl rfl hb4 ?_
        refine Run.go (Ev.pickF rfl hb4 rfl rfl) ?_
        refine Run.nil ?_
        cases h
        exact ⟨(), trivial, Ghost.only [] [0, 3, 15] rfl⟩
    · refine T.cond rfl (fun hb7 => ?_) (fun hb7 => ?_)
      · replace h := ifT hb7 h
        refine T.skip ?_
        refine T.block ?_
        refine T.region ?_
        refine Run.go (Ev.move rfl rfl) ?_
        refine Run.go (Ev.int rfl rfl rfl rfl trivial) ?_
        refine Run.go (Ev.assign rfl rfl) ?_
        refine Run.nil ?_
        cases h
        exact LoopT.ghost (Ghost.only [] [0, 3] rfl) hz1
      · replace h := ifF hb7 h
        refine T.exit ?_
        cases h
        cases hz1
        exact ⟨(), trivial, Ghost.only [] [0, 3] rfl⟩
  · refine T.seq ?_
    refine T.region ?_
    refine Run.go (Ev.move rfl rfl) ?_
    refine Run.go (Ev.move rfl rfl) ?_
    obtain ⟨x8, e9, h⟩ := bdS h
    refine Run.go (Ev.e_ct X e9 rfl rfl rfl (fun _ h => by cases h) (fun _ => rfl) (fun _ _ => cutAt_of rfl) (fun h => by cases h)) ?_
    refine Run.go (Ev.assign rfl rfl) ?_
    refine Run.nil ?_
    refine T.ret ?_
    cases h
    exact Fin.one rfl .v
theorem en101 : Enters Tryz.prog 101 := ⟨_, Tryz.func101, rfl, rfl⟩
theorem k_nat_Make {p0 : (List Int)} {y : (List Int) × Int} (h : m_nat_Make p0 = some y) : Spec Tryz.prog 101 [(.v (.sl (.int .u64)) p0)] (.tup [.v (.sl (.int .u64)) y.1, .v (.int .i64) y.2]) [] := by
  rw [m_nat_Make] at h
  refine enterN [(.v (.sl (.int .u64)) p0)] 25 Tryz.func101 rfl rfl rfl ?_
  refine T.seq ?_
  refine T.region ?_
  refine Run.go (Ev.assign rfl rfl) ?_
  refine Run.go (Ev.assign rfl rfl) ?_
  refine Run.nil ?_
  refine T.seq ?_
  refine T.region ?_
  refine Run.go (Ev.move rfl rfl) ?_
  refine Run.go (Ev.len X rfl rfl rfl rfl) ?_
  obtain ⟨x1, e2, h⟩ := bdS h
  refine Run.go (Ev.e_mk X 1 e2 rfl rfl rfl rfl rfl rfl) ?_
  refine Run.go (Ev.assign rfl rfl) ?_
  refine Run.nil ?_
  refine T.seq ?_
  refine T.seq ?_
  refine T.region ?_
  refine Run.go (Ev.move rfl rfl) ?_
  refine Run.go (Ev.len X rfl rfl rfl rfl) ?_
  refine Run.go (Ev.move rfl rfl) ?_
  refine Run.nil ?_
  refine T.block ?_
  refine T.loop (LoopT.ghost (Ghost.only [(1, 5)] [4, 10, 11, 12] rfl) (LoopT.run (fun q : Int × (List Int) => (⟨[(4, .own 5), (10, .v (.sl (.int .u64)) p0), (11, .v (.int .i64) ((p0.length : Int) : Int)), (12, .v (.int .i64) q.1)], [(5, .arr 92 (.int .u64) q.2)], 25⟩ : St)) (fun q z1 h hz1 => ?_) h))
  obtain ⟨v3, v4⟩ := q
  dsimp only
  rw [m_nat_Make_l1] at h
  refine T.seq ?_
  refine T.region ?_
  refine Run.go (Ev.int rfl rfl rfl rfl trivial) ?_
  refine Run.nil ?_
  refine T.seq ?_
  refine T.cond rfl (fun hb5 => ?_) (fun hb5 => ?_)
  · replace h := ifT hb5 h
    refine T.skip ?_
    refine T.seq ?_
    refine T.block ?_
    refine T.seq ?_
    refine T.region ?_
    obtain ⟨x6, e7, h⟩ := bdS h
    refine Run.go (Ev.e_rd X e7 rfl rfl rfl rfl) ?_
    refine Run.go (Ev.load X rfl rfl rfl) ?_
    refine Run.go (Ev.assign rfl rfl) ?_
    refine Run.nil ?_
    refine T.seq ?_
    refine T.seq ?_
    refine T.region ?_
    refine Run.go (Ev.move rfl rfl) ?_
    refine Run.go (Ev.int rfl rfl rfl rfl trivial) ?_
    refine Run.nil ?_
    refine T.cond rfl (fun hb8 => ?_) (fun hb8 => ?_)
    · replace h := ifT hb8 h
      refine T.seq ?_
      refine T.region ?_
      refine Run.go (Ev.assign rfl rfl) ?_
      refine Run.go (Ev.assign rfl rfl) ?_
      refine Run.nil ?_
      refine T.ret ?_
      cases h
      cases hz1
      exact Fin.many X rfl (.cons (.tmp .nilv) (.cons (.tmp .v) .nil)) rfl
    · replace h := ifF hb8 h
      refine T.skip ?_
      refine T.region ?_
      refine Run.go (Ev.move rfl rfl) ?_
      refine Run.go (Ev.move rfl rfl) ?_
      refine Run.go (Ev.build X 9 rfl rfl rfl rfl rfl rfl rfl rfl) ?_
      obtain ⟨x9, e10, h⟩ := bdS h
      refine Run.go (Ev.e_ap X 10 e10 rfl rfl rfl (.own rfl) rfl rfl rfl rfl rfl) ?_
      refine Run.go (Ev.assign rfl rfl) ?_
      refine Run.nil ?_
      refine T.region ?_
      refine Run.go (Ev.int rfl rfl rfl rfl trivial) ?_
      refine Run.go (Ev.move rfl rfl) ?_
      refine Run.nil ?_
      cases h
      exact LoopT.ghost (Ghost.only [(10, 5)] [4, 10, 11, 12] rfl) hz1
  · replace h := ifF hb5 h
    refine T.exit ?_
    refine T.seq ?_
    refine T.region ?_
    refine Run.go (Ev.move rfl rfl) ?_
    refine Run.ghost (Ghost.firmAll (id := 5) rfl) ?_
    obtain ⟨x11, e12, h⟩ := bdS h
    refine Run.go (Ev.callC en109 (k_nat_trim e12) rfl (.cons .v .nil) rfl rfl) ?_
    refine Run.go (Ev.assign rfl rfl) ?_
    refine Run.go (Ev.assign rfl rfl) ?_
    refine Run.nil ?_
    refine T.ret ?_
    cases h
    cases hz1
    exact Fin.many X rfl (.cons (.tmp .v) (.cons (.tmp .v) .nil)) rfl
theorem en99 : Enters Tryz.prog 99 := ⟨_, Tryz.func99, rfl, rfl⟩
theorem k_mul_made {p0 : (List Int)} {y : (List Int)} (h : m_mul_made p0 = some y) : Spec Tryz.prog 99 [(.v (.sl (.int .u64)) p0)] (.v (.sl (.int .u64)) y) [] := by
  rw [m_mul_made] at h
  refine enterN [(.v (.sl (.int .u64)) p0)] 11 Tryz.func99 rfl rfl rfl ?_
  refine T.seq ?_
  refine T.region ?_
  refine Run.go (Ev.assign rfl rfl) ?_
  refine Run.nil ?_
  refine T.seq ?_
  refine T.region ?_
  refine Run.go (Ev.move rfl rfl) ?_
  obtain ⟨x1, e2, h⟩ := bdS h
  refine Run.go (Ev.callC en101 (k_nat_Make e2) rfl (.cons .v .nil) rfl rfl) ?_
  refine Run.go (Ev.move rfl rfl) ?_
  refine Run.go (Ev.extract rfl rfl rfl) ?_
  refine Run.go (Ev.extract rfl rfl rfl) ?_
  refine Run.go (Ev.assign rfl rfl) ?_
  refine Run.go (Ev.assign rfl rfl) ?_
  refine Run.nil ?_
  refine T.seq ?_
  refine T.region ?_
  refine Run.go (Ev.move rfl rfl) ?_
  refine Run.go (Ev.assign rfl rfl) ?_
  refine Run.nil ?_
  refine T.ret ?_
  cases h
  exact Fin.one rfl .v
theorem en83 : Enters Tryz.prog 83 := ⟨_, Tryz.func83, rfl, rfl⟩
set_option maxHeartbeats 1000000 in
theorem k_mul_Small {p0 : (List Int)} {p1 : Int} {p2 : Int} {y : (List Int)} (h : m_mul_Small p0 p1 p2 = some y) : Spec Tryz.prog 83 [(.v (.sl (.int .u64)) p0), (.v (.int .u64) p1), (.v (.int .u64) p2)] (.v (.sl (.int .u64)) y) [] := by
  rw [m_mul_Small] at h
  refine enterN [(.v (.sl (.int .u64)) p0), (.v (.int .u64) p1), (.v (.int .u64) p2)] 46 Tryz.func83 rfl rfl rfl ?_
  refine T.seq ?_
  refine T.region ?_
  refine Run.go (Ev.assign rfl rfl) ?_
  refine Run.nil ?_
  refine T.seq ?_
  refine T.region ?_
  refine Run.go (Ev.move rfl rfl) ?_
  refine Run.go (Ev.len X rfl rfl rfl rfl) ?_
  refine Run.go (Ev.int rfl rfl rfl rfl trivial) ?_
  obtain ⟨x1, e2, h⟩ := bdS h
  refine Run.go (Ev.e_mk X 1 e2 rfl rfl rfl rfl rfl rfl) ?_
  refine Run.go (Ev.assign rfl rfl) ?_
  refine Run.nil ?_
  refine T.seq ?_
  refine T.region ?_
  refine Run.go (Ev.move rfl rfl) ?_
  obtain ⟨x3, e4, h⟩ := bdS h
  refine Run.go (Ev.callC en97 (k_limb_Add e4) rfl (.cons .v (.cons .v (.cons .v .nil))) rfl rfl) ?_
  refine Run.go (Ev.move rfl rfl) ?_
  refine Run.go (Ev.extract rfl rfl rfl) ?_
  refine Run.go (Ev.extract rfl rfl rfl) ?_
  refine Run.go (Ev.assign rfl rfl) ?_
  refine Run.go (Ev.assign rfl rfl) ?_
  refine Run.nil ?_
  obtain ⟨⟨v5, v6⟩, hv, h⟩ := bdS h
  refine T.cut (fun _ : Unit => (⟨[(0, .v (.sl (.int .u64)) p0), (7, .own 1), (8, .v (.int .u64) v5)], [(1, .arr 92 (.int .u64) v6)], 46⟩ : St)) (fun _ => True) ?_ (fun _ _ => ?_)
  · replace h := hv
    clear hv
    refine T.seq ?_
    refine T.region ?_
    refine Run.go (Ev.move rfl rfl) ?_
    refine Run.go (Ev.len X rfl rfl rfl rfl) ?_
    refine Run.go (Ev.move rfl rfl) ?_
    refine Run.nil ?_
    refine T.block ?_
    refine T.loop (LoopT.ghost (Ghost.only [(1, 1)] [0, 1, 7, 8, 21, 22, 23] rfl) (LoopT.run (fun q : Int × Int × (List Int) => (⟨[(0, .v (.sl (.int .u64)) p0), (1, .v (.int .u64) p1), (7, .own 1), (8, .v (.int .u64) q.1), (21, .v (.sl (.int .u64)) p0), (22, .v (.int .i64) ((p0.length : Int) : Int)), (23, .v (.int .i64) q.2.1)], [(1, .arr 92 (.int .u64) q.2.2)], 46⟩ : St)) (fun q z1 h hz1 => ?_) h))
    obtain ⟨v7, v8, v9⟩ := q
    dsimp only
    rw [m_mul_Small_l1] at h
    refine T.seq ?_
    refine T.region ?_
    refine Run.go (Ev.int rfl rfl rfl rfl trivial) ?_
    refine Run.nil ?_
    refine T.seq ?_
    refine T.cond rfl (fun hb10 => ?_) (fun hb10 => ?_)
    · replace h := ifT hb10 h
      refine T.skip ?_
      refine T.seq ?_
      refine T.block ?_
      refine T.seq ?_
      refine T.region ?_
      refine Run.go (Ev.move rfl rfl) ?_
      obtain ⟨x11, e12, h⟩ := bdS h
      refine Run.go (Ev.e_rd X e12 rfl rfl rfl rfl) ?_
      refine Run.go (Ev.load X rfl rfl rfl) ?_
      refine Run.go (Ev.assign rfl rfl) ?_
      refine Run.go (Ev.assign rfl rfl) ?_
      refine Run.nil ?_
      refine T.region ?_
      refine Run.go (Ev.move rfl rfl) ?_
      refine Run.go (Ev.move rfl rfl) ?_
      refine Run.go (Ev.move rfl rfl) ?_
      refine Run.go (Ev.move rfl rfl) ?_
      refine Run.go (Ev.move rfl rfl) ?_
      obtain ⟨x13, e14, h⟩ := bdS h
      refine Run.go (Ev.callC en98 (k_limb_Mul e14) rfl (.cons .v (.cons .v (.cons .v (.cons .v .nil)))) rfl rfl) ?_
      refine Run.go (Ev.move rfl rfl) ?_
      refine Run.go (Ev.extract rfl rfl rfl) ?_
      refine Run.go (Ev.extract rfl rfl rfl) ?_
      obtain ⟨j15, e16, h⟩ := bdS h
      refine Run.go (Ev.e_ixO X e16 rfl rfl rfl rfl rfl) ?_
      obtain ⟨x17, e18, h⟩ := ltS h
      refine Run.do_ (Ev.asO (Ev.storeEl X rfl rfl rfl rfl rfl) e18) ?_
      refine Run.go (Ev.assign rfl rfl) ?_
      refine Run.nil ?_
      refine T.region ?_
      refine Run.go (Ev.int rfl rfl rfl rfl trivial) ?_
      refine Run.go (Ev.move rfl rfl) ?_
      refine Run.nil ?_
      cases h
      exact LoopT.ghost (Ghost.only [(1, 1)] [0, 1, 7, 8, 21, 22, 23] rfl) hz1
    · replace h := ifF hb10 h
      refine T.exit ?_
      cases h
      cases hz1
      exact ⟨(), trivial, Ghost.only [(1, 1)] [0, 7, 8] rfl⟩
  · refine T.seq ?_
    refine T.region ?_
    refine Run.go (Ev.move rfl rfl) ?_
    refine Run.go (Ev.move rfl rfl) ?_
    refine Run.go (Ev.len X rfl rfl rfl rfl) ?_
    refine Run.go (Ev.move rfl rfl) ?_
    obtain ⟨j19, e20, h⟩ := bdS h
    refine Run.go (Ev.e_ixO X e20 rfl rfl rfl rfl rfl) ?_
    obtain ⟨x21, e22, h⟩ := ltS h
    refine Run.do_ (Ev.asO (Ev.storeEl X rfl rfl rfl rfl rfl) e22) ?_
    refine Run.nil ?_
    refine T.seq ?_
    refine T.region ?_
    refine Run.go (Ev.move rfl rfl) ?_
    refine Run.ghost (Ghost.firmAll (id := 1) rfl) ?_
    obtain ⟨x23, e24, h⟩ := bdS h
    refine Run.go (Ev.callC en99 (k_mul_made e24) rfl (.cons .v .nil) rfl rfl) ?_
    refine Run.go (Ev.assign rfl rfl) ?_
    refine Run.nil ?_
    refine T.ret ?_
    cases h
    exact Fin.one rfl .v
theorem en67 : Enters Tryz.prog 67 := ⟨_, Tryz.func67, rfl, rfl⟩
set_option maxHeartbeats 1000000 in
theorem k_digits_From {p0 : ByteArray} {p1 : Int} {y : (List Int) × Int} (h : m_digits_From p0 p1 = some y) : Spec Tryz.prog 67 [(.v .str p0), (.v (.int .i64) p1)] (.tup [.v (.sl (.int .u64)) y.1, .v (.int .i64) y.2]) [] := by
  rw [m_digits_From] at h
  refine enterN [(.v .str p0), (.v (.int .i64) p1)] 57 Tryz.func67 rfl rfl rfl ?_
  refine T.seq ?_
  refine T.region ?_
  refine Run.go (Ev.assign rfl rfl) ?_
  refine Run.go (Ev.assign rfl rfl) ?_
  refine Run.nil ?_
  refine T.seq ?_
  refine T.seq ?_
  refine T.region ?_
  refine Run.go (Ev.move rfl rfl) ?_
  obtain ⟨x1, e2, h⟩ := bdS h
  refine Run.go (Ev.callC en81 (k_digits_based e2) rfl (.cons .v .nil) rfl rfl) ?_
  refine Run.go (Ev.assign rfl rfl) ?_
  refine Run.nil ?_
  refine T.seq ?_
  refine T.region ?_
  refine Run.go (Ev.move rfl rfl) ?_
  refine Run.go (Ev.int rfl rfl rfl rfl trivial) ?_
  refine Run.nil ?_
  refine T.cond rfl (fun hb3 => ?_) (fun hb3 => ?_)
  · replace h := ifT hb3 h
    refine T.seq ?_
    refine T.region ?_
    refine Run.go (Ev.move rfl rfl) ?_
    refine Run.go (Ev.assign rfl rfl) ?_
    refine Run.go (Ev.assign rfl rfl) ?_
    refine Run.nil ?_
    refine T.ret ?_
    cases h
    exact Fin.many X rfl (.cons (.tmp .nilv) (.cons (.tmp .v) .nil)) rfl
  · replace h := ifF hb3 h
    refine T.skip ?_
    refine T.seq ?_
    refine T.seq ?_
    refine T.region ?_
    refine Run.go (Ev.move rfl rfl) ?_
    refine Run.go (Ev.strs rfl rfl rfl rfl trivial) ?_
    refine Run.nil ?_
    refine T.cond rfl (fun hb4 => ?_) (fun hb4 => ?_)
    · replace h := ifT hb4 h
      refine T.seq ?_
      refine T.region ?_
      refine Run.go (Ev.assign rfl rfl) ?_
      refine Run.go (Ev.assign rfl rfl) ?_
      refine Run.nil ?_
      refine T.ret ?_
      cases h
      exact Fin.many X rfl (.cons (.tmp .nilv) (.cons (.tmp .v) .nil)) rfl
    · replace h := ifF hb4 h
      refine T.skip ?_
      refine T.seq ?_
      refine T.region ?_
      refine Run.go (Ev.assign rfl rfl) ?_
      refine Run.nil ?_
      refine T.seq ?_
      refine T.region ?_
      refine Run.go (Ev.assign rfl rfl) ?_
      refine Run.go (Ev.assign rfl rfl) ?_
      refine Run.nil ?_
      refine T.seq ?_
      refine T.seq ?_
      refine T.region ?_
      refine Run.go (Ev.move rfl rfl) ?_
      refine Run.go (Ev.e_range X 1 rfl rfl rfl rfl) ?_
      refine Run.nil ?_
      refine T.block ?_
      refine T.loop (LoopT.ghost (Ghost.trans (Ghost.nilv (t := 7) (τ := (.int .u64)) rfl) (Ghost.only [(1, 1)] [1, 7, 8, 9, 22] rfl)) (LoopT.run (fun q : (List Int) × Int × Int × Nat => (⟨[(1, .v (.int .i64) p1), (7, .v (.sl (.int .u64)) q.1), (8, .v (.int .u64) q.2.1), (9, .v (.int .u64) q.2.2.1), (22, .it 1)], [(1, .siter p0 q.2.2.2)], 57⟩ : St)) (fun q z1 h hz1 => ?_) h))
      obtain ⟨v5, v6, v7, v8⟩ := q
      dsimp only
      rw [m_digits_From_l1] at h
      refine T.seq ?_
      refine T.region ?_
      rcases boolCases (decide (v8 < p0.size)) with hb9 | hb9
      · replace h := ifT hb9 h
        refine Run.go (Ev.e_nextT hb9 rfl rfl rfl) ?_
        refine Run.go (Ev.extract rfl rfl rfl) ?_
        refine Run.nil ?_
        refine T.seq ?_
        refine T.condT rfl rfl ?_
        refine T.skip ?_
        refine T.block ?_
        refine T.seq ?_
        refine T.region ?_
        refine Run.go (Ev.extract rfl rfl rfl) ?_
        refine Run.go (Ev.assign rfl rfl) ?_
        refine Run.nil ?_
        refine T.seq ?_
        refine T.region ?_
        refine Run.go (Ev.move rfl rfl) ?_
        refine Run.go (Ev.move rfl rfl) ?_
        obtain ⟨x10, e11, h⟩ := bdS h
        refine Run.go (Ev.callC en82 (k_digits_value e11) rfl (.cons .v (.cons .v .nil)) rfl rfl) ?_
        refine Run.go (Ev.move rfl rfl) ?_
        refine Run.go (Ev.extract rfl rfl rfl) ?_
        refine Run.go (Ev.extract rfl rfl rfl) ?_
        refine Run.go (Ev.assign rfl rfl) ?_
        refine Run.go (Ev.assign rfl rfl) ?_
        refine Run.nil ?_
        refine T.seq ?_
        refine T.seq ?_
        refine T.region ?_
        refine Run.go (Ev.move rfl rfl) ?_
        refine Run.go (Ev.not rfl rfl) ?_
        refine Run.nil ?_
        refine T.cond rfl (fun hb12 => ?_) (fun hb12 => ?_)
        · replace h := ifT hb12 h
          refine T.seq ?_
          refine T.region ?_
          refine Run.go (Ev.assign rfl rfl) ?_
          refine Run.go (Ev.assign rfl rfl) ?_
          refine Run.nil ?_
          refine T.ret ?_
          cases h
          cases hz1
          exact Fin.many X rfl (.cons (.tmp .nilv) (.cons (.tmp .v) .nil)) rfl
        · replace h := ifF hb12 h
          refine T.skip ?_
          obtain ⟨⟨v13, v14, v15, v16⟩, hv, h⟩ := bdS h
          refine T.cut (fun _ : Unit => (⟨[(1, .v (.int .i64) p1), (7, .v (.sl (.int .u64)) v13), (8, .v (.int .u64) v14), (9, .v (.int .u64) v15), (12, .v (.int .u64) x10.1), (22, .it 1)], [(1, .siter p0 v16)], 57⟩ : St)) (fun _ => True) ?_ (fun _ _ => ?_)
          · replace h := hv
            clear hv
            refine T.seq ?_
            refine T.region ?_
            refine Run.go (Ev.move rfl rfl) ?_
            refine Run.go (Ev.move rfl rfl) ?_
            refine Run.go (Ev.conv X rfl rfl rfl rfl) ?_
            refine Run.go (Ev.int rfl rfl rfl rfl trivial) ?_
            refine Run.go (Ev.int rfl rfl rfl rfl trivial) ?_
            refine Run.nil ?_
            refine T.cond rfl (fun hb17 => ?_) (fun hb17 => ?_)
            · replace h := ifT hb17 h
              refine T.seq ?_
              refine T.region ?_
              refine Run.go (Ev.move rfl rfl) ?_
              refine Run.go (Ev.move rfl rfl) ?_
              refine Run.go (Ev.move rfl rfl) ?_
              obtain ⟨x18, e19, h⟩ := bdS h
              refine Run.go (Ev.callC en83 (k_mul_Small e19) rfl (.cons .v (.cons .v (.cons .v .nil))) rfl rfl) ?_
              refine Run.go (Ev.assign rfl rfl) ?_
              refine Run.nil ?_
              refine T.region ?_
              refine Run.go (Ev.assign rfl rfl) ?_
              refine Run.go (Ev.assign rfl rfl) ?_
              refine Run.nil ?_
              cases h
              exact ⟨(), trivial, Ghost.only [(1, 1)] [1, 7, 8, 9, 12, 22] rfl⟩
            · replace h := ifF hb17 h
              refine T.skip ?_
              cases h
              exact ⟨(), trivial, Ghost.only [(1, 1)] [1, 7, 8, 9, 12, 22] rfl⟩
          · refine T.region ?_
            refine Run.go (Ev.move rfl rfl) ?_
            refine Run.go (Ev.move rfl rfl) ?_
            refine Run.go (Ev.conv X rfl rfl rfl rfl) ?_
            refine Run.go (Ev.int rfl rfl rfl rfl trivial) ?_
            refine Run.go (Ev.move rfl rfl) ?_
            refine Run.go (Ev.move rfl rfl) ?_
            refine Run.go (Ev.conv X rfl rfl rfl rfl) ?_
            refine Run.go (Ev.int rfl rfl rfl rfl trivial) ?_
            refine Run.go (Ev.move rfl rfl) ?_
            refine Run.go (Ev.int rfl rfl rfl rfl trivial) ?_
            refine Run.go (Ev.assign rfl rfl) ?_
            obtain ⟨x20, e21, h⟩ := ltS h
            refine Run.go (Ev.avs (Ev.assign rfl rfl) e21) ?_
            refine Run.nil ?_
            cases h
            exact LoopT.ghost (Ghost.only [(1, 1)] [1, 7, 8, 9, 22] rfl) hz1
      · replace h := ifF hb9 h
        refine Run.go (Ev.e_nextF hb9 rfl rfl rfl) ?_
        refine Run.go (Ev.extract rfl rfl rfl) ?_
        refine Run.nil ?_
        refine T.seq ?_
        refine T.condF rfl rfl ?_
        refine T.exit ?_
        refine T.seq ?_
        refine T.region ?_
        refine Run.go (Ev.move rfl rfl) ?_
        refine Run.go (Ev.move rfl rfl) ?_
        refine Run.go (Ev.move rfl rfl) ?_
        obtain ⟨x22, e23, h⟩ := bdS h
        refine Run.go (Ev.callC en83 (k_mul_Small e23) rfl (.cons .v (.cons .v (.cons .v .nil))) rfl rfl) ?_
        refine Run.go (Ev.assign rfl rfl) ?_
        refine Run.go (Ev.assign rfl rfl) ?_
        refine Run.nil ?_
        refine T.ret ?_
        cases h
        cases hz1
        exact Fin.many X rfl (.cons (.tmp .v) (.cons (.tmp .v) .nil)) rfl
theorem en41 : Enters Tryz.prog 41 := ⟨_, Tryz.func41, rfl, rfl⟩
theorem k_digits_Parse {p0 : ByteArray} {y : (List Int) × Int} (h : m_digits_Parse p0 = some y) : Spec Tryz.prog 41 [(.v .str p0)] (.tup [.v (.sl (.int .u64)) y.1, .v (.int .i64) y.2]) [] := by
  rw [m_digits_Parse] at h
  refine enterN [(.v .str p0)] 8 Tryz.func41 rfl rfl rfl ?_
  refine T.seq ?_
  refine T.region ?_
  refine Run.go (Ev.assign rfl rfl) ?_
  refine Run.go (Ev.assign rfl rfl) ?_
  refine Run.nil ?_
  refine T.seq ?_
  refine T.region ?_
  refine Run.go (Ev.move rfl rfl) ?_
  obtain ⟨x1, e2, h⟩ := bdS h
  refine Run.go (Ev.callC en67 (k_digits_From e2) rfl (.cons .v (.cons .v .nil)) rfl rfl) ?_
  refine Run.go (Ev.extract rfl rfl rfl) ?_
  refine Run.go (Ev.extract rfl rfl rfl) ?_
  refine Run.go (Ev.assign rfl rfl) ?_
  refine Run.go (Ev.assign rfl rfl) ?_
  refine Run.nil ?_
  refine T.ret ?_
  cases h
  exact Fin.many X rfl (.cons (.tmp .v) (.cons (.tmp .v) .nil)) rfl
theorem en100 : Enters Tryz.prog 100 := ⟨_, Tryz.func100, rfl, rfl⟩
theorem k_digits_chunk {p0 : Int} {y : Int × Int} (h : m_digits_chunk p0 = some y) : Spec Tryz.prog 100 [(.v (.int .i64) p0)] (.tup [.v (.int .u64) y.1, .v (.int .i64) y.2]) [] := by
  rw [m_digits_chunk] at h
  refine enterN [(.v (.int .i64) p0)] 21 Tryz.func100 rfl rfl rfl ?_
  refine T.seq ?_
  refine T.region ?_
  refine Run.go (Ev.assign rfl rfl) ?_
  refine Run.go (Ev.assign rfl rfl) ?_
  refine Run.nil ?_
  refine T.seq ?_
  refine T.region ?_
  refine Run.go (Ev.move rfl rfl) ?_
  refine Run.go (Ev.conv X rfl rfl rfl rfl) ?_
  refine Run.go (Ev.assign rfl rfl) ?_
  refine Run.go (Ev.assign rfl rfl) ?_
  refine Run.nil ?_
  obtain ⟨⟨v1, v2⟩, hv, h⟩ := bdS h
  refine T.cut (fun _ : Unit => (⟨[(4, .v (.int .u64) v1), (5, .v (.int .i64) v2)], [], 21⟩ : St)) (fun _ => True) ?_ (fun _ _ => ?_)
  · replace h := hv
    clear hv
    refine T.block ?_
    refine T.loop (LoopT.ghost (Ghost.only [] [0, 4, 5] rfl) (LoopT.run (fun q : Int × Int => (⟨[(0, .v (.int .i64) p0), (4, .v (.int .u64) q.1), (5, .v (.int .i64) q.2)], [], 21⟩ : St)) (fun q z1 h hz1 => ?_) h))
    obtain ⟨v3, v4⟩ := q
    dsimp only
    rw [m_digits_chunk_l1] at h
    refine T.seq ?_
    refine T.seq ?_
    refine T.region ?_
    refine Run.go (Ev.move rfl rfl) ?_
    refine Run.go (Ev.move rfl rfl) ?_
    refine Run.go (Ev.conv X rfl rfl rfl rfl) ?_
    refine Run.go (Ev.int rfl rfl rfl rfl trivial) ?_
    refine Run.go (Ev.int rfl rfl rfl rfl trivial) ?_
    refine Run.nil ?_
    refine T.cond rfl (fun hb5 => ?_) (fun hb5 => ?_)
    · replace h := ifT hb5 h
      refine T.skip ?_
      refine T.block ?_
      refine T.seq ?_
      refine T.region ?_
      refine Run.go (Ev.move rfl rfl) ?_
      refine Run.go (Ev.move rfl rfl) ?_
      refine Run.go (Ev.conv X rfl rfl rfl rfl) ?_
      refine Run.go (Ev.int rfl rfl rfl rfl trivial) ?_
      refine Run.go (Ev.assign rfl rfl) ?_
      refine Run.nil ?_
      refine T.region ?_
      refine Run.go (Ev.move rfl rfl) ?_
      refine Run.go (Ev.int rfl rfl rfl rfl trivial) ?_
      refine Run.go (Ev.assign rfl rfl) ?_
      refine Run.nil ?_
      cases h
      exact LoopT.ghost (Ghost.only [] [0, 4, 5] rfl) hz1
    · replace h := ifF hb5 h
      refine T.exit ?_
      cases h
      cases hz1
      exact ⟨(), trivial, Ghost.only [] [4, 5] rfl⟩
  · refine T.seq ?_
    refine T.region ?_
    refine Run.go (Ev.move rfl rfl) ?_
    refine Run.go (Ev.move rfl rfl) ?_
    refine Run.go (Ev.assign rfl rfl) ?_
    refine Run.go (Ev.assign rfl rfl) ?_
    refine Run.nil ?_
    refine T.ret ?_
    cases h
    exact Fin.many X rfl (.cons (.tmp .v) (.cons (.tmp .v) .nil)) rfl
theorem en110 : Enters Tryz.prog 110 := ⟨_, Tryz.func110, rfl, rfl⟩
theorem k_limb_Div {p0 : Int} {p1 : Int} {p2 : Int} {y : Int × Int × Int} (h : m_limb_Div p0 p1 p2 = some y) : Spec Tryz.prog 110 [(.v (.int .u64) p0), (.v (.int .u64) p1), (.v (.int .u64) p2)] (.tup [.v (.int .u64) y.1, .v (.int .u64) y.2.1, .v (.int .i64) y.2.2]) [] := by
  rw [m_limb_Div] at h
  refine enterN [(.v (.int .u64) p0), (.v (.int .u64) p1), (.v (.int .u64) p2)] 33 Tryz.func110 rfl rfl rfl ?_
  refine T.seq ?_
  refine T.region ?_
  refine Run.go (Ev.assign rfl rfl) ?_
  refine Run.go (Ev.assign rfl rfl) ?_
  refine Run.go (Ev.assign rfl rfl) ?_
  refine Run.nil ?_
  refine T.seq ?_
  refine T.region ?_
  refine Run.go (Ev.move rfl rfl) ?_
  refine Run.go (Ev.int rfl rfl rfl rfl trivial) ?_
  refine Run.go (Ev.move rfl rfl) ?_
  refine Run.go (Ev.int rfl rfl rfl rfl trivial) ?_
  refine Run.go (Ev.move rfl rfl) ?_
  refine Run.go (Ev.int rfl rfl rfl rfl trivial) ?_
  refine Run.go (Ev.assign rfl rfl) ?_
  refine Run.go (Ev.assign rfl rfl) ?_
  refine Run.go (Ev.assign rfl rfl) ?_
  refine Run.nil ?_
  refine T.seq ?_
  refine T.block ?_
  refine T.seq ?_
  refine T.region ?_
  refine Run.go (Ev.move rfl rfl) ?_
  refine Run.go (Ev.int rfl rfl rfl rfl trivial) ?_
  obtain ⟨x1, e2, h⟩ := ltS h
  refine Run.go (Ev.avs (Ev.assign rfl rfl) e2) ?_
  refine Run.nil ?_
  refine T.cond rfl (fun hb3 => ?_) (fun hb3 => ?_)
  · replace h := ifT hb3 h
    refine T.seq ?_
    refine T.region ?_
    refine Run.go (Ev.assign rfl rfl) ?_
    refine Run.go (Ev.assign rfl rfl) ?_
    refine Run.go (Ev.assign rfl rfl) ?_
    refine Run.nil ?_
    refine T.ret ?_
    cases h
    exact Fin.many X rfl (.cons (.tmp .v) (.cons (.tmp .v) (.cons (.tmp .v) .nil))) rfl
  · replace h := ifF hb3 h
    refine T.seq ?_
    refine T.region ?_
    refine Run.go (Ev.move rfl rfl) ?_
    refine Run.go (Ev.move rfl rfl) ?_
    refine Run.go (Ev.int rfl rfl rfl rfl trivial) ?_
    obtain ⟨x4, e5, h⟩ := ltS h
    refine Run.go (Ev.avs (Ev.assign rfl rfl) e5) ?_
    refine Run.nil ?_
    refine T.cond rfl (fun hb6 => ?_) (fun hb6 => ?_)
    · replace h := ifT hb6 h
      refine T.seq ?_
      refine T.region ?_
      refine Run.go (Ev.assign rfl rfl) ?_
      refine Run.go (Ev.assign rfl rfl) ?_
      refine Run.go (Ev.assign rfl rfl) ?_
      refine Run.nil ?_
      refine T.ret ?_
      cases h
      exact Fin.many X rfl (.cons (.tmp .v) (.cons (.tmp .v) (.cons (.tmp .v) .nil))) rfl
    · replace h := ifF hb6 h
      refine T.skip ?_
      refine T.seq ?_
      refine T.region ?_
      refine Run.go (Ev.move rfl rfl) ?_
      obtain ⟨x7, e8, h⟩ := bdS h
      refine Run.go (Ev.e_sh e8 rfl rfl rfl) ?_
      refine Run.go (Ev.move rfl rfl) ?_
      refine Run.go (Ev.int rfl rfl rfl rfl trivial) ?_
      obtain ⟨x9, e10, h⟩ := ltS h
      refine Run.go (Ev.avs (Ev.assign rfl rfl) e10) ?_
      refine Run.nil ?_
      refine T.seq ?_
      refine T.drawM [] [0, 0, 3, 0, 0, 24, 7, 127, 255] (by kernel_rfl) (by kernel_rfl) ?_
      refine RunD.w (fun _ => Ev.move rfl rfl) ?_
      refine RunD.w (fun _ => Ev.move rfl rfl) ?_
      obtain ⟨x11, e12, h⟩ := bdS h
      refine RunD.w (fun _ => Ev.e_qd e12 rfl rfl rfl) ?_
      refine RunD.w (fun _ => Ev.move rfl rfl) ?_
      refine RunD.w (fun _ => Ev.move rfl rfl) ?_
      obtain ⟨x13, e14, h⟩ := bdS h
      refine RunD.w (fun _ => Ev.e_rm e14 rfl rfl rfl) ?_
      refine RunD.w (fun _ => Ev.assign rfl rfl) ?_
      refine RunD.w (fun _ => Ev.assign rfl rfl) ?_
      refine RunD.w (fun _ => Ev.assign rfl rfl) ?_
      refine RunD.nil ?_
      refine T.ret ?_
      cases h
      exact Fin.many X rfl (.cons (.tmp .v) (.cons (.tmp .v) (.cons (.tmp .v) .nil))) rfl
theorem en102 : Enters Tryz.prog 102 := ⟨_, Tryz.func102, rfl, rfl⟩
set_option maxHeartbeats 1000000 in
theorem k_divide_Small {p0 : (List Int)} {p1 : Int} {y : (List Int) × Int × Int} (h : m_divide_Small p0 p1 = some y) : Spec Tryz.prog 102 [(.v (.sl (.int .u64)) p0), (.v (.int .u64) p1)] (.tup [.v (.sl (.int .u64)) y.1, .v (.int .u64) y.2.1, .v (.int .i64) y.2.2]) [] := by
  rw [m_divide_Small] at h
  refine enterN [(.v (.sl (.int .u64)) p0), (.v (.int .u64) p1)] 51 Tryz.func102 rfl rfl rfl ?_
  refine T.seq ?_
  refine T.region ?_
  refine Run.go (Ev.assign rfl rfl) ?_
  refine Run.go (Ev.assign rfl rfl) ?_
  refine Run.go (Ev.assign rfl rfl) ?_
  refine Run.nil ?_
  refine T.seq ?_
  refine T.seq ?_
  refine T.region ?_
  refine Run.go (Ev.move rfl rfl) ?_
  obtain ⟨x1, e2, h⟩ := bdS h
  refine Run.go (Ev.e_rm e2 rfl rfl rfl) ?_
  refine Run.go (Ev.int rfl rfl rfl rfl trivial) ?_
  refine Run.nil ?_
  refine T.cond rfl (fun hb3 => ?_) (fun hb3 => ?_)
  · replace h := ifT hb3 h
    refine T.seq ?_
    refine T.region ?_
    refine Run.go (Ev.assign rfl rfl) ?_
    refine Run.go (Ev.assign rfl rfl) ?_
    refine Run.go (Ev.assign rfl rfl) ?_
    refine Run.nil ?_
    refine T.ret ?_
    cases h
    exact Fin.many X rfl (.cons (.tmp .nilv) (.cons (.tmp .v) (.cons (.tmp .v) .nil))) rfl
  · replace h := ifF hb3 h
    refine T.skip ?_
    refine T.seq ?_
    refine T.region ?_
    refine Run.go (Ev.move rfl rfl) ?_
    refine Run.go (Ev.len X rfl rfl rfl rfl) ?_
    obtain ⟨x4, e5, h⟩ := bdS h
    refine Run.go (Ev.e_mk X 1 e5 rfl rfl rfl rfl rfl rfl) ?_
    refine Run.go (Ev.assign rfl rfl) ?_
    refine Run.nil ?_
    refine T.seq ?_
    refine T.region ?_
    refine Run.go (Ev.assign rfl rfl) ?_
    refine Run.nil ?_
    obtain ⟨⟨v6, v7⟩, hv, h⟩ := bdS h
    refine T.cut (fun _ : Unit => (⟨[(7, .own 1), (8, .v (.int .u64) v6)], [(1, .arr 92 (.int .u64) v7)], 51⟩ : St)) (fun _ => True) ?_ (fun _ _ => ?_)
    · replace h := hv
      clear hv
      refine T.seq ?_
      refine T.region ?_
      refine Run.go (Ev.move rfl rfl) ?_
      refine Run.go (Ev.len X rfl rfl rfl rfl) ?_
      refine Run.go (Ev.move rfl rfl) ?_
      refine Run.nil ?_
      refine T.block ?_
      refine T.loop (LoopT.ghost (Ghost.only [(1, 1)] [0, 1, 7, 8, 20, 21] rfl) (LoopT.run (fun q : Int × Int × (List Int) => (⟨[(0, .v (.sl (.int .u64)) p0), (1, .v (.int .u64) p1), (7, .own 1), (8, .v (.int .u64) q.1), (20, .v (.int .i64) ((p0.length : Int) : Int)), (21, .v (.int .i64) q.2.1)], [(1, .arr 92 (.int .u64) q.2.2)], 51⟩ : St)) (fun q z1 h hz1 => ?_) h))
      obtain ⟨v8, v9, v10⟩ := q
      dsimp only
      rw [m_divide_Small_l1] at h
      refine T.seq ?_
      refine T.region ?_
      refine Run.go (Ev.int rfl rfl rfl rfl trivial) ?_
      refine Run.nil ?_
      refine T.seq ?_
      refine T.cond rfl (fun hb11 => ?_) (fun hb11 => ?_)
      · replace h := ifT hb11 h
        refine T.skip ?_
        refine T.seq ?_
        refine T.block ?_
        refine T.seq ?_
        refine T.region ?_
        refine Run.go (Ev.move rfl rfl) ?_
        refine Run.go (Ev.assign rfl rfl) ?_
        refine Run.nil ?_
        refine T.seq ?_
        refine T.region ?_
        refine Run.go (Ev.move rfl rfl) ?_
        refine Run.go (Ev.len X rfl rfl rfl rfl) ?_
        refine Run.go (Ev.int rfl rfl rfl rfl trivial) ?_
        refine Run.go (Ev.move rfl rfl) ?_
        refine Run.go (Ev.int rfl rfl rfl rfl trivial) ?_
        obtain ⟨x12, e13, h⟩ := ltS h
        refine Run.go (Ev.avs (Ev.assign rfl rfl) e13) ?_
        refine Run.nil ?_
        refine T.region ?_
        refine Run.go (Ev.move rfl rfl) ?_
        refine Run.go (Ev.move rfl rfl) ?_
        refine Run.go (Ev.move rfl rfl) ?_
        refine Run.go (Ev.move rfl rfl) ?_
        refine Run.go (Ev.move rfl rfl) ?_
        obtain ⟨x14, e15, h⟩ := bdS h
        refine Run.go (Ev.e_rd X e15 rfl rfl rfl rfl) ?_
        refine Run.go (Ev.load X rfl rfl rfl) ?_
        refine Run.go (Ev.move rfl rfl) ?_
        obtain ⟨x16, e17, h⟩ := bdS h
        refine Run.go (Ev.callC en110 (k_limb_Div e17) rfl (.cons .v (.cons .v (.cons .v .nil))) rfl rfl) ?_
        refine Run.go (Ev.move rfl rfl) ?_
        refine Run.go (Ev.extract rfl rfl rfl) ?_
        refine Run.go (Ev.extract rfl rfl rfl) ?_
        refine Run.go (Ev.extract rfl rfl rfl) ?_
        obtain ⟨j18, e19, h⟩ := bdS h
        refine Run.go (Ev.e_ixO X e19 rfl rfl rfl rfl rfl) ?_
        obtain ⟨x20, e21, h⟩ := ltS h
        refine Run.do_ (Ev.asO (Ev.storeEl X rfl rfl rfl rfl rfl) e21) ?_
        refine Run.go (Ev.assign rfl rfl) ?_
        refine Run.nil ?_
        refine T.region ?_
        refine Run.go (Ev.int rfl rfl rfl rfl trivial) ?_
        refine Run.go (Ev.move rfl rfl) ?_
        refine Run.nil ?_
        cases h
        exact LoopT.ghost (Ghost.only [(1, 1)] [0, 1, 7, 8, 20, 21] rfl) hz1
      · replace h := ifF hb11 h
        refine T.exit ?_
        cases h
        cases hz1
        exact ⟨(), trivial, Ghost.only [(1, 1)] [7, 8] rfl⟩
    · refine T.seq ?_
      refine T.region ?_
      refine Run.go (Ev.move rfl rfl) ?_
      refine Run.ghost (Ghost.firmAll (id := 1) rfl) ?_
      obtain ⟨x22, e23, h⟩ := bdS h
      refine Run.go (Ev.callC en101 (k_nat_Make e23) rfl (.cons .v .nil) rfl rfl) ?_
      refine Run.go (Ev.move rfl rfl) ?_
      refine Run.go (Ev.extract rfl rfl rfl) ?_
      refine Run.go (Ev.extract rfl rfl rfl) ?_
      refine Run.go (Ev.assign rfl rfl) ?_
      refine Run.go (Ev.assign rfl rfl) ?_
      refine Run.nil ?_
      refine T.seq ?_
      refine T.region ?_
      refine Run.go (Ev.move rfl rfl) ?_
      refine Run.go (Ev.move rfl rfl) ?_
      refine Run.go (Ev.assign rfl rfl) ?_
      refine Run.go (Ev.assign rfl rfl) ?_
      refine Run.go (Ev.assign rfl rfl) ?_
      refine Run.nil ?_
      refine T.ret ?_
      cases h
      exact Fin.many X rfl (.cons (.tmp .v) (.cons (.tmp .v) (.cons (.tmp .v) .nil))) rfl
theorem en103 : Enters Tryz.prog 103 := ⟨_, Tryz.func103, rfl, rfl⟩
theorem k_digits_piece {p0 : Int} {p1 : Int} {p2 : Int} {y : ByteArray} (h : m_digits_piece p0 p1 p2 = some y) : Spec Tryz.prog 103 [(.v (.int .u64) p0), (.v (.int .i64) p1), (.v (.int .i64) p2)] (.v .str y) [] := by
  rw [m_digits_piece] at h
  refine enterN [(.v (.int .u64) p0), (.v (.int .i64) p1), (.v (.int .i64) p2)] 33 Tryz.func103 rfl rfl rfl ?_
  refine T.seq ?_
  refine T.region ?_
  refine Run.go (Ev.assign rfl rfl) ?_
  refine Run.nil ?_
  refine T.seq ?_
  refine T.region ?_
  refine Run.go (Ev.move rfl rfl) ?_
  obtain ⟨x1, e2, h⟩ := bdS h
  refine Run.go (Ev.e_mk X 1 e2 rfl rfl rfl rfl rfl rfl) ?_
  refine Run.go (Ev.assign rfl rfl) ?_
  refine Run.nil ?_
  obtain ⟨v3, hv, h⟩ := bdS h
  refine T.cut (fun _ : Unit => (⟨[(7, .own 1)], [(1, .arr 5 (.int .u8) v3)], 33⟩ : St)) (fun _ => True) ?_ (fun _ _ => ?_)
  · replace h := hv
    clear hv
    refine T.seq ?_
    refine T.region ?_
    refine Run.go (Ev.move rfl rfl) ?_
    refine Run.go (Ev.move rfl rfl) ?_
    refine Run.nil ?_
    refine T.block ?_
    refine T.loop (LoopT.ghost (Ghost.only [(1, 1)] [0, 1, 2, 7, 11, 12] rfl) (LoopT.run (fun q : Int × Int × (List Int) => (⟨[(0, .v (.int .u64) q.1), (1, .v (.int .i64) p1), (2, .v (.int .i64) p2), (7, .own 1), (11, .v (.int .i64) p2), (12, .v (.int .i64) q.2.1)], [(1, .arr 5 (.int .u8) q.2.2)], 33⟩ : St)) (fun q z1 h hz1 => ?_) h))
    obtain ⟨v4, v5, v6⟩ := q
    dsimp only
    rw [m_digits_piece_l1] at h
    refine T.seq ?_
    refine T.region ?_
    refine Run.go (Ev.int rfl rfl rfl rfl trivial) ?_
    refine Run.nil ?_
    refine T.seq ?_
    refine T.cond rfl (fun hb7 => ?_) (fun hb7 => ?_)
    · replace h := ifT hb7 h
      refine T.skip ?_
      refine T.seq ?_
      refine T.block ?_
      refine T.seq ?_
      refine T.region ?_
      refine Run.go (Ev.move rfl rfl) ?_
      refine Run.go (Ev.assign rfl rfl) ?_
      refine Run.nil ?_
      refine T.seq ?_
      refine T.region ?_
      refine Run.go (Ev.move rfl rfl) ?_
      refine Run.go (Ev.move rfl rfl) ?_
      refine Run.go (Ev.int rfl rfl rfl rfl trivial) ?_
      refine Run.go (Ev.move rfl rfl) ?_
      refine Run.go (Ev.int rfl rfl rfl rfl trivial) ?_
      refine Run.go (Ev.move rfl rfl) ?_
      refine Run.go (Ev.move rfl rfl) ?_
      refine Run.go (Ev.conv X rfl rfl rfl rfl) ?_
      obtain ⟨x8, e9, h⟩ := bdS h
      refine Run.go (Ev.e_rm e9 rfl rfl rfl) ?_
      obtain ⟨x10, e11, h⟩ := bdS h
      refine Run.go (Ev.e_bt X e11 rfl rfl rfl rfl) ?_
      obtain ⟨j12, e13, h⟩ := bdS h
      refine Run.go (Ev.e_ixO X e13 rfl rfl rfl rfl rfl) ?_
      obtain ⟨x14, e15, h⟩ := ltS h
      refine Run.do_ (Ev.asO (Ev.storeEl X rfl rfl rfl rfl rfl) e15) ?_
      refine Run.nil ?_
      refine T.region ?_
      refine Run.go (Ev.move rfl rfl) ?_
      refine Run.go (Ev.move rfl rfl) ?_
      refine Run.go (Ev.conv X rfl rfl rfl rfl) ?_
      obtain ⟨x16, e17, h⟩ := bdS h
      refine Run.go (Ev.e_qd e17 rfl rfl rfl) ?_
      refine Run.go (Ev.assign rfl rfl) ?_
      refine Run.nil ?_
      refine T.region ?_
      refine Run.go (Ev.int rfl rfl rfl rfl trivial) ?_
      refine Run.go (Ev.move rfl rfl) ?_
      refine Run.nil ?_
      cases h
      exact LoopT.ghost (Ghost.only [(1, 1)] [0, 1, 2, 7, 11, 12] rfl) hz1
    · replace h := ifF hb7 h
      refine T.exit ?_
      cases h
      cases hz1
      exact ⟨(), trivial, Ghost.only [(1, 1)] [7] rfl⟩
  · refine T.seq ?_
    refine T.region ?_
    refine Run.go (Ev.move rfl rfl) ?_
    refine Run.ghost (Ghost.firmAll (id := 1) rfl) ?_
    refine Run.go (Ev.e_b2s (e := 0) X rfl rfl rfl rfl) ?_
    refine Run.go (Ev.assign rfl rfl) ?_
    refine Run.nil ?_
    refine T.ret ?_
    cases h
    exact Fin.one rfl .v
theorem k_strings_Builder_copyCheck_M {o1_0 : Bool} {o2 : (List Int)} {y : Bool} (h : m_strings_Builder_copyCheck_M o1_0 o2 = some y) : SpecM Tryz.prog 111 [(.box 1 0)] [(1, .box [.pn o1_0 1 0 141, .owz 2]), (2, .arr 5 (.int .u8) o2)] (.tup []) [(1, .box [.pn y 1 0 141, .owz 2]), (2, .arr 5 (.int .u8) o2)] := by
  rw [m_strings_Builder_copyCheck_M] at h
  refine SpecM.enter 100000 [(.box 1 0)] 20 Tryz.func111 rfl rfl rfl rfl (fun L => ?_)
  refine T.seq ?_
  refine T.region ?_
  refine Run.go (Ev.move rfl rfl) ?_
  refine Run.go (Ev.e_nc rfl rfl rfl rfl) ?_
  refine Run.go (Ev.fieldBoxN fo141_0 sz138 rfl rfl rfl rfl) ?_
  refine Run.go (Ev.loadOne sz138 rfl rfl rfl rfl) ?_
  refine Run.go (Ev.e_pnil pt138 (.inl ⟨rfl, rfl⟩) rfl (.pn rfl) rfl rfl) ?_
  refine Run.nil ?_
  refine T.cond rfl (fun hb1 => ?_) (fun hb1 => ?_)
  · replace h := ifT hb1 h
    refine T.region ?_
    refine Run.go (Ev.move rfl rfl) ?_
    refine Run.go (Ev.move rfl rfl) ?_
    refine Run.go (Ev.e_toU up138_161 rfl rfl rfl rfl) ?_
    refine Run.go (Ev.e_noesc ne116 rfl rfl rfl) ?_
    refine Run.go (Ev.e_fromU ul161_138_141_2 rfl rfl rfl) ?_
    refine Run.go (Ev.e_nc rfl rfl rfl rfl) ?_
    refine Run.go (Ev.fieldBoxN fo141_0 sz138 rfl rfl rfl rfl) ?_
    refine Run.do_ (Ev.e_stPn sz138 rfl rfl rfl) ?_
    refine Run.nil ?_
    cases h
    exact FinM.of 100000 [(1, 1), (2, 2)] (inlR.many' (X := X) rfl .nil rfl) rfl rfl rfl rfl ⟨(.inl ⟨rfl, _, rfl, .box, fun _ => rfl⟩), (.inl ⟨rfl, _, rfl, .refl, fun _ => rfl⟩), trivial⟩
  · replace h := ifF hb1 h
    refine T.seq ?_
    refine T.region ?_
    refine Run.go (Ev.move rfl rfl) ?_
    refine Run.go (Ev.e_nc rfl rfl rfl rfl) ?_
    refine Run.go (Ev.fieldBoxN fo141_0 sz138 rfl rfl rfl rfl) ?_
    refine Run.go (Ev.loadOne sz138 rfl rfl rfl rfl) ?_
    refine Run.go (Ev.move rfl rfl) ?_
    refine Run.go (Ev.e_pself pt138 (.inr ⟨rfl, rfl⟩) rfl rfl rfl rfl) ?_
    refine Run.nil ?_
    refine T.condF rfl hb1 ?_
    refine T.skip ?_
    cases h
    exact FinM.of 100000 [(1, 1), (2, 2)] (inlR.many' (X := X) rfl .nil rfl) rfl rfl rfl rfl ⟨(.inl ⟨rfl, _, rfl, .box, fun _ => rfl⟩), (.inl ⟨rfl, _, rfl, .refl, fun _ => rfl⟩), trivial⟩
theorem k_strings_Builder_WriteString_M {p1 : ByteArray} {o1_0 : Bool} {o2 : (List Int)} {y : Bool × (List Int)} (h : m_strings_Builder_WriteString_M p1 o1_0 o2 = some y) : SpecM Tryz.prog 104 [(.box 1 0), (.v .str p1)] [(1, .box [.pn o1_0 1 0 141, .owz 2]), (2, .arr 5 (.int .u8) o2)] (.tup [.v (.int .i64) ((p1.size : Int) : Int), .bot]) [(1, .box [.pn y.1 1 0 141, .owz 4]), (2, .dead), (4, .arr 5 (.int .u8) y.2)] := by
  rw [m_strings_Builder_WriteString_M] at h
  refine SpecM.enter 100000 [(.box 1 0), (.v .str p1)] 19 Tryz.func104 rfl rfl rfl rfl (fun L => ?_)
  refine T.seq ?_
  refine T.region ?_
  refine Run.go (Ev.assign rfl rfl) ?_
  refine Run.go (Ev.assign rfl rfl) ?_
  refine Run.nil ?_
  refine T.seq ?_
  refine T.region ?_
  refine Run.go (Ev.move rfl rfl) ?_
  obtain ⟨x2, e1, h⟩ := bdS h
  refine Run.go (Ev.w2 (Ev.lendM [(1, 1), (2, 2)] [(1, 1), (2, 2)] en111 (k_strings_Builder_copyCheck_M e1) rfl (.cons (.ren rfl) .nil) rfl rfl rfl rfl rfl (A := .tup []) rfl (W := [(1, .box [.pn x2 1 0 141, .owz 2]), (2, .arr 5 (.int .u8) o2)]) rfl rfl)) ?_
  refine Run.nil ?_
  refine T.seq ?_
  refine T.region ?_
  refine Run.go (Ev.move rfl rfl) ?_
  refine Run.go (Ev.move rfl rfl) ?_
  refine Run.go (Ev.e_nc rfl rfl rfl rfl) ?_
  refine Run.go (Ev.fieldBoxN fo141_1 sz139 rfl rfl rfl rfl) ?_
  refine Run.go (Ev.loadCell X rfl rfl rfl rfl rfl rfl) ?_
  refine Run.go (Ev.move rfl rfl) ?_
  obtain ⟨x3, e4, h⟩ := bdS h
  refine Run.go (Ev.e_apZ X 6 e4 rfl rfl rfl rfl rfl rfl rfl rfl) ?_
  refine Run.go (Ev.e_nc rfl rfl rfl rfl) ?_
  refine Run.go (Ev.fieldBoxN fo141_1 sz139 rfl rfl rfl rfl) ?_
  refine Run.do_ (Ev.storeC sz139 rfl rfl rfl rfl rfl rfl) ?_
  refine Run.nil ?_
  refine T.seq ?_
  refine T.region ?_
  refine Run.go (Ev.move rfl rfl) ?_
  refine Run.go (Ev.len X rfl rfl rfl rfl) ?_
  refine Run.go (Ev.assign rfl rfl) ?_
  refine Run.go (Ev.assign rfl rfl) ?_
  refine Run.nil ?_
  refine T.ret ?_
  cases h
  exact FinM.of 100000 [(1, 1), (900002, 2), (6, 4)] (inlR.many' (X := X) rfl (.cons (.tmp rfl) (.cons .bot .nil)) rfl) rfl rfl rfl rfl ⟨(.inl ⟨rfl, _, rfl, .box, fun _ => rfl⟩), (.inr rfl), trivial⟩
end Go.Proofs.YtboghejfmmigkaaGreatDoor.AE
/- The code comes to the printed functions (printed by a program of ours). -/
namespace Go.Proofs.YtboghejfmmigkaaGreatDoor.AE
open Go Go.RowKit Go.Proofs.YtboghejfmmigkaaGreatDoor.AP
set_option linter.unusedVariables false
set_option maxRecDepth 20000
theorem k_strings_Builder_String_M {o1_0 : Bool} {o2 : (List Int)} {y : ByteArray} (h : m_strings_Builder_String_M o1_0 o2 = some y) : SpecM Tryz.prog 106 [(.box 1 0)] [(1, .box [.pn o1_0 1 0 141, .owz 2]), (2, .arr 5 (.int .u8) o2)] (.v .str y) [(1, .box [.pn o1_0 1 0 141, .bot]), (2, .dead)] := by
  rw [m_strings_Builder_String_M] at h
  refine SpecM.enter 100000 [(.box 1 0)] 14 Tryz.func106 rfl rfl rfl rfl (fun L => ?_)
  refine T.seq ?_
  refine T.region ?_
  refine Run.go (Ev.assign rfl rfl) ?_
  refine Run.nil ?_
  refine T.seq ?_
  refine T.drawE [([1], []), ([1], []), ([1], []), ([1], []), ([2], []), ([1], []), ([1], []), ([1], []), ([1], []), ([2], []), ([2], [2]), ([], [])] [0, 1, 3, 7, 15, 0, 32, 96, 224, 480, 1023, 2047] (by kernel_rfl) (by kernel_rfl) ?_
  refine RunE.go0 [1] (fun ô hô => Ev.move rfl rfl) rfl rfl ?_
  refine RunE.go0 [1] (fun ô hô => Ev.e_nc rfl (one_box (ka hô rfl rfl)) rfl rfl) rfl rfl ?_
  refine RunE.go0 [1] (fun ô hô => Ev.fieldBoxN fo141_1 sz139 rfl (ka hô rfl rfl) rfl rfl) rfl rfl ?_
  refine RunE.go0 [1] (fun ô hô => Ev.loadCell X rfl (ka hô rfl rfl) rfl rfl rfl rfl) rfl rfl ?_
  rcases boolCases (decide (o2.length = 0)) with hb1 | hb1
  · replace h := ifT hb1 h
    refine RunE.go0 [2] (fun ô hô => Ev.e_usd0 X hb1 rfl (ka hô rfl rfl) rfl) rfl rfl ?_
    refine RunE.go0 [1] (fun ô hô => Ev.move rfl rfl) rfl rfl ?_
    refine RunE.go0 [1] (fun ô hô => Ev.e_nc rfl (one_box (ka hô rfl rfl)) rfl rfl) rfl rfl ?_
    refine RunE.go0 [1] (fun ô hô => Ev.fieldBoxN fo141_1 sz139 rfl (ka hô rfl rfl) rfl rfl) rfl rfl ?_
    refine RunE.go0 [1] (fun ô hô => Ev.loadCell X rfl (ka hô rfl rfl) rfl rfl rfl rfl) rfl rfl ?_
    refine RunE.go0 [2] (fun ô hô => Ev.e_lenZ X rfl (ka hô rfl rfl) rfl rfl) rfl rfl ?_
    refine RunE.go1 [2] (fun ô hô => Ev.e_ust0 (id := 2) hb1 rfl rfl rfl) rfl rfl ?_
    refine RunE.go0 [] (fun ô hô => Ev.assign rfl rfl) rfl rfl ?_
    refine RunE.nil ?_
    refine T.ret ?_
    cases h
    exact FinM.of 100000 [(1, 1), (900002, 2)] (inlR.one' (X := X) rfl (.tmp rfl)) rfl rfl rfl rfl ⟨(.inl ⟨rfl, _, rfl, .box, fun _ => rfl⟩), (.inr rfl), trivial⟩
  · replace h := ifF hb1 h
    refine RunE.go0 [2] (fun ô hô => Ev.e_usd X hb1 rfl (ka hô rfl rfl) rfl) rfl rfl ?_
    refine RunE.go0 [1] (fun ô hô => Ev.move rfl rfl) rfl rfl ?_
    refine RunE.go0 [1] (fun ô hô => Ev.e_nc rfl (one_box (ka hô rfl rfl)) rfl rfl) rfl rfl ?_
    refine RunE.go0 [1] (fun ô hô => Ev.fieldBoxN fo141_1 sz139 rfl (ka hô rfl rfl) rfl rfl) rfl rfl ?_
    refine RunE.go0 [1] (fun ô hô => Ev.loadCell X rfl (ka hô rfl rfl) rfl rfl rfl rfl) rfl rfl ?_
    refine RunE.go0 [2] (fun ô hô => Ev.e_lenZ X rfl (ka hô rfl rfl) rfl rfl) rfl rfl ?_
    obtain ⟨x2, e3, h⟩ := bdS h
    refine RunE.go1 [2] (fun ô hô => Ev.e_ust us160_5 e3 rfl (ka hô rfl rfl) rfl rfl rfl) rfl rfl ?_
    refine RunE.go0 [] (fun ô hô => Ev.assign rfl rfl) rfl rfl ?_
    refine RunE.nil ?_
    refine T.ret ?_
    cases h
    exact FinM.of 100000 [(1, 1), (900002, 2)] (inlR.one' (X := X) rfl (.tmp rfl)) rfl rfl rfl rfl ⟨(.inl ⟨rfl, _, rfl, .box, fun _ => rfl⟩), (.inr rfl), trivial⟩
theorem en112 : Enters Tryz.prog 112 := ⟨_, Tryz.func112, rfl, rfl⟩
theorem k_strings_trimLeftByte {p0 : ByteArray} {p1 : Int} {y : ByteArray} (h : m_strings_trimLeftByte p0 p1 = some y) : Spec Tryz.prog 112 [(.v .str p0), (.v (.int .u8) p1)] (.v .str y) [] := by
  rw [m_strings_trimLeftByte] at h
  refine enterN [(.v .str p0), (.v (.int .u8) p1)] 17 Tryz.func112 rfl rfl rfl ?_
  refine T.seq ?_
  refine T.region ?_
  refine Run.go (Ev.assign rfl rfl) ?_
  refine Run.nil ?_
  obtain ⟨v1, hv, h⟩ := bdS h
  refine T.cut (fun _ : Unit => (⟨[(0, .v .str v1)], [], 17⟩ : St)) (fun _ => True) ?_ (fun _ _ => ?_)
  · replace h := hv
    clear hv
    refine T.block ?_
    refine T.loop (LoopT.ghost (Ghost.only [] [0, 1] rfl) (LoopT.run (fun q : ByteArray => (⟨[(0, .v .str q), (1, .v (.int .u8) p1)], [], 17⟩ : St)) (fun v2 z1 h hz1 => ?_) h))
    rw [m_strings_trimLeftByte_l1] at h
    refine T.seq ?_
    obtain ⟨v3, hv, h⟩ := bdS h
    refine T.cut (fun _ : Unit => (⟨[(0, .v .str v2), (1, .v (.int .u8) p1), (13, .v .bool v3)], [], 17⟩ : St)) (fun _ => True) ?_ (fun _ _ => ?_)
    · replace h := hv
      clear hv
      refine T.region ?_
      refine Run.go (Ev.move rfl rfl) ?_
      refine Run.go (Ev.len X rfl rfl rfl rfl) ?_
      refine Run.go (Ev.int rfl rfl rfl rfl trivial) ?_
      refine Run.go (Ev.move rfl rfl) ?_
      rcases boolCases (decide (0 < (v2.size : Int))) with hb4 | hb4
      · replace h := ifT hb4 h
        refine Run.on rfl rfl rfl hb4 (Ev.move rfl rfl) ?_
        obtain ⟨x5, e6, h⟩ := bdS h
        refine Run.on rfl rfl rfl hb4 (Ev.e_bt X e6 rfl rfl rfl rfl) ?_
        refine Run.on rfl rfl rfl hb4 (Ev.move rfl rfl) ?_
        refine Run.on rfl rfl rfl hb4 (Ev.int rfl rfl rfl rfl trivial) ?_
        refine Run.go (Ev.pickT rfl hb4 rfl rfl) ?_
        refine Run.nil ?_
        cases h
        exact ⟨(), trivial, Ghost.only [] [0, 1, 13] rfl⟩
      · replace h := ifF hb4 h
        refine Run.offT rfl rfl rfl rfl hb4 ?_
        refine Run.offT rfl rfl rfl rfl hb4 ?_
        refine Run.offT rfl rfl rfl rfl hb4 ?_
        refine Run.offT rfl rfl rfl rfl hb4 ?_
        refine Run.go (Ev.pickF rfl hb4 rfl rfl) ?_
        refine Run.nil ?_
        cases h
        exact ⟨(), trivial, Ghost.only [] [0, 1, 13] rfl⟩
    · refine T.cond rfl (fun hb7 => ?_) (fun hb7 => ?_)
      · replace h := ifT hb7 h
        refine T.skip ?_
        refine T.block ?_
        refine T.region ?_
        refine Run.go (Ev.move rfl rfl) ?_
        obtain ⟨x8, e9, h⟩ := bdS h
        refine Run.go (Ev.e_cs X e9 rfl rfl rfl (fun _ _ => cutAt_of rfl) (fun h => by cases h) (fun _ h => by cases h) (fun _ => rfl)) ?_
        refine Run.go (Ev.assign rfl rfl) ?_
        refine Run.nil ?_
        cases h
        exact LoopT.ghost (Ghost.only [] [0, 1] rfl) hz1
      · replace h := ifF hb7 h
        refine T.exit ?_
        cases h
        cases hz1
        exact ⟨(), trivial, Ghost.only [] [0] rfl⟩
  · refine T.seq ?_
    refine T.region ?_
    refine Run.go (Ev.move rfl rfl) ?_
    refine Run.go (Ev.assign rfl rfl) ?_
    refine Run.nil ?_
    refine T.ret ?_
    cases h
    exact Fin.one rfl .v
theorem en105 : Enters Tryz.prog 105 := ⟨_, Tryz.func105, rfl, rfl⟩
theorem k_strings_TrimLeft {p0 : ByteArray} {p1 : ByteArray} {y : ByteArray} (h : m_strings_TrimLeft p0 p1 = some y) : Spec Tryz.prog 105 [(.v .str p0), (.v .str p1)] (.v .str y) [] := by
  rw [m_strings_TrimLeft] at h
  refine enterN [(.v .str p0), (.v .str p1)] 37 Tryz.func105 rfl rfl rfl ?_
  refine T.seq ?_
  refine T.region ?_
  refine Run.go (Ev.assign rfl rfl) ?_
  refine Run.nil ?_
  refine T.seq ?_
  obtain ⟨v1, hv, h⟩ := bdS h
  refine T.cut (fun _ : Unit => (⟨[(0, .v .str p0), (1, .v .str p1), (12, .v .bool v1)], [], 37⟩ : St)) (fun _ => True) ?_ (fun _ _ => ?_)
  · replace h := hv
    clear hv
    refine T.region ?_
    refine Run.go (Ev.move rfl rfl) ?_
    refine Run.go (Ev.strs rfl rfl rfl rfl trivial) ?_
    refine Run.go (Ev.move rfl rfl) ?_
    rcases boolCases (sq p0 (bs [])) with hb2 | hb2
    · replace h := ifT hb2 h
      refine Run.offT rfl rfl rfl rfl hb2 ?_
      refine Run.offT rfl rfl rfl rfl hb2 ?_
      refine Run.go (Ev.pickT rfl hb2 rfl rfl) ?_
      refine Run.nil ?_
      cases h
      exact ⟨(), trivial, Ghost.only [] [0, 1, 12] rfl⟩
    · replace h := ifF hb2 h
      refine Run.on rfl rfl rfl hb2 (Ev.move rfl rfl) ?_
      refine Run.on rfl rfl rfl hb2 (Ev.strs rfl rfl rfl rfl trivial) ?_
      refine Run.go (Ev.pickF rfl hb2 rfl rfl) ?_
      refine Run.nil ?_
      cases h
      exact ⟨(), trivial, Ghost.only [] [0, 1, 12] rfl⟩
  · refine T.cond rfl (fun hb3 => ?_) (fun hb3 => ?_)
    · replace h := ifT hb3 h
      refine T.seq ?_
      refine T.region ?_
      refine Run.go (Ev.move rfl rfl) ?_
      refine Run.go (Ev.assign rfl rfl) ?_
      refine Run.nil ?_
      refine T.ret ?_
      cases h
      exact Fin.one rfl .v
    · replace h := ifF hb3 h
      refine T.skip ?_
      refine T.seq ?_
      obtain ⟨v4, hv, h⟩ := bdS h
      refine T.cut (fun _ : Unit => (⟨[(0, .v .str p0), (1, .v .str p1), (21, .v .bool v4)], [], 37⟩ : St)) (fun _ => True) ?_ (fun _ _ => ?_)
      · replace h := hv
        clear hv
        refine T.region ?_
        refine Run.go (Ev.move rfl rfl) ?_
        refine Run.go (Ev.len X rfl rfl rfl rfl) ?_
        refine Run.go (Ev.int rfl rfl rfl rfl trivial) ?_
        refine Run.go (Ev.move rfl rfl) ?_
        rcases boolCases (decide ((p1.size : Int) = 1)) with hb5 | hb5
        · replace h := ifT hb5 h
          refine Run.on rfl rfl rfl hb5 (Ev.move rfl rfl) ?_
          obtain ⟨x6, e7, h⟩ := bdS h
          refine Run.on rfl rfl rfl hb5 (Ev.e_bt X e7 rfl rfl rfl rfl) ?_
          refine Run.on rfl rfl rfl hb5 (Ev.int rfl rfl rfl rfl trivial) ?_
          refine Run.go (Ev.pickT rfl hb5 rfl rfl) ?_
          refine Run.nil ?_
          cases h
          exact ⟨(), trivial, Ghost.only [] [0, 1, 21] rfl⟩
        · replace h := ifF hb5 h
          refine Run.offT rfl rfl rfl rfl hb5 ?_
          refine Run.offT rfl rfl rfl rfl hb5 ?_
          refine Run.offT rfl rfl rfl rfl hb5 ?_
          refine Run.go (Ev.pickF rfl hb5 rfl rfl) ?_
          refine Run.nil ?_
          cases h
          exact ⟨(), trivial, Ghost.only [] [0, 1, 21] rfl⟩
      · refine T.cond rfl (fun hb8 => ?_) (fun hb8 => ?_)
        · replace h := ifT hb8 h
          refine T.seq ?_
          refine T.region ?_
          refine Run.go (Ev.move rfl rfl) ?_
          refine Run.go (Ev.move rfl rfl) ?_
          obtain ⟨x9, e10, h⟩ := bdS h
          refine Run.go (Ev.e_bt X e10 rfl rfl rfl rfl) ?_
          obtain ⟨x11, e12, h⟩ := bdS h
          refine Run.go (Ev.callC en112 (k_strings_trimLeftByte e12) rfl (.cons .v (.cons .v .nil)) rfl rfl) ?_
          refine Run.go (Ev.assign rfl rfl) ?_
          refine Run.nil ?_
          refine T.ret ?_
          cases h
          exact Fin.one rfl .v
        · replace h := ifF hb8 h
          refine T.skip ?_
          refine T.seq ?_
          refine T.seq ?_
          refine T.region ?_
          refine Run.go (Ev.move rfl rfl) ?_
          cases h
theorem en84 : Enters Tryz.prog 84 := ⟨_, Tryz.func84, rfl, rfl⟩
set_option maxHeartbeats 1000000 in
theorem k_digits_In {p0 : (List Int)} {p1 : Int} {y : ByteArray × Int} (h : m_digits_In p0 p1 = some y) : Spec Tryz.prog 84 [(.v (.sl (.int .u64)) p0), (.v (.int .i64) p1)] (.tup [.v .str y.1, .v (.int .i64) y.2]) [] := by
  rw [m_digits_In] at h
  refine enterN [(.v (.sl (.int .u64)) p0), (.v (.int .i64) p1)] 71 Tryz.func84 rfl rfl rfl ?_
  refine T.seq ?_
  refine T.region ?_
  refine Run.go (Ev.assign rfl rfl) ?_
  refine Run.go (Ev.assign rfl rfl) ?_
  refine Run.nil ?_
  refine T.seq ?_
  refine T.seq ?_
  refine T.region ?_
  refine Run.go (Ev.move rfl rfl) ?_
  obtain ⟨x1, e2, h⟩ := bdS h
  refine Run.go (Ev.callC en81 (k_digits_based e2) rfl (.cons .v .nil) rfl rfl) ?_
  refine Run.go (Ev.assign rfl rfl) ?_
  refine Run.nil ?_
  refine T.seq ?_
  refine T.region ?_
  refine Run.go (Ev.move rfl rfl) ?_
  refine Run.go (Ev.int rfl rfl rfl rfl trivial) ?_
  refine Run.nil ?_
  refine T.cond rfl (fun hb3 => ?_) (fun hb3 => ?_)
  · replace h := ifT hb3 h
    refine T.seq ?_
    refine T.region ?_
    refine Run.go (Ev.move rfl rfl) ?_
    refine Run.go (Ev.assign rfl rfl) ?_
    refine Run.go (Ev.assign rfl rfl) ?_
    refine Run.nil ?_
    refine T.ret ?_
    cases h
    exact Fin.many X rfl (.cons (.tmp .v) (.cons (.tmp .v) .nil)) rfl
  · replace h := ifF hb3 h
    refine T.skip ?_
    refine T.seq ?_
    refine T.region ?_
    refine Run.go (Ev.move rfl rfl) ?_
    obtain ⟨x4, e5, h⟩ := bdS h
    refine Run.go (Ev.callC en100 (k_digits_chunk e5) rfl (.cons .v .nil) rfl rfl) ?_
    refine Run.go (Ev.move rfl rfl) ?_
    refine Run.go (Ev.extract rfl rfl rfl) ?_
    refine Run.go (Ev.extract rfl rfl rfl) ?_
    refine Run.go (Ev.assign rfl rfl) ?_
    refine Run.go (Ev.assign rfl rfl) ?_
    refine Run.nil ?_
    refine T.seq ?_
    refine T.region ?_
    refine Run.go (Ev.assign rfl rfl) ?_
    refine Run.nil ?_
    refine T.seq ?_
    refine T.region ?_
    refine Run.go (Ev.move rfl rfl) ?_
    obtain ⟨x6, e7, h⟩ := bdS h
    refine Run.go (Ev.callC en101 (k_nat_Make e7) rfl (.cons .v .nil) rfl rfl) ?_
    refine Run.go (Ev.move rfl rfl) ?_
    refine Run.go (Ev.extract rfl rfl rfl) ?_
    refine Run.go (Ev.extract rfl rfl rfl) ?_
    refine Run.go (Ev.assign rfl rfl) ?_
    refine Run.go (Ev.assign rfl rfl) ?_
    refine Run.nil ?_
    obtain ⟨v8, hv, h⟩ := bdS h
    refine T.cut (fun _ : Unit => (⟨[(9, .own 2)], [(2, .arr 9 .str v8)], 71⟩ : St)) (fun _ => True) ?_ (fun _ _ => ?_)
    · replace h := hv
      clear hv
      refine T.block ?_
      refine T.loop (LoopT.ghost (Ghost.trans (Ghost.empty 9 19 9 .str rfl rfl) (Ghost.only [(19, 13)] [1, 7, 8, 9, 10] rfl)) (LoopT.run (fun q : (List Int) × (List ByteArray) => (⟨[(1, .v (.int .i64) p1), (7, .v (.int .u64) x4.1), (8, .v (.int .i64) x4.2), (9, .own 13), (10, .v (.sl (.int .u64)) q.1)], [(13, .arr 9 .str q.2)], 71⟩ : St)) (fun q z1 h hz1 => ?_) h))
      obtain ⟨v9, v10⟩ := q
      dsimp only
      rw [m_digits_In_l1] at h
      refine T.seq ?_
      refine T.seq ?_
      refine T.region ?_
      refine Run.go (Ev.move rfl rfl) ?_
      refine Run.go (Ev.len X rfl rfl rfl rfl) ?_
      refine Run.go (Ev.int rfl rfl rfl rfl trivial) ?_
      refine Run.nil ?_
      refine T.cond rfl (fun hb11 => ?_) (fun hb11 => ?_)
      · replace h := ifT hb11 h
        refine T.skip ?_
        refine T.block ?_
        refine T.seq ?_
        refine T.region ?_
        refine Run.go (Ev.move rfl rfl) ?_
        refine Run.go (Ev.move rfl rfl) ?_
        obtain ⟨x12, e13, h⟩ := bdS h
        refine Run.go (Ev.callC en102 (k_divide_Small e13) rfl (.cons .v (.cons .v .nil)) rfl rfl) ?_
        refine Run.go (Ev.move rfl rfl) ?_
        refine Run.go (Ev.extract rfl rfl rfl) ?_
        refine Run.go (Ev.extract rfl rfl rfl) ?_
        refine Run.go (Ev.extract rfl rfl rfl) ?_
        refine Run.go (Ev.assign rfl rfl) ?_
        refine Run.go (Ev.assign rfl rfl) ?_
        refine Run.go (Ev.assign rfl rfl) ?_
        refine Run.nil ?_
        refine T.seq ?_
        refine T.region ?_
        refine Run.go (Ev.move rfl rfl) ?_
        refine Run.go (Ev.move rfl rfl) ?_
        refine Run.go (Ev.move rfl rfl) ?_
        refine Run.go (Ev.move rfl rfl) ?_
        obtain ⟨x14, e15, h⟩ := bdS h
        refine Run.go (Ev.callC en103 (k_digits_piece e15) rfl (.cons .v (.cons .v (.cons .v .nil))) rfl rfl) ?_
        refine Run.go (Ev.build X 20 rfl rfl rfl rfl rfl rfl rfl rfl) ?_
        obtain ⟨x16, e17, h⟩ := bdS h
        refine Run.go (Ev.e_ap X 21 e17 rfl rfl rfl (.own rfl) rfl rfl rfl rfl rfl) ?_
        refine Run.go (Ev.assign rfl rfl) ?_
        refine Run.nil ?_
        refine T.region ?_
        refine Run.go (Ev.move rfl rfl) ?_
        refine Run.go (Ev.assign rfl rfl) ?_
        refine Run.nil ?_
        cases h
        exact LoopT.ghost (Ghost.only [(21, 13)] [1, 7, 8, 9, 10] rfl) hz1
      · replace h := ifF hb11 h
        refine T.exit ?_
        cases h
        cases hz1
        exact ⟨(), trivial, Ghost.only [(13, 2)] [9] rfl⟩
    · refine T.seq ?_
      refine T.region ?_
      refine Run.go (Ev.e_allocB 22 23 5 zs141 rfl rfl rfl) ?_
      refine Run.nil ?_
      obtain ⟨⟨v18, v19⟩, hv, h⟩ := bdS h
      refine T.cut (fun _ : Unit => (⟨[(15, .box 22 0)], [(22, .box [.pn v18 22 0 141, .owz 30]), (30, .arr 5 (.int .u8) v19)], 71⟩ : St)) (fun _ => True) ?_ (fun _ _ => ?_)
      · replace h := hv
        clear hv
        refine T.seq ?_
        refine T.region ?_
        refine Run.go (Ev.move rfl rfl) ?_
        refine Run.go (Ev.e_lenO X rfl rfl rfl rfl) ?_
        refine Run.go (Ev.move rfl rfl) ?_
        refine Run.nil ?_
        refine T.block ?_
        refine T.loop (LoopT.ghost (Ghost.only [(2, 2), (22, 22), (23, 44)] [9, 15, 52, 53] rfl) (LoopT.run (fun q : Int × Bool × (List Int) => (⟨[(9, .own 2), (15, .box 22 0), (52, .v (.int .i64) ((v8.length : Int) : Int)), (53, .v (.int .i64) q.1)], [(2, .arr 9 .str v8), (22, .box [.pn q.2.1 22 0 141, .owz 44]), (44, .arr 5 (.int .u8) q.2.2)], 71⟩ : St)) (fun q z1 h hz1 => ?_) h))
        obtain ⟨v20, v21, v22⟩ := q
        dsimp only
        rw [m_digits_In_l2] at h
        refine T.seq ?_
        refine T.region ?_
        refine Run.go (Ev.int rfl rfl rfl rfl trivial) ?_
        refine Run.nil ?_
        refine T.seq ?_
        refine T.cond rfl (fun hb23 => ?_) (fun hb23 => ?_)
        · replace h := ifT hb23 h
          refine T.skip ?_
          refine T.seq ?_
          refine T.block ?_
          refine T.seq ?_
          refine T.region ?_
          refine Run.go (Ev.move rfl rfl) ?_
          refine Run.go (Ev.assign rfl rfl) ?_
          refine Run.nil ?_
          refine T.region ?_
          refine Run.go (Ev.move rfl rfl) ?_
          refine Run.go (Ev.move rfl rfl) ?_
          refine Run.go (Ev.e_lenO X rfl rfl rfl rfl) ?_
          refine Run.go (Ev.int rfl rfl rfl rfl trivial) ?_
          refine Run.go (Ev.move rfl rfl) ?_
          refine Run.go (Ev.int rfl rfl rfl rfl trivial) ?_
          obtain ⟨x24, e25, h⟩ := bdS h
          refine Run.go (Ev.e_rdO X e25 rfl rfl rfl rfl rfl) ?_
          refine Run.go (Ev.e_ldO X (rdS e25).2 rfl rfl rfl rfl) ?_
          obtain ⟨x27, e26, h⟩ := bdS h
          refine Run.go (Ev.w3 (Ev.lendM [(22, 1), (44, 2)] [(1, 22), (2, 44), (4, 49)] en104 (k_strings_Builder_WriteString_M e26) rfl (.cons (.ren rfl) (.cons (.ren rfl) .nil)) rfl rfl rfl rfl rfl (A := .tup [.v (.int .i64) ((x24.size : Int) : Int), .bot]) rfl (W := [(22, .box [.pn x27.1 22 0 141, .owz 49]), (44, .dead), (49, .arr 5 (.int .u8) x27.2)]) rfl rfl)) ?_
          refine Run.nil ?_
          refine T.region ?_
          refine Run.go (Ev.int rfl rfl rfl rfl trivial) ?_
          refine Run.go (Ev.move rfl rfl) ?_
          refine Run.nil ?_
          cases h
          exact LoopT.ghost (Ghost.only [(2, 2), (22, 22), (49, 44)] [9, 15, 52, 53] rfl) hz1
        · replace h := ifF hb23 h
          refine T.exit ?_
          cases h
          cases hz1
          exact ⟨(), trivial, Ghost.only [(22, 22), (44, 30)] [15] rfl⟩
      · refine T.seq ?_
        refine T.region ?_
        obtain ⟨x29, e28, h⟩ := bdS h
        refine Run.go (Ev.w2 (Ev.lendM [(22, 1), (30, 2)] [(1, 22), (2, 30)] en106 (k_strings_Builder_String_M e28) rfl (.cons (.ren rfl) .nil) rfl rfl rfl rfl rfl (A := .v .str x29) rfl (W := [(22, .box [.pn v18 22 0 141, .bot]), (30, .dead)]) rfl rfl)) ?_
        obtain ⟨x30, e31, h⟩ := bdS h
        refine Run.go (Ev.callC en105 (k_strings_TrimLeft e31) rfl (.cons .v (.cons .v .nil)) rfl rfl) ?_
        refine Run.go (Ev.assign rfl rfl) ?_
        refine Run.nil ?_
        obtain ⟨v32, hv, h⟩ := bdS h
        refine T.cut (fun _ : Unit => (⟨[(17, .v .str v32)], [], 71⟩ : St)) (fun _ => True) ?_ (fun _ _ => ?_)
        · replace h := hv
          clear hv
          refine T.seq ?_
          refine T.region ?_
          refine Run.go (Ev.move rfl rfl) ?_
          refine Run.go (Ev.strs rfl rfl rfl rfl trivial) ?_
          refine Run.nil ?_
          refine T.cond rfl (fun hb33 => ?_) (fun hb33 => ?_)
          · replace h := ifT hb33 h
            refine T.region ?_
            refine Run.go (Ev.assign rfl rfl) ?_
            refine Run.nil ?_
            cases h
            exact ⟨(), trivial, Ghost.only [] [17] rfl⟩
          · replace h := ifF hb33 h
            refine T.skip ?_
            cases h
            exact ⟨(), trivial, Ghost.only [] [17] rfl⟩
        · refine T.seq ?_
          refine T.region ?_
          refine Run.go (Ev.move rfl rfl) ?_
          refine Run.go (Ev.assign rfl rfl) ?_
          refine Run.go (Ev.assign rfl rfl) ?_
          refine Run.nil ?_
          refine T.ret ?_
          cases h
          exact Fin.many X rfl (.cons (.tmp .v) (.cons (.tmp .v) .nil)) rfl
theorem en68 : Enters Tryz.prog 68 := ⟨_, Tryz.func68, rfl, rfl⟩
theorem k_digits_Print {p0 : (List Int)} {y : ByteArray} (h : m_digits_Print p0 = some y) : Spec Tryz.prog 68 [(.v (.sl (.int .u64)) p0)] (.v .str y) [] := by
  rw [m_digits_Print] at h
  refine enterN [(.v (.sl (.int .u64)) p0)] 11 Tryz.func68 rfl rfl rfl ?_
  refine T.seq ?_
  refine T.region ?_
  refine Run.go (Ev.assign rfl rfl) ?_
  refine Run.nil ?_
  refine T.seq ?_
  refine T.region ?_
  refine Run.go (Ev.move rfl rfl) ?_
  obtain ⟨x1, e2, h⟩ := bdS h
  refine Run.go (Ev.callC en84 (k_digits_In e2) rfl (.cons .v (.cons .v .nil)) rfl rfl) ?_
  refine Run.go (Ev.move rfl rfl) ?_
  refine Run.go (Ev.extract rfl rfl rfl) ?_
  refine Run.go (Ev.extract rfl rfl rfl) ?_
  refine Run.go (Ev.assign rfl rfl) ?_
  refine Run.go (Ev.assign rfl rfl) ?_
  refine Run.nil ?_
  refine T.seq ?_
  refine T.region ?_
  refine Run.go (Ev.move rfl rfl) ?_
  refine Run.go (Ev.assign rfl rfl) ?_
  refine Run.nil ?_
  refine T.ret ?_
  cases h
  exact Fin.one rfl .v
theorem en42 : Enters Tryz.prog 42 := ⟨_, Tryz.func42, rfl, rfl⟩
theorem k_digits_Count {p0 : (List Int)} {y : Int} (h : m_digits_Count p0 = some y) : Spec Tryz.prog 42 [(.v (.sl (.int .u64)) p0)] (.v (.int .i64) y) [] := by
  rw [m_digits_Count] at h
  refine enterN [(.v (.sl (.int .u64)) p0)] 6 Tryz.func42 rfl rfl rfl ?_
  refine T.seq ?_
  refine T.region ?_
  refine Run.go (Ev.assign rfl rfl) ?_
  refine Run.nil ?_
  refine T.seq ?_
  refine T.region ?_
  refine Run.go (Ev.move rfl rfl) ?_
  obtain ⟨x1, e2, h⟩ := bdS h
  refine Run.go (Ev.callC en68 (k_digits_Print e2) rfl (.cons .v .nil) rfl rfl) ?_
  refine Run.go (Ev.len X rfl rfl rfl rfl) ?_
  refine Run.go (Ev.assign rfl rfl) ?_
  refine Run.nil ?_
  refine T.ret ?_
  cases h
  exact Fin.one rfl .v
theorem en85 : Enters Tryz.prog 85 := ⟨_, Tryz.func85, rfl, rfl⟩
theorem k_limb_Bits {p0 : Int} {y : Int} (h : m_limb_Bits p0 = some y) : Spec Tryz.prog 85 [(.v (.int .u64) p0)] (.v (.int .i64) y) [] := by
  rw [m_limb_Bits] at h
  refine enterN [(.v (.int .u64) p0)] 17 Tryz.func85 rfl rfl rfl ?_
  refine T.seq ?_
  refine T.region ?_
  refine Run.go (Ev.assign rfl rfl) ?_
  refine Run.nil ?_
  refine T.seq ?_
  refine T.region ?_
  refine Run.go (Ev.assign rfl rfl) ?_
  refine Run.nil ?_
  obtain ⟨v1, hv, h⟩ := bdS h
  refine T.cut (fun _ : Unit => (⟨[(3, .v (.int .i64) v1)], [], 17⟩ : St)) (fun _ => True) ?_ (fun _ _ => ?_)
  · replace h := hv
    clear hv
    refine T.seq ?_
    refine T.region ?_
    refine Run.go (Ev.move rfl rfl) ?_
    refine Run.nil ?_
    refine T.block ?_
    refine T.loop (LoopT.ghost (Ghost.only [] [0, 3, 5] rfl) (LoopT.run (fun q : Int × Int => (⟨[(0, .v (.int .u64) p0), (3, .v (.int .i64) q.1), (5, .v (.int .i64) q.2)], [], 17⟩ : St)) (fun q z1 h hz1 => ?_) h))
    obtain ⟨v2, v3⟩ := q
    dsimp only
    rw [m_limb_Bits_l1] at h
    refine T.seq ?_
    refine T.region ?_
    refine Run.go (Ev.int rfl rfl rfl rfl trivial) ?_
    refine Run.nil ?_
    refine T.seq ?_
    refine T.cond rfl (fun hb4 => ?_) (fun hb4 => ?_)
    · replace h := ifT hb4 h
      refine T.skip ?_
      obtain ⟨v5, hv, h⟩ := bdS h
      refine T.cut (fun _ : Unit => (⟨[(0, .v (.int .u64) p0), (3, .v (.int .i64) v5), (5, .v (.int .i64) v3)], [], 17⟩ : St)) (fun _ => True) ?_ (fun _ _ => ?_)
      · replace h := hv
        clear hv
        refine T.block ?_
        refine T.seq ?_
        refine T.region ?_
        refine Run.go (Ev.move rfl rfl) ?_
        refine Run.go (Ev.assign rfl rfl) ?_
        refine Run.nil ?_
        refine T.seq ?_
        refine T.region ?_
        refine Run.go (Ev.move rfl rfl) ?_
        refine Run.go (Ev.move rfl rfl) ?_
        obtain ⟨x6, e7, h⟩ := bdS h
        refine Run.go (Ev.e_sr e7 rfl rfl rfl) ?_
        refine Run.go (Ev.int rfl rfl rfl rfl trivial) ?_
        refine Run.go (Ev.int rfl rfl rfl rfl trivial) ?_
        refine Run.nil ?_
        refine T.cond rfl (fun hb8 => ?_) (fun hb8 => ?_)
        · replace h := ifT hb8 h
          refine T.region ?_
          refine Run.go (Ev.move rfl rfl) ?_
          refine Run.go (Ev.int rfl rfl rfl rfl trivial) ?_
          refine Run.go (Ev.assign rfl rfl) ?_
          refine Run.nil ?_
          cases h
          exact ⟨(), trivial, Ghost.only [] [0, 3, 5] rfl⟩
        · replace h := ifF hb8 h
          refine T.skip ?_
          cases h
          exact ⟨(), trivial, Ghost.only [] [0, 3, 5] rfl⟩
      · refine T.region ?_
        refine Run.go (Ev.int rfl rfl rfl rfl trivial) ?_
        refine Run.go (Ev.move rfl rfl) ?_
        refine Run.nil ?_
        cases h
        exact LoopT.ghost (Ghost.only [] [0, 3, 5] rfl) hz1
    · replace h := ifF hb4 h
      refine T.exit ?_
      cases h
      cases hz1
      exact ⟨(), trivial, Ghost.only [] [3] rfl⟩
  · refine T.seq ?_
    refine T.region ?_
    refine Run.go (Ev.move rfl rfl) ?_
    refine Run.go (Ev.assign rfl rfl) ?_
    refine Run.nil ?_
    refine T.ret ?_
    cases h
    exact Fin.one rfl .v
theorem en69 : Enters Tryz.prog 69 := ⟨_, Tryz.func69, rfl, rfl⟩
theorem k_nat_Bits {p0 : (List Int)} {y : Int} (h : m_nat_Bits p0 = some y) : Spec Tryz.prog 69 [(.v (.sl (.int .u64)) p0)] (.v (.int .i64) y) [] := by
  rw [m_nat_Bits] at h
  refine enterN [(.v (.sl (.int .u64)) p0)] 17 Tryz.func69 rfl rfl rfl ?_
  refine T.seq ?_
  refine T.region ?_
  refine Run.go (Ev.assign rfl rfl) ?_
  refine Run.nil ?_
  refine T.seq ?_
  refine T.region ?_
  refine Run.go (Ev.move rfl rfl) ?_
  refine Run.go (Ev.len X rfl rfl rfl rfl) ?_
  refine Run.go (Ev.int rfl rfl rfl rfl trivial) ?_
  refine Run.go (Ev.assign rfl rfl) ?_
  refine Run.nil ?_
  refine T.seq ?_
  refine T.seq ?_
  refine T.region ?_
  refine Run.go (Ev.move rfl rfl) ?_
  refine Run.go (Ev.int rfl rfl rfl rfl trivial) ?_
  refine Run.nil ?_
  refine T.cond rfl (fun hb1 => ?_) (fun hb1 => ?_)
  · replace h := ifT hb1 h
    refine T.seq ?_
    refine T.region ?_
    refine Run.go (Ev.assign rfl rfl) ?_
    refine Run.nil ?_
    refine T.ret ?_
    cases h
    exact Fin.one rfl .v
  · replace h := ifF hb1 h
    refine T.skip ?_
    refine T.seq ?_
    refine T.region ?_
    refine Run.go (Ev.move rfl rfl) ?_
    refine Run.go (Ev.int rfl rfl rfl rfl trivial) ?_
    refine Run.go (Ev.move rfl rfl) ?_
    refine Run.go (Ev.move rfl rfl) ?_
    obtain ⟨x2, e3, h⟩ := bdS h
    refine Run.go (Ev.e_rd X e3 rfl rfl rfl rfl) ?_
    refine Run.go (Ev.load X rfl rfl rfl) ?_
    obtain ⟨x4, e5, h⟩ := bdS h
    refine Run.go (Ev.callC en85 (k_limb_Bits e5) rfl (.cons .v .nil) rfl rfl) ?_
    refine Run.go (Ev.int rfl rfl rfl rfl trivial) ?_
    obtain ⟨x6, e7, h⟩ := ltS h
    refine Run.go (Ev.avs (Ev.assign rfl rfl) e7) ?_
    refine Run.nil ?_
    refine T.ret ?_
    cases h
    exact Fin.one rfl .v
theorem en43 : Enters Tryz.prog 43 := ⟨_, Tryz.func43, rfl, rfl⟩
theorem k_nat_Small {p0 : (List Int)} {y : Int × Bool} (h : m_nat_Small p0 = some y) : Spec Tryz.prog 43 [(.v (.sl (.int .u64)) p0)] (.tup [.v (.int .u64) y.1, .v .bool y.2]) [] := by
  rw [m_nat_Small] at h
  refine enterN [(.v (.sl (.int .u64)) p0)] 24 Tryz.func43 rfl rfl rfl ?_
  refine T.seq ?_
  refine T.region ?_
  refine Run.go (Ev.assign rfl rfl) ?_
  refine Run.go (Ev.assign rfl rfl) ?_
  refine Run.nil ?_
  refine T.seq ?_
  refine T.seq ?_
  refine T.region ?_
  refine Run.go (Ev.move rfl rfl) ?_
  obtain ⟨x1, e2, h⟩ := bdS h
  refine Run.go (Ev.callC en69 (k_nat_Bits e2) rfl (.cons .v .nil) rfl rfl) ?_
  refine Run.go (Ev.int rfl rfl rfl rfl trivial) ?_
  refine Run.nil ?_
  refine T.cond rfl (fun hb3 => ?_) (fun hb3 => ?_)
  · replace h := ifT hb3 h
    refine T.seq ?_
    refine T.region ?_
    refine Run.go (Ev.assign rfl rfl) ?_
    refine Run.go (Ev.assign rfl rfl) ?_
    refine Run.nil ?_
    refine T.ret ?_
    cases h
    exact Fin.many X rfl (.cons (.tmp .v) (.cons (.tmp .v) .nil)) rfl
  · replace h := ifF hb3 h
    refine T.skip ?_
    refine T.seq ?_
    refine T.region ?_
    refine Run.go (Ev.assign rfl rfl) ?_
    refine Run.nil ?_
    obtain ⟨v4, hv, h⟩ := bdS h
    refine T.cut (fun _ : Unit => (⟨[(4, .v (.int .u64) v4)], [], 24⟩ : St)) (fun _ => True) ?_ (fun _ _ => ?_)
    · replace h := hv
      clear hv
      refine T.seq ?_
      refine T.region ?_
      refine Run.go (Ev.move rfl rfl) ?_
      refine Run.go (Ev.len X rfl rfl rfl rfl) ?_
      refine Run.go (Ev.int rfl rfl rfl rfl trivial) ?_
      refine Run.go (Ev.assign rfl rfl) ?_
      refine Run.nil ?_
      refine T.block ?_
      refine T.loop (LoopT.ghost (Ghost.only [] [0, 4, 5] rfl) (LoopT.run (fun q : Int × Int => (⟨[(0, .v (.sl (.int .u64)) p0), (4, .v (.int .u64) q.1), (5, .v (.int .i64) q.2)], [], 24⟩ : St)) (fun q z1 h hz1 => ?_) h))
      obtain ⟨v5, v6⟩ := q
      dsimp only
      rw [m_nat_Small_l1] at h
      refine T.seq ?_
      refine T.seq ?_
      refine T.region ?_
      refine Run.go (Ev.move rfl rfl) ?_
      refine Run.go (Ev.int rfl rfl rfl rfl trivial) ?_
      refine Run.nil ?_
      refine T.cond rfl (fun hb7 => ?_) (fun hb7 => ?_)
      · replace h := ifT hb7 h
        refine T.skip ?_
        refine T.seq ?_
        refine T.block ?_
        refine T.region ?_
        refine Run.go (Ev.move rfl rfl) ?_
        obtain ⟨x8, e9, h⟩ := bdS h
        refine Run.go (Ev.e_sh e9 rfl rfl rfl) ?_
        refine Run.go (Ev.move rfl rfl) ?_
        refine Run.go (Ev.move rfl rfl) ?_
        obtain ⟨x10, e11, h⟩ := bdS h
        refine Run.go (Ev.e_rd X e11 rfl rfl rfl rfl) ?_
        refine Run.go (Ev.load X rfl rfl rfl) ?_
        refine Run.go (Ev.int rfl rfl rfl rfl trivial) ?_
        refine Run.go (Ev.assign rfl rfl) ?_
        refine Run.nil ?_
        refine T.region ?_
        refine Run.go (Ev.move rfl rfl) ?_
        refine Run.go (Ev.int rfl rfl rfl rfl trivial) ?_
        refine Run.go (Ev.assign rfl rfl) ?_
        refine Run.nil ?_
        cases h
        exact LoopT.ghost (Ghost.only [] [0, 4, 5] rfl) hz1
      · replace h := ifF hb7 h
        refine T.exit ?_
        cases h
        cases hz1
        exact ⟨(), trivial, Ghost.only [] [4] rfl⟩
    · refine T.seq ?_
      refine T.region ?_
      refine Run.go (Ev.move rfl rfl) ?_
      refine Run.go (Ev.assign rfl rfl) ?_
      refine Run.go (Ev.assign rfl rfl) ?_
      refine Run.nil ?_
      refine T.ret ?_
      cases h
      exact Fin.many X rfl (.cons (.tmp .v) (.cons (.tmp .v) .nil)) rfl
theorem en22 : Enters Tryz.prog 22 := ⟨_, Tryz.func22, rfl, rfl⟩
theorem k_netread_Count {p0 : ByteArray} {y : Int × Int} (h : m_netread_Count p0 = some y) : Spec Tryz.prog 22 [(.v .str p0)] (.tup [.v (.int .i64) y.1, .v (.int .i64) y.2]) [] := by
  rw [m_netread_Count] at h
  refine enterN [(.v .str p0)] 28 Tryz.func22 rfl rfl rfl ?_
  refine T.seq ?_
  refine T.region ?_
  refine Run.go (Ev.assign rfl rfl) ?_
  refine Run.go (Ev.assign rfl rfl) ?_
  refine Run.nil ?_
  refine T.seq ?_
  refine T.region ?_
  refine Run.go (Ev.move rfl rfl) ?_
  obtain ⟨x1, e2, h⟩ := bdS h
  refine Run.go (Ev.callC en41 (k_digits_Parse e2) rfl (.cons .v .nil) rfl rfl) ?_
  refine Run.go (Ev.move rfl rfl) ?_
  refine Run.go (Ev.extract rfl rfl rfl) ?_
  refine Run.go (Ev.extract rfl rfl rfl) ?_
  refine Run.go (Ev.assign rfl rfl) ?_
  refine Run.go (Ev.assign rfl rfl) ?_
  refine Run.nil ?_
  refine T.seq ?_
  refine T.seq ?_
  refine T.region ?_
  refine Run.go (Ev.move rfl rfl) ?_
  refine Run.go (Ev.int rfl rfl rfl rfl trivial) ?_
  refine Run.nil ?_
  refine T.cond rfl (fun hb3 => ?_) (fun hb3 => ?_)
  · replace h := ifT hb3 h
    refine T.seq ?_
    refine T.region ?_
    refine Run.go (Ev.move rfl rfl) ?_
    refine Run.go (Ev.assign rfl rfl) ?_
    refine Run.go (Ev.assign rfl rfl) ?_
    refine Run.nil ?_
    refine T.ret ?_
    cases h
    exact Fin.many X rfl (.cons (.tmp .v) (.cons (.tmp .v) .nil)) rfl
  · replace h := ifF hb3 h
    refine T.skip ?_
    refine T.seq ?_
    refine T.seq ?_
    refine T.region ?_
    refine Run.go (Ev.move rfl rfl) ?_
    obtain ⟨x4, e5, h⟩ := bdS h
    refine Run.go (Ev.callC en42 (k_digits_Count e5) rfl (.cons .v .nil) rfl rfl) ?_
    refine Run.go (Ev.int rfl rfl rfl rfl trivial) ?_
    refine Run.nil ?_
    refine T.cond rfl (fun hb6 => ?_) (fun hb6 => ?_)
    · replace h := ifT hb6 h
      refine T.seq ?_
      refine T.region ?_
      refine Run.go (Ev.move rfl rfl) ?_
      refine Run.go (Ev.assign rfl rfl) ?_
      refine Run.go (Ev.assign rfl rfl) ?_
      refine Run.nil ?_
      refine T.ret ?_
      cases h
      exact Fin.many X rfl (.cons (.tmp .v) (.cons (.tmp .v) .nil)) rfl
    · replace h := ifF hb6 h
      refine T.skip ?_
      refine T.seq ?_
      refine T.region ?_
      refine Run.go (Ev.move rfl rfl) ?_
      obtain ⟨x7, e8, h⟩ := bdS h
      refine Run.go (Ev.callC en43 (k_nat_Small e8) rfl (.cons .v .nil) rfl rfl) ?_
      refine Run.go (Ev.move rfl rfl) ?_
      refine Run.go (Ev.extract rfl rfl rfl) ?_
      refine Run.go (Ev.extract rfl rfl rfl) ?_
      refine Run.go (Ev.assign rfl rfl) ?_
      refine Run.go (Ev.assign rfl rfl) ?_
      refine Run.nil ?_
      refine T.seq ?_
      refine T.region ?_
      refine Run.go (Ev.move rfl rfl) ?_
      refine Run.go (Ev.conv X rfl rfl rfl rfl) ?_
      refine Run.go (Ev.move rfl rfl) ?_
      refine Run.go (Ev.assign rfl rfl) ?_
      refine Run.go (Ev.assign rfl rfl) ?_
      refine Run.nil ?_
      refine T.ret ?_
      cases h
      exact Fin.many X rfl (.cons (.tmp .v) (.cons (.tmp .v) .nil)) rfl
theorem k_askread_reader_query_2_M {p0 : ByteArray} {o1_0 : Int} {o1_1 : ByteArray} {o1_2 : ByteArray} {o1_3 : ByteArray} {o1_4 : Int} {o1_5 : Int} {o1_6 : Int} {o1_7 : Int} {y : Int × Int} (h : m_askread_reader_query_2_M p0 o1_0 o1_1 o1_2 o1_3 o1_4 o1_5 o1_6 o1_7 = some y) : SpecM Tryz.prog 21 [(.v .str p0), (.box 1 0)] [(1, .box [.v (.int .i64) o1_0, .v .str o1_1, .v .str o1_2, .v .str o1_3, .v (.int .u32) o1_4, .v (.int .u32) o1_5, .v (.int .i64) o1_6, .v (.int .i64) o1_7])] (.v (.int .i64) y.1) [(1, .box [.v (.int .i64) o1_0, .v .str o1_1, .v .str o1_2, .v .str o1_3, .v (.int .u32) o1_4, .v (.int .u32) o1_5, .v (.int .i64) o1_6, .v (.int .i64) y.2])] := by
  rw [m_askread_reader_query_2_M] at h
  refine SpecM.enter 100000 [(.v .str p0), (.box 1 0)] 11 Tryz.func21 rfl rfl rfl rfl (fun L => ?_)
  refine T.seq ?_
  refine T.region ?_
  refine Run.go (Ev.assign rfl rfl) ?_
  refine Run.nil ?_
  refine T.seq ?_
  refine T.region ?_
  refine Run.go (Ev.move rfl rfl) ?_
  obtain ⟨x1, e2, h⟩ := bdS h
  refine Run.go (Ev.callC en22 (k_netread_Count e2) rfl (.cons .v .nil) rfl rfl) ?_
  refine Run.go (Ev.move rfl rfl) ?_
  refine Run.go (Ev.extract rfl rfl rfl) ?_
  refine Run.go (Ev.extract rfl rfl rfl) ?_
  refine Run.go (Ev.fieldBox X rfl rfl rfl rfl rfl) ?_
  refine Run.do_ (Ev.storeBox X rfl rfl rfl rfl rfl rfl rfl) ?_
  refine Run.go (Ev.assign rfl rfl) ?_
  refine Run.nil ?_
  refine T.seq ?_
  refine T.region ?_
  refine Run.go (Ev.move rfl rfl) ?_
  refine Run.go (Ev.assign rfl rfl) ?_
  refine Run.nil ?_
  refine T.ret ?_
  cases h
  exact FinM.of 100000 [(1, 1)] (inlR.one' (X := X) rfl (.tmp rfl)) rfl rfl rfl rfl ⟨(.inl ⟨rfl, _, rfl, .box, fun _ => rfl⟩), trivial⟩
theorem k_lex_Reader_Done_M_2 {o1_0 : (List D_lex_Token)} {o1_1 : Int} {y : Unit} (h : m_lex_Reader_Done_M_2 o1_0 o1_1 = some y) : SpecM Tryz.prog 9 [(.box 1 0)] [(1, .box [.v (.sl Y_lex_Token) o1_0, .v (.int .i64) o1_1])] (.v .bool (decide ((o1_0.length : Int) = 0) : Bool)) [(1, .box [.v (.sl Y_lex_Token) o1_0, .v (.int .i64) o1_1])] := by
  rw [m_lex_Reader_Done_M_2] at h
  refine SpecM.enter 100000 [(.box 1 0)] 13 Tryz.func9 rfl rfl rfl rfl (fun L => ?_)
  refine T.seq ?_
  refine T.region ?_
  refine Run.go (Ev.assign rfl rfl) ?_
  refine Run.nil ?_
  refine T.seq ?_
  refine T.region ?_
  refine Run.go (Ev.move rfl rfl) ?_
  refine Run.go (Ev.e_pnil pt29 (.inl ⟨rfl, rfl⟩) rfl (.box rfl) rfl rfl) ?_
  refine Run.go (Ev.move rfl rfl) ?_
  refine Run.on rfl rfl rfl rfl (Ev.move rfl rfl) ?_
  refine Run.on rfl rfl rfl rfl (Ev.e_nc rfl rfl rfl rfl) ?_
  refine Run.on rfl rfl rfl rfl (Ev.fieldBox X rfl rfl rfl rfl rfl) ?_
  refine Run.on rfl rfl rfl rfl (Ev.loadCell X rfl rfl rfl rfl rfl rfl) ?_
  refine Run.on rfl rfl rfl rfl (Ev.len X rfl rfl rfl rfl) ?_
  refine Run.on rfl rfl rfl rfl (Ev.int rfl rfl rfl rfl trivial) ?_
  refine Run.go (Ev.pickF rfl rfl rfl rfl) ?_
  refine Run.go (Ev.assign rfl rfl) ?_
  refine Run.nil ?_
  refine T.ret ?_
  cases h
  exact FinM.of 100000 [(1, 1)] (inlR.one' (X := X) rfl (.tmp rfl)) rfl rfl rfl rfl ⟨(.inl ⟨rfl, _, rfl, .box, fun _ => rfl⟩), trivial⟩
theorem k_lex_Reader_Is_M {p1 : ByteArray} {o1_0 : (List D_lex_Token)} {o1_1 : Int} {y : Bool} (h : m_lex_Reader_Is_M p1 o1_0 o1_1 = some y) : SpecM Tryz.prog 44 [(.box 1 0), (.v .str p1)] [(1, .box [.v (.sl Y_lex_Token) o1_0, .v (.int .i64) o1_1])] (.v .bool y) [(1, .box [.v (.sl Y_lex_Token) o1_0, .v (.int .i64) o1_1])] := by
  rw [m_lex_Reader_Is_M] at h
  refine SpecM.enter 100000 [(.box 1 0), (.v .str p1)] 19 Tryz.func44 rfl rfl rfl rfl (fun L => ?_)
  refine T.seq ?_
  refine T.region ?_
  refine Run.go (Ev.assign rfl rfl) ?_
  refine Run.nil ?_
  refine T.seq ?_
  refine T.region ?_
  refine Run.go (Ev.move rfl rfl) ?_
  obtain ⟨x2, e1, h⟩ := bdS h
  refine Run.go (Ev.w1 (Ev.lendM [(1, 1)] [(1, 1)] en9 (k_lex_Reader_Done_M_2 e1) rfl (.cons (.ren rfl) .nil) rfl rfl rfl rfl rfl (A := .v .bool (decide ((o1_0.length : Int) = 0) : Bool)) rfl (W := [(1, .box [.v (.sl Y_lex_Token) o1_0, .v (.int .i64) o1_1])]) rfl rfl)) ?_
  refine Run.go (Ev.not rfl rfl) ?_
  refine Run.go (Ev.move rfl rfl) ?_
  rcases boolCases (!(decide ((o1_0.length : Int) = 0))) with hb3 | hb3
  · replace h := ifT hb3 h
    refine Run.on rfl rfl rfl hb3 (Ev.move rfl rfl) ?_
    refine Run.on rfl rfl rfl hb3 (Ev.e_nc rfl rfl rfl rfl) ?_
    refine Run.on rfl rfl rfl hb3 (Ev.fieldBox X rfl rfl rfl rfl rfl) ?_
    refine Run.on rfl rfl rfl hb3 (Ev.loadCell X rfl rfl rfl rfl rfl rfl) ?_
    obtain ⟨x4, e5, h⟩ := bdS h
    refine Run.on rfl rfl rfl hb3 (Ev.e_rd X e5 rfl rfl rfl rfl) ?_
    refine Run.on rfl rfl rfl hb3 (Ev.fieldAddr X rfl rfl rfl rfl) ?_
    refine Run.on rfl rfl rfl hb3 (Ev.load X rfl rfl rfl) ?_
    refine Run.on rfl rfl rfl hb3 (Ev.move rfl rfl) ?_
    refine Run.on rfl rfl rfl hb3 (Ev.strs rfl rfl rfl rfl trivial) ?_
    refine Run.go (Ev.pickT rfl hb3 rfl rfl) ?_
    refine Run.go (Ev.assign rfl rfl) ?_
    refine Run.nil ?_
    refine T.ret ?_
    cases h
    exact FinM.of 100000 [(1, 1)] (inlR.one' (X := X) rfl (.tmp rfl)) rfl rfl rfl rfl ⟨(.inl ⟨rfl, _, rfl, .box, fun _ => rfl⟩), trivial⟩
  · replace h := ifF hb3 h
    refine Run.offT rfl rfl rfl rfl hb3 ?_
    refine Run.offT rfl rfl rfl rfl hb3 ?_
    refine Run.offT rfl rfl rfl rfl hb3 ?_
    refine Run.offT rfl rfl rfl rfl hb3 ?_
    refine Run.offT rfl rfl rfl rfl hb3 ?_
    refine Run.offT rfl rfl rfl rfl hb3 ?_
    refine Run.offT rfl rfl rfl rfl hb3 ?_
    refine Run.offT rfl rfl rfl rfl hb3 ?_
    refine Run.offT rfl rfl rfl rfl hb3 ?_
    refine Run.go (Ev.pickF rfl hb3 rfl rfl) ?_
    refine Run.go (Ev.assign rfl rfl) ?_
    refine Run.nil ?_
    refine T.ret ?_
    cases h
    exact FinM.of 100000 [(1, 1)] (inlR.one' (X := X) rfl (.tmp rfl)) rfl rfl rfl rfl ⟨(.inl ⟨rfl, _, rfl, .box, fun _ => rfl⟩), trivial⟩
theorem k_lex_Reader_Take_M {p1 : ByteArray} {o1_0 : (List D_lex_Token)} {o1_1 : Int} {y : Bool × (List D_lex_Token)} (h : m_lex_Reader_Take_M p1 o1_0 o1_1 = some y) : SpecM Tryz.prog 24 [(.box 1 0), (.v .str p1)] [(1, .box [.v (.sl Y_lex_Token) o1_0, .v (.int .i64) o1_1])] (.v .bool y.1) [(1, .box [.v (.sl Y_lex_Token) y.2, .v (.int .i64) o1_1])] := by
  rw [m_lex_Reader_Take_M] at h
  refine SpecM.enter 100000 [(.box 1 0), (.v .str p1)] 19 Tryz.func24 rfl rfl rfl rfl (fun L => ?_)
  refine T.seq ?_
  refine T.region ?_
  refine Run.go (Ev.assign rfl rfl) ?_
  refine Run.nil ?_
  refine T.seq ?_
  refine T.region ?_
  refine Run.go (Ev.move rfl rfl) ?_
  refine Run.go (Ev.move rfl rfl) ?_
  obtain ⟨x2, e1, h⟩ := bdS h
  refine Run.go (Ev.w1 (Ev.lendM [(1, 1)] [(1, 1)] en44 (k_lex_Reader_Is_M e1) rfl (.cons (.ren rfl) (.cons (.ren rfl) .nil)) rfl rfl rfl rfl rfl (A := .v .bool x2) rfl (W := [(1, .box [.v (.sl Y_lex_Token) o1_0, .v (.int .i64) o1_1])]) rfl rfl)) ?_
  refine Run.go (Ev.assign rfl rfl) ?_
  refine Run.nil ?_
  obtain ⟨v3, hv, h⟩ := bdS h
  refine T.cut (fun _ : Unit => (⟨[(5, .v .bool x2)], [(1, .box [.v (.sl Y_lex_Token) v3, .v (.int .i64) o1_1]), (100001, .place 1 (L 1).1 (L 1).2)], 19⟩ : St)) (fun _ => True) ?_ (fun _ _ => ?_)
  · replace h := hv
    clear hv
    refine T.seq ?_
    refine T.region ?_
    refine Run.go (Ev.move rfl rfl) ?_
    refine Run.nil ?_
    refine T.cond rfl (fun hb4 => ?_) (fun hb4 => ?_)
    · replace h := ifT hb4 h
      refine T.region ?_
      refine Run.go (Ev.move rfl rfl) ?_
      refine Run.go (Ev.move rfl rfl) ?_
      refine Run.go (Ev.e_nc rfl rfl rfl rfl) ?_
      refine Run.go (Ev.fieldBox X rfl rfl rfl rfl rfl) ?_
      refine Run.go (Ev.loadCell X rfl rfl rfl rfl rfl rfl) ?_
      obtain ⟨x5, e6, h⟩ := bdS h
      refine Run.go (Ev.e_ct X e6 rfl rfl rfl (fun _ _ => cutAt_of rfl) (fun h => by cases h) (fun _ h => by cases h) (fun _ => rfl)) ?_
      refine Run.go (Ev.e_nc rfl rfl rfl rfl) ?_
      refine Run.go (Ev.fieldBox X rfl rfl rfl rfl rfl) ?_
      refine Run.do_ (Ev.storeBox X rfl rfl rfl rfl rfl rfl rfl) ?_
      refine Run.nil ?_
      cases h
      exact ⟨(), trivial, Ghost.only [(1, 1), (100001, 100001)] [5] rfl⟩
    · replace h := ifF hb4 h
      refine T.skip ?_
      cases h
      exact ⟨(), trivial, Ghost.only [(1, 1), (100001, 100001)] [5] rfl⟩
  · refine T.seq ?_
    refine T.region ?_
    refine Run.go (Ev.move rfl rfl) ?_
    refine Run.go (Ev.assign rfl rfl) ?_
    refine Run.nil ?_
    refine T.ret ?_
    cases h
    exact FinM.of 100000 [(1, 1)] (inlR.one' (X := X) rfl (.tmp rfl)) rfl rfl rfl rfl ⟨(.inl ⟨rfl, _, rfl, .box, fun _ => rfl⟩), trivial⟩
theorem k_lex_Reader_Line_M_2 {o1_0 : (List D_lex_Token)} {o1_1 : Int} {y : Int} (h : m_lex_Reader_Line_M_2 o1_0 o1_1 = some y) : SpecM Tryz.prog 23 [(.box 1 0)] [(1, .box [.v (.sl Y_lex_Token) o1_0, .v (.int .i64) o1_1])] (.v (.int .i64) y) [(1, .box [.v (.sl Y_lex_Token) o1_0, .v (.int .i64) o1_1])] := by
  rw [m_lex_Reader_Line_M_2] at h
  refine SpecM.enter 100000 [(.box 1 0)] 24 Tryz.func23 rfl rfl rfl rfl (fun L => ?_)
  refine T.seq ?_
  refine T.region ?_
  refine Run.go (Ev.assign rfl rfl) ?_
  refine Run.nil ?_
  refine T.seq ?_
  refine T.block ?_
  refine T.seq ?_
  refine T.region ?_
  refine Run.go (Ev.move rfl rfl) ?_
  refine Run.go (Ev.e_pnil pt29 (.inl ⟨rfl, rfl⟩) rfl (.box rfl) rfl rfl) ?_
  refine Run.go (Ev.assign rfl rfl) ?_
  refine Run.nil ?_
  refine T.condF rfl rfl ?_
  refine T.seq ?_
  refine T.region ?_
  refine Run.go (Ev.move rfl rfl) ?_
  refine Run.go (Ev.e_nc rfl rfl rfl rfl) ?_
  refine Run.go (Ev.fieldBox X rfl rfl rfl rfl rfl) ?_
  refine Run.go (Ev.loadCell X rfl rfl rfl rfl rfl rfl) ?_
  refine Run.go (Ev.len X rfl rfl rfl rfl) ?_
  refine Run.go (Ev.int rfl rfl rfl rfl trivial) ?_
  refine Run.go (Ev.assign rfl rfl) ?_
  refine Run.nil ?_
  refine T.cond rfl (fun hb1 => ?_) (fun hb1 => ?_)
  · replace h := ifT hb1 h
    refine T.seq ?_
    refine T.region ?_
    refine Run.go (Ev.move rfl rfl) ?_
    refine Run.go (Ev.e_nc rfl rfl rfl rfl) ?_
    refine Run.go (Ev.fieldBox X rfl rfl rfl rfl rfl) ?_
    refine Run.go (Ev.loadCell X rfl rfl rfl rfl rfl rfl) ?_
    refine Run.go (Ev.assign rfl rfl) ?_
    refine Run.nil ?_
    refine T.ret ?_
    cases h
    exact FinM.of 100000 [(1, 1)] (inlR.one' (X := X) rfl (.tmp rfl)) rfl rfl rfl rfl ⟨(.inl ⟨rfl, _, rfl, .box, fun _ => rfl⟩), trivial⟩
  · replace h := ifF hb1 h
    refine T.skip ?_
    refine T.seq ?_
    refine T.region ?_
    refine Run.go (Ev.move rfl rfl) ?_
    refine Run.go (Ev.e_nc rfl rfl rfl rfl) ?_
    refine Run.go (Ev.fieldBox X rfl rfl rfl rfl rfl) ?_
    refine Run.go (Ev.loadCell X rfl rfl rfl rfl rfl rfl) ?_
    obtain ⟨x2, e3, h⟩ := bdS h
    refine Run.go (Ev.e_rd X e3 rfl rfl rfl rfl) ?_
    refine Run.go (Ev.fieldAddr X rfl rfl rfl rfl) ?_
    refine Run.go (Ev.load X rfl rfl rfl) ?_
    refine Run.go (Ev.assign rfl rfl) ?_
    refine Run.nil ?_
    refine T.ret ?_
    cases h
    exact FinM.of 100000 [(1, 1)] (inlR.one' (X := X) rfl (.tmp rfl)) rfl rfl rfl rfl ⟨(.inl ⟨rfl, _, rfl, .box, fun _ => rfl⟩), trivial⟩
theorem k_askread_reader_wrong_M_2 {p1 : Int} {o1_1 : Int} {o1_2 : Int} {o2_0 : (List D_lex_Token)} {o2_1 : Int} {y : Int} (h : m_askread_reader_wrong_M_2 p1 o1_1 o1_2 o2_0 o2_1 = some y) : SpecM Tryz.prog 25 [(.box 1 0), (.v (.int .i64) p1)] [(1, .box [.box 2 0, .v (.int .i64) o1_1, .v (.int .i64) o1_2]), (2, .box [.v (.sl Y_lex_Token) o2_0, .v (.int .i64) o2_1])] (.tup []) [(1, .box [.box 2 0, .v (.int .i64) y, .v (.int .i64) o1_2]), (2, .box [.v (.sl Y_lex_Token) o2_0, .v (.int .i64) o2_1])] := by
  rw [m_askread_reader_wrong_M_2] at h
  refine SpecM.enter 100000 [(.box 1 0), (.v (.int .i64) p1)] 13 Tryz.func25 rfl rfl rfl rfl (fun L => ?_)
  refine T.seq ?_
  refine T.region ?_
  refine Run.go (Ev.move rfl rfl) ?_
  refine Run.go (Ev.e_nc rfl rfl rfl rfl) ?_
  refine Run.go (Ev.fieldBoxN fo34_1 sz3 rfl rfl rfl rfl) ?_
  refine Run.go (Ev.loadCell X rfl rfl rfl rfl rfl rfl) ?_
  refine Run.go (Ev.int rfl rfl rfl rfl trivial) ?_
  refine Run.nil ?_
  refine T.cond rfl (fun hb1 => ?_) (fun hb1 => ?_)
  · replace h := ifT hb1 h
    refine T.region ?_
    refine Run.go (Ev.move rfl rfl) ?_
    refine Run.go (Ev.move rfl rfl) ?_
    refine Run.go (Ev.e_nc rfl rfl rfl rfl) ?_
    refine Run.go (Ev.fieldBoxN fo34_1 sz3 rfl rfl rfl rfl) ?_
    refine Run.do_ (Ev.storeBox X rfl rfl rfl rfl rfl rfl rfl) ?_
    refine Run.nil ?_
    cases h
    exact FinM.of 100000 [(1, 1), (2, 2)] (inlR.many' (X := X) rfl .nil rfl) rfl rfl rfl rfl ⟨(.inl ⟨rfl, _, rfl, .box, fun _ => rfl⟩), (.inl ⟨rfl, _, rfl, .box, fun _ => rfl⟩), trivial⟩
  · replace h := ifF hb1 h
    refine T.skip ?_
    cases h
    exact FinM.of 100000 [(1, 1), (2, 2)] (inlR.many' (X := X) rfl .nil rfl) rfl rfl rfl rfl ⟨(.inl ⟨rfl, _, rfl, .box, fun _ => rfl⟩), (.inl ⟨rfl, _, rfl, .box, fun _ => rfl⟩), trivial⟩
theorem k_askread_reader_kind_M_2 {o1_1 : Int} {o1_2 : Int} {o2_0 : (List D_lex_Token)} {o2_1 : Int} {y : Int × Int × (List D_lex_Token)} (h : m_askread_reader_kind_M_2 o1_1 o1_2 o2_0 o2_1 = some y) : SpecM Tryz.prog 15 [(.box 1 0)] [(1, .box [.box 2 0, .v (.int .i64) o1_1, .v (.int .i64) o1_2]), (2, .box [.v (.sl Y_lex_Token) o2_0, .v (.int .i64) o2_1])] (.v (.int .i64) y.1) [(1, .box [.box 2 0, .v (.int .i64) y.2.1, .v (.int .i64) o1_2]), (2, .box [.v (.sl Y_lex_Token) y.2.2, .v (.int .i64) o2_1])] := by
  rw [m_askread_reader_kind_M_2] at h
  refine SpecM.enter 100000 [(.box 1 0)] 28 Tryz.func15 rfl rfl rfl rfl (fun L => ?_)
  refine T.seq ?_
  refine T.region ?_
  refine Run.go (Ev.assign rfl rfl) ?_
  refine Run.nil ?_
  refine T.seq ?_
  refine T.seq ?_
  refine T.region ?_
  obtain ⟨x1, e2, h⟩ := bdS h
  refine Run.go (Ev.callC en35 (k_askread_asks e2) rfl .nil rfl rfl) ?_
  refine Run.go (Ev.len X rfl rfl rfl rfl) ?_
  refine Run.go (Ev.move rfl rfl) ?_
  refine Run.nil ?_
  refine T.block ?_
  refine T.loop (LoopT.ghost (Ghost.only [(1, 1), (2, 2), (100001, 100001), (100002, 100002)] [0, 5, 6, 7] rfl) (LoopT.run (fun q : Int × (List D_lex_Token) => (⟨[(0, .box 1 0), (5, .v (.sl Y_askread_ask) x1), (6, .v (.int .i64) ((x1.length : Int) : Int)), (7, .v (.int .i64) q.1)], [(1, .box [.box 2 0, .v (.int .i64) o1_1, .v (.int .i64) o1_2]), (2, .box [.v (.sl Y_lex_Token) q.2, .v (.int .i64) o2_1]), (100001, .place 1 (L 1).1 (L 1).2), (100002, .place 2 (L 2).1 (L 2).2)], 28⟩ : St)) (fun q z1 h hz1 => ?_) h))
  obtain ⟨v3, v4⟩ := q
  dsimp only
  rw [m_askread_reader_kind_M_2_l1] at h
  refine T.seq ?_
  refine T.region ?_
  refine Run.go (Ev.int rfl rfl rfl rfl trivial) ?_
  refine Run.nil ?_
  refine T.seq ?_
  refine T.cond rfl (fun hb5 => ?_) (fun hb5 => ?_)
  · replace h := ifT hb5 h
    refine T.skip ?_
    refine T.seq ?_
    refine T.block ?_
    refine T.seq ?_
    refine T.region ?_
    obtain ⟨x6, e7, h⟩ := bdS h
    refine Run.go (Ev.e_rd X e7 rfl rfl rfl rfl) ?_
    refine Run.go (Ev.load X rfl rfl rfl) ?_
    refine Run.go (Ev.allocN X 9 rfl rfl rfl) ?_
    refine Run.do_ (Ev.storeBox X rfl rfl rfl rfl rfl rfl rfl) ?_
    refine Run.nil ?_
    refine T.seq ?_
    refine T.drawE [([1], []), ([1], []), ([1], []), ([1], []), ([9], []), ([9], []), ([2], [2])] [0, 1, 3, 7, 0, 16, 63] (by kernel_rfl) (by kernel_rfl) ?_
    refine RunE.go0 [1] (fun ô hô => Ev.move rfl rfl) rfl rfl ?_
    refine RunE.go0 [1] (fun ô hô => Ev.e_nc rfl (one_box (ka hô rfl rfl)) rfl rfl) rfl rfl ?_
    refine RunE.go0 [1] (fun ô hô => Ev.fieldBoxN fo34_0 sz29 rfl (ka hô rfl rfl) rfl rfl) rfl rfl ?_
    refine RunE.go0 [1] (fun ô hô => Ev.loadOne sz29 rfl (ka hô rfl rfl) rfl rfl) rfl rfl ?_
    refine RunE.go0 [9] (fun ô hô => Ev.fieldBox X rfl (ka hô rfl rfl) rfl rfl rfl) rfl rfl ?_
    refine RunE.go0 [9] (fun ô hô => Ev.loadCell X rfl (ka hô rfl rfl) rfl rfl rfl rfl) rfl rfl ?_
    obtain ⟨x9, e8, h⟩ := bdS h
    refine RunE.go [2] [(2, .box [.v (.sl Y_lex_Token) x9.2, .v (.int .i64) o2_1])] (fun ô hô => Ev.lendE hô [(2, 1)] [(1, 2)] rfl en24 (k_lex_Reader_Take_M e8) rfl (.cons (.ren rfl) (.cons (.ren rfl) .nil)) rfl rfl rfl rfl rfl (A := .v .bool x9.1) rfl (W := [(2, .box [.v (.sl Y_lex_Token) x9.2, .v (.int .i64) o2_1])]) rfl (.inr ⟨_, rfl, rfl⟩) rfl rfl) rfl rfl ?_
    refine RunE.nil ?_
    refine T.cond rfl (fun hb10 => ?_) (fun hb10 => ?_)
    · replace h := ifT hb10 h
      refine T.seq ?_
      refine T.region ?_
      refine Run.go (Ev.fieldBox X rfl rfl rfl rfl rfl) ?_
      refine Run.go (Ev.loadCell X rfl rfl rfl rfl rfl rfl) ?_
      refine Run.go (Ev.assign rfl rfl) ?_
      refine Run.nil ?_
      refine T.ret ?_
      cases h
      cases hz1
      exact FinM.of 100000 [(1, 1), (2, 2)] (inlR.one' (X := X) rfl (.tmp rfl)) rfl rfl rfl rfl ⟨(.inl ⟨rfl, _, rfl, .box, fun _ => rfl⟩), (.inl ⟨rfl, _, rfl, .box, fun _ => rfl⟩), trivial⟩
    · replace h := ifF hb10 h
      refine T.skip ?_
      refine T.region ?_
      refine Run.go (Ev.int rfl rfl rfl rfl trivial) ?_
      refine Run.go (Ev.move rfl rfl) ?_
      refine Run.nil ?_
      cases h
      exact LoopT.ghost (Ghost.only [(1, 1), (2, 2), (100001, 100001), (100002, 100002)] [0, 5, 6, 7] rfl) hz1
  · replace h := ifF hb5 h
    refine T.exit ?_
    refine T.seq ?_
    refine T.region ?_
    refine Run.go (Ev.move rfl rfl) ?_
    refine Run.go (Ev.move rfl rfl) ?_
    refine Run.go (Ev.e_nc rfl rfl rfl rfl) ?_
    refine Run.go (Ev.fieldBoxN fo34_0 sz29 rfl rfl rfl rfl) ?_
    refine Run.go (Ev.loadOne sz29 rfl rfl rfl rfl) ?_
    obtain ⟨x12, e11, h⟩ := bdS h
    refine Run.go (Ev.w1 (Ev.lendM [(2, 1)] [(1, 2)] en23 (k_lex_Reader_Line_M_2 e11) rfl (.cons (.ren rfl) .nil) rfl rfl rfl rfl rfl (A := .v (.int .i64) x12) rfl (W := [(2, .box [.v (.sl Y_lex_Token) v4, .v (.int .i64) o2_1])]) rfl rfl)) ?_
    obtain ⟨x14, e13, h⟩ := bdS h
    refine Run.go (Ev.w2 (Ev.lendM [(1, 1), (2, 2)] [(1, 1), (2, 2)] en25 (k_askread_reader_wrong_M_2 e13) rfl (.cons (.ren rfl) (.cons (.ren rfl) .nil)) rfl rfl rfl rfl rfl (A := .tup []) rfl (W := [(1, .box [.box 2 0, .v (.int .i64) x14, .v (.int .i64) o1_2]), (2, .box [.v (.sl Y_lex_Token) v4, .v (.int .i64) o2_1])]) rfl rfl)) ?_
    refine Run.nil ?_
    refine T.seq ?_
    refine T.region ?_
    refine Run.go (Ev.assign rfl rfl) ?_
    refine Run.nil ?_
    refine T.ret ?_
    cases h
    cases hz1
    exact FinM.of 100000 [(1, 1), (2, 2)] (inlR.one' (X := X) rfl (.tmp rfl)) rfl rfl rfl rfl ⟨(.inl ⟨rfl, _, rfl, .box, fun _ => rfl⟩), (.inl ⟨rfl, _, rfl, .box, fun _ => rfl⟩), trivial⟩
end Go.Proofs.YtboghejfmmigkaaGreatDoor.AE
/- The code comes to the printed functions (printed by a program of ours). -/
namespace Go.Proofs.YtboghejfmmigkaaGreatDoor.AE
open Go Go.RowKit Go.Proofs.YtboghejfmmigkaaGreatDoor.AP
set_option linter.unusedVariables false
set_option maxRecDepth 20000
theorem en90 : Enters Tryz.prog 90 := ⟨_, Tryz.func90, rfl, rfl⟩
theorem k_name_letter {p0 : Int} {y : Bool} (h : m_name_letter p0 = some y) : Spec Tryz.prog 90 [(.v (.int .i32) p0)] (.v .bool y) [] := by
  rw [m_name_letter] at h
  refine enterN [(.v (.int .i32) p0)] 9 Tryz.func90 rfl rfl rfl ?_
  refine T.seq ?_
  refine T.region ?_
  refine Run.go (Ev.assign rfl rfl) ?_
  refine Run.nil ?_
  refine T.seq ?_
  refine T.region ?_
  refine Run.go (Ev.move rfl rfl) ?_
  refine Run.go (Ev.int rfl rfl rfl rfl trivial) ?_
  refine Run.go (Ev.move rfl rfl) ?_
  rcases boolCases (decide (97 ≤ p0)) with hb1 | hb1
  · replace h := ifT hb1 h
    refine Run.on rfl rfl rfl hb1 (Ev.move rfl rfl) ?_
    refine Run.on rfl rfl rfl hb1 (Ev.int rfl rfl rfl rfl trivial) ?_
    refine Run.go (Ev.pickT rfl hb1 rfl rfl) ?_
    refine Run.go (Ev.assign rfl rfl) ?_
    refine Run.nil ?_
    refine T.ret ?_
    cases h
    exact Fin.one rfl .v
  · replace h := ifF hb1 h
    refine Run.offT rfl rfl rfl rfl hb1 ?_
    refine Run.offT rfl rfl rfl rfl hb1 ?_
    refine Run.go (Ev.pickF rfl hb1 rfl rfl) ?_
    refine Run.go (Ev.assign rfl rfl) ?_
    refine Run.nil ?_
    refine T.ret ?_
    cases h
    exact Fin.one rfl .v
theorem en91 : Enters Tryz.prog 91 := ⟨_, Tryz.func91, rfl, rfl⟩
theorem k_name_other {p0 : Int} {y : Bool} (h : m_name_other p0 = some y) : Spec Tryz.prog 91 [(.v (.int .i32) p0)] (.v .bool y) [] := by
  rw [m_name_other] at h
  refine enterN [(.v (.int .i32) p0)] 17 Tryz.func91 rfl rfl rfl ?_
  refine T.seq ?_
  refine T.region ?_
  refine Run.go (Ev.assign rfl rfl) ?_
  refine Run.nil ?_
  refine T.seq ?_
  refine T.region ?_
  refine Run.go (Ev.move rfl rfl) ?_
  refine Run.go (Ev.int rfl rfl rfl rfl trivial) ?_
  refine Run.go (Ev.move rfl rfl) ?_
  rcases boolCases (decide (48 ≤ p0)) with hb1 | hb1
  · replace h := ifT hb1 h
    refine Run.on rfl rfl rfl hb1 (Ev.move rfl rfl) ?_
    refine Run.on rfl rfl rfl hb1 (Ev.int rfl rfl rfl rfl trivial) ?_
    refine Run.go (Ev.pickT rfl hb1 rfl rfl) ?_
    refine Run.go (Ev.move rfl rfl) ?_
    rcases boolCases (decide (p0 ≤ 57)) with hb2 | hb2
    · replace h := ifT hb2 h
      refine Run.offT rfl rfl rfl rfl hb2 ?_
      refine Run.offT rfl rfl rfl rfl hb2 ?_
      refine Run.go (Ev.pickT rfl hb2 rfl rfl) ?_
      refine Run.go (Ev.move rfl rfl) ?_
      refine Run.offT rfl rfl rfl rfl rfl ?_
      refine Run.offT rfl rfl rfl rfl rfl ?_
      refine Run.go (Ev.pickT rfl rfl rfl rfl) ?_
      refine Run.go (Ev.assign rfl rfl) ?_
      refine Run.nil ?_
      refine T.ret ?_
      cases h
      exact Fin.one rfl .v
    · replace h := ifF hb2 h
      refine Run.on rfl rfl rfl hb2 (Ev.move rfl rfl) ?_
      refine Run.on rfl rfl rfl hb2 (Ev.int rfl rfl rfl rfl trivial) ?_
      refine Run.go (Ev.pickF rfl hb2 rfl rfl) ?_
      refine Run.go (Ev.move rfl rfl) ?_
      rcases boolCases (decide (p0 = 45)) with hb3 | hb3
      · replace h := ifT hb3 h
        refine Run.offT rfl rfl rfl rfl hb3 ?_
        refine Run.offT rfl rfl rfl rfl hb3 ?_
        refine Run.go (Ev.pickT rfl hb3 rfl rfl) ?_
        refine Run.go (Ev.assign rfl rfl) ?_
        refine Run.nil ?_
        refine T.ret ?_
        cases h
        exact Fin.one rfl .v
      · replace h := ifF hb3 h
        refine Run.on rfl rfl rfl hb3 (Ev.move rfl rfl) ?_
        refine Run.on rfl rfl rfl hb3 (Ev.int rfl rfl rfl rfl trivial) ?_
        refine Run.go (Ev.pickF rfl hb3 rfl rfl) ?_
        refine Run.go (Ev.assign rfl rfl) ?_
        refine Run.nil ?_
        refine T.ret ?_
        cases h
        exact Fin.one rfl .v
  · replace h := ifF hb1 h
    refine Run.offT rfl rfl rfl rfl hb1 ?_
    refine Run.offT rfl rfl rfl rfl hb1 ?_
    refine Run.go (Ev.pickF rfl hb1 rfl rfl) ?_
    refine Run.go (Ev.move rfl rfl) ?_
    refine Run.on rfl rfl rfl rfl (Ev.move rfl rfl) ?_
    refine Run.on rfl rfl rfl rfl (Ev.int rfl rfl rfl rfl trivial) ?_
    refine Run.go (Ev.pickF rfl rfl rfl rfl) ?_
    refine Run.go (Ev.move rfl rfl) ?_
    rcases boolCases (decide (p0 = 45)) with hb4 | hb4
    · replace h := ifT hb4 h
      refine Run.offT rfl rfl rfl rfl hb4 ?_
      refine Run.offT rfl rfl rfl rfl hb4 ?_
      refine Run.go (Ev.pickT rfl hb4 rfl rfl) ?_
      refine Run.go (Ev.assign rfl rfl) ?_
      refine Run.nil ?_
      refine T.ret ?_
      cases h
      exact Fin.one rfl .v
    · replace h := ifF hb4 h
      refine Run.on rfl rfl rfl hb4 (Ev.move rfl rfl) ?_
      refine Run.on rfl rfl rfl hb4 (Ev.int rfl rfl rfl rfl trivial) ?_
      refine Run.go (Ev.pickF rfl hb4 rfl rfl) ?_
      refine Run.go (Ev.assign rfl rfl) ?_
      refine Run.nil ?_
      refine T.ret ?_
      cases h
      exact Fin.one rfl .v
theorem en78 : Enters Tryz.prog 78 := ⟨_, Tryz.func78, rfl, rfl⟩
set_option maxHeartbeats 1000000 in
theorem k_name_Word {p0 : ByteArray} {y : Bool} (h : m_name_Word p0 = some y) : Spec Tryz.prog 78 [(.v .str p0)] (.v .bool y) [] := by
  rw [m_name_Word] at h
  refine enterN [(.v .str p0)] 25 Tryz.func78 rfl rfl rfl ?_
  refine T.seq ?_
  refine T.region ?_
  refine Run.go (Ev.assign rfl rfl) ?_
  refine Run.nil ?_
  refine T.seq ?_
  refine T.seq ?_
  refine T.region ?_
  refine Run.go (Ev.move rfl rfl) ?_
  refine Run.go (Ev.e_range X 1 rfl rfl rfl rfl) ?_
  refine Run.nil ?_
  refine T.block ?_
  refine T.loop (LoopT.ghost (Ghost.only [(1, 1)] [0, 6] rfl) (LoopT.run (fun q : Nat => (⟨[(0, .v .str p0), (6, .it 1)], [(1, .siter p0 q)], 25⟩ : St)) (fun v1 z1 h hz1 => ?_) h))
  rw [m_name_Word_l1] at h
  refine T.seq ?_
  refine T.region ?_
  rcases boolCases (decide (v1 < p0.size)) with hb2 | hb2
  · replace h := ifT hb2 h
    refine Run.go (Ev.e_nextT hb2 rfl rfl rfl) ?_
    refine Run.go (Ev.extract rfl rfl rfl) ?_
    refine Run.nil ?_
    refine T.seq ?_
    refine T.condT rfl rfl ?_
    refine T.skip ?_
    refine T.block ?_
    refine T.seq ?_
    refine T.region ?_
    refine Run.go (Ev.extract rfl rfl rfl) ?_
    refine Run.go (Ev.extract rfl rfl rfl) ?_
    refine Run.go (Ev.assign rfl rfl) ?_
    refine Run.go (Ev.assign rfl rfl) ?_
    refine Run.nil ?_
    obtain ⟨⟨v3, v4⟩, hv, h⟩ := bdS h
    refine T.cut (fun _ : Unit => (⟨[(0, .v .str p0), (6, .it 1), (22, .v .bool v3)], [(1, .siter p0 v4)], 25⟩ : St)) (fun _ => True) ?_ (fun _ _ => ?_)
    · replace h := hv
      clear hv
      refine T.region ?_
      refine Run.go (Ev.move rfl rfl) ?_
      obtain ⟨x5, e6, h⟩ := bdS h
      refine Run.go (Ev.callC en90 (k_name_letter e6) rfl (.cons .v .nil) rfl rfl) ?_
      refine Run.go (Ev.not rfl rfl) ?_
      refine Run.go (Ev.move rfl rfl) ?_
      rcases boolCases (!x5) with hb7 | hb7
      · replace h := ifT hb7 h
        refine Run.on rfl rfl rfl hb7 (Ev.move rfl rfl) ?_
        refine Run.on rfl rfl rfl hb7 (Ev.int rfl rfl rfl rfl trivial) ?_
        refine Run.on rfl rfl rfl hb7 (Ev.move rfl rfl) ?_
        rcases boolCases (decide ((v1 : Int) = 0)) with hb8 | hb8
        · replace h := ifT hb8 h
          refine Run.offT rfl rfl rfl rfl hb8 ?_
          refine Run.offT rfl rfl rfl rfl hb8 ?_
          refine Run.offT rfl rfl rfl rfl hb8 ?_
          refine Run.on rfl rfl rfl hb7 (Ev.pickT rfl hb8 rfl rfl) ?_
          refine Run.go (Ev.pickT rfl hb7 rfl rfl) ?_
          refine Run.nil ?_
          cases h
          exact ⟨(), trivial, Ghost.only [(1, 1)] [0, 6, 22] rfl⟩
        · replace h := ifF hb8 h
          refine Run.on rfl rfl rfl hb8 (Ev.move rfl rfl) ?_
          obtain ⟨x9, e10, h⟩ := bdS h
          refine Run.on rfl rfl rfl hb8 (Ev.callC en91 (k_name_other e10) rfl (.cons .v .nil) rfl rfl) ?_
          refine Run.on rfl rfl rfl hb8 (Ev.not rfl rfl) ?_
          refine Run.on rfl rfl rfl hb7 (Ev.pickF rfl hb8 rfl rfl) ?_
          refine Run.go (Ev.pickT rfl hb7 rfl rfl) ?_
          refine Run.nil ?_
          cases h
          exact ⟨(), trivial, Ghost.only [(1, 1)] [0, 6, 22] rfl⟩
      · replace h := ifF hb7 h
        refine Run.offT rfl rfl rfl rfl hb7 ?_
        refine Run.offT rfl rfl rfl rfl hb7 ?_
        refine Run.offT rfl rfl rfl rfl hb7 ?_
        refine Run.un rfl rfl rfl ?_
        refine Run.un rfl rfl rfl ?_
        refine Run.un rfl rfl rfl ?_
        refine Run.offT rfl rfl rfl rfl hb7 ?_
        refine Run.go (Ev.pickF rfl hb7 rfl rfl) ?_
        refine Run.nil ?_
        cases h
        exact ⟨(), trivial, Ghost.only [(1, 1)] [0, 6, 22] rfl⟩
    · refine T.cond rfl (fun hb11 => ?_) (fun hb11 => ?_)
      · replace h := ifT hb11 h
        refine T.seq ?_
        refine T.region ?_
        refine Run.go (Ev.assign rfl rfl) ?_
        refine Run.nil ?_
        refine T.ret ?_
        cases h
        cases hz1
        exact Fin.one rfl .v
      · replace h := ifF hb11 h
        refine T.skip ?_
        cases h
        exact LoopT.ghost (Ghost.only [(1, 1)] [0, 6] rfl) hz1
  · replace h := ifF hb2 h
    refine Run.go (Ev.e_nextF hb2 rfl rfl rfl) ?_
    refine Run.go (Ev.extract rfl rfl rfl) ?_
    refine Run.nil ?_
    refine T.seq ?_
    refine T.condF rfl rfl ?_
    refine T.exit ?_
    refine T.seq ?_
    refine T.region ?_
    refine Run.go (Ev.move rfl rfl) ?_
    refine Run.go (Ev.strs rfl rfl rfl rfl trivial) ?_
    refine Run.go (Ev.assign rfl rfl) ?_
    refine Run.nil ?_
    refine T.ret ?_
    cases h
    cases hz1
    exact Fin.one rfl .v
theorem en93 : Enters Tryz.prog 93 := ⟨_, Tryz.func93, rfl, rfl⟩
theorem k_name_Keywords  {y : (List ByteArray)} (h : m_name_Keywords  = some y) : Spec Tryz.prog 93 [] (.v (.sl .str) y) [] := by
  rw [m_name_Keywords] at h
  refine enterN [] 2 Tryz.func93 rfl rfl rfl ?_
  refine T.seq ?_
  refine T.region ?_
  refine Run.go (Ev.assign rfl rfl) ?_
  refine Run.nil ?_
  refine T.seq ?_
  refine T.region ?_
  refine Run.go (Ev.build X 1 rfl rfl rfl rfl rfl rfl rfl rfl) ?_
  refine Run.go (Ev.assign rfl rfl) ?_
  refine Run.nil ?_
  refine T.ret ?_
  cases h
  exact Fin.one rfl (.own rfl)
theorem en107 : Enters Tryz.prog 107 := ⟨_, Tryz.func107, rfl, rfl⟩
theorem k_slices_Index_string_string {p0 : (List ByteArray)} {p1 : ByteArray} {y : Int} (h : m_slices_Index_string_string p0 p1 = some y) : Spec Tryz.prog 107 [(.v (.sl .str) p0), (.v .str p1)] (.v (.int .i64) y) [] := by
  rw [m_slices_Index_string_string] at h
  refine enterN [(.v (.sl .str) p0), (.v .str p1)] 19 Tryz.func107 rfl rfl rfl ?_
  refine T.seq ?_
  refine T.region ?_
  refine Run.go (Ev.assign rfl rfl) ?_
  refine Run.nil ?_
  refine T.seq ?_
  refine T.seq ?_
  refine T.region ?_
  refine Run.go (Ev.move rfl rfl) ?_
  refine Run.go (Ev.len X rfl rfl rfl rfl) ?_
  refine Run.go (Ev.move rfl rfl) ?_
  refine Run.nil ?_
  refine T.block ?_
  refine T.loop (LoopT.ghost (Ghost.only [] [0, 1, 7, 8] rfl) (LoopT.run (fun q : Int => (⟨[(0, .v (.sl .str) p0), (1, .v .str p1), (7, .v (.int .i64) ((p0.length : Int) : Int)), (8, .v (.int .i64) q)], [], 19⟩ : St)) (fun v1 z1 h hz1 => ?_) h))
  rw [m_slices_Index_string_string_l1] at h
  refine T.seq ?_
  refine T.region ?_
  refine Run.go (Ev.int rfl rfl rfl rfl trivial) ?_
  refine Run.nil ?_
  refine T.seq ?_
  refine T.cond rfl (fun hb2 => ?_) (fun hb2 => ?_)
  · replace h := ifT hb2 h
    refine T.skip ?_
    refine T.seq ?_
    refine T.block ?_
    refine T.seq ?_
    refine T.region ?_
    refine Run.go (Ev.move rfl rfl) ?_
    refine Run.go (Ev.assign rfl rfl) ?_
    refine Run.nil ?_
    refine T.seq ?_
    refine T.region ?_
    refine Run.go (Ev.move rfl rfl) ?_
    refine Run.go (Ev.move rfl rfl) ?_
    refine Run.go (Ev.move rfl rfl) ?_
    obtain ⟨x3, e4, h⟩ := bdS h
    refine Run.go (Ev.e_rd X e4 rfl rfl rfl rfl) ?_
    refine Run.go (Ev.load X rfl rfl rfl) ?_
    refine Run.go (Ev.strs rfl rfl rfl rfl trivial) ?_
    refine Run.nil ?_
    refine T.cond rfl (fun hb5 => ?_) (fun hb5 => ?_)
    · replace h := ifT hb5 h
      refine T.seq ?_
      refine T.region ?_
      refine Run.go (Ev.move rfl rfl) ?_
      refine Run.go (Ev.assign rfl rfl) ?_
      refine Run.nil ?_
      refine T.ret ?_
      cases h
      cases hz1
      exact Fin.one rfl .v
    · replace h := ifF hb5 h
      refine T.skip ?_
      refine T.region ?_
      refine Run.go (Ev.int rfl rfl rfl rfl trivial) ?_
      refine Run.go (Ev.move rfl rfl) ?_
      refine Run.nil ?_
      cases h
      exact LoopT.ghost (Ghost.only [] [0, 1, 7, 8] rfl) hz1
  · replace h := ifF hb2 h
    refine T.exit ?_
    refine T.seq ?_
    refine T.region ?_
    refine Run.go (Ev.assign rfl rfl) ?_
    refine Run.nil ?_
    refine T.ret ?_
    cases h
    cases hz1
    exact Fin.one rfl .v
theorem en92 : Enters Tryz.prog 92 := ⟨_, Tryz.func92, rfl, rfl⟩
theorem k_slices_Contains_string_string {p0 : (List ByteArray)} {p1 : ByteArray} {y : Bool} (h : m_slices_Contains_string_string p0 p1 = some y) : Spec Tryz.prog 92 [(.v (.sl .str) p0), (.v .str p1)] (.v .bool y) [] := by
  rw [m_slices_Contains_string_string] at h
  refine enterN [(.v (.sl .str) p0), (.v .str p1)] 9 Tryz.func92 rfl rfl rfl ?_
  refine T.seq ?_
  refine T.region ?_
  refine Run.go (Ev.assign rfl rfl) ?_
  refine Run.nil ?_
  refine T.seq ?_
  refine T.region ?_
  refine Run.go (Ev.move rfl rfl) ?_
  refine Run.go (Ev.move rfl rfl) ?_
  obtain ⟨x1, e2, h⟩ := bdS h
  refine Run.go (Ev.callC en107 (k_slices_Index_string_string e2) rfl (.cons .v (.cons .v .nil)) rfl rfl) ?_
  refine Run.go (Ev.int rfl rfl rfl rfl trivial) ?_
  refine Run.go (Ev.assign rfl rfl) ?_
  refine Run.nil ?_
  refine T.ret ?_
  cases h
  exact Fin.one rfl .v
theorem en79 : Enters Tryz.prog 79 := ⟨_, Tryz.func79, rfl, rfl⟩
theorem k_name_Keyword {p0 : ByteArray} {y : Bool} (h : m_name_Keyword p0 = some y) : Spec Tryz.prog 79 [(.v .str p0)] (.v .bool y) [] := by
  rw [m_name_Keyword] at h
  refine enterN [(.v .str p0)] 6 Tryz.func79 rfl rfl rfl ?_
  refine T.seq ?_
  refine T.region ?_
  refine Run.go (Ev.assign rfl rfl) ?_
  refine Run.nil ?_
  refine T.seq ?_
  refine T.region ?_
  obtain ⟨x1, e2, h⟩ := bdS h
  refine Run.go (Ev.callC en93 (k_name_Keywords e2) rfl .nil rfl rfl) ?_
  refine Run.go (Ev.move rfl rfl) ?_
  obtain ⟨x3, e4, h⟩ := bdS h
  refine Run.go (Ev.callC en92 (k_slices_Contains_string_string e4) rfl (.cons .v (.cons .v .nil)) rfl rfl) ?_
  refine Run.go (Ev.assign rfl rfl) ?_
  refine Run.nil ?_
  refine T.ret ?_
  cases h
  exact Fin.one rfl .v
theorem en63 : Enters Tryz.prog 63 := ⟨_, Tryz.func63, rfl, rfl⟩
theorem k_name_Name {p0 : ByteArray} {y : Bool} (h : m_name_Name p0 = some y) : Spec Tryz.prog 63 [(.v .str p0)] (.v .bool y) [] := by
  rw [m_name_Name] at h
  refine enterN [(.v .str p0)] 10 Tryz.func63 rfl rfl rfl ?_
  refine T.seq ?_
  refine T.region ?_
  refine Run.go (Ev.assign rfl rfl) ?_
  refine Run.nil ?_
  refine T.seq ?_
  refine T.region ?_
  refine Run.go (Ev.move rfl rfl) ?_
  obtain ⟨x1, e2, h⟩ := bdS h
  refine Run.go (Ev.callC en78 (k_name_Word e2) rfl (.cons .v .nil) rfl rfl) ?_
  refine Run.go (Ev.move rfl rfl) ?_
  rcases boolCases x1 with hb3 | hb3
  · replace h := ifT hb3 h
    refine Run.on rfl rfl rfl hb3 (Ev.move rfl rfl) ?_
    obtain ⟨x4, e5, h⟩ := bdS h
    refine Run.on rfl rfl rfl hb3 (Ev.callC en79 (k_name_Keyword e5) rfl (.cons .v .nil) rfl rfl) ?_
    refine Run.on rfl rfl rfl hb3 (Ev.not rfl rfl) ?_
    refine Run.go (Ev.pickT rfl hb3 rfl rfl) ?_
    refine Run.go (Ev.assign rfl rfl) ?_
    refine Run.nil ?_
    refine T.ret ?_
    cases h
    exact Fin.one rfl .v
  · replace h := ifF hb3 h
    refine Run.offT rfl rfl rfl rfl hb3 ?_
    refine Run.offT rfl rfl rfl rfl hb3 ?_
    refine Run.offT rfl rfl rfl rfl hb3 ?_
    refine Run.go (Ev.pickF rfl hb3 rfl rfl) ?_
    refine Run.go (Ev.assign rfl rfl) ?_
    refine Run.nil ?_
    refine T.ret ?_
    cases h
    exact Fin.one rfl .v
theorem en62 : Enters Tryz.prog 62 := ⟨_, Tryz.func62, rfl, rfl⟩
theorem k_lex_Reader_Name_1 {p0 : D_lex_Token} {y : Bool} (h : m_lex_Reader_Name_1 p0 = some y) : Spec Tryz.prog 62 [(.v Y_lex_Token p0)] (.v .bool y) [] := by
  rw [m_lex_Reader_Name_1] at h
  refine enterN [(.v Y_lex_Token p0)] 11 Tryz.func62 rfl rfl rfl ?_
  refine T.seq ?_
  refine T.region ?_
  refine Run.go (Ev.box 1 rfl rfl rfl rfl) ?_
  refine Run.go (Ev.assign rfl rfl) ?_
  refine Run.nil ?_
  refine T.seq ?_
  refine T.region ?_
  refine Run.go (Ev.fieldBox X rfl rfl rfl rfl rfl) ?_
  refine Run.go (Ev.loadCell X rfl rfl rfl rfl rfl rfl) ?_
  refine Run.go (Ev.int rfl rfl rfl rfl trivial) ?_
  refine Run.go (Ev.move rfl rfl) ?_
  rcases boolCases (decide (p0.1 = 1)) with hb1 | hb1
  · replace h := ifT hb1 h
    refine Run.on rfl rfl rfl hb1 (Ev.fieldBox X rfl rfl rfl rfl rfl) ?_
    refine Run.on rfl rfl rfl hb1 (Ev.loadCell X rfl rfl rfl rfl rfl rfl) ?_
    obtain ⟨x2, e3, h⟩ := bdS h
    refine Run.on rfl rfl rfl hb1 (Ev.callC en63 (k_name_Name e3) rfl (.cons .v .nil) rfl rfl) ?_
    refine Run.go (Ev.pickT rfl hb1 rfl rfl) ?_
    refine Run.go (Ev.assign rfl rfl) ?_
    refine Run.nil ?_
    refine T.ret ?_
    cases h
    exact Fin.one rfl .v
  · replace h := ifF hb1 h
    refine Run.offT rfl rfl rfl rfl hb1 ?_
    refine Run.offT rfl rfl rfl rfl hb1 ?_
    refine Run.offT rfl rfl rfl rfl hb1 ?_
    refine Run.go (Ev.pickF rfl hb1 rfl rfl) ?_
    refine Run.go (Ev.assign rfl rfl) ?_
    refine Run.nil ?_
    refine T.ret ?_
    cases h
    exact Fin.one rfl .v
theorem k_lex_Reader_take__lex_Reader_Name_1_M_2 {o1_0 : (List D_lex_Token)} {o1_1 : Int} {y : ByteArray × Bool × (List D_lex_Token)} (h : m_lex_Reader_take__lex_Reader_Name_1_M_2 o1_0 o1_1 = some y) : SpecM Tryz.prog 61 [(.box 1 0), (.fn 62 [])] [(1, .box [.v (.sl Y_lex_Token) o1_0, .v (.int .i64) o1_1])] (.tup [.v .str y.1, .v .bool y.2.1]) [(1, .box [.v (.sl Y_lex_Token) y.2.2, .v (.int .i64) o1_1])] := by
  rw [m_lex_Reader_take__lex_Reader_Name_1_M_2] at h
  refine SpecM.enter 100000 [(.box 1 0), (.fn 62 [])] 36 Tryz.func61 rfl rfl rfl rfl (fun L => ?_)
  refine T.seq ?_
  refine T.region ?_
  refine Run.go (Ev.assign rfl rfl) ?_
  refine Run.go (Ev.assign rfl rfl) ?_
  refine Run.nil ?_
  refine T.seq ?_
  obtain ⟨v1, hv, h⟩ := bdS h
  refine T.cut (fun _ : Unit => (⟨[(0, .box 1 0), (19, .v .bool v1)], [(1, .box [.v (.sl Y_lex_Token) o1_0, .v (.int .i64) o1_1]), (100001, .place 1 (L 1).1 (L 1).2)], 36⟩ : St)) (fun _ => True) ?_ (fun _ _ => ?_)
  · replace h := hv
    clear hv
    refine T.region ?_
    refine Run.go (Ev.move rfl rfl) ?_
    obtain ⟨x3, e2, h⟩ := bdS h
    refine Run.go (Ev.w1 (Ev.lendM [(1, 1)] [(1, 1)] en9 (k_lex_Reader_Done_M_2 e2) rfl (.cons (.ren rfl) .nil) rfl rfl rfl rfl rfl (A := .v .bool (decide ((o1_0.length : Int) = 0) : Bool)) rfl (W := [(1, .box [.v (.sl Y_lex_Token) o1_0, .v (.int .i64) o1_1])]) rfl rfl)) ?_
    refine Run.go (Ev.move rfl rfl) ?_
    rcases boolCases (decide ((o1_0.length : Int) = 0)) with hb4 | hb4
    · replace h := ifT hb4 h
      refine Run.offT rfl rfl rfl rfl hb4 ?_
      refine Run.offT rfl rfl rfl rfl hb4 ?_
      refine Run.offT rfl rfl rfl rfl hb4 ?_
      refine Run.offT rfl rfl rfl rfl hb4 ?_
      refine Run.offT rfl rfl rfl rfl hb4 ?_
      refine Run.offT rfl rfl rfl rfl hb4 ?_
      refine Run.offT rfl rfl rfl rfl hb4 ?_
      refine Run.offT rfl rfl rfl rfl hb4 ?_
      refine Run.offT rfl rfl rfl rfl hb4 ?_
      refine Run.go (Ev.pickT rfl hb4 rfl rfl) ?_
      refine Run.nil ?_
      cases h
      exact ⟨(), trivial, Ghost.only [(1, 1), (100001, 100001)] [0, 19] rfl⟩
    · replace h := ifF hb4 h
      refine Run.on rfl rfl rfl hb4 (Ev.move rfl rfl) ?_
      refine Run.on rfl rfl rfl hb4 (Ev.move rfl rfl) ?_
      refine Run.on rfl rfl rfl hb4 (Ev.e_nc rfl rfl rfl rfl) ?_
      refine Run.on rfl rfl rfl hb4 (Ev.fieldBox X rfl rfl rfl rfl rfl) ?_
      refine Run.on rfl rfl rfl hb4 (Ev.loadCell X rfl rfl rfl rfl rfl rfl) ?_
      obtain ⟨x5, e6, h⟩ := bdS h
      refine Run.on rfl rfl rfl hb4 (Ev.e_rd X e6 rfl rfl rfl rfl) ?_
      refine Run.on rfl rfl rfl hb4 (Ev.load X rfl rfl rfl) ?_
      obtain ⟨x7, e8, h⟩ := bdS h
      refine Run.on rfl rfl rfl hb4 (Ev.callC en62 (k_lex_Reader_Name_1 e8) rfl (.cons .v .nil) rfl rfl) ?_
      refine Run.on rfl rfl rfl hb4 (Ev.not rfl rfl) ?_
      refine Run.go (Ev.pickF rfl hb4 rfl rfl) ?_
      refine Run.nil ?_
      cases h
      exact ⟨(), trivial, Ghost.only [(1, 1), (100001, 100001)] [0, 19] rfl⟩
  · refine T.cond rfl (fun hb9 => ?_) (fun hb9 => ?_)
    · replace h := ifT hb9 h
      refine T.seq ?_
      refine T.region ?_
      refine Run.go (Ev.assign rfl rfl) ?_
      refine Run.go (Ev.assign rfl rfl) ?_
      refine Run.nil ?_
      refine T.ret ?_
      cases h
      exact FinM.of 100000 [(1, 1)] (inlR.many' (X := X) rfl (.cons (.tmp rfl) (.cons (.tmp rfl) .nil)) rfl) rfl rfl rfl rfl ⟨(.inl ⟨rfl, _, rfl, .box, fun _ => rfl⟩), trivial⟩
    · replace h := ifF hb9 h
      refine T.skip ?_
      refine T.seq ?_
      refine T.region ?_
      refine Run.go (Ev.move rfl rfl) ?_
      refine Run.go (Ev.e_nc rfl rfl rfl rfl) ?_
      refine Run.go (Ev.fieldBox X rfl rfl rfl rfl rfl) ?_
      refine Run.go (Ev.loadCell X rfl rfl rfl rfl rfl rfl) ?_
      obtain ⟨x10, e11, h⟩ := bdS h
      refine Run.go (Ev.e_rd X e11 rfl rfl rfl rfl) ?_
      refine Run.go (Ev.load X rfl rfl rfl) ?_
      refine Run.go (Ev.allocN X 4 rfl rfl rfl) ?_
      refine Run.do_ (Ev.storeBox X rfl rfl rfl rfl rfl rfl rfl) ?_
      refine Run.nil ?_
      refine T.seq ?_
      refine T.region ?_
      refine Run.go (Ev.move rfl rfl) ?_
      refine Run.go (Ev.move rfl rfl) ?_
      refine Run.go (Ev.e_nc rfl rfl rfl rfl) ?_
      refine Run.go (Ev.fieldBox X rfl rfl rfl rfl rfl) ?_
      refine Run.go (Ev.loadCell X rfl rfl rfl rfl rfl rfl) ?_
      obtain ⟨x12, e13, h⟩ := bdS h
      refine Run.go (Ev.e_ct X e13 rfl rfl rfl (fun _ _ => cutAt_of rfl) (fun h => by cases h) (fun _ h => by cases h) (fun _ => rfl)) ?_
      refine Run.go (Ev.e_nc rfl rfl rfl rfl) ?_
      refine Run.go (Ev.fieldBox X rfl rfl rfl rfl rfl) ?_
      refine Run.do_ (Ev.storeBox X rfl rfl rfl rfl rfl rfl rfl) ?_
      refine Run.nil ?_
      refine T.seq ?_
      refine T.region ?_
      refine Run.go (Ev.fieldBox X rfl rfl rfl rfl rfl) ?_
      refine Run.go (Ev.loadCell X rfl rfl rfl rfl rfl rfl) ?_
      refine Run.go (Ev.assign rfl rfl) ?_
      refine Run.go (Ev.assign rfl rfl) ?_
      refine Run.nil ?_
      refine T.ret ?_
      cases h
      exact FinM.of 100000 [(1, 1)] (inlR.many' (X := X) rfl (.cons (.tmp rfl) (.cons (.tmp rfl) .nil)) rfl) rfl rfl rfl rfl ⟨(.inl ⟨rfl, _, rfl, .box, fun _ => rfl⟩), trivial⟩
theorem k_lex_Reader_Name_M_2 {o1_0 : (List D_lex_Token)} {o1_1 : Int} {y : ByteArray × Bool × (List D_lex_Token)} (h : m_lex_Reader_Name_M_2 o1_0 o1_1 = some y) : SpecM Tryz.prog 36 [(.box 1 0)] [(1, .box [.v (.sl Y_lex_Token) o1_0, .v (.int .i64) o1_1])] (.tup [.v .str y.1, .v .bool y.2.1]) [(1, .box [.v (.sl Y_lex_Token) y.2.2, .v (.int .i64) o1_1])] := by
  rw [m_lex_Reader_Name_M_2] at h
  refine SpecM.enter 100000 [(.box 1 0)] 8 Tryz.func36 rfl rfl rfl rfl (fun L => ?_)
  refine T.seq ?_
  refine T.region ?_
  refine Run.go (Ev.assign rfl rfl) ?_
  refine Run.go (Ev.assign rfl rfl) ?_
  refine Run.nil ?_
  refine T.seq ?_
  refine T.region ?_
  refine Run.go (Ev.move rfl rfl) ?_
  obtain ⟨x2, e1, h⟩ := bdS h
  refine Run.go (Ev.w1 (Ev.lendM [(1, 1)] [(1, 1)] en61 (k_lex_Reader_take__lex_Reader_Name_1_M_2 e1) rfl (.cons (.ren rfl) (.cons (.ren rfl) .nil)) rfl rfl rfl rfl rfl (A := .tup [.v .str x2.1, .v .bool x2.2.1]) rfl (W := [(1, .box [.v (.sl Y_lex_Token) x2.2.2, .v (.int .i64) o1_1])]) rfl rfl)) ?_
  refine Run.go (Ev.extract rfl rfl rfl) ?_
  refine Run.go (Ev.extract rfl rfl rfl) ?_
  refine Run.go (Ev.assign rfl rfl) ?_
  refine Run.go (Ev.assign rfl rfl) ?_
  refine Run.nil ?_
  refine T.ret ?_
  cases h
  exact FinM.of 100000 [(1, 1)] (inlR.many' (X := X) rfl (.cons (.tmp rfl) (.cons (.tmp rfl) .nil)) rfl) rfl rfl rfl rfl ⟨(.inl ⟨rfl, _, rfl, .box, fun _ => rfl⟩), trivial⟩
theorem k_askread_reader_ident_M_2 {o1_1 : Int} {o1_2 : Int} {o2_0 : (List D_lex_Token)} {o2_1 : Int} {y : ByteArray × Int × (List D_lex_Token)} (h : m_askread_reader_ident_M_2 o1_1 o1_2 o2_0 o2_1 = some y) : SpecM Tryz.prog 16 [(.box 1 0)] [(1, .box [.box 2 0, .v (.int .i64) o1_1, .v (.int .i64) o1_2]), (2, .box [.v (.sl Y_lex_Token) o2_0, .v (.int .i64) o2_1])] (.v .str y.1) [(1, .box [.box 2 0, .v (.int .i64) y.2.1, .v (.int .i64) o1_2]), (2, .box [.v (.sl Y_lex_Token) y.2.2, .v (.int .i64) o2_1])] := by
  rw [m_askread_reader_ident_M_2] at h
  refine SpecM.enter 100000 [(.box 1 0)] 30 Tryz.func16 rfl rfl rfl rfl (fun L => ?_)
  refine T.seq ?_
  refine T.region ?_
  refine Run.go (Ev.assign rfl rfl) ?_
  refine Run.nil ?_
  refine T.seq ?_
  refine T.region ?_
  refine Run.go (Ev.move rfl rfl) ?_
  refine Run.go (Ev.e_nc rfl rfl rfl rfl) ?_
  refine Run.go (Ev.fieldBoxN fo34_0 sz29 rfl rfl rfl rfl) ?_
  refine Run.go (Ev.loadOne sz29 rfl rfl rfl rfl) ?_
  obtain ⟨x2, e1, h⟩ := bdS h
  refine Run.go (Ev.w1 (Ev.lendM [(2, 1)] [(1, 2)] en23 (k_lex_Reader_Line_M_2 e1) rfl (.cons (.ren rfl) .nil) rfl rfl rfl rfl rfl (A := .v (.int .i64) x2) rfl (W := [(2, .box [.v (.sl Y_lex_Token) o2_0, .v (.int .i64) o2_1])]) rfl rfl)) ?_
  refine Run.go (Ev.assign rfl rfl) ?_
  refine Run.nil ?_
  refine T.seq ?_
  refine T.seq ?_
  refine T.region ?_
  refine Run.go (Ev.move rfl rfl) ?_
  refine Run.go (Ev.e_nc rfl rfl rfl rfl) ?_
  refine Run.go (Ev.fieldBoxN fo34_1 sz3 rfl rfl rfl rfl) ?_
  refine Run.go (Ev.loadCell X rfl rfl rfl rfl rfl rfl) ?_
  refine Run.go (Ev.int rfl rfl rfl rfl trivial) ?_
  refine Run.nil ?_
  refine T.cond rfl (fun hb3 => ?_) (fun hb3 => ?_)
  · replace h := ifT hb3 h
    refine T.seq ?_
    refine T.region ?_
    refine Run.go (Ev.assign rfl rfl) ?_
    refine Run.nil ?_
    refine T.ret ?_
    cases h
    exact FinM.of 100000 [(1, 1), (2, 2)] (inlR.one' (X := X) rfl (.tmp rfl)) rfl rfl rfl rfl ⟨(.inl ⟨rfl, _, rfl, .box, fun _ => rfl⟩), (.inl ⟨rfl, _, rfl, .box, fun _ => rfl⟩), trivial⟩
  · replace h := ifF hb3 h
    refine T.skip ?_
    refine T.seq ?_
    refine T.region ?_
    refine Run.go (Ev.move rfl rfl) ?_
    refine Run.go (Ev.e_nc rfl rfl rfl rfl) ?_
    refine Run.go (Ev.fieldBoxN fo34_0 sz29 rfl rfl rfl rfl) ?_
    refine Run.go (Ev.loadOne sz29 rfl rfl rfl rfl) ?_
    obtain ⟨x5, e4, h⟩ := bdS h
    refine Run.go (Ev.w1 (Ev.lendM [(2, 1)] [(1, 2)] en36 (k_lex_Reader_Name_M_2 e4) rfl (.cons (.ren rfl) .nil) rfl rfl rfl rfl rfl (A := .tup [.v .str x5.1, .v .bool x5.2.1]) rfl (W := [(2, .box [.v (.sl Y_lex_Token) x5.2.2, .v (.int .i64) o2_1])]) rfl rfl)) ?_
    refine Run.go (Ev.move rfl rfl) ?_
    refine Run.go (Ev.extract rfl rfl rfl) ?_
    refine Run.go (Ev.extract rfl rfl rfl) ?_
    refine Run.go (Ev.assign rfl rfl) ?_
    refine Run.go (Ev.assign rfl rfl) ?_
    refine Run.nil ?_
    obtain ⟨v6, hv, h⟩ := bdS h
    refine T.cut (fun _ : Unit => (⟨[(4, .v .str x5.1)], [(1, .box [.box 2 0, .v (.int .i64) v6, .v (.int .i64) o1_2]), (2, .box [.v (.sl Y_lex_Token) x5.2.2, .v (.int .i64) o2_1]), (100001, .place 1 (L 1).1 (L 1).2), (100002, .place 2 (L 2).1 (L 2).2)], 30⟩ : St)) (fun _ => True) ?_ (fun _ _ => ?_)
    · replace h := hv
      clear hv
      refine T.seq ?_
      refine T.region ?_
      refine Run.go (Ev.move rfl rfl) ?_
      refine Run.go (Ev.not rfl rfl) ?_
      refine Run.nil ?_
      refine T.cond rfl (fun hb7 => ?_) (fun hb7 => ?_)
      · replace h := ifT hb7 h
        refine T.region ?_
        refine Run.go (Ev.move rfl rfl) ?_
        refine Run.go (Ev.move rfl rfl) ?_
        obtain ⟨x9, e8, h⟩ := bdS h
        refine Run.go (Ev.w2 (Ev.lendM [(1, 1), (2, 2)] [(1, 1), (2, 2)] en25 (k_askread_reader_wrong_M_2 e8) rfl (.cons (.ren rfl) (.cons (.ren rfl) .nil)) rfl rfl rfl rfl rfl (A := .tup []) rfl (W := [(1, .box [.box 2 0, .v (.int .i64) x9, .v (.int .i64) o1_2]), (2, .box [.v (.sl Y_lex_Token) x5.2.2, .v (.int .i64) o2_1])]) rfl rfl)) ?_
        refine Run.nil ?_
        cases h
        exact ⟨(), trivial, Ghost.only [(1, 1), (2, 2), (100001, 100001), (100002, 100002)] [4] rfl⟩
      · replace h := ifF hb7 h
        refine T.skip ?_
        cases h
        exact ⟨(), trivial, Ghost.only [(1, 1), (2, 2), (100001, 100001), (100002, 100002)] [4] rfl⟩
    · refine T.seq ?_
      refine T.region ?_
      refine Run.go (Ev.move rfl rfl) ?_
      refine Run.go (Ev.assign rfl rfl) ?_
      refine Run.nil ?_
      refine T.ret ?_
      cases h
      exact FinM.of 100000 [(1, 1), (2, 2)] (inlR.one' (X := X) rfl (.tmp rfl)) rfl rfl rfl rfl ⟨(.inl ⟨rfl, _, rfl, .box, fun _ => rfl⟩), (.inl ⟨rfl, _, rfl, .box, fun _ => rfl⟩), trivial⟩
theorem en64 : Enters Tryz.prog 64 := ⟨_, Tryz.func64, rfl, rfl⟩
theorem k_lex_Reader_Figure_1 {p0 : D_lex_Token} {y : Bool} (h : m_lex_Reader_Figure_1 p0 = some y) : Spec Tryz.prog 64 [(.v Y_lex_Token p0)] (.v .bool y) [] := by
  rw [m_lex_Reader_Figure_1] at h
  refine enterN [(.v Y_lex_Token p0)] 6 Tryz.func64 rfl rfl rfl ?_
  refine T.seq ?_
  refine T.region ?_
  refine Run.go (Ev.box 1 rfl rfl rfl rfl) ?_
  refine Run.go (Ev.assign rfl rfl) ?_
  refine Run.nil ?_
  refine T.seq ?_
  refine T.region ?_
  refine Run.go (Ev.fieldBox X rfl rfl rfl rfl rfl) ?_
  refine Run.go (Ev.loadCell X rfl rfl rfl rfl rfl rfl) ?_
  refine Run.go (Ev.int rfl rfl rfl rfl trivial) ?_
  refine Run.go (Ev.assign rfl rfl) ?_
  refine Run.nil ?_
  refine T.ret ?_
  cases h
  exact Fin.one rfl .v
theorem k_lex_Reader_take__lex_Reader_Figure_1_M_2 {o1_0 : (List D_lex_Token)} {o1_1 : Int} {y : ByteArray × Bool × (List D_lex_Token)} (h : m_lex_Reader_take__lex_Reader_Figure_1_M_2 o1_0 o1_1 = some y) : SpecM Tryz.prog 61 [(.box 1 0), (.fn 64 [])] [(1, .box [.v (.sl Y_lex_Token) o1_0, .v (.int .i64) o1_1])] (.tup [.v .str y.1, .v .bool y.2.1]) [(1, .box [.v (.sl Y_lex_Token) y.2.2, .v (.int .i64) o1_1])] := by
  rw [m_lex_Reader_take__lex_Reader_Figure_1_M_2] at h
  refine SpecM.enter 100000 [(.box 1 0), (.fn 64 [])] 36 Tryz.func61 rfl rfl rfl rfl (fun L => ?_)
  refine T.seq ?_
  refine T.region ?_
  refine Run.go (Ev.assign rfl rfl) ?_
  refine Run.go (Ev.assign rfl rfl) ?_
  refine Run.nil ?_
  refine T.seq ?_
  obtain ⟨v1, hv, h⟩ := bdS h
  refine T.cut (fun _ : Unit => (⟨[(0, .box 1 0), (19, .v .bool v1)], [(1, .box [.v (.sl Y_lex_Token) o1_0, .v (.int .i64) o1_1]), (100001, .place 1 (L 1).1 (L 1).2)], 36⟩ : St)) (fun _ => True) ?_ (fun _ _ => ?_)
  · replace h := hv
    clear hv
    refine T.region ?_
    refine Run.go (Ev.move rfl rfl) ?_
    obtain ⟨x3, e2, h⟩ := bdS h
    refine Run.go (Ev.w1 (Ev.lendM [(1, 1)] [(1, 1)] en9 (k_lex_Reader_Done_M_2 e2) rfl (.cons (.ren rfl) .nil) rfl rfl rfl rfl rfl (A := .v .bool (decide ((o1_0.length : Int) = 0) : Bool)) rfl (W := [(1, .box [.v (.sl Y_lex_Token) o1_0, .v (.int .i64) o1_1])]) rfl rfl)) ?_
    refine Run.go (Ev.move rfl rfl) ?_
    rcases boolCases (decide ((o1_0.length : Int) = 0)) with hb4 | hb4
    · replace h := ifT hb4 h
      refine Run.offT rfl rfl rfl rfl hb4 ?_
      refine Run.offT rfl rfl rfl rfl hb4 ?_
      refine Run.offT rfl rfl rfl rfl hb4 ?_
      refine Run.offT rfl rfl rfl rfl hb4 ?_
      refine Run.offT rfl rfl rfl rfl hb4 ?_
      refine Run.offT rfl rfl rfl rfl hb4 ?_
      refine Run.offT rfl rfl rfl rfl hb4 ?_
      refine Run.offT rfl rfl rfl rfl hb4 ?_
      refine Run.offT rfl rfl rfl rfl hb4 ?_
      refine Run.go (Ev.pickT rfl hb4 rfl rfl) ?_
      refine Run.nil ?_
      cases h
      exact ⟨(), trivial, Ghost.only [(1, 1), (100001, 100001)] [0, 19] rfl⟩
    · replace h := ifF hb4 h
      refine Run.on rfl rfl rfl hb4 (Ev.move rfl rfl) ?_
      refine Run.on rfl rfl rfl hb4 (Ev.move rfl rfl) ?_
      refine Run.on rfl rfl rfl hb4 (Ev.e_nc rfl rfl rfl rfl) ?_
      refine Run.on rfl rfl rfl hb4 (Ev.fieldBox X rfl rfl rfl rfl rfl) ?_
      refine Run.on rfl rfl rfl hb4 (Ev.loadCell X rfl rfl rfl rfl rfl rfl) ?_
      obtain ⟨x5, e6, h⟩ := bdS h
      refine Run.on rfl rfl rfl hb4 (Ev.e_rd X e6 rfl rfl rfl rfl) ?_
      refine Run.on rfl rfl rfl hb4 (Ev.load X rfl rfl rfl) ?_
      obtain ⟨x7, e8, h⟩ := bdS h
      refine Run.on rfl rfl rfl hb4 (Ev.callC en64 (k_lex_Reader_Figure_1 e8) rfl (.cons .v .nil) rfl rfl) ?_
      refine Run.on rfl rfl rfl hb4 (Ev.not rfl rfl) ?_
      refine Run.go (Ev.pickF rfl hb4 rfl rfl) ?_
      refine Run.nil ?_
      cases h
      exact ⟨(), trivial, Ghost.only [(1, 1), (100001, 100001)] [0, 19] rfl⟩
  · refine T.cond rfl (fun hb9 => ?_) (fun hb9 => ?_)
    · replace h := ifT hb9 h
      refine T.seq ?_
      refine T.region ?_
      refine Run.go (Ev.assign rfl rfl) ?_
      refine Run.go (Ev.assign rfl rfl) ?_
      refine Run.nil ?_
      refine T.ret ?_
      cases h
      exact FinM.of 100000 [(1, 1)] (inlR.many' (X := X) rfl (.cons (.tmp rfl) (.cons (.tmp rfl) .nil)) rfl) rfl rfl rfl rfl ⟨(.inl ⟨rfl, _, rfl, .box, fun _ => rfl⟩), trivial⟩
    · replace h := ifF hb9 h
      refine T.skip ?_
      refine T.seq ?_
      refine T.region ?_
      refine Run.go (Ev.move rfl rfl) ?_
      refine Run.go (Ev.e_nc rfl rfl rfl rfl) ?_
      refine Run.go (Ev.fieldBox X rfl rfl rfl rfl rfl) ?_
      refine Run.go (Ev.loadCell X rfl rfl rfl rfl rfl rfl) ?_
      obtain ⟨x10, e11, h⟩ := bdS h
      refine Run.go (Ev.e_rd X e11 rfl rfl rfl rfl) ?_
      refine Run.go (Ev.load X rfl rfl rfl) ?_
      refine Run.go (Ev.allocN X 4 rfl rfl rfl) ?_
      refine Run.do_ (Ev.storeBox X rfl rfl rfl rfl rfl rfl rfl) ?_
      refine Run.nil ?_
      refine T.seq ?_
      refine T.region ?_
      refine Run.go (Ev.move rfl rfl) ?_
      refine Run.go (Ev.move rfl rfl) ?_
      refine Run.go (Ev.e_nc rfl rfl rfl rfl) ?_
      refine Run.go (Ev.fieldBox X rfl rfl rfl rfl rfl) ?_
      refine Run.go (Ev.loadCell X rfl rfl rfl rfl rfl rfl) ?_
      obtain ⟨x12, e13, h⟩ := bdS h
      refine Run.go (Ev.e_ct X e13 rfl rfl rfl (fun _ _ => cutAt_of rfl) (fun h => by cases h) (fun _ h => by cases h) (fun _ => rfl)) ?_
      refine Run.go (Ev.e_nc rfl rfl rfl rfl) ?_
      refine Run.go (Ev.fieldBox X rfl rfl rfl rfl rfl) ?_
      refine Run.do_ (Ev.storeBox X rfl rfl rfl rfl rfl rfl rfl) ?_
      refine Run.nil ?_
      refine T.seq ?_
      refine T.region ?_
      refine Run.go (Ev.fieldBox X rfl rfl rfl rfl rfl) ?_
      refine Run.go (Ev.loadCell X rfl rfl rfl rfl rfl rfl) ?_
      refine Run.go (Ev.assign rfl rfl) ?_
      refine Run.go (Ev.assign rfl rfl) ?_
      refine Run.nil ?_
      refine T.ret ?_
      cases h
      exact FinM.of 100000 [(1, 1)] (inlR.many' (X := X) rfl (.cons (.tmp rfl) (.cons (.tmp rfl) .nil)) rfl) rfl rfl rfl rfl ⟨(.inl ⟨rfl, _, rfl, .box, fun _ => rfl⟩), trivial⟩
theorem k_lex_Reader_Figure_M_2 {o1_0 : (List D_lex_Token)} {o1_1 : Int} {y : ByteArray × Bool × (List D_lex_Token)} (h : m_lex_Reader_Figure_M_2 o1_0 o1_1 = some y) : SpecM Tryz.prog 37 [(.box 1 0)] [(1, .box [.v (.sl Y_lex_Token) o1_0, .v (.int .i64) o1_1])] (.tup [.v .str y.1, .v .bool y.2.1]) [(1, .box [.v (.sl Y_lex_Token) y.2.2, .v (.int .i64) o1_1])] := by
  rw [m_lex_Reader_Figure_M_2] at h
  refine SpecM.enter 100000 [(.box 1 0)] 8 Tryz.func37 rfl rfl rfl rfl (fun L => ?_)
  refine T.seq ?_
  refine T.region ?_
  refine Run.go (Ev.assign rfl rfl) ?_
  refine Run.go (Ev.assign rfl rfl) ?_
  refine Run.nil ?_
  refine T.seq ?_
  refine T.region ?_
  refine Run.go (Ev.move rfl rfl) ?_
  obtain ⟨x2, e1, h⟩ := bdS h
  refine Run.go (Ev.w1 (Ev.lendM [(1, 1)] [(1, 1)] en61 (k_lex_Reader_take__lex_Reader_Figure_1_M_2 e1) rfl (.cons (.ren rfl) (.cons (.ren rfl) .nil)) rfl rfl rfl rfl rfl (A := .tup [.v .str x2.1, .v .bool x2.2.1]) rfl (W := [(1, .box [.v (.sl Y_lex_Token) x2.2.2, .v (.int .i64) o1_1])]) rfl rfl)) ?_
  refine Run.go (Ev.extract rfl rfl rfl) ?_
  refine Run.go (Ev.extract rfl rfl rfl) ?_
  refine Run.go (Ev.assign rfl rfl) ?_
  refine Run.go (Ev.assign rfl rfl) ?_
  refine Run.nil ?_
  refine T.ret ?_
  cases h
  exact FinM.of 100000 [(1, 1)] (inlR.many' (X := X) rfl (.cons (.tmp rfl) (.cons (.tmp rfl) .nil)) rfl) rfl rfl rfl rfl ⟨(.inl ⟨rfl, _, rfl, .box, fun _ => rfl⟩), trivial⟩
theorem k_askread_reader_figure__askread_reader_query_1_M_2 {o1_1 : Int} {o1_2 : Int} {o2_0 : Int} {o2_1 : ByteArray} {o2_2 : ByteArray} {o2_3 : ByteArray} {o2_4 : Int} {o2_5 : Int} {o2_6 : Int} {o2_7 : Int} {o3_0 : (List D_lex_Token)} {o3_1 : Int} {y : Int × Int × Int × Int × Int × (List D_lex_Token)} (h : m_askread_reader_figure__askread_reader_query_1_M_2 o1_1 o1_2 o2_0 o2_1 o2_2 o2_3 o2_4 o2_5 o2_6 o2_7 o3_0 o3_1 = some y) : SpecM Tryz.prog 17 [(.box 1 0), (.fn 18 [(.box 2 0)])] [(1, .box [.box 3 0, .v (.int .i64) o1_1, .v (.int .i64) o1_2]), (2, .box [.v (.int .i64) o2_0, .v .str o2_1, .v .str o2_2, .v .str o2_3, .v (.int .u32) o2_4, .v (.int .u32) o2_5, .v (.int .i64) o2_6, .v (.int .i64) o2_7]), (3, .box [.v (.sl Y_lex_Token) o3_0, .v (.int .i64) o3_1])] (.tup []) [(1, .box [.box 3 0, .v (.int .i64) y.1, .v (.int .i64) y.2.1]), (2, .box [.v (.int .i64) o2_0, .v .str o2_1, .v .str o2_2, .v .str o2_3, .v (.int .u32) y.2.2.1, .v (.int .u32) y.2.2.2.1, .v (.int .i64) y.2.2.2.2.1, .v (.int .i64) o2_7]), (3, .box [.v (.sl Y_lex_Token) y.2.2.2.2.2, .v (.int .i64) o3_1])] := by
  rw [m_askread_reader_figure__askread_reader_query_1_M_2] at h
  refine SpecM.enter 100000 [(.box 1 0), (.fn 18 [(.box 2 0)])] 54 Tryz.func17 rfl rfl rfl rfl (fun L => ?_)
  refine T.seq ?_
  refine T.region ?_
  refine Run.go (Ev.move rfl rfl) ?_
  refine Run.go (Ev.e_nc rfl rfl rfl rfl) ?_
  refine Run.go (Ev.fieldBoxN fo34_0 sz29 rfl rfl rfl rfl) ?_
  refine Run.go (Ev.loadOne sz29 rfl rfl rfl rfl) ?_
  obtain ⟨x2, e1, h⟩ := bdS h
  refine Run.go (Ev.w1 (Ev.lendM [(3, 1)] [(1, 3)] en23 (k_lex_Reader_Line_M_2 e1) rfl (.cons (.ren rfl) .nil) rfl rfl rfl rfl rfl (A := .v (.int .i64) x2) rfl (W := [(3, .box [.v (.sl Y_lex_Token) o3_0, .v (.int .i64) o3_1])]) rfl rfl)) ?_
  refine Run.go (Ev.assign rfl rfl) ?_
  refine Run.nil ?_
  refine T.seq ?_
  refine T.seq ?_
  refine T.region ?_
  refine Run.go (Ev.move rfl rfl) ?_
  refine Run.go (Ev.e_nc rfl rfl rfl rfl) ?_
  refine Run.go (Ev.fieldBoxN fo34_1 sz3 rfl rfl rfl rfl) ?_
  refine Run.go (Ev.loadCell X rfl rfl rfl rfl rfl rfl) ?_
  refine Run.go (Ev.int rfl rfl rfl rfl trivial) ?_
  refine Run.nil ?_
  refine T.cond rfl (fun hb3 => ?_) (fun hb3 => ?_)
  · replace h := ifT hb3 h
    refine T.ret ?_
    cases h
    exact FinM.of 100000 [(1, 1), (2, 2), (3, 3)] (inlR.many' (X := X) rfl .nil rfl) rfl rfl rfl rfl ⟨(.inl ⟨rfl, _, rfl, .box, fun _ => rfl⟩), (.inl ⟨rfl, _, rfl, .box, fun _ => rfl⟩), (.inl ⟨rfl, _, rfl, .box, fun _ => rfl⟩), trivial⟩
  · replace h := ifF hb3 h
    refine T.skip ?_
    refine T.seq ?_
    refine T.region ?_
    refine Run.go (Ev.move rfl rfl) ?_
    refine Run.go (Ev.e_nc rfl rfl rfl rfl) ?_
    refine Run.go (Ev.fieldBoxN fo34_0 sz29 rfl rfl rfl rfl) ?_
    refine Run.go (Ev.loadOne sz29 rfl rfl rfl rfl) ?_
    obtain ⟨x5, e4, h⟩ := bdS h
    refine Run.go (Ev.w1 (Ev.lendM [(3, 1)] [(1, 3)] en37 (k_lex_Reader_Figure_M_2 e4) rfl (.cons (.ren rfl) .nil) rfl rfl rfl rfl rfl (A := .tup [.v .str x5.1, .v .bool x5.2.1]) rfl (W := [(3, .box [.v (.sl Y_lex_Token) x5.2.2, .v (.int .i64) o3_1])]) rfl rfl)) ?_
    refine Run.go (Ev.move rfl rfl) ?_
    refine Run.go (Ev.extract rfl rfl rfl) ?_
    refine Run.go (Ev.extract rfl rfl rfl) ?_
    refine Run.go (Ev.assign rfl rfl) ?_
    refine Run.go (Ev.assign rfl rfl) ?_
    refine Run.nil ?_
    refine T.seq ?_
    refine T.seq ?_
    refine T.region ?_
    refine Run.go (Ev.move rfl rfl) ?_
    refine Run.go (Ev.not rfl rfl) ?_
    refine Run.nil ?_
    refine T.cond rfl (fun hb6 => ?_) (fun hb6 => ?_)
    · replace h := ifT hb6 h
      refine T.seq ?_
      refine T.region ?_
      refine Run.go (Ev.move rfl rfl) ?_
      refine Run.go (Ev.move rfl rfl) ?_
      obtain ⟨x8, e7, h⟩ := bdS h
      refine Run.go (Ev.w2 (Ev.lendM [(1, 1), (3, 2)] [(1, 1), (2, 3)] en25 (k_askread_reader_wrong_M_2 e7) rfl (.cons (.ren rfl) (.cons (.ren rfl) .nil)) rfl rfl rfl rfl rfl (A := .tup []) rfl (W := [(1, .box [.box 3 0, .v (.int .i64) x8, .v (.int .i64) o1_2]), (3, .box [.v (.sl Y_lex_Token) x5.2.2, .v (.int .i64) o3_1])]) rfl rfl)) ?_
      refine Run.nil ?_
      refine T.ret ?_
      cases h
      exact FinM.of 100000 [(1, 1), (2, 2), (3, 3)] (inlR.many' (X := X) rfl .nil rfl) rfl rfl rfl rfl ⟨(.inl ⟨rfl, _, rfl, .box, fun _ => rfl⟩), (.inl ⟨rfl, _, rfl, .box, fun _ => rfl⟩), (.inl ⟨rfl, _, rfl, .box, fun _ => rfl⟩), trivial⟩
    · replace h := ifF hb6 h
      refine T.skip ?_
      refine T.seq ?_
      refine T.region ?_
      refine Run.go (Ev.move rfl rfl) ?_
      refine Run.go (Ev.move rfl rfl) ?_
      obtain ⟨x10, e9, h⟩ := bdS h
      refine Run.go (Ev.w1 (Ev.lendM [(2, 1)] [(1, 2)] en18 (k_askread_reader_query_1_M e9) rfl (.cons (.ren rfl) (.cons (.ren rfl) .nil)) rfl rfl rfl rfl rfl (A := .v (.int .i64) x10.1) rfl (W := [(2, .box [.v (.int .i64) o2_0, .v .str o2_1, .v .str o2_2, .v .str o2_3, .v (.int .u32) x10.2.1, .v (.int .u32) x10.2.2.1, .v (.int .i64) x10.2.2.2, .v (.int .i64) o2_7])]) rfl rfl)) ?_
      refine Run.go (Ev.assign rfl rfl) ?_
      refine Run.nil ?_
      refine T.block ?_
      refine T.seq ?_
      refine T.region ?_
      refine Run.go (Ev.move rfl rfl) ?_
      refine Run.go (Ev.int rfl rfl rfl rfl trivial) ?_
      refine Run.go (Ev.assign rfl rfl) ?_
      refine Run.nil ?_
      refine T.cond rfl (fun hb11 => ?_) (fun hb11 => ?_)
      · replace h := ifT hb11 h
        refine T.region ?_
        refine Run.go (Ev.move rfl rfl) ?_
        refine Run.go (Ev.move rfl rfl) ?_
        obtain ⟨x13, e12, h⟩ := bdS h
        refine Run.go (Ev.w2 (Ev.lendM [(1, 1), (3, 2)] [(1, 1), (2, 3)] en25 (k_askread_reader_wrong_M_2 e12) rfl (.cons (.ren rfl) (.cons (.ren rfl) .nil)) rfl rfl rfl rfl rfl (A := .tup []) rfl (W := [(1, .box [.box 3 0, .v (.int .i64) x13, .v (.int .i64) o1_2]), (3, .box [.v (.sl Y_lex_Token) x5.2.2, .v (.int .i64) o3_1])]) rfl rfl)) ?_
        refine Run.nil ?_
        cases h
        exact FinM.of 100000 [(1, 1), (2, 2), (3, 3)] (inlR.many' (X := X) rfl .nil rfl) rfl rfl rfl rfl ⟨(.inl ⟨rfl, _, rfl, .box, fun _ => rfl⟩), (.inl ⟨rfl, _, rfl, .box, fun _ => rfl⟩), (.inl ⟨rfl, _, rfl, .box, fun _ => rfl⟩), trivial⟩
      · replace h := ifF hb11 h
        obtain ⟨v14, hv, h⟩ := bdS h
        refine T.cut (fun _ : Unit => (⟨[(0, .box 1 0), (4, .v (.int .i64) x2), (40, .v .bool v14)], [(1, .box [.box 3 0, .v (.int .i64) o1_1, .v (.int .i64) o1_2]), (2, .box [.v (.int .i64) o2_0, .v .str o2_1, .v .str o2_2, .v .str o2_3, .v (.int .u32) x10.2.1, .v (.int .u32) x10.2.2.1, .v (.int .i64) x10.2.2.2, .v (.int .i64) o2_7]), (3, .box [.v (.sl Y_lex_Token) x5.2.2, .v (.int .i64) o3_1]), (100001, .place 1 (L 1).1 (L 1).2), (100002, .place 2 (L 2).1 (L 2).2), (100003, .place 3 (L 3).1 (L 3).2)], 54⟩ : St)) (fun _ => True) ?_ (fun _ _ => ?_)
        · replace h := hv
          clear hv
          refine T.region ?_
          refine Run.go (Ev.move rfl rfl) ?_
          refine Run.go (Ev.int rfl rfl rfl rfl trivial) ?_
          refine Run.go (Ev.move rfl rfl) ?_
          rcases boolCases (!decide (x10.1 = 0)) with hb15 | hb15
          · replace h := ifT hb15 h
            refine Run.on rfl rfl rfl hb15 (Ev.move rfl rfl) ?_
            refine Run.on rfl rfl rfl hb15 (Ev.e_nc rfl rfl rfl rfl) ?_
            refine Run.on rfl rfl rfl hb15 (Ev.fieldBoxN fo34_2 sz3 rfl rfl rfl rfl) ?_
            refine Run.on rfl rfl rfl hb15 (Ev.loadCell X rfl rfl rfl rfl rfl rfl) ?_
            refine Run.on rfl rfl rfl hb15 (Ev.int rfl rfl rfl rfl trivial) ?_
            refine Run.go (Ev.pickT rfl hb15 rfl rfl) ?_
            refine Run.go (Ev.assign rfl rfl) ?_
            refine Run.nil ?_
            cases h
            exact ⟨(), trivial, Ghost.only [(1, 1), (2, 2), (3, 3), (100001, 100001), (100002, 100002), (100003, 100003)] [0, 4, 40] rfl⟩
          · replace h := ifF hb15 h
            refine Run.offT rfl rfl rfl rfl hb15 ?_
            refine Run.offT rfl rfl rfl rfl hb15 ?_
            refine Run.offT rfl rfl rfl rfl hb15 ?_
            refine Run.offT rfl rfl rfl rfl hb15 ?_
            refine Run.offT rfl rfl rfl rfl hb15 ?_
            refine Run.go (Ev.pickF rfl hb15 rfl rfl) ?_
            refine Run.go (Ev.assign rfl rfl) ?_
            refine Run.nil ?_
            cases h
            exact ⟨(), trivial, Ghost.only [(1, 1), (2, 2), (3, 3), (100001, 100001), (100002, 100002), (100003, 100003)] [0, 4, 40] rfl⟩
        · refine T.cond rfl (fun hb16 => ?_) (fun hb16 => ?_)
          · replace h := ifT hb16 h
            refine T.region ?_
            refine Run.go (Ev.move rfl rfl) ?_
            refine Run.go (Ev.move rfl rfl) ?_
            refine Run.go (Ev.e_nc rfl rfl rfl rfl) ?_
            refine Run.go (Ev.fieldBoxN fo34_2 sz3 rfl rfl rfl rfl) ?_
            refine Run.do_ (Ev.storeBox X rfl rfl rfl rfl rfl rfl rfl) ?_
            refine Run.nil ?_
            cases h
            exact FinM.of 100000 [(1, 1), (2, 2), (3, 3)] (inlR.many' (X := X) rfl .nil rfl) rfl rfl rfl rfl ⟨(.inl ⟨rfl, _, rfl, .box, fun _ => rfl⟩), (.inl ⟨rfl, _, rfl, .box, fun _ => rfl⟩), (.inl ⟨rfl, _, rfl, .box, fun _ => rfl⟩), trivial⟩
          · replace h := ifF hb16 h
            refine T.skip ?_
            cases h
            exact FinM.of 100000 [(1, 1), (2, 2), (3, 3)] (inlR.many' (X := X) rfl .nil rfl) rfl rfl rfl rfl ⟨(.inl ⟨rfl, _, rfl, .box, fun _ => rfl⟩), (.inl ⟨rfl, _, rfl, .box, fun _ => rfl⟩), (.inl ⟨rfl, _, rfl, .box, fun _ => rfl⟩), trivial⟩
theorem k_askread_reader_figure__askread_reader_query_2_M_2 {o1_1 : Int} {o1_2 : Int} {o2_0 : Int} {o2_1 : ByteArray} {o2_2 : ByteArray} {o2_3 : ByteArray} {o2_4 : Int} {o2_5 : Int} {o2_6 : Int} {o2_7 : Int} {o3_0 : (List D_lex_Token)} {o3_1 : Int} {y : Int × Int × Int × (List D_lex_Token)} (h : m_askread_reader_figure__askread_reader_query_2_M_2 o1_1 o1_2 o2_0 o2_1 o2_2 o2_3 o2_4 o2_5 o2_6 o2_7 o3_0 o3_1 = some y) : SpecM Tryz.prog 17 [(.box 1 0), (.fn 21 [(.box 2 0)])] [(1, .box [.box 3 0, .v (.int .i64) o1_1, .v (.int .i64) o1_2]), (2, .box [.v (.int .i64) o2_0, .v .str o2_1, .v .str o2_2, .v .str o2_3, .v (.int .u32) o2_4, .v (.int .u32) o2_5, .v (.int .i64) o2_6, .v (.int .i64) o2_7]), (3, .box [.v (.sl Y_lex_Token) o3_0, .v (.int .i64) o3_1])] (.tup []) [(1, .box [.box 3 0, .v (.int .i64) y.1, .v (.int .i64) y.2.1]), (2, .box [.v (.int .i64) o2_0, .v .str o2_1, .v .str o2_2, .v .str o2_3, .v (.int .u32) o2_4, .v (.int .u32) o2_5, .v (.int .i64) o2_6, .v (.int .i64) y.2.2.1]), (3, .box [.v (.sl Y_lex_Token) y.2.2.2, .v (.int .i64) o3_1])] := by
  rw [m_askread_reader_figure__askread_reader_query_2_M_2] at h
  refine SpecM.enter 100000 [(.box 1 0), (.fn 21 [(.box 2 0)])] 54 Tryz.func17 rfl rfl rfl rfl (fun L => ?_)
  refine T.seq ?_
  refine T.region ?_
  refine Run.go (Ev.move rfl rfl) ?_
  refine Run.go (Ev.e_nc rfl rfl rfl rfl) ?_
  refine Run.go (Ev.fieldBoxN fo34_0 sz29 rfl rfl rfl rfl) ?_
  refine Run.go (Ev.loadOne sz29 rfl rfl rfl rfl) ?_
  obtain ⟨x2, e1, h⟩ := bdS h
  refine Run.go (Ev.w1 (Ev.lendM [(3, 1)] [(1, 3)] en23 (k_lex_Reader_Line_M_2 e1) rfl (.cons (.ren rfl) .nil) rfl rfl rfl rfl rfl (A := .v (.int .i64) x2) rfl (W := [(3, .box [.v (.sl Y_lex_Token) o3_0, .v (.int .i64) o3_1])]) rfl rfl)) ?_
  refine Run.go (Ev.assign rfl rfl) ?_
  refine Run.nil ?_
  refine T.seq ?_
  refine T.seq ?_
  refine T.region ?_
  refine Run.go (Ev.move rfl rfl) ?_
  refine Run.go (Ev.e_nc rfl rfl rfl rfl) ?_
  refine Run.go (Ev.fieldBoxN fo34_1 sz3 rfl rfl rfl rfl) ?_
  refine Run.go (Ev.loadCell X rfl rfl rfl rfl rfl rfl) ?_
  refine Run.go (Ev.int rfl rfl rfl rfl trivial) ?_
  refine Run.nil ?_
  refine T.cond rfl (fun hb3 => ?_) (fun hb3 => ?_)
  · replace h := ifT hb3 h
    refine T.ret ?_
    cases h
    exact FinM.of 100000 [(1, 1), (2, 2), (3, 3)] (inlR.many' (X := X) rfl .nil rfl) rfl rfl rfl rfl ⟨(.inl ⟨rfl, _, rfl, .box, fun _ => rfl⟩), (.inl ⟨rfl, _, rfl, .box, fun _ => rfl⟩), (.inl ⟨rfl, _, rfl, .box, fun _ => rfl⟩), trivial⟩
  · replace h := ifF hb3 h
    refine T.skip ?_
    refine T.seq ?_
    refine T.region ?_
    refine Run.go (Ev.move rfl rfl) ?_
    refine Run.go (Ev.e_nc rfl rfl rfl rfl) ?_
    refine Run.go (Ev.fieldBoxN fo34_0 sz29 rfl rfl rfl rfl) ?_
    refine Run.go (Ev.loadOne sz29 rfl rfl rfl rfl) ?_
    obtain ⟨x5, e4, h⟩ := bdS h
    refine Run.go (Ev.w1 (Ev.lendM [(3, 1)] [(1, 3)] en37 (k_lex_Reader_Figure_M_2 e4) rfl (.cons (.ren rfl) .nil) rfl rfl rfl rfl rfl (A := .tup [.v .str x5.1, .v .bool x5.2.1]) rfl (W := [(3, .box [.v (.sl Y_lex_Token) x5.2.2, .v (.int .i64) o3_1])]) rfl rfl)) ?_
    refine Run.go (Ev.move rfl rfl) ?_
    refine Run.go (Ev.extract rfl rfl rfl) ?_
    refine Run.go (Ev.extract rfl rfl rfl) ?_
    refine Run.go (Ev.assign rfl rfl) ?_
    refine Run.go (Ev.assign rfl rfl) ?_
    refine Run.nil ?_
    refine T.seq ?_
    refine T.seq ?_
    refine T.region ?_
    refine Run.go (Ev.move rfl rfl) ?_
    refine Run.go (Ev.not rfl rfl) ?_
    refine Run.nil ?_
    refine T.cond rfl (fun hb6 => ?_) (fun hb6 => ?_)
    · replace h := ifT hb6 h
      refine T.seq ?_
      refine T.region ?_
      refine Run.go (Ev.move rfl rfl) ?_
      refine Run.go (Ev.move rfl rfl) ?_
      obtain ⟨x8, e7, h⟩ := bdS h
      refine Run.go (Ev.w2 (Ev.lendM [(1, 1), (3, 2)] [(1, 1), (2, 3)] en25 (k_askread_reader_wrong_M_2 e7) rfl (.cons (.ren rfl) (.cons (.ren rfl) .nil)) rfl rfl rfl rfl rfl (A := .tup []) rfl (W := [(1, .box [.box 3 0, .v (.int .i64) x8, .v (.int .i64) o1_2]), (3, .box [.v (.sl Y_lex_Token) x5.2.2, .v (.int .i64) o3_1])]) rfl rfl)) ?_
      refine Run.nil ?_
      refine T.ret ?_
      cases h
      exact FinM.of 100000 [(1, 1), (2, 2), (3, 3)] (inlR.many' (X := X) rfl .nil rfl) rfl rfl rfl rfl ⟨(.inl ⟨rfl, _, rfl, .box, fun _ => rfl⟩), (.inl ⟨rfl, _, rfl, .box, fun _ => rfl⟩), (.inl ⟨rfl, _, rfl, .box, fun _ => rfl⟩), trivial⟩
    · replace h := ifF hb6 h
      refine T.skip ?_
      refine T.seq ?_
      refine T.region ?_
      refine Run.go (Ev.move rfl rfl) ?_
      refine Run.go (Ev.move rfl rfl) ?_
      obtain ⟨x10, e9, h⟩ := bdS h
      refine Run.go (Ev.w1 (Ev.lendM [(2, 1)] [(1, 2)] en21 (k_askread_reader_query_2_M e9) rfl (.cons (.ren rfl) (.cons (.ren rfl) .nil)) rfl rfl rfl rfl rfl (A := .v (.int .i64) x10.1) rfl (W := [(2, .box [.v (.int .i64) o2_0, .v .str o2_1, .v .str o2_2, .v .str o2_3, .v (.int .u32) o2_4, .v (.int .u32) o2_5, .v (.int .i64) o2_6, .v (.int .i64) x10.2])]) rfl rfl)) ?_
      refine Run.go (Ev.assign rfl rfl) ?_
      refine Run.nil ?_
      refine T.block ?_
      refine T.seq ?_
      refine T.region ?_
      refine Run.go (Ev.move rfl rfl) ?_
      refine Run.go (Ev.int rfl rfl rfl rfl trivial) ?_
      refine Run.go (Ev.assign rfl rfl) ?_
      refine Run.nil ?_
      refine T.cond rfl (fun hb11 => ?_) (fun hb11 => ?_)
      · replace h := ifT hb11 h
        refine T.region ?_
        refine Run.go (Ev.move rfl rfl) ?_
        refine Run.go (Ev.move rfl rfl) ?_
        obtain ⟨x13, e12, h⟩ := bdS h
        refine Run.go (Ev.w2 (Ev.lendM [(1, 1), (3, 2)] [(1, 1), (2, 3)] en25 (k_askread_reader_wrong_M_2 e12) rfl (.cons (.ren rfl) (.cons (.ren rfl) .nil)) rfl rfl rfl rfl rfl (A := .tup []) rfl (W := [(1, .box [.box 3 0, .v (.int .i64) x13, .v (.int .i64) o1_2]), (3, .box [.v (.sl Y_lex_Token) x5.2.2, .v (.int .i64) o3_1])]) rfl rfl)) ?_
        refine Run.nil ?_
        cases h
        exact FinM.of 100000 [(1, 1), (2, 2), (3, 3)] (inlR.many' (X := X) rfl .nil rfl) rfl rfl rfl rfl ⟨(.inl ⟨rfl, _, rfl, .box, fun _ => rfl⟩), (.inl ⟨rfl, _, rfl, .box, fun _ => rfl⟩), (.inl ⟨rfl, _, rfl, .box, fun _ => rfl⟩), trivial⟩
      · replace h := ifF hb11 h
        obtain ⟨v14, hv, h⟩ := bdS h
        refine T.cut (fun _ : Unit => (⟨[(0, .box 1 0), (4, .v (.int .i64) x2), (40, .v .bool v14)], [(1, .box [.box 3 0, .v (.int .i64) o1_1, .v (.int .i64) o1_2]), (2, .box [.v (.int .i64) o2_0, .v .str o2_1, .v .str o2_2, .v .str o2_3, .v (.int .u32) o2_4, .v (.int .u32) o2_5, .v (.int .i64) o2_6, .v (.int .i64) x10.2]), (3, .box [.v (.sl Y_lex_Token) x5.2.2, .v (.int .i64) o3_1]), (100001, .place 1 (L 1).1 (L 1).2), (100002, .place 2 (L 2).1 (L 2).2), (100003, .place 3 (L 3).1 (L 3).2)], 54⟩ : St)) (fun _ => True) ?_ (fun _ _ => ?_)
        · replace h := hv
          clear hv
          refine T.region ?_
          refine Run.go (Ev.move rfl rfl) ?_
          refine Run.go (Ev.int rfl rfl rfl rfl trivial) ?_
          refine Run.go (Ev.move rfl rfl) ?_
          rcases boolCases (!decide (x10.1 = 0)) with hb15 | hb15
          · replace h := ifT hb15 h
            refine Run.on rfl rfl rfl hb15 (Ev.move rfl rfl) ?_
            refine Run.on rfl rfl rfl hb15 (Ev.e_nc rfl rfl rfl rfl) ?_
            refine Run.on rfl rfl rfl hb15 (Ev.fieldBoxN fo34_2 sz3 rfl rfl rfl rfl) ?_
            refine Run.on rfl rfl rfl hb15 (Ev.loadCell X rfl rfl rfl rfl rfl rfl) ?_
            refine Run.on rfl rfl rfl hb15 (Ev.int rfl rfl rfl rfl trivial) ?_
            refine Run.go (Ev.pickT rfl hb15 rfl rfl) ?_
            refine Run.go (Ev.assign rfl rfl) ?_
            refine Run.nil ?_
            cases h
            exact ⟨(), trivial, Ghost.only [(1, 1), (2, 2), (3, 3), (100001, 100001), (100002, 100002), (100003, 100003)] [0, 4, 40] rfl⟩
          · replace h := ifF hb15 h
            refine Run.offT rfl rfl rfl rfl hb15 ?_
            refine Run.offT rfl rfl rfl rfl hb15 ?_
            refine Run.offT rfl rfl rfl rfl hb15 ?_
            refine Run.offT rfl rfl rfl rfl hb15 ?_
            refine Run.offT rfl rfl rfl rfl hb15 ?_
            refine Run.go (Ev.pickF rfl hb15 rfl rfl) ?_
            refine Run.go (Ev.assign rfl rfl) ?_
            refine Run.nil ?_
            cases h
            exact ⟨(), trivial, Ghost.only [(1, 1), (2, 2), (3, 3), (100001, 100001), (100002, 100002), (100003, 100003)] [0, 4, 40] rfl⟩
        · refine T.cond rfl (fun hb16 => ?_) (fun hb16 => ?_)
          · replace h := ifT hb16 h
            refine T.region ?_
            refine Run.go (Ev.move rfl rfl) ?_
            refine Run.go (Ev.move rfl rfl) ?_
            refine Run.go (Ev.e_nc rfl rfl rfl rfl) ?_
            refine Run.go (Ev.fieldBoxN fo34_2 sz3 rfl rfl rfl rfl) ?_
            refine Run.do_ (Ev.storeBox X rfl rfl rfl rfl rfl rfl rfl) ?_
            refine Run.nil ?_
            cases h
            exact FinM.of 100000 [(1, 1), (2, 2), (3, 3)] (inlR.many' (X := X) rfl .nil rfl) rfl rfl rfl rfl ⟨(.inl ⟨rfl, _, rfl, .box, fun _ => rfl⟩), (.inl ⟨rfl, _, rfl, .box, fun _ => rfl⟩), (.inl ⟨rfl, _, rfl, .box, fun _ => rfl⟩), trivial⟩
          · replace h := ifF hb16 h
            refine T.skip ?_
            cases h
            exact FinM.of 100000 [(1, 1), (2, 2), (3, 3)] (inlR.many' (X := X) rfl .nil rfl) rfl rfl rfl rfl ⟨(.inl ⟨rfl, _, rfl, .box, fun _ => rfl⟩), (.inl ⟨rfl, _, rfl, .box, fun _ => rfl⟩), (.inl ⟨rfl, _, rfl, .box, fun _ => rfl⟩), trivial⟩
end Go.Proofs.YtboghejfmmigkaaGreatDoor.AE
/- The code comes to the printed functions (printed by a program of ours). -/
namespace Go.Proofs.YtboghejfmmigkaaGreatDoor.AE
open Go Go.RowKit Go.Proofs.YtboghejfmmigkaaGreatDoor.AP
set_option linter.unusedVariables false
set_option maxRecDepth 20000
theorem k_askread_reader_query_M {o1_1 : Int} {o1_2 : Int} {o2_0 : (List D_lex_Token)} {o2_1 : Int} {y : D_api_Query × Int × Int × (List D_lex_Token)} (h : m_askread_reader_query_M o1_1 o1_2 o2_0 o2_1 = some y) : SpecM Tryz.prog 10 [(.box 1 0)] [(1, .box [.box 2 0, .v (.int .i64) o1_1, .v (.int .i64) o1_2]), (2, .box [.v (.sl Y_lex_Token) o2_0, .v (.int .i64) o2_1])] (.v Y_api_Query y.1) [(1, .box [.box 2 0, .v (.int .i64) y.2.1, .v (.int .i64) y.2.2.1]), (2, .box [.v (.sl Y_lex_Token) y.2.2.2, .v (.int .i64) o2_1])] := by
  rw [m_askread_reader_query_M] at h
  refine SpecM.enter 100000 [(.box 1 0)] 50 Tryz.func10 rfl rfl rfl rfl (fun L => ?_)
  refine T.seq ?_
  refine T.region ?_
  refine Run.go (Ev.allocN X 16 rfl rfl rfl) ?_
  refine Run.nil ?_
  refine T.seq ?_
  refine T.region ?_
  refine Run.go (Ev.move rfl rfl) ?_
  obtain ⟨x2, e1, h⟩ := bdS h
  refine Run.go (Ev.w2 (Ev.lendM [(1, 1), (2, 2)] [(1, 1), (2, 2)] en15 (k_askread_reader_kind_M_2 e1) rfl (.cons (.ren rfl) .nil) rfl rfl rfl rfl rfl (A := .v (.int .i64) x2.1) rfl (W := [(1, .box [.box 2 0, .v (.int .i64) x2.2.1, .v (.int .i64) o1_2]), (2, .box [.v (.sl Y_lex_Token) x2.2.2, .v (.int .i64) o2_1])]) rfl rfl)) ?_
  refine Run.go (Ev.move rfl rfl) ?_
  obtain ⟨x4, e3, h⟩ := bdS h
  refine Run.go (Ev.w2 (Ev.lendM [(1, 1), (2, 2)] [(1, 1), (2, 2)] en16 (k_askread_reader_ident_M_2 e3) rfl (.cons (.ren rfl) .nil) rfl rfl rfl rfl rfl (A := .v .str x4.1) rfl (W := [(1, .box [.box 2 0, .v (.int .i64) x4.2.1, .v (.int .i64) o1_2]), (2, .box [.v (.sl Y_lex_Token) x4.2.2, .v (.int .i64) o2_1])]) rfl rfl)) ?_
  refine Run.go (Ev.structC pl39 zs39 rfl rfl rfl) ?_
  refine Run.go (Ev.allocN X 17 rfl rfl rfl) ?_
  refine Run.do_ (Ev.storeC sz39 rfl rfl rfl rfl rfl rfl) ?_
  refine Run.nil ?_
  obtain ⟨⟨v5, v6, v7⟩, hv, h⟩ := bdS h
  refine T.cut (fun _ : Unit => (⟨[(0, .box 1 0), (2, .box 16 0), (3, .box 17 0)], [(1, .box [.box 2 0, .v (.int .i64) v5, .v (.int .i64) o1_2]), (2, .box [.v (.sl Y_lex_Token) v6, .v (.int .i64) o2_1]), (16, .box [.v (.int .i64) (0 : Int), .v .str ((bs []) : ByteArray), .v .str ((bs []) : ByteArray), .v .str ((bs []) : ByteArray), .v (.int .u32) (0 : Int), .v (.int .u32) (0 : Int), .v (.int .i64) (0 : Int), .v (.int .i64) (0 : Int)]), (17, .box [.v (.int .i64) x2.1, .v .str x4.1, .v .str v7, .v .str ((bs []) : ByteArray), .v (.int .u32) (0 : Int), .v (.int .u32) (0 : Int), .v (.int .i64) (0 : Int), .v (.int .i64) (0 : Int)]), (100001, .place 1 (L 1).1 (L 1).2), (100002, .place 2 (L 2).1 (L 2).2)], 50⟩ : St)) (fun _ => True) ?_ (fun _ _ => ?_)
  · replace h := hv
    clear hv
    refine T.seq ?_
    refine T.region ?_
    refine Run.go (Ev.fieldBox X rfl rfl rfl rfl rfl) ?_
    refine Run.go (Ev.loadCell X rfl rfl rfl rfl rfl rfl) ?_
    refine Run.go (Ev.int rfl rfl rfl rfl trivial) ?_
    refine Run.nil ?_
    refine T.cond rfl (fun hb8 => ?_) (fun hb8 => ?_)
    · replace h := ifT hb8 h
      refine T.region ?_
      refine Run.go (Ev.move rfl rfl) ?_
      obtain ⟨x10, e9, h⟩ := bdS h
      refine Run.go (Ev.w2 (Ev.lendM [(1, 1), (2, 2)] [(1, 1), (2, 2)] en16 (k_askread_reader_ident_M_2 e9) rfl (.cons (.ren rfl) .nil) rfl rfl rfl rfl rfl (A := .v .str x10.1) rfl (W := [(1, .box [.box 2 0, .v (.int .i64) x10.2.1, .v (.int .i64) o1_2]), (2, .box [.v (.sl Y_lex_Token) x10.2.2, .v (.int .i64) o2_1])]) rfl rfl)) ?_
      refine Run.go (Ev.fieldBox X rfl rfl rfl rfl rfl) ?_
      refine Run.do_ (Ev.storeBox X rfl rfl rfl rfl rfl rfl rfl) ?_
      refine Run.nil ?_
      cases h
      exact ⟨(), trivial, Ghost.only [(1, 1), (2, 2), (16, 16), (17, 17), (100001, 100001), (100002, 100002)] [0, 2, 3] rfl⟩
    · replace h := ifF hb8 h
      refine T.skip ?_
      cases h
      exact ⟨(), trivial, Ghost.only [(1, 1), (2, 2), (16, 16), (17, 17), (100001, 100001), (100002, 100002)] [0, 2, 3] rfl⟩
  · refine T.seq ?_
    refine T.region ?_
    refine Run.go (Ev.move rfl rfl) ?_
    obtain ⟨x12, e11, h⟩ := bdS h
    refine Run.go (Ev.w2 (Ev.lendM [(1, 1), (2, 2)] [(1, 1), (2, 2)] en16 (k_askread_reader_ident_M_2 e11) rfl (.cons (.ren rfl) .nil) rfl rfl rfl rfl rfl (A := .v .str x12.1) rfl (W := [(1, .box [.box 2 0, .v (.int .i64) x12.2.1, .v (.int .i64) o1_2]), (2, .box [.v (.sl Y_lex_Token) x12.2.2, .v (.int .i64) o2_1])]) rfl rfl)) ?_
    refine Run.go (Ev.fieldBox X rfl rfl rfl rfl rfl) ?_
    refine Run.do_ (Ev.storeBox X rfl rfl rfl rfl rfl rfl rfl) ?_
    refine Run.nil ?_
    refine T.seq ?_
    refine T.region ?_
    refine Run.go (Ev.move rfl rfl) ?_
    refine Run.go (Ev.e_fn rfl rfl) ?_
    obtain ⟨x14, e13, h⟩ := bdS h
    refine Run.go (Ev.w3 (Ev.lendM [(1, 1), (17, 2), (2, 3)] [(1, 1), (2, 17), (3, 2)] en17 (k_askread_reader_figure__askread_reader_query_1_M_2 e13) rfl (.cons (.ren rfl) (.cons (.ren rfl) .nil)) rfl rfl rfl rfl rfl (A := .tup []) rfl (W := [(1, .box [.box 2 0, .v (.int .i64) x14.1, .v (.int .i64) x14.2.1]), (17, .box [.v (.int .i64) x2.1, .v .str x4.1, .v .str v7, .v .str x12.1, .v (.int .u32) x14.2.2.1, .v (.int .u32) x14.2.2.2.1, .v (.int .i64) x14.2.2.2.2.1, .v (.int .i64) (0 : Int)]), (2, .box [.v (.sl Y_lex_Token) x14.2.2.2.2.2, .v (.int .i64) o2_1])]) rfl rfl)) ?_
    refine Run.nil ?_
    obtain ⟨⟨v15, v16, v17, v18⟩, hv, h⟩ := bdS h
    refine T.cut (fun _ : Unit => (⟨[(0, .box 1 0), (2, .box 16 0), (3, .box 17 0)], [(1, .box [.box 2 0, .v (.int .i64) v15, .v (.int .i64) v16]), (2, .box [.v (.sl Y_lex_Token) v17, .v (.int .i64) o2_1]), (16, .box [.v (.int .i64) (0 : Int), .v .str ((bs []) : ByteArray), .v .str ((bs []) : ByteArray), .v .str ((bs []) : ByteArray), .v (.int .u32) (0 : Int), .v (.int .u32) (0 : Int), .v (.int .i64) (0 : Int), .v (.int .i64) (0 : Int)]), (17, .box [.v (.int .i64) x2.1, .v .str x4.1, .v .str v7, .v .str x12.1, .v (.int .u32) x14.2.2.1, .v (.int .u32) x14.2.2.2.1, .v (.int .i64) x14.2.2.2.2.1, .v (.int .i64) v18]), (100001, .place 1 (L 1).1 (L 1).2), (100002, .place 2 (L 2).1 (L 2).2)], 50⟩ : St)) (fun _ => True) ?_ (fun _ _ => ?_)
    · replace h := hv
      clear hv
      refine T.seq ?_
      refine T.region ?_
      refine Run.go (Ev.fieldBox X rfl rfl rfl rfl rfl) ?_
      refine Run.go (Ev.loadCell X rfl rfl rfl rfl rfl rfl) ?_
      refine Run.go (Ev.int rfl rfl rfl rfl trivial) ?_
      refine Run.nil ?_
      refine T.cond rfl (fun hb19 => ?_) (fun hb19 => ?_)
      · replace h := ifT hb19 h
        refine T.region ?_
        refine Run.go (Ev.move rfl rfl) ?_
        refine Run.go (Ev.e_fn rfl rfl) ?_
        obtain ⟨x21, e20, h⟩ := bdS h
        refine Run.go (Ev.w3 (Ev.lendM [(1, 1), (17, 2), (2, 3)] [(1, 1), (2, 17), (3, 2)] en17 (k_askread_reader_figure__askread_reader_query_2_M_2 e20) rfl (.cons (.ren rfl) (.cons (.ren rfl) .nil)) rfl rfl rfl rfl rfl (A := .tup []) rfl (W := [(1, .box [.box 2 0, .v (.int .i64) x21.1, .v (.int .i64) x21.2.1]), (17, .box [.v (.int .i64) x2.1, .v .str x4.1, .v .str v7, .v .str x12.1, .v (.int .u32) x14.2.2.1, .v (.int .u32) x14.2.2.2.1, .v (.int .i64) x14.2.2.2.2.1, .v (.int .i64) x21.2.2.1]), (2, .box [.v (.sl Y_lex_Token) x21.2.2.2, .v (.int .i64) o2_1])]) rfl rfl)) ?_
        refine Run.nil ?_
        cases h
        exact ⟨(), trivial, Ghost.only [(1, 1), (2, 2), (16, 16), (17, 17), (100001, 100001), (100002, 100002)] [0, 2, 3] rfl⟩
      · replace h := ifF hb19 h
        refine T.skip ?_
        cases h
        exact ⟨(), trivial, Ghost.only [(1, 1), (2, 2), (16, 16), (17, 17), (100001, 100001), (100002, 100002)] [0, 2, 3] rfl⟩
    · obtain ⟨⟨v22, v23⟩, hv, h⟩ := bdS h
      refine T.cut (fun _ : Unit => (⟨[(2, .box 16 0), (3, .box 17 0)], [(1, .box [.box 2 0, .v (.int .i64) v22, .v (.int .i64) v16]), (2, .box [.v (.sl Y_lex_Token) v23, .v (.int .i64) o2_1]), (16, .box [.v (.int .i64) (0 : Int), .v .str ((bs []) : ByteArray), .v .str ((bs []) : ByteArray), .v .str ((bs []) : ByteArray), .v (.int .u32) (0 : Int), .v (.int .u32) (0 : Int), .v (.int .i64) (0 : Int), .v (.int .i64) (0 : Int)]), (17, .box [.v (.int .i64) x2.1, .v .str x4.1, .v .str v7, .v .str x12.1, .v (.int .u32) x14.2.2.1, .v (.int .u32) x14.2.2.2.1, .v (.int .i64) x14.2.2.2.2.1, .v (.int .i64) v18]), (100001, .place 1 (L 1).1 (L 1).2), (100002, .place 2 (L 2).1 (L 2).2)], 50⟩ : St)) (fun _ => True) ?_ (fun _ _ => ?_)
      · replace h := hv
        clear hv
        refine T.seq ?_
        refine T.region ?_
        refine Run.go (Ev.move rfl rfl) ?_
        refine Run.go (Ev.e_nc rfl rfl rfl rfl) ?_
        refine Run.go (Ev.fieldBoxN fo34_0 sz29 rfl rfl rfl rfl) ?_
        refine Run.go (Ev.loadOne sz29 rfl rfl rfl rfl) ?_
        obtain ⟨x25, e24, h⟩ := bdS h
        refine Run.go (Ev.w1 (Ev.lendM [(2, 1)] [(1, 2)] en23 (k_lex_Reader_Line_M_2 e24) rfl (.cons (.ren rfl) .nil) rfl rfl rfl rfl rfl (A := .v (.int .i64) x25) rfl (W := [(2, .box [.v (.sl Y_lex_Token) v17, .v (.int .i64) o2_1])]) rfl rfl)) ?_
        refine Run.go (Ev.assign rfl rfl) ?_
        refine Run.nil ?_
        obtain ⟨⟨v26, v27⟩, hv, h⟩ := bdS h
        refine T.cut (fun _ : Unit => (⟨[(0, .box 1 0), (2, .box 16 0), (3, .box 17 0), (4, .v (.int .i64) x25), (45, .v .bool v26)], [(1, .box [.box 2 0, .v (.int .i64) v15, .v (.int .i64) v16]), (2, .box [.v (.sl Y_lex_Token) v27, .v (.int .i64) o2_1]), (16, .box [.v (.int .i64) (0 : Int), .v .str ((bs []) : ByteArray), .v .str ((bs []) : ByteArray), .v .str ((bs []) : ByteArray), .v (.int .u32) (0 : Int), .v (.int .u32) (0 : Int), .v (.int .i64) (0 : Int), .v (.int .i64) (0 : Int)]), (17, .box [.v (.int .i64) x2.1, .v .str x4.1, .v .str v7, .v .str x12.1, .v (.int .u32) x14.2.2.1, .v (.int .u32) x14.2.2.2.1, .v (.int .i64) x14.2.2.2.2.1, .v (.int .i64) v18]), (100001, .place 1 (L 1).1 (L 1).2), (100002, .place 2 (L 2).1 (L 2).2)], 50⟩ : St)) (fun _ => True) ?_ (fun _ _ => ?_)
        · replace h := hv
          clear hv
          refine T.region ?_
          refine Run.go (Ev.move rfl rfl) ?_
          refine Run.go (Ev.e_nc rfl rfl rfl rfl) ?_
          refine Run.go (Ev.fieldBoxN fo34_1 sz3 rfl rfl rfl rfl) ?_
          refine Run.go (Ev.loadCell X rfl rfl rfl rfl rfl rfl) ?_
          refine Run.go (Ev.int rfl rfl rfl rfl trivial) ?_
          refine Run.go (Ev.move rfl rfl) ?_
          rcases boolCases (decide (v15 = 0)) with hb28 | hb28
          · replace h := ifT hb28 h
            refine Run.on rfl rfl rfl hb28 (Ev.move rfl rfl) ?_
            refine Run.on rfl rfl rfl hb28 (Ev.e_nc rfl rfl rfl rfl) ?_
            refine Run.on rfl rfl rfl hb28 (Ev.fieldBoxN fo34_0 sz29 rfl rfl rfl rfl) ?_
            refine Run.on rfl rfl rfl hb28 (Ev.loadOne sz29 rfl rfl rfl rfl) ?_
            obtain ⟨x30, e29, h⟩ := bdS h
            refine Run.on rfl rfl rfl hb28 (Ev.w1 (Ev.lendM [(2, 1)] [(1, 2)] en24 (k_lex_Reader_Take_M e29) rfl (.cons (.ren rfl) (.cons (.ren rfl) .nil)) rfl rfl rfl rfl rfl (A := .v .bool x30.1) rfl (W := [(2, .box [.v (.sl Y_lex_Token) x30.2, .v (.int .i64) o2_1])]) rfl rfl)) ?_
            refine Run.on rfl rfl rfl hb28 (Ev.not rfl rfl) ?_
            refine Run.go (Ev.pickT rfl hb28 rfl rfl) ?_
            refine Run.nil ?_
            cases h
            exact ⟨(), trivial, Ghost.only [(1, 1), (2, 2), (16, 16), (17, 17), (100001, 100001), (100002, 100002)] [0, 2, 3, 4, 45] rfl⟩
          · replace h := ifF hb28 h
            refine Run.offT rfl rfl rfl rfl hb28 ?_
            refine Run.offT rfl rfl rfl rfl hb28 ?_
            refine Run.offT rfl rfl rfl rfl hb28 ?_
            refine Run.offT rfl rfl rfl rfl hb28 ?_
            refine Run.offT rfl rfl rfl rfl hb28 ?_
            refine Run.offT rfl rfl rfl rfl hb28 ?_
            refine Run.go (Ev.pickF rfl hb28 rfl rfl) ?_
            refine Run.nil ?_
            cases h
            exact ⟨(), trivial, Ghost.only [(1, 1), (2, 2), (16, 16), (17, 17), (100001, 100001), (100002, 100002)] [0, 2, 3, 4, 45] rfl⟩
        · refine T.cond rfl (fun hb31 => ?_) (fun hb31 => ?_)
          · replace h := ifT hb31 h
            refine T.region ?_
            refine Run.go (Ev.move rfl rfl) ?_
            refine Run.go (Ev.move rfl rfl) ?_
            obtain ⟨x33, e32, h⟩ := bdS h
            refine Run.go (Ev.w2 (Ev.lendM [(1, 1), (2, 2)] [(1, 1), (2, 2)] en25 (k_askread_reader_wrong_M_2 e32) rfl (.cons (.ren rfl) (.cons (.ren rfl) .nil)) rfl rfl rfl rfl rfl (A := .tup []) rfl (W := [(1, .box [.box 2 0, .v (.int .i64) x33, .v (.int .i64) v16]), (2, .box [.v (.sl Y_lex_Token) v27, .v (.int .i64) o2_1])]) rfl rfl)) ?_
            refine Run.nil ?_
            cases h
            exact ⟨(), trivial, Ghost.only [(1, 1), (2, 2), (16, 16), (17, 17), (100001, 100001), (100002, 100002)] [2, 3] rfl⟩
          · replace h := ifF hb31 h
            refine T.skip ?_
            cases h
            exact ⟨(), trivial, Ghost.only [(1, 1), (2, 2), (16, 16), (17, 17), (100001, 100001), (100002, 100002)] [2, 3] rfl⟩
      · refine T.seq ?_
        refine T.region ?_
        refine Run.go (Ev.loadBox X rfl rfl rfl rfl rfl) ?_
        refine Run.do_ (Ev.storeBox X rfl rfl rfl rfl rfl rfl rfl) ?_
        refine Run.nil ?_
        refine T.ret ?_
        cases h
        exact FinM.of 100000 [(1, 1), (2, 2)] (inlR.one' (X := X) rfl (.cell rfl rfl rfl rfl)) rfl rfl rfl rfl ⟨(.inl ⟨rfl, _, rfl, .box, fun _ => rfl⟩), (.inl ⟨rfl, _, rfl, .box, fun _ => rfl⟩), trivial⟩
theorem en4 : Enters Tryz.prog 4 := ⟨_, Tryz.func4, rfl, rfl⟩
set_option maxHeartbeats 1000000 in
theorem k_askread_Read {p0 : ByteArray} {y : (List D_api_Query) × Int × Int} (h : m_askread_Read p0 = some y) : Spec Tryz.prog 4 [(.v .str p0)] (.tup [.v (.sl Y_api_Query) y.1, .v (.int .i64) y.2.1, .v (.int .i64) y.2.2]) [] := by
  rw [m_askread_Read] at h
  refine enterN [(.v .str p0)] 62 Tryz.func4 rfl rfl rfl ?_
  refine T.seq ?_
  refine T.region ?_
  refine Run.go (Ev.assign rfl rfl) ?_
  refine Run.go (Ev.assign rfl rfl) ?_
  refine Run.go (Ev.assign rfl rfl) ?_
  refine Run.nil ?_
  refine T.seq ?_
  refine T.region ?_
  refine Run.go (Ev.move rfl rfl) ?_
  obtain ⟨x2, e1, h⟩ := bdS h
  rcases x2 with v3a | v3b
  · replace h := altL h
    refine Run.go (Ev.w0 (Ev.lendM [] [] en8 (k_lex_New_M e1) rfl (.cons (.ren rfl) .nil) rfl rfl rfl rfl rfl (A := .tup [.nilp, .v (.int .i64) v3a.1, .v (.int .i64) v3a.2]) rfl (W := []) rfl rfl)) ?_
    refine Run.go (Ev.move rfl rfl) ?_
    refine Run.go (Ev.extract rfl rfl rfl) ?_
    refine Run.go (Ev.extract rfl rfl rfl) ?_
    refine Run.go (Ev.extract rfl rfl rfl) ?_
    refine Run.go (Ev.assign rfl rfl) ?_
    refine Run.go (Ev.assign rfl rfl) ?_
    refine Run.go (Ev.assign rfl rfl) ?_
    refine Run.nil ?_
    refine T.seq ?_
    refine T.seq ?_
    refine T.region ?_
    refine Run.go (Ev.move rfl rfl) ?_
    refine Run.go (Ev.int rfl rfl rfl rfl trivial) ?_
    refine Run.nil ?_
    refine T.cond rfl (fun hb4 => ?_) (fun hb4 => ?_)
    · replace h := ifT hb4 h
      refine T.seq ?_
      refine T.region ?_
      refine Run.go (Ev.move rfl rfl) ?_
      refine Run.go (Ev.move rfl rfl) ?_
      refine Run.go (Ev.assign rfl rfl) ?_
      refine Run.go (Ev.assign rfl rfl) ?_
      refine Run.go (Ev.assign rfl rfl) ?_
      refine Run.nil ?_
      refine T.ret ?_
      cases h
      exact Fin.many X rfl (.cons (.tmp .nilv) (.cons (.tmp .v) (.cons (.tmp .v) .nil))) rfl
    · replace h := ifF hb4 h
      refine T.skip ?_
      refine T.seq ?_
      refine T.region ?_
      refine Run.go (Ev.move rfl rfl) ?_
      refine Run.go (Ev.structC pl34 zs34 rfl rfl rfl) ?_
      refine Run.go (Ev.boxC 1 rfl rfl rfl rfl) ?_
      refine Run.go (Ev.assign rfl rfl) ?_
      refine Run.nil ?_
      refine T.seq ?_
      refine T.region ?_
      refine Run.go (Ev.assign rfl rfl) ?_
      refine Run.nil ?_
      obtain ⟨_, hv, h⟩ := bdS h
      refine T.cut (fun _ : Unit => (⟨[(8, .box 1 0), (9, .nil)], [(1, .box [.nilp, .v (.int .i64) (0 : Int), .v (.int .i64) (0 : Int)])], 62⟩ : St)) (fun _ => True) ?_ (fun _ _ => ?_)
      · replace h := hv
        clear hv
        refine T.block ?_
        refine T.loop (LoopT.ghost (Ghost.only [(1, 1)] [8, 9] rfl) (LoopT.run (fun q : Unit => (⟨[(8, .box 1 0), (9, .nil)], [(1, .box [.nilp, .v (.int .i64) (0 : Int), .v (.int .i64) (0 : Int)])], 62⟩ : St)) (fun q z1 h hz1 => ?_) h))
        rw [m_askread_Read_l1] at h
        refine T.seq ?_
        obtain ⟨v5, hv, h⟩ := bdS h
        refine T.cut (fun _ : Unit => (⟨[(8, .box 1 0), (9, .nil), (35, .v .bool v5)], [(1, .box [.nilp, .v (.int .i64) (0 : Int), .v (.int .i64) (0 : Int)])], 62⟩ : St)) (fun _ => True) ?_ (fun _ _ => ?_)
        · replace h := hv
          clear hv
          refine T.region ?_
          refine Run.go (Ev.move rfl rfl) ?_
          refine Run.go (Ev.e_nc rfl rfl rfl rfl) ?_
          refine Run.go (Ev.fieldBoxN fo34_1 sz3 rfl rfl rfl rfl) ?_
          refine Run.go (Ev.loadCell X rfl rfl rfl rfl rfl rfl) ?_
          refine Run.go (Ev.int rfl rfl rfl rfl trivial) ?_
          refine Run.go (Ev.move rfl rfl) ?_
          rcases boolCases (decide (0 = 0)) with hb6 | hb6
          · replace h := ifT hb6 h
            refine Run.on rfl rfl rfl hb6 (Ev.move rfl rfl) ?_
            refine Run.on rfl rfl rfl hb6 (Ev.e_nc rfl rfl rfl rfl) ?_
            refine Run.on rfl rfl rfl hb6 (Ev.fieldBoxN fo34_0 sz29 rfl rfl rfl rfl) ?_
            refine Run.on rfl rfl rfl hb6 (Ev.loadOne sz29 rfl rfl rfl rfl) ?_
            obtain ⟨x8, e7, h⟩ := bdS h
            refine Run.on rfl rfl rfl hb6 (Ev.w0 (Ev.lendM [] [] en9 (k_lex_Reader_Done_M e7) rfl (.cons (.ren rfl) .nil) rfl rfl rfl rfl rfl (A := .v .bool true) rfl (W := []) rfl rfl)) ?_
            refine Run.on rfl rfl rfl hb6 (Ev.not rfl rfl) ?_
            refine Run.go (Ev.pickT rfl hb6 rfl rfl) ?_
            refine Run.nil ?_
            cases h
            exact ⟨(), trivial, Ghost.only [(1, 1)] [8, 9, 35] rfl⟩
          · replace h := ifF hb6 h
            refine Run.offT rfl rfl rfl rfl hb6 ?_
            refine Run.offT rfl rfl rfl rfl hb6 ?_
            refine Run.offT rfl rfl rfl rfl hb6 ?_
            refine Run.offT rfl rfl rfl rfl hb6 ?_
            refine Run.offT rfl rfl rfl rfl hb6 ?_
            refine Run.offT rfl rfl rfl rfl hb6 ?_
            refine Run.go (Ev.pickF rfl hb6 rfl rfl) ?_
            refine Run.nil ?_
            cases h
            exact ⟨(), trivial, Ghost.only [(1, 1)] [8, 9, 35] rfl⟩
        · refine T.cond rfl (fun hb9 => ?_) (fun hb9 => ?_)
          · replace h := ifT hb9 h
            refine T.skip ?_
            refine T.block ?_
            refine T.region ?_
            refine Run.go (Ev.move rfl rfl) ?_
            refine Run.go (Ev.move rfl rfl) ?_
            cases h
          · replace h := ifF hb9 h
            refine T.exit ?_
            cases h
            cases hz1
            exact ⟨(), trivial, Ghost.only [(1, 1)] [8, 9] rfl⟩
      · refine T.seq ?_
        refine T.block ?_
        refine T.seq ?_
        refine T.region ?_
        refine Run.go (Ev.move rfl rfl) ?_
        refine Run.go (Ev.e_nc rfl rfl rfl rfl) ?_
        refine Run.go (Ev.fieldBoxN fo34_1 sz3 rfl rfl rfl rfl) ?_
        refine Run.go (Ev.loadCell X rfl rfl rfl rfl rfl rfl) ?_
        refine Run.go (Ev.int rfl rfl rfl rfl trivial) ?_
        refine Run.go (Ev.assign rfl rfl) ?_
        refine Run.nil ?_
        refine T.cond rfl (fun hb10 => ?_) (fun hb10 => ?_)
        · replace h := ifT hb10 h
          refine T.seq ?_
          refine T.drawM [1] [0, 1, 3, 7, 0, 31, 63] (by kernel_rfl) (by kernel_rfl) ?_
          refine RunD.w (fun _ => Ev.move rfl rfl) ?_
          refine RunD.mD rfl (Ev.e_nc rfl rfl rfl rfl) ?_
          refine RunD.a rfl rfl (Ev.fieldBoxN fo34_1 sz3 rfl rfl rfl rfl) ?_
          refine RunD.a rfl rfl (Ev.loadCell X rfl rfl rfl rfl rfl rfl) ?_
          refine RunD.w (fun _ => Ev.assign rfl rfl) ?_
          refine RunD.w (fun _ => Ev.assign rfl rfl) ?_
          refine RunD.w (fun _ => Ev.assign rfl rfl) ?_
          refine RunD.nil ?_
          refine T.ret ?_
          cases h
          exact Fin.many X rfl (.cons (.tmp .nilv) (.cons (.tmp .v) (.cons (.tmp .v) .nil))) rfl
        · replace h := ifF hb10 h
          refine T.seq ?_
          refine T.region ?_
          refine Run.go (Ev.move rfl rfl) ?_
          refine Run.go (Ev.e_nc rfl rfl rfl rfl) ?_
          refine Run.go (Ev.fieldBoxN fo34_2 sz3 rfl rfl rfl rfl) ?_
          refine Run.go (Ev.loadCell X rfl rfl rfl rfl rfl rfl) ?_
          refine Run.go (Ev.int rfl rfl rfl rfl trivial) ?_
          refine Run.go (Ev.assign rfl rfl) ?_
          refine Run.nil ?_
          refine T.condF rfl hb10 ?_
          refine T.skip ?_
          refine T.seq ?_
          refine T.region ?_
          refine Run.go (Ev.move rfl rfl) ?_
          refine Run.go (Ev.assign rfl rfl) ?_
          refine Run.go (Ev.assign rfl rfl) ?_
          refine Run.go (Ev.assign rfl rfl) ?_
          refine Run.nil ?_
          refine T.ret ?_
          cases h
          exact Fin.many X rfl (.cons (.tmp .nilv) (.cons (.tmp .v) (.cons (.tmp .v) .nil))) rfl
  · replace h := altR h
    refine Run.go (Ev.w1 (Ev.lendM [] [(2, 11)] en8 (k_lex_New_M e1) rfl (.cons (.ren rfl) .nil) rfl rfl rfl rfl rfl (A := .tup [.box 11 0, .v (.int .i64) v3b.1, .v (.int .i64) v3b.2.1]) rfl (W := [(11, .box [.v (.sl Y_lex_Token) v3b.2.2.1, .v (.int .i64) v3b.2.2.2])]) rfl rfl)) ?_
    refine Run.go (Ev.move rfl rfl) ?_
    refine Run.go (Ev.extract rfl rfl rfl) ?_
    refine Run.go (Ev.extract rfl rfl rfl) ?_
    refine Run.go (Ev.extract rfl rfl rfl) ?_
    refine Run.go (Ev.assign rfl rfl) ?_
    refine Run.go (Ev.assign rfl rfl) ?_
    refine Run.go (Ev.assign rfl rfl) ?_
    refine Run.nil ?_
    refine T.seq ?_
    refine T.seq ?_
    refine T.region ?_
    refine Run.go (Ev.move rfl rfl) ?_
    refine Run.go (Ev.int rfl rfl rfl rfl trivial) ?_
    refine Run.nil ?_
    refine T.cond rfl (fun hb11 => ?_) (fun hb11 => ?_)
    · replace h := ifT hb11 h
      refine T.seq ?_
      refine T.region ?_
      refine Run.go (Ev.move rfl rfl) ?_
      refine Run.go (Ev.move rfl rfl) ?_
      refine Run.go (Ev.assign rfl rfl) ?_
      refine Run.go (Ev.assign rfl rfl) ?_
      refine Run.go (Ev.assign rfl rfl) ?_
      refine Run.nil ?_
      refine T.ret ?_
      cases h
      exact Fin.many X rfl (.cons (.tmp .nilv) (.cons (.tmp .v) (.cons (.tmp .v) .nil))) rfl
    · replace h := ifF hb11 h
      refine T.skip ?_
      refine T.seq ?_
      refine T.region ?_
      refine Run.go (Ev.move rfl rfl) ?_
      refine Run.go (Ev.structC pl34 zs34 rfl rfl rfl) ?_
      refine Run.go (Ev.boxC 12 rfl rfl rfl rfl) ?_
      refine Run.go (Ev.assign rfl rfl) ?_
      refine Run.nil ?_
      refine T.seq ?_
      refine T.region ?_
      refine Run.go (Ev.assign rfl rfl) ?_
      refine Run.nil ?_
      obtain ⟨⟨v12, v13, v14, v15⟩, hv, h⟩ := bdS h
      refine T.cut (fun _ : Unit => (⟨[(8, .box 12 0), (9, .own 18)], [(12, .box [.box 11 0, .v (.int .i64) v12, .v (.int .i64) v13]), (18, .arr 39 Y_api_Query v14), (11, .box [.v (.sl Y_lex_Token) v15, .v (.int .i64) v3b.2.2.2])], 62⟩ : St)) (fun _ => True) ?_ (fun _ _ => ?_)
      · replace h := hv
        clear hv
        refine T.block ?_
        refine T.loop (LoopT.ghost (Ghost.trans (Ghost.empty 9 58 39 Y_api_Query rfl rfl) (Ghost.only [(12, 12), (58, 45), (11, 11)] [8, 9] rfl)) (LoopT.run (fun q : Int × Int × (List D_api_Query) × (List D_lex_Token) => (⟨[(8, .box 12 0), (9, .own 45)], [(12, .box [.box 11 0, .v (.int .i64) q.1, .v (.int .i64) q.2.1]), (45, .arr 39 Y_api_Query q.2.2.1), (11, .box [.v (.sl Y_lex_Token) q.2.2.2, .v (.int .i64) v3b.2.2.2])], 62⟩ : St)) (fun q z1 h hz1 => ?_) h))
        obtain ⟨v16, v17, v18, v19⟩ := q
        dsimp only
        rw [m_askread_Read_l2] at h
        refine T.seq ?_
        obtain ⟨v20, hv, h⟩ := bdS h
        refine T.cut (fun _ : Unit => (⟨[(8, .box 12 0), (9, .own 45), (35, .v .bool v20)], [(12, .box [.box 11 0, .v (.int .i64) v16, .v (.int .i64) v17]), (45, .arr 39 Y_api_Query v18), (11, .box [.v (.sl Y_lex_Token) v19, .v (.int .i64) v3b.2.2.2])], 62⟩ : St)) (fun _ => True) ?_ (fun _ _ => ?_)
        · replace h := hv
          clear hv
          refine T.region ?_
          refine Run.go (Ev.move rfl rfl) ?_
          refine Run.go (Ev.e_nc rfl rfl rfl rfl) ?_
          refine Run.go (Ev.fieldBoxN fo34_1 sz3 rfl rfl rfl rfl) ?_
          refine Run.go (Ev.loadCell X rfl rfl rfl rfl rfl rfl) ?_
          refine Run.go (Ev.int rfl rfl rfl rfl trivial) ?_
          refine Run.go (Ev.move rfl rfl) ?_
          rcases boolCases (decide (v16 = 0)) with hb21 | hb21
          · replace h := ifT hb21 h
            refine Run.on rfl rfl rfl hb21 (Ev.move rfl rfl) ?_
            refine Run.on rfl rfl rfl hb21 (Ev.e_nc rfl rfl rfl rfl) ?_
            refine Run.on rfl rfl rfl hb21 (Ev.fieldBoxN fo34_0 sz29 rfl rfl rfl rfl) ?_
            refine Run.on rfl rfl rfl hb21 (Ev.loadOne sz29 rfl rfl rfl rfl) ?_
            obtain ⟨x23, e22, h⟩ := bdS h
            refine Run.on rfl rfl rfl hb21 (Ev.w1 (Ev.lendM [(11, 1)] [(1, 11)] en9 (k_lex_Reader_Done_M_2 e22) rfl (.cons (.ren rfl) .nil) rfl rfl rfl rfl rfl (A := .v .bool (decide ((v19.length : Int) = 0) : Bool)) rfl (W := [(11, .box [.v (.sl Y_lex_Token) v19, .v (.int .i64) v3b.2.2.2])]) rfl rfl)) ?_
            refine Run.on rfl rfl rfl hb21 (Ev.not rfl rfl) ?_
            refine Run.go (Ev.pickT rfl hb21 rfl rfl) ?_
            refine Run.nil ?_
            cases h
            exact ⟨(), trivial, Ghost.only [(12, 12), (45, 45), (11, 11)] [8, 9, 35] rfl⟩
          · replace h := ifF hb21 h
            refine Run.offT rfl rfl rfl rfl hb21 ?_
            refine Run.offT rfl rfl rfl rfl hb21 ?_
            refine Run.offT rfl rfl rfl rfl hb21 ?_
            refine Run.offT rfl rfl rfl rfl hb21 ?_
            refine Run.offT rfl rfl rfl rfl hb21 ?_
            refine Run.offT rfl rfl rfl rfl hb21 ?_
            refine Run.go (Ev.pickF rfl hb21 rfl rfl) ?_
            refine Run.nil ?_
            cases h
            exact ⟨(), trivial, Ghost.only [(12, 12), (45, 45), (11, 11)] [8, 9, 35] rfl⟩
        · refine T.cond rfl (fun hb24 => ?_) (fun hb24 => ?_)
          · replace h := ifT hb24 h
            refine T.skip ?_
            refine T.block ?_
            refine T.region ?_
            refine Run.go (Ev.move rfl rfl) ?_
            refine Run.go (Ev.move rfl rfl) ?_
            obtain ⟨x26, e25, h⟩ := bdS h
            refine Run.go (Ev.w2 (Ev.lendM [(12, 1), (11, 2)] [(1, 12), (2, 11)] en10 (k_askread_reader_query_M e25) rfl (.cons (.ren rfl) .nil) rfl rfl rfl rfl rfl (A := .v Y_api_Query x26.1) rfl (W := [(12, .box [.box 11 0, .v (.int .i64) x26.2.1, .v (.int .i64) x26.2.2.1]), (11, .box [.v (.sl Y_lex_Token) x26.2.2.2, .v (.int .i64) v3b.2.2.2])]) rfl rfl)) ?_
            refine Run.go (Ev.build X 62 rfl rfl rfl rfl rfl rfl rfl rfl) ?_
            obtain ⟨x27, e28, h⟩ := bdS h
            refine Run.go (Ev.e_ap X 63 e28 rfl rfl rfl (.own rfl) rfl rfl rfl rfl rfl) ?_
            refine Run.go (Ev.assign rfl rfl) ?_
            refine Run.nil ?_
            cases h
            exact LoopT.ghost (Ghost.only [(12, 12), (63, 45), (11, 11)] [8, 9] rfl) hz1
          · replace h := ifF hb24 h
            refine T.exit ?_
            cases h
            cases hz1
            exact ⟨(), trivial, Ghost.only [(12, 12), (45, 18), (11, 11)] [8, 9] rfl⟩
      · refine T.seq ?_
        refine T.block ?_
        refine T.seq ?_
        refine T.region ?_
        refine Run.go (Ev.move rfl rfl) ?_
        refine Run.go (Ev.e_nc rfl rfl rfl rfl) ?_
        refine Run.go (Ev.fieldBoxN fo34_1 sz3 rfl rfl rfl rfl) ?_
        refine Run.go (Ev.loadCell X rfl rfl rfl rfl rfl rfl) ?_
        refine Run.go (Ev.int rfl rfl rfl rfl trivial) ?_
        refine Run.go (Ev.assign rfl rfl) ?_
        refine Run.nil ?_
        refine T.cond rfl (fun hb29 => ?_) (fun hb29 => ?_)
        · replace h := ifT hb29 h
          refine T.seq ?_
          refine T.drawM [1] [0, 1, 3, 7, 0, 31, 63] (by kernel_rfl) (by kernel_rfl) ?_
          refine RunD.w (fun _ => Ev.move rfl rfl) ?_
          refine RunD.mD rfl (Ev.e_nc rfl rfl rfl rfl) ?_
          refine RunD.a rfl rfl (Ev.fieldBoxN fo34_1 sz3 rfl rfl rfl rfl) ?_
          refine RunD.a rfl rfl (Ev.loadCell X rfl rfl rfl rfl rfl rfl) ?_
          refine RunD.w (fun _ => Ev.assign rfl rfl) ?_
          refine RunD.w (fun _ => Ev.assign rfl rfl) ?_
          refine RunD.w (fun _ => Ev.assign rfl rfl) ?_
          refine RunD.nil ?_
          refine T.ret ?_
          cases h
          exact Fin.many X rfl (.cons (.tmp .nilv) (.cons (.tmp .v) (.cons (.tmp .v) .nil))) rfl
        · replace h := ifF hb29 h
          refine T.seq ?_
          refine T.region ?_
          refine Run.go (Ev.move rfl rfl) ?_
          refine Run.go (Ev.e_nc rfl rfl rfl rfl) ?_
          refine Run.go (Ev.fieldBoxN fo34_2 sz3 rfl rfl rfl rfl) ?_
          refine Run.go (Ev.loadCell X rfl rfl rfl rfl rfl rfl) ?_
          refine Run.go (Ev.int rfl rfl rfl rfl trivial) ?_
          refine Run.go (Ev.assign rfl rfl) ?_
          refine Run.nil ?_
          refine T.cond rfl (fun hb30 => ?_) (fun hb30 => ?_)
          · replace h := ifT hb30 h
            refine T.seq ?_
            refine T.drawM [1] [0, 1, 3, 7, 0, 31, 63] (by kernel_rfl) (by kernel_rfl) ?_
            refine RunD.w (fun _ => Ev.move rfl rfl) ?_
            refine RunD.mD rfl (Ev.e_nc rfl rfl rfl rfl) ?_
            refine RunD.a rfl rfl (Ev.fieldBoxN fo34_2 sz3 rfl rfl rfl rfl) ?_
            refine RunD.a rfl rfl (Ev.loadCell X rfl rfl rfl rfl rfl rfl) ?_
            refine RunD.w (fun _ => Ev.assign rfl rfl) ?_
            refine RunD.w (fun _ => Ev.assign rfl rfl) ?_
            refine RunD.w (fun _ => Ev.assign rfl rfl) ?_
            refine RunD.nil ?_
            refine T.ret ?_
            cases h
            exact Fin.many X rfl (.cons (.tmp .nilv) (.cons (.tmp .v) (.cons (.tmp .v) .nil))) rfl
          · replace h := ifF hb30 h
            refine T.skip ?_
            refine T.seq ?_
            refine T.region ?_
            refine Run.go (Ev.move rfl rfl) ?_
            refine Run.go (Ev.assign rfl rfl) ?_
            refine Run.go (Ev.assign rfl rfl) ?_
            refine Run.go (Ev.assign rfl rfl) ?_
            refine Run.nil ?_
            refine T.ret ?_
            cases h
            exact Fin.many X rfl (.cons (.tmp (.own rfl)) (.cons (.tmp .v) (.cons (.tmp .v) .nil))) rfl
theorem en45 : Enters Tryz.prog 45 := ⟨_, Tryz.func45, rfl, rfl⟩
theorem k_triviumref19_mark {p0 : Int} {y : Bool} (h : m_triviumref19_mark p0 = some y) : Spec Tryz.prog 45 [(.v (.int .u8) p0)] (.v .bool y) [] := by
  rw [m_triviumref19_mark] at h
  refine enterN [(.v (.int .u8) p0)] 21 Tryz.func45 rfl rfl rfl ?_
  refine T.seq ?_
  refine T.region ?_
  refine Run.go (Ev.assign rfl rfl) ?_
  refine Run.nil ?_
  refine T.seq ?_
  refine T.region ?_
  refine Run.go (Ev.move rfl rfl) ?_
  refine Run.go (Ev.int rfl rfl rfl rfl trivial) ?_
  refine Run.go (Ev.move rfl rfl) ?_
  rcases boolCases (decide (p0 = 123)) with hb1 | hb1
  · replace h := ifT hb1 h
    refine Run.offT rfl rfl rfl rfl hb1 ?_
    refine Run.offT rfl rfl rfl rfl hb1 ?_
    refine Run.go (Ev.pickT rfl hb1 rfl rfl) ?_
    refine Run.go (Ev.move rfl rfl) ?_
    refine Run.offT rfl rfl rfl rfl rfl ?_
    refine Run.offT rfl rfl rfl rfl rfl ?_
    refine Run.go (Ev.pickT rfl rfl rfl rfl) ?_
    refine Run.go (Ev.move rfl rfl) ?_
    refine Run.offT rfl rfl rfl rfl rfl ?_
    refine Run.offT rfl rfl rfl rfl rfl ?_
    refine Run.go (Ev.pickT rfl rfl rfl rfl) ?_
    refine Run.go (Ev.move rfl rfl) ?_
    refine Run.offT rfl rfl rfl rfl rfl ?_
    refine Run.offT rfl rfl rfl rfl rfl ?_
    refine Run.go (Ev.pickT rfl rfl rfl rfl) ?_
    refine Run.go (Ev.assign rfl rfl) ?_
    refine Run.nil ?_
    refine T.ret ?_
    cases h
    exact Fin.one rfl .v
  · replace h := ifF hb1 h
    refine Run.on rfl rfl rfl hb1 (Ev.move rfl rfl) ?_
    refine Run.on rfl rfl rfl hb1 (Ev.int rfl rfl rfl rfl trivial) ?_
    refine Run.go (Ev.pickF rfl hb1 rfl rfl) ?_
    refine Run.go (Ev.move rfl rfl) ?_
    rcases boolCases (decide (p0 = 125)) with hb2 | hb2
    · replace h := ifT hb2 h
      refine Run.offT rfl rfl rfl rfl hb2 ?_
      refine Run.offT rfl rfl rfl rfl hb2 ?_
      refine Run.go (Ev.pickT rfl hb2 rfl rfl) ?_
      refine Run.go (Ev.move rfl rfl) ?_
      refine Run.offT rfl rfl rfl rfl rfl ?_
      refine Run.offT rfl rfl rfl rfl rfl ?_
      refine Run.go (Ev.pickT rfl rfl rfl rfl) ?_
      refine Run.go (Ev.move rfl rfl) ?_
      refine Run.offT rfl rfl rfl rfl rfl ?_
      refine Run.offT rfl rfl rfl rfl rfl ?_
      refine Run.go (Ev.pickT rfl rfl rfl rfl) ?_
      refine Run.go (Ev.assign rfl rfl) ?_
      refine Run.nil ?_
      refine T.ret ?_
      cases h
      exact Fin.one rfl .v
    · replace h := ifF hb2 h
      refine Run.on rfl rfl rfl hb2 (Ev.move rfl rfl) ?_
      refine Run.on rfl rfl rfl hb2 (Ev.int rfl rfl rfl rfl trivial) ?_
      refine Run.go (Ev.pickF rfl hb2 rfl rfl) ?_
      refine Run.go (Ev.move rfl rfl) ?_
      rcases boolCases (decide (p0 = 59)) with hb3 | hb3
      · replace h := ifT hb3 h
        refine Run.offT rfl rfl rfl rfl hb3 ?_
        refine Run.offT rfl rfl rfl rfl hb3 ?_
        refine Run.go (Ev.pickT rfl hb3 rfl rfl) ?_
        refine Run.go (Ev.move rfl rfl) ?_
        refine Run.offT rfl rfl rfl rfl rfl ?_
        refine Run.offT rfl rfl rfl rfl rfl ?_
        refine Run.go (Ev.pickT rfl rfl rfl rfl) ?_
        refine Run.go (Ev.assign rfl rfl) ?_
        refine Run.nil ?_
        refine T.ret ?_
        cases h
        exact Fin.one rfl .v
      · replace h := ifF hb3 h
        refine Run.on rfl rfl rfl hb3 (Ev.move rfl rfl) ?_
        refine Run.on rfl rfl rfl hb3 (Ev.int rfl rfl rfl rfl trivial) ?_
        refine Run.go (Ev.pickF rfl hb3 rfl rfl) ?_
        refine Run.go (Ev.move rfl rfl) ?_
        rcases boolCases (decide (p0 = 44)) with hb4 | hb4
        · replace h := ifT hb4 h
          refine Run.offT rfl rfl rfl rfl hb4 ?_
          refine Run.offT rfl rfl rfl rfl hb4 ?_
          refine Run.go (Ev.pickT rfl hb4 rfl rfl) ?_
          refine Run.go (Ev.assign rfl rfl) ?_
          refine Run.nil ?_
          refine T.ret ?_
          cases h
          exact Fin.one rfl .v
        · replace h := ifF hb4 h
          refine Run.on rfl rfl rfl hb4 (Ev.move rfl rfl) ?_
          refine Run.on rfl rfl rfl hb4 (Ev.int rfl rfl rfl rfl trivial) ?_
          refine Run.go (Ev.pickF rfl hb4 rfl rfl) ?_
          refine Run.go (Ev.assign rfl rfl) ?_
          refine Run.nil ?_
          refine T.ret ?_
          cases h
          exact Fin.one rfl .v
theorem en46 : Enters Tryz.prog 46 := ⟨_, Tryz.func46, rfl, rfl⟩
set_option maxHeartbeats 1000000 in
theorem k_triviumref19_figure {p0 : Int} {y : Bool} (h : m_triviumref19_figure p0 = some y) : Spec Tryz.prog 46 [(.v (.int .u8) p0)] (.v .bool y) [] := by
  rw [m_triviumref19_figure] at h
  refine enterN [(.v (.int .u8) p0)] 21 Tryz.func46 rfl rfl rfl ?_
  refine T.seq ?_
  refine T.region ?_
  refine Run.go (Ev.assign rfl rfl) ?_
  refine Run.nil ?_
  refine T.seq ?_
  refine T.region ?_
  refine Run.go (Ev.move rfl rfl) ?_
  refine Run.go (Ev.int rfl rfl rfl rfl trivial) ?_
  refine Run.go (Ev.move rfl rfl) ?_
  rcases boolCases (decide (48 ≤ p0)) with hb1 | hb1
  · replace h := ifT hb1 h
    refine Run.on rfl rfl rfl hb1 (Ev.move rfl rfl) ?_
    refine Run.on rfl rfl rfl hb1 (Ev.int rfl rfl rfl rfl trivial) ?_
    refine Run.go (Ev.pickT rfl hb1 rfl rfl) ?_
    refine Run.go (Ev.move rfl rfl) ?_
    rcases boolCases (decide (p0 ≤ 57)) with hb2 | hb2
    · replace h := ifT hb2 h
      refine Run.offT rfl rfl rfl rfl hb2 ?_
      refine Run.offT rfl rfl rfl rfl hb2 ?_
      refine Run.go (Ev.pickT rfl hb2 rfl rfl) ?_
      refine Run.go (Ev.move rfl rfl) ?_
      refine Run.offT rfl rfl rfl rfl rfl ?_
      refine Run.offT rfl rfl rfl rfl rfl ?_
      refine Run.go (Ev.pickT rfl rfl rfl rfl) ?_
      refine Run.go (Ev.move rfl rfl) ?_
      refine Run.offT rfl rfl rfl rfl rfl ?_
      refine Run.offT rfl rfl rfl rfl rfl ?_
      refine Run.go (Ev.pickT rfl rfl rfl rfl) ?_
      refine Run.go (Ev.assign rfl rfl) ?_
      refine Run.nil ?_
      refine T.ret ?_
      cases h
      exact Fin.one rfl .v
    · replace h := ifF hb2 h
      refine Run.on rfl rfl rfl hb2 (Ev.move rfl rfl) ?_
      refine Run.on rfl rfl rfl hb2 (Ev.int rfl rfl rfl rfl trivial) ?_
      refine Run.go (Ev.pickF rfl hb2 rfl rfl) ?_
      refine Run.go (Ev.move rfl rfl) ?_
      rcases boolCases (decide (p0 = 46)) with hb3 | hb3
      · replace h := ifT hb3 h
        refine Run.offT rfl rfl rfl rfl hb3 ?_
        refine Run.offT rfl rfl rfl rfl hb3 ?_
        refine Run.go (Ev.pickT rfl hb3 rfl rfl) ?_
        refine Run.go (Ev.move rfl rfl) ?_
        refine Run.offT rfl rfl rfl rfl rfl ?_
        refine Run.offT rfl rfl rfl rfl rfl ?_
        refine Run.go (Ev.pickT rfl rfl rfl rfl) ?_
        refine Run.go (Ev.assign rfl rfl) ?_
        refine Run.nil ?_
        refine T.ret ?_
        cases h
        exact Fin.one rfl .v
      · replace h := ifF hb3 h
        refine Run.on rfl rfl rfl hb3 (Ev.move rfl rfl) ?_
        refine Run.on rfl rfl rfl hb3 (Ev.int rfl rfl rfl rfl trivial) ?_
        refine Run.go (Ev.pickF rfl hb3 rfl rfl) ?_
        refine Run.go (Ev.move rfl rfl) ?_
        rcases boolCases (decide (p0 = 47)) with hb4 | hb4
        · replace h := ifT hb4 h
          refine Run.offT rfl rfl rfl rfl hb4 ?_
          refine Run.offT rfl rfl rfl rfl hb4 ?_
          refine Run.go (Ev.pickT rfl hb4 rfl rfl) ?_
          refine Run.go (Ev.assign rfl rfl) ?_
          refine Run.nil ?_
          refine T.ret ?_
          cases h
          exact Fin.one rfl .v
        · replace h := ifF hb4 h
          refine Run.on rfl rfl rfl hb4 (Ev.move rfl rfl) ?_
          refine Run.on rfl rfl rfl hb4 (Ev.int rfl rfl rfl rfl trivial) ?_
          refine Run.go (Ev.pickF rfl hb4 rfl rfl) ?_
          refine Run.go (Ev.assign rfl rfl) ?_
          refine Run.nil ?_
          refine T.ret ?_
          cases h
          exact Fin.one rfl .v
  · replace h := ifF hb1 h
    refine Run.offT rfl rfl rfl rfl hb1 ?_
    refine Run.offT rfl rfl rfl rfl hb1 ?_
    refine Run.go (Ev.pickF rfl hb1 rfl rfl) ?_
    refine Run.go (Ev.move rfl rfl) ?_
    refine Run.on rfl rfl rfl rfl (Ev.move rfl rfl) ?_
    refine Run.on rfl rfl rfl rfl (Ev.int rfl rfl rfl rfl trivial) ?_
    refine Run.go (Ev.pickF rfl rfl rfl rfl) ?_
    refine Run.go (Ev.move rfl rfl) ?_
    rcases boolCases (decide (p0 = 46)) with hb5 | hb5
    · replace h := ifT hb5 h
      refine Run.offT rfl rfl rfl rfl hb5 ?_
      refine Run.offT rfl rfl rfl rfl hb5 ?_
      refine Run.go (Ev.pickT rfl hb5 rfl rfl) ?_
      refine Run.go (Ev.move rfl rfl) ?_
      refine Run.offT rfl rfl rfl rfl rfl ?_
      refine Run.offT rfl rfl rfl rfl rfl ?_
      refine Run.go (Ev.pickT rfl rfl rfl rfl) ?_
      refine Run.go (Ev.assign rfl rfl) ?_
      refine Run.nil ?_
      refine T.ret ?_
      cases h
      exact Fin.one rfl .v
    · replace h := ifF hb5 h
      refine Run.on rfl rfl rfl hb5 (Ev.move rfl rfl) ?_
      refine Run.on rfl rfl rfl hb5 (Ev.int rfl rfl rfl rfl trivial) ?_
      refine Run.go (Ev.pickF rfl hb5 rfl rfl) ?_
      refine Run.go (Ev.move rfl rfl) ?_
      rcases boolCases (decide (p0 = 47)) with hb6 | hb6
      · replace h := ifT hb6 h
        refine Run.offT rfl rfl rfl rfl hb6 ?_
        refine Run.offT rfl rfl rfl rfl hb6 ?_
        refine Run.go (Ev.pickT rfl hb6 rfl rfl) ?_
        refine Run.go (Ev.assign rfl rfl) ?_
        refine Run.nil ?_
        refine T.ret ?_
        cases h
        exact Fin.one rfl .v
      · replace h := ifF hb6 h
        refine Run.on rfl rfl rfl hb6 (Ev.move rfl rfl) ?_
        refine Run.on rfl rfl rfl hb6 (Ev.int rfl rfl rfl rfl trivial) ?_
        refine Run.go (Ev.pickF rfl hb6 rfl rfl) ?_
        refine Run.go (Ev.assign rfl rfl) ?_
        refine Run.nil ?_
        refine T.ret ?_
        cases h
        exact Fin.one rfl .v
theorem en47 : Enters Tryz.prog 47 := ⟨_, Tryz.func47, rfl, rfl⟩
set_option maxHeartbeats 1000000 in
theorem k_triviumref17_Word {p0 : ByteArray} {y : Bool} (h : m_triviumref17_Word p0 = some y) : Spec Tryz.prog 47 [(.v .str p0)] (.v .bool y) [] := by
  rw [m_triviumref17_Word] at h
  refine enterN [(.v .str p0)] 49 Tryz.func47 rfl rfl rfl ?_
  refine T.seq ?_
  refine T.region ?_
  refine Run.go (Ev.assign rfl rfl) ?_
  refine Run.nil ?_
  refine T.seq ?_
  refine T.seq ?_
  refine T.region ?_
  refine Run.go (Ev.assign rfl rfl) ?_
  refine Run.nil ?_
  refine T.block ?_
  refine T.loop (LoopT.ghost (Ghost.only [] [0, 3] rfl) (LoopT.run (fun q : Int => (⟨[(0, .v .str p0), (3, .v (.int .i64) q)], [], 49⟩ : St)) (fun v1 z1 h hz1 => ?_) h))
  rw [m_triviumref17_Word_l1] at h
  refine T.seq ?_
  refine T.seq ?_
  refine T.region ?_
  refine Run.go (Ev.move rfl rfl) ?_
  refine Run.go (Ev.move rfl rfl) ?_
  refine Run.go (Ev.len X rfl rfl rfl rfl) ?_
  refine Run.go (Ev.int rfl rfl rfl rfl trivial) ?_
  refine Run.nil ?_
  refine T.cond rfl (fun hb2 => ?_) (fun hb2 => ?_)
  · replace h := ifT hb2 h
    refine T.skip ?_
    refine T.seq ?_
    refine T.block ?_
    refine T.seq ?_
    refine T.region ?_
    refine Run.go (Ev.move rfl rfl) ?_
    refine Run.go (Ev.move rfl rfl) ?_
    obtain ⟨x3, e4, h⟩ := bdS h
    refine Run.go (Ev.e_bt X e4 rfl rfl rfl rfl) ?_
    refine Run.go (Ev.assign rfl rfl) ?_
    refine Run.nil ?_
    obtain ⟨v5, hv, h⟩ := bdS h
    refine T.cut (fun _ : Unit => (⟨[(0, .v .str p0), (3, .v (.int .i64) v1), (4, .v (.int .u8) x3), (5, .v .bool v5)], [], 49⟩ : St)) (fun _ => True) ?_ (fun _ _ => ?_)
    · replace h := hv
      clear hv
      refine T.region ?_
      refine Run.go (Ev.move rfl rfl) ?_
      refine Run.go (Ev.int rfl rfl rfl rfl trivial) ?_
      refine Run.go (Ev.move rfl rfl) ?_
      rcases boolCases (decide (97 ≤ x3)) with hb6 | hb6
      · replace h := ifT hb6 h
        refine Run.on rfl rfl rfl hb6 (Ev.move rfl rfl) ?_
        refine Run.on rfl rfl rfl hb6 (Ev.int rfl rfl rfl rfl trivial) ?_
        refine Run.go (Ev.pickT rfl hb6 rfl rfl) ?_
        refine Run.go (Ev.assign rfl rfl) ?_
        refine Run.nil ?_
        cases h
        exact ⟨(), trivial, Ghost.only [] [0, 3, 4, 5] rfl⟩
      · replace h := ifF hb6 h
        refine Run.offT rfl rfl rfl rfl hb6 ?_
        refine Run.offT rfl rfl rfl rfl hb6 ?_
        refine Run.go (Ev.pickF rfl hb6 rfl rfl) ?_
        refine Run.go (Ev.assign rfl rfl) ?_
        refine Run.nil ?_
        cases h
        exact ⟨(), trivial, Ghost.only [] [0, 3, 4, 5] rfl⟩
    · obtain ⟨v7, hv, h⟩ := bdS h
      refine T.cut (fun _ : Unit => (⟨[(0, .v .str p0), (3, .v (.int .i64) v1), (5, .v .bool v5), (6, .v .bool v7)], [], 49⟩ : St)) (fun _ => True) ?_ (fun _ _ => ?_)
      · replace h := hv
        clear hv
        refine T.region ?_
        refine Run.go (Ev.move rfl rfl) ?_
        refine Run.go (Ev.int rfl rfl rfl rfl trivial) ?_
        refine Run.go (Ev.move rfl rfl) ?_
        rcases boolCases (decide (48 ≤ x3)) with hb8 | hb8
        · replace h := ifT hb8 h
          refine Run.on rfl rfl rfl hb8 (Ev.move rfl rfl) ?_
          refine Run.on rfl rfl rfl hb8 (Ev.int rfl rfl rfl rfl trivial) ?_
          refine Run.go (Ev.pickT rfl hb8 rfl rfl) ?_
          refine Run.go (Ev.move rfl rfl) ?_
          rcases boolCases (decide (x3 ≤ 57)) with hb9 | hb9
          · replace h := ifT hb9 h
            refine Run.offT rfl rfl rfl rfl hb9 ?_
            refine Run.offT rfl rfl rfl rfl hb9 ?_
            refine Run.go (Ev.pickT rfl hb9 rfl rfl) ?_
            refine Run.go (Ev.move rfl rfl) ?_
            refine Run.offT rfl rfl rfl rfl rfl ?_
            refine Run.offT rfl rfl rfl rfl rfl ?_
            refine Run.go (Ev.pickT rfl rfl rfl rfl) ?_
            refine Run.go (Ev.assign rfl rfl) ?_
            refine Run.nil ?_
            cases h
            exact ⟨(), trivial, Ghost.only [] [0, 3, 5, 6] rfl⟩
          · replace h := ifF hb9 h
            refine Run.on rfl rfl rfl hb9 (Ev.move rfl rfl) ?_
            refine Run.on rfl rfl rfl hb9 (Ev.int rfl rfl rfl rfl trivial) ?_
            refine Run.go (Ev.pickF rfl hb9 rfl rfl) ?_
            refine Run.go (Ev.move rfl rfl) ?_
            rcases boolCases (decide (x3 = 45)) with hb10 | hb10
            · replace h := ifT hb10 h
              refine Run.offT rfl rfl rfl rfl hb10 ?_
              refine Run.offT rfl rfl rfl rfl hb10 ?_
              refine Run.go (Ev.pickT rfl hb10 rfl rfl) ?_
              refine Run.go (Ev.assign rfl rfl) ?_
              refine Run.nil ?_
              cases h
              exact ⟨(), trivial, Ghost.only [] [0, 3, 5, 6] rfl⟩
            · replace h := ifF hb10 h
              refine Run.on rfl rfl rfl hb10 (Ev.move rfl rfl) ?_
              refine Run.on rfl rfl rfl hb10 (Ev.int rfl rfl rfl rfl trivial) ?_
              refine Run.go (Ev.pickF rfl hb10 rfl rfl) ?_
              refine Run.go (Ev.assign rfl rfl) ?_
              refine Run.nil ?_
              cases h
              exact ⟨(), trivial, Ghost.only [] [0, 3, 5, 6] rfl⟩
        · replace h := ifF hb8 h
          refine Run.offT rfl rfl rfl rfl hb8 ?_
          refine Run.offT rfl rfl rfl rfl hb8 ?_
          refine Run.go (Ev.pickF rfl hb8 rfl rfl) ?_
          refine Run.go (Ev.move rfl rfl) ?_
          refine Run.on rfl rfl rfl rfl (Ev.move rfl rfl) ?_
          refine Run.on rfl rfl rfl rfl (Ev.int rfl rfl rfl rfl trivial) ?_
          refine Run.go (Ev.pickF rfl rfl rfl rfl) ?_
          refine Run.go (Ev.move rfl rfl) ?_
          rcases boolCases (decide (x3 = 45)) with hb11 | hb11
          · replace h := ifT hb11 h
            refine Run.offT rfl rfl rfl rfl hb11 ?_
            refine Run.offT rfl rfl rfl rfl hb11 ?_
            refine Run.go (Ev.pickT rfl hb11 rfl rfl) ?_
            refine Run.go (Ev.assign rfl rfl) ?_
            refine Run.nil ?_
            cases h
            exact ⟨(), trivial, Ghost.only [] [0, 3, 5, 6] rfl⟩
          · replace h := ifF hb11 h
            refine Run.on rfl rfl rfl hb11 (Ev.move rfl rfl) ?_
            refine Run.on rfl rfl rfl hb11 (Ev.int rfl rfl rfl rfl trivial) ?_
            refine Run.go (Ev.pickF rfl hb11 rfl rfl) ?_
            refine Run.go (Ev.assign rfl rfl) ?_
            refine Run.nil ?_
            cases h
            exact ⟨(), trivial, Ghost.only [] [0, 3, 5, 6] rfl⟩
      · obtain ⟨v12, hv, h⟩ := bdS h
        refine T.cut (fun _ : Unit => (⟨[(0, .v .str p0), (3, .v (.int .i64) v1), (45, .v .bool v12)], [], 49⟩ : St)) (fun _ => True) ?_ (fun _ _ => ?_)
        · replace h := hv
          clear hv
          refine T.region ?_
          refine Run.go (Ev.move rfl rfl) ?_
          refine Run.go (Ev.not rfl rfl) ?_
          refine Run.go (Ev.move rfl rfl) ?_
          rcases boolCases (!v5) with hb13 | hb13
          · replace h := ifT hb13 h
            refine Run.on rfl rfl rfl hb13 (Ev.move rfl rfl) ?_
            refine Run.on rfl rfl rfl hb13 (Ev.int rfl rfl rfl rfl trivial) ?_
            refine Run.on rfl rfl rfl hb13 (Ev.move rfl rfl) ?_
            rcases boolCases (decide (v1 = 0)) with hb14 | hb14
            · replace h := ifT hb14 h
              refine Run.offT rfl rfl rfl rfl hb14 ?_
              refine Run.offT rfl rfl rfl rfl hb14 ?_
              refine Run.on rfl rfl rfl hb13 (Ev.pickT rfl hb14 rfl rfl) ?_
              refine Run.go (Ev.pickT rfl hb13 rfl rfl) ?_
              refine Run.nil ?_
              cases h
              exact ⟨(), trivial, Ghost.only [] [0, 3, 45] rfl⟩
            · replace h := ifF hb14 h
              refine Run.on rfl rfl rfl hb14 (Ev.move rfl rfl) ?_
              refine Run.on rfl rfl rfl hb14 (Ev.not rfl rfl) ?_
              refine Run.on rfl rfl rfl hb13 (Ev.pickF rfl hb14 rfl rfl) ?_
              refine Run.go (Ev.pickT rfl hb13 rfl rfl) ?_
              refine Run.nil ?_
              cases h
              exact ⟨(), trivial, Ghost.only [] [0, 3, 45] rfl⟩
          · replace h := ifF hb13 h
            refine Run.offT rfl rfl rfl rfl hb13 ?_
            refine Run.offT rfl rfl rfl rfl hb13 ?_
            refine Run.offT rfl rfl rfl rfl hb13 ?_
            refine Run.un rfl rfl rfl ?_
            refine Run.un rfl rfl rfl ?_
            refine Run.offT rfl rfl rfl rfl hb13 ?_
            refine Run.go (Ev.pickF rfl hb13 rfl rfl) ?_
            refine Run.nil ?_
            cases h
            exact ⟨(), trivial, Ghost.only [] [0, 3, 45] rfl⟩
        · refine T.cond rfl (fun hb15 => ?_) (fun hb15 => ?_)
          · replace h := ifT hb15 h
            refine T.seq ?_
            refine T.region ?_
            refine Run.go (Ev.assign rfl rfl) ?_
            refine Run.nil ?_
            refine T.ret ?_
            cases h
            cases hz1
            exact Fin.one rfl .v
          · replace h := ifF hb15 h
            refine T.skip ?_
            refine T.region ?_
            refine Run.go (Ev.move rfl rfl) ?_
            refine Run.go (Ev.int rfl rfl rfl rfl trivial) ?_
            refine Run.go (Ev.assign rfl rfl) ?_
            refine Run.nil ?_
            cases h
            exact LoopT.ghost (Ghost.only [] [0, 3] rfl) hz1
  · replace h := ifF hb2 h
    refine T.exit ?_
    refine T.seq ?_
    refine T.region ?_
    refine Run.go (Ev.move rfl rfl) ?_
    refine Run.go (Ev.len X rfl rfl rfl rfl) ?_
    refine Run.go (Ev.int rfl rfl rfl rfl trivial) ?_
    refine Run.go (Ev.assign rfl rfl) ?_
    refine Run.nil ?_
    refine T.ret ?_
    cases h
    cases hz1
    exact Fin.one rfl .v
end Go.Proofs.YtboghejfmmigkaaGreatDoor.AE
