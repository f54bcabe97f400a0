/- The code comes to the printed functions (printed by a program of ours). -/
import Derived.Test.YtfboepeadeafmaaGreatDoorQRB3
/- The code comes to the printed functions (printed by a program of ours). -/
namespace Go.Proofs.YtfboepeadeafmaaGreatDoor.AE
open Go Go.RowKit Go.Proofs.YtfboepeadeafmaaGreatDoor.AP
set_option linter.unusedVariables false
set_option maxRecDepth 20000
theorem en80 : Enters Tryz.prog 80 := ⟨_, Tryz.func80, rfl, rfl⟩
theorem k_divide_Small {p0 : (List Int)} {p1 : Int} {y : (List Int) × Int × Int} (h : m_divide_Small p0 p1 = some y) : Spec Tryz.prog 80 [(.v (.sl (.int .u64)) p0), (.v (.int .u64) p1)] (.tup [.v (.sl (.int .u64)) y.1, .v (.int .u64) y.2.1, .v (.int .i64) y.2.2]) [] := by
  rw [m_divide_Small] at h
  refine enterN [(.v (.sl (.int .u64)) p0), (.v (.int .u64) p1)] 51 Tryz.func80 rfl rfl rfl ?_
  refine T.seq ?_
  refine T.region ?_
  refine Run.go (Ev.assign rfl rfl) ?_
  refine Run.go (Ev.assign rfl rfl) ?_
  refine Run.go (Ev.assign rfl rfl) ?_
  refine Run.nil ?_
  refine T.seq ?_
  refine T.seq ?_
  refine T.region ?_
  refine Run.go (Ev.move rfl rfl) ?_
  obtain ⟨x1, e2, h⟩ := bdS h
  refine Run.go (Ev.e_rm e2 rfl rfl rfl) ?_
  refine Run.go (Ev.int rfl rfl rfl rfl trivial) ?_
  refine Run.nil ?_
  refine T.cond rfl (fun hb3 => ?_) (fun hb3 => ?_)
  · replace h := ifT hb3 h
    refine T.seq ?_
    refine T.region ?_
    refine Run.go (Ev.assign rfl rfl) ?_
    refine Run.go (Ev.assign rfl rfl) ?_
    refine Run.go (Ev.assign rfl rfl) ?_
    refine Run.nil ?_
    refine T.ret ?_
    cases h
    exact Fin.many X rfl (.cons (.tmp .nilv) (.cons (.tmp .v) (.cons (.tmp .v) .nil))) rfl
  · replace h := ifF hb3 h
    refine T.skip ?_
    refine T.seq ?_
    refine T.region ?_
    refine Run.go (Ev.move rfl rfl) ?_
    refine Run.go (Ev.len X rfl rfl rfl rfl) ?_
    obtain ⟨x4, e5, h⟩ := bdS h
    refine Run.go (Ev.e_mk X 1 e5 rfl rfl rfl rfl rfl rfl) ?_
    refine Run.go (Ev.assign rfl rfl) ?_
    refine Run.nil ?_
    refine T.seq ?_
    refine T.region ?_
    refine Run.go (Ev.assign rfl rfl) ?_
    refine Run.nil ?_
    obtain ⟨⟨v6, v7⟩, hv, h⟩ := bdS h
    refine T.cut (fun _ : Unit => (⟨[(7, .own 1), (8, .v (.int .u64) v6)], [(1, .arr 60 (.int .u64) v7)], 51⟩ : St)) (fun _ => True) ?_ (fun _ _ => ?_)
    · replace h := hv
      clear hv
      refine T.seq ?_
      refine T.region ?_
      refine Run.go (Ev.move rfl rfl) ?_
      refine Run.go (Ev.len X rfl rfl rfl rfl) ?_
      refine Run.go (Ev.move rfl rfl) ?_
      refine Run.nil ?_
      refine T.block ?_
      refine T.loop (LoopT.ghost (Ghost.only [(1, 1)] [0, 1, 7, 8, 20, 21] rfl) (LoopT.run (fun q : Int × Int × (List Int) => (⟨[(0, .v (.sl (.int .u64)) p0), (1, .v (.int .u64) p1), (7, .own 1), (8, .v (.int .u64) q.1), (20, .v (.int .i64) ((p0.length : Int) : Int)), (21, .v (.int .i64) q.2.1)], [(1, .arr 60 (.int .u64) q.2.2)], 51⟩ : St)) (fun q z1 h hz1 => ?_) h))
      obtain ⟨v8, v9, v10⟩ := q
      dsimp only
      rw [m_divide_Small_l1] at h
      refine T.seq ?_
      refine T.region ?_
      refine Run.go (Ev.int rfl rfl rfl rfl trivial) ?_
      refine Run.nil ?_
      refine T.seq ?_
      refine T.cond rfl (fun hb11 => ?_) (fun hb11 => ?_)
      · replace h := ifT hb11 h
        refine T.skip ?_
        refine T.seq ?_
        refine T.block ?_
        refine T.seq ?_
        refine T.region ?_
        refine Run.go (Ev.move rfl rfl) ?_
        refine Run.go (Ev.assign rfl rfl) ?_
        refine Run.nil ?_
        refine T.seq ?_
        refine T.region ?_
        refine Run.go (Ev.move rfl rfl) ?_
        refine Run.go (Ev.len X rfl rfl rfl rfl) ?_
        refine Run.go (Ev.int rfl rfl rfl rfl trivial) ?_
        refine Run.go (Ev.move rfl rfl) ?_
        refine Run.go (Ev.int rfl rfl rfl rfl trivial) ?_
        obtain ⟨x12, e13, h⟩ := ltS h
        refine Run.go (Ev.avs (Ev.assign rfl rfl) e13) ?_
        refine Run.nil ?_
        refine T.region ?_
        refine Run.go (Ev.move rfl rfl) ?_
        refine Run.go (Ev.move rfl rfl) ?_
        refine Run.go (Ev.move rfl rfl) ?_
        refine Run.go (Ev.move rfl rfl) ?_
        refine Run.go (Ev.move rfl rfl) ?_
        obtain ⟨x14, e15, h⟩ := bdS h
        refine Run.go (Ev.e_rd X e15 rfl rfl rfl rfl) ?_
        refine Run.go (Ev.load X rfl rfl rfl) ?_
        refine Run.go (Ev.move rfl rfl) ?_
        obtain ⟨x16, e17, h⟩ := bdS h
        refine Run.go (Ev.callC en105 (k_limb_Div e17) rfl (.cons .v (.cons .v (.cons .v .nil))) rfl rfl) ?_
        refine Run.go (Ev.move rfl rfl) ?_
        refine Run.go (Ev.extract rfl rfl rfl) ?_
        refine Run.go (Ev.extract rfl rfl rfl) ?_
        refine Run.go (Ev.extract rfl rfl rfl) ?_
        obtain ⟨j18, e19, h⟩ := bdS h
        refine Run.go (Ev.e_ixO X e19 rfl rfl rfl rfl rfl) ?_
        obtain ⟨x20, e21, h⟩ := ltS h
        refine Run.do_ (Ev.asO (Ev.storeEl X rfl rfl rfl rfl rfl) e21) ?_
        refine Run.go (Ev.assign rfl rfl) ?_
        refine Run.nil ?_
        refine T.region ?_
        refine Run.go (Ev.int rfl rfl rfl rfl trivial) ?_
        refine Run.go (Ev.move rfl rfl) ?_
        refine Run.nil ?_
        cases h
        exact LoopT.ghost (Ghost.only [(1, 1)] [0, 1, 7, 8, 20, 21] rfl) hz1
      · replace h := ifF hb11 h
        refine T.exit ?_
        cases h
        cases hz1
        exact ⟨(), trivial, Ghost.only [(1, 1)] [7, 8] rfl⟩
    · refine T.seq ?_
      refine T.region ?_
      refine Run.go (Ev.move rfl rfl) ?_
      refine Run.ghost (Ghost.firmAll (id := 1) rfl) ?_
      obtain ⟨x22, e23, h⟩ := bdS h
      refine Run.go (Ev.callC en72 (k_nat_Make e23) rfl (.cons .v .nil) rfl rfl) ?_
      refine Run.go (Ev.move rfl rfl) ?_
      refine Run.go (Ev.extract rfl rfl rfl) ?_
      refine Run.go (Ev.extract rfl rfl rfl) ?_
      refine Run.go (Ev.assign rfl rfl) ?_
      refine Run.go (Ev.assign rfl rfl) ?_
      refine Run.nil ?_
      refine T.seq ?_
      refine T.region ?_
      refine Run.go (Ev.move rfl rfl) ?_
      refine Run.go (Ev.move rfl rfl) ?_
      refine Run.go (Ev.assign rfl rfl) ?_
      refine Run.go (Ev.assign rfl rfl) ?_
      refine Run.go (Ev.assign rfl rfl) ?_
      refine Run.nil ?_
      refine T.ret ?_
      cases h
      exact Fin.many X rfl (.cons (.tmp .v) (.cons (.tmp .v) (.cons (.tmp .v) .nil))) rfl
theorem en125 : Enters Tryz.prog 125 := ⟨_, Tryz.func125, rfl, rfl⟩
theorem k_limb_Bits {p0 : Int} {y : Int} (h : m_limb_Bits p0 = some y) : Spec Tryz.prog 125 [(.v (.int .u64) p0)] (.v (.int .i64) y) [] := by
  rw [m_limb_Bits] at h
  refine enterN [(.v (.int .u64) p0)] 17 Tryz.func125 rfl rfl rfl ?_
  refine T.seq ?_
  refine T.region ?_
  refine Run.go (Ev.assign rfl rfl) ?_
  refine Run.nil ?_
  refine T.seq ?_
  refine T.region ?_
  refine Run.go (Ev.assign rfl rfl) ?_
  refine Run.nil ?_
  obtain ⟨v1, hv, h⟩ := bdS h
  refine T.cut (fun _ : Unit => (⟨[(3, .v (.int .i64) v1)], [], 17⟩ : St)) (fun _ => True) ?_ (fun _ _ => ?_)
  · replace h := hv
    clear hv
    refine T.seq ?_
    refine T.region ?_
    refine Run.go (Ev.move rfl rfl) ?_
    refine Run.nil ?_
    refine T.block ?_
    refine T.loop (LoopT.ghost (Ghost.only [] [0, 3, 5] rfl) (LoopT.run (fun q : Int × Int => (⟨[(0, .v (.int .u64) p0), (3, .v (.int .i64) q.1), (5, .v (.int .i64) q.2)], [], 17⟩ : St)) (fun q z1 h hz1 => ?_) h))
    obtain ⟨v2, v3⟩ := q
    dsimp only
    rw [m_limb_Bits_l1] at h
    refine T.seq ?_
    refine T.region ?_
    refine Run.go (Ev.int rfl rfl rfl rfl trivial) ?_
    refine Run.nil ?_
    refine T.seq ?_
    refine T.cond rfl (fun hb4 => ?_) (fun hb4 => ?_)
    · replace h := ifT hb4 h
      refine T.skip ?_
      obtain ⟨v5, hv, h⟩ := bdS h
      refine T.cut (fun _ : Unit => (⟨[(0, .v (.int .u64) p0), (3, .v (.int .i64) v5), (5, .v (.int .i64) v3)], [], 17⟩ : St)) (fun _ => True) ?_ (fun _ _ => ?_)
      · replace h := hv
        clear hv
        refine T.block ?_
        refine T.seq ?_
        refine T.region ?_
        refine Run.go (Ev.move rfl rfl) ?_
        refine Run.go (Ev.assign rfl rfl) ?_
        refine Run.nil ?_
        refine T.seq ?_
        refine T.region ?_
        refine Run.go (Ev.move rfl rfl) ?_
        refine Run.go (Ev.move rfl rfl) ?_
        obtain ⟨x6, e7, h⟩ := bdS h
        refine Run.go (Ev.e_sr e7 rfl rfl rfl) ?_
        refine Run.go (Ev.int rfl rfl rfl rfl trivial) ?_
        refine Run.go (Ev.int rfl rfl rfl rfl trivial) ?_
        refine Run.nil ?_
        refine T.cond rfl (fun hb8 => ?_) (fun hb8 => ?_)
        · replace h := ifT hb8 h
          refine T.region ?_
          refine Run.go (Ev.move rfl rfl) ?_
          refine Run.go (Ev.int rfl rfl rfl rfl trivial) ?_
          refine Run.go (Ev.assign rfl rfl) ?_
          refine Run.nil ?_
          cases h
          exact ⟨(), trivial, Ghost.only [] [0, 3, 5] rfl⟩
        · replace h := ifF hb8 h
          refine T.skip ?_
          cases h
          exact ⟨(), trivial, Ghost.only [] [0, 3, 5] rfl⟩
      · refine T.region ?_
        refine Run.go (Ev.int rfl rfl rfl rfl trivial) ?_
        refine Run.go (Ev.move rfl rfl) ?_
        refine Run.nil ?_
        cases h
        exact LoopT.ghost (Ghost.only [] [0, 3, 5] rfl) hz1
    · replace h := ifF hb4 h
      refine T.exit ?_
      cases h
      cases hz1
      exact ⟨(), trivial, Ghost.only [] [3] rfl⟩
  · refine T.seq ?_
    refine T.region ?_
    refine Run.go (Ev.move rfl rfl) ?_
    refine Run.go (Ev.assign rfl rfl) ?_
    refine Run.nil ?_
    refine T.ret ?_
    cases h
    exact Fin.one rfl .v
theorem en142 : Enters Tryz.prog 142 := ⟨_, Tryz.func142, rfl, rfl⟩
theorem k_nat_shift {p0 : Int} {y : Int} (h : m_nat_shift p0 = some y) : Spec Tryz.prog 142 [(.v (.int .i64) p0)] (.v (.int .i64) y) [] := by
  rw [m_nat_shift] at h
  refine enterN [(.v (.int .i64) p0)] 9 Tryz.func142 rfl rfl rfl ?_
  refine T.seq ?_
  refine T.region ?_
  refine Run.go (Ev.assign rfl rfl) ?_
  refine Run.nil ?_
  refine T.seq ?_
  obtain ⟨v1, hv, h⟩ := bdS h
  refine T.cut (fun _ : Unit => (⟨[(8, .v .bool v1)], [], 9⟩ : St)) (fun _ => True) ?_ (fun _ _ => ?_)
  · replace h := hv
    clear hv
    refine T.region ?_
    refine Run.go (Ev.move rfl rfl) ?_
    refine Run.go (Ev.int rfl rfl rfl rfl trivial) ?_
    refine Run.go (Ev.move rfl rfl) ?_
    rcases boolCases (decide (p0 < 0)) with hb2 | hb2
    · replace h := ifT hb2 h
      refine Run.offT rfl rfl rfl rfl hb2 ?_
      refine Run.offT rfl rfl rfl rfl hb2 ?_
      refine Run.go (Ev.pickT rfl hb2 rfl rfl) ?_
      refine Run.nil ?_
      cases h
      exact ⟨(), trivial, Ghost.only [] [8] rfl⟩
    · replace h := ifF hb2 h
      refine Run.on rfl rfl rfl hb2 (Ev.move rfl rfl) ?_
      refine Run.on rfl rfl rfl hb2 (Ev.int rfl rfl rfl rfl trivial) ?_
      refine Run.go (Ev.pickF rfl hb2 rfl rfl) ?_
      refine Run.nil ?_
      cases h
      exact ⟨(), trivial, Ghost.only [] [8] rfl⟩
  · refine T.cond rfl (fun hb3 => ?_) (fun hb3 => ?_)
    · replace h := ifT hb3 h
      refine T.seq ?_
      refine T.region ?_
      refine Run.go (Ev.assign rfl rfl) ?_
      refine Run.nil ?_
      refine T.ret ?_
      cases h
      exact Fin.one rfl .v
    · replace h := ifF hb3 h
      refine T.skip ?_
      refine T.seq ?_
      refine T.region ?_
      refine Run.go (Ev.assign rfl rfl) ?_
      refine Run.nil ?_
      refine T.ret ?_
      cases h
      exact Fin.one rfl .v
theorem en126 : Enters Tryz.prog 126 := ⟨_, Tryz.func126, rfl, rfl⟩
theorem k_nat_Shl {p0 : (List Int)} {p1 : Int} {y : (List Int) × Int} (h : m_nat_Shl p0 p1 = some y) : Spec Tryz.prog 126 [(.v (.sl (.int .u64)) p0), (.v (.int .i64) p1)] (.tup [.v (.sl (.int .u64)) y.1, .v (.int .i64) y.2]) [] := by
  rw [m_nat_Shl] at h
  refine enterN [(.v (.sl (.int .u64)) p0), (.v (.int .i64) p1)] 60 Tryz.func126 rfl rfl rfl ?_
  refine T.seq ?_
  refine T.region ?_
  refine Run.go (Ev.assign rfl rfl) ?_
  refine Run.go (Ev.assign rfl rfl) ?_
  refine Run.nil ?_
  refine T.seq ?_
  refine T.seq ?_
  refine T.region ?_
  refine Run.go (Ev.move rfl rfl) ?_
  obtain ⟨x1, e2, h⟩ := bdS h
  refine Run.go (Ev.callC en142 (k_nat_shift e2) rfl (.cons .v .nil) rfl rfl) ?_
  refine Run.go (Ev.assign rfl rfl) ?_
  refine Run.nil ?_
  obtain ⟨v3, hv, h⟩ := bdS h
  refine T.cut (fun _ : Unit => (⟨[(0, .v (.sl (.int .u64)) p0), (1, .v (.int .i64) p1), (6, .v (.int .i64) x1), (19, .v .bool v3)], [], 60⟩ : St)) (fun _ => True) ?_ (fun _ _ => ?_)
  · replace h := hv
    clear hv
    refine T.region ?_
    refine Run.go (Ev.move rfl rfl) ?_
    refine Run.go (Ev.int rfl rfl rfl rfl trivial) ?_
    refine Run.go (Ev.move rfl rfl) ?_
    rcases boolCases (!decide (x1 = 0)) with hb4 | hb4
    · replace h := ifT hb4 h
      refine Run.offT rfl rfl rfl rfl hb4 ?_
      refine Run.offT rfl rfl rfl rfl hb4 ?_
      refine Run.offT rfl rfl rfl rfl hb4 ?_
      refine Run.go (Ev.pickT rfl hb4 rfl rfl) ?_
      refine Run.nil ?_
      cases h
      exact ⟨(), trivial, Ghost.only [] [0, 1, 6, 19] rfl⟩
    · replace h := ifF hb4 h
      refine Run.on rfl rfl rfl hb4 (Ev.move rfl rfl) ?_
      refine Run.on rfl rfl rfl hb4 (Ev.len X rfl rfl rfl rfl) ?_
      refine Run.on rfl rfl rfl hb4 (Ev.int rfl rfl rfl rfl trivial) ?_
      refine Run.go (Ev.pickF rfl hb4 rfl rfl) ?_
      refine Run.nil ?_
      cases h
      exact ⟨(), trivial, Ghost.only [] [0, 1, 6, 19] rfl⟩
  · refine T.cond rfl (fun hb5 => ?_) (fun hb5 => ?_)
    · replace h := ifT hb5 h
      refine T.seq ?_
      refine T.region ?_
      refine Run.go (Ev.move rfl rfl) ?_
      refine Run.go (Ev.assign rfl rfl) ?_
      refine Run.go (Ev.assign rfl rfl) ?_
      refine Run.nil ?_
      refine T.ret ?_
      cases h
      exact Fin.many X rfl (.cons (.tmp .nilv) (.cons (.tmp .v) .nil)) rfl
    · replace h := ifF hb5 h
      refine T.skip ?_
      refine T.seq ?_
      refine T.region ?_
      refine Run.go (Ev.move rfl rfl) ?_
      refine Run.go (Ev.len X rfl rfl rfl rfl) ?_
      refine Run.go (Ev.move rfl rfl) ?_
      obtain ⟨x6, e7, h⟩ := bdS h
      refine Run.go (Ev.e_qd e7 rfl rfl rfl) ?_
      refine Run.go (Ev.int rfl rfl rfl rfl trivial) ?_
      refine Run.go (Ev.int rfl rfl rfl rfl trivial) ?_
      obtain ⟨x8, e9, h⟩ := bdS h
      refine Run.go (Ev.e_mk X 1 e9 rfl rfl rfl rfl rfl rfl) ?_
      refine Run.go (Ev.assign rfl rfl) ?_
      refine Run.nil ?_
      obtain ⟨v10, hv, h⟩ := bdS h
      refine T.cut (fun _ : Unit => (⟨[(7, .own 1)], [(1, .arr 60 (.int .u64) v10)], 60⟩ : St)) (fun _ => True) ?_ (fun _ _ => ?_)
      · replace h := hv
        clear hv
        refine T.seq ?_
        refine T.region ?_
        refine Run.go (Ev.move rfl rfl) ?_
        refine Run.go (Ev.len X rfl rfl rfl rfl) ?_
        refine Run.go (Ev.move rfl rfl) ?_
        refine Run.nil ?_
        refine T.block ?_
        refine T.loop (LoopT.ghost (Ghost.only [(1, 1)] [1, 7, 28, 29, 30] rfl) (LoopT.run (fun q : Int × (List Int) => (⟨[(1, .v (.int .i64) p1), (7, .own 1), (28, .v (.sl (.int .u64)) p0), (29, .v (.int .i64) ((p0.length : Int) : Int)), (30, .v (.int .i64) q.1)], [(1, .arr 60 (.int .u64) q.2)], 60⟩ : St)) (fun q z1 h hz1 => ?_) h))
        obtain ⟨v11, v12⟩ := q
        dsimp only
        rw [m_nat_Shl_l1] at h
        refine T.seq ?_
        refine T.region ?_
        refine Run.go (Ev.int rfl rfl rfl rfl trivial) ?_
        refine Run.nil ?_
        refine T.seq ?_
        refine T.cond rfl (fun hb13 => ?_) (fun hb13 => ?_)
        · replace h := ifT hb13 h
          refine T.skip ?_
          refine T.seq ?_
          refine T.block ?_
          refine T.seq ?_
          refine T.region ?_
          refine Run.go (Ev.move rfl rfl) ?_
          obtain ⟨x14, e15, h⟩ := bdS h
          refine Run.go (Ev.e_rd X e15 rfl rfl rfl rfl) ?_
          refine Run.go (Ev.load X rfl rfl rfl) ?_
          refine Run.go (Ev.assign rfl rfl) ?_
          refine Run.go (Ev.assign rfl rfl) ?_
          refine Run.nil ?_
          refine T.seq ?_
          refine T.region ?_
          refine Run.go (Ev.move rfl rfl) ?_
          refine Run.go (Ev.move rfl rfl) ?_
          obtain ⟨x16, e17, h⟩ := bdS h
          refine Run.go (Ev.e_qd e17 rfl rfl rfl) ?_
          refine Run.go (Ev.int rfl rfl rfl rfl trivial) ?_
          refine Run.go (Ev.assign rfl rfl) ?_
          refine Run.nil ?_
          refine T.seq ?_
          refine T.region ?_
          refine Run.go (Ev.move rfl rfl) ?_
          refine Run.go (Ev.move rfl rfl) ?_
          obtain ⟨x18, e19, h⟩ := bdS h
          refine Run.go (Ev.e_rm e19 rfl rfl rfl) ?_
          obtain ⟨x20, e21, h⟩ := bdS h
          refine Run.go (Ev.e_sh e21 rfl rfl rfl) ?_
          refine Run.go (Ev.assign rfl rfl) ?_
          refine Run.nil ?_
          refine T.seq ?_
          refine T.region ?_
          refine Run.go (Ev.move rfl rfl) ?_
          refine Run.go (Ev.move rfl rfl) ?_
          obtain ⟨x22, e23, h⟩ := bdS h
          refine Run.go (Ev.e_rdO X e23 rfl rfl rfl rfl rfl) ?_
          refine Run.go (Ev.e_ldO X (rdS e23).2 rfl rfl rfl rfl) ?_
          refine Run.go (Ev.move rfl rfl) ?_
          obtain ⟨x24, e25, h⟩ := bdS h
          refine Run.go (Ev.e_rm e25 rfl rfl rfl) ?_
          refine Run.go (Ev.int rfl rfl rfl rfl trivial) ?_
          obtain ⟨j26, e27, h⟩ := bdS h
          refine Run.go (Ev.e_ixO X e27 rfl rfl rfl rfl rfl) ?_
          obtain ⟨x28, e29, h⟩ := ltS h
          refine Run.do_ (Ev.asO (Ev.storeEl X rfl rfl rfl rfl rfl) e29) ?_
          refine Run.nil ?_
          refine T.region ?_
          refine Run.go (Ev.move rfl rfl) ?_
          refine Run.go (Ev.move rfl rfl) ?_
          refine Run.go (Ev.int rfl rfl rfl rfl trivial) ?_
          refine Run.go (Ev.move rfl rfl) ?_
          obtain ⟨x30, e31, h⟩ := bdS h
          refine Run.go (Ev.e_sr e31 rfl rfl rfl) ?_
          obtain ⟨j32, e33, h⟩ := bdS h
          refine Run.go (Ev.e_ixO X e33 rfl rfl rfl rfl rfl) ?_
          obtain ⟨x34, e35, h⟩ := ltS h
          refine Run.do_ (Ev.asO (Ev.storeEl X rfl rfl rfl rfl rfl) e35) ?_
          refine Run.nil ?_
          refine T.region ?_
          refine Run.go (Ev.int rfl rfl rfl rfl trivial) ?_
          refine Run.go (Ev.move rfl rfl) ?_
          refine Run.nil ?_
          cases h
          exact LoopT.ghost (Ghost.only [(1, 1)] [1, 7, 28, 29, 30] rfl) hz1
        · replace h := ifF hb13 h
          refine T.exit ?_
          cases h
          cases hz1
          exact ⟨(), trivial, Ghost.only [(1, 1)] [7] rfl⟩
      · refine T.seq ?_
        refine T.region ?_
        refine Run.go (Ev.move rfl rfl) ?_
        refine Run.ghost (Ghost.firmAll (id := 1) rfl) ?_
        obtain ⟨x36, e37, h⟩ := bdS h
        refine Run.go (Ev.callC en77 (k_nat_trim e37) rfl (.cons .v .nil) rfl rfl) ?_
        refine Run.go (Ev.assign rfl rfl) ?_
        refine Run.go (Ev.assign rfl rfl) ?_
        refine Run.nil ?_
        refine T.ret ?_
        cases h
        exact Fin.many X rfl (.cons (.tmp .v) (.cons (.tmp .v) .nil)) rfl
theorem en127 : Enters Tryz.prog 127 := ⟨_, Tryz.func127, rfl, rfl⟩
theorem k_divide_guess {p0 : (List Int)} {p1 : Int} {p2 : (List Int)} {y : Int} (h : m_divide_guess p0 p1 p2 = some y) : Spec Tryz.prog 127 [(.v (.sl (.int .u64)) p0), (.v (.int .i64) p1), (.v (.sl (.int .u64)) p2)] (.v (.int .u64) y) [] := by
  rw [m_divide_guess] at h
  refine enterN [(.v (.sl (.int .u64)) p0), (.v (.int .i64) p1), (.v (.sl (.int .u64)) p2)] 76 Tryz.func127 rfl rfl rfl ?_
  refine T.seq ?_
  refine T.region ?_
  refine Run.go (Ev.assign rfl rfl) ?_
  refine Run.nil ?_
  refine T.seq ?_
  refine T.region ?_
  refine Run.go (Ev.move rfl rfl) ?_
  refine Run.go (Ev.len X rfl rfl rfl rfl) ?_
  refine Run.go (Ev.assign rfl rfl) ?_
  refine Run.nil ?_
  refine T.seq ?_
  refine T.drawM [] [0, 0, 0, 6, 15, 31, 63, 0, 0, 0, 768, 1792, 3968, 8064, 16383, 32767] (by kernel_rfl) (by kernel_rfl) ?_
  refine RunD.w (fun _ => Ev.move rfl rfl) ?_
  refine RunD.w (fun _ => Ev.move rfl rfl) ?_
  refine RunD.w (fun _ => Ev.move rfl rfl) ?_
  refine RunD.w (fun _ => Ev.int rfl rfl rfl rfl trivial) ?_
  obtain ⟨x1, e2, h⟩ := bdS h
  refine RunD.a rfl rfl (Ev.e_rd X e2 rfl rfl rfl rfl) ?_
  refine RunD.a rfl rfl (Ev.load X rfl rfl rfl) ?_
  obtain ⟨x3, e4, h⟩ := bdS h
  refine RunD.w (fun _ => Ev.e_sh e4 rfl rfl rfl) ?_
  refine RunD.w (fun _ => Ev.move rfl rfl) ?_
  refine RunD.w (fun _ => Ev.move rfl rfl) ?_
  refine RunD.w (fun _ => Ev.move rfl rfl) ?_
  refine RunD.w (fun _ => Ev.int rfl rfl rfl rfl trivial) ?_
  refine RunD.w (fun _ => Ev.int rfl rfl rfl rfl trivial) ?_
  obtain ⟨x5, e6, h⟩ := bdS h
  refine RunD.a rfl rfl (Ev.e_rd X e6 rfl rfl rfl rfl) ?_
  refine RunD.a rfl rfl (Ev.load X rfl rfl rfl) ?_
  refine RunD.w (fun _ => Ev.int rfl rfl rfl rfl trivial) ?_
  refine RunD.w (fun _ => Ev.assign rfl rfl) ?_
  refine RunD.nil ?_
  refine T.seq ?_
  refine T.drawM [] [0, 0, 0, 4, 14, 30, 63, 0, 0, 0, 512, 1792, 3840, 8064, 127, 32767] (by kernel_rfl) (by kernel_rfl) ?_
  refine RunD.w (fun _ => Ev.move rfl rfl) ?_
  refine RunD.w (fun _ => Ev.move rfl rfl) ?_
  refine RunD.w (fun _ => Ev.move rfl rfl) ?_
  refine RunD.w (fun _ => Ev.int rfl rfl rfl rfl trivial) ?_
  obtain ⟨x7, e8, h⟩ := bdS h
  refine RunD.a rfl rfl (Ev.e_rd X e8 rfl rfl rfl rfl) ?_
  refine RunD.a rfl rfl (Ev.load X rfl rfl rfl) ?_
  obtain ⟨x9, e10, h⟩ := bdS h
  refine RunD.w (fun _ => Ev.e_qd e10 rfl rfl rfl) ?_
  refine RunD.w (fun _ => Ev.move rfl rfl) ?_
  refine RunD.w (fun _ => Ev.move rfl rfl) ?_
  refine RunD.w (fun _ => Ev.move rfl rfl) ?_
  refine RunD.w (fun _ => Ev.int rfl rfl rfl rfl trivial) ?_
  obtain ⟨x11, e12, h⟩ := bdS h
  refine RunD.a rfl rfl (Ev.e_rd X e12 rfl rfl rfl rfl) ?_
  refine RunD.a rfl rfl (Ev.load X rfl rfl rfl) ?_
  obtain ⟨x13, e14, h⟩ := bdS h
  refine RunD.w (fun _ => Ev.e_rm e14 rfl rfl rfl) ?_
  refine RunD.w (fun _ => Ev.assign rfl rfl) ?_
  refine RunD.w (fun _ => Ev.assign rfl rfl) ?_
  refine RunD.nil ?_
  obtain ⟨v15, hv, h⟩ := bdS h
  refine T.cut (fun _ : Unit => (⟨[(9, .v (.int .u64) v15)], [], 76⟩ : St)) (fun _ => True) ?_ (fun _ _ => ?_)
  · replace h := hv
    clear hv
    refine T.block ?_
    refine T.loop (LoopT.ghost (Ghost.only [] [0, 1, 2, 7, 9, 10] rfl) (LoopT.run (fun q : Int × Int => (⟨[(0, .v (.sl (.int .u64)) p0), (1, .v (.int .i64) p1), (2, .v (.sl (.int .u64)) p2), (7, .v (.int .i64) ((p2.length : Int) : Int)), (9, .v (.int .u64) q.1), (10, .v (.int .u64) q.2)], [], 76⟩ : St)) (fun q z1 h hz1 => ?_) h))
    obtain ⟨v16, v17⟩ := q
    dsimp only
    rw [m_divide_guess_l1] at h
    refine T.seq ?_
    obtain ⟨v18, hv, h⟩ := bdS h
    refine T.cut (fun _ : Unit => (⟨[(0, .v (.sl (.int .u64)) p0), (1, .v (.int .i64) p1), (2, .v (.sl (.int .u64)) p2), (7, .v (.int .i64) ((p2.length : Int) : Int)), (9, .v (.int .u64) v16), (10, .v (.int .u64) v17), (63, .v .bool v18)], [], 76⟩ : St)) (fun _ => True) ?_ (fun _ _ => ?_)
    · replace h := hv
      clear hv
      refine T.drawM [] [0, 1, 3, 7, 7, 7, 39, 119, 247, 511, 7, 1031, 7, 7, 7, 24583, 57351, 126983, 258055, 523271, 1048575, 2097151] (by kernel_rfl) (by kernel_rfl) ?_
      refine RunD.w (fun _ => Ev.move rfl rfl) ?_
      refine RunD.w (fun _ => Ev.int rfl rfl rfl rfl trivial) ?_
      refine RunD.w (fun _ => Ev.move rfl rfl) ?_
      rcases boolCases (decide (4294967296 ≤ v16)) with hb19 | hb19
      · replace h := ifT hb19 h
        refine RunD.offT rfl rfl rfl rfl hb19 ?_
        refine RunD.offT rfl rfl rfl rfl hb19 ?_
        refine RunD.offT rfl rfl rfl rfl hb19 ?_
        refine RunD.offT rfl rfl rfl rfl hb19 ?_
        refine RunD.offT rfl rfl rfl rfl hb19 ?_
        refine RunD.offT rfl rfl rfl rfl hb19 ?_
        refine RunD.offT rfl rfl rfl rfl hb19 ?_
        refine RunD.offT rfl rfl rfl rfl hb19 ?_
        refine RunD.offT rfl rfl rfl rfl hb19 ?_
        refine RunD.offT rfl rfl rfl rfl hb19 ?_
        refine RunD.offT rfl rfl rfl rfl hb19 ?_
        refine RunD.offT rfl rfl rfl rfl hb19 ?_
        refine RunD.offT rfl rfl rfl rfl hb19 ?_
        refine RunD.offT rfl rfl rfl rfl hb19 ?_
        refine RunD.offT rfl rfl rfl rfl hb19 ?_
        refine RunD.offT rfl rfl rfl rfl hb19 ?_
        refine RunD.offT rfl rfl rfl rfl hb19 ?_
        refine RunD.offT rfl rfl rfl rfl hb19 ?_
        refine RunD.w (fun _ => Ev.pickT rfl hb19 rfl rfl) ?_
        refine RunD.nil ?_
        cases h
        exact ⟨(), trivial, Ghost.only [] [0, 1, 2, 7, 9, 10, 63] rfl⟩
      · replace h := ifF hb19 h
        refine RunD.on rfl rfl rfl hb19 rfl (fun _ _ => Ev.move rfl rfl) ?_
        refine RunD.on rfl rfl rfl hb19 rfl (fun _ _ => Ev.move rfl rfl) ?_
        refine RunD.on rfl rfl rfl hb19 rfl (fun _ _ => Ev.move rfl rfl) ?_
        refine RunD.on rfl rfl rfl hb19 rfl (fun _ _ => Ev.int rfl rfl rfl rfl trivial) ?_
        obtain ⟨x20, e21, h⟩ := bdS h
        refine RunD.on rfl rfl rfl hb19 rfl (fun ô hô => by obtain rfl := hô.resolve_left (by decide); exact Ev.e_rd X e21 rfl rfl rfl rfl) ?_
        refine RunD.on rfl rfl rfl hb19 rfl (fun ô hô => by obtain rfl := hô.resolve_left (by decide); exact Ev.load X rfl rfl rfl) ?_
        refine RunD.on rfl rfl rfl hb19 rfl (fun _ _ => Ev.int rfl rfl rfl rfl trivial) ?_
        refine RunD.on rfl rfl rfl hb19 rfl (fun _ _ => Ev.move rfl rfl) ?_
        obtain ⟨x22, e23, h⟩ := bdS h
        refine RunD.on rfl rfl rfl hb19 rfl (fun _ _ => Ev.e_sh e23 rfl rfl rfl) ?_
        refine RunD.on rfl rfl rfl hb19 rfl (fun _ _ => Ev.move rfl rfl) ?_
        refine RunD.on rfl rfl rfl hb19 rfl (fun _ _ => Ev.move rfl rfl) ?_
        refine RunD.on rfl rfl rfl hb19 rfl (fun _ _ => Ev.move rfl rfl) ?_
        refine RunD.on rfl rfl rfl hb19 rfl (fun _ _ => Ev.int rfl rfl rfl rfl trivial) ?_
        refine RunD.on rfl rfl rfl hb19 rfl (fun _ _ => Ev.int rfl rfl rfl rfl trivial) ?_
        obtain ⟨x24, e25, h⟩ := bdS h
        refine RunD.on rfl rfl rfl hb19 rfl (fun ô hô => by obtain rfl := hô.resolve_left (by decide); exact Ev.e_rd X e25 rfl rfl rfl rfl) ?_
        refine RunD.on rfl rfl rfl hb19 rfl (fun ô hô => by obtain rfl := hô.resolve_left (by decide); exact Ev.load X rfl rfl rfl) ?_
        refine RunD.on rfl rfl rfl hb19 rfl (fun _ _ => Ev.int rfl rfl rfl rfl trivial) ?_
        refine RunD.on rfl rfl rfl hb19 rfl (fun _ _ => Ev.int rfl rfl rfl rfl trivial) ?_
        refine RunD.w (fun _ => Ev.pickF rfl hb19 rfl rfl) ?_
        refine RunD.nil ?_
        cases h
        exact ⟨(), trivial, Ghost.only [] [0, 1, 2, 7, 9, 10, 63] rfl⟩
    · refine T.cond rfl (fun hb26 => ?_) (fun hb26 => ?_)
      · replace h := ifT hb26 h
        refine T.skip ?_
        refine T.block ?_
        refine T.seq ?_
        refine T.region ?_
        refine Run.go (Ev.move rfl rfl) ?_
        refine Run.go (Ev.int rfl rfl rfl rfl trivial) ?_
        refine Run.go (Ev.assign rfl rfl) ?_
        refine Run.nil ?_
        refine T.seq ?_
        refine T.region ?_
        refine Run.go (Ev.move rfl rfl) ?_
        refine Run.go (Ev.move rfl rfl) ?_
        refine Run.go (Ev.move rfl rfl) ?_
        refine Run.go (Ev.int rfl rfl rfl rfl trivial) ?_
        obtain ⟨x27, e28, h⟩ := bdS h
        refine Run.go (Ev.e_rd X e28 rfl rfl rfl rfl) ?_
        refine Run.go (Ev.load X rfl rfl rfl) ?_
        refine Run.go (Ev.int rfl rfl rfl rfl trivial) ?_
        refine Run.go (Ev.assign rfl rfl) ?_
        refine Run.nil ?_
        refine T.seq ?_
        refine T.region ?_
        refine Run.go (Ev.move rfl rfl) ?_
        refine Run.go (Ev.int rfl rfl rfl rfl trivial) ?_
        refine Run.nil ?_
        refine T.cond rfl (fun hb29 => ?_) (fun hb29 => ?_)
        · replace h := ifT hb29 h
          refine T.exit ?_
          cases h
          cases hz1
          exact ⟨(), trivial, Ghost.only [] [9] rfl⟩
        · replace h := ifF hb29 h
          refine T.skip ?_
          cases h
          exact LoopT.ghost (Ghost.only [] [0, 1, 2, 7, 9, 10] rfl) hz1
      · replace h := ifF hb26 h
        refine T.exit ?_
        cases h
        cases hz1
        exact ⟨(), trivial, Ghost.only [] [9] rfl⟩
  · refine T.seq ?_
    refine T.region ?_
    refine Run.go (Ev.move rfl rfl) ?_
    refine Run.go (Ev.assign rfl rfl) ?_
    refine Run.nil ?_
    refine T.ret ?_
    cases h
    exact Fin.one rfl .v
theorem en143 : Enters Tryz.prog 143 := ⟨_, Tryz.func143, rfl, rfl⟩
theorem k_divide_at {p0 : (List Int)} {p1 : Int} {y : Int} (h : m_divide_at p0 p1 = some y) : Spec Tryz.prog 143 [(.v (.sl (.int .u64)) p0), (.v (.int .i64) p1)] (.v (.int .u64) y) [] := by
  rw [m_divide_at] at h
  refine enterN [(.v (.sl (.int .u64)) p0), (.v (.int .i64) p1)] 13 Tryz.func143 rfl rfl rfl ?_
  refine T.seq ?_
  refine T.region ?_
  refine Run.go (Ev.assign rfl rfl) ?_
  refine Run.nil ?_
  refine T.seq ?_
  refine T.seq ?_
  refine T.region ?_
  refine Run.go (Ev.move rfl rfl) ?_
  refine Run.go (Ev.move rfl rfl) ?_
  refine Run.go (Ev.len X rfl rfl rfl rfl) ?_
  refine Run.go (Ev.int rfl rfl rfl rfl trivial) ?_
  refine Run.nil ?_
  refine T.cond rfl (fun hb1 => ?_) (fun hb1 => ?_)
  · replace h := ifT hb1 h
    refine T.seq ?_
    refine T.region ?_
    refine Run.go (Ev.assign rfl rfl) ?_
    refine Run.nil ?_
    refine T.ret ?_
    cases h
    exact Fin.one rfl .v
  · replace h := ifF hb1 h
    refine T.skip ?_
    refine T.seq ?_
    refine T.region ?_
    refine Run.go (Ev.move rfl rfl) ?_
    refine Run.go (Ev.move rfl rfl) ?_
    obtain ⟨x2, e3, h⟩ := bdS h
    refine Run.go (Ev.e_rd X e3 rfl rfl rfl rfl) ?_
    refine Run.go (Ev.load X rfl rfl rfl) ?_
    refine Run.go (Ev.assign rfl rfl) ?_
    refine Run.nil ?_
    refine T.ret ?_
    cases h
    exact Fin.one rfl .v
theorem k_divide_take_M {p1 : Int} {p2 : (List Int)} {p3 : Int} {o1 : (List Int)} {y : Bool × (List Int)} (h : m_divide_take_M p1 p2 p3 o1 = some y) : SpecM Tryz.prog 128 [(.own 1), (.v (.int .i64) p1), (.v (.sl (.int .u64)) p2), (.v (.int .u64) p3)] [(1, .arr 60 (.int .u64) o1)] (.v .bool y.1) [(1, .arr 60 (.int .u64) y.2)] := by
  rw [m_divide_take_M] at h
  refine SpecM.enter 100000 [(.own 1), (.v (.int .i64) p1), (.v (.sl (.int .u64)) p2), (.v (.int .u64) p3)] 48 Tryz.func128 rfl rfl rfl rfl (fun L => ?_)
  refine T.seq ?_
  refine T.region ?_
  refine Run.go (Ev.assign rfl rfl) ?_
  refine Run.nil ?_
  refine T.seq ?_
  refine T.region ?_
  refine Run.go (Ev.assign rfl rfl) ?_
  refine Run.go (Ev.assign rfl rfl) ?_
  refine Run.nil ?_
  obtain ⟨⟨v1, v2⟩, hv, h⟩ := bdS h
  refine T.cut (fun _ : Unit => (⟨[(10, .v (.int .u64) v1)], [(1, .arr 60 (.int .u64) v2), (100001, .place 1 (L 1).1 (L 1).2)], 48⟩ : St)) (fun _ => True) ?_ (fun _ _ => ?_)
  · replace h := hv
    clear hv
    refine T.seq ?_
    refine T.region ?_
    refine Run.go (Ev.move rfl rfl) ?_
    refine Run.go (Ev.len X rfl rfl rfl rfl) ?_
    refine Run.go (Ev.int rfl rfl rfl rfl trivial) ?_
    refine Run.go (Ev.move rfl rfl) ?_
    refine Run.nil ?_
    refine T.block ?_
    refine T.loop (LoopT.ghost (Ghost.only [(1, 1), (100001, 100001)] [0, 1, 2, 3, 9, 10, 15, 16] rfl) (LoopT.run (fun q : Int × Int × Int × (List Int) => (⟨[(0, .own 1), (1, .v (.int .i64) p1), (2, .v (.sl (.int .u64)) p2), (3, .v (.int .u64) p3), (9, .v (.int .u64) q.1), (10, .v (.int .u64) q.2.1), (15, .v (.int .i64) (wi64 ((p2.length : Int) + 1) : Int)), (16, .v (.int .i64) q.2.2.1)], [(1, .arr 60 (.int .u64) q.2.2.2), (100001, .place 1 (L 1).1 (L 1).2)], 48⟩ : St)) (fun q z1 h hz1 => ?_) h))
    obtain ⟨v3, v4, v5, v6⟩ := q
    dsimp only
    rw [m_divide_take_M_l1] at h
    refine T.seq ?_
    refine T.region ?_
    refine Run.go (Ev.int rfl rfl rfl rfl trivial) ?_
    refine Run.nil ?_
    refine T.seq ?_
    refine T.cond rfl (fun hb7 => ?_) (fun hb7 => ?_)
    · replace h := ifT hb7 h
      refine T.skip ?_
      refine T.seq ?_
      refine T.block ?_
      refine T.seq ?_
      refine T.region ?_
      refine Run.go (Ev.move rfl rfl) ?_
      refine Run.go (Ev.assign rfl rfl) ?_
      refine Run.nil ?_
      refine T.seq ?_
      refine T.region ?_
      refine Run.go (Ev.assign rfl rfl) ?_
      refine Run.nil ?_
      refine T.seq ?_
      refine T.region ?_
      refine Run.go (Ev.move rfl rfl) ?_
      refine Run.go (Ev.move rfl rfl) ?_
      refine Run.go (Ev.move rfl rfl) ?_
      obtain ⟨x8, e9, h⟩ := bdS h
      refine Run.go (Ev.callC en143 (k_divide_at e9) rfl (.cons .v (.cons .v .nil)) rfl rfl) ?_
      refine Run.go (Ev.move rfl rfl) ?_
      obtain ⟨x10, e11, h⟩ := bdS h
      refine Run.go (Ev.callC en68 (k_limb_Mul e11) rfl (.cons .v (.cons .v (.cons .v (.cons .v .nil)))) rfl rfl) ?_
      refine Run.go (Ev.move rfl rfl) ?_
      refine Run.go (Ev.extract rfl rfl rfl) ?_
      refine Run.go (Ev.extract rfl rfl rfl) ?_
      refine Run.go (Ev.assign rfl rfl) ?_
      refine Run.go (Ev.assign rfl rfl) ?_
      refine Run.nil ?_
      refine T.region ?_
      refine Run.go (Ev.move rfl rfl) ?_
      refine Run.go (Ev.move rfl rfl) ?_
      refine Run.go (Ev.move rfl rfl) ?_
      refine Run.go (Ev.int rfl rfl rfl rfl trivial) ?_
      refine Run.go (Ev.move rfl rfl) ?_
      refine Run.go (Ev.move rfl rfl) ?_
      refine Run.go (Ev.move rfl rfl) ?_
      refine Run.go (Ev.int rfl rfl rfl rfl trivial) ?_
      obtain ⟨x12, e13, h⟩ := bdS h
      refine Run.go (Ev.e_rdO X e13 rfl rfl rfl rfl rfl) ?_
      refine Run.go (Ev.e_ldO X (rdS e13).2 rfl rfl rfl rfl) ?_
      refine Run.go (Ev.move rfl rfl) ?_
      refine Run.go (Ev.move rfl rfl) ?_
      obtain ⟨x14, e15, h⟩ := bdS h
      refine Run.go (Ev.callC en131 (k_limb_Sub e15) rfl (.cons .v (.cons .v (.cons .v .nil))) rfl rfl) ?_
      refine Run.go (Ev.move rfl rfl) ?_
      refine Run.go (Ev.extract rfl rfl rfl) ?_
      refine Run.go (Ev.extract rfl rfl rfl) ?_
      obtain ⟨j16, e17, h⟩ := bdS h
      refine Run.go (Ev.e_ixO X e17 rfl rfl rfl rfl rfl) ?_
      obtain ⟨x18, e19, h⟩ := ltS h
      refine Run.do_ (Ev.asO (Ev.storeEl X rfl rfl rfl rfl rfl) e19) ?_
      refine Run.go (Ev.assign rfl rfl) ?_
      refine Run.nil ?_
      refine T.region ?_
      refine Run.go (Ev.int rfl rfl rfl rfl trivial) ?_
      refine Run.go (Ev.move rfl rfl) ?_
      refine Run.nil ?_
      cases h
      exact LoopT.ghost (Ghost.only [(1, 1), (100001, 100001)] [0, 1, 2, 3, 9, 10, 15, 16] rfl) hz1
    · replace h := ifF hb7 h
      refine T.exit ?_
      cases h
      cases hz1
      exact ⟨(), trivial, Ghost.only [(1, 1), (100001, 100001)] [10] rfl⟩
  · refine T.seq ?_
    refine T.region ?_
    refine Run.go (Ev.move rfl rfl) ?_
    refine Run.go (Ev.int rfl rfl rfl rfl trivial) ?_
    refine Run.go (Ev.assign rfl rfl) ?_
    refine Run.nil ?_
    refine T.ret ?_
    obtain ⟨_, eL1, h⟩ := bdS h
    cases h
    exact FinM.of 100000 [(1, 1)] (inlR.one' (X := X) rfl (.tmp rfl)) rfl rfl rfl rfl ⟨(.inl ⟨rfl, _, rfl, .arr (elnS eL1), fun _ => rfl⟩), trivial⟩
theorem k_divide_give_M {p1 : Int} {p2 : (List Int)} {o1 : (List Int)} {y : (List Int)} (h : m_divide_give_M p1 p2 o1 = some y) : SpecM Tryz.prog 129 [(.own 1), (.v (.int .i64) p1), (.v (.sl (.int .u64)) p2)] [(1, .arr 60 (.int .u64) o1)] (.tup []) [(1, .arr 60 (.int .u64) y)] := by
  rw [m_divide_give_M] at h
  refine SpecM.enter 100000 [(.own 1), (.v (.int .i64) p1), (.v (.sl (.int .u64)) p2)] 34 Tryz.func129 rfl rfl rfl rfl (fun L => ?_)
  refine T.seq ?_
  refine T.region ?_
  refine Run.go (Ev.assign rfl rfl) ?_
  refine Run.nil ?_
  refine T.seq ?_
  refine T.region ?_
  refine Run.go (Ev.move rfl rfl) ?_
  refine Run.go (Ev.len X rfl rfl rfl rfl) ?_
  refine Run.go (Ev.int rfl rfl rfl rfl trivial) ?_
  refine Run.go (Ev.move rfl rfl) ?_
  refine Run.nil ?_
  refine T.block ?_
  refine T.loop (LoopT.ghost (Ghost.only [(1, 1), (100001, 100001)] [0, 1, 2, 6, 10, 11] rfl) (LoopT.run (fun q : Int × Int × (List Int) => (⟨[(0, .own 1), (1, .v (.int .i64) p1), (2, .v (.sl (.int .u64)) p2), (6, .v (.int .u64) q.1), (10, .v (.int .i64) (wi64 ((p2.length : Int) + 1) : Int)), (11, .v (.int .i64) q.2.1)], [(1, .arr 60 (.int .u64) q.2.2), (100001, .place 1 (L 1).1 (L 1).2)], 34⟩ : St)) (fun q z1 h hz1 => ?_) h))
  obtain ⟨v1, v2, v3⟩ := q
  dsimp only
  rw [m_divide_give_M_l1] at h
  refine T.seq ?_
  refine T.region ?_
  refine Run.go (Ev.int rfl rfl rfl rfl trivial) ?_
  refine Run.nil ?_
  refine T.seq ?_
  refine T.cond rfl (fun hb4 => ?_) (fun hb4 => ?_)
  · replace h := ifT hb4 h
    refine T.skip ?_
    refine T.seq ?_
    refine T.block ?_
    refine T.seq ?_
    refine T.region ?_
    refine Run.go (Ev.move rfl rfl) ?_
    refine Run.go (Ev.assign rfl rfl) ?_
    refine Run.nil ?_
    refine T.drawM [19] [0, 0, 0, 6, 0, 0, 0, 96, 240, 496, 0, 0, 3072, 0, 16368, 32752, 65520, 65520, 131071, 393215, 1048575] (by kernel_rfl) (by kernel_rfl) ?_
    refine RunD.w (fun _ => Ev.move rfl rfl) ?_
    refine RunD.w (fun _ => Ev.move rfl rfl) ?_
    refine RunD.w (fun _ => Ev.move rfl rfl) ?_
    refine RunD.w (fun _ => Ev.int rfl rfl rfl rfl trivial) ?_
    refine RunD.w (fun _ => Ev.move rfl rfl) ?_
    refine RunD.w (fun _ => Ev.move rfl rfl) ?_
    refine RunD.w (fun _ => Ev.move rfl rfl) ?_
    refine RunD.w (fun _ => Ev.int rfl rfl rfl rfl trivial) ?_
    obtain ⟨x5, e6, h⟩ := bdS h
    refine RunD.a rfl rfl (Ev.e_rdO X e6 rfl rfl rfl rfl rfl) ?_
    refine RunD.a rfl rfl (Ev.e_ldO X (rdS e6).2 rfl rfl rfl rfl) ?_
    refine RunD.w (fun _ => Ev.move rfl rfl) ?_
    refine RunD.w (fun _ => Ev.move rfl rfl) ?_
    obtain ⟨x7, e8, h⟩ := bdS h
    refine RunD.a rfl rfl (Ev.callC en143 (k_divide_at e8) rfl (.cons .v (.cons .v .nil)) rfl rfl) ?_
    refine RunD.w (fun _ => Ev.move rfl rfl) ?_
    obtain ⟨x9, e10, h⟩ := bdS h
    refine RunD.a rfl rfl (Ev.callC en67 (k_limb_Add e10) rfl (.cons .v (.cons .v (.cons .v .nil))) rfl rfl) ?_
    refine RunD.w (fun _ => Ev.move rfl rfl) ?_
    refine RunD.w (fun _ => Ev.extract rfl rfl rfl) ?_
    refine RunD.w (fun _ => Ev.extract rfl rfl rfl) ?_
    obtain ⟨j11, e12, h⟩ := bdS h
    refine RunD.a rfl rfl (Ev.e_ixO X e12 rfl rfl rfl rfl rfl) ?_
    obtain ⟨x13, e14, h⟩ := ltS h
    refine RunD.mN rfl (Ev.asO (Ev.storeEl X rfl rfl rfl rfl rfl) e14) ?_
    refine RunD.w (fun _ => Ev.assign rfl rfl) ?_
    refine RunD.nil ?_
    refine T.region ?_
    refine Run.go (Ev.int rfl rfl rfl rfl trivial) ?_
    refine Run.go (Ev.move rfl rfl) ?_
    refine Run.nil ?_
    cases h
    exact LoopT.ghost (Ghost.only [(1, 1), (100001, 100001)] [0, 1, 2, 6, 10, 11] rfl) hz1
  · replace h := ifF hb4 h
    refine T.exit ?_
    obtain ⟨_, eL1, h⟩ := bdS h
    cases h
    cases hz1
    exact FinM.of 100000 [(1, 1)] (inlR.many' (X := X) rfl .nil rfl) rfl rfl rfl rfl ⟨(.inl ⟨rfl, _, rfl, .arr (elnS eL1), fun _ => rfl⟩), trivial⟩
theorem en130 : Enters Tryz.prog 130 := ⟨_, Tryz.func130, rfl, rfl⟩
theorem k_nat_Shr {p0 : (List Int)} {p1 : Int} {y : (List Int) × Int} (h : m_nat_Shr p0 p1 = some y) : Spec Tryz.prog 130 [(.v (.sl (.int .u64)) p0), (.v (.int .i64) p1)] (.tup [.v (.sl (.int .u64)) y.1, .v (.int .i64) y.2]) [] := by
  rw [m_nat_Shr] at h
  refine enterN [(.v (.sl (.int .u64)) p0), (.v (.int .i64) p1)] 57 Tryz.func130 rfl rfl rfl ?_
  refine T.seq ?_
  refine T.region ?_
  refine Run.go (Ev.assign rfl rfl) ?_
  refine Run.go (Ev.assign rfl rfl) ?_
  refine Run.nil ?_
  refine T.seq ?_
  refine T.seq ?_
  refine T.region ?_
  refine Run.go (Ev.move rfl rfl) ?_
  obtain ⟨x1, e2, h⟩ := bdS h
  refine Run.go (Ev.callC en142 (k_nat_shift e2) rfl (.cons .v .nil) rfl rfl) ?_
  refine Run.go (Ev.assign rfl rfl) ?_
  refine Run.nil ?_
  obtain ⟨v3, hv, h⟩ := bdS h
  refine T.cut (fun _ : Unit => (⟨[(0, .v (.sl (.int .u64)) p0), (1, .v (.int .i64) p1), (6, .v (.int .i64) x1), (20, .v .bool v3)], [], 57⟩ : St)) (fun _ => True) ?_ (fun _ _ => ?_)
  · replace h := hv
    clear hv
    refine T.region ?_
    refine Run.go (Ev.move rfl rfl) ?_
    refine Run.go (Ev.int rfl rfl rfl rfl trivial) ?_
    refine Run.go (Ev.move rfl rfl) ?_
    rcases boolCases (!decide (x1 = 0)) with hb4 | hb4
    · replace h := ifT hb4 h
      refine Run.offT rfl rfl rfl rfl hb4 ?_
      refine Run.offT rfl rfl rfl rfl hb4 ?_
      refine Run.offT rfl rfl rfl rfl hb4 ?_
      refine Run.offT rfl rfl rfl rfl hb4 ?_
      refine Run.offT rfl rfl rfl rfl hb4 ?_
      refine Run.go (Ev.pickT rfl hb4 rfl rfl) ?_
      refine Run.nil ?_
      cases h
      exact ⟨(), trivial, Ghost.only [] [0, 1, 6, 20] rfl⟩
    · replace h := ifF hb4 h
      refine Run.on rfl rfl rfl hb4 (Ev.move rfl rfl) ?_
      obtain ⟨x5, e6, h⟩ := bdS h
      refine Run.on rfl rfl rfl hb4 (Ev.e_qd e6 rfl rfl rfl) ?_
      refine Run.on rfl rfl rfl hb4 (Ev.move rfl rfl) ?_
      refine Run.on rfl rfl rfl hb4 (Ev.len X rfl rfl rfl rfl) ?_
      refine Run.on rfl rfl rfl hb4 (Ev.int rfl rfl rfl rfl trivial) ?_
      refine Run.go (Ev.pickF rfl hb4 rfl rfl) ?_
      refine Run.nil ?_
      cases h
      exact ⟨(), trivial, Ghost.only [] [0, 1, 6, 20] rfl⟩
  · refine T.cond rfl (fun hb7 => ?_) (fun hb7 => ?_)
    · replace h := ifT hb7 h
      refine T.seq ?_
      refine T.region ?_
      refine Run.go (Ev.move rfl rfl) ?_
      refine Run.go (Ev.assign rfl rfl) ?_
      refine Run.go (Ev.assign rfl rfl) ?_
      refine Run.nil ?_
      refine T.ret ?_
      cases h
      exact Fin.many X rfl (.cons (.tmp .nilv) (.cons (.tmp .v) .nil)) rfl
    · replace h := ifF hb7 h
      refine T.skip ?_
      refine T.seq ?_
      refine T.region ?_
      refine Run.go (Ev.move rfl rfl) ?_
      refine Run.go (Ev.len X rfl rfl rfl rfl) ?_
      refine Run.go (Ev.move rfl rfl) ?_
      obtain ⟨x8, e9, h⟩ := bdS h
      refine Run.go (Ev.e_qd e9 rfl rfl rfl) ?_
      refine Run.go (Ev.int rfl rfl rfl rfl trivial) ?_
      obtain ⟨x10, e11, h⟩ := bdS h
      refine Run.go (Ev.e_mk X 1 e11 rfl rfl rfl rfl rfl rfl) ?_
      refine Run.go (Ev.assign rfl rfl) ?_
      refine Run.nil ?_
      obtain ⟨v12, hv, h⟩ := bdS h
      refine T.cut (fun _ : Unit => (⟨[(7, .own 1)], [(1, .arr 60 (.int .u64) v12)], 57⟩ : St)) (fun _ => True) ?_ (fun _ _ => ?_)
      · replace h := hv
        clear hv
        refine T.seq ?_
        refine T.region ?_
        refine Run.go (Ev.move rfl rfl) ?_
        refine Run.go (Ev.e_lenO X rfl rfl rfl rfl) ?_
        refine Run.go (Ev.move rfl rfl) ?_
        refine Run.nil ?_
        refine T.block ?_
        refine T.loop (LoopT.ghost (Ghost.only [(1, 1)] [0, 1, 7, 29, 30] rfl) (LoopT.run (fun q : Int × (List Int) => (⟨[(0, .v (.sl (.int .u64)) p0), (1, .v (.int .i64) p1), (7, .own 1), (29, .v (.int .i64) ((x10.length : Int) : Int)), (30, .v (.int .i64) q.1)], [(1, .arr 60 (.int .u64) q.2)], 57⟩ : St)) (fun q z1 h hz1 => ?_) h))
        obtain ⟨v13, v14⟩ := q
        dsimp only
        rw [m_nat_Shr_l1] at h
        refine T.seq ?_
        refine T.region ?_
        refine Run.go (Ev.int rfl rfl rfl rfl trivial) ?_
        refine Run.nil ?_
        refine T.seq ?_
        refine T.cond rfl (fun hb15 => ?_) (fun hb15 => ?_)
        · replace h := ifT hb15 h
          refine T.skip ?_
          refine T.seq ?_
          refine T.block ?_
          refine T.seq ?_
          refine T.region ?_
          refine Run.go (Ev.move rfl rfl) ?_
          refine Run.go (Ev.assign rfl rfl) ?_
          refine Run.nil ?_
          refine T.seq ?_
          refine T.region ?_
          refine Run.go (Ev.move rfl rfl) ?_
          refine Run.go (Ev.move rfl rfl) ?_
          obtain ⟨x16, e17, h⟩ := bdS h
          refine Run.go (Ev.e_qd e17 rfl rfl rfl) ?_
          refine Run.go (Ev.int rfl rfl rfl rfl trivial) ?_
          refine Run.go (Ev.assign rfl rfl) ?_
          refine Run.nil ?_
          refine T.drawM [17] [0, 0, 0, 0, 12, 28, 0, 0, 128, 448, 960, 2044, 0, 4096, 16380, 32764, 65535, 131071] (by kernel_rfl) (by kernel_rfl) ?_
          refine RunD.w (fun _ => Ev.move rfl rfl) ?_
          refine RunD.w (fun _ => Ev.move rfl rfl) ?_
          refine RunD.w (fun _ => Ev.move rfl rfl) ?_
          refine RunD.w (fun _ => Ev.move rfl rfl) ?_
          obtain ⟨x18, e19, h⟩ := bdS h
          refine RunD.a rfl rfl (Ev.e_rd X e19 rfl rfl rfl rfl) ?_
          refine RunD.a rfl rfl (Ev.load X rfl rfl rfl) ?_
          refine RunD.w (fun _ => Ev.move rfl rfl) ?_
          refine RunD.w (fun _ => Ev.move rfl rfl) ?_
          refine RunD.w (fun _ => Ev.int rfl rfl rfl rfl trivial) ?_
          obtain ⟨x20, e21, h⟩ := bdS h
          refine RunD.a rfl rfl (Ev.callC en99 (k_nat_at e21) rfl (.cons .v (.cons .v .nil)) rfl rfl) ?_
          obtain ⟨x22, e23, h⟩ := bdS h
          refine RunD.w (fun _ => Ev.e_sh e23 rfl rfl rfl) ?_
          refine RunD.w (fun _ => Ev.int rfl rfl rfl rfl trivial) ?_
          refine RunD.w (fun _ => Ev.move rfl rfl) ?_
          obtain ⟨x24, e25, h⟩ := bdS h
          refine RunD.w (fun _ => Ev.e_rm e25 rfl rfl rfl) ?_
          obtain ⟨x26, e27, h⟩ := bdS h
          refine RunD.w (fun _ => Ev.e_sr e27 rfl rfl rfl) ?_
          obtain ⟨x28, e29, h⟩ := bdS h
          refine RunD.w (fun _ => Ev.e_rm e29 rfl rfl rfl) ?_
          obtain ⟨j30, e31, h⟩ := bdS h
          refine RunD.a rfl rfl (Ev.e_ixO X e31 rfl rfl rfl rfl rfl) ?_
          obtain ⟨x32, e33, h⟩ := ltS h
          refine RunD.mN rfl (Ev.asO (Ev.storeEl X rfl rfl rfl rfl rfl) e33) ?_
          refine RunD.nil ?_
          refine T.region ?_
          refine Run.go (Ev.int rfl rfl rfl rfl trivial) ?_
          refine Run.go (Ev.move rfl rfl) ?_
          refine Run.nil ?_
          cases h
          exact LoopT.ghost (Ghost.only [(1, 1)] [0, 1, 7, 29, 30] rfl) hz1
        · replace h := ifF hb15 h
          refine T.exit ?_
          cases h
          cases hz1
          exact ⟨(), trivial, Ghost.only [(1, 1)] [7] rfl⟩
      · refine T.seq ?_
        refine T.region ?_
        refine Run.go (Ev.move rfl rfl) ?_
        refine Run.ghost (Ghost.firmAll (id := 1) rfl) ?_
        obtain ⟨x34, e35, h⟩ := bdS h
        refine Run.go (Ev.callC en77 (k_nat_trim e35) rfl (.cons .v .nil) rfl rfl) ?_
        refine Run.go (Ev.assign rfl rfl) ?_
        refine Run.go (Ev.assign rfl rfl) ?_
        refine Run.nil ?_
        refine T.ret ?_
        cases h
        exact Fin.many X rfl (.cons (.tmp .v) (.cons (.tmp .v) .nil)) rfl
theorem en107 : Enters Tryz.prog 107 := ⟨_, Tryz.func107, rfl, rfl⟩
theorem k_divide_knuth {p0 : (List Int)} {p1 : (List Int)} {y : (List Int) × (List Int)} (h : m_divide_knuth p0 p1 = some y) : Spec Tryz.prog 107 [(.v (.sl (.int .u64)) p0), (.v (.sl (.int .u64)) p1)] (.tup [.v (.sl (.int .u64)) y.1, .v (.sl (.int .u64)) y.2]) [] := by
  rw [m_divide_knuth] at h
  refine enterN [(.v (.sl (.int .u64)) p0), (.v (.sl (.int .u64)) p1)] 104 Tryz.func107 rfl rfl rfl ?_
  refine T.seq ?_
  refine T.region ?_
  refine Run.go (Ev.assign rfl rfl) ?_
  refine Run.go (Ev.assign rfl rfl) ?_
  refine Run.nil ?_
  refine T.seq ?_
  refine T.region ?_
  refine Run.go (Ev.move rfl rfl) ?_
  refine Run.go (Ev.move rfl rfl) ?_
  refine Run.go (Ev.len X rfl rfl rfl rfl) ?_
  refine Run.go (Ev.int rfl rfl rfl rfl trivial) ?_
  obtain ⟨x1, e2, h⟩ := bdS h
  refine Run.go (Ev.e_rd X e2 rfl rfl rfl rfl) ?_
  refine Run.go (Ev.load X rfl rfl rfl) ?_
  obtain ⟨x3, e4, h⟩ := bdS h
  refine Run.go (Ev.callC en125 (k_limb_Bits e4) rfl (.cons .v .nil) rfl rfl) ?_
  refine Run.go (Ev.int rfl rfl rfl rfl trivial) ?_
  refine Run.go (Ev.assign rfl rfl) ?_
  refine Run.nil ?_
  refine T.seq ?_
  refine T.region ?_
  refine Run.go (Ev.move rfl rfl) ?_
  refine Run.go (Ev.move rfl rfl) ?_
  obtain ⟨x5, e6, h⟩ := bdS h
  refine Run.go (Ev.callC en126 (k_nat_Shl e6) rfl (.cons .v (.cons .v .nil)) rfl rfl) ?_
  refine Run.go (Ev.move rfl rfl) ?_
  refine Run.go (Ev.extract rfl rfl rfl) ?_
  refine Run.go (Ev.extract rfl rfl rfl) ?_
  refine Run.go (Ev.assign rfl rfl) ?_
  refine Run.go (Ev.assign rfl rfl) ?_
  refine Run.nil ?_
  refine T.seq ?_
  refine T.region ?_
  refine Run.go (Ev.move rfl rfl) ?_
  refine Run.go (Ev.len X rfl rfl rfl rfl) ?_
  refine Run.go (Ev.int rfl rfl rfl rfl trivial) ?_
  obtain ⟨x7, e8, h⟩ := bdS h
  refine Run.go (Ev.e_mk X 1 e8 rfl rfl rfl rfl rfl rfl) ?_
  refine Run.go (Ev.assign rfl rfl) ?_
  refine Run.nil ?_
  refine T.seq ?_
  refine T.region ?_
  refine Run.go (Ev.move rfl rfl) ?_
  refine Run.go (Ev.move rfl rfl) ?_
  obtain ⟨x9, e10, h⟩ := bdS h
  refine Run.go (Ev.callC en126 (k_nat_Shl e10) rfl (.cons .v (.cons .v .nil)) rfl rfl) ?_
  refine Run.go (Ev.move rfl rfl) ?_
  refine Run.go (Ev.extract rfl rfl rfl) ?_
  refine Run.go (Ev.extract rfl rfl rfl) ?_
  refine Run.go (Ev.assign rfl rfl) ?_
  refine Run.go (Ev.assign rfl rfl) ?_
  refine Run.nil ?_
  refine T.seq ?_
  refine T.region ?_
  refine Run.go (Ev.move rfl rfl) ?_
  refine Run.go (Ev.move rfl rfl) ?_
  refine Run.ghost (Ghost.whole (v := 42) rfl rfl) ?_
  obtain ⟨x11, e12, h⟩ := bdS h
  refine Run.go (Ev.e_cp X e12 rfl rfl rfl .v rfl rfl) ?_
  refine Run.nil ?_
  refine T.seq ?_
  refine T.region ?_
  refine Run.go (Ev.move rfl rfl) ?_
  refine Run.go (Ev.len X rfl rfl rfl rfl) ?_
  refine Run.go (Ev.move rfl rfl) ?_
  refine Run.go (Ev.len X rfl rfl rfl rfl) ?_
  refine Run.go (Ev.int rfl rfl rfl rfl trivial) ?_
  refine Run.go (Ev.int rfl rfl rfl rfl trivial) ?_
  obtain ⟨x13, e14, h⟩ := bdS h
  refine Run.go (Ev.e_mk X 2 e14 rfl rfl rfl rfl rfl rfl) ?_
  refine Run.go (Ev.assign rfl rfl) ?_
  refine Run.nil ?_
  obtain ⟨⟨v15, v16⟩, hv, h⟩ := bdS h
  refine T.cut (fun _ : Unit => (⟨[(6, .v (.int .i64) (wi64 (32 - x3) : Int)), (9, .own 1), (12, .own 2)], [(1, .arr 60 (.int .u64) v15), (2, .arr 60 (.int .u64) v16)], 104⟩ : St)) (fun _ => True) ?_ (fun _ _ => ?_)
  · replace h := hv
    clear hv
    refine T.seq ?_
    refine T.region ?_
    refine Run.go (Ev.move rfl rfl) ?_
    refine Run.go (Ev.len X rfl rfl rfl rfl) ?_
    refine Run.go (Ev.move rfl rfl) ?_
    refine Run.go (Ev.len X rfl rfl rfl rfl) ?_
    refine Run.go (Ev.int rfl rfl rfl rfl trivial) ?_
    obtain ⟨x17, e18, h⟩ := ltS h
    refine Run.go (Ev.avs (Ev.assign rfl rfl) e18) ?_
    refine Run.nil ?_
    refine T.block ?_
    refine T.loop (LoopT.ghost (Ghost.only [(1, 1), (2, 2)] [6, 7, 9, 12, 13] rfl) (LoopT.run (fun q : Int × (List Int) × (List Int) => (⟨[(6, .v (.int .i64) (wi64 (32 - x3) : Int)), (7, .v (.sl (.int .u64)) x5.1), (9, .own 1), (12, .own 2), (13, .v (.int .i64) q.1)], [(1, .arr 60 (.int .u64) q.2.1), (2, .arr 60 (.int .u64) q.2.2)], 104⟩ : St)) (fun q z1 h hz1 => ?_) h))
    obtain ⟨v19, v20, v21⟩ := q
    dsimp only
    rw [m_divide_knuth_l1] at h
    refine T.seq ?_
    refine T.seq ?_
    refine T.region ?_
    refine Run.go (Ev.move rfl rfl) ?_
    refine Run.go (Ev.int rfl rfl rfl rfl trivial) ?_
    refine Run.nil ?_
    refine T.cond rfl (fun hb22 => ?_) (fun hb22 => ?_)
    · replace h := ifT hb22 h
      refine T.skip ?_
      obtain ⟨⟨v23, v24⟩, hv, h⟩ := bdS h
      refine T.cut (fun _ : Unit => (⟨[(6, .v (.int .i64) (wi64 (32 - x3) : Int)), (7, .v (.sl (.int .u64)) x5.1), (9, .own 1), (12, .own 2), (13, .v (.int .i64) v19)], [(1, .arr 60 (.int .u64) v23), (2, .arr 60 (.int .u64) v24)], 104⟩ : St)) (fun _ => True) ?_ (fun _ _ => ?_)
      · replace h := hv
        clear hv
        refine T.block ?_
        refine T.seq ?_
        refine T.region ?_
        refine Run.go (Ev.move rfl rfl) ?_
        refine Run.go (Ev.move rfl rfl) ?_
        refine Run.go (Ev.move rfl rfl) ?_
        refine Run.go (Ev.move rfl rfl) ?_
        refine Run.go (Ev.move rfl rfl) ?_
        obtain ⟨x25, e26, h⟩ := bdS h
        refine Run.go (Ev.lend rfl (.cons (.own rfl) (.cons .v (.cons .v .nil))) en127 (k_divide_guess e26) rfl rfl) ?_
        obtain ⟨j27, e28, h⟩ := bdS h
        refine Run.go (Ev.e_ixO X e28 rfl rfl rfl rfl rfl) ?_
        obtain ⟨x29, e30, h⟩ := ltS h
        refine Run.do_ (Ev.asO (Ev.storeEl X rfl rfl rfl rfl rfl) e30) ?_
        refine Run.nil ?_
        refine T.seq ?_
        refine T.region ?_
        refine Run.go (Ev.move rfl rfl) ?_
        refine Run.go (Ev.move rfl rfl) ?_
        refine Run.go (Ev.move rfl rfl) ?_
        refine Run.go (Ev.move rfl rfl) ?_
        refine Run.go (Ev.move rfl rfl) ?_
        obtain ⟨x31, e32, h⟩ := bdS h
        refine Run.go (Ev.e_rdO X e32 rfl rfl rfl rfl rfl) ?_
        refine Run.go (Ev.e_ldO X (rdS e32).2 rfl rfl rfl rfl) ?_
        obtain ⟨x34, e33, h⟩ := bdS h
        refine Run.go (Ev.w1 (Ev.lendM [(1, 1)] [(1, 1)] en128 (k_divide_take_M e33) rfl (.cons (.ren rfl) (.cons (.ren rfl) (.cons (.ren rfl) (.cons (.ren rfl) .nil)))) rfl rfl rfl rfl rfl (A := .v .bool x34.1) rfl (W := [(1, .arr 60 (.int .u64) x34.2)]) rfl rfl)) ?_
        refine Run.nil ?_
        refine T.cond rfl (fun hb35 => ?_) (fun hb35 => ?_)
        · replace h := ifT hb35 h
          refine T.seq ?_
          refine T.region ?_
          refine Run.go (Ev.move rfl rfl) ?_
          refine Run.go (Ev.move rfl rfl) ?_
          obtain ⟨x36, e37, h⟩ := bdS h
          refine Run.go (Ev.e_rdO X e37 rfl rfl rfl rfl rfl) ?_
          refine Run.go (Ev.e_ldO X (rdS e37).2 rfl rfl rfl rfl) ?_
          refine Run.go (Ev.int rfl rfl rfl rfl trivial) ?_
          obtain ⟨j38, e39, h⟩ := bdS h
          refine Run.go (Ev.e_ixO X e39 rfl rfl rfl rfl rfl) ?_
          obtain ⟨x40, e41, h⟩ := ltS h
          refine Run.do_ (Ev.asO (Ev.storeEl X rfl rfl rfl rfl rfl) e41) ?_
          refine Run.nil ?_
          refine T.region ?_
          refine Run.go (Ev.move rfl rfl) ?_
          refine Run.go (Ev.move rfl rfl) ?_
          refine Run.go (Ev.move rfl rfl) ?_
          obtain ⟨x43, e42, h⟩ := bdS h
          refine Run.go (Ev.w1 (Ev.lendM [(1, 1)] [(1, 1)] en129 (k_divide_give_M e42) rfl (.cons (.ren rfl) (.cons (.ren rfl) (.cons (.ren rfl) .nil))) rfl rfl rfl rfl rfl (A := .tup []) rfl (W := [(1, .arr 60 (.int .u64) x43)]) rfl rfl)) ?_
          refine Run.nil ?_
          cases h
          exact ⟨(), trivial, Ghost.only [(1, 1), (2, 2)] [6, 7, 9, 12, 13] rfl⟩
        · replace h := ifF hb35 h
          refine T.skip ?_
          cases h
          exact ⟨(), trivial, Ghost.only [(1, 1), (2, 2)] [6, 7, 9, 12, 13] rfl⟩
      · refine T.region ?_
        refine Run.go (Ev.move rfl rfl) ?_
        refine Run.go (Ev.int rfl rfl rfl rfl trivial) ?_
        refine Run.go (Ev.assign rfl rfl) ?_
        refine Run.nil ?_
        cases h
        exact LoopT.ghost (Ghost.only [(1, 1), (2, 2)] [6, 7, 9, 12, 13] rfl) hz1
    · replace h := ifF hb22 h
      refine T.exit ?_
      cases h
      cases hz1
      exact ⟨(), trivial, Ghost.only [(1, 1), (2, 2)] [6, 9, 12] rfl⟩
  · refine T.seq ?_
    refine T.region ?_
    refine Run.go (Ev.move rfl rfl) ?_
    refine Run.ghost (Ghost.firmAll (id := 2) rfl) ?_
    obtain ⟨x44, e45, h⟩ := bdS h
    refine Run.go (Ev.callC en72 (k_nat_Make e45) rfl (.cons .v .nil) rfl rfl) ?_
    refine Run.go (Ev.move rfl rfl) ?_
    refine Run.go (Ev.extract rfl rfl rfl) ?_
    refine Run.go (Ev.extract rfl rfl rfl) ?_
    refine Run.go (Ev.assign rfl rfl) ?_
    refine Run.go (Ev.assign rfl rfl) ?_
    refine Run.nil ?_
    refine T.seq ?_
    refine T.region ?_
    refine Run.go (Ev.move rfl rfl) ?_
    refine Run.ghost (Ghost.firmAll (id := 1) rfl) ?_
    obtain ⟨x46, e47, h⟩ := bdS h
    refine Run.go (Ev.callC en72 (k_nat_Make e47) rfl (.cons .v .nil) rfl rfl) ?_
    refine Run.go (Ev.move rfl rfl) ?_
    refine Run.go (Ev.extract rfl rfl rfl) ?_
    refine Run.go (Ev.extract rfl rfl rfl) ?_
    refine Run.go (Ev.assign rfl rfl) ?_
    refine Run.go (Ev.assign rfl rfl) ?_
    refine Run.nil ?_
    refine T.seq ?_
    refine T.region ?_
    refine Run.go (Ev.move rfl rfl) ?_
    refine Run.go (Ev.move rfl rfl) ?_
    obtain ⟨x48, e49, h⟩ := bdS h
    refine Run.go (Ev.callC en130 (k_nat_Shr e49) rfl (.cons .v (.cons .v .nil)) rfl rfl) ?_
    refine Run.go (Ev.move rfl rfl) ?_
    refine Run.go (Ev.extract rfl rfl rfl) ?_
    refine Run.go (Ev.extract rfl rfl rfl) ?_
    refine Run.go (Ev.assign rfl rfl) ?_
    refine Run.nil ?_
    refine T.seq ?_
    refine T.region ?_
    refine Run.go (Ev.move rfl rfl) ?_
    refine Run.go (Ev.move rfl rfl) ?_
    refine Run.go (Ev.assign rfl rfl) ?_
    refine Run.go (Ev.assign rfl rfl) ?_
    refine Run.nil ?_
    refine T.ret ?_
    cases h
    exact Fin.many X rfl (.cons (.tmp .v) (.cons (.tmp .v) .nil)) rfl
end Go.Proofs.YtfboepeadeafmaaGreatDoor.AE
/- The code comes to the printed functions (printed by a program of ours). -/
namespace Go.Proofs.YtfboepeadeafmaaGreatDoor.AE
open Go Go.RowKit Go.Proofs.YtfboepeadeafmaaGreatDoor.AP
set_option linter.unusedVariables false
set_option maxRecDepth 20000
theorem en82 : Enters Tryz.prog 82 := ⟨_, Tryz.func82, rfl, rfl⟩
theorem k_divide_Div {p0 : (List Int)} {p1 : (List Int)} {y : (List Int) × (List Int) × Int} (h : m_divide_Div p0 p1 = some y) : Spec Tryz.prog 82 [(.v (.sl (.int .u64)) p0), (.v (.sl (.int .u64)) p1)] (.tup [.v (.sl (.int .u64)) y.1, .v (.sl (.int .u64)) y.2.1, .v (.int .i64) y.2.2]) [] := by
  rw [m_divide_Div] at h
  refine enterN [(.v (.sl (.int .u64)) p0), (.v (.sl (.int .u64)) p1)] 64 Tryz.func82 rfl rfl rfl ?_
  refine T.seq ?_
  refine T.region ?_
  refine Run.go (Ev.assign rfl rfl) ?_
  refine Run.go (Ev.assign rfl rfl) ?_
  refine Run.go (Ev.assign rfl rfl) ?_
  refine Run.nil ?_
  refine T.seq ?_
  refine T.block ?_
  refine T.seq ?_
  refine T.region ?_
  refine Run.go (Ev.move rfl rfl) ?_
  refine Run.go (Ev.len X rfl rfl rfl rfl) ?_
  refine Run.go (Ev.int rfl rfl rfl rfl trivial) ?_
  refine Run.go (Ev.assign rfl rfl) ?_
  refine Run.nil ?_
  refine T.cond rfl (fun hb1 => ?_) (fun hb1 => ?_)
  · replace h := ifT hb1 h
    refine T.seq ?_
    refine T.region ?_
    refine Run.go (Ev.assign rfl rfl) ?_
    refine Run.go (Ev.assign rfl rfl) ?_
    refine Run.go (Ev.assign rfl rfl) ?_
    refine Run.nil ?_
    refine T.ret ?_
    cases h
    exact Fin.many X rfl (.cons (.tmp .nilv) (.cons (.tmp .nilv) (.cons (.tmp .v) .nil))) rfl
  · replace h := ifF hb1 h
    obtain ⟨v2, hv, h⟩ := bdS h
    refine T.cut (fun _ : Unit => (⟨[(0, .v (.sl (.int .u64)) p0), (1, .v (.sl (.int .u64)) p1), (18, .v .bool v2)], [], 64⟩ : St)) (fun _ => True) ?_ (fun _ _ => ?_)
    · replace h := hv
      clear hv
      refine T.region ?_
      refine Run.go (Ev.move rfl rfl) ?_
      obtain ⟨x3, e4, h⟩ := bdS h
      refine Run.go (Ev.callC en106 (k_nat_May e4) rfl (.cons .v .nil) rfl rfl) ?_
      refine Run.go (Ev.not rfl rfl) ?_
      refine Run.go (Ev.move rfl rfl) ?_
      rcases boolCases (!x3) with hb5 | hb5
      · replace h := ifT hb5 h
        refine Run.offT rfl rfl rfl rfl hb5 ?_
        refine Run.offT rfl rfl rfl rfl hb5 ?_
        refine Run.offT rfl rfl rfl rfl hb5 ?_
        refine Run.go (Ev.pickT rfl hb5 rfl rfl) ?_
        refine Run.go (Ev.assign rfl rfl) ?_
        refine Run.nil ?_
        cases h
        exact ⟨(), trivial, Ghost.only [] [0, 1, 18] rfl⟩
      · replace h := ifF hb5 h
        refine Run.on rfl rfl rfl hb5 (Ev.move rfl rfl) ?_
        obtain ⟨x6, e7, h⟩ := bdS h
        refine Run.on rfl rfl rfl hb5 (Ev.callC en106 (k_nat_May e7) rfl (.cons .v .nil) rfl rfl) ?_
        refine Run.on rfl rfl rfl hb5 (Ev.not rfl rfl) ?_
        refine Run.go (Ev.pickF rfl hb5 rfl rfl) ?_
        refine Run.go (Ev.assign rfl rfl) ?_
        refine Run.nil ?_
        cases h
        exact ⟨(), trivial, Ghost.only [] [0, 1, 18] rfl⟩
    · refine T.cond rfl (fun hb8 => ?_) (fun hb8 => ?_)
      · replace h := ifT hb8 h
        refine T.seq ?_
        refine T.region ?_
        refine Run.go (Ev.assign rfl rfl) ?_
        refine Run.go (Ev.assign rfl rfl) ?_
        refine Run.go (Ev.assign rfl rfl) ?_
        refine Run.nil ?_
        refine T.ret ?_
        cases h
        exact Fin.many X rfl (.cons (.tmp .nilv) (.cons (.tmp .nilv) (.cons (.tmp .v) .nil))) rfl
      · replace h := ifF hb8 h
        refine T.seq ?_
        refine T.region ?_
        refine Run.go (Ev.move rfl rfl) ?_
        refine Run.go (Ev.move rfl rfl) ?_
        obtain ⟨x9, e10, h⟩ := bdS h
        refine Run.go (Ev.callC en43 (k_nat_Cmp e10) rfl (.cons .v (.cons .v .nil)) rfl rfl) ?_
        refine Run.go (Ev.int rfl rfl rfl rfl trivial) ?_
        refine Run.go (Ev.assign rfl rfl) ?_
        refine Run.nil ?_
        refine T.cond rfl (fun hb11 => ?_) (fun hb11 => ?_)
        · replace h := ifT hb11 h
          refine T.seq ?_
          refine T.region ?_
          refine Run.go (Ev.move rfl rfl) ?_
          obtain ⟨x12, e13, h⟩ := bdS h
          refine Run.go (Ev.callC en72 (k_nat_Make e13) rfl (.cons .v .nil) rfl rfl) ?_
          refine Run.go (Ev.move rfl rfl) ?_
          refine Run.go (Ev.extract rfl rfl rfl) ?_
          refine Run.go (Ev.extract rfl rfl rfl) ?_
          refine Run.go (Ev.assign rfl rfl) ?_
          refine Run.go (Ev.assign rfl rfl) ?_
          refine Run.nil ?_
          refine T.seq ?_
          refine T.region ?_
          refine Run.go (Ev.move rfl rfl) ?_
          refine Run.go (Ev.move rfl rfl) ?_
          refine Run.go (Ev.assign rfl rfl) ?_
          refine Run.go (Ev.assign rfl rfl) ?_
          refine Run.go (Ev.assign rfl rfl) ?_
          refine Run.nil ?_
          refine T.ret ?_
          cases h
          exact Fin.many X rfl (.cons (.tmp .nilv) (.cons (.tmp .v) (.cons (.tmp .v) .nil))) rfl
        · replace h := ifF hb11 h
          refine T.seq ?_
          refine T.region ?_
          refine Run.go (Ev.move rfl rfl) ?_
          refine Run.go (Ev.len X rfl rfl rfl rfl) ?_
          refine Run.go (Ev.int rfl rfl rfl rfl trivial) ?_
          refine Run.go (Ev.assign rfl rfl) ?_
          refine Run.nil ?_
          refine T.cond rfl (fun hb14 => ?_) (fun hb14 => ?_)
          · replace h := ifT hb14 h
            refine T.seq ?_
            refine T.region ?_
            refine Run.go (Ev.move rfl rfl) ?_
            refine Run.go (Ev.move rfl rfl) ?_
            obtain ⟨x15, e16, h⟩ := bdS h
            refine Run.go (Ev.e_rd X e16 rfl rfl rfl rfl) ?_
            refine Run.go (Ev.load X rfl rfl rfl) ?_
            obtain ⟨x17, e18, h⟩ := bdS h
            refine Run.go (Ev.callC en80 (k_divide_Small e18) rfl (.cons .v (.cons .v .nil)) rfl rfl) ?_
            refine Run.go (Ev.move rfl rfl) ?_
            refine Run.go (Ev.extract rfl rfl rfl) ?_
            refine Run.go (Ev.extract rfl rfl rfl) ?_
            refine Run.go (Ev.extract rfl rfl rfl) ?_
            refine Run.go (Ev.assign rfl rfl) ?_
            refine Run.go (Ev.assign rfl rfl) ?_
            refine Run.go (Ev.assign rfl rfl) ?_
            refine Run.nil ?_
            refine T.seq ?_
            refine T.region ?_
            refine Run.go (Ev.move rfl rfl) ?_
            refine Run.go (Ev.move rfl rfl) ?_
            obtain ⟨x19, e20, h⟩ := bdS h
            refine Run.go (Ev.callC en44 (k_nat_Of e20) rfl (.cons .v .nil) rfl rfl) ?_
            refine Run.go (Ev.move rfl rfl) ?_
            refine Run.go (Ev.assign rfl rfl) ?_
            refine Run.go (Ev.assign rfl rfl) ?_
            refine Run.go (Ev.assign rfl rfl) ?_
            refine Run.nil ?_
            refine T.ret ?_
            cases h
            exact Fin.many X rfl (.cons (.tmp .v) (.cons (.tmp .v) (.cons (.tmp .v) .nil))) rfl
          · replace h := ifF hb14 h
            refine T.skip ?_
            refine T.seq ?_
            refine T.region ?_
            refine Run.go (Ev.move rfl rfl) ?_
            refine Run.go (Ev.move rfl rfl) ?_
            obtain ⟨x21, e22, h⟩ := bdS h
            refine Run.go (Ev.callC en107 (k_divide_knuth e22) rfl (.cons .v (.cons .v .nil)) rfl rfl) ?_
            refine Run.go (Ev.move rfl rfl) ?_
            refine Run.go (Ev.extract rfl rfl rfl) ?_
            refine Run.go (Ev.extract rfl rfl rfl) ?_
            refine Run.go (Ev.assign rfl rfl) ?_
            refine Run.go (Ev.assign rfl rfl) ?_
            refine Run.nil ?_
            refine T.seq ?_
            refine T.region ?_
            refine Run.go (Ev.move rfl rfl) ?_
            refine Run.go (Ev.move rfl rfl) ?_
            refine Run.go (Ev.assign rfl rfl) ?_
            refine Run.go (Ev.assign rfl rfl) ?_
            refine Run.go (Ev.assign rfl rfl) ?_
            refine Run.nil ?_
            refine T.ret ?_
            cases h
            exact Fin.many X rfl (.cons (.tmp .v) (.cons (.tmp .v) (.cons (.tmp .v) .nil))) rfl
theorem en120 : Enters Tryz.prog 120 := ⟨_, Tryz.func120, rfl, rfl⟩
theorem k_divide_Mod {p0 : (List Int)} {p1 : (List Int)} {y : (List Int) × Int} (h : m_divide_Mod p0 p1 = some y) : Spec Tryz.prog 120 [(.v (.sl (.int .u64)) p0), (.v (.sl (.int .u64)) p1)] (.tup [.v (.sl (.int .u64)) y.1, .v (.int .i64) y.2]) [] := by
  rw [m_divide_Mod] at h
  refine enterN [(.v (.sl (.int .u64)) p0), (.v (.sl (.int .u64)) p1)] 18 Tryz.func120 rfl rfl rfl ?_
  refine T.seq ?_
  refine T.region ?_
  refine Run.go (Ev.assign rfl rfl) ?_
  refine Run.go (Ev.assign rfl rfl) ?_
  refine Run.nil ?_
  refine T.seq ?_
  refine T.region ?_
  refine Run.go (Ev.move rfl rfl) ?_
  refine Run.go (Ev.move rfl rfl) ?_
  obtain ⟨x1, e2, h⟩ := bdS h
  refine Run.go (Ev.callC en82 (k_divide_Div e2) rfl (.cons .v (.cons .v .nil)) rfl rfl) ?_
  refine Run.go (Ev.move rfl rfl) ?_
  refine Run.go (Ev.extract rfl rfl rfl) ?_
  refine Run.go (Ev.extract rfl rfl rfl) ?_
  refine Run.go (Ev.extract rfl rfl rfl) ?_
  refine Run.go (Ev.assign rfl rfl) ?_
  refine Run.go (Ev.assign rfl rfl) ?_
  refine Run.go (Ev.assign rfl rfl) ?_
  refine Run.nil ?_
  refine T.seq ?_
  refine T.region ?_
  refine Run.go (Ev.move rfl rfl) ?_
  refine Run.go (Ev.move rfl rfl) ?_
  refine Run.go (Ev.assign rfl rfl) ?_
  refine Run.go (Ev.assign rfl rfl) ?_
  refine Run.nil ?_
  refine T.ret ?_
  cases h
  exact Fin.many X rfl (.cons (.tmp .v) (.cons (.tmp .v) .nil)) rfl
theorem en100 : Enters Tryz.prog 100 := ⟨_, Tryz.func100, rfl, rfl⟩
theorem k_gcd_Euclid {p0 : (List Int)} {p1 : (List Int)} {y : (List Int)} (h : m_gcd_Euclid p0 p1 = some y) : Spec Tryz.prog 100 [(.v (.sl (.int .u64)) p0), (.v (.sl (.int .u64)) p1)] (.v (.sl (.int .u64)) y) [] := by
  rw [m_gcd_Euclid] at h
  refine enterN [(.v (.sl (.int .u64)) p0), (.v (.sl (.int .u64)) p1)] 33 Tryz.func100 rfl rfl rfl ?_
  refine T.seq ?_
  refine T.region ?_
  refine Run.go (Ev.assign rfl rfl) ?_
  refine Run.nil ?_
  refine T.seq ?_
  refine T.region ?_
  refine Run.go (Ev.move rfl rfl) ?_
  obtain ⟨x1, e2, h⟩ := bdS h
  refine Run.go (Ev.callC en72 (k_nat_Make e2) rfl (.cons .v .nil) rfl rfl) ?_
  refine Run.go (Ev.move rfl rfl) ?_
  refine Run.go (Ev.extract rfl rfl rfl) ?_
  refine Run.go (Ev.extract rfl rfl rfl) ?_
  refine Run.go (Ev.assign rfl rfl) ?_
  refine Run.go (Ev.assign rfl rfl) ?_
  refine Run.nil ?_
  refine T.seq ?_
  refine T.region ?_
  refine Run.go (Ev.move rfl rfl) ?_
  obtain ⟨x3, e4, h⟩ := bdS h
  refine Run.go (Ev.callC en72 (k_nat_Make e4) rfl (.cons .v .nil) rfl rfl) ?_
  refine Run.go (Ev.move rfl rfl) ?_
  refine Run.go (Ev.extract rfl rfl rfl) ?_
  refine Run.go (Ev.extract rfl rfl rfl) ?_
  refine Run.go (Ev.assign rfl rfl) ?_
  refine Run.go (Ev.assign rfl rfl) ?_
  refine Run.nil ?_
  obtain ⟨v5, hv, h⟩ := bdS h
  refine T.cut (fun _ : Unit => (⟨[(5, .v (.sl (.int .u64)) v5)], [], 33⟩ : St)) (fun _ => True) ?_ (fun _ _ => ?_)
  · replace h := hv
    clear hv
    refine T.block ?_
    refine T.loop (LoopT.ghost (Ghost.only [] [5, 7] rfl) (LoopT.run (fun q : (List Int) × (List Int) => (⟨[(5, .v (.sl (.int .u64)) q.1), (7, .v (.sl (.int .u64)) q.2)], [], 33⟩ : St)) (fun q z1 h hz1 => ?_) h))
    obtain ⟨v6, v7⟩ := q
    dsimp only
    rw [m_gcd_Euclid_l1] at h
    refine T.seq ?_
    refine T.seq ?_
    refine T.region ?_
    refine Run.go (Ev.move rfl rfl) ?_
    refine Run.go (Ev.len X rfl rfl rfl rfl) ?_
    refine Run.go (Ev.int rfl rfl rfl rfl trivial) ?_
    refine Run.nil ?_
    refine T.cond rfl (fun hb8 => ?_) (fun hb8 => ?_)
    · replace h := ifT hb8 h
      refine T.skip ?_
      refine T.block ?_
      refine T.seq ?_
      refine T.region ?_
      refine Run.go (Ev.move rfl rfl) ?_
      refine Run.go (Ev.move rfl rfl) ?_
      obtain ⟨x9, e10, h⟩ := bdS h
      refine Run.go (Ev.callC en120 (k_divide_Mod e10) rfl (.cons .v (.cons .v .nil)) rfl rfl) ?_
      refine Run.go (Ev.move rfl rfl) ?_
      refine Run.go (Ev.extract rfl rfl rfl) ?_
      refine Run.go (Ev.extract rfl rfl rfl) ?_
      refine Run.go (Ev.assign rfl rfl) ?_
      refine Run.go (Ev.assign rfl rfl) ?_
      refine Run.nil ?_
      refine T.region ?_
      refine Run.go (Ev.move rfl rfl) ?_
      refine Run.go (Ev.move rfl rfl) ?_
      refine Run.go (Ev.assign rfl rfl) ?_
      refine Run.go (Ev.assign rfl rfl) ?_
      refine Run.nil ?_
      cases h
      exact LoopT.ghost (Ghost.only [] [5, 7] rfl) hz1
    · replace h := ifF hb8 h
      refine T.exit ?_
      cases h
      cases hz1
      exact ⟨(), trivial, Ghost.only [] [5] rfl⟩
  · refine T.seq ?_
    refine T.region ?_
    refine Run.go (Ev.move rfl rfl) ?_
    refine Run.go (Ev.assign rfl rfl) ?_
    refine Run.nil ?_
    refine T.ret ?_
    cases h
    exact Fin.one rfl .v
theorem en48 : Enters Tryz.prog 48 := ⟨_, Tryz.func48, rfl, rfl⟩
theorem k_divide_Exact {p0 : (List Int)} {p1 : (List Int)} {y : (List Int) × Int} (h : m_divide_Exact p0 p1 = some y) : Spec Tryz.prog 48 [(.v (.sl (.int .u64)) p0), (.v (.sl (.int .u64)) p1)] (.tup [.v (.sl (.int .u64)) y.1, .v (.int .i64) y.2]) [] := by
  rw [m_divide_Exact] at h
  refine enterN [(.v (.sl (.int .u64)) p0), (.v (.sl (.int .u64)) p1)] 26 Tryz.func48 rfl rfl rfl ?_
  refine T.seq ?_
  refine T.region ?_
  refine Run.go (Ev.assign rfl rfl) ?_
  refine Run.go (Ev.assign rfl rfl) ?_
  refine Run.nil ?_
  refine T.seq ?_
  refine T.region ?_
  refine Run.go (Ev.move rfl rfl) ?_
  refine Run.go (Ev.move rfl rfl) ?_
  obtain ⟨x1, e2, h⟩ := bdS h
  refine Run.go (Ev.callC en82 (k_divide_Div e2) rfl (.cons .v (.cons .v .nil)) rfl rfl) ?_
  refine Run.go (Ev.move rfl rfl) ?_
  refine Run.go (Ev.extract rfl rfl rfl) ?_
  refine Run.go (Ev.extract rfl rfl rfl) ?_
  refine Run.go (Ev.extract rfl rfl rfl) ?_
  refine Run.go (Ev.assign rfl rfl) ?_
  refine Run.go (Ev.assign rfl rfl) ?_
  refine Run.go (Ev.assign rfl rfl) ?_
  refine Run.nil ?_
  refine T.seq ?_
  refine T.block ?_
  refine T.seq ?_
  refine T.region ?_
  refine Run.go (Ev.move rfl rfl) ?_
  refine Run.go (Ev.int rfl rfl rfl rfl trivial) ?_
  refine Run.go (Ev.assign rfl rfl) ?_
  refine Run.nil ?_
  refine T.cond rfl (fun hb3 => ?_) (fun hb3 => ?_)
  · replace h := ifT hb3 h
    refine T.seq ?_
    refine T.region ?_
    refine Run.go (Ev.move rfl rfl) ?_
    refine Run.go (Ev.assign rfl rfl) ?_
    refine Run.go (Ev.assign rfl rfl) ?_
    refine Run.nil ?_
    refine T.ret ?_
    cases h
    exact Fin.many X rfl (.cons (.tmp .nilv) (.cons (.tmp .v) .nil)) rfl
  · replace h := ifF hb3 h
    refine T.seq ?_
    refine T.region ?_
    refine Run.go (Ev.move rfl rfl) ?_
    refine Run.go (Ev.len X rfl rfl rfl rfl) ?_
    refine Run.go (Ev.int rfl rfl rfl rfl trivial) ?_
    refine Run.go (Ev.assign rfl rfl) ?_
    refine Run.nil ?_
    refine T.cond rfl (fun hb4 => ?_) (fun hb4 => ?_)
    · replace h := ifT hb4 h
      refine T.seq ?_
      refine T.region ?_
      refine Run.go (Ev.assign rfl rfl) ?_
      refine Run.go (Ev.assign rfl rfl) ?_
      refine Run.nil ?_
      refine T.ret ?_
      cases h
      exact Fin.many X rfl (.cons (.tmp .nilv) (.cons (.tmp .v) .nil)) rfl
    · replace h := ifF hb4 h
      refine T.skip ?_
      refine T.seq ?_
      refine T.region ?_
      refine Run.go (Ev.move rfl rfl) ?_
      refine Run.go (Ev.move rfl rfl) ?_
      refine Run.go (Ev.assign rfl rfl) ?_
      refine Run.go (Ev.assign rfl rfl) ?_
      refine Run.nil ?_
      refine T.ret ?_
      cases h
      exact Fin.many X rfl (.cons (.tmp .v) (.cons (.tmp .v) .nil)) rfl
theorem en71 : Enters Tryz.prog 71 := ⟨_, Tryz.func71, rfl, rfl⟩
theorem k_rat_low {p0 : D_api_Int} {p1 : (List Int)} {y : D_api_Rat} (h : m_rat_low p0 p1 = some y) : Spec Tryz.prog 71 [(.v Y_api_Int p0), (.v (.sl (.int .u64)) p1)] (.v Y_api_Rat y) [] := by
  rw [m_rat_low] at h
  refine enterN [(.v Y_api_Int p0), (.v (.sl (.int .u64)) p1)] 33 Tryz.func71 rfl rfl rfl ?_
  refine T.seq ?_
  refine T.region ?_
  refine Run.go (Ev.box 1 rfl rfl rfl rfl) ?_
  refine Run.go (Ev.allocN X 2 rfl rfl rfl) ?_
  refine Run.nil ?_
  refine T.seq ?_
  refine T.region ?_
  refine Run.go (Ev.fieldBox X rfl rfl rfl rfl rfl) ?_
  refine Run.go (Ev.loadCell X rfl rfl rfl rfl rfl rfl) ?_
  refine Run.go (Ev.move rfl rfl) ?_
  obtain ⟨x1, e2, h⟩ := bdS h
  refine Run.go (Ev.callC en100 (k_gcd_Euclid e2) rfl (.cons .v (.cons .v .nil)) rfl rfl) ?_
  refine Run.go (Ev.assign rfl rfl) ?_
  refine Run.nil ?_
  refine T.seq ?_
  refine T.region ?_
  refine Run.go (Ev.fieldBox X rfl rfl rfl rfl rfl) ?_
  refine Run.go (Ev.loadCell X rfl rfl rfl rfl rfl rfl) ?_
  refine Run.go (Ev.move rfl rfl) ?_
  obtain ⟨x3, e4, h⟩ := bdS h
  refine Run.go (Ev.callC en48 (k_divide_Exact e4) rfl (.cons .v (.cons .v .nil)) rfl rfl) ?_
  refine Run.go (Ev.move rfl rfl) ?_
  refine Run.go (Ev.extract rfl rfl rfl) ?_
  refine Run.go (Ev.extract rfl rfl rfl) ?_
  refine Run.go (Ev.assign rfl rfl) ?_
  refine Run.go (Ev.assign rfl rfl) ?_
  refine Run.nil ?_
  refine T.seq ?_
  refine T.region ?_
  refine Run.go (Ev.move rfl rfl) ?_
  refine Run.go (Ev.move rfl rfl) ?_
  obtain ⟨x5, e6, h⟩ := bdS h
  refine Run.go (Ev.callC en48 (k_divide_Exact e6) rfl (.cons .v (.cons .v .nil)) rfl rfl) ?_
  refine Run.go (Ev.move rfl rfl) ?_
  refine Run.go (Ev.extract rfl rfl rfl) ?_
  refine Run.go (Ev.extract rfl rfl rfl) ?_
  refine Run.go (Ev.assign rfl rfl) ?_
  refine Run.go (Ev.assign rfl rfl) ?_
  refine Run.nil ?_
  refine T.seq ?_
  refine T.region ?_
  refine Run.go (Ev.fieldBox X rfl rfl rfl rfl rfl) ?_
  refine Run.go (Ev.loadCell X rfl rfl rfl rfl rfl rfl) ?_
  refine Run.go (Ev.move rfl rfl) ?_
  obtain ⟨x7, e8, h⟩ := bdS h
  refine Run.go (Ev.callC en27 (k_whole_Made e8) rfl (.cons .v (.cons .v .nil)) rfl rfl) ?_
  refine Run.go (Ev.move rfl rfl) ?_
  refine Run.go (Ev.struct X pl27 rfl rfl rfl rfl rfl rfl rfl rfl) ?_
  refine Run.do_ (Ev.storeBox X rfl rfl rfl rfl rfl rfl rfl) ?_
  refine Run.nil ?_
  refine T.ret ?_
  cases h
  exact Fin.cell X rfl rfl rfl rfl rfl
theorem en26 : Enters Tryz.prog 26 := ⟨_, Tryz.func26, rfl, rfl⟩
theorem k_rat_Make {p0 : D_api_Int} {p1 : D_api_Int} {y : D_api_Rat × Int} (h : m_rat_Make p0 p1 = some y) : Spec Tryz.prog 26 [(.v Y_api_Int p0), (.v Y_api_Int p1)] (.tup [.v Y_api_Rat y.1, .v (.int .i64) y.2]) [] := by
  rw [m_rat_Make] at h
  refine enterN [(.v Y_api_Int p0), (.v Y_api_Int p1)] 21 Tryz.func26 rfl rfl rfl ?_
  refine T.seq ?_
  refine T.region ?_
  refine Run.go (Ev.box 1 rfl rfl rfl rfl) ?_
  refine Run.go (Ev.box 2 rfl rfl rfl rfl) ?_
  refine Run.go (Ev.allocN X 3 rfl rfl rfl) ?_
  refine Run.go (Ev.assign rfl rfl) ?_
  refine Run.nil ?_
  refine T.seq ?_
  refine T.seq ?_
  refine T.region ?_
  refine Run.go (Ev.loadBox X rfl rfl rfl rfl rfl) ?_
  obtain ⟨x1, e2, h⟩ := bdS h
  refine Run.go (Ev.callC en70 (k_whole_Sign e2) rfl (.cons .v .nil) rfl rfl) ?_
  refine Run.go (Ev.int rfl rfl rfl rfl trivial) ?_
  refine Run.nil ?_
  refine T.cond rfl (fun hb3 => ?_) (fun hb3 => ?_)
  · replace h := ifT hb3 h
    refine T.seq ?_
    refine T.region ?_
    refine Run.go (Ev.structC pl27 zs27 rfl rfl rfl) ?_
    refine Run.do_ (Ev.storeC sz27 rfl rfl rfl rfl rfl rfl) ?_
    refine Run.go (Ev.assign rfl rfl) ?_
    refine Run.nil ?_
    refine T.ret ?_
    cases h
    exact Fin.many X rfl (.cons (.cell rfl rfl rfl rfl) (.cons (.tmp .v) .nil)) rfl
  · replace h := ifF hb3 h
    refine T.skip ?_
    refine T.seq ?_
    refine T.drawM [11] [0, 1, 0, 4, 15, 0, 32, 127, 0, 256, 1023, 2047, 4095] (by kernel_rfl) (by kernel_rfl) ?_
    refine RunD.a rfl rfl (Ev.fieldBox X rfl rfl rfl rfl rfl) ?_
    refine RunD.a rfl rfl (Ev.loadCell X rfl rfl rfl rfl rfl rfl) ?_
    refine RunD.a rfl rfl (Ev.fieldBox X rfl rfl rfl rfl rfl) ?_
    refine RunD.a rfl rfl (Ev.loadCell X rfl rfl rfl rfl rfl rfl) ?_
    refine RunD.w (fun _ => Ev.bools X rfl rfl rfl rfl rfl) ?_
    refine RunD.a rfl rfl (Ev.fieldBox X rfl rfl rfl rfl rfl) ?_
    refine RunD.a rfl rfl (Ev.loadCell X rfl rfl rfl rfl rfl rfl) ?_
    obtain ⟨x4, e5, h⟩ := bdS h
    refine RunD.a rfl rfl (Ev.callC en27 (k_whole_Made e5) rfl (.cons .v (.cons .v .nil)) rfl rfl) ?_
    refine RunD.a rfl rfl (Ev.fieldBox X rfl rfl rfl rfl rfl) ?_
    refine RunD.a rfl rfl (Ev.loadCell X rfl rfl rfl rfl rfl rfl) ?_
    obtain ⟨x6, e7, h⟩ := bdS h
    refine RunD.a rfl rfl (Ev.callC en71 (k_rat_low e7) rfl (.cons .v (.cons .v .nil)) rfl rfl) ?_
    refine RunD.mN rfl (Ev.storeBox X rfl rfl rfl rfl rfl rfl rfl) ?_
    refine RunD.w (fun _ => Ev.assign rfl rfl) ?_
    refine RunD.nil ?_
    refine T.ret ?_
    cases h
    exact Fin.many X rfl (.cons (.cell rfl rfl rfl rfl) (.cons (.tmp .v) .nil)) rfl
theorem en6 : Enters Tryz.prog 6 := ⟨_, Tryz.func6, rfl, rfl⟩
theorem k_ratio_Parse {p0 : ByteArray} {y : D_api_Rat × Int} (h : m_ratio_Parse p0 = some y) : Spec Tryz.prog 6 [(.v .str p0)] (.tup [.v Y_api_Rat y.1, .v (.int .i64) y.2]) [] := by
  rw [m_ratio_Parse] at h
  refine enterN [(.v .str p0)] 33 Tryz.func6 rfl rfl rfl ?_
  refine T.seq ?_
  refine T.region ?_
  refine Run.go (Ev.allocN X 1 rfl rfl rfl) ?_
  refine Run.go (Ev.assign rfl rfl) ?_
  refine Run.nil ?_
  refine T.seq ?_
  refine T.region ?_
  refine Run.go (Ev.move rfl rfl) ?_
  obtain ⟨x1, e2, h⟩ := bdS h
  refine Run.go (Ev.callC en23 (k_strings_CutSuffix e2) rfl (.cons .v (.cons .v .nil)) rfl rfl) ?_
  refine Run.go (Ev.move rfl rfl) ?_
  refine Run.go (Ev.extract rfl rfl rfl) ?_
  refine Run.go (Ev.extract rfl rfl rfl) ?_
  refine Run.go (Ev.assign rfl rfl) ?_
  refine Run.go (Ev.assign rfl rfl) ?_
  refine Run.nil ?_
  refine T.seq ?_
  refine T.region ?_
  refine Run.go (Ev.move rfl rfl) ?_
  obtain ⟨x3, e4, h⟩ := bdS h
  refine Run.go (Ev.callC en24 (k_ratio_parts e4) rfl (.cons .v .nil) rfl rfl) ?_
  refine Run.go (Ev.move rfl rfl) ?_
  refine Run.go (Ev.extract rfl rfl rfl) ?_
  refine Run.go (Ev.extract rfl rfl rfl) ?_
  refine Run.go (Ev.extract rfl rfl rfl) ?_
  refine Run.go (Ev.assign rfl rfl) ?_
  refine Run.go (Ev.assign rfl rfl) ?_
  refine Run.go (Ev.assign rfl rfl) ?_
  refine Run.nil ?_
  refine T.seq ?_
  refine T.seq ?_
  refine T.region ?_
  refine Run.go (Ev.move rfl rfl) ?_
  refine Run.go (Ev.int rfl rfl rfl rfl trivial) ?_
  refine Run.nil ?_
  refine T.cond rfl (fun hb5 => ?_) (fun hb5 => ?_)
  · replace h := ifT hb5 h
    refine T.seq ?_
    refine T.region ?_
    refine Run.go (Ev.structC pl27 zs27 rfl rfl rfl) ?_
    refine Run.go (Ev.move rfl rfl) ?_
    refine Run.do_ (Ev.storeC sz27 rfl rfl rfl rfl rfl rfl) ?_
    refine Run.go (Ev.assign rfl rfl) ?_
    refine Run.nil ?_
    refine T.ret ?_
    cases h
    exact Fin.many X rfl (.cons (.cell rfl rfl rfl rfl) (.cons (.tmp .v) .nil)) rfl
  · replace h := ifF hb5 h
    refine T.skip ?_
    obtain ⟨v6, hv, h⟩ := bdS h
    refine T.cut (fun _ : Unit => (⟨[(2, .box 1 0), (5, .v (.sl (.int .u64)) x3.1), (6, .v (.sl (.int .u64)) v6)], [(1, .box [.v .bool false, .nil, .nil])], 33⟩ : St)) (fun _ => True) ?_ (fun _ _ => ?_)
    · replace h := hv
      clear hv
      refine T.seq ?_
      refine T.region ?_
      refine Run.go (Ev.move rfl rfl) ?_
      refine Run.nil ?_
      refine T.cond rfl (fun hb7 => ?_) (fun hb7 => ?_)
      · replace h := ifT hb7 h
        refine T.region ?_
        refine Run.go (Ev.move rfl rfl) ?_
        obtain ⟨x8, e9, h⟩ := bdS h
        refine Run.go (Ev.callC en25 (k_mul_Small e9) rfl (.cons .v (.cons .v (.cons .v .nil))) rfl rfl) ?_
        refine Run.go (Ev.assign rfl rfl) ?_
        refine Run.nil ?_
        cases h
        exact ⟨(), trivial, Ghost.only [(1, 1)] [2, 5, 6] rfl⟩
      · replace h := ifF hb7 h
        refine T.skip ?_
        cases h
        exact ⟨(), trivial, Ghost.only [(1, 1)] [2, 5, 6] rfl⟩
    · refine T.seq ?_
      refine T.region ?_
      refine Run.go (Ev.move rfl rfl) ?_
      obtain ⟨x10, e11, h⟩ := bdS h
      refine Run.go (Ev.callC en27 (k_whole_Made e11) rfl (.cons .v (.cons .v .nil)) rfl rfl) ?_
      refine Run.go (Ev.move rfl rfl) ?_
      obtain ⟨x12, e13, h⟩ := bdS h
      refine Run.go (Ev.callC en27 (k_whole_Made e13) rfl (.cons .v (.cons .v .nil)) rfl rfl) ?_
      obtain ⟨x14, e15, h⟩ := bdS h
      refine Run.go (Ev.callC en26 (k_rat_Make e15) rfl (.cons .v (.cons .v .nil)) rfl rfl) ?_
      refine Run.go (Ev.extract rfl rfl rfl) ?_
      refine Run.go (Ev.extract rfl rfl rfl) ?_
      refine Run.do_ (Ev.storeBox X rfl rfl rfl rfl rfl rfl rfl) ?_
      refine Run.go (Ev.assign rfl rfl) ?_
      refine Run.nil ?_
      refine T.ret ?_
      cases h
      exact Fin.many X rfl (.cons (.cell rfl rfl rfl rfl) (.cons (.tmp .v) .nil)) rfl
theorem en75 : Enters Tryz.prog 75 := ⟨_, Tryz.func75, rfl, rfl⟩
theorem k_triviumref02_Trim {p0 : (List Int)} {y : (List Int)} (h : m_triviumref02_Trim p0 = some y) : Spec Tryz.prog 75 [(.v (.sl (.int .i64)) p0)] (.v (.sl (.int .i64)) y) [] := by
  rw [m_triviumref02_Trim] at h
  refine enterN [(.v (.sl (.int .i64)) p0)] 23 Tryz.func75 rfl rfl rfl ?_
  refine T.seq ?_
  refine T.region ?_
  refine Run.go (Ev.assign rfl rfl) ?_
  refine Run.nil ?_
  refine T.seq ?_
  refine T.region ?_
  refine Run.go (Ev.move rfl rfl) ?_
  refine Run.go (Ev.len X rfl rfl rfl rfl) ?_
  refine Run.go (Ev.assign rfl rfl) ?_
  refine Run.nil ?_
  obtain ⟨v1, hv, h⟩ := bdS h
  refine T.cut (fun _ : Unit => (⟨[(0, .v (.sl (.int .i64)) p0), (3, .v (.int .i64) v1)], [], 23⟩ : St)) (fun _ => True) ?_ (fun _ _ => ?_)
  · replace h := hv
    clear hv
    refine T.block ?_
    refine T.loop (LoopT.ghost (Ghost.only [] [0, 3] rfl) (LoopT.run (fun q : Int => (⟨[(0, .v (.sl (.int .i64)) p0), (3, .v (.int .i64) q)], [], 23⟩ : St)) (fun v2 z1 h hz1 => ?_) h))
    rw [m_triviumref02_Trim_l1] at h
    refine T.seq ?_
    obtain ⟨v3, hv, h⟩ := bdS h
    refine T.cut (fun _ : Unit => (⟨[(0, .v (.sl (.int .i64)) p0), (3, .v (.int .i64) v2), (15, .v .bool v3)], [], 23⟩ : St)) (fun _ => True) ?_ (fun _ _ => ?_)
    · replace h := hv
      clear hv
      refine T.region ?_
      refine Run.go (Ev.move rfl rfl) ?_
      refine Run.go (Ev.int rfl rfl rfl rfl trivial) ?_
      refine Run.go (Ev.move rfl rfl) ?_
      rcases boolCases (decide (0 < v2)) with hb4 | hb4
      · replace h := ifT hb4 h
        refine Run.on rfl rfl rfl hb4 (Ev.move rfl rfl) ?_
        refine Run.on rfl rfl rfl hb4 (Ev.move rfl rfl) ?_
        refine Run.on rfl rfl rfl hb4 (Ev.int rfl rfl rfl rfl trivial) ?_
        obtain ⟨x5, e6, h⟩ := bdS h
        refine Run.on rfl rfl rfl hb4 (Ev.e_rd X e6 rfl rfl rfl rfl) ?_
        refine Run.on rfl rfl rfl hb4 (Ev.load X rfl rfl rfl) ?_
        refine Run.on rfl rfl rfl hb4 (Ev.int rfl rfl rfl rfl trivial) ?_
        refine Run.go (Ev.pickT rfl hb4 rfl rfl) ?_
        refine Run.nil ?_
        cases h
        exact ⟨(), trivial, Ghost.only [] [0, 3, 15] rfl⟩
      · replace h := ifF hb4 h
        refine Run.offT rfl rfl rfl rfl hb4 ?_
        refine Run.offT rfl rfl rfl rfl hb4 ?_
        refine Run.offT rfl rfl rfl rfl hb4 ?_
        refine Run.offT rfl rfl rfl rfl hb4 ?_
        refine Run.offT rfl rfl rfl rfl hb4 ?_
        refine Run.offT rfl rfl rfl rfl hb4 ?_
        refine Run.go (Ev.pickF rfl hb4 rfl rfl) ?_
        refine Run.nil ?_
        cases h
        exact ⟨(), trivial, Ghost.only [] [0, 3, 15] rfl⟩
    · refine T.cond rfl (fun hb7 => ?_) (fun hb7 => ?_)
      · replace h := ifT hb7 h
        refine T.skip ?_
        refine T.block ?_
        refine T.region ?_
        refine Run.go (Ev.move rfl rfl) ?_
        refine Run.go (Ev.int rfl rfl rfl rfl trivial) ?_
        refine Run.go (Ev.assign rfl rfl) ?_
        refine Run.nil ?_
        cases h
        exact LoopT.ghost (Ghost.only [] [0, 3] rfl) hz1
      · replace h := ifF hb7 h
        refine T.exit ?_
        cases h
        cases hz1
        exact ⟨(), trivial, Ghost.only [] [0, 3] rfl⟩
  · refine T.seq ?_
    refine T.region ?_
    refine Run.go (Ev.build X 1 rfl rfl rfl rfl rfl rfl rfl rfl) ?_
    refine Run.go (Ev.move rfl rfl) ?_
    refine Run.go (Ev.move rfl rfl) ?_
    obtain ⟨x8, e9, h⟩ := bdS h
    refine Run.go (Ev.e_ct X e9 rfl rfl rfl (fun _ h => by cases h) (fun _ => rfl) (fun _ _ => cutAt_of rfl) (fun h => by cases h)) ?_
    obtain ⟨x10, e11, h⟩ := bdS h
    refine Run.go (Ev.e_ap X 2 e11 rfl rfl rfl .v rfl rfl rfl rfl rfl) ?_
    refine Run.go (Ev.assign rfl rfl) ?_
    refine Run.nil ?_
    refine T.ret ?_
    cases h
    exact Fin.one rfl (.own rfl)
theorem en73 : Enters Tryz.prog 73 := ⟨_, Tryz.func73, rfl, rfl⟩
theorem k_triviumref02_MulAdd {p0 : (List Int)} {p1 : Int} {p2 : Int} {y : (List Int)} (h : m_triviumref02_MulAdd p0 p1 p2 = some y) : Spec Tryz.prog 73 [(.v (.sl (.int .i64)) p0), (.v (.int .i64) p1), (.v (.int .i64) p2)] (.v (.sl (.int .i64)) y) [] := by
  rw [m_triviumref02_MulAdd] at h
  refine enterN [(.v (.sl (.int .i64)) p0), (.v (.int .i64) p1), (.v (.int .i64) p2)] 42 Tryz.func73 rfl rfl rfl ?_
  refine T.seq ?_
  refine T.region ?_
  refine Run.go (Ev.assign rfl rfl) ?_
  refine Run.nil ?_
  refine T.seq ?_
  refine T.region ?_
  refine Run.go (Ev.build X 1 rfl rfl rfl rfl rfl rfl rfl rfl) ?_
  refine Run.go (Ev.assign rfl rfl) ?_
  refine Run.nil ?_
  obtain ⟨⟨v1, v2⟩, hv, h⟩ := bdS h
  refine T.cut (fun _ : Unit => (⟨[(2, .v (.int .i64) v1), (7, .own 5)], [(5, .arr 3 (.int .i64) v2)], 42⟩ : St)) (fun _ => True) ?_ (fun _ _ => ?_)
  · replace h := hv
    clear hv
    refine T.seq ?_
    refine T.region ?_
    refine Run.go (Ev.assign rfl rfl) ?_
    refine Run.nil ?_
    refine T.block ?_
    refine T.loop (LoopT.ghost (Ghost.only [(1, 15)] [0, 1, 2, 7, 8] rfl) (LoopT.run (fun q : Int × Int × (List Int) => (⟨[(0, .v (.sl (.int .i64)) p0), (1, .v (.int .i64) p1), (2, .v (.int .i64) q.1), (7, .own 15), (8, .v (.int .i64) q.2.1)], [(15, .arr 3 (.int .i64) q.2.2)], 42⟩ : St)) (fun q z1 h hz1 => ?_) h))
    obtain ⟨v3, v4, v5⟩ := q
    dsimp only
    rw [m_triviumref02_MulAdd_l1] at h
    refine T.seq ?_
    refine T.seq ?_
    refine T.region ?_
    refine Run.go (Ev.move rfl rfl) ?_
    refine Run.go (Ev.move rfl rfl) ?_
    refine Run.go (Ev.len X rfl rfl rfl rfl) ?_
    refine Run.go (Ev.int rfl rfl rfl rfl trivial) ?_
    refine Run.nil ?_
    refine T.cond rfl (fun hb6 => ?_) (fun hb6 => ?_)
    · replace h := ifT hb6 h
      refine T.skip ?_
      refine T.seq ?_
      refine T.block ?_
      refine T.seq ?_
      refine T.region ?_
      refine Run.go (Ev.move rfl rfl) ?_
      refine Run.go (Ev.move rfl rfl) ?_
      refine Run.go (Ev.move rfl rfl) ?_
      obtain ⟨x7, e8, h⟩ := bdS h
      refine Run.go (Ev.e_rd X e8 rfl rfl rfl rfl) ?_
      refine Run.go (Ev.load X rfl rfl rfl) ?_
      refine Run.go (Ev.move rfl rfl) ?_
      refine Run.go (Ev.int rfl rfl rfl rfl trivial) ?_
      refine Run.go (Ev.int rfl rfl rfl rfl trivial) ?_
      refine Run.go (Ev.assign rfl rfl) ?_
      refine Run.nil ?_
      refine T.seq ?_
      refine T.region ?_
      refine Run.go (Ev.move rfl rfl) ?_
      refine Run.go (Ev.move rfl rfl) ?_
      obtain ⟨x9, e10, h⟩ := bdS h
      refine Run.go (Ev.e_rm e10 rfl rfl rfl) ?_
      refine Run.go (Ev.build X 19 rfl rfl rfl rfl rfl rfl rfl rfl) ?_
      obtain ⟨x11, e12, h⟩ := bdS h
      refine Run.go (Ev.e_ap X 20 e12 rfl rfl rfl (.own rfl) rfl rfl rfl rfl rfl) ?_
      refine Run.go (Ev.assign rfl rfl) ?_
      refine Run.nil ?_
      refine T.region ?_
      refine Run.go (Ev.move rfl rfl) ?_
      obtain ⟨x13, e14, h⟩ := bdS h
      refine Run.go (Ev.e_qd e14 rfl rfl rfl) ?_
      refine Run.go (Ev.assign rfl rfl) ?_
      refine Run.nil ?_
      refine T.region ?_
      refine Run.go (Ev.move rfl rfl) ?_
      refine Run.go (Ev.int rfl rfl rfl rfl trivial) ?_
      refine Run.go (Ev.assign rfl rfl) ?_
      refine Run.nil ?_
      cases h
      exact LoopT.ghost (Ghost.only [(20, 15)] [0, 1, 2, 7, 8] rfl) hz1
    · replace h := ifF hb6 h
      refine T.exit ?_
      cases h
      cases hz1
      exact ⟨(), trivial, Ghost.only [(15, 5)] [2, 7] rfl⟩
  · obtain ⟨v15, hv, h⟩ := bdS h
    refine T.cut (fun _ : Unit => (⟨[(7, .own 24)], [(24, .arr 3 (.int .i64) v15)], 42⟩ : St)) (fun _ => True) ?_ (fun _ _ => ?_)
    · replace h := hv
      clear hv
      refine T.block ?_
      refine T.loop (LoopT.ghost (Ghost.only [(5, 34)] [2, 7] rfl) (LoopT.run (fun q : Int × (List Int) => (⟨[(2, .v (.int .i64) q.1), (7, .own 34)], [(34, .arr 3 (.int .i64) q.2)], 42⟩ : St)) (fun q z1 h hz1 => ?_) h))
      obtain ⟨v16, v17⟩ := q
      dsimp only
      rw [m_triviumref02_MulAdd_l2] at h
      refine T.seq ?_
      refine T.seq ?_
      refine T.region ?_
      refine Run.go (Ev.move rfl rfl) ?_
      refine Run.go (Ev.int rfl rfl rfl rfl trivial) ?_
      refine Run.nil ?_
      refine T.cond rfl (fun hb18 => ?_) (fun hb18 => ?_)
      · replace h := ifT hb18 h
        refine T.skip ?_
        refine T.block ?_
        refine T.seq ?_
        refine T.region ?_
        refine Run.go (Ev.move rfl rfl) ?_
        refine Run.go (Ev.move rfl rfl) ?_
        obtain ⟨x19, e20, h⟩ := bdS h
        refine Run.go (Ev.e_rm e20 rfl rfl rfl) ?_
        refine Run.go (Ev.build X 38 rfl rfl rfl rfl rfl rfl rfl rfl) ?_
        obtain ⟨x21, e22, h⟩ := bdS h
        refine Run.go (Ev.e_ap X 39 e22 rfl rfl rfl (.own rfl) rfl rfl rfl rfl rfl) ?_
        refine Run.go (Ev.assign rfl rfl) ?_
        refine Run.nil ?_
        refine T.region ?_
        refine Run.go (Ev.move rfl rfl) ?_
        obtain ⟨x23, e24, h⟩ := bdS h
        refine Run.go (Ev.e_qd e24 rfl rfl rfl) ?_
        refine Run.go (Ev.assign rfl rfl) ?_
        refine Run.nil ?_
        cases h
        exact LoopT.ghost (Ghost.only [(39, 34)] [2, 7] rfl) hz1
      · replace h := ifF hb18 h
        refine T.exit ?_
        cases h
        cases hz1
        exact ⟨(), trivial, Ghost.only [(34, 24)] [7] rfl⟩
    · refine T.seq ?_
      refine T.region ?_
      refine Run.go (Ev.move rfl rfl) ?_
      refine Run.ghost (Ghost.firmAll (id := 24) rfl) ?_
      obtain ⟨x25, e26, h⟩ := bdS h
      refine Run.go (Ev.callC en75 (k_triviumref02_Trim e26) rfl (.cons .v .nil) rfl rfl) ?_
      refine Run.go (Ev.assign rfl rfl) ?_
      refine Run.nil ?_
      refine T.ret ?_
      cases h
      exact Fin.one rfl .v
theorem en57 : Enters Tryz.prog 57 := ⟨_, Tryz.func57, rfl, rfl⟩
theorem k_triviumref02_Cmp {p0 : (List Int)} {p1 : (List Int)} {y : Int} (h : m_triviumref02_Cmp p0 p1 = some y) : Spec Tryz.prog 57 [(.v (.sl (.int .i64)) p0), (.v (.sl (.int .i64)) p1)] (.v (.int .i64) y) [] := by
  rw [m_triviumref02_Cmp] at h
  refine enterN [(.v (.sl (.int .i64)) p0), (.v (.sl (.int .i64)) p1)] 41 Tryz.func57 rfl rfl rfl ?_
  refine T.seq ?_
  refine T.region ?_
  refine Run.go (Ev.assign rfl rfl) ?_
  refine Run.nil ?_
  refine T.seq ?_
  refine T.seq ?_
  refine T.region ?_
  refine Run.go (Ev.move rfl rfl) ?_
  refine Run.go (Ev.len X rfl rfl rfl rfl) ?_
  refine Run.go (Ev.move rfl rfl) ?_
  refine Run.go (Ev.len X rfl rfl rfl rfl) ?_
  refine Run.go (Ev.int rfl rfl rfl rfl trivial) ?_
  refine Run.nil ?_
  refine T.cond rfl (fun hb1 => ?_) (fun hb1 => ?_)
  · replace h := ifT hb1 h
    refine T.seq ?_
    refine T.seq ?_
    refine T.region ?_
    refine Run.go (Ev.move rfl rfl) ?_
    refine Run.go (Ev.len X rfl rfl rfl rfl) ?_
    refine Run.go (Ev.move rfl rfl) ?_
    refine Run.go (Ev.len X rfl rfl rfl rfl) ?_
    refine Run.go (Ev.int rfl rfl rfl rfl trivial) ?_
    refine Run.nil ?_
    refine T.cond rfl (fun hb2 => ?_) (fun hb2 => ?_)
    · replace h := ifT hb2 h
      refine T.seq ?_
      refine T.region ?_
      refine Run.go (Ev.assign rfl rfl) ?_
      refine Run.nil ?_
      refine T.ret ?_
      cases h
      exact Fin.one rfl .v
    · replace h := ifF hb2 h
      refine T.skip ?_
      refine T.seq ?_
      refine T.region ?_
      refine Run.go (Ev.assign rfl rfl) ?_
      refine Run.nil ?_
      refine T.ret ?_
      cases h
      exact Fin.one rfl .v
  · replace h := ifF hb1 h
    refine T.skip ?_
    refine T.seq ?_
    refine T.seq ?_
    refine T.region ?_
    refine Run.go (Ev.move rfl rfl) ?_
    refine Run.go (Ev.len X rfl rfl rfl rfl) ?_
    refine Run.go (Ev.int rfl rfl rfl rfl trivial) ?_
    refine Run.go (Ev.assign rfl rfl) ?_
    refine Run.nil ?_
    refine T.block ?_
    refine T.loop (LoopT.ghost (Ghost.only [] [0, 1, 5] rfl) (LoopT.run (fun q : Int => (⟨[(0, .v (.sl (.int .i64)) p0), (1, .v (.sl (.int .i64)) p1), (5, .v (.int .i64) q)], [], 41⟩ : St)) (fun v3 z1 h hz1 => ?_) h))
    rw [m_triviumref02_Cmp_l1] at h
    refine T.seq ?_
    refine T.seq ?_
    refine T.region ?_
    refine Run.go (Ev.move rfl rfl) ?_
    refine Run.go (Ev.int rfl rfl rfl rfl trivial) ?_
    refine Run.nil ?_
    refine T.cond rfl (fun hb4 => ?_) (fun hb4 => ?_)
    · replace h := ifT hb4 h
      refine T.skip ?_
      refine T.seq ?_
      refine T.block ?_
      refine T.seq ?_
      refine T.seq ?_
      refine T.drawM [] [0, 0, 3, 7, 0, 0, 48, 112, 255] (by kernel_rfl) (by kernel_rfl) ?_
      refine RunD.w (fun _ => Ev.move rfl rfl) ?_
      refine RunD.w (fun _ => Ev.move rfl rfl) ?_
      obtain ⟨x5, e6, h⟩ := bdS h
      refine RunD.a rfl rfl (Ev.e_rd X e6 rfl rfl rfl rfl) ?_
      refine RunD.a rfl rfl (Ev.load X rfl rfl rfl) ?_
      refine RunD.w (fun _ => Ev.move rfl rfl) ?_
      refine RunD.w (fun _ => Ev.move rfl rfl) ?_
      obtain ⟨x7, e8, h⟩ := bdS h
      refine RunD.a rfl rfl (Ev.e_rd X e8 rfl rfl rfl rfl) ?_
      refine RunD.a rfl rfl (Ev.load X rfl rfl rfl) ?_
      refine RunD.w (fun _ => Ev.int rfl rfl rfl rfl trivial) ?_
      refine RunD.nil ?_
      refine T.cond rfl (fun hb9 => ?_) (fun hb9 => ?_)
      · replace h := ifT hb9 h
        refine T.seq ?_
        refine T.region ?_
        refine Run.go (Ev.assign rfl rfl) ?_
        refine Run.nil ?_
        refine T.ret ?_
        cases h
        cases hz1
        exact Fin.one rfl .v
      · replace h := ifF hb9 h
        refine T.skip ?_
        refine T.seq ?_
        refine T.drawM [] [0, 0, 3, 7, 0, 0, 48, 112, 255] (by kernel_rfl) (by kernel_rfl) ?_
        refine RunD.w (fun _ => Ev.move rfl rfl) ?_
        refine RunD.w (fun _ => Ev.move rfl rfl) ?_
        obtain ⟨x10, e11, h⟩ := bdS h
        refine RunD.a rfl rfl (Ev.e_rd X e11 rfl rfl rfl rfl) ?_
        refine RunD.a rfl rfl (Ev.load X rfl rfl rfl) ?_
        refine RunD.w (fun _ => Ev.move rfl rfl) ?_
        refine RunD.w (fun _ => Ev.move rfl rfl) ?_
        obtain ⟨x12, e13, h⟩ := bdS h
        refine RunD.a rfl rfl (Ev.e_rd X e13 rfl rfl rfl rfl) ?_
        refine RunD.a rfl rfl (Ev.load X rfl rfl rfl) ?_
        refine RunD.w (fun _ => Ev.int rfl rfl rfl rfl trivial) ?_
        refine RunD.nil ?_
        refine T.cond rfl (fun hb14 => ?_) (fun hb14 => ?_)
        · replace h := ifT hb14 h
          refine T.seq ?_
          refine T.region ?_
          refine Run.go (Ev.assign rfl rfl) ?_
          refine Run.nil ?_
          refine T.ret ?_
          cases h
          cases hz1
          exact Fin.one rfl .v
        · replace h := ifF hb14 h
          refine T.skip ?_
          refine T.region ?_
          refine Run.go (Ev.move rfl rfl) ?_
          refine Run.go (Ev.int rfl rfl rfl rfl trivial) ?_
          refine Run.go (Ev.assign rfl rfl) ?_
          refine Run.nil ?_
          cases h
          exact LoopT.ghost (Ghost.only [] [0, 1, 5] rfl) hz1
    · replace h := ifF hb4 h
      refine T.exit ?_
      refine T.seq ?_
      refine T.region ?_
      refine Run.go (Ev.assign rfl rfl) ?_
      refine Run.nil ?_
      refine T.ret ?_
      cases h
      cases hz1
      exact Fin.one rfl .v
theorem en94 : Enters Tryz.prog 94 := ⟨_, Tryz.func94, rfl, rfl⟩
theorem k_triviumref02_Sub {p0 : (List Int)} {p1 : (List Int)} {y : (List Int)} (h : m_triviumref02_Sub p0 p1 = some y) : Spec Tryz.prog 94 [(.v (.sl (.int .i64)) p0), (.v (.sl (.int .i64)) p1)] (.v (.sl (.int .i64)) y) [] := by
  rw [m_triviumref02_Sub] at h
  refine enterN [(.v (.sl (.int .i64)) p0), (.v (.sl (.int .i64)) p1)] 42 Tryz.func94 rfl rfl rfl ?_
  refine T.seq ?_
  refine T.region ?_
  refine Run.go (Ev.assign rfl rfl) ?_
  refine Run.nil ?_
  refine T.seq ?_
  refine T.region ?_
  refine Run.go (Ev.build X 1 rfl rfl rfl rfl rfl rfl rfl rfl) ?_
  refine Run.go (Ev.assign rfl rfl) ?_
  refine Run.go (Ev.assign rfl rfl) ?_
  refine Run.nil ?_
  obtain ⟨v1, hv, h⟩ := bdS h
  refine T.cut (fun _ : Unit => (⟨[(5, .own 7)], [(7, .arr 3 (.int .i64) v1)], 42⟩ : St)) (fun _ => True) ?_ (fun _ _ => ?_)
  · replace h := hv
    clear hv
    refine T.seq ?_
    refine T.region ?_
    refine Run.go (Ev.assign rfl rfl) ?_
    refine Run.nil ?_
    refine T.block ?_
    refine T.loop (LoopT.ghost (Ghost.only [(1, 23)] [0, 1, 5, 6, 7] rfl) (LoopT.run (fun q : Int × Int × (List Int) => (⟨[(0, .v (.sl (.int .i64)) p0), (1, .v (.sl (.int .i64)) p1), (5, .own 23), (6, .v (.int .i64) q.1), (7, .v (.int .i64) q.2.1)], [(23, .arr 3 (.int .i64) q.2.2)], 42⟩ : St)) (fun q z1 h hz1 => ?_) h))
    obtain ⟨v2, v3, v4⟩ := q
    dsimp only
    rw [m_triviumref02_Sub_l1] at h
    refine T.seq ?_
    refine T.seq ?_
    refine T.region ?_
    refine Run.go (Ev.move rfl rfl) ?_
    refine Run.go (Ev.move rfl rfl) ?_
    refine Run.go (Ev.len X rfl rfl rfl rfl) ?_
    refine Run.go (Ev.int rfl rfl rfl rfl trivial) ?_
    refine Run.nil ?_
    refine T.cond rfl (fun hb5 => ?_) (fun hb5 => ?_)
    · replace h := ifT hb5 h
      refine T.skip ?_
      refine T.seq ?_
      refine T.block ?_
      refine T.seq ?_
      refine T.region ?_
      refine Run.go (Ev.move rfl rfl) ?_
      refine Run.go (Ev.move rfl rfl) ?_
      obtain ⟨x6, e7, h⟩ := bdS h
      refine Run.go (Ev.e_rd X e7 rfl rfl rfl rfl) ?_
      refine Run.go (Ev.load X rfl rfl rfl) ?_
      refine Run.go (Ev.move rfl rfl) ?_
      refine Run.go (Ev.int rfl rfl rfl rfl trivial) ?_
      refine Run.go (Ev.assign rfl rfl) ?_
      refine Run.nil ?_
      obtain ⟨v8, hv, h⟩ := bdS h
      refine T.cut (fun _ : Unit => (⟨[(0, .v (.sl (.int .i64)) p0), (1, .v (.sl (.int .i64)) p1), (5, .own 23), (7, .v (.int .i64) v3), (8, .v (.int .i64) v8)], [(23, .arr 3 (.int .i64) v4)], 42⟩ : St)) (fun _ => True) ?_ (fun _ _ => ?_)
      · replace h := hv
        clear hv
        refine T.seq ?_
        refine T.region ?_
        refine Run.go (Ev.move rfl rfl) ?_
        refine Run.go (Ev.move rfl rfl) ?_
        refine Run.go (Ev.len X rfl rfl rfl rfl) ?_
        refine Run.go (Ev.int rfl rfl rfl rfl trivial) ?_
        refine Run.nil ?_
        refine T.cond rfl (fun hb9 => ?_) (fun hb9 => ?_)
        · replace h := ifT hb9 h
          refine T.region ?_
          refine Run.go (Ev.move rfl rfl) ?_
          refine Run.go (Ev.move rfl rfl) ?_
          refine Run.go (Ev.move rfl rfl) ?_
          obtain ⟨x10, e11, h⟩ := bdS h
          refine Run.go (Ev.e_rd X e11 rfl rfl rfl rfl) ?_
          refine Run.go (Ev.load X rfl rfl rfl) ?_
          refine Run.go (Ev.int rfl rfl rfl rfl trivial) ?_
          refine Run.go (Ev.assign rfl rfl) ?_
          refine Run.nil ?_
          cases h
          exact ⟨(), trivial, Ghost.only [(23, 23)] [0, 1, 5, 7, 8] rfl⟩
        · replace h := ifF hb9 h
          refine T.skip ?_
          cases h
          exact ⟨(), trivial, Ghost.only [(23, 23)] [0, 1, 5, 7, 8] rfl⟩
      · refine T.seq ?_
        refine T.region ?_
        refine Run.go (Ev.assign rfl rfl) ?_
        refine Run.nil ?_
        obtain ⟨⟨v12, v13⟩, hv, h⟩ := bdS h
        refine T.cut (fun _ : Unit => (⟨[(0, .v (.sl (.int .i64)) p0), (1, .v (.sl (.int .i64)) p1), (5, .own 23), (6, .v (.int .i64) v12), (7, .v (.int .i64) v3), (8, .v (.int .i64) v13)], [(23, .arr 3 (.int .i64) v4)], 42⟩ : St)) (fun _ => True) ?_ (fun _ _ => ?_)
        · replace h := hv
          clear hv
          refine T.seq ?_
          refine T.region ?_
          refine Run.go (Ev.move rfl rfl) ?_
          refine Run.go (Ev.int rfl rfl rfl rfl trivial) ?_
          refine Run.nil ?_
          refine T.cond rfl (fun hb14 => ?_) (fun hb14 => ?_)
          · replace h := ifT hb14 h
            refine T.region ?_
            refine Run.go (Ev.move rfl rfl) ?_
            refine Run.go (Ev.int rfl rfl rfl rfl trivial) ?_
            refine Run.go (Ev.assign rfl rfl) ?_
            refine Run.go (Ev.assign rfl rfl) ?_
            refine Run.nil ?_
            cases h
            exact ⟨(), trivial, Ghost.only [(23, 23)] [0, 1, 5, 6, 7, 8] rfl⟩
          · replace h := ifF hb14 h
            refine T.skip ?_
            cases h
            exact ⟨(), trivial, Ghost.only [(23, 23)] [0, 1, 5, 6, 7, 8] rfl⟩
        · refine T.region ?_
          refine Run.go (Ev.move rfl rfl) ?_
          refine Run.go (Ev.move rfl rfl) ?_
          refine Run.go (Ev.build X 31 rfl rfl rfl rfl rfl rfl rfl rfl) ?_
          obtain ⟨x15, e16, h⟩ := bdS h
          refine Run.go (Ev.e_ap X 32 e16 rfl rfl rfl (.own rfl) rfl rfl rfl rfl rfl) ?_
          refine Run.go (Ev.assign rfl rfl) ?_
          refine Run.nil ?_
          refine T.region ?_
          refine Run.go (Ev.move rfl rfl) ?_
          refine Run.go (Ev.int rfl rfl rfl rfl trivial) ?_
          refine Run.go (Ev.assign rfl rfl) ?_
          refine Run.nil ?_
          cases h
          exact LoopT.ghost (Ghost.only [(32, 23)] [0, 1, 5, 6, 7] rfl) hz1
    · replace h := ifF hb5 h
      refine T.exit ?_
      cases h
      cases hz1
      exact ⟨(), trivial, Ghost.only [(23, 7)] [5] rfl⟩
  · refine T.seq ?_
    refine T.region ?_
    refine Run.go (Ev.move rfl rfl) ?_
    refine Run.ghost (Ghost.firmAll (id := 7) rfl) ?_
    obtain ⟨x17, e18, h⟩ := bdS h
    refine Run.go (Ev.callC en75 (k_triviumref02_Trim e18) rfl (.cons .v .nil) rfl rfl) ?_
    refine Run.go (Ev.assign rfl rfl) ?_
    refine Run.nil ?_
    refine T.ret ?_
    cases h
    exact Fin.one rfl .v
theorem en54 : Enters Tryz.prog 54 := ⟨_, Tryz.func54, rfl, rfl⟩
theorem k_triviumref02_Div {p0 : (List Int)} {p1 : (List Int)} {y : (List Int) × (List Int)} (h : m_triviumref02_Div p0 p1 = some y) : Spec Tryz.prog 54 [(.v (.sl (.int .i64)) p0), (.v (.sl (.int .i64)) p1)] (.tup [.v (.sl (.int .i64)) y.1, .v (.sl (.int .i64)) y.2]) [] := by
  rw [m_triviumref02_Div] at h
  refine enterN [(.v (.sl (.int .i64)) p0), (.v (.sl (.int .i64)) p1)] 59 Tryz.func54 rfl rfl rfl ?_
  refine T.seq ?_
  refine T.region ?_
  refine Run.go (Ev.assign rfl rfl) ?_
  refine Run.go (Ev.assign rfl rfl) ?_
  refine Run.nil ?_
  refine T.seq ?_
  refine T.region ?_
  refine Run.go (Ev.move rfl rfl) ?_
  refine Run.go (Ev.len X rfl rfl rfl rfl) ?_
  obtain ⟨x1, e2, h⟩ := bdS h
  refine Run.go (Ev.e_mk X 1 e2 rfl rfl rfl rfl rfl rfl) ?_
  refine Run.go (Ev.build X 2 rfl rfl rfl rfl rfl rfl rfl rfl) ?_
  refine Run.go (Ev.assign rfl rfl) ?_
  refine Run.go (Ev.assign rfl rfl) ?_
  refine Run.nil ?_
  obtain ⟨⟨v3, v4⟩, hv, h⟩ := bdS h
  refine T.cut (fun _ : Unit => (⟨[(6, .own 1), (7, .v (.sl (.int .i64)) v3)], [(1, .arr 3 (.int .i64) v4)], 59⟩ : St)) (fun _ => True) ?_ (fun _ _ => ?_)
  · replace h := hv
    clear hv
    refine T.seq ?_
    refine T.region ?_
    refine Run.go (Ev.move rfl rfl) ?_
    refine Run.go (Ev.len X rfl rfl rfl rfl) ?_
    refine Run.go (Ev.int rfl rfl rfl rfl trivial) ?_
    refine Run.go (Ev.assign rfl rfl) ?_
    refine Run.nil ?_
    refine T.block ?_
    refine T.loop (LoopT.ghost (Ghost.trans (Ghost.firmAll (id := 2) rfl) (Ghost.only [(1, 1)] [0, 1, 6, 7, 8] rfl)) (LoopT.run (fun q : (List Int) × Int × (List Int) => (⟨[(0, .v (.sl (.int .i64)) p0), (1, .v (.sl (.int .i64)) p1), (6, .own 1), (7, .v (.sl (.int .i64)) q.1), (8, .v (.int .i64) q.2.1)], [(1, .arr 3 (.int .i64) q.2.2)], 59⟩ : St)) (fun q z1 h hz1 => ?_) h))
    obtain ⟨v5, v6, v7⟩ := q
    dsimp only
    rw [m_triviumref02_Div_l1] at h
    refine T.seq ?_
    refine T.seq ?_
    refine T.region ?_
    refine Run.go (Ev.move rfl rfl) ?_
    refine Run.go (Ev.int rfl rfl rfl rfl trivial) ?_
    refine Run.nil ?_
    refine T.cond rfl (fun hb8 => ?_) (fun hb8 => ?_)
    · replace h := ifT hb8 h
      refine T.skip ?_
      obtain ⟨⟨v9, v10⟩, hv, h⟩ := bdS h
      refine T.cut (fun _ : Unit => (⟨[(0, .v (.sl (.int .i64)) p0), (1, .v (.sl (.int .i64)) p1), (6, .own 1), (7, .v (.sl (.int .i64)) v9), (8, .v (.int .i64) v6)], [(1, .arr 3 (.int .i64) v10)], 59⟩ : St)) (fun _ => True) ?_ (fun _ _ => ?_)
      · replace h := hv
        clear hv
        refine T.block ?_
        refine T.seq ?_
        refine T.region ?_
        refine Run.go (Ev.move rfl rfl) ?_
        refine Run.go (Ev.move rfl rfl) ?_
        obtain ⟨x11, e12, h⟩ := bdS h
        refine Run.go (Ev.e_rd X e12 rfl rfl rfl rfl) ?_
        refine Run.go (Ev.load X rfl rfl rfl) ?_
        refine Run.go (Ev.build X 117 rfl rfl rfl rfl rfl rfl rfl rfl) ?_
        refine Run.go (Ev.move rfl rfl) ?_
        obtain ⟨x13, e14, h⟩ := bdS h
        refine Run.go (Ev.e_ap X 118 e14 rfl rfl rfl .v rfl rfl rfl rfl rfl) ?_
        refine Run.ghost (Ghost.firmAll (id := 118) rfl) ?_
        obtain ⟨x15, e16, h⟩ := bdS h
        refine Run.go (Ev.callC en75 (k_triviumref02_Trim e16) rfl (.cons .v .nil) rfl rfl) ?_
        refine Run.go (Ev.assign rfl rfl) ?_
        refine Run.nil ?_
        refine T.seq ?_
        refine T.region ?_
        refine Run.go (Ev.assign rfl rfl) ?_
        refine Run.go (Ev.assign rfl rfl) ?_
        refine Run.nil ?_
        obtain ⟨v17, hv, h⟩ := bdS h
        refine T.cut (fun _ : Unit => (⟨[(0, .v (.sl (.int .i64)) p0), (1, .v (.sl (.int .i64)) p1), (6, .own 1), (7, .v (.sl (.int .i64)) x15), (8, .v (.int .i64) v6), (9, .v (.int .i64) v17)], [(1, .arr 3 (.int .i64) v7)], 59⟩ : St)) (fun _ => True) ?_ (fun _ _ => ?_)
        · replace h := hv
          clear hv
          refine T.block ?_
          refine T.loop (LoopT.ghost (Ghost.only [(1, 1)] [0, 1, 6, 7, 8, 9, 10] rfl) (LoopT.run (fun q : Int × Int => (⟨[(0, .v (.sl (.int .i64)) p0), (1, .v (.sl (.int .i64)) p1), (6, .own 1), (7, .v (.sl (.int .i64)) x15), (8, .v (.int .i64) v6), (9, .v (.int .i64) q.1), (10, .v (.int .i64) q.2)], [(1, .arr 3 (.int .i64) v7)], 59⟩ : St)) (fun q z2 h hz2 => ?_) h))
          obtain ⟨v18, v19⟩ := q
          dsimp only
          rw [m_triviumref02_Div_l2] at h
          refine T.seq ?_
          refine T.seq ?_
          refine T.region ?_
          refine Run.go (Ev.move rfl rfl) ?_
          refine Run.go (Ev.move rfl rfl) ?_
          refine Run.go (Ev.int rfl rfl rfl rfl trivial) ?_
          refine Run.go (Ev.int rfl rfl rfl rfl trivial) ?_
          refine Run.nil ?_
          refine T.cond rfl (fun hb20 => ?_) (fun hb20 => ?_)
          · replace h := ifT hb20 h
            refine T.skip ?_
            refine T.block ?_
            refine T.seq ?_
            refine T.region ?_
            refine Run.go (Ev.move rfl rfl) ?_
            refine Run.go (Ev.move rfl rfl) ?_
            refine Run.go (Ev.int rfl rfl rfl rfl trivial) ?_
            obtain ⟨x21, e22, h⟩ := bdS h
            refine Run.go (Ev.e_qd e22 rfl rfl rfl) ?_
            refine Run.go (Ev.assign rfl rfl) ?_
            refine Run.nil ?_
            refine T.seq ?_
            refine T.region ?_
            refine Run.go (Ev.move rfl rfl) ?_
            refine Run.go (Ev.move rfl rfl) ?_
            obtain ⟨x23, e24, h⟩ := bdS h
            refine Run.go (Ev.callC en73 (k_triviumref02_MulAdd e24) rfl (.cons .v (.cons .v (.cons .v .nil))) rfl rfl) ?_
            refine Run.go (Ev.move rfl rfl) ?_
            obtain ⟨x25, e26, h⟩ := bdS h
            refine Run.go (Ev.callC en57 (k_triviumref02_Cmp e26) rfl (.cons .v (.cons .v .nil)) rfl rfl) ?_
            refine Run.go (Ev.int rfl rfl rfl rfl trivial) ?_
            refine Run.nil ?_
            refine T.cond rfl (fun hb27 => ?_) (fun hb27 => ?_)
            · replace h := ifT hb27 h
              refine T.region ?_
              refine Run.go (Ev.move rfl rfl) ?_
              refine Run.go (Ev.assign rfl rfl) ?_
              refine Run.nil ?_
              cases h
              exact LoopT.ghost (Ghost.only [(1, 1)] [0, 1, 6, 7, 8, 9, 10] rfl) hz2
            · replace h := ifF hb27 h
              refine T.region ?_
              refine Run.go (Ev.move rfl rfl) ?_
              refine Run.go (Ev.assign rfl rfl) ?_
              refine Run.nil ?_
              cases h
              exact LoopT.ghost (Ghost.only [(1, 1)] [0, 1, 6, 7, 8, 9, 10] rfl) hz2
          · replace h := ifF hb20 h
            refine T.exit ?_
            cases h
            cases hz2
            exact ⟨(), trivial, Ghost.only [(1, 1)] [0, 1, 6, 7, 8, 9] rfl⟩
        · refine T.seq ?_
          refine T.region ?_
          refine Run.go (Ev.move rfl rfl) ?_
          refine Run.go (Ev.move rfl rfl) ?_
          refine Run.go (Ev.move rfl rfl) ?_
          obtain ⟨j28, e29, h⟩ := bdS h
          refine Run.go (Ev.e_ixO X e29 rfl rfl rfl rfl rfl) ?_
          obtain ⟨x30, e31, h⟩ := ltS h
          refine Run.do_ (Ev.asO (Ev.storeEl X rfl rfl rfl rfl rfl) e31) ?_
          refine Run.nil ?_
          refine T.region ?_
          refine Run.go (Ev.move rfl rfl) ?_
          refine Run.go (Ev.move rfl rfl) ?_
          refine Run.go (Ev.move rfl rfl) ?_
          obtain ⟨x32, e33, h⟩ := bdS h
          refine Run.go (Ev.callC en73 (k_triviumref02_MulAdd e33) rfl (.cons .v (.cons .v (.cons .v .nil))) rfl rfl) ?_
          obtain ⟨x34, e35, h⟩ := bdS h
          refine Run.go (Ev.callC en94 (k_triviumref02_Sub e35) rfl (.cons .v (.cons .v .nil)) rfl rfl) ?_
          refine Run.go (Ev.assign rfl rfl) ?_
          refine Run.nil ?_
          cases h
          exact ⟨(), trivial, Ghost.only [(1, 1)] [0, 1, 6, 7, 8] rfl⟩
      · refine T.region ?_
        refine Run.go (Ev.move rfl rfl) ?_
        refine Run.go (Ev.int rfl rfl rfl rfl trivial) ?_
        refine Run.go (Ev.assign rfl rfl) ?_
        refine Run.nil ?_
        cases h
        exact LoopT.ghost (Ghost.only [(1, 1)] [0, 1, 6, 7, 8] rfl) hz1
    · replace h := ifF hb8 h
      refine T.exit ?_
      cases h
      cases hz1
      exact ⟨(), trivial, Ghost.only [(1, 1)] [6, 7] rfl⟩
  · refine T.seq ?_
    refine T.region ?_
    refine Run.go (Ev.move rfl rfl) ?_
    refine Run.ghost (Ghost.firmAll (id := 1) rfl) ?_
    obtain ⟨x36, e37, h⟩ := bdS h
    refine Run.go (Ev.callC en75 (k_triviumref02_Trim e37) rfl (.cons .v .nil) rfl rfl) ?_
    refine Run.go (Ev.move rfl rfl) ?_
    refine Run.go (Ev.assign rfl rfl) ?_
    refine Run.go (Ev.assign rfl rfl) ?_
    refine Run.nil ?_
    refine T.ret ?_
    cases h
    exact Fin.many X rfl (.cons (.tmp .v) (.cons (.tmp .v) .nil)) rfl
end Go.Proofs.YtfboepeadeafmaaGreatDoor.AE
/- The code comes to the printed functions (printed by a program of ours). -/
namespace Go.Proofs.YtfboepeadeafmaaGreatDoor.AE
open Go Go.RowKit Go.Proofs.YtfboepeadeafmaaGreatDoor.AP
set_option linter.unusedVariables false
set_option maxRecDepth 20000
theorem en74 : Enters Tryz.prog 74 := ⟨_, Tryz.func74, rfl, rfl⟩
theorem k_triviumref02_Gcd {p0 : (List Int)} {p1 : (List Int)} {y : (List Int)} (h : m_triviumref02_Gcd p0 p1 = some y) : Spec Tryz.prog 74 [(.v (.sl (.int .i64)) p0), (.v (.sl (.int .i64)) p1)] (.v (.sl (.int .i64)) y) [] := by
  rw [m_triviumref02_Gcd] at h
  refine enterN [(.v (.sl (.int .i64)) p0), (.v (.sl (.int .i64)) p1)] 19 Tryz.func74 rfl rfl rfl ?_
  refine T.seq ?_
  refine T.region ?_
  refine Run.go (Ev.assign rfl rfl) ?_
  refine Run.nil ?_
  obtain ⟨v1, hv, h⟩ := bdS h
  refine T.cut (fun _ : Unit => (⟨[(0, .v (.sl (.int .i64)) v1)], [], 19⟩ : St)) (fun _ => True) ?_ (fun _ _ => ?_)
  · replace h := hv
    clear hv
    refine T.block ?_
    refine T.loop (LoopT.ghost (Ghost.only [] [0, 1] rfl) (LoopT.run (fun q : (List Int) × (List Int) => (⟨[(0, .v (.sl (.int .i64)) q.1), (1, .v (.sl (.int .i64)) q.2)], [], 19⟩ : St)) (fun q z1 h hz1 => ?_) h))
    obtain ⟨v2, v3⟩ := q
    dsimp only
    rw [m_triviumref02_Gcd_l1] at h
    refine T.seq ?_
    refine T.seq ?_
    refine T.region ?_
    refine Run.go (Ev.move rfl rfl) ?_
    refine Run.go (Ev.len X rfl rfl rfl rfl) ?_
    refine Run.go (Ev.int rfl rfl rfl rfl trivial) ?_
    refine Run.nil ?_
    refine T.cond rfl (fun hb4 => ?_) (fun hb4 => ?_)
    · replace h := ifT hb4 h
      refine T.skip ?_
      refine T.block ?_
      refine T.seq ?_
      refine T.region ?_
      refine Run.go (Ev.move rfl rfl) ?_
      refine Run.go (Ev.move rfl rfl) ?_
      obtain ⟨x5, e6, h⟩ := bdS h
      refine Run.go (Ev.callC en54 (k_triviumref02_Div e6) rfl (.cons .v (.cons .v .nil)) rfl rfl) ?_
      refine Run.go (Ev.move rfl rfl) ?_
      refine Run.go (Ev.extract rfl rfl rfl) ?_
      refine Run.go (Ev.extract rfl rfl rfl) ?_
      refine Run.go (Ev.assign rfl rfl) ?_
      refine Run.go (Ev.assign rfl rfl) ?_
      refine Run.nil ?_
      refine T.region ?_
      refine Run.go (Ev.move rfl rfl) ?_
      refine Run.go (Ev.move rfl rfl) ?_
      refine Run.go (Ev.assign rfl rfl) ?_
      refine Run.go (Ev.assign rfl rfl) ?_
      refine Run.nil ?_
      cases h
      exact LoopT.ghost (Ghost.only [] [0, 1] rfl) hz1
    · replace h := ifF hb4 h
      refine T.exit ?_
      cases h
      cases hz1
      exact ⟨(), trivial, Ghost.only [] [0] rfl⟩
  · refine T.seq ?_
    refine T.region ?_
    refine Run.go (Ev.move rfl rfl) ?_
    refine Run.go (Ev.assign rfl rfl) ?_
    refine Run.nil ?_
    refine T.ret ?_
    cases h
    exact Fin.one rfl .v
theorem en30 : Enters Tryz.prog 30 := ⟨_, Tryz.func30, rfl, rfl⟩
theorem k_triviumref08_Low {p0 : D_triviumref07_Z} {p1 : (List Int)} {y : D_triviumref08_Q} (h : m_triviumref08_Low p0 p1 = some y) : Spec Tryz.prog 30 [(.v Y_triviumref07_Z p0), (.v (.sl (.int .i64)) p1)] (.v Y_triviumref08_Q y) [] := by
  rw [m_triviumref08_Low] at h
  refine enterN [(.v Y_triviumref07_Z p0), (.v (.sl (.int .i64)) p1)] 38 Tryz.func30 rfl rfl rfl ?_
  refine T.seq ?_
  refine T.region ?_
  refine Run.go (Ev.box 1 rfl rfl rfl rfl) ?_
  refine Run.go (Ev.allocN X 2 rfl rfl rfl) ?_
  refine Run.nil ?_
  refine T.seq ?_
  refine T.region ?_
  refine Run.go (Ev.fieldBox X rfl rfl rfl rfl rfl) ?_
  refine Run.go (Ev.loadCell X rfl rfl rfl rfl rfl rfl) ?_
  refine Run.go (Ev.move rfl rfl) ?_
  obtain ⟨x1, e2, h⟩ := bdS h
  refine Run.go (Ev.callC en74 (k_triviumref02_Gcd e2) rfl (.cons .v (.cons .v .nil)) rfl rfl) ?_
  refine Run.go (Ev.assign rfl rfl) ?_
  refine Run.nil ?_
  refine T.seq ?_
  refine T.region ?_
  refine Run.go (Ev.fieldBox X rfl rfl rfl rfl rfl) ?_
  refine Run.go (Ev.loadCell X rfl rfl rfl rfl rfl rfl) ?_
  refine Run.go (Ev.move rfl rfl) ?_
  obtain ⟨x3, e4, h⟩ := bdS h
  refine Run.go (Ev.callC en54 (k_triviumref02_Div e4) rfl (.cons .v (.cons .v .nil)) rfl rfl) ?_
  refine Run.go (Ev.move rfl rfl) ?_
  refine Run.go (Ev.extract rfl rfl rfl) ?_
  refine Run.go (Ev.extract rfl rfl rfl) ?_
  refine Run.go (Ev.assign rfl rfl) ?_
  refine Run.go (Ev.assign rfl rfl) ?_
  refine Run.nil ?_
  refine T.seq ?_
  refine T.region ?_
  refine Run.go (Ev.move rfl rfl) ?_
  refine Run.go (Ev.move rfl rfl) ?_
  obtain ⟨x5, e6, h⟩ := bdS h
  refine Run.go (Ev.callC en54 (k_triviumref02_Div e6) rfl (.cons .v (.cons .v .nil)) rfl rfl) ?_
  refine Run.go (Ev.move rfl rfl) ?_
  refine Run.go (Ev.extract rfl rfl rfl) ?_
  refine Run.go (Ev.extract rfl rfl rfl) ?_
  refine Run.go (Ev.assign rfl rfl) ?_
  refine Run.go (Ev.assign rfl rfl) ?_
  refine Run.nil ?_
  refine T.seq ?_
  refine T.region ?_
  refine Run.go (Ev.fieldBox X rfl rfl rfl rfl rfl) ?_
  refine Run.go (Ev.loadCell X rfl rfl rfl rfl rfl rfl) ?_
  refine Run.go (Ev.move rfl rfl) ?_
  rcases boolCases p0.1 with hb7 | hb7
  · replace h := ifT hb7 h
    refine Run.on rfl rfl rfl hb7 (Ev.move rfl rfl) ?_
    refine Run.on rfl rfl rfl hb7 (Ev.len X rfl rfl rfl rfl) ?_
    refine Run.on rfl rfl rfl hb7 (Ev.int rfl rfl rfl rfl trivial) ?_
    refine Run.go (Ev.pickT rfl hb7 rfl rfl) ?_
    refine Run.go (Ev.move rfl rfl) ?_
    refine Run.go (Ev.struct X pl34 rfl rfl rfl rfl rfl rfl rfl rfl) ?_
    refine Run.go (Ev.move rfl rfl) ?_
    refine Run.go (Ev.struct X pl36 rfl rfl rfl rfl rfl rfl rfl rfl) ?_
    refine Run.do_ (Ev.storeBox X rfl rfl rfl rfl rfl rfl rfl) ?_
    refine Run.nil ?_
    refine T.ret ?_
    cases h
    exact Fin.cell X rfl rfl rfl rfl rfl
  · replace h := ifF hb7 h
    refine Run.offT rfl rfl rfl rfl hb7 ?_
    refine Run.offT rfl rfl rfl rfl hb7 ?_
    refine Run.offT rfl rfl rfl rfl hb7 ?_
    refine Run.go (Ev.pickF rfl hb7 rfl rfl) ?_
    refine Run.go (Ev.move rfl rfl) ?_
    refine Run.go (Ev.struct X pl34 rfl rfl rfl rfl rfl rfl rfl rfl) ?_
    refine Run.go (Ev.move rfl rfl) ?_
    refine Run.go (Ev.struct X pl36 rfl rfl rfl rfl rfl rfl rfl rfl) ?_
    refine Run.do_ (Ev.storeBox X rfl rfl rfl rfl rfl rfl rfl) ?_
    refine Run.nil ?_
    refine T.ret ?_
    cases h
    exact Fin.cell X rfl rfl rfl rfl rfl
theorem k_ratio_places_1_M {p0 : Int} {o1_0 : (List Int)} {y : Int × (List Int)} (h : m_ratio_places_1_M p0 o1_0 = some y) : SpecM Tryz.prog 79 [(.v (.int .u64) p0), (.box 1 0)] [(1, .box [.v (.sl (.int .u64)) o1_0])] (.v (.int .i64) y.1) [(1, .box [.v (.sl (.int .u64)) y.2])] := by
  rw [m_ratio_places_1_M] at h
  refine SpecM.enter 100000 [(.v (.int .u64) p0), (.box 1 0)] 30 Tryz.func79 rfl rfl rfl rfl (fun L => ?_)
  refine T.seq ?_
  refine T.region ?_
  refine Run.go (Ev.assign rfl rfl) ?_
  refine Run.nil ?_
  refine T.seq ?_
  refine T.region ?_
  refine Run.go (Ev.assign rfl rfl) ?_
  refine Run.nil ?_
  refine T.block ?_
  refine T.loop (LoopT.ghost (Ghost.only [(1, 1), (100001, 100001)] [0, 1, 4] rfl) (LoopT.run (fun q : Int × (List Int) => (⟨[(0, .v (.int .u64) p0), (1, .box 1 0), (4, .v (.int .i64) q.1)], [(1, .box [.v (.sl (.int .u64)) q.2]), (100001, .place 1 (L 1).1 (L 1).2)], 30⟩ : St)) (fun q z1 h hz1 => ?_) h))
  obtain ⟨v1, v2⟩ := q
  dsimp only
  rw [m_ratio_places_1_M_l1] at h
  refine T.block ?_
  refine T.seq ?_
  refine T.region ?_
  refine Run.go (Ev.loadCell X rfl rfl rfl rfl rfl rfl) ?_
  refine Run.go (Ev.move rfl rfl) ?_
  obtain ⟨x3, e4, h⟩ := bdS h
  refine Run.go (Ev.callC en80 (k_divide_Small e4) rfl (.cons .v (.cons .v .nil)) rfl rfl) ?_
  refine Run.go (Ev.move rfl rfl) ?_
  refine Run.go (Ev.extract rfl rfl rfl) ?_
  refine Run.go (Ev.extract rfl rfl rfl) ?_
  refine Run.go (Ev.extract rfl rfl rfl) ?_
  refine Run.go (Ev.assign rfl rfl) ?_
  refine Run.go (Ev.assign rfl rfl) ?_
  refine Run.go (Ev.assign rfl rfl) ?_
  refine Run.nil ?_
  refine T.seq ?_
  obtain ⟨v5, hv, h⟩ := bdS h
  refine T.cut (fun _ : Unit => (⟨[(0, .v (.int .u64) p0), (1, .box 1 0), (4, .v (.int .i64) v1), (5, .v (.sl (.int .u64)) x3.1), (25, .v .bool v5)], [(1, .box [.v (.sl (.int .u64)) v2]), (100001, .place 1 (L 1).1 (L 1).2)], 30⟩ : St)) (fun _ => True) ?_ (fun _ _ => ?_)
  · replace h := hv
    clear hv
    refine T.region ?_
    refine Run.go (Ev.move rfl rfl) ?_
    refine Run.go (Ev.int rfl rfl rfl rfl trivial) ?_
    refine Run.go (Ev.move rfl rfl) ?_
    rcases boolCases (!decide (x3.2.2 = 0)) with hb6 | hb6
    · replace h := ifT hb6 h
      refine Run.offT rfl rfl rfl rfl hb6 ?_
      refine Run.offT rfl rfl rfl rfl hb6 ?_
      refine Run.go (Ev.pickT rfl hb6 rfl rfl) ?_
      refine Run.go (Ev.move rfl rfl) ?_
      refine Run.offT rfl rfl rfl rfl rfl ?_
      refine Run.offT rfl rfl rfl rfl rfl ?_
      refine Run.offT rfl rfl rfl rfl rfl ?_
      refine Run.go (Ev.pickT rfl rfl rfl rfl) ?_
      refine Run.nil ?_
      cases h
      exact ⟨(), trivial, Ghost.only [(1, 1), (100001, 100001)] [0, 1, 4, 5, 25] rfl⟩
    · replace h := ifF hb6 h
      refine Run.on rfl rfl rfl hb6 (Ev.move rfl rfl) ?_
      refine Run.on rfl rfl rfl hb6 (Ev.int rfl rfl rfl rfl trivial) ?_
      refine Run.go (Ev.pickF rfl hb6 rfl rfl) ?_
      refine Run.go (Ev.move rfl rfl) ?_
      rcases boolCases (!decide (x3.2.1 = 0)) with hb7 | hb7
      · replace h := ifT hb7 h
        refine Run.offT rfl rfl rfl rfl hb7 ?_
        refine Run.offT rfl rfl rfl rfl hb7 ?_
        refine Run.offT rfl rfl rfl rfl hb7 ?_
        refine Run.go (Ev.pickT rfl hb7 rfl rfl) ?_
        refine Run.nil ?_
        cases h
        exact ⟨(), trivial, Ghost.only [(1, 1), (100001, 100001)] [0, 1, 4, 5, 25] rfl⟩
      · replace h := ifF hb7 h
        refine Run.on rfl rfl rfl hb7 (Ev.loadCell X rfl rfl rfl rfl rfl rfl) ?_
        refine Run.on rfl rfl rfl hb7 (Ev.len X rfl rfl rfl rfl) ?_
        refine Run.on rfl rfl rfl hb7 (Ev.int rfl rfl rfl rfl trivial) ?_
        refine Run.go (Ev.pickF rfl hb7 rfl rfl) ?_
        refine Run.nil ?_
        cases h
        exact ⟨(), trivial, Ghost.only [(1, 1), (100001, 100001)] [0, 1, 4, 5, 25] rfl⟩
  · refine T.cond rfl (fun hb8 => ?_) (fun hb8 => ?_)
    · replace h := ifT hb8 h
      refine T.seq ?_
      refine T.region ?_
      refine Run.go (Ev.move rfl rfl) ?_
      refine Run.go (Ev.assign rfl rfl) ?_
      refine Run.nil ?_
      refine T.ret ?_
      cases h
      cases hz1
      exact FinM.of 100000 [(1, 1)] (inlR.one' (X := X) rfl (.tmp rfl)) rfl rfl rfl rfl ⟨(.inl ⟨rfl, _, rfl, .box, fun _ => rfl⟩), trivial⟩
    · replace h := ifF hb8 h
      refine T.skip ?_
      refine T.seq ?_
      refine T.region ?_
      refine Run.go (Ev.move rfl rfl) ?_
      refine Run.do_ (Ev.storeBox X rfl rfl rfl rfl rfl rfl rfl) ?_
      refine Run.nil ?_
      refine T.region ?_
      refine Run.go (Ev.move rfl rfl) ?_
      refine Run.go (Ev.int rfl rfl rfl rfl trivial) ?_
      refine Run.go (Ev.assign rfl rfl) ?_
      refine Run.nil ?_
      cases h
      exact LoopT.ghost (Ghost.only [(1, 1), (100001, 100001)] [0, 1, 4] rfl) hz1
theorem en46 : Enters Tryz.prog 46 := ⟨_, Tryz.func46, rfl, rfl⟩
theorem k_ratio_places {p0 : (List Int)} {y : Int × Bool} (h : m_ratio_places p0 = some y) : Spec Tryz.prog 46 [(.v (.sl (.int .u64)) p0)] (.tup [.v (.int .i64) y.1, .v .bool y.2]) [] := by
  rw [m_ratio_places] at h
  refine enterN [(.v (.sl (.int .u64)) p0)] 19 Tryz.func46 rfl rfl rfl ?_
  refine T.seq ?_
  refine T.region ?_
  refine Run.go (Ev.box 1 rfl rfl rfl rfl) ?_
  refine Run.go (Ev.assign rfl rfl) ?_
  refine Run.go (Ev.assign rfl rfl) ?_
  refine Run.nil ?_
  refine T.seq ?_
  refine T.region ?_
  refine Run.go (Ev.e_fn rfl rfl) ?_
  refine Run.go (Ev.assign rfl rfl) ?_
  refine Run.nil ?_
  refine T.seq ?_
  refine T.region ?_
  refine Run.go (Ev.move rfl rfl) ?_
  obtain ⟨x2, e1, h⟩ := bdS h
  refine Run.go (Ev.w1 (Ev.lendM [(1, 1)] [(1, 1)] en79 (k_ratio_places_1_M e1) rfl (.cons (.ren rfl) (.cons (.ren rfl) .nil)) rfl rfl rfl rfl rfl (A := .v (.int .i64) x2.1) rfl (W := [(1, .box [.v (.sl (.int .u64)) x2.2])]) rfl rfl)) ?_
  refine Run.go (Ev.move rfl rfl) ?_
  obtain ⟨x4, e3, h⟩ := bdS h
  refine Run.go (Ev.w1 (Ev.lendM [(1, 1)] [(1, 1)] en79 (k_ratio_places_1_M e3) rfl (.cons (.ren rfl) (.cons (.ren rfl) .nil)) rfl rfl rfl rfl rfl (A := .v (.int .i64) x4.1) rfl (W := [(1, .box [.v (.sl (.int .u64)) x4.2])]) rfl rfl)) ?_
  refine Run.go (Ev.assign rfl rfl) ?_
  refine Run.go (Ev.assign rfl rfl) ?_
  refine Run.nil ?_
  refine T.seq ?_
  refine T.drawM [] [0, 0, 3, 0, 0, 24, 56, 63, 255] (by kernel_rfl) (by kernel_rfl) ?_
  refine RunD.w (fun _ => Ev.move rfl rfl) ?_
  refine RunD.w (fun _ => Ev.move rfl rfl) ?_
  refine RunD.a rfl rfl (Ev.max rfl rfl rfl) ?_
  refine RunD.a rfl rfl (Ev.loadCell X rfl rfl rfl rfl rfl rfl) ?_
  obtain ⟨x5, e6, h⟩ := bdS h
  refine RunD.a rfl rfl (Ev.callC en44 (k_nat_Of e6) rfl (.cons .v .nil) rfl rfl) ?_
  obtain ⟨x7, e8, h⟩ := bdS h
  refine RunD.a rfl rfl (Ev.callC en43 (k_nat_Cmp e8) rfl (.cons .v (.cons .v .nil)) rfl rfl) ?_
  refine RunD.w (fun _ => Ev.int rfl rfl rfl rfl trivial) ?_
  refine RunD.w (fun _ => Ev.assign rfl rfl) ?_
  refine RunD.w (fun _ => Ev.assign rfl rfl) ?_
  refine RunD.nil ?_
  refine T.ret ?_
  cases h
  exact Fin.many X rfl (.cons (.tmp .v) (.cons (.tmp .v) .nil)) rfl
theorem en102 : Enters Tryz.prog 102 := ⟨_, Tryz.func102, rfl, rfl⟩
theorem k_digits_chunk {p0 : Int} {y : Int × Int} (h : m_digits_chunk p0 = some y) : Spec Tryz.prog 102 [(.v (.int .i64) p0)] (.tup [.v (.int .u64) y.1, .v (.int .i64) y.2]) [] := by
  rw [m_digits_chunk] at h
  refine enterN [(.v (.int .i64) p0)] 21 Tryz.func102 rfl rfl rfl ?_
  refine T.seq ?_
  refine T.region ?_
  refine Run.go (Ev.assign rfl rfl) ?_
  refine Run.go (Ev.assign rfl rfl) ?_
  refine Run.nil ?_
  refine T.seq ?_
  refine T.region ?_
  refine Run.go (Ev.move rfl rfl) ?_
  refine Run.go (Ev.conv X rfl rfl rfl rfl) ?_
  refine Run.go (Ev.assign rfl rfl) ?_
  refine Run.go (Ev.assign rfl rfl) ?_
  refine Run.nil ?_
  obtain ⟨⟨v1, v2⟩, hv, h⟩ := bdS h
  refine T.cut (fun _ : Unit => (⟨[(4, .v (.int .u64) v1), (5, .v (.int .i64) v2)], [], 21⟩ : St)) (fun _ => True) ?_ (fun _ _ => ?_)
  · replace h := hv
    clear hv
    refine T.block ?_
    refine T.loop (LoopT.ghost (Ghost.only [] [0, 4, 5] rfl) (LoopT.run (fun q : Int × Int => (⟨[(0, .v (.int .i64) p0), (4, .v (.int .u64) q.1), (5, .v (.int .i64) q.2)], [], 21⟩ : St)) (fun q z1 h hz1 => ?_) h))
    obtain ⟨v3, v4⟩ := q
    dsimp only
    rw [m_digits_chunk_l1] at h
    refine T.seq ?_
    refine T.seq ?_
    refine T.region ?_
    refine Run.go (Ev.move rfl rfl) ?_
    refine Run.go (Ev.move rfl rfl) ?_
    refine Run.go (Ev.conv X rfl rfl rfl rfl) ?_
    refine Run.go (Ev.int rfl rfl rfl rfl trivial) ?_
    refine Run.go (Ev.int rfl rfl rfl rfl trivial) ?_
    refine Run.nil ?_
    refine T.cond rfl (fun hb5 => ?_) (fun hb5 => ?_)
    · replace h := ifT hb5 h
      refine T.skip ?_
      refine T.block ?_
      refine T.seq ?_
      refine T.region ?_
      refine Run.go (Ev.move rfl rfl) ?_
      refine Run.go (Ev.move rfl rfl) ?_
      refine Run.go (Ev.conv X rfl rfl rfl rfl) ?_
      refine Run.go (Ev.int rfl rfl rfl rfl trivial) ?_
      refine Run.go (Ev.assign rfl rfl) ?_
      refine Run.nil ?_
      refine T.region ?_
      refine Run.go (Ev.move rfl rfl) ?_
      refine Run.go (Ev.int rfl rfl rfl rfl trivial) ?_
      refine Run.go (Ev.assign rfl rfl) ?_
      refine Run.nil ?_
      cases h
      exact LoopT.ghost (Ghost.only [] [0, 4, 5] rfl) hz1
    · replace h := ifF hb5 h
      refine T.exit ?_
      cases h
      cases hz1
      exact ⟨(), trivial, Ghost.only [] [4, 5] rfl⟩
  · refine T.seq ?_
    refine T.region ?_
    refine Run.go (Ev.move rfl rfl) ?_
    refine Run.go (Ev.move rfl rfl) ?_
    refine Run.go (Ev.assign rfl rfl) ?_
    refine Run.go (Ev.assign rfl rfl) ?_
    refine Run.nil ?_
    refine T.ret ?_
    cases h
    exact Fin.many X rfl (.cons (.tmp .v) (.cons (.tmp .v) .nil)) rfl
theorem en103 : Enters Tryz.prog 103 := ⟨_, Tryz.func103, rfl, rfl⟩
theorem k_digits_piece {p0 : Int} {p1 : Int} {p2 : Int} {y : ByteArray} (h : m_digits_piece p0 p1 p2 = some y) : Spec Tryz.prog 103 [(.v (.int .u64) p0), (.v (.int .i64) p1), (.v (.int .i64) p2)] (.v .str y) [] := by
  rw [m_digits_piece] at h
  refine enterN [(.v (.int .u64) p0), (.v (.int .i64) p1), (.v (.int .i64) p2)] 33 Tryz.func103 rfl rfl rfl ?_
  refine T.seq ?_
  refine T.region ?_
  refine Run.go (Ev.assign rfl rfl) ?_
  refine Run.nil ?_
  refine T.seq ?_
  refine T.region ?_
  refine Run.go (Ev.move rfl rfl) ?_
  obtain ⟨x1, e2, h⟩ := bdS h
  refine Run.go (Ev.e_mk X 1 e2 rfl rfl rfl rfl rfl rfl) ?_
  refine Run.go (Ev.assign rfl rfl) ?_
  refine Run.nil ?_
  obtain ⟨v3, hv, h⟩ := bdS h
  refine T.cut (fun _ : Unit => (⟨[(7, .own 1)], [(1, .arr 5 (.int .u8) v3)], 33⟩ : St)) (fun _ => True) ?_ (fun _ _ => ?_)
  · replace h := hv
    clear hv
    refine T.seq ?_
    refine T.region ?_
    refine Run.go (Ev.move rfl rfl) ?_
    refine Run.go (Ev.move rfl rfl) ?_
    refine Run.nil ?_
    refine T.block ?_
    refine T.loop (LoopT.ghost (Ghost.only [(1, 1)] [0, 1, 2, 7, 11, 12] rfl) (LoopT.run (fun q : Int × Int × (List Int) => (⟨[(0, .v (.int .u64) q.1), (1, .v (.int .i64) p1), (2, .v (.int .i64) p2), (7, .own 1), (11, .v (.int .i64) p2), (12, .v (.int .i64) q.2.1)], [(1, .arr 5 (.int .u8) q.2.2)], 33⟩ : St)) (fun q z1 h hz1 => ?_) h))
    obtain ⟨v4, v5, v6⟩ := q
    dsimp only
    rw [m_digits_piece_l1] at h
    refine T.seq ?_
    refine T.region ?_
    refine Run.go (Ev.int rfl rfl rfl rfl trivial) ?_
    refine Run.nil ?_
    refine T.seq ?_
    refine T.cond rfl (fun hb7 => ?_) (fun hb7 => ?_)
    · replace h := ifT hb7 h
      refine T.skip ?_
      refine T.seq ?_
      refine T.block ?_
      refine T.seq ?_
      refine T.region ?_
      refine Run.go (Ev.move rfl rfl) ?_
      refine Run.go (Ev.assign rfl rfl) ?_
      refine Run.nil ?_
      refine T.seq ?_
      refine T.region ?_
      refine Run.go (Ev.move rfl rfl) ?_
      refine Run.go (Ev.move rfl rfl) ?_
      refine Run.go (Ev.int rfl rfl rfl rfl trivial) ?_
      refine Run.go (Ev.move rfl rfl) ?_
      refine Run.go (Ev.int rfl rfl rfl rfl trivial) ?_
      refine Run.go (Ev.move rfl rfl) ?_
      refine Run.go (Ev.move rfl rfl) ?_
      refine Run.go (Ev.conv X rfl rfl rfl rfl) ?_
      obtain ⟨x8, e9, h⟩ := bdS h
      refine Run.go (Ev.e_rm e9 rfl rfl rfl) ?_
      obtain ⟨x10, e11, h⟩ := bdS h
      refine Run.go (Ev.e_bt X e11 rfl rfl rfl rfl) ?_
      obtain ⟨j12, e13, h⟩ := bdS h
      refine Run.go (Ev.e_ixO X e13 rfl rfl rfl rfl rfl) ?_
      obtain ⟨x14, e15, h⟩ := ltS h
      refine Run.do_ (Ev.asO (Ev.storeEl X rfl rfl rfl rfl rfl) e15) ?_
      refine Run.nil ?_
      refine T.region ?_
      refine Run.go (Ev.move rfl rfl) ?_
      refine Run.go (Ev.move rfl rfl) ?_
      refine Run.go (Ev.conv X rfl rfl rfl rfl) ?_
      obtain ⟨x16, e17, h⟩ := bdS h
      refine Run.go (Ev.e_qd e17 rfl rfl rfl) ?_
      refine Run.go (Ev.assign rfl rfl) ?_
      refine Run.nil ?_
      refine T.region ?_
      refine Run.go (Ev.int rfl rfl rfl rfl trivial) ?_
      refine Run.go (Ev.move rfl rfl) ?_
      refine Run.nil ?_
      cases h
      exact LoopT.ghost (Ghost.only [(1, 1)] [0, 1, 2, 7, 11, 12] rfl) hz1
    · replace h := ifF hb7 h
      refine T.exit ?_
      cases h
      cases hz1
      exact ⟨(), trivial, Ghost.only [(1, 1)] [7] rfl⟩
  · refine T.seq ?_
    refine T.region ?_
    refine Run.go (Ev.move rfl rfl) ?_
    refine Run.ghost (Ghost.firmAll (id := 1) rfl) ?_
    refine Run.go (Ev.e_b2s (e := 0) X rfl rfl rfl rfl) ?_
    refine Run.go (Ev.assign rfl rfl) ?_
    refine Run.nil ?_
    refine T.ret ?_
    cases h
    exact Fin.one rfl .v
theorem k_strings_Builder_copyCheck_M {o1_0 : Bool} {o2 : (List Int)} {y : Bool} (h : m_strings_Builder_copyCheck_M o1_0 o2 = some y) : SpecM Tryz.prog 116 [(.box 1 0)] [(1, .box [.pn o1_0 1 0 127, .owz 2]), (2, .arr 5 (.int .u8) o2)] (.tup []) [(1, .box [.pn y 1 0 127, .owz 2]), (2, .arr 5 (.int .u8) o2)] := by
  rw [m_strings_Builder_copyCheck_M] at h
  refine SpecM.enter 100000 [(.box 1 0)] 20 Tryz.func116 rfl rfl rfl rfl (fun L => ?_)
  refine T.seq ?_
  refine T.region ?_
  refine Run.go (Ev.move rfl rfl) ?_
  refine Run.go (Ev.e_nc rfl rfl rfl rfl) ?_
  refine Run.go (Ev.fieldBoxN fo127_0 sz125 rfl rfl rfl rfl) ?_
  refine Run.go (Ev.loadOne sz125 rfl rfl rfl rfl) ?_
  refine Run.go (Ev.e_pnil pt125 (.inl ⟨rfl, rfl⟩) rfl (.pn rfl) rfl rfl) ?_
  refine Run.nil ?_
  refine T.cond rfl (fun hb1 => ?_) (fun hb1 => ?_)
  · replace h := ifT hb1 h
    refine T.region ?_
    refine Run.go (Ev.move rfl rfl) ?_
    refine Run.go (Ev.move rfl rfl) ?_
    refine Run.go (Ev.e_toU up125_172 rfl rfl rfl rfl) ?_
    refine Run.go (Ev.e_noesc ne132 rfl rfl rfl) ?_
    refine Run.go (Ev.e_fromU ul172_125_127_2 rfl rfl rfl) ?_
    refine Run.go (Ev.e_nc rfl rfl rfl rfl) ?_
    refine Run.go (Ev.fieldBoxN fo127_0 sz125 rfl rfl rfl rfl) ?_
    refine Run.do_ (Ev.e_stPn sz125 rfl rfl rfl) ?_
    refine Run.nil ?_
    cases h
    exact FinM.of 100000 [(1, 1), (2, 2)] (inlR.many' (X := X) rfl .nil rfl) rfl rfl rfl rfl ⟨(.inl ⟨rfl, _, rfl, .box, fun _ => rfl⟩), (.inl ⟨rfl, _, rfl, .refl, fun _ => rfl⟩), trivial⟩
  · replace h := ifF hb1 h
    refine T.seq ?_
    refine T.region ?_
    refine Run.go (Ev.move rfl rfl) ?_
    refine Run.go (Ev.e_nc rfl rfl rfl rfl) ?_
    refine Run.go (Ev.fieldBoxN fo127_0 sz125 rfl rfl rfl rfl) ?_
    refine Run.go (Ev.loadOne sz125 rfl rfl rfl rfl) ?_
    refine Run.go (Ev.move rfl rfl) ?_
    refine Run.go (Ev.e_pself pt125 (.inr ⟨rfl, rfl⟩) rfl rfl rfl rfl) ?_
    refine Run.nil ?_
    refine T.condF rfl hb1 ?_
    refine T.skip ?_
    cases h
    exact FinM.of 100000 [(1, 1), (2, 2)] (inlR.many' (X := X) rfl .nil rfl) rfl rfl rfl rfl ⟨(.inl ⟨rfl, _, rfl, .box, fun _ => rfl⟩), (.inl ⟨rfl, _, rfl, .refl, fun _ => rfl⟩), trivial⟩
theorem k_strings_Builder_WriteString_M {p1 : ByteArray} {o1_0 : Bool} {o2 : (List Int)} {y : Bool × (List Int)} (h : m_strings_Builder_WriteString_M p1 o1_0 o2 = some y) : SpecM Tryz.prog 87 [(.box 1 0), (.v .str p1)] [(1, .box [.pn o1_0 1 0 127, .owz 2]), (2, .arr 5 (.int .u8) o2)] (.tup [.v (.int .i64) ((p1.size : Int) : Int), .bot]) [(1, .box [.pn y.1 1 0 127, .owz 4]), (2, .dead), (4, .arr 5 (.int .u8) y.2)] := by
  rw [m_strings_Builder_WriteString_M] at h
  refine SpecM.enter 100000 [(.box 1 0), (.v .str p1)] 19 Tryz.func87 rfl rfl rfl rfl (fun L => ?_)
  refine T.seq ?_
  refine T.region ?_
  refine Run.go (Ev.assign rfl rfl) ?_
  refine Run.go (Ev.assign rfl rfl) ?_
  refine Run.nil ?_
  refine T.seq ?_
  refine T.region ?_
  refine Run.go (Ev.move rfl rfl) ?_
  obtain ⟨x2, e1, h⟩ := bdS h
  refine Run.go (Ev.w2 (Ev.lendM [(1, 1), (2, 2)] [(1, 1), (2, 2)] en116 (k_strings_Builder_copyCheck_M e1) rfl (.cons (.ren rfl) .nil) rfl rfl rfl rfl rfl (A := .tup []) rfl (W := [(1, .box [.pn x2 1 0 127, .owz 2]), (2, .arr 5 (.int .u8) o2)]) rfl rfl)) ?_
  refine Run.nil ?_
  refine T.seq ?_
  refine T.region ?_
  refine Run.go (Ev.move rfl rfl) ?_
  refine Run.go (Ev.move rfl rfl) ?_
  refine Run.go (Ev.e_nc rfl rfl rfl rfl) ?_
  refine Run.go (Ev.fieldBoxN fo127_1 sz97 rfl rfl rfl rfl) ?_
  refine Run.go (Ev.loadCell X rfl rfl rfl rfl rfl rfl) ?_
  refine Run.go (Ev.move rfl rfl) ?_
  obtain ⟨x3, e4, h⟩ := bdS h
  refine Run.go (Ev.e_apZ X 6 e4 rfl rfl rfl rfl rfl rfl rfl rfl) ?_
  refine Run.go (Ev.e_nc rfl rfl rfl rfl) ?_
  refine Run.go (Ev.fieldBoxN fo127_1 sz97 rfl rfl rfl rfl) ?_
  refine Run.do_ (Ev.storeC sz97 rfl rfl rfl rfl rfl rfl) ?_
  refine Run.nil ?_
  refine T.seq ?_
  refine T.region ?_
  refine Run.go (Ev.move rfl rfl) ?_
  refine Run.go (Ev.len X rfl rfl rfl rfl) ?_
  refine Run.go (Ev.assign rfl rfl) ?_
  refine Run.go (Ev.assign rfl rfl) ?_
  refine Run.nil ?_
  refine T.ret ?_
  cases h
  exact FinM.of 100000 [(1, 1), (900002, 2), (6, 4)] (inlR.many' (X := X) rfl (.cons (.tmp rfl) (.cons .bot .nil)) rfl) rfl rfl rfl rfl ⟨(.inl ⟨rfl, _, rfl, .box, fun _ => rfl⟩), (.inr rfl), trivial⟩
end Go.Proofs.YtfboepeadeafmaaGreatDoor.AE
/- The code comes to the printed functions (printed by a program of ours). -/
namespace Go.Proofs.YtfboepeadeafmaaGreatDoor.AE
open Go Go.RowKit Go.Proofs.YtfboepeadeafmaaGreatDoor.AP
set_option linter.unusedVariables false
set_option maxRecDepth 20000
theorem k_strings_Builder_String_M {o1_0 : Bool} {o2 : (List Int)} {y : ByteArray} (h : m_strings_Builder_String_M o1_0 o2 = some y) : SpecM Tryz.prog 89 [(.box 1 0)] [(1, .box [.pn o1_0 1 0 127, .owz 2]), (2, .arr 5 (.int .u8) o2)] (.v .str y) [(1, .box [.pn o1_0 1 0 127, .bot]), (2, .dead)] := by
  rw [m_strings_Builder_String_M] at h
  refine SpecM.enter 100000 [(.box 1 0)] 14 Tryz.func89 rfl rfl rfl rfl (fun L => ?_)
  refine T.seq ?_
  refine T.region ?_
  refine Run.go (Ev.assign rfl rfl) ?_
  refine Run.nil ?_
  refine T.seq ?_
  refine T.drawE [([1], []), ([1], []), ([1], []), ([1], []), ([2], []), ([1], []), ([1], []), ([1], []), ([1], []), ([2], []), ([2], [2]), ([], [])] [0, 1, 3, 7, 15, 0, 32, 96, 224, 480, 1023, 2047] (by kernel_rfl) (by kernel_rfl) ?_
  refine RunE.go0 [1] (fun ô hô => Ev.move rfl rfl) rfl rfl ?_
  refine RunE.go0 [1] (fun ô hô => Ev.e_nc rfl (one_box (ka hô rfl rfl)) rfl rfl) rfl rfl ?_
  refine RunE.go0 [1] (fun ô hô => Ev.fieldBoxN fo127_1 sz97 rfl (ka hô rfl rfl) rfl rfl) rfl rfl ?_
  refine RunE.go0 [1] (fun ô hô => Ev.loadCell X rfl (ka hô rfl rfl) rfl rfl rfl rfl) rfl rfl ?_
  rcases boolCases (decide (o2.length = 0)) with hb1 | hb1
  · replace h := ifT hb1 h
    refine RunE.go0 [2] (fun ô hô => Ev.e_usd0 X hb1 rfl (ka hô rfl rfl) rfl) rfl rfl ?_
    refine RunE.go0 [1] (fun ô hô => Ev.move rfl rfl) rfl rfl ?_
    refine RunE.go0 [1] (fun ô hô => Ev.e_nc rfl (one_box (ka hô rfl rfl)) rfl rfl) rfl rfl ?_
    refine RunE.go0 [1] (fun ô hô => Ev.fieldBoxN fo127_1 sz97 rfl (ka hô rfl rfl) rfl rfl) rfl rfl ?_
    refine RunE.go0 [1] (fun ô hô => Ev.loadCell X rfl (ka hô rfl rfl) rfl rfl rfl rfl) rfl rfl ?_
    refine RunE.go0 [2] (fun ô hô => Ev.e_lenZ X rfl (ka hô rfl rfl) rfl rfl) rfl rfl ?_
    refine RunE.go1 [2] (fun ô hô => Ev.e_ust0 (id := 2) hb1 rfl rfl rfl) rfl rfl ?_
    refine RunE.go0 [] (fun ô hô => Ev.assign rfl rfl) rfl rfl ?_
    refine RunE.nil ?_
    refine T.ret ?_
    cases h
    exact FinM.of 100000 [(1, 1), (900002, 2)] (inlR.one' (X := X) rfl (.tmp rfl)) rfl rfl rfl rfl ⟨(.inl ⟨rfl, _, rfl, .box, fun _ => rfl⟩), (.inr rfl), trivial⟩
  · replace h := ifF hb1 h
    refine RunE.go0 [2] (fun ô hô => Ev.e_usd X hb1 rfl (ka hô rfl rfl) rfl) rfl rfl ?_
    refine RunE.go0 [1] (fun ô hô => Ev.move rfl rfl) rfl rfl ?_
    refine RunE.go0 [1] (fun ô hô => Ev.e_nc rfl (one_box (ka hô rfl rfl)) rfl rfl) rfl rfl ?_
    refine RunE.go0 [1] (fun ô hô => Ev.fieldBoxN fo127_1 sz97 rfl (ka hô rfl rfl) rfl rfl) rfl rfl ?_
    refine RunE.go0 [1] (fun ô hô => Ev.loadCell X rfl (ka hô rfl rfl) rfl rfl rfl rfl) rfl rfl ?_
    refine RunE.go0 [2] (fun ô hô => Ev.e_lenZ X rfl (ka hô rfl rfl) rfl rfl) rfl rfl ?_
    obtain ⟨x2, e3, h⟩ := bdS h
    refine RunE.go1 [2] (fun ô hô => Ev.e_ust us158_5 e3 rfl (ka hô rfl rfl) rfl rfl rfl) rfl rfl ?_
    refine RunE.go0 [] (fun ô hô => Ev.assign rfl rfl) rfl rfl ?_
    refine RunE.nil ?_
    refine T.ret ?_
    cases h
    exact FinM.of 100000 [(1, 1), (900002, 2)] (inlR.one' (X := X) rfl (.tmp rfl)) rfl rfl rfl rfl ⟨(.inl ⟨rfl, _, rfl, .box, fun _ => rfl⟩), (.inr rfl), trivial⟩
theorem en121 : Enters Tryz.prog 121 := ⟨_, Tryz.func121, rfl, rfl⟩
theorem k_strings_trimLeftByte {p0 : ByteArray} {p1 : Int} {y : ByteArray} (h : m_strings_trimLeftByte p0 p1 = some y) : Spec Tryz.prog 121 [(.v .str p0), (.v (.int .u8) p1)] (.v .str y) [] := by
  rw [m_strings_trimLeftByte] at h
  refine enterN [(.v .str p0), (.v (.int .u8) p1)] 17 Tryz.func121 rfl rfl rfl ?_
  refine T.seq ?_
  refine T.region ?_
  refine Run.go (Ev.assign rfl rfl) ?_
  refine Run.nil ?_
  obtain ⟨v1, hv, h⟩ := bdS h
  refine T.cut (fun _ : Unit => (⟨[(0, .v .str v1)], [], 17⟩ : St)) (fun _ => True) ?_ (fun _ _ => ?_)
  · replace h := hv
    clear hv
    refine T.block ?_
    refine T.loop (LoopT.ghost (Ghost.only [] [0, 1] rfl) (LoopT.run (fun q : ByteArray => (⟨[(0, .v .str q), (1, .v (.int .u8) p1)], [], 17⟩ : St)) (fun v2 z1 h hz1 => ?_) h))
    rw [m_strings_trimLeftByte_l1] at h
    refine T.seq ?_
    obtain ⟨v3, hv, h⟩ := bdS h
    refine T.cut (fun _ : Unit => (⟨[(0, .v .str v2), (1, .v (.int .u8) p1), (13, .v .bool v3)], [], 17⟩ : St)) (fun _ => True) ?_ (fun _ _ => ?_)
    · replace h := hv
      clear hv
      refine T.region ?_
      refine Run.go (Ev.move rfl rfl) ?_
      refine Run.go (Ev.len X rfl rfl rfl rfl) ?_
      refine Run.go (Ev.int rfl rfl rfl rfl trivial) ?_
      refine Run.go (Ev.move rfl rfl) ?_
      rcases boolCases (decide (0 < (v2.size : Int))) with hb4 | hb4
      · replace h := ifT hb4 h
        refine Run.on rfl rfl rfl hb4 (Ev.move rfl rfl) ?_
        obtain ⟨x5, e6, h⟩ := bdS h
        refine Run.on rfl rfl rfl hb4 (Ev.e_bt X e6 rfl rfl rfl rfl) ?_
        refine Run.on rfl rfl rfl hb4 (Ev.move rfl rfl) ?_
        refine Run.on rfl rfl rfl hb4 (Ev.int rfl rfl rfl rfl trivial) ?_
        refine Run.go (Ev.pickT rfl hb4 rfl rfl) ?_
        refine Run.nil ?_
        cases h
        exact ⟨(), trivial, Ghost.only [] [0, 1, 13] rfl⟩
      · replace h := ifF hb4 h
        refine Run.offT rfl rfl rfl rfl hb4 ?_
        refine Run.offT rfl rfl rfl rfl hb4 ?_
        refine Run.offT rfl rfl rfl rfl hb4 ?_
        refine Run.offT rfl rfl rfl rfl hb4 ?_
        refine Run.go (Ev.pickF rfl hb4 rfl rfl) ?_
        refine Run.nil ?_
        cases h
        exact ⟨(), trivial, Ghost.only [] [0, 1, 13] rfl⟩
    · refine T.cond rfl (fun hb7 => ?_) (fun hb7 => ?_)
      · replace h := ifT hb7 h
        refine T.skip ?_
        refine T.block ?_
        refine T.region ?_
        refine Run.go (Ev.move rfl rfl) ?_
        obtain ⟨x8, e9, h⟩ := bdS h
        refine Run.go (Ev.e_cs X e9 rfl rfl rfl (fun _ _ => cutAt_of rfl) (fun h => by cases h) (fun _ h => by cases h) (fun _ => rfl)) ?_
        refine Run.go (Ev.assign rfl rfl) ?_
        refine Run.nil ?_
        cases h
        exact LoopT.ghost (Ghost.only [] [0, 1] rfl) hz1
      · replace h := ifF hb7 h
        refine T.exit ?_
        cases h
        cases hz1
        exact ⟨(), trivial, Ghost.only [] [0] rfl⟩
  · refine T.seq ?_
    refine T.region ?_
    refine Run.go (Ev.move rfl rfl) ?_
    refine Run.go (Ev.assign rfl rfl) ?_
    refine Run.nil ?_
    refine T.ret ?_
    cases h
    exact Fin.one rfl .v
theorem en104 : Enters Tryz.prog 104 := ⟨_, Tryz.func104, rfl, rfl⟩
theorem k_strings_TrimLeft {p0 : ByteArray} {p1 : ByteArray} {y : ByteArray} (h : m_strings_TrimLeft p0 p1 = some y) : Spec Tryz.prog 104 [(.v .str p0), (.v .str p1)] (.v .str y) [] := by
  rw [m_strings_TrimLeft] at h
  refine enterN [(.v .str p0), (.v .str p1)] 37 Tryz.func104 rfl rfl rfl ?_
  refine T.seq ?_
  refine T.region ?_
  refine Run.go (Ev.assign rfl rfl) ?_
  refine Run.nil ?_
  refine T.seq ?_
  obtain ⟨v1, hv, h⟩ := bdS h
  refine T.cut (fun _ : Unit => (⟨[(0, .v .str p0), (1, .v .str p1), (12, .v .bool v1)], [], 37⟩ : St)) (fun _ => True) ?_ (fun _ _ => ?_)
  · replace h := hv
    clear hv
    refine T.region ?_
    refine Run.go (Ev.move rfl rfl) ?_
    refine Run.go (Ev.strs rfl rfl rfl rfl trivial) ?_
    refine Run.go (Ev.move rfl rfl) ?_
    rcases boolCases (sq p0 (bs [])) with hb2 | hb2
    · replace h := ifT hb2 h
      refine Run.offT rfl rfl rfl rfl hb2 ?_
      refine Run.offT rfl rfl rfl rfl hb2 ?_
      refine Run.go (Ev.pickT rfl hb2 rfl rfl) ?_
      refine Run.nil ?_
      cases h
      exact ⟨(), trivial, Ghost.only [] [0, 1, 12] rfl⟩
    · replace h := ifF hb2 h
      refine Run.on rfl rfl rfl hb2 (Ev.move rfl rfl) ?_
      refine Run.on rfl rfl rfl hb2 (Ev.strs rfl rfl rfl rfl trivial) ?_
      refine Run.go (Ev.pickF rfl hb2 rfl rfl) ?_
      refine Run.nil ?_
      cases h
      exact ⟨(), trivial, Ghost.only [] [0, 1, 12] rfl⟩
  · refine T.cond rfl (fun hb3 => ?_) (fun hb3 => ?_)
    · replace h := ifT hb3 h
      refine T.seq ?_
      refine T.region ?_
      refine Run.go (Ev.move rfl rfl) ?_
      refine Run.go (Ev.assign rfl rfl) ?_
      refine Run.nil ?_
      refine T.ret ?_
      cases h
      exact Fin.one rfl .v
    · replace h := ifF hb3 h
      refine T.skip ?_
      refine T.seq ?_
      obtain ⟨v4, hv, h⟩ := bdS h
      refine T.cut (fun _ : Unit => (⟨[(0, .v .str p0), (1, .v .str p1), (21, .v .bool v4)], [], 37⟩ : St)) (fun _ => True) ?_ (fun _ _ => ?_)
      · replace h := hv
        clear hv
        refine T.region ?_
        refine Run.go (Ev.move rfl rfl) ?_
        refine Run.go (Ev.len X rfl rfl rfl rfl) ?_
        refine Run.go (Ev.int rfl rfl rfl rfl trivial) ?_
        refine Run.go (Ev.move rfl rfl) ?_
        rcases boolCases (decide ((p1.size : Int) = 1)) with hb5 | hb5
        · replace h := ifT hb5 h
          refine Run.on rfl rfl rfl hb5 (Ev.move rfl rfl) ?_
          obtain ⟨x6, e7, h⟩ := bdS h
          refine Run.on rfl rfl rfl hb5 (Ev.e_bt X e7 rfl rfl rfl rfl) ?_
          refine Run.on rfl rfl rfl hb5 (Ev.int rfl rfl rfl rfl trivial) ?_
          refine Run.go (Ev.pickT rfl hb5 rfl rfl) ?_
          refine Run.nil ?_
          cases h
          exact ⟨(), trivial, Ghost.only [] [0, 1, 21] rfl⟩
        · replace h := ifF hb5 h
          refine Run.offT rfl rfl rfl rfl hb5 ?_
          refine Run.offT rfl rfl rfl rfl hb5 ?_
          refine Run.offT rfl rfl rfl rfl hb5 ?_
          refine Run.go (Ev.pickF rfl hb5 rfl rfl) ?_
          refine Run.nil ?_
          cases h
          exact ⟨(), trivial, Ghost.only [] [0, 1, 21] rfl⟩
      · refine T.cond rfl (fun hb8 => ?_) (fun hb8 => ?_)
        · replace h := ifT hb8 h
          refine T.seq ?_
          refine T.region ?_
          refine Run.go (Ev.move rfl rfl) ?_
          refine Run.go (Ev.move rfl rfl) ?_
          obtain ⟨x9, e10, h⟩ := bdS h
          refine Run.go (Ev.e_bt X e10 rfl rfl rfl rfl) ?_
          obtain ⟨x11, e12, h⟩ := bdS h
          refine Run.go (Ev.callC en121 (k_strings_trimLeftByte e12) rfl (.cons .v (.cons .v .nil)) rfl rfl) ?_
          refine Run.go (Ev.assign rfl rfl) ?_
          refine Run.nil ?_
          refine T.ret ?_
          cases h
          exact Fin.one rfl .v
        · replace h := ifF hb8 h
          refine T.skip ?_
          refine T.seq ?_
          refine T.seq ?_
          refine T.region ?_
          refine Run.go (Ev.move rfl rfl) ?_
          cases h
theorem en78 : Enters Tryz.prog 78 := ⟨_, Tryz.func78, rfl, rfl⟩
theorem k_digits_In {p0 : (List Int)} {p1 : Int} {y : ByteArray × Int} (h : m_digits_In p0 p1 = some y) : Spec Tryz.prog 78 [(.v (.sl (.int .u64)) p0), (.v (.int .i64) p1)] (.tup [.v .str y.1, .v (.int .i64) y.2]) [] := by
  rw [m_digits_In] at h
  refine enterN [(.v (.sl (.int .u64)) p0), (.v (.int .i64) p1)] 71 Tryz.func78 rfl rfl rfl ?_
  refine T.seq ?_
  refine T.region ?_
  refine Run.go (Ev.assign rfl rfl) ?_
  refine Run.go (Ev.assign rfl rfl) ?_
  refine Run.nil ?_
  refine T.seq ?_
  refine T.seq ?_
  refine T.region ?_
  refine Run.go (Ev.move rfl rfl) ?_
  obtain ⟨x1, e2, h⟩ := bdS h
  refine Run.go (Ev.callC en101 (k_digits_based e2) rfl (.cons .v .nil) rfl rfl) ?_
  refine Run.go (Ev.assign rfl rfl) ?_
  refine Run.nil ?_
  refine T.seq ?_
  refine T.region ?_
  refine Run.go (Ev.move rfl rfl) ?_
  refine Run.go (Ev.int rfl rfl rfl rfl trivial) ?_
  refine Run.nil ?_
  refine T.cond rfl (fun hb3 => ?_) (fun hb3 => ?_)
  · replace h := ifT hb3 h
    refine T.seq ?_
    refine T.region ?_
    refine Run.go (Ev.move rfl rfl) ?_
    refine Run.go (Ev.assign rfl rfl) ?_
    refine Run.go (Ev.assign rfl rfl) ?_
    refine Run.nil ?_
    refine T.ret ?_
    cases h
    exact Fin.many X rfl (.cons (.tmp .v) (.cons (.tmp .v) .nil)) rfl
  · replace h := ifF hb3 h
    refine T.skip ?_
    refine T.seq ?_
    refine T.region ?_
    refine Run.go (Ev.move rfl rfl) ?_
    obtain ⟨x4, e5, h⟩ := bdS h
    refine Run.go (Ev.callC en102 (k_digits_chunk e5) rfl (.cons .v .nil) rfl rfl) ?_
    refine Run.go (Ev.move rfl rfl) ?_
    refine Run.go (Ev.extract rfl rfl rfl) ?_
    refine Run.go (Ev.extract rfl rfl rfl) ?_
    refine Run.go (Ev.assign rfl rfl) ?_
    refine Run.go (Ev.assign rfl rfl) ?_
    refine Run.nil ?_
    refine T.seq ?_
    refine T.region ?_
    refine Run.go (Ev.assign rfl rfl) ?_
    refine Run.nil ?_
    refine T.seq ?_
    refine T.region ?_
    refine Run.go (Ev.move rfl rfl) ?_
    obtain ⟨x6, e7, h⟩ := bdS h
    refine Run.go (Ev.callC en72 (k_nat_Make e7) rfl (.cons .v .nil) rfl rfl) ?_
    refine Run.go (Ev.move rfl rfl) ?_
    refine Run.go (Ev.extract rfl rfl rfl) ?_
    refine Run.go (Ev.extract rfl rfl rfl) ?_
    refine Run.go (Ev.assign rfl rfl) ?_
    refine Run.go (Ev.assign rfl rfl) ?_
    refine Run.nil ?_
    obtain ⟨v8, hv, h⟩ := bdS h
    refine T.cut (fun _ : Unit => (⟨[(9, .own 2)], [(2, .arr 9 .str v8)], 71⟩ : St)) (fun _ => True) ?_ (fun _ _ => ?_)
    · replace h := hv
      clear hv
      refine T.block ?_
      refine T.loop (LoopT.ghost (Ghost.trans (Ghost.empty 9 19 9 .str rfl rfl) (Ghost.only [(19, 13)] [1, 7, 8, 9, 10] rfl)) (LoopT.run (fun q : (List Int) × (List ByteArray) => (⟨[(1, .v (.int .i64) p1), (7, .v (.int .u64) x4.1), (8, .v (.int .i64) x4.2), (9, .own 13), (10, .v (.sl (.int .u64)) q.1)], [(13, .arr 9 .str q.2)], 71⟩ : St)) (fun q z1 h hz1 => ?_) h))
      obtain ⟨v9, v10⟩ := q
      dsimp only
      rw [m_digits_In_l1] at h
      refine T.seq ?_
      refine T.seq ?_
      refine T.region ?_
      refine Run.go (Ev.move rfl rfl) ?_
      refine Run.go (Ev.len X rfl rfl rfl rfl) ?_
      refine Run.go (Ev.int rfl rfl rfl rfl trivial) ?_
      refine Run.nil ?_
      refine T.cond rfl (fun hb11 => ?_) (fun hb11 => ?_)
      · replace h := ifT hb11 h
        refine T.skip ?_
        refine T.block ?_
        refine T.seq ?_
        refine T.region ?_
        refine Run.go (Ev.move rfl rfl) ?_
        refine Run.go (Ev.move rfl rfl) ?_
        obtain ⟨x12, e13, h⟩ := bdS h
        refine Run.go (Ev.callC en80 (k_divide_Small e13) rfl (.cons .v (.cons .v .nil)) rfl rfl) ?_
        refine Run.go (Ev.move rfl rfl) ?_
        refine Run.go (Ev.extract rfl rfl rfl) ?_
        refine Run.go (Ev.extract rfl rfl rfl) ?_
        refine Run.go (Ev.extract rfl rfl rfl) ?_
        refine Run.go (Ev.assign rfl rfl) ?_
        refine Run.go (Ev.assign rfl rfl) ?_
        refine Run.go (Ev.assign rfl rfl) ?_
        refine Run.nil ?_
        refine T.seq ?_
        refine T.region ?_
        refine Run.go (Ev.move rfl rfl) ?_
        refine Run.go (Ev.move rfl rfl) ?_
        refine Run.go (Ev.move rfl rfl) ?_
        refine Run.go (Ev.move rfl rfl) ?_
        obtain ⟨x14, e15, h⟩ := bdS h
        refine Run.go (Ev.callC en103 (k_digits_piece e15) rfl (.cons .v (.cons .v (.cons .v .nil))) rfl rfl) ?_
        refine Run.go (Ev.build X 20 rfl rfl rfl rfl rfl rfl rfl rfl) ?_
        obtain ⟨x16, e17, h⟩ := bdS h
        refine Run.go (Ev.e_ap X 21 e17 rfl rfl rfl (.own rfl) rfl rfl rfl rfl rfl) ?_
        refine Run.go (Ev.assign rfl rfl) ?_
        refine Run.nil ?_
        refine T.region ?_
        refine Run.go (Ev.move rfl rfl) ?_
        refine Run.go (Ev.assign rfl rfl) ?_
        refine Run.nil ?_
        cases h
        exact LoopT.ghost (Ghost.only [(21, 13)] [1, 7, 8, 9, 10] rfl) hz1
      · replace h := ifF hb11 h
        refine T.exit ?_
        cases h
        cases hz1
        exact ⟨(), trivial, Ghost.only [(13, 2)] [9] rfl⟩
    · refine T.seq ?_
      refine T.region ?_
      refine Run.go (Ev.e_allocB 22 23 5 zs127 rfl rfl rfl) ?_
      refine Run.nil ?_
      obtain ⟨⟨v18, v19⟩, hv, h⟩ := bdS h
      refine T.cut (fun _ : Unit => (⟨[(15, .box 22 0)], [(22, .box [.pn v18 22 0 127, .owz 30]), (30, .arr 5 (.int .u8) v19)], 71⟩ : St)) (fun _ => True) ?_ (fun _ _ => ?_)
      · replace h := hv
        clear hv
        refine T.seq ?_
        refine T.region ?_
        refine Run.go (Ev.move rfl rfl) ?_
        refine Run.go (Ev.e_lenO X rfl rfl rfl rfl) ?_
        refine Run.go (Ev.move rfl rfl) ?_
        refine Run.nil ?_
        refine T.block ?_
        refine T.loop (LoopT.ghost (Ghost.only [(2, 2), (22, 22), (23, 44)] [9, 15, 52, 53] rfl) (LoopT.run (fun q : Int × Bool × (List Int) => (⟨[(9, .own 2), (15, .box 22 0), (52, .v (.int .i64) ((v8.length : Int) : Int)), (53, .v (.int .i64) q.1)], [(2, .arr 9 .str v8), (22, .box [.pn q.2.1 22 0 127, .owz 44]), (44, .arr 5 (.int .u8) q.2.2)], 71⟩ : St)) (fun q z1 h hz1 => ?_) h))
        obtain ⟨v20, v21, v22⟩ := q
        dsimp only
        rw [m_digits_In_l2] at h
        refine T.seq ?_
        refine T.region ?_
        refine Run.go (Ev.int rfl rfl rfl rfl trivial) ?_
        refine Run.nil ?_
        refine T.seq ?_
        refine T.cond rfl (fun hb23 => ?_) (fun hb23 => ?_)
        · replace h := ifT hb23 h
          refine T.skip ?_
          refine T.seq ?_
          refine T.block ?_
          refine T.seq ?_
          refine T.region ?_
          refine Run.go (Ev.move rfl rfl) ?_
          refine Run.go (Ev.assign rfl rfl) ?_
          refine Run.nil ?_
          refine T.region ?_
          refine Run.go (Ev.move rfl rfl) ?_
          refine Run.go (Ev.move rfl rfl) ?_
          refine Run.go (Ev.e_lenO X rfl rfl rfl rfl) ?_
          refine Run.go (Ev.int rfl rfl rfl rfl trivial) ?_
          refine Run.go (Ev.move rfl rfl) ?_
          refine Run.go (Ev.int rfl rfl rfl rfl trivial) ?_
          obtain ⟨x24, e25, h⟩ := bdS h
          refine Run.go (Ev.e_rdO X e25 rfl rfl rfl rfl rfl) ?_
          refine Run.go (Ev.e_ldO X (rdS e25).2 rfl rfl rfl rfl) ?_
          obtain ⟨x27, e26, h⟩ := bdS h
          refine Run.go (Ev.w3 (Ev.lendM [(22, 1), (44, 2)] [(1, 22), (2, 44), (4, 49)] en87 (k_strings_Builder_WriteString_M e26) rfl (.cons (.ren rfl) (.cons (.ren rfl) .nil)) rfl rfl rfl rfl rfl (A := .tup [.v (.int .i64) ((x24.size : Int) : Int), .bot]) rfl (W := [(22, .box [.pn x27.1 22 0 127, .owz 49]), (44, .dead), (49, .arr 5 (.int .u8) x27.2)]) rfl rfl)) ?_
          refine Run.nil ?_
          refine T.region ?_
          refine Run.go (Ev.int rfl rfl rfl rfl trivial) ?_
          refine Run.go (Ev.move rfl rfl) ?_
          refine Run.nil ?_
          cases h
          exact LoopT.ghost (Ghost.only [(2, 2), (22, 22), (49, 44)] [9, 15, 52, 53] rfl) hz1
        · replace h := ifF hb23 h
          refine T.exit ?_
          cases h
          cases hz1
          exact ⟨(), trivial, Ghost.only [(22, 22), (44, 30)] [15] rfl⟩
      · refine T.seq ?_
        refine T.region ?_
        obtain ⟨x29, e28, h⟩ := bdS h
        refine Run.go (Ev.w2 (Ev.lendM [(22, 1), (30, 2)] [(1, 22), (2, 30)] en89 (k_strings_Builder_String_M e28) rfl (.cons (.ren rfl) .nil) rfl rfl rfl rfl rfl (A := .v .str x29) rfl (W := [(22, .box [.pn v18 22 0 127, .bot]), (30, .dead)]) rfl rfl)) ?_
        obtain ⟨x30, e31, h⟩ := bdS h
        refine Run.go (Ev.callC en104 (k_strings_TrimLeft e31) rfl (.cons .v (.cons .v .nil)) rfl rfl) ?_
        refine Run.go (Ev.assign rfl rfl) ?_
        refine Run.nil ?_
        obtain ⟨v32, hv, h⟩ := bdS h
        refine T.cut (fun _ : Unit => (⟨[(17, .v .str v32)], [], 71⟩ : St)) (fun _ => True) ?_ (fun _ _ => ?_)
        · replace h := hv
          clear hv
          refine T.seq ?_
          refine T.region ?_
          refine Run.go (Ev.move rfl rfl) ?_
          refine Run.go (Ev.strs rfl rfl rfl rfl trivial) ?_
          refine Run.nil ?_
          refine T.cond rfl (fun hb33 => ?_) (fun hb33 => ?_)
          · replace h := ifT hb33 h
            refine T.region ?_
            refine Run.go (Ev.assign rfl rfl) ?_
            refine Run.nil ?_
            cases h
            exact ⟨(), trivial, Ghost.only [] [17] rfl⟩
          · replace h := ifF hb33 h
            refine T.skip ?_
            cases h
            exact ⟨(), trivial, Ghost.only [] [17] rfl⟩
        · refine T.seq ?_
          refine T.region ?_
          refine Run.go (Ev.move rfl rfl) ?_
          refine Run.go (Ev.assign rfl rfl) ?_
          refine Run.go (Ev.assign rfl rfl) ?_
          refine Run.nil ?_
          refine T.ret ?_
          cases h
          exact Fin.many X rfl (.cons (.tmp .v) (.cons (.tmp .v) .nil)) rfl
theorem en45 : Enters Tryz.prog 45 := ⟨_, Tryz.func45, rfl, rfl⟩
theorem k_digits_Print {p0 : (List Int)} {y : ByteArray} (h : m_digits_Print p0 = some y) : Spec Tryz.prog 45 [(.v (.sl (.int .u64)) p0)] (.v .str y) [] := by
  rw [m_digits_Print] at h
  refine enterN [(.v (.sl (.int .u64)) p0)] 11 Tryz.func45 rfl rfl rfl ?_
  refine T.seq ?_
  refine T.region ?_
  refine Run.go (Ev.assign rfl rfl) ?_
  refine Run.nil ?_
  refine T.seq ?_
  refine T.region ?_
  refine Run.go (Ev.move rfl rfl) ?_
  obtain ⟨x1, e2, h⟩ := bdS h
  refine Run.go (Ev.callC en78 (k_digits_In e2) rfl (.cons .v (.cons .v .nil)) rfl rfl) ?_
  refine Run.go (Ev.move rfl rfl) ?_
  refine Run.go (Ev.extract rfl rfl rfl) ?_
  refine Run.go (Ev.extract rfl rfl rfl) ?_
  refine Run.go (Ev.assign rfl rfl) ?_
  refine Run.go (Ev.assign rfl rfl) ?_
  refine Run.nil ?_
  refine T.seq ?_
  refine T.region ?_
  refine Run.go (Ev.move rfl rfl) ?_
  refine Run.go (Ev.assign rfl rfl) ?_
  refine Run.nil ?_
  refine T.ret ?_
  cases h
  exact Fin.one rfl .v
theorem en13 : Enters Tryz.prog 13 := ⟨_, Tryz.func13, rfl, rfl⟩
theorem k_ratio_Decimal {p0 : D_api_Rat} {y : ByteArray × Bool} (h : m_ratio_Decimal p0 = some y) : Spec Tryz.prog 13 [(.v Y_api_Rat p0)] (.tup [.v .str y.1, .v .bool y.2]) [] := by
  rw [m_ratio_Decimal] at h
  refine enterN [(.v Y_api_Rat p0)] 74 Tryz.func13 rfl rfl rfl ?_
  refine T.seq ?_
  refine T.region ?_
  refine Run.go (Ev.box 1 rfl rfl rfl rfl) ?_
  refine Run.go (Ev.assign rfl rfl) ?_
  refine Run.go (Ev.assign rfl rfl) ?_
  refine Run.nil ?_
  refine T.seq ?_
  refine T.region ?_
  refine Run.go (Ev.fieldBox X rfl rfl rfl rfl rfl) ?_
  refine Run.go (Ev.loadCell X rfl rfl rfl rfl rfl rfl) ?_
  obtain ⟨x1, e2, h⟩ := bdS h
  refine Run.go (Ev.callC en46 (k_ratio_places e2) rfl (.cons .v .nil) rfl rfl) ?_
  refine Run.go (Ev.move rfl rfl) ?_
  refine Run.go (Ev.extract rfl rfl rfl) ?_
  refine Run.go (Ev.extract rfl rfl rfl) ?_
  refine Run.go (Ev.assign rfl rfl) ?_
  refine Run.go (Ev.assign rfl rfl) ?_
  refine Run.nil ?_
  refine T.seq ?_
  refine T.seq ?_
  refine T.region ?_
  refine Run.go (Ev.move rfl rfl) ?_
  refine Run.go (Ev.not rfl rfl) ?_
  refine Run.nil ?_
  refine T.cond rfl (fun hb3 => ?_) (fun hb3 => ?_)
  · replace h := ifT hb3 h
    refine T.seq ?_
    refine T.region ?_
    refine Run.go (Ev.assign rfl rfl) ?_
    refine Run.go (Ev.assign rfl rfl) ?_
    refine Run.nil ?_
    refine T.ret ?_
    cases h
    exact Fin.many X rfl (.cons (.tmp .v) (.cons (.tmp .v) .nil)) rfl
  · replace h := ifF hb3 h
    refine T.skip ?_
    refine T.seq ?_
    refine T.region ?_
    obtain ⟨x4, e5, h⟩ := bdS h
    refine Run.go (Ev.callC en44 (k_nat_Of e5) rfl (.cons .v .nil) rfl rfl) ?_
    refine Run.go (Ev.move rfl rfl) ?_
    obtain ⟨x6, e7, h⟩ := bdS h
    refine Run.go (Ev.callC en47 (k_mul_Pow e7) rfl (.cons .v (.cons .v .nil)) rfl rfl) ?_
    refine Run.go (Ev.move rfl rfl) ?_
    refine Run.go (Ev.extract rfl rfl rfl) ?_
    refine Run.go (Ev.extract rfl rfl rfl) ?_
    refine Run.go (Ev.assign rfl rfl) ?_
    refine Run.go (Ev.assign rfl rfl) ?_
    refine Run.nil ?_
    refine T.seq ?_
    refine T.drawM [] [0, 1, 3, 0, 15, 0, 32, 127, 255, 511, 511, 1023, 4095] (by kernel_rfl) (by kernel_rfl) ?_
    refine RunD.a rfl rfl (Ev.fieldBox X rfl rfl rfl rfl rfl) ?_
    refine RunD.a rfl rfl (Ev.fieldBox X rfl rfl rfl rfl rfl) ?_
    refine RunD.a rfl rfl (Ev.loadCell X rfl rfl rfl rfl rfl rfl) ?_
    refine RunD.w (fun _ => Ev.move rfl rfl) ?_
    obtain ⟨x8, e9, h⟩ := bdS h
    refine RunD.a rfl rfl (Ev.callC en49 (k_mul_Mul e9) rfl (.cons .v (.cons .v .nil)) rfl rfl) ?_
    refine RunD.a rfl rfl (Ev.fieldBox X rfl rfl rfl rfl rfl) ?_
    refine RunD.a rfl rfl (Ev.loadCell X rfl rfl rfl rfl rfl rfl) ?_
    obtain ⟨x10, e11, h⟩ := bdS h
    refine RunD.a rfl rfl (Ev.callC en48 (k_divide_Exact e11) rfl (.cons .v (.cons .v .nil)) rfl rfl) ?_
    refine RunD.w (fun _ => Ev.move rfl rfl) ?_
    refine RunD.w (fun _ => Ev.extract rfl rfl rfl) ?_
    refine RunD.w (fun _ => Ev.extract rfl rfl rfl) ?_
    refine RunD.w (fun _ => Ev.assign rfl rfl) ?_
    refine RunD.w (fun _ => Ev.assign rfl rfl) ?_
    refine RunD.nil ?_
    refine T.seq ?_
    refine T.seq ?_
    refine T.region ?_
    refine Run.go (Ev.move rfl rfl) ?_
    refine Run.go (Ev.int rfl rfl rfl rfl trivial) ?_
    refine Run.nil ?_
    refine T.cond rfl (fun hb12 => ?_) (fun hb12 => ?_)
    · replace h := ifT hb12 h
      refine T.seq ?_
      refine T.region ?_
      refine Run.go (Ev.assign rfl rfl) ?_
      refine Run.go (Ev.assign rfl rfl) ?_
      refine Run.nil ?_
      refine T.ret ?_
      cases h
      exact Fin.many X rfl (.cons (.tmp .v) (.cons (.tmp .v) .nil)) rfl
    · replace h := ifF hb12 h
      refine T.skip ?_
      refine T.seq ?_
      refine T.region ?_
      refine Run.go (Ev.move rfl rfl) ?_
      obtain ⟨x13, e14, h⟩ := bdS h
      refine Run.go (Ev.callC en45 (k_digits_Print e14) rfl (.cons .v .nil) rfl rfl) ?_
      refine Run.go (Ev.assign rfl rfl) ?_
      refine Run.nil ?_
      obtain ⟨v15, hv, h⟩ := bdS h
      refine T.cut (fun _ : Unit => (⟨[(1, .box 1 0), (4, .v (.int .i64) x1.1), (10, .v .str v15)], [(1, .box [.v .bool p0.1.1, .v (.sl (.int .u64)) p0.1.2, .v (.sl (.int .u64)) p0.2])], 74⟩ : St)) (fun _ => True) ?_ (fun _ _ => ?_)
      · replace h := hv
        clear hv
        refine T.seq ?_
        refine T.region ?_
        refine Run.go (Ev.move rfl rfl) ?_
        refine Run.go (Ev.len X rfl rfl rfl rfl) ?_
        refine Run.go (Ev.move rfl rfl) ?_
        refine Run.go (Ev.int rfl rfl rfl rfl trivial) ?_
        refine Run.nil ?_
        refine T.cond rfl (fun hb16 => ?_) (fun hb16 => ?_)
        · replace h := ifT hb16 h
          refine T.region ?_
          refine Run.go (Ev.move rfl rfl) ?_
          refine Run.go (Ev.int rfl rfl rfl rfl trivial) ?_
          refine Run.go (Ev.move rfl rfl) ?_
          refine Run.go (Ev.len X rfl rfl rfl rfl) ?_
          refine Run.go (Ev.int rfl rfl rfl rfl trivial) ?_
          obtain ⟨x17, e18, h⟩ := bdS h
          refine Run.go (Ev.callC en50 (k_strings_Repeat e18) rfl (.cons .v (.cons .v .nil)) rfl rfl) ?_
          refine Run.go (Ev.move rfl rfl) ?_
          obtain ⟨x19, e20, h⟩ := bdS h
          refine Run.go (Ev.e_cat e20 rfl rfl rfl) ?_
          refine Run.go (Ev.assign rfl rfl) ?_
          refine Run.nil ?_
          cases h
          exact ⟨(), trivial, Ghost.only [(1, 1)] [1, 4, 10] rfl⟩
        · replace h := ifF hb16 h
          refine T.skip ?_
          cases h
          exact ⟨(), trivial, Ghost.only [(1, 1)] [1, 4, 10] rfl⟩
      · obtain ⟨v21, hv, h⟩ := bdS h
        refine T.cut (fun _ : Unit => (⟨[(1, .box 1 0), (10, .v .str v21)], [(1, .box [.v .bool p0.1.1, .v (.sl (.int .u64)) p0.1.2, .v (.sl (.int .u64)) p0.2])], 74⟩ : St)) (fun _ => True) ?_ (fun _ _ => ?_)
        · replace h := hv
          clear hv
          refine T.seq ?_
          refine T.region ?_
          refine Run.go (Ev.move rfl rfl) ?_
          refine Run.go (Ev.int rfl rfl rfl rfl trivial) ?_
          refine Run.nil ?_
          refine T.cond rfl (fun hb22 => ?_) (fun hb22 => ?_)
          · replace h := ifT hb22 h
            refine T.drawM [] [0, 0, 2, 0, 14, 31, 63, 0, 0, 256, 0, 1792, 3968, 8191, 16383] (by kernel_rfl) (by kernel_rfl) ?_
            refine RunD.w (fun _ => Ev.move rfl rfl) ?_
            refine RunD.w (fun _ => Ev.move rfl rfl) ?_
            refine RunD.a rfl rfl (Ev.len X rfl rfl rfl rfl) ?_
            refine RunD.w (fun _ => Ev.move rfl rfl) ?_
            refine RunD.w (fun _ => Ev.int rfl rfl rfl rfl trivial) ?_
            obtain ⟨x23, e24, h⟩ := bdS h
            refine RunD.a rfl rfl (Ev.e_cs X e24 rfl rfl rfl (fun _ h => by cases h) (fun _ => rfl) (fun _ _ => cutAt_of rfl) (fun h => by cases h)) ?_
            obtain ⟨x25, e26, h⟩ := bdS h
            refine RunD.w (fun _ => Ev.e_cat e26 rfl rfl rfl) ?_
            refine RunD.w (fun _ => Ev.move rfl rfl) ?_
            refine RunD.w (fun _ => Ev.move rfl rfl) ?_
            refine RunD.a rfl rfl (Ev.len X rfl rfl rfl rfl) ?_
            refine RunD.w (fun _ => Ev.move rfl rfl) ?_
            refine RunD.w (fun _ => Ev.int rfl rfl rfl rfl trivial) ?_
            obtain ⟨x27, e28, h⟩ := bdS h
            refine RunD.a rfl rfl (Ev.e_cs X e28 rfl rfl rfl (fun _ _ => cutAt_of rfl) (fun h => by cases h) (fun _ h => by cases h) (fun _ => rfl)) ?_
            obtain ⟨x29, e30, h⟩ := bdS h
            refine RunD.w (fun _ => Ev.e_cat e30 rfl rfl rfl) ?_
            refine RunD.w (fun _ => Ev.assign rfl rfl) ?_
            refine RunD.nil ?_
            cases h
            exact ⟨(), trivial, Ghost.only [(1, 1)] [1, 10] rfl⟩
          · replace h := ifF hb22 h
            refine T.skip ?_
            cases h
            exact ⟨(), trivial, Ghost.only [(1, 1)] [1, 10] rfl⟩
        · obtain ⟨v31, hv, h⟩ := bdS h
          refine T.cut (fun _ : Unit => (⟨[(10, .v .str v31)], [], 74⟩ : St)) (fun _ => True) ?_ (fun _ _ => ?_)
          · replace h := hv
            clear hv
            refine T.seq ?_
            refine T.region ?_
            refine Run.go (Ev.fieldBox X rfl rfl rfl rfl rfl) ?_
            refine Run.go (Ev.fieldBox X rfl rfl rfl rfl rfl) ?_
            refine Run.go (Ev.loadCell X rfl rfl rfl rfl rfl rfl) ?_
            refine Run.nil ?_
            refine T.cond rfl (fun hb32 => ?_) (fun hb32 => ?_)
            · replace h := ifT hb32 h
              refine T.region ?_
              refine Run.go (Ev.move rfl rfl) ?_
              obtain ⟨x33, e34, h⟩ := bdS h
              refine Run.go (Ev.e_cat e34 rfl rfl rfl) ?_
              refine Run.go (Ev.assign rfl rfl) ?_
              refine Run.nil ?_
              cases h
              exact ⟨(), trivial, Ghost.only [] [10] rfl⟩
            · replace h := ifF hb32 h
              refine T.skip ?_
              cases h
              exact ⟨(), trivial, Ghost.only [] [10] rfl⟩
          · refine T.seq ?_
            refine T.region ?_
            refine Run.go (Ev.move rfl rfl) ?_
            refine Run.go (Ev.assign rfl rfl) ?_
            refine Run.go (Ev.assign rfl rfl) ?_
            refine Run.nil ?_
            refine T.ret ?_
            cases h
            exact Fin.many X rfl (.cons (.tmp .v) (.cons (.tmp .v) .nil)) rfl
theorem en15 : Enters Tryz.prog 15 := ⟨_, Tryz.func15, rfl, rfl⟩
theorem k_rat_Same {p0 : D_api_Rat} {p1 : D_api_Rat} {y : Bool} (h : m_rat_Same p0 p1 = some y) : Spec Tryz.prog 15 [(.v Y_api_Rat p0), (.v Y_api_Rat p1)] (.v .bool y) [] := by
  rw [m_rat_Same] at h
  refine enterN [(.v Y_api_Rat p0), (.v Y_api_Rat p1)] 30 Tryz.func15 rfl rfl rfl ?_
  refine T.seq ?_
  refine T.region ?_
  refine Run.go (Ev.box 1 rfl rfl rfl rfl) ?_
  refine Run.go (Ev.box 2 rfl rfl rfl rfl) ?_
  refine Run.go (Ev.assign rfl rfl) ?_
  refine Run.nil ?_
  refine T.seq ?_
  refine T.region ?_
  refine Run.go (Ev.fieldBox X rfl rfl rfl rfl rfl) ?_
  refine Run.go (Ev.fieldBox X rfl rfl rfl rfl rfl) ?_
  refine Run.go (Ev.loadCell X rfl rfl rfl rfl rfl rfl) ?_
  refine Run.go (Ev.fieldBox X rfl rfl rfl rfl rfl) ?_
  refine Run.go (Ev.fieldBox X rfl rfl rfl rfl rfl) ?_
  refine Run.go (Ev.loadCell X rfl rfl rfl rfl rfl rfl) ?_
  refine Run.go (Ev.bools X rfl rfl rfl rfl rfl) ?_
  refine Run.go (Ev.move rfl rfl) ?_
  rcases boolCases (p0.1.1 == p1.1.1) with hb1 | hb1
  · replace h := ifT hb1 h
    refine Run.on rfl rfl rfl hb1 (Ev.fieldBox X rfl rfl rfl rfl rfl) ?_
    refine Run.on rfl rfl rfl hb1 (Ev.fieldBox X rfl rfl rfl rfl rfl) ?_
    refine Run.on rfl rfl rfl hb1 (Ev.loadCell X rfl rfl rfl rfl rfl rfl) ?_
    refine Run.on rfl rfl rfl hb1 (Ev.fieldBox X rfl rfl rfl rfl rfl) ?_
    refine Run.on rfl rfl rfl hb1 (Ev.fieldBox X rfl rfl rfl rfl rfl) ?_
    refine Run.on rfl rfl rfl hb1 (Ev.loadCell X rfl rfl rfl rfl rfl rfl) ?_
    obtain ⟨x2, e3, h⟩ := bdS h
    refine Run.on rfl rfl rfl hb1 (Ev.callC en43 (k_nat_Cmp e3) rfl (.cons .v (.cons .v .nil)) rfl rfl) ?_
    refine Run.on rfl rfl rfl hb1 (Ev.int rfl rfl rfl rfl trivial) ?_
    refine Run.go (Ev.pickT rfl hb1 rfl rfl) ?_
    refine Run.go (Ev.move rfl rfl) ?_
    rcases boolCases (decide (x2 = 0)) with hb4 | hb4
    · replace h := ifT hb4 h
      refine Run.on rfl rfl rfl hb4 (Ev.fieldBox X rfl rfl rfl rfl rfl) ?_
      refine Run.on rfl rfl rfl hb4 (Ev.loadCell X rfl rfl rfl rfl rfl rfl) ?_
      refine Run.on rfl rfl rfl hb4 (Ev.fieldBox X rfl rfl rfl rfl rfl) ?_
      refine Run.on rfl rfl rfl hb4 (Ev.loadCell X rfl rfl rfl rfl rfl rfl) ?_
      obtain ⟨x5, e6, h⟩ := bdS h
      refine Run.on rfl rfl rfl hb4 (Ev.callC en43 (k_nat_Cmp e6) rfl (.cons .v (.cons .v .nil)) rfl rfl) ?_
      refine Run.on rfl rfl rfl hb4 (Ev.int rfl rfl rfl rfl trivial) ?_
      refine Run.go (Ev.pickT rfl hb4 rfl rfl) ?_
      refine Run.go (Ev.assign rfl rfl) ?_
      refine Run.nil ?_
      refine T.ret ?_
      cases h
      exact Fin.one rfl .v
    · replace h := ifF hb4 h
      refine Run.offT rfl rfl rfl rfl hb4 ?_
      refine Run.offT rfl rfl rfl rfl hb4 ?_
      refine Run.offT rfl rfl rfl rfl hb4 ?_
      refine Run.offT rfl rfl rfl rfl hb4 ?_
      refine Run.offT rfl rfl rfl rfl hb4 ?_
      refine Run.offT rfl rfl rfl rfl hb4 ?_
      refine Run.go (Ev.pickF rfl hb4 rfl rfl) ?_
      refine Run.go (Ev.assign rfl rfl) ?_
      refine Run.nil ?_
      refine T.ret ?_
      cases h
      exact Fin.one rfl .v
  · replace h := ifF hb1 h
    refine Run.offT rfl rfl rfl rfl hb1 ?_
    refine Run.offT rfl rfl rfl rfl hb1 ?_
    refine Run.offT rfl rfl rfl rfl hb1 ?_
    refine Run.offT rfl rfl rfl rfl hb1 ?_
    refine Run.offT rfl rfl rfl rfl hb1 ?_
    refine Run.offT rfl rfl rfl rfl hb1 ?_
    refine Run.offT rfl rfl rfl rfl hb1 ?_
    refine Run.offT rfl rfl rfl rfl hb1 ?_
    refine Run.go (Ev.pickF rfl hb1 rfl rfl) ?_
    refine Run.go (Ev.move rfl rfl) ?_
    refine Run.offT rfl rfl rfl rfl rfl ?_
    refine Run.offT rfl rfl rfl rfl rfl ?_
    refine Run.offT rfl rfl rfl rfl rfl ?_
    refine Run.offT rfl rfl rfl rfl rfl ?_
    refine Run.offT rfl rfl rfl rfl rfl ?_
    refine Run.offT rfl rfl rfl rfl rfl ?_
    refine Run.go (Ev.pickF rfl rfl rfl rfl) ?_
    refine Run.go (Ev.assign rfl rfl) ?_
    refine Run.nil ?_
    refine T.ret ?_
    cases h
    exact Fin.one rfl .v
theorem en42 : Enters Tryz.prog 42 := ⟨_, Tryz.func42, rfl, rfl⟩
theorem k_whole_Print {p0 : D_api_Int} {y : ByteArray} (h : m_whole_Print p0 = some y) : Spec Tryz.prog 42 [(.v Y_api_Int p0)] (.v .str y) [] := by
  rw [m_whole_Print] at h
  refine enterN [(.v Y_api_Int p0)] 12 Tryz.func42 rfl rfl rfl ?_
  refine T.seq ?_
  refine T.region ?_
  refine Run.go (Ev.box 1 rfl rfl rfl rfl) ?_
  refine Run.go (Ev.assign rfl rfl) ?_
  refine Run.nil ?_
  refine T.seq ?_
  refine T.seq ?_
  refine T.region ?_
  refine Run.go (Ev.fieldBox X rfl rfl rfl rfl rfl) ?_
  refine Run.go (Ev.loadCell X rfl rfl rfl rfl rfl rfl) ?_
  refine Run.nil ?_
  refine T.cond rfl (fun hb1 => ?_) (fun hb1 => ?_)
  · replace h := ifT hb1 h
    refine T.seq ?_
    refine T.region ?_
    refine Run.go (Ev.fieldBox X rfl rfl rfl rfl rfl) ?_
    refine Run.go (Ev.loadCell X rfl rfl rfl rfl rfl rfl) ?_
    obtain ⟨x2, e3, h⟩ := bdS h
    refine Run.go (Ev.callC en45 (k_digits_Print e3) rfl (.cons .v .nil) rfl rfl) ?_
    obtain ⟨x4, e5, h⟩ := bdS h
    refine Run.go (Ev.e_cat e5 rfl rfl rfl) ?_
    refine Run.go (Ev.assign rfl rfl) ?_
    refine Run.nil ?_
    refine T.ret ?_
    cases h
    exact Fin.one rfl .v
  · replace h := ifF hb1 h
    refine T.skip ?_
    refine T.seq ?_
    refine T.region ?_
    refine Run.go (Ev.fieldBox X rfl rfl rfl rfl rfl) ?_
    refine Run.go (Ev.loadCell X rfl rfl rfl rfl rfl rfl) ?_
    obtain ⟨x6, e7, h⟩ := bdS h
    refine Run.go (Ev.callC en45 (k_digits_Print e7) rfl (.cons .v .nil) rfl rfl) ?_
    refine Run.go (Ev.assign rfl rfl) ?_
    refine Run.nil ?_
    refine T.ret ?_
    cases h
    exact Fin.one rfl .v
theorem en12 : Enters Tryz.prog 12 := ⟨_, Tryz.func12, rfl, rfl⟩
theorem k_ratio_Print {p0 : D_api_Rat} {y : ByteArray} (h : m_ratio_Print p0 = some y) : Spec Tryz.prog 12 [(.v Y_api_Rat p0)] (.v .str y) [] := by
  rw [m_ratio_Print] at h
  refine enterN [(.v Y_api_Rat p0)] 19 Tryz.func12 rfl rfl rfl ?_
  refine T.seq ?_
  refine T.region ?_
  refine Run.go (Ev.box 1 rfl rfl rfl rfl) ?_
  refine Run.go (Ev.assign rfl rfl) ?_
  refine Run.nil ?_
  refine T.seq ?_
  refine T.region ?_
  refine Run.go (Ev.fieldBox X rfl rfl rfl rfl rfl) ?_
  refine Run.go (Ev.loadBox X rfl rfl rfl rfl rfl) ?_
  obtain ⟨x1, e2, h⟩ := bdS h
  refine Run.go (Ev.callC en42 (k_whole_Print e2) rfl (.cons .v .nil) rfl rfl) ?_
  refine Run.go (Ev.assign rfl rfl) ?_
  refine Run.nil ?_
  refine T.seq ?_
  refine T.seq ?_
  refine T.drawM [] [0, 1, 0, 7, 15] (by kernel_rfl) (by kernel_rfl) ?_
  refine RunD.a rfl rfl (Ev.fieldBox X rfl rfl rfl rfl rfl) ?_
  refine RunD.a rfl rfl (Ev.loadCell X rfl rfl rfl rfl rfl rfl) ?_
  obtain ⟨x3, e4, h⟩ := bdS h
  refine RunD.a rfl rfl (Ev.callC en44 (k_nat_Of e4) rfl (.cons .v .nil) rfl rfl) ?_
  obtain ⟨x5, e6, h⟩ := bdS h
  refine RunD.a rfl rfl (Ev.callC en43 (k_nat_Cmp e6) rfl (.cons .v (.cons .v .nil)) rfl rfl) ?_
  refine RunD.w (fun _ => Ev.int rfl rfl rfl rfl trivial) ?_
  refine RunD.nil ?_
  refine T.cond rfl (fun hb7 => ?_) (fun hb7 => ?_)
  · replace h := ifT hb7 h
    refine T.seq ?_
    refine T.region ?_
    refine Run.go (Ev.move rfl rfl) ?_
    refine Run.go (Ev.assign rfl rfl) ?_
    refine Run.nil ?_
    refine T.ret ?_
    cases h
    exact Fin.one rfl .v
  · replace h := ifF hb7 h
    refine T.skip ?_
    refine T.seq ?_
    refine T.region ?_
    refine Run.go (Ev.move rfl rfl) ?_
    obtain ⟨x8, e9, h⟩ := bdS h
    refine Run.go (Ev.e_cat e9 rfl rfl rfl) ?_
    refine Run.go (Ev.fieldBox X rfl rfl rfl rfl rfl) ?_
    refine Run.go (Ev.loadCell X rfl rfl rfl rfl rfl rfl) ?_
    obtain ⟨x10, e11, h⟩ := bdS h
    refine Run.go (Ev.callC en45 (k_digits_Print e11) rfl (.cons .v .nil) rfl rfl) ?_
    obtain ⟨x12, e13, h⟩ := bdS h
    refine Run.go (Ev.e_cat e13 rfl rfl rfl) ?_
    refine Run.go (Ev.assign rfl rfl) ?_
    refine Run.nil ?_
    refine T.ret ?_
    cases h
    exact Fin.one rfl .v
theorem en8 : Enters Tryz.prog 8 := ⟨_, Tryz.func8, rfl, rfl⟩
theorem k_triviumlaw09_works  {y : Bool} (h : m_triviumlaw09_works  = some y) : Spec Tryz.prog 8 [] (.v .bool y) [] := by
  rw [m_triviumlaw09_works] at h
  refine enterN [] 43 Tryz.func8 rfl rfl rfl ?_
  refine T.seq ?_
  refine T.region ?_
  refine Run.go (Ev.assign rfl rfl) ?_
  refine Run.nil ?_
  refine T.seq ?_
  refine T.region ?_
  obtain ⟨x1, e2, h⟩ := bdS h
  refine Run.go (Ev.callC en6 (k_ratio_Parse e2) rfl (.cons .v .nil) rfl rfl) ?_
  refine Run.go (Ev.move rfl rfl) ?_
  refine Run.go (Ev.extract rfl rfl rfl) ?_
  refine Run.go (Ev.extract rfl rfl rfl) ?_
  refine Run.go (Ev.allocN X 1 rfl rfl rfl) ?_
  refine Run.do_ (Ev.storeBox X rfl rfl rfl rfl rfl rfl rfl) ?_
  refine Run.go (Ev.assign rfl rfl) ?_
  refine Run.nil ?_
  refine T.seq ?_
  refine T.region ?_
  obtain ⟨x3, e4, h⟩ := bdS h
  refine Run.go (Ev.callC en6 (k_ratio_Parse e4) rfl (.cons .v .nil) rfl rfl) ?_
  refine Run.go (Ev.move rfl rfl) ?_
  refine Run.go (Ev.extract rfl rfl rfl) ?_
  refine Run.go (Ev.extract rfl rfl rfl) ?_
  refine Run.go (Ev.allocN X 2 rfl rfl rfl) ?_
  refine Run.do_ (Ev.storeBox X rfl rfl rfl rfl rfl rfl rfl) ?_
  refine Run.go (Ev.assign rfl rfl) ?_
  refine Run.nil ?_
  refine T.seq ?_
  refine T.region ?_
  refine Run.go (Ev.loadBox X rfl rfl rfl rfl rfl) ?_
  obtain ⟨x5, e6, h⟩ := bdS h
  refine Run.go (Ev.callC en13 (k_ratio_Decimal e6) rfl (.cons .v .nil) rfl rfl) ?_
  refine Run.go (Ev.move rfl rfl) ?_
  refine Run.go (Ev.extract rfl rfl rfl) ?_
  refine Run.go (Ev.extract rfl rfl rfl) ?_
  refine Run.go (Ev.assign rfl rfl) ?_
  refine Run.go (Ev.assign rfl rfl) ?_
  refine Run.nil ?_
  refine T.seq ?_
  refine T.region ?_
  refine Run.go (Ev.move rfl rfl) ?_
  refine Run.go (Ev.int rfl rfl rfl rfl trivial) ?_
  refine Run.go (Ev.move rfl rfl) ?_
  rcases boolCases (decide (x1.2 = 0)) with hb7 | hb7
  · replace h := ifT hb7 h
    refine Run.on rfl rfl rfl hb7 (Ev.move rfl rfl) ?_
    refine Run.on rfl rfl rfl hb7 (Ev.int rfl rfl rfl rfl trivial) ?_
    refine Run.go (Ev.pickT rfl hb7 rfl rfl) ?_
    refine Run.go (Ev.move rfl rfl) ?_
    rcases boolCases (decide (x3.2 = 0)) with hb8 | hb8
    · replace h := ifT hb8 h
      refine Run.on rfl rfl rfl hb8 (Ev.loadBox X rfl rfl rfl rfl rfl) ?_
      refine Run.on rfl rfl rfl hb8 (Ev.loadBox X rfl rfl rfl rfl rfl) ?_
      obtain ⟨x9, e10, h⟩ := bdS h
      refine Run.on rfl rfl rfl hb8 (Ev.callC en15 (k_rat_Same e10) rfl (.cons .v (.cons .v .nil)) rfl rfl) ?_
      refine Run.go (Ev.pickT rfl hb8 rfl rfl) ?_
      refine Run.go (Ev.move rfl rfl) ?_
      rcases boolCases x9 with hb11 | hb11
      · replace h := ifT hb11 h
        refine Run.on rfl rfl rfl hb11 (Ev.loadBox X rfl rfl rfl rfl rfl) ?_
        obtain ⟨x12, e13, h⟩ := bdS h
        refine Run.on rfl rfl rfl hb11 (Ev.callC en12 (k_ratio_Print e13) rfl (.cons .v .nil) rfl rfl) ?_
        refine Run.on rfl rfl rfl hb11 (Ev.strs rfl rfl rfl rfl trivial) ?_
        refine Run.go (Ev.pickT rfl hb11 rfl rfl) ?_
        refine Run.go (Ev.move rfl rfl) ?_
        rcases boolCases (sq x12 (bs [49, 47, 56])) with hb14 | hb14
        · replace h := ifT hb14 h
          refine Run.on rfl rfl rfl hb14 (Ev.move rfl rfl) ?_
          refine Run.on rfl rfl rfl hb14 (Ev.strs rfl rfl rfl rfl trivial) ?_
          refine Run.go (Ev.pickT rfl hb14 rfl rfl) ?_
          refine Run.go (Ev.move rfl rfl) ?_
          rcases boolCases (sq x5.1 (bs [48, 46, 49, 50, 53])) with hb15 | hb15
          · replace h := ifT hb15 h
            refine Run.on rfl rfl rfl hb15 (Ev.move rfl rfl) ?_
            refine Run.go (Ev.pickT rfl hb15 rfl rfl) ?_
            refine Run.go (Ev.assign rfl rfl) ?_
            refine Run.nil ?_
            refine T.ret ?_
            cases h
            exact Fin.one rfl .v
          · replace h := ifF hb15 h
            refine Run.offT rfl rfl rfl rfl hb15 ?_
            refine Run.go (Ev.pickF rfl hb15 rfl rfl) ?_
            refine Run.go (Ev.assign rfl rfl) ?_
            refine Run.nil ?_
            refine T.ret ?_
            cases h
            exact Fin.one rfl .v
        · replace h := ifF hb14 h
          refine Run.offT rfl rfl rfl rfl hb14 ?_
          refine Run.offT rfl rfl rfl rfl hb14 ?_
          refine Run.go (Ev.pickF rfl hb14 rfl rfl) ?_
          refine Run.go (Ev.move rfl rfl) ?_
          refine Run.offT rfl rfl rfl rfl rfl ?_
          refine Run.go (Ev.pickF rfl rfl rfl rfl) ?_
          refine Run.go (Ev.assign rfl rfl) ?_
          refine Run.nil ?_
          refine T.ret ?_
          cases h
          exact Fin.one rfl .v
      · replace h := ifF hb11 h
        refine Run.offT rfl rfl rfl rfl hb11 ?_
        refine Run.offT rfl rfl rfl rfl hb11 ?_
        refine Run.offT rfl rfl rfl rfl hb11 ?_
        refine Run.go (Ev.pickF rfl hb11 rfl rfl) ?_
        refine Run.go (Ev.move rfl rfl) ?_
        refine Run.offT rfl rfl rfl rfl rfl ?_
        refine Run.offT rfl rfl rfl rfl rfl ?_
        refine Run.go (Ev.pickF rfl rfl rfl rfl) ?_
        refine Run.go (Ev.move rfl rfl) ?_
        refine Run.offT rfl rfl rfl rfl rfl ?_
        refine Run.go (Ev.pickF rfl rfl rfl rfl) ?_
        refine Run.go (Ev.assign rfl rfl) ?_
        refine Run.nil ?_
        refine T.ret ?_
        cases h
        exact Fin.one rfl .v
    · replace h := ifF hb8 h
      refine Run.offT rfl rfl rfl rfl hb8 ?_
      refine Run.offT rfl rfl rfl rfl hb8 ?_
      refine Run.offT rfl rfl rfl rfl hb8 ?_
      refine Run.go (Ev.pickF rfl hb8 rfl rfl) ?_
      refine Run.go (Ev.move rfl rfl) ?_
      refine Run.offT rfl rfl rfl rfl rfl ?_
      refine Run.offT rfl rfl rfl rfl rfl ?_
      refine Run.offT rfl rfl rfl rfl rfl ?_
      refine Run.go (Ev.pickF rfl rfl rfl rfl) ?_
      refine Run.go (Ev.move rfl rfl) ?_
      refine Run.offT rfl rfl rfl rfl rfl ?_
      refine Run.offT rfl rfl rfl rfl rfl ?_
      refine Run.go (Ev.pickF rfl rfl rfl rfl) ?_
      refine Run.go (Ev.move rfl rfl) ?_
      refine Run.offT rfl rfl rfl rfl rfl ?_
      refine Run.go (Ev.pickF rfl rfl rfl rfl) ?_
      refine Run.go (Ev.assign rfl rfl) ?_
      refine Run.nil ?_
      refine T.ret ?_
      cases h
      exact Fin.one rfl .v
  · replace h := ifF hb7 h
    refine Run.offT rfl rfl rfl rfl hb7 ?_
    refine Run.offT rfl rfl rfl rfl hb7 ?_
    refine Run.go (Ev.pickF rfl hb7 rfl rfl) ?_
    refine Run.go (Ev.move rfl rfl) ?_
    refine Run.offT rfl rfl rfl rfl rfl ?_
    refine Run.offT rfl rfl rfl rfl rfl ?_
    refine Run.offT rfl rfl rfl rfl rfl ?_
    refine Run.go (Ev.pickF rfl rfl rfl rfl) ?_
    refine Run.go (Ev.move rfl rfl) ?_
    refine Run.offT rfl rfl rfl rfl rfl ?_
    refine Run.offT rfl rfl rfl rfl rfl ?_
    refine Run.offT rfl rfl rfl rfl rfl ?_
    refine Run.go (Ev.pickF rfl rfl rfl rfl) ?_
    refine Run.go (Ev.move rfl rfl) ?_
    refine Run.offT rfl rfl rfl rfl rfl ?_
    refine Run.offT rfl rfl rfl rfl rfl ?_
    refine Run.go (Ev.pickF rfl rfl rfl rfl) ?_
    refine Run.go (Ev.move rfl rfl) ?_
    refine Run.offT rfl rfl rfl rfl rfl ?_
    refine Run.go (Ev.pickF rfl rfl rfl rfl) ?_
    refine Run.go (Ev.assign rfl rfl) ?_
    refine Run.nil ?_
    refine T.ret ?_
    cases h
    exact Fin.one rfl .v
theorem en60 : Enters Tryz.prog 60 := ⟨_, Tryz.func60, rfl, rfl⟩
theorem k_triviumref02_DivSmall {p0 : (List Int)} {p1 : Int} {y : (List Int) × Int} (h : m_triviumref02_DivSmall p0 p1 = some y) : Spec Tryz.prog 60 [(.v (.sl (.int .i64)) p0), (.v (.int .i64) p1)] (.tup [.v (.sl (.int .i64)) y.1, .v (.int .i64) y.2]) [] := by
  rw [m_triviumref02_DivSmall] at h
  refine enterN [(.v (.sl (.int .i64)) p0), (.v (.int .i64) p1)] 38 Tryz.func60 rfl rfl rfl ?_
  refine T.seq ?_
  refine T.region ?_
  refine Run.go (Ev.assign rfl rfl) ?_
  refine Run.go (Ev.assign rfl rfl) ?_
  refine Run.nil ?_
  refine T.seq ?_
  refine T.region ?_
  refine Run.go (Ev.move rfl rfl) ?_
  refine Run.go (Ev.len X rfl rfl rfl rfl) ?_
  obtain ⟨x1, e2, h⟩ := bdS h
  refine Run.go (Ev.e_mk X 1 e2 rfl rfl rfl rfl rfl rfl) ?_
  refine Run.go (Ev.assign rfl rfl) ?_
  refine Run.go (Ev.assign rfl rfl) ?_
  refine Run.nil ?_
  obtain ⟨⟨v3, v4⟩, hv, h⟩ := bdS h
  refine T.cut (fun _ : Unit => (⟨[(6, .own 1), (7, .v (.int .i64) v3)], [(1, .arr 3 (.int .i64) v4)], 38⟩ : St)) (fun _ => True) ?_ (fun _ _ => ?_)
  · replace h := hv
    clear hv
    refine T.seq ?_
    refine T.region ?_
    refine Run.go (Ev.move rfl rfl) ?_
    refine Run.go (Ev.len X rfl rfl rfl rfl) ?_
    refine Run.go (Ev.int rfl rfl rfl rfl trivial) ?_
    refine Run.go (Ev.assign rfl rfl) ?_
    refine Run.nil ?_
    refine T.block ?_
    refine T.loop (LoopT.ghost (Ghost.only [(1, 1)] [0, 1, 6, 7, 8] rfl) (LoopT.run (fun q : Int × Int × (List Int) => (⟨[(0, .v (.sl (.int .i64)) p0), (1, .v (.int .i64) p1), (6, .own 1), (7, .v (.int .i64) q.1), (8, .v (.int .i64) q.2.1)], [(1, .arr 3 (.int .i64) q.2.2)], 38⟩ : St)) (fun q z1 h hz1 => ?_) h))
    obtain ⟨v5, v6, v7⟩ := q
    dsimp only
    rw [m_triviumref02_DivSmall_l1] at h
    refine T.seq ?_
    refine T.seq ?_
    refine T.region ?_
    refine Run.go (Ev.move rfl rfl) ?_
    refine Run.go (Ev.int rfl rfl rfl rfl trivial) ?_
    refine Run.nil ?_
    refine T.cond rfl (fun hb8 => ?_) (fun hb8 => ?_)
    · replace h := ifT hb8 h
      refine T.skip ?_
      refine T.seq ?_
      refine T.block ?_
      refine T.seq ?_
      refine T.region ?_
      refine Run.go (Ev.move rfl rfl) ?_
      refine Run.go (Ev.int rfl rfl rfl rfl trivial) ?_
      refine Run.go (Ev.move rfl rfl) ?_
      refine Run.go (Ev.move rfl rfl) ?_
      obtain ⟨x9, e10, h⟩ := bdS h
      refine Run.go (Ev.e_rd X e10 rfl rfl rfl rfl) ?_
      refine Run.go (Ev.load X rfl rfl rfl) ?_
      refine Run.go (Ev.int rfl rfl rfl rfl trivial) ?_
      refine Run.go (Ev.assign rfl rfl) ?_
      refine Run.nil ?_
      refine T.seq ?_
      refine T.region ?_
      refine Run.go (Ev.move rfl rfl) ?_
      refine Run.go (Ev.move rfl rfl) ?_
      refine Run.go (Ev.move rfl rfl) ?_
      refine Run.go (Ev.move rfl rfl) ?_
      obtain ⟨x11, e12, h⟩ := bdS h
      refine Run.go (Ev.e_qd e12 rfl rfl rfl) ?_
      obtain ⟨j13, e14, h⟩ := bdS h
      refine Run.go (Ev.e_ixO X e14 rfl rfl rfl rfl rfl) ?_
      obtain ⟨x15, e16, h⟩ := ltS h
      refine Run.do_ (Ev.asO (Ev.storeEl X rfl rfl rfl rfl rfl) e16) ?_
      refine Run.nil ?_
      refine T.region ?_
      refine Run.go (Ev.move rfl rfl) ?_
      refine Run.go (Ev.move rfl rfl) ?_
      obtain ⟨x17, e18, h⟩ := bdS h
      refine Run.go (Ev.e_rm e18 rfl rfl rfl) ?_
      refine Run.go (Ev.assign rfl rfl) ?_
      refine Run.nil ?_
      refine T.region ?_
      refine Run.go (Ev.move rfl rfl) ?_
      refine Run.go (Ev.int rfl rfl rfl rfl trivial) ?_
      refine Run.go (Ev.assign rfl rfl) ?_
      refine Run.nil ?_
      cases h
      exact LoopT.ghost (Ghost.only [(1, 1)] [0, 1, 6, 7, 8] rfl) hz1
    · replace h := ifF hb8 h
      refine T.exit ?_
      cases h
      cases hz1
      exact ⟨(), trivial, Ghost.only [(1, 1)] [6, 7] rfl⟩
  · refine T.seq ?_
    refine T.region ?_
    refine Run.go (Ev.move rfl rfl) ?_
    refine Run.ghost (Ghost.firmAll (id := 1) rfl) ?_
    obtain ⟨x19, e20, h⟩ := bdS h
    refine Run.go (Ev.callC en75 (k_triviumref02_Trim e20) rfl (.cons .v .nil) rfl rfl) ?_
    refine Run.go (Ev.move rfl rfl) ?_
    refine Run.go (Ev.assign rfl rfl) ?_
    refine Run.go (Ev.assign rfl rfl) ?_
    refine Run.nil ?_
    refine T.ret ?_
    cases h
    exact Fin.many X rfl (.cons (.tmp .v) (.cons (.tmp .v) .nil)) rfl
theorem en37 : Enters Tryz.prog 37 := ⟨_, Tryz.func37, rfl, rfl⟩
theorem k_triviumref02_Back {p0 : (List Int)} {y : (List Int)} (h : m_triviumref02_Back p0 = some y) : Spec Tryz.prog 37 [(.v (.sl (.int .i64)) p0)] (.v (.sl (.int .u64)) y) [] := by
  rw [m_triviumref02_Back] at h
  refine enterN [(.v (.sl (.int .i64)) p0)] 22 Tryz.func37 rfl rfl rfl ?_
  refine T.seq ?_
  refine T.region ?_
  refine Run.go (Ev.assign rfl rfl) ?_
  refine Run.nil ?_
  refine T.seq ?_
  refine T.region ?_
  refine Run.go (Ev.build X 1 rfl rfl rfl rfl rfl rfl rfl rfl) ?_
  refine Run.go (Ev.assign rfl rfl) ?_
  refine Run.nil ?_
  obtain ⟨v1, hv, h⟩ := bdS h
  refine T.cut (fun _ : Unit => (⟨[(3, .own 5)], [(5, .arr 60 (.int .u64) v1)], 22⟩ : St)) (fun _ => True) ?_ (fun _ _ => ?_)
  · replace h := hv
    clear hv
    refine T.block ?_
    refine T.loop (LoopT.ghost (Ghost.only [(1, 15)] [0, 3] rfl) (LoopT.run (fun q : (List Int) × (List Int) => (⟨[(0, .v (.sl (.int .i64)) q.1), (3, .own 15)], [(15, .arr 60 (.int .u64) q.2)], 22⟩ : St)) (fun q z1 h hz1 => ?_) h))
    obtain ⟨v2, v3⟩ := q
    dsimp only
    rw [m_triviumref02_Back_l1] at h
    refine T.seq ?_
    refine T.seq ?_
    refine T.region ?_
    refine Run.go (Ev.move rfl rfl) ?_
    refine Run.go (Ev.len X rfl rfl rfl rfl) ?_
    refine Run.go (Ev.int rfl rfl rfl rfl trivial) ?_
    refine Run.nil ?_
    refine T.cond rfl (fun hb4 => ?_) (fun hb4 => ?_)
    · replace h := ifT hb4 h
      refine T.skip ?_
      refine T.block ?_
      refine T.seq ?_
      refine T.region ?_
      refine Run.go (Ev.move rfl rfl) ?_
      obtain ⟨x5, e6, h⟩ := bdS h
      refine Run.go (Ev.callC en60 (k_triviumref02_DivSmall e6) rfl (.cons .v (.cons .v .nil)) rfl rfl) ?_
      refine Run.go (Ev.move rfl rfl) ?_
      refine Run.go (Ev.extract rfl rfl rfl) ?_
      refine Run.go (Ev.extract rfl rfl rfl) ?_
      refine Run.go (Ev.assign rfl rfl) ?_
      refine Run.go (Ev.assign rfl rfl) ?_
      refine Run.nil ?_
      refine T.seq ?_
      refine T.region ?_
      refine Run.go (Ev.move rfl rfl) ?_
      refine Run.go (Ev.move rfl rfl) ?_
      refine Run.go (Ev.conv X rfl rfl rfl rfl) ?_
      refine Run.go (Ev.build X 19 rfl rfl rfl rfl rfl rfl rfl rfl) ?_
      obtain ⟨x7, e8, h⟩ := bdS h
      refine Run.go (Ev.e_ap X 20 e8 rfl rfl rfl (.own rfl) rfl rfl rfl rfl rfl) ?_
      refine Run.go (Ev.assign rfl rfl) ?_
      refine Run.nil ?_
      refine T.region ?_
      refine Run.go (Ev.move rfl rfl) ?_
      refine Run.go (Ev.assign rfl rfl) ?_
      refine Run.nil ?_
      cases h
      exact LoopT.ghost (Ghost.only [(20, 15)] [0, 3] rfl) hz1
    · replace h := ifF hb4 h
      refine T.exit ?_
      cases h
      cases hz1
      exact ⟨(), trivial, Ghost.only [(15, 5)] [3] rfl⟩
  · refine T.seq ?_
    refine T.region ?_
    refine Run.go (Ev.move rfl rfl) ?_
    refine Run.go (Ev.assign rfl rfl) ?_
    refine Run.nil ?_
    refine T.ret ?_
    cases h
    exact Fin.one rfl (.own rfl)
theorem en36 : Enters Tryz.prog 36 := ⟨_, Tryz.func36, rfl, rfl⟩
theorem k_triviumref07_Back {p0 : D_triviumref07_Z} {y : D_api_Int} (h : m_triviumref07_Back p0 = some y) : Spec Tryz.prog 36 [(.v Y_triviumref07_Z p0)] (.v Y_api_Int y) [] := by
  rw [m_triviumref07_Back] at h
  refine enterN [(.v Y_triviumref07_Z p0)] 9 Tryz.func36 rfl rfl rfl ?_
  refine T.seq ?_
  refine T.region ?_
  refine Run.go (Ev.box 1 rfl rfl rfl rfl) ?_
  refine Run.go (Ev.allocN X 2 rfl rfl rfl) ?_
  refine Run.nil ?_
  refine T.seq ?_
  refine T.drawM [6] [0, 1, 0, 4, 12, 31, 63] (by kernel_rfl) (by kernel_rfl) ?_
  refine RunD.a rfl rfl (Ev.fieldBox X rfl rfl rfl rfl rfl) ?_
  refine RunD.a rfl rfl (Ev.loadCell X rfl rfl rfl rfl rfl rfl) ?_
  refine RunD.a rfl rfl (Ev.fieldBox X rfl rfl rfl rfl rfl) ?_
  refine RunD.a rfl rfl (Ev.loadCell X rfl rfl rfl rfl rfl rfl) ?_
  obtain ⟨x1, e2, h⟩ := bdS h
  refine RunD.a rfl rfl (Ev.callC en37 (k_triviumref02_Back e2) rfl (.cons .v .nil) rfl rfl) ?_
  refine RunD.w (fun _ => Ev.struct X pl25 rfl rfl rfl rfl rfl rfl rfl rfl) ?_
  refine RunD.mN rfl (Ev.storeBox X rfl rfl rfl rfl rfl rfl rfl) ?_
  refine RunD.nil ?_
  refine T.ret ?_
  cases h
  exact Fin.cell X rfl rfl rfl rfl rfl
theorem en10 : Enters Tryz.prog 10 := ⟨_, Tryz.func10, rfl, rfl⟩
theorem k_triviumref08_Back {p0 : D_triviumref08_Q} {y : D_api_Rat} (h : m_triviumref08_Back p0 = some y) : Spec Tryz.prog 10 [(.v Y_triviumref08_Q p0)] (.v Y_api_Rat y) [] := by
  rw [m_triviumref08_Back] at h
  refine enterN [(.v Y_triviumref08_Q p0)] 10 Tryz.func10 rfl rfl rfl ?_
  refine T.seq ?_
  refine T.region ?_
  refine Run.go (Ev.box 1 rfl rfl rfl rfl) ?_
  refine Run.go (Ev.allocN X 2 rfl rfl rfl) ?_
  refine Run.nil ?_
  refine T.seq ?_
  refine T.drawM [7] [0, 1, 3, 0, 8, 31, 63, 127] (by kernel_rfl) (by kernel_rfl) ?_
  refine RunD.a rfl rfl (Ev.fieldBox X rfl rfl rfl rfl rfl) ?_
  refine RunD.a rfl rfl (Ev.loadBox X rfl rfl rfl rfl rfl) ?_
  obtain ⟨x1, e2, h⟩ := bdS h
  refine RunD.a rfl rfl (Ev.callC en36 (k_triviumref07_Back e2) rfl (.cons .v .nil) rfl rfl) ?_
  refine RunD.a rfl rfl (Ev.fieldBox X rfl rfl rfl rfl rfl) ?_
  refine RunD.a rfl rfl (Ev.loadCell X rfl rfl rfl rfl rfl rfl) ?_
  obtain ⟨x3, e4, h⟩ := bdS h
  refine RunD.a rfl rfl (Ev.callC en37 (k_triviumref02_Back e4) rfl (.cons .v .nil) rfl rfl) ?_
  refine RunD.w (fun _ => Ev.struct X pl27 rfl rfl rfl rfl rfl rfl rfl rfl) ?_
  refine RunD.mN rfl (Ev.storeBox X rfl rfl rfl rfl rfl rfl rfl) ?_
  refine RunD.nil ?_
  refine T.ret ?_
  cases h
  exact Fin.cell X rfl rfl rfl rfl rfl
end Go.Proofs.YtfboepeadeafmaaGreatDoor.AE
/- The code comes to the printed functions (printed by a program of ours). -/
namespace Go.Proofs.YtfboepeadeafmaaGreatDoor.AE
open Go Go.RowKit Go.Proofs.YtfboepeadeafmaaGreatDoor.AP
set_option linter.unusedVariables false
set_option maxRecDepth 20000
theorem en38 : Enters Tryz.prog 38 := ⟨_, Tryz.func38, rfl, rfl⟩
theorem k_triviumref02_Clean {p0 : (List Int)} {p1 : Int} {y : (List Int)} (h : m_triviumref02_Clean p0 p1 = some y) : Spec Tryz.prog 38 [(.v (.sl (.int .u64)) p0), (.v (.int .i64) p1)] (.v (.sl (.int .u64)) y) [] := by
  rw [m_triviumref02_Clean] at h
  refine enterN [(.v (.sl (.int .u64)) p0), (.v (.int .i64) p1)] 45 Tryz.func38 rfl rfl rfl ?_
  refine T.seq ?_
  refine T.region ?_
  refine Run.go (Ev.assign rfl rfl) ?_
  refine Run.nil ?_
  refine T.seq ?_
  refine T.region ?_
  refine Run.go (Ev.build X 1 rfl rfl rfl rfl rfl rfl rfl rfl) ?_
  refine Run.go (Ev.assign rfl rfl) ?_
  refine Run.nil ?_
  obtain ⟨v1, hv, h⟩ := bdS h
  refine T.cut (fun _ : Unit => (⟨[(5, .own 6)], [(6, .arr 60 (.int .u64) v1)], 45⟩ : St)) (fun _ => True) ?_ (fun _ _ => ?_)
  · replace h := hv
    clear hv
    refine T.seq ?_
    refine T.region ?_
    refine Run.go (Ev.assign rfl rfl) ?_
    refine Run.nil ?_
    refine T.block ?_
    refine T.loop (LoopT.ghost (Ghost.only [(1, 19)] [0, 1, 5, 6] rfl) (LoopT.run (fun q : Int × (List Int) => (⟨[(0, .v (.sl (.int .u64)) p0), (1, .v (.int .i64) p1), (5, .own 19), (6, .v (.int .i64) q.1)], [(19, .arr 60 (.int .u64) q.2)], 45⟩ : St)) (fun q z1 h hz1 => ?_) h))
    obtain ⟨v2, v3⟩ := q
    dsimp only
    rw [m_triviumref02_Clean_l1] at h
    refine T.seq ?_
    obtain ⟨v4, hv, h⟩ := bdS h
    refine T.cut (fun _ : Unit => (⟨[(0, .v (.sl (.int .u64)) p0), (1, .v (.int .i64) p1), (5, .own 19), (6, .v (.int .i64) v2), (16, .v .bool v4)], [(19, .arr 60 (.int .u64) v3)], 45⟩ : St)) (fun _ => True) ?_ (fun _ _ => ?_)
    · replace h := hv
      clear hv
      refine T.region ?_
      refine Run.go (Ev.move rfl rfl) ?_
      refine Run.go (Ev.move rfl rfl) ?_
      refine Run.go (Ev.len X rfl rfl rfl rfl) ?_
      refine Run.go (Ev.int rfl rfl rfl rfl trivial) ?_
      refine Run.go (Ev.move rfl rfl) ?_
      rcases boolCases (decide (v2 < (p0.length : Int))) with hb5 | hb5
      · replace h := ifT hb5 h
        refine Run.on rfl rfl rfl hb5 (Ev.move rfl rfl) ?_
        refine Run.on rfl rfl rfl hb5 (Ev.move rfl rfl) ?_
        refine Run.on rfl rfl rfl hb5 (Ev.int rfl rfl rfl rfl trivial) ?_
        refine Run.go (Ev.pickT rfl hb5 rfl rfl) ?_
        refine Run.nil ?_
        cases h
        exact ⟨(), trivial, Ghost.only [(19, 19)] [0, 1, 5, 6, 16] rfl⟩
      · replace h := ifF hb5 h
        refine Run.offT rfl rfl rfl rfl hb5 ?_
        refine Run.offT rfl rfl rfl rfl hb5 ?_
        refine Run.offT rfl rfl rfl rfl hb5 ?_
        refine Run.go (Ev.pickF rfl hb5 rfl rfl) ?_
        refine Run.nil ?_
        cases h
        exact ⟨(), trivial, Ghost.only [(19, 19)] [0, 1, 5, 6, 16] rfl⟩
    · refine T.cond rfl (fun hb6 => ?_) (fun hb6 => ?_)
      · replace h := ifT hb6 h
        refine T.skip ?_
        refine T.seq ?_
        refine T.block ?_
        refine T.region ?_
        refine Run.go (Ev.move rfl rfl) ?_
        refine Run.go (Ev.move rfl rfl) ?_
        refine Run.go (Ev.move rfl rfl) ?_
        obtain ⟨x7, e8, h⟩ := bdS h
        refine Run.go (Ev.e_rd X e8 rfl rfl rfl rfl) ?_
        refine Run.go (Ev.load X rfl rfl rfl) ?_
        obtain ⟨x9, e10, h⟩ := bdS h
        refine Run.go (Ev.e_rm e10 rfl rfl rfl) ?_
        refine Run.go (Ev.build X 25 rfl rfl rfl rfl rfl rfl rfl rfl) ?_
        obtain ⟨x11, e12, h⟩ := bdS h
        refine Run.go (Ev.e_ap X 26 e12 rfl rfl rfl (.own rfl) rfl rfl rfl rfl rfl) ?_
        refine Run.go (Ev.assign rfl rfl) ?_
        refine Run.nil ?_
        refine T.region ?_
        refine Run.go (Ev.move rfl rfl) ?_
        refine Run.go (Ev.int rfl rfl rfl rfl trivial) ?_
        refine Run.go (Ev.assign rfl rfl) ?_
        refine Run.nil ?_
        cases h
        exact LoopT.ghost (Ghost.only [(26, 19)] [0, 1, 5, 6] rfl) hz1
      · replace h := ifF hb6 h
        refine T.exit ?_
        cases h
        cases hz1
        exact ⟨(), trivial, Ghost.only [(19, 6)] [5] rfl⟩
  · obtain ⟨v13, hv, h⟩ := bdS h
    refine T.cut (fun _ : Unit => (⟨[(5, .v (.sl (.int .u64)) v13)], [], 45⟩ : St)) (fun _ => True) ?_ (fun _ _ => ?_)
    · replace h := hv
      clear hv
      refine T.block ?_
      refine T.loop (LoopT.ghost (Ghost.trans (Ghost.firmAll (id := 6) rfl) (Ghost.only [] [5] rfl)) (LoopT.run (fun q : (List Int) => (⟨[(5, .v (.sl (.int .u64)) q)], [], 45⟩ : St)) (fun v14 z1 h hz1 => ?_) h))
      rw [m_triviumref02_Clean_l2] at h
      refine T.seq ?_
      obtain ⟨v15, hv, h⟩ := bdS h
      refine T.cut (fun _ : Unit => (⟨[(5, .v (.sl (.int .u64)) v14), (38, .v .bool v15)], [], 45⟩ : St)) (fun _ => True) ?_ (fun _ _ => ?_)
      · replace h := hv
        clear hv
        refine T.region ?_
        refine Run.go (Ev.move rfl rfl) ?_
        refine Run.go (Ev.len X rfl rfl rfl rfl) ?_
        refine Run.go (Ev.int rfl rfl rfl rfl trivial) ?_
        refine Run.go (Ev.move rfl rfl) ?_
        rcases boolCases (decide (0 < (v14.length : Int))) with hb16 | hb16
        · replace h := ifT hb16 h
          refine Run.on rfl rfl rfl hb16 (Ev.move rfl rfl) ?_
          refine Run.on rfl rfl rfl hb16 (Ev.move rfl rfl) ?_
          refine Run.on rfl rfl rfl hb16 (Ev.len X rfl rfl rfl rfl) ?_
          refine Run.on rfl rfl rfl hb16 (Ev.int rfl rfl rfl rfl trivial) ?_
          obtain ⟨x17, e18, h⟩ := bdS h
          refine Run.on rfl rfl rfl hb16 (Ev.e_rd X e18 rfl rfl rfl rfl) ?_
          refine Run.on rfl rfl rfl hb16 (Ev.load X rfl rfl rfl) ?_
          refine Run.on rfl rfl rfl hb16 (Ev.int rfl rfl rfl rfl trivial) ?_
          refine Run.go (Ev.pickT rfl hb16 rfl rfl) ?_
          refine Run.nil ?_
          cases h
          exact ⟨(), trivial, Ghost.only [] [5, 38] rfl⟩
        · replace h := ifF hb16 h
          refine Run.offT rfl rfl rfl rfl hb16 ?_
          refine Run.offT rfl rfl rfl rfl hb16 ?_
          refine Run.offT rfl rfl rfl rfl hb16 ?_
          refine Run.offT rfl rfl rfl rfl hb16 ?_
          refine Run.offT rfl rfl rfl rfl hb16 ?_
          refine Run.offT rfl rfl rfl rfl hb16 ?_
          refine Run.offT rfl rfl rfl rfl hb16 ?_
          refine Run.go (Ev.pickF rfl hb16 rfl rfl) ?_
          refine Run.nil ?_
          cases h
          exact ⟨(), trivial, Ghost.only [] [5, 38] rfl⟩
      · refine T.cond rfl (fun hb19 => ?_) (fun hb19 => ?_)
        · replace h := ifT hb19 h
          refine T.skip ?_
          refine T.block ?_
          refine T.region ?_
          refine Run.go (Ev.move rfl rfl) ?_
          refine Run.go (Ev.move rfl rfl) ?_
          refine Run.go (Ev.len X rfl rfl rfl rfl) ?_
          refine Run.go (Ev.int rfl rfl rfl rfl trivial) ?_
          obtain ⟨x20, e21, h⟩ := bdS h
          refine Run.go (Ev.e_ct X e21 rfl rfl rfl (fun _ h => by cases h) (fun _ => rfl) (fun _ _ => cutAt_of rfl) (fun h => by cases h)) ?_
          refine Run.go (Ev.assign rfl rfl) ?_
          refine Run.nil ?_
          cases h
          exact LoopT.ghost (Ghost.only [] [5] rfl) hz1
        · replace h := ifF hb19 h
          refine T.exit ?_
          cases h
          cases hz1
          exact ⟨(), trivial, Ghost.only [] [5] rfl⟩
    · refine T.seq ?_
      refine T.region ?_
      refine Run.go (Ev.move rfl rfl) ?_
      refine Run.go (Ev.assign rfl rfl) ?_
      refine Run.nil ?_
      refine T.ret ?_
      cases h
      exact Fin.one rfl .v
theorem en40 : Enters Tryz.prog 40 := ⟨_, Tryz.func40, rfl, rfl⟩
theorem k_triviumref07_Clean {p0 : D_api_Int} {p1 : Int} {y : D_api_Int} (h : m_triviumref07_Clean p0 p1 = some y) : Spec Tryz.prog 40 [(.v Y_api_Int p0), (.v (.int .i64) p1)] (.v Y_api_Int y) [] := by
  rw [m_triviumref07_Clean] at h
  refine enterN [(.v Y_api_Int p0), (.v (.int .i64) p1)] 19 Tryz.func40 rfl rfl rfl ?_
  refine T.seq ?_
  refine T.region ?_
  refine Run.go (Ev.box 1 rfl rfl rfl rfl) ?_
  refine Run.go (Ev.allocN X 2 rfl rfl rfl) ?_
  refine Run.nil ?_
  refine T.seq ?_
  refine T.region ?_
  refine Run.go (Ev.fieldBox X rfl rfl rfl rfl rfl) ?_
  refine Run.go (Ev.loadCell X rfl rfl rfl rfl rfl rfl) ?_
  refine Run.go (Ev.move rfl rfl) ?_
  obtain ⟨x1, e2, h⟩ := bdS h
  refine Run.go (Ev.callC en38 (k_triviumref02_Clean e2) rfl (.cons .v (.cons .v .nil)) rfl rfl) ?_
  refine Run.go (Ev.assign rfl rfl) ?_
  refine Run.nil ?_
  refine T.seq ?_
  refine T.region ?_
  refine Run.go (Ev.fieldBox X rfl rfl rfl rfl rfl) ?_
  refine Run.go (Ev.loadCell X rfl rfl rfl rfl rfl rfl) ?_
  refine Run.go (Ev.move rfl rfl) ?_
  rcases boolCases p0.1 with hb3 | hb3
  · replace h := ifT hb3 h
    refine Run.on rfl rfl rfl hb3 (Ev.move rfl rfl) ?_
    refine Run.on rfl rfl rfl hb3 (Ev.len X rfl rfl rfl rfl) ?_
    refine Run.on rfl rfl rfl hb3 (Ev.int rfl rfl rfl rfl trivial) ?_
    refine Run.go (Ev.pickT rfl hb3 rfl rfl) ?_
    refine Run.go (Ev.move rfl rfl) ?_
    refine Run.go (Ev.struct X pl25 rfl rfl rfl rfl rfl rfl rfl rfl) ?_
    refine Run.do_ (Ev.storeBox X rfl rfl rfl rfl rfl rfl rfl) ?_
    refine Run.nil ?_
    refine T.ret ?_
    cases h
    exact Fin.cell X rfl rfl rfl rfl rfl
  · replace h := ifF hb3 h
    refine Run.offT rfl rfl rfl rfl hb3 ?_
    refine Run.offT rfl rfl rfl rfl hb3 ?_
    refine Run.offT rfl rfl rfl rfl hb3 ?_
    refine Run.go (Ev.pickF rfl hb3 rfl rfl) ?_
    refine Run.go (Ev.move rfl rfl) ?_
    refine Run.go (Ev.struct X pl25 rfl rfl rfl rfl rfl rfl rfl rfl) ?_
    refine Run.do_ (Ev.storeBox X rfl rfl rfl rfl rfl rfl rfl) ?_
    refine Run.nil ?_
    refine T.ret ?_
    cases h
    exact Fin.cell X rfl rfl rfl rfl rfl
theorem en41 : Enters Tryz.prog 41 := ⟨_, Tryz.func41, rfl, rfl⟩
theorem k_triviumref02_Of {p0 : (List Int)} {y : (List Int)} (h : m_triviumref02_Of p0 = some y) : Spec Tryz.prog 41 [(.v (.sl (.int .u64)) p0)] (.v (.sl (.int .i64)) y) [] := by
  rw [m_triviumref02_Of] at h
  refine enterN [(.v (.sl (.int .u64)) p0)] 22 Tryz.func41 rfl rfl rfl ?_
  refine T.seq ?_
  refine T.region ?_
  refine Run.go (Ev.assign rfl rfl) ?_
  refine Run.nil ?_
  refine T.seq ?_
  refine T.region ?_
  refine Run.go (Ev.build X 1 rfl rfl rfl rfl rfl rfl rfl rfl) ?_
  refine Run.go (Ev.assign rfl rfl) ?_
  refine Run.nil ?_
  obtain ⟨v1, hv, h⟩ := bdS h
  refine T.cut (fun _ : Unit => (⟨[(3, .v (.sl (.int .i64)) v1)], [], 22⟩ : St)) (fun _ => True) ?_ (fun _ _ => ?_)
  · replace h := hv
    clear hv
    refine T.seq ?_
    refine T.region ?_
    refine Run.go (Ev.move rfl rfl) ?_
    refine Run.go (Ev.len X rfl rfl rfl rfl) ?_
    refine Run.go (Ev.int rfl rfl rfl rfl trivial) ?_
    refine Run.go (Ev.assign rfl rfl) ?_
    refine Run.nil ?_
    refine T.block ?_
    refine T.loop (LoopT.ghost (Ghost.trans (Ghost.firmAll (id := 1) rfl) (Ghost.only [] [0, 3, 4] rfl)) (LoopT.run (fun q : (List Int) × Int => (⟨[(0, .v (.sl (.int .u64)) p0), (3, .v (.sl (.int .i64)) q.1), (4, .v (.int .i64) q.2)], [], 22⟩ : St)) (fun q z1 h hz1 => ?_) h))
    obtain ⟨v2, v3⟩ := q
    dsimp only
    rw [m_triviumref02_Of_l1] at h
    refine T.seq ?_
    refine T.seq ?_
    refine T.region ?_
    refine Run.go (Ev.move rfl rfl) ?_
    refine Run.go (Ev.int rfl rfl rfl rfl trivial) ?_
    refine Run.nil ?_
    refine T.cond rfl (fun hb4 => ?_) (fun hb4 => ?_)
    · replace h := ifT hb4 h
      refine T.skip ?_
      refine T.seq ?_
      refine T.block ?_
      refine T.region ?_
      refine Run.go (Ev.move rfl rfl) ?_
      refine Run.go (Ev.move rfl rfl) ?_
      refine Run.go (Ev.move rfl rfl) ?_
      obtain ⟨x5, e6, h⟩ := bdS h
      refine Run.go (Ev.e_rd X e6 rfl rfl rfl rfl) ?_
      refine Run.go (Ev.load X rfl rfl rfl) ?_
      obtain ⟨x7, e8, h⟩ := bdS h
      refine Run.go (Ev.e_rm e8 rfl rfl rfl) ?_
      refine Run.go (Ev.conv X rfl rfl rfl rfl) ?_
      obtain ⟨x9, e10, h⟩ := bdS h
      refine Run.go (Ev.callC en73 (k_triviumref02_MulAdd e10) rfl (.cons .v (.cons .v (.cons .v .nil))) rfl rfl) ?_
      refine Run.go (Ev.assign rfl rfl) ?_
      refine Run.nil ?_
      refine T.region ?_
      refine Run.go (Ev.move rfl rfl) ?_
      refine Run.go (Ev.int rfl rfl rfl rfl trivial) ?_
      refine Run.go (Ev.assign rfl rfl) ?_
      refine Run.nil ?_
      cases h
      exact LoopT.ghost (Ghost.only [] [0, 3, 4] rfl) hz1
    · replace h := ifF hb4 h
      refine T.exit ?_
      cases h
      cases hz1
      exact ⟨(), trivial, Ghost.only [] [3] rfl⟩
  · refine T.seq ?_
    refine T.region ?_
    refine Run.go (Ev.move rfl rfl) ?_
    refine Run.go (Ev.assign rfl rfl) ?_
    refine Run.nil ?_
    refine T.ret ?_
    cases h
    exact Fin.one rfl .v
theorem en76 : Enters Tryz.prog 76 := ⟨_, Tryz.func76, rfl, rfl⟩
theorem k_triviumref07_made {p0 : Bool} {p1 : (List Int)} {y : D_triviumref07_Z} (h : m_triviumref07_made p0 p1 = some y) : Spec Tryz.prog 76 [(.v .bool p0), (.v (.sl (.int .i64)) p1)] (.v Y_triviumref07_Z y) [] := by
  rw [m_triviumref07_made] at h
  refine enterN [(.v .bool p0), (.v (.sl (.int .i64)) p1)] 13 Tryz.func76 rfl rfl rfl ?_
  refine T.seq ?_
  refine T.region ?_
  refine Run.go (Ev.allocN X 1 rfl rfl rfl) ?_
  refine Run.nil ?_
  refine T.seq ?_
  refine T.region ?_
  refine Run.go (Ev.move rfl rfl) ?_
  refine Run.go (Ev.move rfl rfl) ?_
  rcases boolCases p0 with hb1 | hb1
  · replace h := ifT hb1 h
    refine Run.on rfl rfl rfl hb1 (Ev.move rfl rfl) ?_
    refine Run.on rfl rfl rfl hb1 (Ev.len X rfl rfl rfl rfl) ?_
    refine Run.on rfl rfl rfl hb1 (Ev.int rfl rfl rfl rfl trivial) ?_
    refine Run.go (Ev.pickT rfl hb1 rfl rfl) ?_
    refine Run.go (Ev.move rfl rfl) ?_
    refine Run.go (Ev.struct X pl34 rfl rfl rfl rfl rfl rfl rfl rfl) ?_
    refine Run.do_ (Ev.storeBox X rfl rfl rfl rfl rfl rfl rfl) ?_
    refine Run.nil ?_
    refine T.ret ?_
    cases h
    exact Fin.cell X rfl rfl rfl rfl rfl
  · replace h := ifF hb1 h
    refine Run.offT rfl rfl rfl rfl hb1 ?_
    refine Run.offT rfl rfl rfl rfl hb1 ?_
    refine Run.offT rfl rfl rfl rfl hb1 ?_
    refine Run.go (Ev.pickF rfl hb1 rfl rfl) ?_
    refine Run.go (Ev.move rfl rfl) ?_
    refine Run.go (Ev.struct X pl34 rfl rfl rfl rfl rfl rfl rfl rfl) ?_
    refine Run.do_ (Ev.storeBox X rfl rfl rfl rfl rfl rfl rfl) ?_
    refine Run.nil ?_
    refine T.ret ?_
    cases h
    exact Fin.cell X rfl rfl rfl rfl rfl
theorem en39 : Enters Tryz.prog 39 := ⟨_, Tryz.func39, rfl, rfl⟩
theorem k_triviumref07_Of {p0 : D_api_Int} {y : D_triviumref07_Z} (h : m_triviumref07_Of p0 = some y) : Spec Tryz.prog 39 [(.v Y_api_Int p0)] (.v Y_triviumref07_Z y) [] := by
  rw [m_triviumref07_Of] at h
  refine enterN [(.v Y_api_Int p0)] 9 Tryz.func39 rfl rfl rfl ?_
  refine T.seq ?_
  refine T.region ?_
  refine Run.go (Ev.box 1 rfl rfl rfl rfl) ?_
  refine Run.go (Ev.allocN X 2 rfl rfl rfl) ?_
  refine Run.nil ?_
  refine T.seq ?_
  refine T.drawM [6] [0, 1, 0, 4, 12, 31, 63] (by kernel_rfl) (by kernel_rfl) ?_
  refine RunD.a rfl rfl (Ev.fieldBox X rfl rfl rfl rfl rfl) ?_
  refine RunD.a rfl rfl (Ev.loadCell X rfl rfl rfl rfl rfl rfl) ?_
  refine RunD.a rfl rfl (Ev.fieldBox X rfl rfl rfl rfl rfl) ?_
  refine RunD.a rfl rfl (Ev.loadCell X rfl rfl rfl rfl rfl rfl) ?_
  obtain ⟨x1, e2, h⟩ := bdS h
  refine RunD.a rfl rfl (Ev.callC en41 (k_triviumref02_Of e2) rfl (.cons .v .nil) rfl rfl) ?_
  obtain ⟨x3, e4, h⟩ := bdS h
  refine RunD.a rfl rfl (Ev.callC en76 (k_triviumref07_made e4) rfl (.cons .v (.cons .v .nil)) rfl rfl) ?_
  refine RunD.mN rfl (Ev.storeBox X rfl rfl rfl rfl rfl rfl rfl) ?_
  refine RunD.nil ?_
  refine T.ret ?_
  cases h
  exact Fin.cell X rfl rfl rfl rfl rfl
theorem en11 : Enters Tryz.prog 11 := ⟨_, Tryz.func11, rfl, rfl⟩
theorem k_triviumref08_Clean {p0 : D_api_Rat} {p1 : Int} {y : D_api_Rat} (h : m_triviumref08_Clean p0 p1 = some y) : Spec Tryz.prog 11 [(.v Y_api_Rat p0), (.v (.int .i64) p1)] (.v Y_api_Rat y) [] := by
  rw [m_triviumref08_Clean] at h
  refine enterN [(.v Y_api_Rat p0), (.v (.int .i64) p1)] 23 Tryz.func11 rfl rfl rfl ?_
  refine T.seq ?_
  refine T.region ?_
  refine Run.go (Ev.box 1 rfl rfl rfl rfl) ?_
  refine Run.go (Ev.allocN X 2 rfl rfl rfl) ?_
  refine Run.nil ?_
  refine T.seq ?_
  refine T.region ?_
  refine Run.go (Ev.fieldBox X rfl rfl rfl rfl rfl) ?_
  refine Run.go (Ev.loadCell X rfl rfl rfl rfl rfl rfl) ?_
  refine Run.go (Ev.move rfl rfl) ?_
  obtain ⟨x1, e2, h⟩ := bdS h
  refine Run.go (Ev.callC en38 (k_triviumref02_Clean e2) rfl (.cons .v (.cons .v .nil)) rfl rfl) ?_
  refine Run.go (Ev.assign rfl rfl) ?_
  refine Run.nil ?_
  obtain ⟨v3, hv, h⟩ := bdS h
  refine T.cut (fun _ : Unit => (⟨[(1, .v (.int .i64) p1), (2, .box 1 0), (4, .box 2 0), (5, .v (.sl (.int .u64)) v3)], [(1, .box [.v .bool p0.1.1, .v (.sl (.int .u64)) p0.1.2, .v (.sl (.int .u64)) p0.2]), (2, .box [.v .bool false, .nil, .nil])], 23⟩ : St)) (fun _ => True) ?_ (fun _ _ => ?_)
  · replace h := hv
    clear hv
    refine T.seq ?_
    refine T.region ?_
    refine Run.go (Ev.move rfl rfl) ?_
    refine Run.go (Ev.len X rfl rfl rfl rfl) ?_
    refine Run.go (Ev.int rfl rfl rfl rfl trivial) ?_
    refine Run.nil ?_
    refine T.cond rfl (fun hb4 => ?_) (fun hb4 => ?_)
    · replace h := ifT hb4 h
      refine T.region ?_
      refine Run.go (Ev.build X 6 rfl rfl rfl rfl rfl rfl rfl rfl) ?_
      refine Run.go (Ev.assign rfl rfl) ?_
      refine Run.nil ?_
      cases h
      exact ⟨(), trivial, Ghost.trans (Ghost.firmAll (id := 6) rfl) (Ghost.only [(1, 1), (2, 2)] [1, 2, 4, 5] rfl)⟩
    · replace h := ifF hb4 h
      refine T.skip ?_
      cases h
      exact ⟨(), trivial, Ghost.only [(1, 1), (2, 2)] [1, 2, 4, 5] rfl⟩
  · refine T.seq ?_
    refine T.region ?_
    refine Run.go (Ev.fieldBox X rfl rfl rfl rfl rfl) ?_
    refine Run.go (Ev.loadBox X rfl rfl rfl rfl rfl) ?_
    refine Run.go (Ev.move rfl rfl) ?_
    obtain ⟨x5, e6, h⟩ := bdS h
    refine Run.go (Ev.callC en40 (k_triviumref07_Clean e6) rfl (.cons .v (.cons .v .nil)) rfl rfl) ?_
    obtain ⟨x7, e8, h⟩ := bdS h
    refine Run.go (Ev.callC en39 (k_triviumref07_Of e8) rfl (.cons .v .nil) rfl rfl) ?_
    refine Run.go (Ev.move rfl rfl) ?_
    obtain ⟨x9, e10, h⟩ := bdS h
    refine Run.go (Ev.callC en41 (k_triviumref02_Of e10) rfl (.cons .v .nil) rfl rfl) ?_
    obtain ⟨x11, e12, h⟩ := bdS h
    refine Run.go (Ev.callC en30 (k_triviumref08_Low e12) rfl (.cons .v (.cons .v .nil)) rfl rfl) ?_
    obtain ⟨x13, e14, h⟩ := bdS h
    refine Run.go (Ev.callC en10 (k_triviumref08_Back e14) rfl (.cons .v .nil) rfl rfl) ?_
    refine Run.do_ (Ev.storeBox X rfl rfl rfl rfl rfl rfl rfl) ?_
    refine Run.nil ?_
    refine T.ret ?_
    cases h
    exact Fin.cell X rfl rfl rfl rfl rfl
theorem en92 : Enters Tryz.prog 92 := ⟨_, Tryz.func92, rfl, rfl⟩
theorem k_whole_Of {p0 : Int} {y : D_api_Int} (h : m_whole_Of p0 = some y) : Spec Tryz.prog 92 [(.v (.int .i64) p0)] (.v Y_api_Int y) [] := by
  rw [m_whole_Of] at h
  refine enterN [(.v (.int .i64) p0)] 17 Tryz.func92 rfl rfl rfl ?_
  refine T.seq ?_
  refine T.region ?_
  refine Run.go (Ev.allocN X 1 rfl rfl rfl) ?_
  refine Run.nil ?_
  refine T.seq ?_
  refine T.seq ?_
  refine T.region ?_
  refine Run.go (Ev.move rfl rfl) ?_
  refine Run.go (Ev.int rfl rfl rfl rfl trivial) ?_
  refine Run.nil ?_
  refine T.cond rfl (fun hb1 => ?_) (fun hb1 => ?_)
  · replace h := ifT hb1 h
    refine T.seq ?_
    refine T.region ?_
    refine Run.go (Ev.move rfl rfl) ?_
    refine Run.go (Ev.int rfl rfl rfl rfl trivial) ?_
    refine Run.go (Ev.neg rfl rfl) ?_
    refine Run.go (Ev.conv X rfl rfl rfl rfl) ?_
    obtain ⟨x2, e3, h⟩ := bdS h
    refine Run.go (Ev.callC en44 (k_nat_Of e3) rfl (.cons .v .nil) rfl rfl) ?_
    obtain ⟨x4, e5, h⟩ := bdS h
    refine Run.go (Ev.callC en44 (k_nat_Of e5) rfl (.cons .v .nil) rfl rfl) ?_
    obtain ⟨x6, e7, h⟩ := bdS h
    refine Run.go (Ev.callC en66 (k_nat_Add e7) rfl (.cons .v (.cons .v .nil)) rfl rfl) ?_
    obtain ⟨x8, e9, h⟩ := bdS h
    refine Run.go (Ev.callC en27 (k_whole_Made e9) rfl (.cons .v (.cons .v .nil)) rfl rfl) ?_
    refine Run.do_ (Ev.storeBox X rfl rfl rfl rfl rfl rfl rfl) ?_
    refine Run.nil ?_
    refine T.ret ?_
    cases h
    exact Fin.cell X rfl rfl rfl rfl rfl
  · replace h := ifF hb1 h
    refine T.skip ?_
    refine T.seq ?_
    refine T.region ?_
    refine Run.go (Ev.move rfl rfl) ?_
    refine Run.go (Ev.conv X rfl rfl rfl rfl) ?_
    obtain ⟨x10, e11, h⟩ := bdS h
    refine Run.go (Ev.callC en44 (k_nat_Of e11) rfl (.cons .v .nil) rfl rfl) ?_
    obtain ⟨x12, e13, h⟩ := bdS h
    refine Run.go (Ev.callC en27 (k_whole_Made e13) rfl (.cons .v (.cons .v .nil)) rfl rfl) ?_
    refine Run.do_ (Ev.storeBox X rfl rfl rfl rfl rfl rfl rfl) ?_
    refine Run.nil ?_
    refine T.ret ?_
    cases h
    exact Fin.cell X rfl rfl rfl rfl rfl
theorem en93 : Enters Tryz.prog 93 := ⟨_, Tryz.func93, rfl, rfl⟩
theorem k_rat_one  {y : (List Int)} (h : m_rat_one  = some y) : Spec Tryz.prog 93 [] (.v (.sl (.int .u64)) y) [] := by
  rw [m_rat_one] at h
  refine enterN [] 2 Tryz.func93 rfl rfl rfl ?_
  refine T.seq ?_
  refine T.region ?_
  refine Run.go (Ev.assign rfl rfl) ?_
  refine Run.nil ?_
  refine T.seq ?_
  refine T.region ?_
  obtain ⟨x1, e2, h⟩ := bdS h
  refine Run.go (Ev.callC en44 (k_nat_Of e2) rfl (.cons .v .nil) rfl rfl) ?_
  refine Run.go (Ev.assign rfl rfl) ?_
  refine Run.nil ?_
  refine T.ret ?_
  cases h
  exact Fin.one rfl .v
theorem en52 : Enters Tryz.prog 52 := ⟨_, Tryz.func52, rfl, rfl⟩
theorem k_rat_Of {p0 : Int} {y : D_api_Rat} (h : m_rat_Of p0 = some y) : Spec Tryz.prog 52 [(.v (.int .i64) p0)] (.v Y_api_Rat y) [] := by
  rw [m_rat_Of] at h
  refine enterN [(.v (.int .i64) p0)] 7 Tryz.func52 rfl rfl rfl ?_
  refine T.seq ?_
  refine T.region ?_
  refine Run.go (Ev.allocN X 1 rfl rfl rfl) ?_
  refine Run.nil ?_
  refine T.seq ?_
  refine T.region ?_
  refine Run.go (Ev.move rfl rfl) ?_
  obtain ⟨x1, e2, h⟩ := bdS h
  refine Run.go (Ev.callC en92 (k_whole_Of e2) rfl (.cons .v .nil) rfl rfl) ?_
  obtain ⟨x3, e4, h⟩ := bdS h
  refine Run.go (Ev.callC en93 (k_rat_one e4) rfl .nil rfl rfl) ?_
  refine Run.go (Ev.struct X pl27 rfl rfl rfl rfl rfl rfl rfl rfl) ?_
  refine Run.do_ (Ev.storeBox X rfl rfl rfl rfl rfl rfl rfl) ?_
  refine Run.nil ?_
  refine T.ret ?_
  cases h
  exact Fin.cell X rfl rfl rfl rfl rfl
theorem en90 : Enters Tryz.prog 90 := ⟨_, Tryz.func90, rfl, rfl⟩
theorem k_whole_Mul {p0 : D_api_Int} {p1 : D_api_Int} {y : D_api_Int} (h : m_whole_Mul p0 p1 = some y) : Spec Tryz.prog 90 [(.v Y_api_Int p0), (.v Y_api_Int p1)] (.v Y_api_Int y) [] := by
  rw [m_whole_Mul] at h
  refine enterN [(.v Y_api_Int p0), (.v Y_api_Int p1)] 16 Tryz.func90 rfl rfl rfl ?_
  refine T.seq ?_
  refine T.region ?_
  refine Run.go (Ev.box 1 rfl rfl rfl rfl) ?_
  refine Run.go (Ev.box 2 rfl rfl rfl rfl) ?_
  refine Run.go (Ev.allocN X 3 rfl rfl rfl) ?_
  refine Run.nil ?_
  refine T.seq ?_
  refine T.drawM [11] [0, 1, 0, 4, 15, 0, 32, 0, 128, 480, 1023, 2047] (by kernel_rfl) (by kernel_rfl) ?_
  refine RunD.a rfl rfl (Ev.fieldBox X rfl rfl rfl rfl rfl) ?_
  refine RunD.a rfl rfl (Ev.loadCell X rfl rfl rfl rfl rfl rfl) ?_
  refine RunD.a rfl rfl (Ev.fieldBox X rfl rfl rfl rfl rfl) ?_
  refine RunD.a rfl rfl (Ev.loadCell X rfl rfl rfl rfl rfl rfl) ?_
  refine RunD.w (fun _ => Ev.bools X rfl rfl rfl rfl rfl) ?_
  refine RunD.a rfl rfl (Ev.fieldBox X rfl rfl rfl rfl rfl) ?_
  refine RunD.a rfl rfl (Ev.loadCell X rfl rfl rfl rfl rfl rfl) ?_
  refine RunD.a rfl rfl (Ev.fieldBox X rfl rfl rfl rfl rfl) ?_
  refine RunD.a rfl rfl (Ev.loadCell X rfl rfl rfl rfl rfl rfl) ?_
  obtain ⟨x1, e2, h⟩ := bdS h
  refine RunD.a rfl rfl (Ev.callC en49 (k_mul_Mul e2) rfl (.cons .v (.cons .v .nil)) rfl rfl) ?_
  obtain ⟨x3, e4, h⟩ := bdS h
  refine RunD.a rfl rfl (Ev.callC en27 (k_whole_Made e4) rfl (.cons .v (.cons .v .nil)) rfl rfl) ?_
  refine RunD.mN rfl (Ev.storeBox X rfl rfl rfl rfl rfl rfl rfl) ?_
  refine RunD.nil ?_
  refine T.ret ?_
  cases h
  exact Fin.cell X rfl rfl rfl rfl rfl
theorem en91 : Enters Tryz.prog 91 := ⟨_, Tryz.func91, rfl, rfl⟩
theorem k_rat_up {p0 : D_api_Rat} {y : D_api_Int} (h : m_rat_up p0 = some y) : Spec Tryz.prog 91 [(.v Y_api_Rat p0)] (.v Y_api_Int y) [] := by
  rw [m_rat_up] at h
  refine enterN [(.v Y_api_Rat p0)] 6 Tryz.func91 rfl rfl rfl ?_
  refine T.seq ?_
  refine T.region ?_
  refine Run.go (Ev.box 1 rfl rfl rfl rfl) ?_
  refine Run.go (Ev.allocN X 2 rfl rfl rfl) ?_
  refine Run.nil ?_
  refine T.seq ?_
  refine T.region ?_
  refine Run.go (Ev.fieldBox X rfl rfl rfl rfl rfl) ?_
  refine Run.go (Ev.loadCell X rfl rfl rfl rfl rfl rfl) ?_
  obtain ⟨x1, e2, h⟩ := bdS h
  refine Run.go (Ev.callC en27 (k_whole_Made e2) rfl (.cons .v (.cons .v .nil)) rfl rfl) ?_
  refine Run.do_ (Ev.storeBox X rfl rfl rfl rfl rfl rfl rfl) ?_
  refine Run.nil ?_
  refine T.ret ?_
  cases h
  exact Fin.cell X rfl rfl rfl rfl rfl
theorem en51 : Enters Tryz.prog 51 := ⟨_, Tryz.func51, rfl, rfl⟩
theorem k_rat_Mul {p0 : D_api_Rat} {p1 : D_api_Rat} {y : D_api_Rat} (h : m_rat_Mul p0 p1 = some y) : Spec Tryz.prog 51 [(.v Y_api_Rat p0), (.v Y_api_Rat p1)] (.v Y_api_Rat y) [] := by
  rw [m_rat_Mul] at h
  refine enterN [(.v Y_api_Rat p0), (.v Y_api_Rat p1)] 22 Tryz.func51 rfl rfl rfl ?_
  refine T.seq ?_
  refine T.region ?_
  refine Run.go (Ev.box 1 rfl rfl rfl rfl) ?_
  refine Run.go (Ev.box 2 rfl rfl rfl rfl) ?_
  refine Run.go (Ev.allocN X 3 rfl rfl rfl) ?_
  refine Run.nil ?_
  refine T.seq ?_
  refine T.drawE [([1], []), ([1], []), ([2], []), ([2], []), ([], []), ([1], []), ([], []), ([2], []), ([], []), ([], []), ([], []), ([], []), ([], []), ([], []), ([5], [5]), ([5], [5]), ([], [])] [0, 1, 0, 4, 15, 0, 63, 0, 255, 511, 1023, 2047, 4095, 4095, 0, 24575, 65535] (by kernel_rfl) (by kernel_rfl) ?_
  refine RunE.go0 [1] (fun ô hô => Ev.fieldBox X rfl (ka hô rfl rfl) rfl rfl rfl) rfl rfl ?_
  refine RunE.go0 [1] (fun ô hô => Ev.loadBox X rfl (ka hô rfl rfl) rfl rfl rfl) rfl rfl ?_
  refine RunE.go0 [2] (fun ô hô => Ev.fieldBox X rfl (ka hô rfl rfl) rfl rfl rfl) rfl rfl ?_
  refine RunE.go0 [2] (fun ô hô => Ev.loadBox X rfl (ka hô rfl rfl) rfl rfl rfl) rfl rfl ?_
  obtain ⟨x1, e2, h⟩ := bdS h
  refine RunE.go0 [] (fun ô hô => Ev.callC en90 (k_whole_Mul e2) rfl (.cons .v (.cons .v .nil)) rfl rfl) rfl rfl ?_
  refine RunE.go0 [1] (fun ô hô => Ev.loadBox X rfl (ka hô rfl rfl) rfl rfl rfl) rfl rfl ?_
  obtain ⟨x3, e4, h⟩ := bdS h
  refine RunE.go0 [] (fun ô hô => Ev.callC en91 (k_rat_up e4) rfl (.cons .v .nil) rfl rfl) rfl rfl ?_
  refine RunE.go0 [2] (fun ô hô => Ev.loadBox X rfl (ka hô rfl rfl) rfl rfl rfl) rfl rfl ?_
  obtain ⟨x5, e6, h⟩ := bdS h
  refine RunE.go0 [] (fun ô hô => Ev.callC en91 (k_rat_up e6) rfl (.cons .v .nil) rfl rfl) rfl rfl ?_
  obtain ⟨x7, e8, h⟩ := bdS h
  refine RunE.go0 [] (fun ô hô => Ev.callC en90 (k_whole_Mul e8) rfl (.cons .v (.cons .v .nil)) rfl rfl) rfl rfl ?_
  obtain ⟨x9, e10, h⟩ := bdS h
  refine RunE.go0 [] (fun ô hô => Ev.callC en26 (k_rat_Make e10) rfl (.cons .v (.cons .v .nil)) rfl rfl) rfl rfl ?_
  refine RunE.go0 [] (fun ô hô => Ev.move rfl rfl) rfl rfl ?_
  refine RunE.go0 [] (fun ô hô => Ev.extract rfl rfl rfl) rfl rfl ?_
  refine RunE.go0 [] (fun ô hô => Ev.extract rfl rfl rfl) rfl rfl ?_
  refine RunE.go1 [5] (fun ô hô => Ev.allocN X 5 rfl (ka hô rfl rfl) rfl) rfl rfl ?_
  refine RunE.do1 [5] (fun ô hô => Ev.storeBox X rfl (ka hô rfl rfl) rfl rfl rfl rfl rfl) rfl rfl ?_
  refine RunE.go0 [] (fun ô hô => Ev.assign rfl rfl) rfl rfl ?_
  refine RunE.nil ?_
  refine T.seq ?_
  refine T.region ?_
  refine Run.go (Ev.loadBox X rfl rfl rfl rfl rfl) ?_
  refine Run.do_ (Ev.storeBox X rfl rfl rfl rfl rfl rfl rfl) ?_
  refine Run.nil ?_
  refine T.ret ?_
  cases h
  exact Fin.cell X rfl rfl rfl rfl rfl
theorem en14 : Enters Tryz.prog 14 := ⟨_, Tryz.func14, rfl, rfl⟩
theorem k_ratio_Percent {p0 : D_api_Rat} {y : ByteArray × Bool} (h : m_ratio_Percent p0 = some y) : Spec Tryz.prog 14 [(.v Y_api_Rat p0)] (.tup [.v .str y.1, .v .bool y.2]) [] := by
  rw [m_ratio_Percent] at h
  refine enterN [(.v Y_api_Rat p0)] 17 Tryz.func14 rfl rfl rfl ?_
  refine T.seq ?_
  refine T.region ?_
  refine Run.go (Ev.box 1 rfl rfl rfl rfl) ?_
  refine Run.go (Ev.assign rfl rfl) ?_
  refine Run.go (Ev.assign rfl rfl) ?_
  refine Run.nil ?_
  refine T.seq ?_
  refine T.drawM [] [0, 0, 3, 7, 15, 31, 31, 63, 255] (by kernel_rfl) (by kernel_rfl) ?_
  refine RunD.a rfl rfl (Ev.loadBox X rfl rfl rfl rfl rfl) ?_
  obtain ⟨x1, e2, h⟩ := bdS h
  refine RunD.a rfl rfl (Ev.callC en52 (k_rat_Of e2) rfl (.cons .v .nil) rfl rfl) ?_
  obtain ⟨x3, e4, h⟩ := bdS h
  refine RunD.a rfl rfl (Ev.callC en51 (k_rat_Mul e4) rfl (.cons .v (.cons .v .nil)) rfl rfl) ?_
  obtain ⟨x5, e6, h⟩ := bdS h
  refine RunD.a rfl rfl (Ev.callC en13 (k_ratio_Decimal e6) rfl (.cons .v .nil) rfl rfl) ?_
  refine RunD.w (fun _ => Ev.move rfl rfl) ?_
  refine RunD.w (fun _ => Ev.extract rfl rfl rfl) ?_
  refine RunD.w (fun _ => Ev.extract rfl rfl rfl) ?_
  refine RunD.w (fun _ => Ev.assign rfl rfl) ?_
  refine RunD.w (fun _ => Ev.assign rfl rfl) ?_
  refine RunD.nil ?_
  refine T.seq ?_
  refine T.seq ?_
  refine T.region ?_
  refine Run.go (Ev.move rfl rfl) ?_
  refine Run.go (Ev.not rfl rfl) ?_
  refine Run.nil ?_
  refine T.cond rfl (fun hb7 => ?_) (fun hb7 => ?_)
  · replace h := ifT hb7 h
    refine T.seq ?_
    refine T.region ?_
    refine Run.go (Ev.assign rfl rfl) ?_
    refine Run.go (Ev.assign rfl rfl) ?_
    refine Run.nil ?_
    refine T.ret ?_
    cases h
    exact Fin.many X rfl (.cons (.tmp .v) (.cons (.tmp .v) .nil)) rfl
  · replace h := ifF hb7 h
    refine T.skip ?_
    refine T.seq ?_
    refine T.region ?_
    refine Run.go (Ev.move rfl rfl) ?_
    obtain ⟨x8, e9, h⟩ := bdS h
    refine Run.go (Ev.e_cat e9 rfl rfl rfl) ?_
    refine Run.go (Ev.assign rfl rfl) ?_
    refine Run.go (Ev.assign rfl rfl) ?_
    refine Run.nil ?_
    refine T.ret ?_
    cases h
    exact Fin.many X rfl (.cons (.tmp .v) (.cons (.tmp .v) .nil)) rfl
end Go.Proofs.YtfboepeadeafmaaGreatDoor.AE
/- The code comes to the printed functions (printed by a program of ours). -/
namespace Go.Proofs.YtfboepeadeafmaaGreatDoor.AE
open Go Go.RowKit Go.Proofs.YtfboepeadeafmaaGreatDoor.AP
set_option linter.unusedVariables false
set_option maxRecDepth 20000
theorem k_triviumlaw09_RatioBack {p0 : D_api_Rat} {y : Bool} (h : m_triviumlaw09_RatioBack p0 = some y) : Spec Tryz.prog 4 [(.v Y_api_Rat p0)] (.v .bool y) [] := by
  rw [m_triviumlaw09_RatioBack] at h
  refine enterN [(.v Y_api_Rat p0)] 62 Tryz.func4 rfl rfl rfl ?_
  refine T.seq ?_
  refine T.region ?_
  refine Run.go (Ev.box 1 rfl rfl rfl rfl) ?_
  refine Run.go (Ev.assign rfl rfl) ?_
  refine Run.nil ?_
  refine T.seq ?_
  refine T.seq ?_
  refine T.region ?_
  obtain ⟨x1, e2, h⟩ := bdS h
  refine Run.go (Ev.callC en8 (k_triviumlaw09_works e2) rfl .nil rfl rfl) ?_
  refine Run.go (Ev.not rfl rfl) ?_
  refine Run.nil ?_
  refine T.cond rfl (fun hb3 => ?_) (fun hb3 => ?_)
  · replace h := ifT hb3 h
    refine T.seq ?_
    refine T.region ?_
    refine Run.go (Ev.assign rfl rfl) ?_
    refine Run.nil ?_
    refine T.ret ?_
    cases h
    exact Fin.one rfl .v
  · replace h := ifF hb3 h
    refine T.skip ?_
    refine T.seq ?_
    refine T.region ?_
    refine Run.go (Ev.loadBox X rfl rfl rfl rfl rfl) ?_
    obtain ⟨x4, e5, h⟩ := bdS h
    refine Run.go (Ev.callC en11 (k_triviumref08_Clean e5) rfl (.cons .v (.cons .v .nil)) rfl rfl) ?_
    refine Run.do_ (Ev.storeBox X rfl rfl rfl rfl rfl rfl rfl) ?_
    refine Run.nil ?_
    refine T.seq ?_
    refine T.region ?_
    refine Run.go (Ev.fieldBox X rfl rfl rfl rfl rfl) ?_
    refine Run.go (Ev.fieldBox X rfl rfl rfl rfl rfl) ?_
    refine Run.do_ (Ev.storeBox X rfl rfl rfl rfl rfl rfl rfl) ?_
    refine Run.nil ?_
    refine T.seq ?_
    refine T.region ?_
    refine Run.go (Ev.loadBox X rfl rfl rfl rfl rfl) ?_
    obtain ⟨x6, e7, h⟩ := bdS h
    refine Run.go (Ev.callC en12 (k_ratio_Print e7) rfl (.cons .v .nil) rfl rfl) ?_
    refine Run.go (Ev.build X 2 rfl rfl rfl rfl rfl rfl rfl rfl) ?_
    refine Run.go (Ev.assign rfl rfl) ?_
    refine Run.nil ?_
    obtain ⟨v8, hv, h⟩ := bdS h
    refine T.cut (fun _ : Unit => (⟨[(1, .box 1 0), (3, .own 6)], [(1, .box [.v .bool false, .v (.sl (.int .u64)) x4.1.2, .v (.sl (.int .u64)) x4.2]), (6, .arr 9 .str v8)], 62⟩ : St)) (fun _ => True) ?_ (fun _ _ => ?_)
    · replace h := hv
      clear hv
      refine T.seq ?_
      refine T.region ?_
      refine Run.go (Ev.loadBox X rfl rfl rfl rfl rfl) ?_
      obtain ⟨x9, e10, h⟩ := bdS h
      refine Run.go (Ev.callC en13 (k_ratio_Decimal e10) rfl (.cons .v .nil) rfl rfl) ?_
      refine Run.go (Ev.move rfl rfl) ?_
      refine Run.go (Ev.extract rfl rfl rfl) ?_
      refine Run.go (Ev.extract rfl rfl rfl) ?_
      refine Run.go (Ev.assign rfl rfl) ?_
      refine Run.go (Ev.assign rfl rfl) ?_
      refine Run.nil ?_
      refine T.seq ?_
      refine T.region ?_
      refine Run.go (Ev.move rfl rfl) ?_
      refine Run.nil ?_
      refine T.cond rfl (fun hb11 => ?_) (fun hb11 => ?_)
      · replace h := ifT hb11 h
        refine T.region ?_
        refine Run.go (Ev.move rfl rfl) ?_
        refine Run.go (Ev.move rfl rfl) ?_
        refine Run.go (Ev.build X 7 rfl rfl rfl rfl rfl rfl rfl rfl) ?_
        obtain ⟨x12, e13, h⟩ := bdS h
        refine Run.go (Ev.e_ap X 8 e13 rfl rfl rfl (.own rfl) rfl rfl rfl rfl rfl) ?_
        refine Run.go (Ev.assign rfl rfl) ?_
        refine Run.nil ?_
        cases h
        exact ⟨(), trivial, Ghost.only [(1, 1), (8, 6)] [1, 3] rfl⟩
      · replace h := ifF hb11 h
        refine T.skip ?_
        cases h
        exact ⟨(), trivial, Ghost.only [(1, 1), (2, 6)] [1, 3] rfl⟩
    · obtain ⟨v14, hv, h⟩ := bdS h
      refine T.cut (fun _ : Unit => (⟨[(1, .box 1 0), (3, .own 12)], [(1, .box [.v .bool false, .v (.sl (.int .u64)) x4.1.2, .v (.sl (.int .u64)) x4.2]), (12, .arr 9 .str v14)], 62⟩ : St)) (fun _ => True) ?_ (fun _ _ => ?_)
      · replace h := hv
        clear hv
        refine T.seq ?_
        refine T.region ?_
        refine Run.go (Ev.loadBox X rfl rfl rfl rfl rfl) ?_
        obtain ⟨x15, e16, h⟩ := bdS h
        refine Run.go (Ev.callC en14 (k_ratio_Percent e16) rfl (.cons .v .nil) rfl rfl) ?_
        refine Run.go (Ev.move rfl rfl) ?_
        refine Run.go (Ev.extract rfl rfl rfl) ?_
        refine Run.go (Ev.extract rfl rfl rfl) ?_
        refine Run.go (Ev.assign rfl rfl) ?_
        refine Run.go (Ev.assign rfl rfl) ?_
        refine Run.nil ?_
        refine T.seq ?_
        refine T.region ?_
        refine Run.go (Ev.move rfl rfl) ?_
        refine Run.nil ?_
        refine T.cond rfl (fun hb17 => ?_) (fun hb17 => ?_)
        · replace h := ifT hb17 h
          refine T.region ?_
          refine Run.go (Ev.move rfl rfl) ?_
          refine Run.go (Ev.move rfl rfl) ?_
          refine Run.go (Ev.build X 13 rfl rfl rfl rfl rfl rfl rfl rfl) ?_
          obtain ⟨x18, e19, h⟩ := bdS h
          refine Run.go (Ev.e_ap X 14 e19 rfl rfl rfl (.own rfl) rfl rfl rfl rfl rfl) ?_
          refine Run.go (Ev.assign rfl rfl) ?_
          refine Run.nil ?_
          cases h
          exact ⟨(), trivial, Ghost.only [(1, 1), (14, 12)] [1, 3] rfl⟩
        · replace h := ifF hb17 h
          refine T.skip ?_
          cases h
          exact ⟨(), trivial, Ghost.only [(1, 1), (6, 12)] [1, 3] rfl⟩
      · refine T.seq ?_
        refine T.seq ?_
        refine T.region ?_
        refine Run.go (Ev.assign rfl rfl) ?_
        refine Run.nil ?_
        refine T.block ?_
        refine T.loop (LoopT.ghost (Ghost.only [(1, 1), (12, 12)] [1, 3, 8] rfl) (LoopT.run (fun q : Int => (⟨[(1, .box 1 0), (3, .own 12), (8, .v (.int .i64) q)], [(1, .box [.v .bool false, .v (.sl (.int .u64)) x4.1.2, .v (.sl (.int .u64)) x4.2]), (12, .arr 9 .str v14)], 62⟩ : St)) (fun v20 z1 h hz1 => ?_) h))
        rw [m_triviumlaw09_RatioBack_l1] at h
        refine T.seq ?_
        refine T.seq ?_
        refine T.region ?_
        refine Run.go (Ev.move rfl rfl) ?_
        refine Run.go (Ev.move rfl rfl) ?_
        refine Run.go (Ev.e_lenO X rfl rfl rfl rfl) ?_
        refine Run.go (Ev.int rfl rfl rfl rfl trivial) ?_
        refine Run.nil ?_
        refine T.cond rfl (fun hb21 => ?_) (fun hb21 => ?_)
        · replace h := ifT hb21 h
          refine T.skip ?_
          refine T.seq ?_
          refine T.block ?_
          refine T.seq ?_
          refine T.region ?_
          refine Run.go (Ev.move rfl rfl) ?_
          refine Run.go (Ev.move rfl rfl) ?_
          obtain ⟨x22, e23, h⟩ := bdS h
          refine Run.go (Ev.e_rdO X e23 rfl rfl rfl rfl rfl) ?_
          refine Run.go (Ev.e_ldO X (rdS e23).2 rfl rfl rfl rfl) ?_
          obtain ⟨x24, e25, h⟩ := bdS h
          refine Run.go (Ev.callC en6 (k_ratio_Parse e25) rfl (.cons .v .nil) rfl rfl) ?_
          refine Run.go (Ev.move rfl rfl) ?_
          refine Run.go (Ev.extract rfl rfl rfl) ?_
          refine Run.go (Ev.extract rfl rfl rfl) ?_
          refine Run.go (Ev.allocN X 27 rfl rfl rfl) ?_
          refine Run.do_ (Ev.storeBox X rfl rfl rfl rfl rfl rfl rfl) ?_
          refine Run.go (Ev.assign rfl rfl) ?_
          refine Run.nil ?_
          obtain ⟨v26, hv, h⟩ := bdS h
          refine T.cut (fun _ : Unit => (⟨[(1, .box 1 0), (3, .own 12), (8, .v (.int .i64) v20), (61, .v .bool v26)], [(1, .box [.v .bool false, .v (.sl (.int .u64)) x4.1.2, .v (.sl (.int .u64)) x4.2]), (12, .arr 9 .str v14)], 62⟩ : St)) (fun _ => True) ?_ (fun _ _ => ?_)
          · replace h := hv
            clear hv
            refine T.region ?_
            refine Run.go (Ev.move rfl rfl) ?_
            refine Run.go (Ev.int rfl rfl rfl rfl trivial) ?_
            refine Run.go (Ev.move rfl rfl) ?_
            rcases boolCases (!decide (x24.2 = 0)) with hb27 | hb27
            · replace h := ifT hb27 h
              refine Run.offT rfl rfl rfl rfl hb27 ?_
              refine Run.offT rfl rfl rfl rfl hb27 ?_
              refine Run.offT rfl rfl rfl rfl hb27 ?_
              refine Run.offT rfl rfl rfl rfl hb27 ?_
              refine Run.go (Ev.pickT rfl hb27 rfl rfl) ?_
              refine Run.nil ?_
              cases h
              exact ⟨(), trivial, Ghost.only [(1, 1), (12, 12)] [1, 3, 8, 61] rfl⟩
            · replace h := ifF hb27 h
              refine Run.on rfl rfl rfl hb27 (Ev.loadBox X rfl rfl rfl rfl rfl) ?_
              refine Run.on rfl rfl rfl hb27 (Ev.loadBox X rfl rfl rfl rfl rfl) ?_
              obtain ⟨x28, e29, h⟩ := bdS h
              refine Run.on rfl rfl rfl hb27 (Ev.callC en15 (k_rat_Same e29) rfl (.cons .v (.cons .v .nil)) rfl rfl) ?_
              refine Run.on rfl rfl rfl hb27 (Ev.not rfl rfl) ?_
              refine Run.go (Ev.pickF rfl hb27 rfl rfl) ?_
              refine Run.nil ?_
              cases h
              exact ⟨(), trivial, Ghost.only [(1, 1), (12, 12)] [1, 3, 8, 61] rfl⟩
          · refine T.cond rfl (fun hb30 => ?_) (fun hb30 => ?_)
            · replace h := ifT hb30 h
              refine T.seq ?_
              refine T.region ?_
              refine Run.go (Ev.assign rfl rfl) ?_
              refine Run.nil ?_
              refine T.ret ?_
              cases h
              cases hz1
              exact Fin.one rfl .v
            · replace h := ifF hb30 h
              refine T.skip ?_
              refine T.region ?_
              refine Run.go (Ev.move rfl rfl) ?_
              refine Run.go (Ev.int rfl rfl rfl rfl trivial) ?_
              refine Run.go (Ev.assign rfl rfl) ?_
              refine Run.nil ?_
              cases h
              exact LoopT.ghost (Ghost.only [(1, 1), (12, 12)] [1, 3, 8] rfl) hz1
        · replace h := ifF hb21 h
          refine T.exit ?_
          refine T.seq ?_
          refine T.region ?_
          refine Run.go (Ev.assign rfl rfl) ?_
          refine Run.nil ?_
          refine T.ret ?_
          cases h
          cases hz1
          exact Fin.one rfl .v
end Go.Proofs.YtfboepeadeafmaaGreatDoor.AE
