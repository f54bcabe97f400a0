/- The code comes to the printed functions (printed by a program of ours). -/
import Derived.Test.YtkjlcghikagdlaaGreatDoorQCN3
/- The code comes to the printed functions (printed by a program of ours). -/
namespace Go.Proofs.YtkjlcghikagdlaaGreatDoor.AE
open Go Go.RowKit Go.Proofs.YtkjlcghikagdlaaGreatDoor.AP
set_option linter.unusedVariables false
set_option maxRecDepth 20000
theorem en56 : Enters Tryz.prog 56 := ⟨_, Tryz.func56, rfl, rfl⟩
theorem k_triviumref02_Div {p0 : (List Int)} {p1 : (List Int)} {y : (List Int) × (List Int)} (h : m_triviumref02_Div p0 p1 = some y) : Spec Tryz.prog 56 [(.v (.sl (.int .i64)) p0), (.v (.sl (.int .i64)) p1)] (.tup [.v (.sl (.int .i64)) y.1, .v (.sl (.int .i64)) y.2]) [] := by
  rw [m_triviumref02_Div] at h
  refine enterN [(.v (.sl (.int .i64)) p0), (.v (.sl (.int .i64)) p1)] 59 Tryz.func56 rfl rfl rfl ?_
  refine T.seq ?_
  refine T.region ?_
  refine Run.go (Ev.assign rfl rfl) ?_
  refine Run.go (Ev.assign rfl rfl) ?_
  refine Run.nil ?_
  refine T.seq ?_
  refine T.region ?_
  refine Run.go (Ev.move rfl rfl) ?_
  refine Run.go (Ev.len X rfl rfl rfl rfl) ?_
  obtain ⟨x1, e2, h⟩ := bdS h
  refine Run.go (Ev.e_mk X 1 e2 rfl rfl rfl rfl rfl rfl) ?_
  refine Run.go (Ev.build X 2 rfl rfl rfl rfl rfl rfl rfl rfl) ?_
  refine Run.go (Ev.assign rfl rfl) ?_
  refine Run.go (Ev.assign rfl rfl) ?_
  refine Run.nil ?_
  obtain ⟨⟨v3, v4⟩, hv, h⟩ := bdS h
  refine T.cut (fun _ : Unit => (⟨[(6, .own 1), (7, .v (.sl (.int .i64)) v3)], [(1, .arr 3 (.int .i64) v4)], 59⟩ : St)) (fun _ => True) ?_ (fun _ _ => ?_)
  · replace h := hv
    clear hv
    refine T.seq ?_
    refine T.region ?_
    refine Run.go (Ev.move rfl rfl) ?_
    refine Run.go (Ev.len X rfl rfl rfl rfl) ?_
    refine Run.go (Ev.int rfl rfl rfl rfl trivial) ?_
    refine Run.go (Ev.assign rfl rfl) ?_
    refine Run.nil ?_
    refine T.block ?_
    refine T.loop (LoopT.ghost (Ghost.trans (Ghost.firmAll (id := 2) rfl) (Ghost.only [(1, 1)] [0, 1, 6, 7, 8] rfl)) (LoopT.run (fun q : (List Int) × Int × (List Int) => (⟨[(0, .v (.sl (.int .i64)) p0), (1, .v (.sl (.int .i64)) p1), (6, .own 1), (7, .v (.sl (.int .i64)) q.1), (8, .v (.int .i64) q.2.1)], [(1, .arr 3 (.int .i64) q.2.2)], 59⟩ : St)) (fun q z1 h hz1 => ?_) h))
    obtain ⟨v5, v6, v7⟩ := q
    dsimp only
    rw [m_triviumref02_Div_l1] at h
    refine T.seq ?_
    refine T.seq ?_
    refine T.region ?_
    refine Run.go (Ev.move rfl rfl) ?_
    refine Run.go (Ev.int rfl rfl rfl rfl trivial) ?_
    refine Run.nil ?_
    refine T.cond rfl (fun hb8 => ?_) (fun hb8 => ?_)
    · replace h := ifT hb8 h
      refine T.skip ?_
      obtain ⟨⟨v9, v10⟩, hv, h⟩ := bdS h
      refine T.cut (fun _ : Unit => (⟨[(0, .v (.sl (.int .i64)) p0), (1, .v (.sl (.int .i64)) p1), (6, .own 1), (7, .v (.sl (.int .i64)) v9), (8, .v (.int .i64) v6)], [(1, .arr 3 (.int .i64) v10)], 59⟩ : St)) (fun _ => True) ?_ (fun _ _ => ?_)
      · replace h := hv
        clear hv
        refine T.block ?_
        refine T.seq ?_
        refine T.region ?_
        refine Run.go (Ev.move rfl rfl) ?_
        refine Run.go (Ev.move rfl rfl) ?_
        obtain ⟨x11, e12, h⟩ := bdS h
        refine Run.go (Ev.e_rd X e12 rfl rfl rfl rfl) ?_
        refine Run.go (Ev.load X rfl rfl rfl) ?_
        refine Run.go (Ev.build X 117 rfl rfl rfl rfl rfl rfl rfl rfl) ?_
        refine Run.go (Ev.move rfl rfl) ?_
        obtain ⟨x13, e14, h⟩ := bdS h
        refine Run.go (Ev.e_ap X 118 e14 rfl rfl rfl .v rfl rfl rfl rfl rfl) ?_
        refine Run.ghost (Ghost.firmAll (id := 118) rfl) ?_
        obtain ⟨x15, e16, h⟩ := bdS h
        refine Run.go (Ev.callC en69 (k_triviumref02_Trim e16) rfl (.cons .v .nil) rfl rfl) ?_
        refine Run.go (Ev.assign rfl rfl) ?_
        refine Run.nil ?_
        refine T.seq ?_
        refine T.region ?_
        refine Run.go (Ev.assign rfl rfl) ?_
        refine Run.go (Ev.assign rfl rfl) ?_
        refine Run.nil ?_
        obtain ⟨v17, hv, h⟩ := bdS h
        refine T.cut (fun _ : Unit => (⟨[(0, .v (.sl (.int .i64)) p0), (1, .v (.sl (.int .i64)) p1), (6, .own 1), (7, .v (.sl (.int .i64)) x15), (8, .v (.int .i64) v6), (9, .v (.int .i64) v17)], [(1, .arr 3 (.int .i64) v7)], 59⟩ : St)) (fun _ => True) ?_ (fun _ _ => ?_)
        · replace h := hv
          clear hv
          refine T.block ?_
          refine T.loop (LoopT.ghost (Ghost.only [(1, 1)] [0, 1, 6, 7, 8, 9, 10] rfl) (LoopT.run (fun q : Int × Int => (⟨[(0, .v (.sl (.int .i64)) p0), (1, .v (.sl (.int .i64)) p1), (6, .own 1), (7, .v (.sl (.int .i64)) x15), (8, .v (.int .i64) v6), (9, .v (.int .i64) q.1), (10, .v (.int .i64) q.2)], [(1, .arr 3 (.int .i64) v7)], 59⟩ : St)) (fun q z2 h hz2 => ?_) h))
          obtain ⟨v18, v19⟩ := q
          dsimp only
          rw [m_triviumref02_Div_l2] at h
          refine T.seq ?_
          refine T.seq ?_
          refine T.region ?_
          refine Run.go (Ev.move rfl rfl) ?_
          refine Run.go (Ev.move rfl rfl) ?_
          refine Run.go (Ev.int rfl rfl rfl rfl trivial) ?_
          refine Run.go (Ev.int rfl rfl rfl rfl trivial) ?_
          refine Run.nil ?_
          refine T.cond rfl (fun hb20 => ?_) (fun hb20 => ?_)
          · replace h := ifT hb20 h
            refine T.skip ?_
            refine T.block ?_
            refine T.seq ?_
            refine T.region ?_
            refine Run.go (Ev.move rfl rfl) ?_
            refine Run.go (Ev.move rfl rfl) ?_
            refine Run.go (Ev.int rfl rfl rfl rfl trivial) ?_
            obtain ⟨x21, e22, h⟩ := bdS h
            refine Run.go (Ev.e_qd e22 rfl rfl rfl) ?_
            refine Run.go (Ev.assign rfl rfl) ?_
            refine Run.nil ?_
            refine T.seq ?_
            refine T.region ?_
            refine Run.go (Ev.move rfl rfl) ?_
            refine Run.go (Ev.move rfl rfl) ?_
            obtain ⟨x23, e24, h⟩ := bdS h
            refine Run.go (Ev.callC en58 (k_triviumref02_MulAdd e24) rfl (.cons .v (.cons .v (.cons .v .nil))) rfl rfl) ?_
            refine Run.go (Ev.move rfl rfl) ?_
            obtain ⟨x25, e26, h⟩ := bdS h
            refine Run.go (Ev.callC en40 (k_triviumref02_Cmp e26) rfl (.cons .v (.cons .v .nil)) rfl rfl) ?_
            refine Run.go (Ev.int rfl rfl rfl rfl trivial) ?_
            refine Run.nil ?_
            refine T.cond rfl (fun hb27 => ?_) (fun hb27 => ?_)
            · replace h := ifT hb27 h
              refine T.region ?_
              refine Run.go (Ev.move rfl rfl) ?_
              refine Run.go (Ev.assign rfl rfl) ?_
              refine Run.nil ?_
              cases h
              exact LoopT.ghost (Ghost.only [(1, 1)] [0, 1, 6, 7, 8, 9, 10] rfl) hz2
            · replace h := ifF hb27 h
              refine T.region ?_
              refine Run.go (Ev.move rfl rfl) ?_
              refine Run.go (Ev.assign rfl rfl) ?_
              refine Run.nil ?_
              cases h
              exact LoopT.ghost (Ghost.only [(1, 1)] [0, 1, 6, 7, 8, 9, 10] rfl) hz2
          · replace h := ifF hb20 h
            refine T.exit ?_
            cases h
            cases hz2
            exact ⟨(), trivial, Ghost.only [(1, 1)] [0, 1, 6, 7, 8, 9] rfl⟩
        · refine T.seq ?_
          refine T.region ?_
          refine Run.go (Ev.move rfl rfl) ?_
          refine Run.go (Ev.move rfl rfl) ?_
          refine Run.go (Ev.move rfl rfl) ?_
          obtain ⟨j28, e29, h⟩ := bdS h
          refine Run.go (Ev.e_ixO X e29 rfl rfl rfl rfl rfl) ?_
          obtain ⟨x30, e31, h⟩ := ltS h
          refine Run.do_ (Ev.asO (Ev.storeEl X rfl rfl rfl rfl rfl) e31) ?_
          refine Run.nil ?_
          refine T.region ?_
          refine Run.go (Ev.move rfl rfl) ?_
          refine Run.go (Ev.move rfl rfl) ?_
          refine Run.go (Ev.move rfl rfl) ?_
          obtain ⟨x32, e33, h⟩ := bdS h
          refine Run.go (Ev.callC en58 (k_triviumref02_MulAdd e33) rfl (.cons .v (.cons .v (.cons .v .nil))) rfl rfl) ?_
          obtain ⟨x34, e35, h⟩ := bdS h
          refine Run.go (Ev.callC en70 (k_triviumref02_Sub e35) rfl (.cons .v (.cons .v .nil)) rfl rfl) ?_
          refine Run.go (Ev.assign rfl rfl) ?_
          refine Run.nil ?_
          cases h
          exact ⟨(), trivial, Ghost.only [(1, 1)] [0, 1, 6, 7, 8] rfl⟩
      · refine T.region ?_
        refine Run.go (Ev.move rfl rfl) ?_
        refine Run.go (Ev.int rfl rfl rfl rfl trivial) ?_
        refine Run.go (Ev.assign rfl rfl) ?_
        refine Run.nil ?_
        cases h
        exact LoopT.ghost (Ghost.only [(1, 1)] [0, 1, 6, 7, 8] rfl) hz1
    · replace h := ifF hb8 h
      refine T.exit ?_
      cases h
      cases hz1
      exact ⟨(), trivial, Ghost.only [(1, 1)] [6, 7] rfl⟩
  · refine T.seq ?_
    refine T.region ?_
    refine Run.go (Ev.move rfl rfl) ?_
    refine Run.ghost (Ghost.firmAll (id := 1) rfl) ?_
    obtain ⟨x36, e37, h⟩ := bdS h
    refine Run.go (Ev.callC en69 (k_triviumref02_Trim e37) rfl (.cons .v .nil) rfl rfl) ?_
    refine Run.go (Ev.move rfl rfl) ?_
    refine Run.go (Ev.assign rfl rfl) ?_
    refine Run.go (Ev.assign rfl rfl) ?_
    refine Run.nil ?_
    refine T.ret ?_
    cases h
    exact Fin.many X rfl (.cons (.tmp .v) (.cons (.tmp .v) .nil)) rfl
theorem en55 : Enters Tryz.prog 55 := ⟨_, Tryz.func55, rfl, rfl⟩
theorem k_triviumref02_Gcd {p0 : (List Int)} {p1 : (List Int)} {y : (List Int)} (h : m_triviumref02_Gcd p0 p1 = some y) : Spec Tryz.prog 55 [(.v (.sl (.int .i64)) p0), (.v (.sl (.int .i64)) p1)] (.v (.sl (.int .i64)) y) [] := by
  rw [m_triviumref02_Gcd] at h
  refine enterN [(.v (.sl (.int .i64)) p0), (.v (.sl (.int .i64)) p1)] 19 Tryz.func55 rfl rfl rfl ?_
  refine T.seq ?_
  refine T.region ?_
  refine Run.go (Ev.assign rfl rfl) ?_
  refine Run.nil ?_
  obtain ⟨v1, hv, h⟩ := bdS h
  refine T.cut (fun _ : Unit => (⟨[(0, .v (.sl (.int .i64)) v1)], [], 19⟩ : St)) (fun _ => True) ?_ (fun _ _ => ?_)
  · replace h := hv
    clear hv
    refine T.block ?_
    refine T.loop (LoopT.ghost (Ghost.only [] [0, 1] rfl) (LoopT.run (fun q : (List Int) × (List Int) => (⟨[(0, .v (.sl (.int .i64)) q.1), (1, .v (.sl (.int .i64)) q.2)], [], 19⟩ : St)) (fun q z1 h hz1 => ?_) h))
    obtain ⟨v2, v3⟩ := q
    dsimp only
    rw [m_triviumref02_Gcd_l1] at h
    refine T.seq ?_
    refine T.seq ?_
    refine T.region ?_
    refine Run.go (Ev.move rfl rfl) ?_
    refine Run.go (Ev.len X rfl rfl rfl rfl) ?_
    refine Run.go (Ev.int rfl rfl rfl rfl trivial) ?_
    refine Run.nil ?_
    refine T.cond rfl (fun hb4 => ?_) (fun hb4 => ?_)
    · replace h := ifT hb4 h
      refine T.skip ?_
      refine T.block ?_
      refine T.seq ?_
      refine T.region ?_
      refine Run.go (Ev.move rfl rfl) ?_
      refine Run.go (Ev.move rfl rfl) ?_
      obtain ⟨x5, e6, h⟩ := bdS h
      refine Run.go (Ev.callC en56 (k_triviumref02_Div e6) rfl (.cons .v (.cons .v .nil)) rfl rfl) ?_
      refine Run.go (Ev.move rfl rfl) ?_
      refine Run.go (Ev.extract rfl rfl rfl) ?_
      refine Run.go (Ev.extract rfl rfl rfl) ?_
      refine Run.go (Ev.assign rfl rfl) ?_
      refine Run.go (Ev.assign rfl rfl) ?_
      refine Run.nil ?_
      refine T.region ?_
      refine Run.go (Ev.move rfl rfl) ?_
      refine Run.go (Ev.move rfl rfl) ?_
      refine Run.go (Ev.assign rfl rfl) ?_
      refine Run.go (Ev.assign rfl rfl) ?_
      refine Run.nil ?_
      cases h
      exact LoopT.ghost (Ghost.only [] [0, 1] rfl) hz1
    · replace h := ifF hb4 h
      refine T.exit ?_
      cases h
      cases hz1
      exact ⟨(), trivial, Ghost.only [] [0] rfl⟩
  · refine T.seq ?_
    refine T.region ?_
    refine Run.go (Ev.move rfl rfl) ?_
    refine Run.go (Ev.assign rfl rfl) ?_
    refine Run.nil ?_
    refine T.ret ?_
    cases h
    exact Fin.one rfl .v
theorem en34 : Enters Tryz.prog 34 := ⟨_, Tryz.func34, rfl, rfl⟩
theorem k_triviumref08_Low {p0 : D_triviumref07_Z} {p1 : (List Int)} {y : D_triviumref08_Q} (h : m_triviumref08_Low p0 p1 = some y) : Spec Tryz.prog 34 [(.v Y_triviumref07_Z p0), (.v (.sl (.int .i64)) p1)] (.v Y_triviumref08_Q y) [] := by
  rw [m_triviumref08_Low] at h
  refine enterN [(.v Y_triviumref07_Z p0), (.v (.sl (.int .i64)) p1)] 38 Tryz.func34 rfl rfl rfl ?_
  refine T.seq ?_
  refine T.region ?_
  refine Run.go (Ev.box 1 rfl rfl rfl rfl) ?_
  refine Run.go (Ev.allocN X 2 rfl rfl rfl) ?_
  refine Run.nil ?_
  refine T.seq ?_
  refine T.region ?_
  refine Run.go (Ev.fieldBox X rfl rfl rfl rfl rfl) ?_
  refine Run.go (Ev.loadCell X rfl rfl rfl rfl rfl rfl) ?_
  refine Run.go (Ev.move rfl rfl) ?_
  obtain ⟨x1, e2, h⟩ := bdS h
  refine Run.go (Ev.callC en55 (k_triviumref02_Gcd e2) rfl (.cons .v (.cons .v .nil)) rfl rfl) ?_
  refine Run.go (Ev.assign rfl rfl) ?_
  refine Run.nil ?_
  refine T.seq ?_
  refine T.region ?_
  refine Run.go (Ev.fieldBox X rfl rfl rfl rfl rfl) ?_
  refine Run.go (Ev.loadCell X rfl rfl rfl rfl rfl rfl) ?_
  refine Run.go (Ev.move rfl rfl) ?_
  obtain ⟨x3, e4, h⟩ := bdS h
  refine Run.go (Ev.callC en56 (k_triviumref02_Div e4) rfl (.cons .v (.cons .v .nil)) rfl rfl) ?_
  refine Run.go (Ev.move rfl rfl) ?_
  refine Run.go (Ev.extract rfl rfl rfl) ?_
  refine Run.go (Ev.extract rfl rfl rfl) ?_
  refine Run.go (Ev.assign rfl rfl) ?_
  refine Run.go (Ev.assign rfl rfl) ?_
  refine Run.nil ?_
  refine T.seq ?_
  refine T.region ?_
  refine Run.go (Ev.move rfl rfl) ?_
  refine Run.go (Ev.move rfl rfl) ?_
  obtain ⟨x5, e6, h⟩ := bdS h
  refine Run.go (Ev.callC en56 (k_triviumref02_Div e6) rfl (.cons .v (.cons .v .nil)) rfl rfl) ?_
  refine Run.go (Ev.move rfl rfl) ?_
  refine Run.go (Ev.extract rfl rfl rfl) ?_
  refine Run.go (Ev.extract rfl rfl rfl) ?_
  refine Run.go (Ev.assign rfl rfl) ?_
  refine Run.go (Ev.assign rfl rfl) ?_
  refine Run.nil ?_
  refine T.seq ?_
  refine T.region ?_
  refine Run.go (Ev.fieldBox X rfl rfl rfl rfl rfl) ?_
  refine Run.go (Ev.loadCell X rfl rfl rfl rfl rfl rfl) ?_
  refine Run.go (Ev.move rfl rfl) ?_
  rcases boolCases p0.1 with hb7 | hb7
  · replace h := ifT hb7 h
    refine Run.on rfl rfl rfl hb7 (Ev.move rfl rfl) ?_
    refine Run.on rfl rfl rfl hb7 (Ev.len X rfl rfl rfl rfl) ?_
    refine Run.on rfl rfl rfl hb7 (Ev.int rfl rfl rfl rfl trivial) ?_
    refine Run.go (Ev.pickT rfl hb7 rfl rfl) ?_
    refine Run.go (Ev.move rfl rfl) ?_
    refine Run.go (Ev.struct X pl66 rfl rfl rfl rfl rfl rfl rfl rfl) ?_
    refine Run.go (Ev.move rfl rfl) ?_
    refine Run.go (Ev.struct X pl68 rfl rfl rfl rfl rfl rfl rfl rfl) ?_
    refine Run.do_ (Ev.storeBox X rfl rfl rfl rfl rfl rfl rfl) ?_
    refine Run.nil ?_
    refine T.ret ?_
    cases h
    exact Fin.cell X rfl rfl rfl rfl rfl
  · replace h := ifF hb7 h
    refine Run.offT rfl rfl rfl rfl hb7 ?_
    refine Run.offT rfl rfl rfl rfl hb7 ?_
    refine Run.offT rfl rfl rfl rfl hb7 ?_
    refine Run.go (Ev.pickF rfl hb7 rfl rfl) ?_
    refine Run.go (Ev.move rfl rfl) ?_
    refine Run.go (Ev.struct X pl66 rfl rfl rfl rfl rfl rfl rfl rfl) ?_
    refine Run.go (Ev.move rfl rfl) ?_
    refine Run.go (Ev.struct X pl68 rfl rfl rfl rfl rfl rfl rfl rfl) ?_
    refine Run.do_ (Ev.storeBox X rfl rfl rfl rfl rfl rfl rfl) ?_
    refine Run.nil ?_
    refine T.ret ?_
    cases h
    exact Fin.cell X rfl rfl rfl rfl rfl
theorem en60 : Enters Tryz.prog 60 := ⟨_, Tryz.func60, rfl, rfl⟩
theorem k_triviumref02_DivSmall {p0 : (List Int)} {p1 : Int} {y : (List Int) × Int} (h : m_triviumref02_DivSmall p0 p1 = some y) : Spec Tryz.prog 60 [(.v (.sl (.int .i64)) p0), (.v (.int .i64) p1)] (.tup [.v (.sl (.int .i64)) y.1, .v (.int .i64) y.2]) [] := by
  rw [m_triviumref02_DivSmall] at h
  refine enterN [(.v (.sl (.int .i64)) p0), (.v (.int .i64) p1)] 38 Tryz.func60 rfl rfl rfl ?_
  refine T.seq ?_
  refine T.region ?_
  refine Run.go (Ev.assign rfl rfl) ?_
  refine Run.go (Ev.assign rfl rfl) ?_
  refine Run.nil ?_
  refine T.seq ?_
  refine T.region ?_
  refine Run.go (Ev.move rfl rfl) ?_
  refine Run.go (Ev.len X rfl rfl rfl rfl) ?_
  obtain ⟨x1, e2, h⟩ := bdS h
  refine Run.go (Ev.e_mk X 1 e2 rfl rfl rfl rfl rfl rfl) ?_
  refine Run.go (Ev.assign rfl rfl) ?_
  refine Run.go (Ev.assign rfl rfl) ?_
  refine Run.nil ?_
  obtain ⟨⟨v3, v4⟩, hv, h⟩ := bdS h
  refine T.cut (fun _ : Unit => (⟨[(6, .own 1), (7, .v (.int .i64) v3)], [(1, .arr 3 (.int .i64) v4)], 38⟩ : St)) (fun _ => True) ?_ (fun _ _ => ?_)
  · replace h := hv
    clear hv
    refine T.seq ?_
    refine T.region ?_
    refine Run.go (Ev.move rfl rfl) ?_
    refine Run.go (Ev.len X rfl rfl rfl rfl) ?_
    refine Run.go (Ev.int rfl rfl rfl rfl trivial) ?_
    refine Run.go (Ev.assign rfl rfl) ?_
    refine Run.nil ?_
    refine T.block ?_
    refine T.loop (LoopT.ghost (Ghost.only [(1, 1)] [0, 1, 6, 7, 8] rfl) (LoopT.run (fun q : Int × Int × (List Int) => (⟨[(0, .v (.sl (.int .i64)) p0), (1, .v (.int .i64) p1), (6, .own 1), (7, .v (.int .i64) q.1), (8, .v (.int .i64) q.2.1)], [(1, .arr 3 (.int .i64) q.2.2)], 38⟩ : St)) (fun q z1 h hz1 => ?_) h))
    obtain ⟨v5, v6, v7⟩ := q
    dsimp only
    rw [m_triviumref02_DivSmall_l1] at h
    refine T.seq ?_
    refine T.seq ?_
    refine T.region ?_
    refine Run.go (Ev.move rfl rfl) ?_
    refine Run.go (Ev.int rfl rfl rfl rfl trivial) ?_
    refine Run.nil ?_
    refine T.cond rfl (fun hb8 => ?_) (fun hb8 => ?_)
    · replace h := ifT hb8 h
      refine T.skip ?_
      refine T.seq ?_
      refine T.block ?_
      refine T.seq ?_
      refine T.region ?_
      refine Run.go (Ev.move rfl rfl) ?_
      refine Run.go (Ev.int rfl rfl rfl rfl trivial) ?_
      refine Run.go (Ev.move rfl rfl) ?_
      refine Run.go (Ev.move rfl rfl) ?_
      obtain ⟨x9, e10, h⟩ := bdS h
      refine Run.go (Ev.e_rd X e10 rfl rfl rfl rfl) ?_
      refine Run.go (Ev.load X rfl rfl rfl) ?_
      refine Run.go (Ev.int rfl rfl rfl rfl trivial) ?_
      refine Run.go (Ev.assign rfl rfl) ?_
      refine Run.nil ?_
      refine T.seq ?_
      refine T.region ?_
      refine Run.go (Ev.move rfl rfl) ?_
      refine Run.go (Ev.move rfl rfl) ?_
      refine Run.go (Ev.move rfl rfl) ?_
      refine Run.go (Ev.move rfl rfl) ?_
      obtain ⟨x11, e12, h⟩ := bdS h
      refine Run.go (Ev.e_qd e12 rfl rfl rfl) ?_
      obtain ⟨j13, e14, h⟩ := bdS h
      refine Run.go (Ev.e_ixO X e14 rfl rfl rfl rfl rfl) ?_
      obtain ⟨x15, e16, h⟩ := ltS h
      refine Run.do_ (Ev.asO (Ev.storeEl X rfl rfl rfl rfl rfl) e16) ?_
      refine Run.nil ?_
      refine T.region ?_
      refine Run.go (Ev.move rfl rfl) ?_
      refine Run.go (Ev.move rfl rfl) ?_
      obtain ⟨x17, e18, h⟩ := bdS h
      refine Run.go (Ev.e_rm e18 rfl rfl rfl) ?_
      refine Run.go (Ev.assign rfl rfl) ?_
      refine Run.nil ?_
      refine T.region ?_
      refine Run.go (Ev.move rfl rfl) ?_
      refine Run.go (Ev.int rfl rfl rfl rfl trivial) ?_
      refine Run.go (Ev.assign rfl rfl) ?_
      refine Run.nil ?_
      cases h
      exact LoopT.ghost (Ghost.only [(1, 1)] [0, 1, 6, 7, 8] rfl) hz1
    · replace h := ifF hb8 h
      refine T.exit ?_
      cases h
      cases hz1
      exact ⟨(), trivial, Ghost.only [(1, 1)] [6, 7] rfl⟩
  · refine T.seq ?_
    refine T.region ?_
    refine Run.go (Ev.move rfl rfl) ?_
    refine Run.ghost (Ghost.firmAll (id := 1) rfl) ?_
    obtain ⟨x19, e20, h⟩ := bdS h
    refine Run.go (Ev.callC en69 (k_triviumref02_Trim e20) rfl (.cons .v .nil) rfl rfl) ?_
    refine Run.go (Ev.move rfl rfl) ?_
    refine Run.go (Ev.assign rfl rfl) ?_
    refine Run.go (Ev.assign rfl rfl) ?_
    refine Run.nil ?_
    refine T.ret ?_
    cases h
    exact Fin.many X rfl (.cons (.tmp .v) (.cons (.tmp .v) .nil)) rfl
theorem en54 : Enters Tryz.prog 54 := ⟨_, Tryz.func54, rfl, rfl⟩
theorem k_triviumref02_Back {p0 : (List Int)} {y : (List Int)} (h : m_triviumref02_Back p0 = some y) : Spec Tryz.prog 54 [(.v (.sl (.int .i64)) p0)] (.v (.sl (.int .u64)) y) [] := by
  rw [m_triviumref02_Back] at h
  refine enterN [(.v (.sl (.int .i64)) p0)] 22 Tryz.func54 rfl rfl rfl ?_
  refine T.seq ?_
  refine T.region ?_
  refine Run.go (Ev.assign rfl rfl) ?_
  refine Run.nil ?_
  refine T.seq ?_
  refine T.region ?_
  refine Run.go (Ev.build X 1 rfl rfl rfl rfl rfl rfl rfl rfl) ?_
  refine Run.go (Ev.assign rfl rfl) ?_
  refine Run.nil ?_
  obtain ⟨v1, hv, h⟩ := bdS h
  refine T.cut (fun _ : Unit => (⟨[(3, .own 5)], [(5, .arr 91 (.int .u64) v1)], 22⟩ : St)) (fun _ => True) ?_ (fun _ _ => ?_)
  · replace h := hv
    clear hv
    refine T.block ?_
    refine T.loop (LoopT.ghost (Ghost.only [(1, 15)] [0, 3] rfl) (LoopT.run (fun q : (List Int) × (List Int) => (⟨[(0, .v (.sl (.int .i64)) q.1), (3, .own 15)], [(15, .arr 91 (.int .u64) q.2)], 22⟩ : St)) (fun q z1 h hz1 => ?_) h))
    obtain ⟨v2, v3⟩ := q
    dsimp only
    rw [m_triviumref02_Back_l1] at h
    refine T.seq ?_
    refine T.seq ?_
    refine T.region ?_
    refine Run.go (Ev.move rfl rfl) ?_
    refine Run.go (Ev.len X rfl rfl rfl rfl) ?_
    refine Run.go (Ev.int rfl rfl rfl rfl trivial) ?_
    refine Run.nil ?_
    refine T.cond rfl (fun hb4 => ?_) (fun hb4 => ?_)
    · replace h := ifT hb4 h
      refine T.skip ?_
      refine T.block ?_
      refine T.seq ?_
      refine T.region ?_
      refine Run.go (Ev.move rfl rfl) ?_
      obtain ⟨x5, e6, h⟩ := bdS h
      refine Run.go (Ev.callC en60 (k_triviumref02_DivSmall e6) rfl (.cons .v (.cons .v .nil)) rfl rfl) ?_
      refine Run.go (Ev.move rfl rfl) ?_
      refine Run.go (Ev.extract rfl rfl rfl) ?_
      refine Run.go (Ev.extract rfl rfl rfl) ?_
      refine Run.go (Ev.assign rfl rfl) ?_
      refine Run.go (Ev.assign rfl rfl) ?_
      refine Run.nil ?_
      refine T.seq ?_
      refine T.region ?_
      refine Run.go (Ev.move rfl rfl) ?_
      refine Run.go (Ev.move rfl rfl) ?_
      refine Run.go (Ev.conv X rfl rfl rfl rfl) ?_
      refine Run.go (Ev.build X 19 rfl rfl rfl rfl rfl rfl rfl rfl) ?_
      obtain ⟨x7, e8, h⟩ := bdS h
      refine Run.go (Ev.e_ap X 20 e8 rfl rfl rfl (.own rfl) rfl rfl rfl rfl rfl) ?_
      refine Run.go (Ev.assign rfl rfl) ?_
      refine Run.nil ?_
      refine T.region ?_
      refine Run.go (Ev.move rfl rfl) ?_
      refine Run.go (Ev.assign rfl rfl) ?_
      refine Run.nil ?_
      cases h
      exact LoopT.ghost (Ghost.only [(20, 15)] [0, 3] rfl) hz1
    · replace h := ifF hb4 h
      refine T.exit ?_
      cases h
      cases hz1
      exact ⟨(), trivial, Ghost.only [(15, 5)] [3] rfl⟩
  · refine T.seq ?_
    refine T.region ?_
    refine Run.go (Ev.move rfl rfl) ?_
    refine Run.go (Ev.assign rfl rfl) ?_
    refine Run.nil ?_
    refine T.ret ?_
    cases h
    exact Fin.one rfl (.own rfl)
theorem en53 : Enters Tryz.prog 53 := ⟨_, Tryz.func53, rfl, rfl⟩
theorem k_triviumref07_Back {p0 : D_triviumref07_Z} {y : D_api_Int} (h : m_triviumref07_Back p0 = some y) : Spec Tryz.prog 53 [(.v Y_triviumref07_Z p0)] (.v Y_api_Int y) [] := by
  rw [m_triviumref07_Back] at h
  refine enterN [(.v Y_triviumref07_Z p0)] 9 Tryz.func53 rfl rfl rfl ?_
  refine T.seq ?_
  refine T.region ?_
  refine Run.go (Ev.box 1 rfl rfl rfl rfl) ?_
  refine Run.go (Ev.allocN X 2 rfl rfl rfl) ?_
  refine Run.nil ?_
  refine T.seq ?_
  refine T.drawM [6] [0, 1, 0, 4, 12, 31, 63] (by kernel_rfl) (by kernel_rfl) ?_
  refine RunD.a rfl rfl (Ev.fieldBox X rfl rfl rfl rfl rfl) ?_
  refine RunD.a rfl rfl (Ev.loadCell X rfl rfl rfl rfl rfl rfl) ?_
  refine RunD.a rfl rfl (Ev.fieldBox X rfl rfl rfl rfl rfl) ?_
  refine RunD.a rfl rfl (Ev.loadCell X rfl rfl rfl rfl rfl rfl) ?_
  obtain ⟨x1, e2, h⟩ := bdS h
  refine RunD.a rfl rfl (Ev.callC en54 (k_triviumref02_Back e2) rfl (.cons .v .nil) rfl rfl) ?_
  refine RunD.w (fun _ => Ev.struct X pl55 rfl rfl rfl rfl rfl rfl rfl rfl) ?_
  refine RunD.mN rfl (Ev.storeBox X rfl rfl rfl rfl rfl rfl rfl) ?_
  refine RunD.nil ?_
  refine T.ret ?_
  cases h
  exact Fin.cell X rfl rfl rfl rfl rfl
theorem en33 : Enters Tryz.prog 33 := ⟨_, Tryz.func33, rfl, rfl⟩
theorem k_triviumref08_Back {p0 : D_triviumref08_Q} {y : D_api_Rat} (h : m_triviumref08_Back p0 = some y) : Spec Tryz.prog 33 [(.v Y_triviumref08_Q p0)] (.v Y_api_Rat y) [] := by
  rw [m_triviumref08_Back] at h
  refine enterN [(.v Y_triviumref08_Q p0)] 10 Tryz.func33 rfl rfl rfl ?_
  refine T.seq ?_
  refine T.region ?_
  refine Run.go (Ev.box 1 rfl rfl rfl rfl) ?_
  refine Run.go (Ev.allocN X 2 rfl rfl rfl) ?_
  refine Run.nil ?_
  refine T.seq ?_
  refine T.drawM [7] [0, 1, 3, 0, 8, 31, 63, 127] (by kernel_rfl) (by kernel_rfl) ?_
  refine RunD.a rfl rfl (Ev.fieldBox X rfl rfl rfl rfl rfl) ?_
  refine RunD.a rfl rfl (Ev.loadBox X rfl rfl rfl rfl rfl) ?_
  obtain ⟨x1, e2, h⟩ := bdS h
  refine RunD.a rfl rfl (Ev.callC en53 (k_triviumref07_Back e2) rfl (.cons .v .nil) rfl rfl) ?_
  refine RunD.a rfl rfl (Ev.fieldBox X rfl rfl rfl rfl rfl) ?_
  refine RunD.a rfl rfl (Ev.loadCell X rfl rfl rfl rfl rfl rfl) ?_
  obtain ⟨x3, e4, h⟩ := bdS h
  refine RunD.a rfl rfl (Ev.callC en54 (k_triviumref02_Back e4) rfl (.cons .v .nil) rfl rfl) ?_
  refine RunD.w (fun _ => Ev.struct X pl57 rfl rfl rfl rfl rfl rfl rfl rfl) ?_
  refine RunD.mN rfl (Ev.storeBox X rfl rfl rfl rfl rfl rfl rfl) ?_
  refine RunD.nil ?_
  refine T.ret ?_
  cases h
  exact Fin.cell X rfl rfl rfl rfl rfl
theorem en15 : Enters Tryz.prog 15 := ⟨_, Tryz.func15, rfl, rfl⟩
theorem k_triviumref08_Clean {p0 : D_api_Rat} {p1 : Int} {y : D_api_Rat} (h : m_triviumref08_Clean p0 p1 = some y) : Spec Tryz.prog 15 [(.v Y_api_Rat p0), (.v (.int .i64) p1)] (.v Y_api_Rat y) [] := by
  rw [m_triviumref08_Clean] at h
  refine enterN [(.v Y_api_Rat p0), (.v (.int .i64) p1)] 23 Tryz.func15 rfl rfl rfl ?_
  refine T.seq ?_
  refine T.region ?_
  refine Run.go (Ev.box 1 rfl rfl rfl rfl) ?_
  refine Run.go (Ev.allocN X 2 rfl rfl rfl) ?_
  refine Run.nil ?_
  refine T.seq ?_
  refine T.region ?_
  refine Run.go (Ev.fieldBox X rfl rfl rfl rfl rfl) ?_
  refine Run.go (Ev.loadCell X rfl rfl rfl rfl rfl rfl) ?_
  refine Run.go (Ev.move rfl rfl) ?_
  obtain ⟨x1, e2, h⟩ := bdS h
  refine Run.go (Ev.callC en32 (k_triviumref02_Clean e2) rfl (.cons .v (.cons .v .nil)) rfl rfl) ?_
  refine Run.go (Ev.assign rfl rfl) ?_
  refine Run.nil ?_
  obtain ⟨v3, hv, h⟩ := bdS h
  refine T.cut (fun _ : Unit => (⟨[(1, .v (.int .i64) p1), (2, .box 1 0), (4, .box 2 0), (5, .v (.sl (.int .u64)) v3)], [(1, .box [.v .bool p0.1.1, .v (.sl (.int .u64)) p0.1.2, .v (.sl (.int .u64)) p0.2]), (2, .box [.v .bool false, .nil, .nil])], 23⟩ : St)) (fun _ => True) ?_ (fun _ _ => ?_)
  · replace h := hv
    clear hv
    refine T.seq ?_
    refine T.region ?_
    refine Run.go (Ev.move rfl rfl) ?_
    refine Run.go (Ev.len X rfl rfl rfl rfl) ?_
    refine Run.go (Ev.int rfl rfl rfl rfl trivial) ?_
    refine Run.nil ?_
    refine T.cond rfl (fun hb4 => ?_) (fun hb4 => ?_)
    · replace h := ifT hb4 h
      refine T.region ?_
      refine Run.go (Ev.build X 6 rfl rfl rfl rfl rfl rfl rfl rfl) ?_
      refine Run.go (Ev.assign rfl rfl) ?_
      refine Run.nil ?_
      cases h
      exact ⟨(), trivial, Ghost.trans (Ghost.firmAll (id := 6) rfl) (Ghost.only [(1, 1), (2, 2)] [1, 2, 4, 5] rfl)⟩
    · replace h := ifF hb4 h
      refine T.skip ?_
      cases h
      exact ⟨(), trivial, Ghost.only [(1, 1), (2, 2)] [1, 2, 4, 5] rfl⟩
  · refine T.seq ?_
    refine T.region ?_
    refine Run.go (Ev.fieldBox X rfl rfl rfl rfl rfl) ?_
    refine Run.go (Ev.loadBox X rfl rfl rfl rfl rfl) ?_
    refine Run.go (Ev.move rfl rfl) ?_
    obtain ⟨x5, e6, h⟩ := bdS h
    refine Run.go (Ev.callC en36 (k_triviumref07_Clean e6) rfl (.cons .v (.cons .v .nil)) rfl rfl) ?_
    obtain ⟨x7, e8, h⟩ := bdS h
    refine Run.go (Ev.callC en35 (k_triviumref07_Of e8) rfl (.cons .v .nil) rfl rfl) ?_
    refine Run.go (Ev.move rfl rfl) ?_
    obtain ⟨x9, e10, h⟩ := bdS h
    refine Run.go (Ev.callC en37 (k_triviumref02_Of e10) rfl (.cons .v .nil) rfl rfl) ?_
    obtain ⟨x11, e12, h⟩ := bdS h
    refine Run.go (Ev.callC en34 (k_triviumref08_Low e12) rfl (.cons .v (.cons .v .nil)) rfl rfl) ?_
    obtain ⟨x13, e14, h⟩ := bdS h
    refine Run.go (Ev.callC en33 (k_triviumref08_Back e14) rfl (.cons .v .nil) rfl rfl) ?_
    refine Run.do_ (Ev.storeBox X rfl rfl rfl rfl rfl rfl rfl) ?_
    refine Run.nil ?_
    refine T.ret ?_
    cases h
    exact Fin.cell X rfl rfl rfl rfl rfl
theorem en6 : Enters Tryz.prog 6 := ⟨_, Tryz.func6, rfl, rfl⟩
theorem k_triviumref22_Clean {p0 : (List D_api_Net)} {y : (List D_api_Net)} (h : m_triviumref22_Clean p0 = some y) : Spec Tryz.prog 6 [(.v (.sl Y_api_Net) p0)] (.v (.sl Y_api_Net) y) [] := by
  rw [m_triviumref22_Clean] at h
  refine enterN [(.v (.sl Y_api_Net) p0)] 132 Tryz.func6 rfl rfl rfl ?_
  refine T.seq ?_
  refine T.region ?_
  refine Run.go (Ev.assign rfl rfl) ?_
  refine Run.nil ?_
  refine T.seq ?_
  refine T.region ?_
  refine Run.go (Ev.build X 1 rfl rfl rfl rfl rfl rfl rfl rfl) ?_
  refine Run.go (Ev.assign rfl rfl) ?_
  refine Run.nil ?_
  obtain ⟨v1, hv, h⟩ := bdS h
  refine T.cut (fun _ : Unit => (⟨[(3, .own 621)], [(621, .arr 47 Y_api_Net v1)], 132⟩ : St)) (fun _ => True) ?_ (fun _ _ => ?_)
  · replace h := hv
    clear hv
    refine T.seq ?_
    refine T.region ?_
    refine Run.go (Ev.assign rfl rfl) ?_
    refine Run.nil ?_
    refine T.block ?_
    refine T.loop (LoopT.ghost (Ghost.only [(1, 2467)] [0, 3, 4] rfl) (LoopT.run (fun q : Int × (List D_api_Net) => (⟨[(0, .v (.sl Y_api_Net) p0), (3, .own 2467), (4, .v (.int .i64) q.1)], [(2467, .arr 47 Y_api_Net q.2)], 132⟩ : St)) (fun q z1 h hz1 => ?_) h))
    obtain ⟨v2, v3⟩ := q
    dsimp only
    rw [m_triviumref22_Clean_l1] at h
    refine T.seq ?_
    obtain ⟨v4, hv, h⟩ := bdS h
    refine T.cut (fun _ : Unit => (⟨[(0, .v (.sl Y_api_Net) p0), (3, .own 2467), (4, .v (.int .i64) v2), (19, .v .bool v4)], [(2467, .arr 47 Y_api_Net v3)], 132⟩ : St)) (fun _ => True) ?_ (fun _ _ => ?_)
    · replace h := hv
      clear hv
      refine T.region ?_
      refine Run.go (Ev.move rfl rfl) ?_
      refine Run.go (Ev.move rfl rfl) ?_
      refine Run.go (Ev.len X rfl rfl rfl rfl) ?_
      refine Run.go (Ev.int rfl rfl rfl rfl trivial) ?_
      refine Run.go (Ev.move rfl rfl) ?_
      rcases boolCases (decide (v2 < (p0.length : Int))) with hb5 | hb5
      · replace h := ifT hb5 h
        refine Run.on rfl rfl rfl hb5 (Ev.move rfl rfl) ?_
        refine Run.on rfl rfl rfl hb5 (Ev.int rfl rfl rfl rfl trivial) ?_
        refine Run.go (Ev.pickT rfl hb5 rfl rfl) ?_
        refine Run.nil ?_
        cases h
        exact ⟨(), trivial, Ghost.only [(2467, 2467)] [0, 3, 4, 19] rfl⟩
      · replace h := ifF hb5 h
        refine Run.offT rfl rfl rfl rfl hb5 ?_
        refine Run.offT rfl rfl rfl rfl hb5 ?_
        refine Run.go (Ev.pickF rfl hb5 rfl rfl) ?_
        refine Run.nil ?_
        cases h
        exact ⟨(), trivial, Ghost.only [(2467, 2467)] [0, 3, 4, 19] rfl⟩
    · refine T.cond rfl (fun hb6 => ?_) (fun hb6 => ?_)
      · replace h := ifT hb6 h
        refine T.skip ?_
        obtain ⟨v7, hv, h⟩ := bdS h
        refine T.cut (fun _ : Unit => (⟨[(0, .v (.sl Y_api_Net) p0), (3, .own 3389), (4, .v (.int .i64) v2)], [(3389, .arr 47 Y_api_Net v7)], 132⟩ : St)) (fun _ => True) ?_ (fun _ _ => ?_)
        · replace h := hv
          clear hv
          refine T.block ?_
          refine T.seq ?_
          refine T.region ?_
          refine Run.go (Ev.move rfl rfl) ?_
          refine Run.go (Ev.move rfl rfl) ?_
          obtain ⟨x8, e9, h⟩ := bdS h
          refine Run.go (Ev.e_rd X e9 rfl rfl rfl rfl) ?_
          refine Run.go (Ev.load X rfl rfl rfl) ?_
          refine Run.go (Ev.allocN X 3391 rfl rfl rfl) ?_
          refine Run.do_ (Ev.storeBox X rfl rfl rfl rfl rfl rfl rfl) ?_
          refine Run.nil ?_
          refine T.seq ?_
          refine T.region ?_
          refine Run.go (Ev.fieldBox X rfl rfl rfl rfl rfl) ?_
          refine Run.go (Ev.loadCell X rfl rfl rfl rfl rfl rfl) ?_
          obtain ⟨x10, e11, h⟩ := bdS h
          refine Run.go (Ev.callC en11 (k_triviumref22_short e11) rfl (.cons .v .nil) rfl rfl) ?_
          refine Run.go (Ev.structC pl47 zs47 rfl rfl rfl) ?_
          refine Run.go (Ev.allocN X 3392 rfl rfl rfl) ?_
          refine Run.do_ (Ev.storeC sz47 rfl rfl rfl rfl rfl rfl) ?_
          refine Run.nil ?_
          obtain ⟨v12, hv, h⟩ := bdS h
          refine T.cut (fun _ : Unit => (⟨[(0, .v (.sl Y_api_Net) p0), (3, .own 2467), (4, .v (.int .i64) v2), (5, .box 3391 0), (6, .box 3392 0)], [(2467, .arr 47 Y_api_Net v3), (3391, .box [.v .str x8.1, .v (.sl Y_api_Node) x8.2.1, .v (.sl Y_api_Link) x8.2.2.1, .v (.sl Y_api_Rule) x8.2.2.2]), (3392, .box [.v .str x10, .own 3407, .nil, .nil]), (3407, .arr 51 Y_api_Node v12)], 132⟩ : St)) (fun _ => True) ?_ (fun _ _ => ?_)
          · replace h := hv
            clear hv
            refine T.seq ?_
            refine T.region ?_
            refine Run.go (Ev.assign rfl rfl) ?_
            refine Run.nil ?_
            refine T.block ?_
            refine T.loop (LoopT.ghost (Ghost.trans (Ghost.emptyC 3392 1 3482 51 Y_api_Node rfl rfl rfl) (Ghost.only [(2467, 2467), (3391, 3391), (3392, 3392), (3482, 3460)] [0, 3, 4, 5, 6, 7] rfl)) (LoopT.run (fun q : Int × (List D_api_Node) => (⟨[(0, .v (.sl Y_api_Net) p0), (3, .own 2467), (4, .v (.int .i64) v2), (5, .box 3391 0), (6, .box 3392 0), (7, .v (.int .i64) q.1)], [(2467, .arr 47 Y_api_Net v3), (3391, .box [.v .str x8.1, .v (.sl Y_api_Node) x8.2.1, .v (.sl Y_api_Link) x8.2.2.1, .v (.sl Y_api_Rule) x8.2.2.2]), (3392, .box [.v .str x10, .own 3460, .nil, .nil]), (3460, .arr 51 Y_api_Node q.2)], 132⟩ : St)) (fun q z2 h hz2 => ?_) h))
            obtain ⟨v13, v14⟩ := q
            dsimp only
            rw [m_triviumref22_Clean_l2] at h
            refine T.seq ?_
            obtain ⟨v15, hv, h⟩ := bdS h
            refine T.cut (fun _ : Unit => (⟨[(0, .v (.sl Y_api_Net) p0), (3, .own 2467), (4, .v (.int .i64) v2), (5, .box 3391 0), (6, .box 3392 0), (7, .v (.int .i64) v13), (38, .v .bool v15)], [(2467, .arr 47 Y_api_Net v3), (3391, .box [.v .str x8.1, .v (.sl Y_api_Node) x8.2.1, .v (.sl Y_api_Link) x8.2.2.1, .v (.sl Y_api_Rule) x8.2.2.2]), (3392, .box [.v .str x10, .own 3460, .nil, .nil]), (3460, .arr 51 Y_api_Node v14)], 132⟩ : St)) (fun _ => True) ?_ (fun _ _ => ?_)
            · replace h := hv
              clear hv
              refine T.region ?_
              refine Run.go (Ev.move rfl rfl) ?_
              refine Run.go (Ev.fieldBox X rfl rfl rfl rfl rfl) ?_
              refine Run.go (Ev.loadCell X rfl rfl rfl rfl rfl rfl) ?_
              refine Run.go (Ev.len X rfl rfl rfl rfl) ?_
              refine Run.go (Ev.int rfl rfl rfl rfl trivial) ?_
              refine Run.go (Ev.move rfl rfl) ?_
              rcases boolCases (decide (v13 < (x8.2.1.length : Int))) with hb16 | hb16
              · replace h := ifT hb16 h
                refine Run.on rfl rfl rfl hb16 (Ev.move rfl rfl) ?_
                refine Run.on rfl rfl rfl hb16 (Ev.int rfl rfl rfl rfl trivial) ?_
                refine Run.go (Ev.pickT rfl hb16 rfl rfl) ?_
                refine Run.nil ?_
                cases h
                exact ⟨(), trivial, Ghost.only [(2467, 2467), (3391, 3391), (3392, 3392), (3460, 3460)] [0, 3, 4, 5, 6, 7, 38] rfl⟩
              · replace h := ifF hb16 h
                refine Run.offT rfl rfl rfl rfl hb16 ?_
                refine Run.offT rfl rfl rfl rfl hb16 ?_
                refine Run.go (Ev.pickF rfl hb16 rfl rfl) ?_
                refine Run.nil ?_
                cases h
                exact ⟨(), trivial, Ghost.only [(2467, 2467), (3391, 3391), (3392, 3392), (3460, 3460)] [0, 3, 4, 5, 6, 7, 38] rfl⟩
            · refine T.cond rfl (fun hb17 => ?_) (fun hb17 => ?_)
              · replace h := ifT hb17 h
                refine T.skip ?_
                refine T.seq ?_
                refine T.block ?_
                refine T.drawE [([3392], []), ([3392], []), ([3391], []), ([3391], []), ([], []), ([], []), ([], []), ([], []), ([], []), ([3491], [3491]), ([3391], []), ([3391], []), ([], []), ([], []), ([], []), ([], []), ([3391], []), ([3391], []), ([], []), ([], []), ([], []), ([], []), ([], []), ([], []), ([], []), ([3491, 3492], [3491]), ([], []), ([3493], []), ([3460, 3494], [3494, 3460]), ([3392], []), ([3392, 3494], [3392])] [0, 1, 0, 4, 0, 28, 60, 124, 252, 0, 0, 1024, 0, 7168, 15360, 31744, 0, 65536, 0, 458752, 983040, 2031616, 4128768, 8323072, 16776192, 33554428, 67108860, 134217724, 268435455, 536870911, 1073741823] (by kernel_rfl) (by kernel_rfl) ?_
                refine RunE.go0 [3392] (fun ô hô => Ev.fieldBox X rfl (ka hô rfl rfl) rfl rfl rfl) rfl rfl ?_
                refine RunE.go0 [3392] (fun ô hô => Ev.loadCell X rfl (ka hô rfl rfl) rfl rfl rfl rfl) rfl rfl ?_
                refine RunE.go0 [3391] (fun ô hô => Ev.fieldBox X rfl (ka hô rfl rfl) rfl rfl rfl) rfl rfl ?_
                refine RunE.go0 [3391] (fun ô hô => Ev.loadCell X rfl (ka hô rfl rfl) rfl rfl rfl rfl) rfl rfl ?_
                refine RunE.go0 [] (fun ô hô => Ev.move rfl rfl) rfl rfl ?_
                obtain ⟨x18, e19, h⟩ := bdS h
                refine RunE.go0 [] (fun ô hô => Ev.e_rd X e19 rfl rfl rfl rfl) rfl rfl ?_
                refine RunE.go0 [] (fun ô hô => Ev.fieldAddr X rfl rfl rfl rfl) rfl rfl ?_
                refine RunE.go0 [] (fun ô hô => Ev.load X rfl rfl rfl) rfl rfl ?_
                obtain ⟨x20, e21, h⟩ := bdS h
                refine RunE.go0 [] (fun ô hô => Ev.callC en11 (k_triviumref22_short e21) rfl (.cons .v .nil) rfl rfl) rfl rfl ?_
                refine RunE.go1 [3491] (fun ô hô => Ev.build X 3491 rfl rfl rfl rfl rfl (ka hô rfl rfl) rfl rfl) rfl rfl ?_
                refine RunE.go0 [3391] (fun ô hô => Ev.fieldBox X rfl (ka hô rfl rfl) rfl rfl rfl) rfl rfl ?_
                refine RunE.go0 [3391] (fun ô hô => Ev.loadCell X rfl (ka hô rfl rfl) rfl rfl rfl rfl) rfl rfl ?_
                refine RunE.go0 [] (fun ô hô => Ev.move rfl rfl) rfl rfl ?_
                obtain ⟨x22, e23, h⟩ := bdS h
                refine RunE.go0 [] (fun ô hô => Ev.e_rd X e23 rfl rfl rfl rfl) rfl rfl ?_
                refine RunE.go0 [] (fun ô hô => Ev.fieldAddr X rfl rfl rfl rfl) rfl rfl ?_
                refine RunE.go0 [] (fun ô hô => Ev.load X rfl rfl rfl) rfl rfl ?_
                refine RunE.go0 [3391] (fun ô hô => Ev.fieldBox X rfl (ka hô rfl rfl) rfl rfl rfl) rfl rfl ?_
                refine RunE.go0 [3391] (fun ô hô => Ev.loadCell X rfl (ka hô rfl rfl) rfl rfl rfl rfl) rfl rfl ?_
                refine RunE.go0 [] (fun ô hô => Ev.move rfl rfl) rfl rfl ?_
                obtain ⟨x24, e25, h⟩ := bdS h
                refine RunE.go0 [] (fun ô hô => Ev.e_rd X e25 rfl rfl rfl rfl) rfl rfl ?_
                refine RunE.go0 [] (fun ô hô => Ev.fieldAddr X rfl rfl rfl rfl) rfl rfl ?_
                refine RunE.go0 [] (fun ô hô => Ev.load X rfl rfl rfl) rfl rfl ?_
                refine RunE.go0 [] (fun ô hô => Ev.len X rfl rfl rfl rfl) rfl rfl ?_
                refine RunE.go0 [] (fun ô hô => Ev.min rfl rfl rfl) rfl rfl ?_
                obtain ⟨x26, e27, h⟩ := bdS h
                refine RunE.go0 [] (fun ô hô => Ev.e_ct X e27 rfl rfl rfl (fun _ h => by cases h) (fun _ => rfl) (fun _ _ => cutAt_of rfl) (fun h => by cases h)) rfl rfl ?_
                obtain ⟨x28, e29, h⟩ := bdS h
                refine RunE.go1 [3491, 3492] (fun ô hô => Ev.firmNewA (by exact kaD hô rfl rfl rfl) rfl (Ev.e_ap X 3492 e29 rfl (ka hô rfl rfl) rfl .v rfl rfl rfl (ka hô rfl rfl) rfl)) rfl rfl ?_
                refine RunE.go0 [] (fun ô hô => Ev.struct X pl51 rfl rfl rfl rfl rfl rfl rfl rfl) rfl rfl ?_
                refine RunE.go0 [3493] (fun ô hô => Ev.firmNew (by exact ka hô rfl rfl) rfl (Ev.build X 3493 rfl rfl rfl rfl rfl (ka hô rfl rfl) rfl rfl)) rfl rfl ?_
                obtain ⟨x30, e31, h⟩ := bdS h
                refine RunE.go2 [3460, 3494] (fun ô hô => Ev.e_ap X 3494 e31 rfl (ka hô rfl rfl) rfl .v rfl rfl rfl (ka hô rfl rfl) rfl) rfl rfl ?_
                refine RunE.go0 [3392] (fun ô hô => Ev.fieldBox X rfl (ka hô rfl rfl) rfl rfl rfl) rfl rfl ?_
                refine RunE.do1 [3392, 3494] (fun ô hô => Ev.storeC sz43 rfl (ka hô rfl rfl) rfl (sp_own (ka hô rfl rfl)) rfl rfl) rfl rfl ?_
                refine RunE.nil ?_
                refine T.region ?_
                refine Run.go (Ev.move rfl rfl) ?_
                refine Run.go (Ev.int rfl rfl rfl rfl trivial) ?_
                refine Run.go (Ev.assign rfl rfl) ?_
                refine Run.nil ?_
                cases h
                exact LoopT.ghost (Ghost.only [(2467, 2467), (3391, 3391), (3392, 3392), (3494, 3460)] [0, 3, 4, 5, 6, 7] rfl) hz2
              · replace h := ifF hb17 h
                refine T.exit ?_
                cases h
                cases hz2
                exact ⟨(), trivial, Ghost.only [(2467, 2467), (3391, 3391), (3392, 3392), (3460, 3407)] [0, 3, 4, 5, 6] rfl⟩
          · obtain ⟨v32, hv, h⟩ := bdS h
            refine T.cut (fun _ : Unit => (⟨[(0, .v (.sl Y_api_Net) p0), (3, .own 2467), (4, .v (.int .i64) v2), (5, .box 3391 0), (6, .box 3392 0)], [(2467, .arr 47 Y_api_Net v3), (3391, .box [.v .str x8.1, .v (.sl Y_api_Node) x8.2.1, .v (.sl Y_api_Link) x8.2.2.1, .v (.sl Y_api_Rule) x8.2.2.2]), (3392, .box [.v .str x10, .own 3407, .own 3508, .nil]), (3407, .arr 51 Y_api_Node v12), (3508, .arr 59 Y_api_Link v32)], 132⟩ : St)) (fun _ => True) ?_ (fun _ _ => ?_)
            · replace h := hv
              clear hv
              refine T.seq ?_
              refine T.region ?_
              refine Run.go (Ev.assign rfl rfl) ?_
              refine Run.nil ?_
              refine T.block ?_
              refine T.loop (LoopT.ghost (Ghost.trans (Ghost.emptyC 3392 2 3581 59 Y_api_Link rfl rfl rfl) (Ghost.only [(2467, 2467), (3391, 3391), (3392, 3392), (3407, 3407), (3581, 3559)] [0, 3, 4, 5, 6, 8] rfl)) (LoopT.run (fun q : Int × (List D_api_Link) => (⟨[(0, .v (.sl Y_api_Net) p0), (3, .own 2467), (4, .v (.int .i64) v2), (5, .box 3391 0), (6, .box 3392 0), (8, .v (.int .i64) q.1)], [(2467, .arr 47 Y_api_Net v3), (3391, .box [.v .str x8.1, .v (.sl Y_api_Node) x8.2.1, .v (.sl Y_api_Link) x8.2.2.1, .v (.sl Y_api_Rule) x8.2.2.2]), (3392, .box [.v .str x10, .own 3407, .own 3559, .nil]), (3407, .arr 51 Y_api_Node v12), (3559, .arr 59 Y_api_Link q.2)], 132⟩ : St)) (fun q z2 h hz2 => ?_) h))
              obtain ⟨v33, v34⟩ := q
              dsimp only
              rw [m_triviumref22_Clean_l3] at h
              refine T.seq ?_
              obtain ⟨v35, hv, h⟩ := bdS h
              refine T.cut (fun _ : Unit => (⟨[(0, .v (.sl Y_api_Net) p0), (3, .own 2467), (4, .v (.int .i64) v2), (5, .box 3391 0), (6, .box 3392 0), (8, .v (.int .i64) v33), (79, .v .bool v35)], [(2467, .arr 47 Y_api_Net v3), (3391, .box [.v .str x8.1, .v (.sl Y_api_Node) x8.2.1, .v (.sl Y_api_Link) x8.2.2.1, .v (.sl Y_api_Rule) x8.2.2.2]), (3392, .box [.v .str x10, .own 3407, .own 3559, .nil]), (3407, .arr 51 Y_api_Node v12), (3559, .arr 59 Y_api_Link v34)], 132⟩ : St)) (fun _ => True) ?_ (fun _ _ => ?_)
              · replace h := hv
                clear hv
                refine T.region ?_
                refine Run.go (Ev.move rfl rfl) ?_
                refine Run.go (Ev.fieldBox X rfl rfl rfl rfl rfl) ?_
                refine Run.go (Ev.loadCell X rfl rfl rfl rfl rfl rfl) ?_
                refine Run.go (Ev.len X rfl rfl rfl rfl) ?_
                refine Run.go (Ev.int rfl rfl rfl rfl trivial) ?_
                refine Run.go (Ev.move rfl rfl) ?_
                rcases boolCases (decide (v33 < (x8.2.2.1.length : Int))) with hb36 | hb36
                · replace h := ifT hb36 h
                  refine Run.on rfl rfl rfl hb36 (Ev.move rfl rfl) ?_
                  refine Run.on rfl rfl rfl hb36 (Ev.int rfl rfl rfl rfl trivial) ?_
                  refine Run.go (Ev.pickT rfl hb36 rfl rfl) ?_
                  refine Run.nil ?_
                  cases h
                  exact ⟨(), trivial, Ghost.only [(2467, 2467), (3391, 3391), (3392, 3392), (3407, 3407), (3559, 3559)] [0, 3, 4, 5, 6, 8, 79] rfl⟩
                · replace h := ifF hb36 h
                  refine Run.offT rfl rfl rfl rfl hb36 ?_
                  refine Run.offT rfl rfl rfl rfl hb36 ?_
                  refine Run.go (Ev.pickF rfl hb36 rfl rfl) ?_
                  refine Run.nil ?_
                  cases h
                  exact ⟨(), trivial, Ghost.only [(2467, 2467), (3391, 3391), (3392, 3392), (3407, 3407), (3559, 3559)] [0, 3, 4, 5, 6, 8, 79] rfl⟩
              · refine T.cond rfl (fun hb37 => ?_) (fun hb37 => ?_)
                · replace h := ifT hb37 h
                  refine T.skip ?_
                  refine T.seq ?_
                  refine T.block ?_
                  refine T.seq ?_
                  refine T.region ?_
                  refine Run.go (Ev.fieldBox X rfl rfl rfl rfl rfl) ?_
                  refine Run.go (Ev.loadCell X rfl rfl rfl rfl rfl rfl) ?_
                  refine Run.go (Ev.move rfl rfl) ?_
                  obtain ⟨x38, e39, h⟩ := bdS h
                  refine Run.go (Ev.e_rd X e39 rfl rfl rfl rfl) ?_
                  refine Run.go (Ev.load X rfl rfl rfl) ?_
                  refine Run.go (Ev.allocN X 3587 rfl rfl rfl) ?_
                  refine Run.do_ (Ev.storeBox X rfl rfl rfl rfl rfl rfl rfl) ?_
                  refine Run.nil ?_
                  refine T.drawE [([3392], []), ([3392], []), ([3587], []), ([3587], []), ([], []), ([3587], []), ([3587], []), ([], []), ([3587], []), ([3587], []), ([], []), ([3587], []), ([3587], []), ([], []), ([], []), ([3590], []), ([3559, 3591], [3591, 3559]), ([3392], []), ([3392, 3591], [3392])] [0, 1, 0, 4, 12, 0, 32, 124, 0, 256, 1020, 0, 2048, 8188, 16380, 32764, 65535, 131071, 262143] (by kernel_rfl) (by kernel_rfl) ?_
                  refine RunE.go0 [3392] (fun ô hô => Ev.fieldBox X rfl (ka hô rfl rfl) rfl rfl rfl) rfl rfl ?_
                  refine RunE.go0 [3392] (fun ô hô => Ev.loadCell X rfl (ka hô rfl rfl) rfl rfl rfl rfl) rfl rfl ?_
                  refine RunE.go0 [3587] (fun ô hô => Ev.fieldBox X rfl (ka hô rfl rfl) rfl rfl rfl) rfl rfl ?_
                  refine RunE.go0 [3587] (fun ô hô => Ev.loadCell X rfl (ka hô rfl rfl) rfl rfl rfl rfl) rfl rfl ?_
                  obtain ⟨x40, e41, h⟩ := bdS h
                  refine RunE.go0 [] (fun ô hô => Ev.callC en11 (k_triviumref22_short e41) rfl (.cons .v .nil) rfl rfl) rfl rfl ?_
                  refine RunE.go0 [3587] (fun ô hô => Ev.fieldBox X rfl (ka hô rfl rfl) rfl rfl rfl) rfl rfl ?_
                  refine RunE.go0 [3587] (fun ô hô => Ev.loadCell X rfl (ka hô rfl rfl) rfl rfl rfl rfl) rfl rfl ?_
                  obtain ⟨x42, e43, h⟩ := bdS h
                  refine RunE.go0 [] (fun ô hô => Ev.callC en11 (k_triviumref22_short e43) rfl (.cons .v .nil) rfl rfl) rfl rfl ?_
                  refine RunE.go0 [3587] (fun ô hô => Ev.fieldBox X rfl (ka hô rfl rfl) rfl rfl rfl) rfl rfl ?_
                  refine RunE.go0 [3587] (fun ô hô => Ev.loadCell X rfl (ka hô rfl rfl) rfl rfl rfl rfl) rfl rfl ?_
                  obtain ⟨x44, e45, h⟩ := bdS h
                  refine RunE.go0 [] (fun ô hô => Ev.callC en11 (k_triviumref22_short e45) rfl (.cons .v .nil) rfl rfl) rfl rfl ?_
                  refine RunE.go0 [3587] (fun ô hô => Ev.fieldBox X rfl (ka hô rfl rfl) rfl rfl rfl) rfl rfl ?_
                  refine RunE.go0 [3587] (fun ô hô => Ev.loadBox X rfl (ka hô rfl rfl) rfl rfl rfl) rfl rfl ?_
                  obtain ⟨x46, e47, h⟩ := bdS h
                  refine RunE.go0 [] (fun ô hô => Ev.callC en15 (k_triviumref08_Clean e47) rfl (.cons .v (.cons .v .nil)) rfl rfl) rfl rfl ?_
                  refine RunE.go0 [] (fun ô hô => Ev.struct X pl59 rfl rfl rfl rfl rfl rfl rfl rfl) rfl rfl ?_
                  refine RunE.go0 [3590] (fun ô hô => Ev.firmNew (by exact ka hô rfl rfl) rfl (Ev.build X 3590 rfl rfl rfl rfl rfl (ka hô rfl rfl) rfl rfl)) rfl rfl ?_
                  obtain ⟨x48, e49, h⟩ := bdS h
                  refine RunE.go2 [3559, 3591] (fun ô hô => Ev.e_ap X 3591 e49 rfl (ka hô rfl rfl) rfl .v rfl rfl rfl (ka hô rfl rfl) rfl) rfl rfl ?_
                  refine RunE.go0 [3392] (fun ô hô => Ev.fieldBox X rfl (ka hô rfl rfl) rfl rfl rfl) rfl rfl ?_
                  refine RunE.do1 [3392, 3591] (fun ô hô => Ev.storeC sz44 rfl (ka hô rfl rfl) rfl (sp_own (ka hô rfl rfl)) rfl rfl) rfl rfl ?_
                  refine RunE.nil ?_
                  refine T.region ?_
                  refine Run.go (Ev.move rfl rfl) ?_
                  refine Run.go (Ev.int rfl rfl rfl rfl trivial) ?_
                  refine Run.go (Ev.assign rfl rfl) ?_
                  refine Run.nil ?_
                  cases h
                  exact LoopT.ghost (Ghost.only [(2467, 2467), (3391, 3391), (3392, 3392), (3407, 3407), (3591, 3559)] [0, 3, 4, 5, 6, 8] rfl) hz2
                · replace h := ifF hb37 h
                  refine T.exit ?_
                  cases h
                  cases hz2
                  exact ⟨(), trivial, Ghost.only [(2467, 2467), (3391, 3391), (3392, 3392), (3407, 3407), (3559, 3508)] [0, 3, 4, 5, 6] rfl⟩
            · obtain ⟨v50, hv, h⟩ := bdS h
              refine T.cut (fun _ : Unit => (⟨[(0, .v (.sl Y_api_Net) p0), (3, .own 2467), (4, .v (.int .i64) v2), (6, .box 3392 0)], [(2467, .arr 47 Y_api_Net v3), (3392, .box [.v .str x10, .own 3407, .own 3508, .own 3606]), (3407, .arr 51 Y_api_Node v12), (3508, .arr 59 Y_api_Link v32), (3606, .arr 28 Y_api_Rule v50)], 132⟩ : St)) (fun _ => True) ?_ (fun _ _ => ?_)
              · replace h := hv
                clear hv
                refine T.seq ?_
                refine T.region ?_
                refine Run.go (Ev.assign rfl rfl) ?_
                refine Run.nil ?_
                refine T.block ?_
                refine T.loop (LoopT.ghost (Ghost.trans (Ghost.emptyC 3392 3 3684 28 Y_api_Rule rfl rfl rfl) (Ghost.only [(2467, 2467), (3391, 3391), (3392, 3392), (3407, 3407), (3508, 3508), (3684, 3660)] [0, 3, 4, 5, 6, 10] rfl)) (LoopT.run (fun q : Int × (List D_api_Rule) => (⟨[(0, .v (.sl Y_api_Net) p0), (3, .own 2467), (4, .v (.int .i64) v2), (5, .box 3391 0), (6, .box 3392 0), (10, .v (.int .i64) q.1)], [(2467, .arr 47 Y_api_Net v3), (3391, .box [.v .str x8.1, .v (.sl Y_api_Node) x8.2.1, .v (.sl Y_api_Link) x8.2.2.1, .v (.sl Y_api_Rule) x8.2.2.2]), (3392, .box [.v .str x10, .own 3407, .own 3508, .own 3660]), (3407, .arr 51 Y_api_Node v12), (3508, .arr 59 Y_api_Link v32), (3660, .arr 28 Y_api_Rule q.2)], 132⟩ : St)) (fun q z2 h hz2 => ?_) h))
                obtain ⟨v51, v52⟩ := q
                dsimp only
                rw [m_triviumref22_Clean_l4] at h
                refine T.seq ?_
                obtain ⟨v53, hv, h⟩ := bdS h
                refine T.cut (fun _ : Unit => (⟨[(0, .v (.sl Y_api_Net) p0), (3, .own 2467), (4, .v (.int .i64) v2), (5, .box 3391 0), (6, .box 3392 0), (10, .v (.int .i64) v51), (113, .v .bool v53)], [(2467, .arr 47 Y_api_Net v3), (3391, .box [.v .str x8.1, .v (.sl Y_api_Node) x8.2.1, .v (.sl Y_api_Link) x8.2.2.1, .v (.sl Y_api_Rule) x8.2.2.2]), (3392, .box [.v .str x10, .own 3407, .own 3508, .own 3660]), (3407, .arr 51 Y_api_Node v12), (3508, .arr 59 Y_api_Link v32), (3660, .arr 28 Y_api_Rule v52)], 132⟩ : St)) (fun _ => True) ?_ (fun _ _ => ?_)
                · replace h := hv
                  clear hv
                  refine T.region ?_
                  refine Run.go (Ev.move rfl rfl) ?_
                  refine Run.go (Ev.fieldBox X rfl rfl rfl rfl rfl) ?_
                  refine Run.go (Ev.loadCell X rfl rfl rfl rfl rfl rfl) ?_
                  refine Run.go (Ev.len X rfl rfl rfl rfl) ?_
                  refine Run.go (Ev.int rfl rfl rfl rfl trivial) ?_
                  refine Run.go (Ev.move rfl rfl) ?_
                  rcases boolCases (decide (v51 < (x8.2.2.2.length : Int))) with hb54 | hb54
                  · replace h := ifT hb54 h
                    refine Run.on rfl rfl rfl hb54 (Ev.move rfl rfl) ?_
                    refine Run.on rfl rfl rfl hb54 (Ev.int rfl rfl rfl rfl trivial) ?_
                    refine Run.go (Ev.pickT rfl hb54 rfl rfl) ?_
                    refine Run.nil ?_
                    cases h
                    exact ⟨(), trivial, Ghost.only [(2467, 2467), (3391, 3391), (3392, 3392), (3407, 3407), (3508, 3508), (3660, 3660)] [0, 3, 4, 5, 6, 10, 113] rfl⟩
                  · replace h := ifF hb54 h
                    refine Run.offT rfl rfl rfl rfl hb54 ?_
                    refine Run.offT rfl rfl rfl rfl hb54 ?_
                    refine Run.go (Ev.pickF rfl hb54 rfl rfl) ?_
                    refine Run.nil ?_
                    cases h
                    exact ⟨(), trivial, Ghost.only [(2467, 2467), (3391, 3391), (3392, 3392), (3407, 3407), (3508, 3508), (3660, 3660)] [0, 3, 4, 5, 6, 10, 113] rfl⟩
                · refine T.cond rfl (fun hb55 => ?_) (fun hb55 => ?_)
                  · replace h := ifT hb55 h
                    refine T.skip ?_
                    refine T.seq ?_
                    refine T.block ?_
                    refine T.drawE [([3392], []), ([3392], []), ([3391], []), ([3391], []), ([], []), ([], []), ([], []), ([], []), ([3693], []), ([3660, 3694], [3694, 3660]), ([3392], []), ([3392, 3694], [3392])] [0, 1, 0, 4, 0, 28, 60, 124, 252, 511, 1023, 2047] (by kernel_rfl) (by kernel_rfl) ?_
                    refine RunE.go0 [3392] (fun ô hô => Ev.fieldBox X rfl (ka hô rfl rfl) rfl rfl rfl) rfl rfl ?_
                    refine RunE.go0 [3392] (fun ô hô => Ev.loadCell X rfl (ka hô rfl rfl) rfl rfl rfl rfl) rfl rfl ?_
                    refine RunE.go0 [3391] (fun ô hô => Ev.fieldBox X rfl (ka hô rfl rfl) rfl rfl rfl) rfl rfl ?_
                    refine RunE.go0 [3391] (fun ô hô => Ev.loadCell X rfl (ka hô rfl rfl) rfl rfl rfl rfl) rfl rfl ?_
                    refine RunE.go0 [] (fun ô hô => Ev.move rfl rfl) rfl rfl ?_
                    obtain ⟨x56, e57, h⟩ := bdS h
                    refine RunE.go0 [] (fun ô hô => Ev.e_rd X e57 rfl rfl rfl rfl) rfl rfl ?_
                    refine RunE.go0 [] (fun ô hô => Ev.load X rfl rfl rfl) rfl rfl ?_
                    obtain ⟨x58, e59, h⟩ := bdS h
                    refine RunE.go0 [] (fun ô hô => Ev.callC en4 (k_triviumref22_CleanRule e59) rfl (.cons .v .nil) rfl rfl) rfl rfl ?_
                    refine RunE.go0 [3693] (fun ô hô => Ev.firmNew (by exact ka hô rfl rfl) rfl (Ev.build X 3693 rfl rfl rfl rfl rfl (ka hô rfl rfl) rfl rfl)) rfl rfl ?_
                    obtain ⟨x60, e61, h⟩ := bdS h
                    refine RunE.go2 [3660, 3694] (fun ô hô => Ev.e_ap X 3694 e61 rfl (ka hô rfl rfl) rfl .v rfl rfl rfl (ka hô rfl rfl) rfl) rfl rfl ?_
                    refine RunE.go0 [3392] (fun ô hô => Ev.fieldBox X rfl (ka hô rfl rfl) rfl rfl rfl) rfl rfl ?_
                    refine RunE.do1 [3392, 3694] (fun ô hô => Ev.storeC sz45 rfl (ka hô rfl rfl) rfl (sp_own (ka hô rfl rfl)) rfl rfl) rfl rfl ?_
                    refine RunE.nil ?_
                    refine T.region ?_
                    refine Run.go (Ev.move rfl rfl) ?_
                    refine Run.go (Ev.int rfl rfl rfl rfl trivial) ?_
                    refine Run.go (Ev.assign rfl rfl) ?_
                    refine Run.nil ?_
                    cases h
                    exact LoopT.ghost (Ghost.only [(2467, 2467), (3391, 3391), (3392, 3392), (3407, 3407), (3508, 3508), (3694, 3660)] [0, 3, 4, 5, 6, 10] rfl) hz2
                  · replace h := ifF hb55 h
                    refine T.exit ?_
                    cases h
                    cases hz2
                    exact ⟨(), trivial, Ghost.only [(2467, 2467), (3392, 3392), (3407, 3407), (3508, 3508), (3660, 3606)] [0, 3, 4, 6] rfl⟩
              · refine T.region ?_
                refine Run.go (Ev.move rfl rfl) ?_
                refine Run.go (Ev.loadStn sz47 rfl rfl rfl rfl) ?_
                refine Run.ghost (Ghost.firmAll (id := 3407) rfl) ?_
                refine Run.ghost (Ghost.firmAll (id := 3508) rfl) ?_
                refine Run.ghost (Ghost.firmAll (id := 3606) rfl) ?_
                refine Run.ghost (Ghost.stv (t := 128) (τ := Y_api_Net) (y := ((x10, v12, v32, v50) : D_api_Net)) rfl rfl rfl) ?_
                refine Run.go (Ev.build X 3695 rfl rfl rfl rfl rfl rfl rfl rfl) ?_
                obtain ⟨x62, e63, h⟩ := bdS h
                refine Run.go (Ev.e_ap X 3696 e63 rfl rfl rfl (.own rfl) rfl rfl rfl rfl rfl) ?_
                refine Run.go (Ev.assign rfl rfl) ?_
                refine Run.nil ?_
                cases h
                exact ⟨(), trivial, Ghost.only [(3696, 3389)] [0, 3, 4] rfl⟩
        · refine T.region ?_
          refine Run.go (Ev.move rfl rfl) ?_
          refine Run.go (Ev.int rfl rfl rfl rfl trivial) ?_
          refine Run.go (Ev.assign rfl rfl) ?_
          refine Run.nil ?_
          cases h
          exact LoopT.ghost (Ghost.only [(3389, 2467)] [0, 3, 4] rfl) hz1
      · replace h := ifF hb6 h
        refine T.exit ?_
        cases h
        cases hz1
        exact ⟨(), trivial, Ghost.only [(2467, 621)] [3] rfl⟩
  · refine T.seq ?_
    refine T.region ?_
    refine Run.go (Ev.move rfl rfl) ?_
    refine Run.go (Ev.assign rfl rfl) ?_
    refine Run.nil ?_
    refine T.ret ?_
    cases h
    exact Fin.one rfl (.own rfl)
theorem en19 : Enters Tryz.prog 19 := ⟨_, Tryz.func19, rfl, rfl⟩
theorem k_canon_words {p0 : (List ByteArray)} {y : ByteArray} (h : m_canon_words p0 = some y) : Spec Tryz.prog 19 [(.v (.sl .str) p0)] (.v .str y) [] := by
  rw [m_canon_words] at h
  refine enterN [(.v (.sl .str) p0)] 5 Tryz.func19 rfl rfl rfl ?_
  refine T.seq ?_
  refine T.region ?_
  refine Run.go (Ev.assign rfl rfl) ?_
  refine Run.nil ?_
  refine T.seq ?_
  refine T.region ?_
  refine Run.go (Ev.move rfl rfl) ?_
  obtain ⟨x1, e2, h⟩ := bdS h
  refine Run.go (Ev.callC en12 (k_strings_Join e2) rfl (.cons .v (.cons .v .nil)) rfl rfl) ?_
  refine Run.go (Ev.assign rfl rfl) ?_
  refine Run.nil ?_
  refine T.ret ?_
  cases h
  exact Fin.one rfl .v
theorem k_strings_Builder_copyCheck_M {o1_0 : Bool} {o2 : (List Int)} {y : Bool} (h : m_strings_Builder_copyCheck_M o1_0 o2 = some y) : SpecM Tryz.prog 49 [(.box 1 0)] [(1, .box [.pn o1_0 1 0 77, .owz 2]), (2, .arr 5 (.int .u8) o2)] (.tup []) [(1, .box [.pn y 1 0 77, .owz 2]), (2, .arr 5 (.int .u8) o2)] := by
  rw [m_strings_Builder_copyCheck_M] at h
  refine SpecM.enter 100000 [(.box 1 0)] 20 Tryz.func49 rfl rfl rfl rfl (fun L => ?_)
  refine T.seq ?_
  refine T.region ?_
  refine Run.go (Ev.move rfl rfl) ?_
  refine Run.go (Ev.e_nc rfl rfl rfl rfl) ?_
  refine Run.go (Ev.fieldBoxN fo77_0 sz74 rfl rfl rfl rfl) ?_
  refine Run.go (Ev.loadOne sz74 rfl rfl rfl rfl) ?_
  refine Run.go (Ev.e_pnil pt74 (.inl ⟨rfl, rfl⟩) rfl (.pn rfl) rfl rfl) ?_
  refine Run.nil ?_
  refine T.cond rfl (fun hb1 => ?_) (fun hb1 => ?_)
  · replace h := ifT hb1 h
    refine T.region ?_
    refine Run.go (Ev.move rfl rfl) ?_
    refine Run.go (Ev.move rfl rfl) ?_
    refine Run.go (Ev.e_toU up74_119 rfl rfl rfl rfl) ?_
    refine Run.go (Ev.e_noesc ne63 rfl rfl rfl) ?_
    refine Run.go (Ev.e_fromU ul119_74_77_2 rfl rfl rfl) ?_
    refine Run.go (Ev.e_nc rfl rfl rfl rfl) ?_
    refine Run.go (Ev.fieldBoxN fo77_0 sz74 rfl rfl rfl rfl) ?_
    refine Run.do_ (Ev.e_stPn sz74 rfl rfl rfl) ?_
    refine Run.nil ?_
    cases h
    exact FinM.of 100000 [(1, 1), (2, 2)] (inlR.many' (X := X) rfl .nil rfl) rfl rfl rfl rfl ⟨(.inl ⟨rfl, _, rfl, .box, fun _ => rfl⟩), (.inl ⟨rfl, _, rfl, .refl, fun _ => rfl⟩), trivial⟩
  · replace h := ifF hb1 h
    refine T.seq ?_
    refine T.region ?_
    refine Run.go (Ev.move rfl rfl) ?_
    refine Run.go (Ev.e_nc rfl rfl rfl rfl) ?_
    refine Run.go (Ev.fieldBoxN fo77_0 sz74 rfl rfl rfl rfl) ?_
    refine Run.go (Ev.loadOne sz74 rfl rfl rfl rfl) ?_
    refine Run.go (Ev.move rfl rfl) ?_
    refine Run.go (Ev.e_pself pt74 (.inr ⟨rfl, rfl⟩) rfl rfl rfl rfl) ?_
    refine Run.nil ?_
    refine T.condF rfl hb1 ?_
    refine T.skip ?_
    cases h
    exact FinM.of 100000 [(1, 1), (2, 2)] (inlR.many' (X := X) rfl .nil rfl) rfl rfl rfl rfl ⟨(.inl ⟨rfl, _, rfl, .box, fun _ => rfl⟩), (.inl ⟨rfl, _, rfl, .refl, fun _ => rfl⟩), trivial⟩
end Go.Proofs.YtkjlcghikagdlaaGreatDoor.AE
/- The code comes to the printed functions (printed by a program of ours). -/
namespace Go.Proofs.YtkjlcghikagdlaaGreatDoor.AE
open Go Go.RowKit Go.Proofs.YtkjlcghikagdlaaGreatDoor.AP
set_option linter.unusedVariables false
set_option maxRecDepth 20000
theorem k_strings_Builder_WriteString_M {p1 : ByteArray} {o1_0 : Bool} {o2 : (List Int)} {y : Bool × (List Int)} (h : m_strings_Builder_WriteString_M p1 o1_0 o2 = some y) : SpecM Tryz.prog 25 [(.box 1 0), (.v .str p1)] [(1, .box [.pn o1_0 1 0 77, .owz 2]), (2, .arr 5 (.int .u8) o2)] (.tup [.v (.int .i64) ((p1.size : Int) : Int), .bot]) [(1, .box [.pn y.1 1 0 77, .owz 4]), (2, .dead), (4, .arr 5 (.int .u8) y.2)] := by
  rw [m_strings_Builder_WriteString_M] at h
  refine SpecM.enter 100000 [(.box 1 0), (.v .str p1)] 19 Tryz.func25 rfl rfl rfl rfl (fun L => ?_)
  refine T.seq ?_
  refine T.region ?_
  refine Run.go (Ev.assign rfl rfl) ?_
  refine Run.go (Ev.assign rfl rfl) ?_
  refine Run.nil ?_
  refine T.seq ?_
  refine T.region ?_
  refine Run.go (Ev.move rfl rfl) ?_
  obtain ⟨x2, e1, h⟩ := bdS h
  refine Run.go (Ev.w2 (Ev.lendM [(1, 1), (2, 2)] [(1, 1), (2, 2)] en49 (k_strings_Builder_copyCheck_M e1) rfl (.cons (.ren rfl) .nil) rfl rfl rfl rfl rfl (A := .tup []) rfl (W := [(1, .box [.pn x2 1 0 77, .owz 2]), (2, .arr 5 (.int .u8) o2)]) rfl rfl)) ?_
  refine Run.nil ?_
  refine T.seq ?_
  refine T.region ?_
  refine Run.go (Ev.move rfl rfl) ?_
  refine Run.go (Ev.move rfl rfl) ?_
  refine Run.go (Ev.e_nc rfl rfl rfl rfl) ?_
  refine Run.go (Ev.fieldBoxN fo77_1 sz75 rfl rfl rfl rfl) ?_
  refine Run.go (Ev.loadCell X rfl rfl rfl rfl rfl rfl) ?_
  refine Run.go (Ev.move rfl rfl) ?_
  obtain ⟨x3, e4, h⟩ := bdS h
  refine Run.go (Ev.e_apZ X 6 e4 rfl rfl rfl rfl rfl rfl rfl rfl) ?_
  refine Run.go (Ev.e_nc rfl rfl rfl rfl) ?_
  refine Run.go (Ev.fieldBoxN fo77_1 sz75 rfl rfl rfl rfl) ?_
  refine Run.do_ (Ev.storeC sz75 rfl rfl rfl rfl rfl rfl) ?_
  refine Run.nil ?_
  refine T.seq ?_
  refine T.region ?_
  refine Run.go (Ev.move rfl rfl) ?_
  refine Run.go (Ev.len X rfl rfl rfl rfl) ?_
  refine Run.go (Ev.assign rfl rfl) ?_
  refine Run.go (Ev.assign rfl rfl) ?_
  refine Run.nil ?_
  refine T.ret ?_
  cases h
  exact FinM.of 100000 [(1, 1), (900002, 2), (6, 4)] (inlR.many' (X := X) rfl (.cons (.tmp rfl) (.cons .bot .nil)) rfl) rfl rfl rfl rfl ⟨(.inl ⟨rfl, _, rfl, .box, fun _ => rfl⟩), (.inr rfl), trivial⟩
theorem en61 : Enters Tryz.prog 61 := ⟨_, Tryz.func61, rfl, rfl⟩
theorem k_addr_Mask {p0 : Int} {y : Int} (h : m_addr_Mask p0 = some y) : Spec Tryz.prog 61 [(.v (.int .i64) p0)] (.v (.int .u32) y) [] := by
  rw [m_addr_Mask] at h
  refine enterN [(.v (.int .i64) p0)] 10 Tryz.func61 rfl rfl rfl ?_
  refine T.seq ?_
  refine T.region ?_
  refine Run.go (Ev.assign rfl rfl) ?_
  refine Run.nil ?_
  refine T.seq ?_
  refine T.region ?_
  refine Run.go (Ev.move rfl rfl) ?_
  refine Run.go (Ev.max rfl rfl rfl) ?_
  refine Run.go (Ev.min rfl rfl rfl) ?_
  refine Run.go (Ev.assign rfl rfl) ?_
  refine Run.nil ?_
  refine T.seq ?_
  refine T.region ?_
  refine Run.go (Ev.move rfl rfl) ?_
  refine Run.go (Ev.int rfl rfl rfl rfl trivial) ?_
  obtain ⟨x1, e2, h⟩ := bdS h
  refine Run.go (Ev.e_sh e2 rfl rfl rfl) ?_
  refine Run.go (Ev.conv X rfl rfl rfl rfl) ?_
  refine Run.go (Ev.assign rfl rfl) ?_
  refine Run.nil ?_
  refine T.ret ?_
  cases h
  exact Fin.one rfl .v
theorem en44 : Enters Tryz.prog 44 := ⟨_, Tryz.func44, rfl, rfl⟩
theorem k_addr_May {p0 : D_api_Prefix} {y : Bool} (h : m_addr_May p0 = some y) : Spec Tryz.prog 44 [(.v Y_api_Prefix p0)] (.v .bool y) [] := by
  rw [m_addr_May] at h
  refine enterN [(.v Y_api_Prefix p0)] 20 Tryz.func44 rfl rfl rfl ?_
  refine T.seq ?_
  refine T.region ?_
  refine Run.go (Ev.box 1 rfl rfl rfl rfl) ?_
  refine Run.go (Ev.assign rfl rfl) ?_
  refine Run.nil ?_
  refine T.seq ?_
  refine T.drawM [] [0, 1, 3, 7, 15, 31, 63, 127, 255, 511, 1023, 511, 2559, 6655, 16383, 32767, 65535, 131071] (by kernel_rfl) (by kernel_rfl) ?_
  refine RunD.a rfl rfl (Ev.fieldBox X rfl rfl rfl rfl rfl) ?_
  refine RunD.a rfl rfl (Ev.loadCell X rfl rfl rfl rfl rfl rfl) ?_
  refine RunD.w (fun _ => Ev.int rfl rfl rfl rfl trivial) ?_
  refine RunD.w (fun _ => Ev.move rfl rfl) ?_
  rcases boolCases (decide (0 ≤ p0.2)) with hb1 | hb1
  · replace h := ifT hb1 h
    refine RunD.on rfl rfl rfl hb1 rfl (fun ô hô => by obtain rfl := hô.resolve_left (by decide); exact Ev.fieldBox X rfl rfl rfl rfl rfl) ?_
    refine RunD.on rfl rfl rfl hb1 rfl (fun ô hô => by obtain rfl := hô.resolve_left (by decide); exact Ev.loadCell X rfl rfl rfl rfl rfl rfl) ?_
    refine RunD.on rfl rfl rfl hb1 rfl (fun _ _ => Ev.int rfl rfl rfl rfl trivial) ?_
    refine RunD.w (fun _ => Ev.pickT rfl hb1 rfl rfl) ?_
    refine RunD.w (fun _ => Ev.move rfl rfl) ?_
    rcases boolCases (decide (p0.2 ≤ 32)) with hb2 | hb2
    · replace h := ifT hb2 h
      refine RunD.on rfl rfl rfl hb2 rfl (fun ô hô => by obtain rfl := hô.resolve_left (by decide); exact Ev.fieldBox X rfl rfl rfl rfl rfl) ?_
      refine RunD.on rfl rfl rfl hb2 rfl (fun ô hô => by obtain rfl := hô.resolve_left (by decide); exact Ev.loadCell X rfl rfl rfl rfl rfl rfl) ?_
      refine RunD.on rfl rfl rfl hb2 rfl (fun ô hô => by obtain rfl := hô.resolve_left (by decide); exact Ev.fieldBox X rfl rfl rfl rfl rfl) ?_
      refine RunD.on rfl rfl rfl hb2 rfl (fun ô hô => by obtain rfl := hô.resolve_left (by decide); exact Ev.loadCell X rfl rfl rfl rfl rfl rfl) ?_
      obtain ⟨x3, e4, h⟩ := bdS h
      refine RunD.on rfl rfl rfl hb2 rfl (fun ô hô => by obtain rfl := hô.resolve_left (by decide); exact Ev.callC en61 (k_addr_Mask e4) rfl (.cons .v .nil) rfl rfl) ?_
      refine RunD.on rfl rfl rfl hb2 rfl (fun _ _ => Ev.int rfl rfl rfl rfl trivial) ?_
      refine RunD.on rfl rfl rfl hb2 rfl (fun _ _ => Ev.int rfl rfl rfl rfl trivial) ?_
      refine RunD.w (fun _ => Ev.pickT rfl hb2 rfl rfl) ?_
      obtain ⟨x5, e6, h⟩ := ltS h
      refine RunD.w (fun _ => Ev.avs (Ev.assign rfl rfl) e6) ?_
      refine RunD.nil ?_
      refine T.ret ?_
      cases h
      exact Fin.one rfl .v
    · replace h := ifF hb2 h
      refine RunD.offT rfl rfl rfl rfl hb2 ?_
      refine RunD.offT rfl rfl rfl rfl hb2 ?_
      refine RunD.offT rfl rfl rfl rfl hb2 ?_
      refine RunD.offT rfl rfl rfl rfl hb2 ?_
      refine RunD.offT rfl rfl rfl rfl hb2 ?_
      refine RunD.offT rfl rfl rfl rfl hb2 ?_
      refine RunD.offT rfl rfl rfl rfl hb2 ?_
      refine RunD.w (fun _ => Ev.pickF rfl hb2 rfl rfl) ?_
      refine RunD.w (fun _ => Ev.assign rfl rfl) ?_
      refine RunD.nil ?_
      refine T.ret ?_
      cases h
      exact Fin.one rfl .v
  · replace h := ifF hb1 h
    refine RunD.offT rfl rfl rfl rfl hb1 ?_
    refine RunD.offT rfl rfl rfl rfl hb1 ?_
    refine RunD.offT rfl rfl rfl rfl hb1 ?_
    refine RunD.w (fun _ => Ev.pickF rfl hb1 rfl rfl) ?_
    refine RunD.w (fun _ => Ev.move rfl rfl) ?_
    refine RunD.offT rfl rfl rfl rfl rfl ?_
    refine RunD.offT rfl rfl rfl rfl rfl ?_
    refine RunD.offT rfl rfl rfl rfl rfl ?_
    refine RunD.offT rfl rfl rfl rfl rfl ?_
    refine RunD.offT rfl rfl rfl rfl rfl ?_
    refine RunD.offT rfl rfl rfl rfl rfl ?_
    refine RunD.offT rfl rfl rfl rfl rfl ?_
    refine RunD.w (fun _ => Ev.pickF rfl rfl rfl rfl) ?_
    refine RunD.w (fun _ => Ev.assign rfl rfl) ?_
    refine RunD.nil ?_
    refine T.ret ?_
    cases h
    exact Fin.one rfl .v
theorem en45 : Enters Tryz.prog 45 := ⟨_, Tryz.func45, rfl, rfl⟩
theorem k_addr_Print {p0 : Int} {y : ByteArray} (h : m_addr_Print p0 = some y) : Spec Tryz.prog 45 [(.v (.int .u32) p0)] (.v .str y) [] := by
  rw [m_addr_Print] at h
  refine enterN [(.v (.int .u32) p0)] 25 Tryz.func45 rfl rfl rfl ?_
  refine T.seq ?_
  refine T.region ?_
  refine Run.go (Ev.assign rfl rfl) ?_
  refine Run.nil ?_
  refine T.seq ?_
  refine T.region ?_
  obtain ⟨x1, e2, h⟩ := bdS h
  refine Run.go (Ev.e_mk X 1 e2 rfl rfl rfl rfl rfl rfl) ?_
  refine Run.go (Ev.assign rfl rfl) ?_
  refine Run.nil ?_
  obtain ⟨v3, hv, h⟩ := bdS h
  refine T.cut (fun _ : Unit => (⟨[(3, .own 1)], [(1, .arr 9 .str v3)], 25⟩ : St)) (fun _ => True) ?_ (fun _ _ => ?_)
  · replace h := hv
    clear hv
    refine T.seq ?_
    refine T.region ?_
    refine Run.go (Ev.move rfl rfl) ?_
    refine Run.go (Ev.e_lenO X rfl rfl rfl rfl) ?_
    refine Run.go (Ev.move rfl rfl) ?_
    refine Run.nil ?_
    refine T.block ?_
    refine T.loop (LoopT.ghost (Ghost.only [(1, 1)] [0, 3, 7, 8] rfl) (LoopT.run (fun q : Int × (List ByteArray) => (⟨[(0, .v (.int .u32) p0), (3, .own 1), (7, .v (.int .i64) ((x1.length : Int) : Int)), (8, .v (.int .i64) q.1)], [(1, .arr 9 .str q.2)], 25⟩ : St)) (fun q z1 h hz1 => ?_) h))
    obtain ⟨v4, v5⟩ := q
    dsimp only
    rw [m_addr_Print_l1] at h
    refine T.seq ?_
    refine T.region ?_
    refine Run.go (Ev.int rfl rfl rfl rfl trivial) ?_
    refine Run.nil ?_
    refine T.seq ?_
    refine T.cond rfl (fun hb6 => ?_) (fun hb6 => ?_)
    · replace h := ifT hb6 h
      refine T.skip ?_
      refine T.seq ?_
      refine T.block ?_
      refine T.seq ?_
      refine T.region ?_
      refine Run.go (Ev.move rfl rfl) ?_
      refine Run.go (Ev.assign rfl rfl) ?_
      refine Run.nil ?_
      refine T.region ?_
      refine Run.go (Ev.move rfl rfl) ?_
      refine Run.go (Ev.move rfl rfl) ?_
      refine Run.go (Ev.move rfl rfl) ?_
      refine Run.go (Ev.move rfl rfl) ?_
      refine Run.go (Ev.int rfl rfl rfl rfl trivial) ?_
      refine Run.go (Ev.int rfl rfl rfl rfl trivial) ?_
      obtain ⟨x7, e8, h⟩ := bdS h
      refine Run.go (Ev.e_sr e8 rfl rfl rfl) ?_
      refine Run.go (Ev.int rfl rfl rfl rfl trivial) ?_
      refine Run.go (Ev.conv X rfl rfl rfl rfl) ?_
      obtain ⟨x9, e10, h⟩ := bdS h
      refine Run.go (Ev.callC en46 (k_strconv_Itoa e10) rfl (.cons .v .nil) rfl rfl) ?_
      obtain ⟨j11, e12, h⟩ := bdS h
      refine Run.go (Ev.e_ixO X e12 rfl rfl rfl rfl rfl) ?_
      obtain ⟨x13, e14, h⟩ := ltS h
      refine Run.do_ (Ev.asO (Ev.storeEl X rfl rfl rfl rfl rfl) e14) ?_
      refine Run.nil ?_
      refine T.region ?_
      refine Run.go (Ev.int rfl rfl rfl rfl trivial) ?_
      refine Run.go (Ev.move rfl rfl) ?_
      refine Run.nil ?_
      cases h
      exact LoopT.ghost (Ghost.only [(1, 1)] [0, 3, 7, 8] rfl) hz1
    · replace h := ifF hb6 h
      refine T.exit ?_
      cases h
      cases hz1
      exact ⟨(), trivial, Ghost.only [(1, 1)] [3] rfl⟩
  · refine T.seq ?_
    refine T.region ?_
    refine Run.go (Ev.move rfl rfl) ?_
    obtain ⟨x15, e16, h⟩ := bdS h
    refine Run.go (Ev.lend rfl (.cons (.own rfl) (.cons .v .nil)) en12 (k_strings_Join e16) rfl rfl) ?_
    refine Run.go (Ev.assign rfl rfl) ?_
    refine Run.nil ?_
    refine T.ret ?_
    cases h
    exact Fin.one rfl .v
theorem en20 : Enters Tryz.prog 20 := ⟨_, Tryz.func20, rfl, rfl⟩
theorem k_addr_Text {p0 : D_api_Prefix} {y : ByteArray} (h : m_addr_Text p0 = some y) : Spec Tryz.prog 20 [(.v Y_api_Prefix p0)] (.v .str y) [] := by
  rw [m_addr_Text] at h
  refine enterN [(.v Y_api_Prefix p0)] 14 Tryz.func20 rfl rfl rfl ?_
  refine T.seq ?_
  refine T.region ?_
  refine Run.go (Ev.box 1 rfl rfl rfl rfl) ?_
  refine Run.go (Ev.assign rfl rfl) ?_
  refine Run.nil ?_
  refine T.seq ?_
  refine T.seq ?_
  refine T.region ?_
  refine Run.go (Ev.loadBox X rfl rfl rfl rfl rfl) ?_
  obtain ⟨x1, e2, h⟩ := bdS h
  refine Run.go (Ev.callC en44 (k_addr_May e2) rfl (.cons .v .nil) rfl rfl) ?_
  refine Run.go (Ev.not rfl rfl) ?_
  refine Run.nil ?_
  refine T.cond rfl (fun hb3 => ?_) (fun hb3 => ?_)
  · replace h := ifT hb3 h
    refine T.seq ?_
    refine T.region ?_
    refine Run.go (Ev.assign rfl rfl) ?_
    refine Run.nil ?_
    refine T.ret ?_
    cases h
    exact Fin.one rfl .v
  · replace h := ifF hb3 h
    refine T.skip ?_
    refine T.seq ?_
    refine T.drawM [] [0, 1, 3, 7, 0, 16, 55, 127, 255] (by kernel_rfl) (by kernel_rfl) ?_
    refine RunD.a rfl rfl (Ev.fieldBox X rfl rfl rfl rfl rfl) ?_
    refine RunD.a rfl rfl (Ev.loadCell X rfl rfl rfl rfl rfl rfl) ?_
    obtain ⟨x4, e5, h⟩ := bdS h
    refine RunD.a rfl rfl (Ev.callC en45 (k_addr_Print e5) rfl (.cons .v .nil) rfl rfl) ?_
    obtain ⟨x6, e7, h⟩ := bdS h
    refine RunD.w (fun _ => Ev.e_cat e7 rfl rfl rfl) ?_
    refine RunD.a rfl rfl (Ev.fieldBox X rfl rfl rfl rfl rfl) ?_
    refine RunD.a rfl rfl (Ev.loadCell X rfl rfl rfl rfl rfl rfl) ?_
    obtain ⟨x8, e9, h⟩ := bdS h
    refine RunD.a rfl rfl (Ev.callC en46 (k_strconv_Itoa e9) rfl (.cons .v .nil) rfl rfl) ?_
    obtain ⟨x10, e11, h⟩ := bdS h
    refine RunD.w (fun _ => Ev.e_cat e11 rfl rfl rfl) ?_
    refine RunD.w (fun _ => Ev.assign rfl rfl) ?_
    refine RunD.nil ?_
    refine T.ret ?_
    cases h
    exact Fin.one rfl .v
theorem en51 : Enters Tryz.prog 51 := ⟨_, Tryz.func51, rfl, rfl⟩
theorem k_canon_each_api_Prefix__addr_Text {p0 : (List D_api_Prefix)} {y : (List ByteArray)} (h : m_canon_each_api_Prefix__addr_Text p0 = some y) : Spec Tryz.prog 51 [(.v (.sl Y_api_Prefix) p0), (.fn 20 [])] (.v (.sl .str) y) [] := by
  rw [m_canon_each_api_Prefix__addr_Text] at h
  refine enterN [(.v (.sl Y_api_Prefix) p0), (.fn 20 [])] 26 Tryz.func51 rfl rfl rfl ?_
  refine T.seq ?_
  refine T.region ?_
  refine Run.go (Ev.assign rfl rfl) ?_
  refine Run.nil ?_
  refine T.seq ?_
  refine T.region ?_
  refine Run.go (Ev.move rfl rfl) ?_
  refine Run.go (Ev.len X rfl rfl rfl rfl) ?_
  obtain ⟨x1, e2, h⟩ := bdS h
  refine Run.go (Ev.e_mk X 1 e2 rfl rfl rfl rfl rfl rfl) ?_
  refine Run.go (Ev.assign rfl rfl) ?_
  refine Run.nil ?_
  obtain ⟨v3, hv, h⟩ := bdS h
  refine T.cut (fun _ : Unit => (⟨[(5, .own 1)], [(1, .arr 9 .str v3)], 26⟩ : St)) (fun _ => True) ?_ (fun _ _ => ?_)
  · replace h := hv
    clear hv
    refine T.seq ?_
    refine T.region ?_
    refine Run.go (Ev.move rfl rfl) ?_
    refine Run.go (Ev.len X rfl rfl rfl rfl) ?_
    refine Run.go (Ev.move rfl rfl) ?_
    refine Run.nil ?_
    refine T.block ?_
    refine T.loop (LoopT.ghost (Ghost.only [(1, 1)] [1, 5, 11, 12, 13] rfl) (LoopT.run (fun q : Int × (List ByteArray) => (⟨[(1, .fn 20 []), (5, .own 1), (11, .v (.sl Y_api_Prefix) p0), (12, .v (.int .i64) ((p0.length : Int) : Int)), (13, .v (.int .i64) q.1)], [(1, .arr 9 .str q.2)], 26⟩ : St)) (fun q z1 h hz1 => ?_) h))
    obtain ⟨v4, v5⟩ := q
    dsimp only
    rw [m_canon_each_api_Prefix__addr_Text_l1] at h
    refine T.seq ?_
    refine T.region ?_
    refine Run.go (Ev.int rfl rfl rfl rfl trivial) ?_
    refine Run.nil ?_
    refine T.seq ?_
    refine T.cond rfl (fun hb6 => ?_) (fun hb6 => ?_)
    · replace h := ifT hb6 h
      refine T.skip ?_
      refine T.seq ?_
      refine T.block ?_
      refine T.seq ?_
      refine T.region ?_
      refine Run.go (Ev.move rfl rfl) ?_
      obtain ⟨x7, e8, h⟩ := bdS h
      refine Run.go (Ev.e_rd X e8 rfl rfl rfl rfl) ?_
      refine Run.go (Ev.load X rfl rfl rfl) ?_
      refine Run.go (Ev.allocN X 14 rfl rfl rfl) ?_
      refine Run.go (Ev.assign rfl rfl) ?_
      refine Run.do_ (Ev.storeBox X rfl rfl rfl rfl rfl rfl rfl) ?_
      refine Run.nil ?_
      refine T.region ?_
      refine Run.go (Ev.move rfl rfl) ?_
      refine Run.go (Ev.move rfl rfl) ?_
      refine Run.go (Ev.move rfl rfl) ?_
      refine Run.go (Ev.loadBox X rfl rfl rfl rfl rfl) ?_
      obtain ⟨x9, e10, h⟩ := bdS h
      refine Run.go (Ev.callC en20 (k_addr_Text e10) rfl (.cons .v .nil) rfl rfl) ?_
      obtain ⟨j11, e12, h⟩ := bdS h
      refine Run.go (Ev.e_ixO X e12 rfl rfl rfl rfl rfl) ?_
      obtain ⟨x13, e14, h⟩ := ltS h
      refine Run.do_ (Ev.asO (Ev.storeEl X rfl rfl rfl rfl rfl) e14) ?_
      refine Run.nil ?_
      refine T.region ?_
      refine Run.go (Ev.int rfl rfl rfl rfl trivial) ?_
      refine Run.go (Ev.move rfl rfl) ?_
      refine Run.nil ?_
      cases h
      exact LoopT.ghost (Ghost.only [(1, 1)] [1, 5, 11, 12, 13] rfl) hz1
    · replace h := ifF hb6 h
      refine T.exit ?_
      cases h
      cases hz1
      exact ⟨(), trivial, Ghost.only [(1, 1)] [5] rfl⟩
  · refine T.seq ?_
    refine T.region ?_
    refine Run.go (Ev.move rfl rfl) ?_
    refine Run.go (Ev.assign rfl rfl) ?_
    refine Run.nil ?_
    refine T.ret ?_
    cases h
    exact Fin.one rfl (.own rfl)
theorem en28 : Enters Tryz.prog 28 := ⟨_, Tryz.func28, rfl, rfl⟩
theorem k_canon_node {p0 : D_api_Node} {y : ByteArray} (h : m_canon_node p0 = some y) : Spec Tryz.prog 28 [(.v Y_api_Node p0)] (.v .str y) [] := by
  rw [m_canon_node] at h
  refine enterN [(.v Y_api_Node p0)] 21 Tryz.func28 rfl rfl rfl ?_
  refine T.seq ?_
  refine T.region ?_
  refine Run.go (Ev.box 1 rfl rfl rfl rfl) ?_
  refine Run.go (Ev.assign rfl rfl) ?_
  refine Run.nil ?_
  refine T.seq ?_
  refine T.region ?_
  refine Run.go (Ev.fieldBox X rfl rfl rfl rfl rfl) ?_
  refine Run.go (Ev.loadCell X rfl rfl rfl rfl rfl rfl) ?_
  refine Run.go (Ev.build X 2 rfl rfl rfl rfl rfl rfl rfl rfl) ?_
  obtain ⟨x1, e2, h⟩ := bdS h
  refine Run.go (Ev.lend rfl (.cons (.own rfl) .nil) en19 (k_canon_words e2) rfl rfl) ?_
  refine Run.go (Ev.assign rfl rfl) ?_
  refine Run.nil ?_
  obtain ⟨v3, hv, h⟩ := bdS h
  refine T.cut (fun _ : Unit => (⟨[(3, .v .str v3)], [], 21⟩ : St)) (fun _ => True) ?_ (fun _ _ => ?_)
  · replace h := hv
    clear hv
    refine T.seq ?_
    refine T.region ?_
    refine Run.go (Ev.fieldBox X rfl rfl rfl rfl rfl) ?_
    refine Run.go (Ev.loadCell X rfl rfl rfl rfl rfl rfl) ?_
    refine Run.go (Ev.len X rfl rfl rfl rfl) ?_
    refine Run.go (Ev.int rfl rfl rfl rfl trivial) ?_
    refine Run.nil ?_
    refine T.cond rfl (fun hb4 => ?_) (fun hb4 => ?_)
    · replace h := ifT hb4 h
      refine T.region ?_
      refine Run.go (Ev.move rfl rfl) ?_
      refine Run.go (Ev.fieldBox X rfl rfl rfl rfl rfl) ?_
      refine Run.go (Ev.loadCell X rfl rfl rfl rfl rfl rfl) ?_
      obtain ⟨x5, e6, h⟩ := bdS h
      refine Run.go (Ev.callC en51 (k_canon_each_api_Prefix__addr_Text e6) rfl (.cons .v (.cons (.fn rfl) .nil)) rfl rfl) ?_
      obtain ⟨x7, e8, h⟩ := bdS h
      refine Run.go (Ev.callC en12 (k_strings_Join e8) rfl (.cons .v (.cons .v .nil)) rfl rfl) ?_
      refine Run.go (Ev.build X 4 rfl rfl rfl rfl rfl rfl rfl rfl) ?_
      obtain ⟨x9, e10, h⟩ := bdS h
      refine Run.go (Ev.lend rfl (.cons (.own rfl) .nil) en19 (k_canon_words e10) rfl rfl) ?_
      refine Run.go (Ev.assign rfl rfl) ?_
      refine Run.nil ?_
      cases h
      exact ⟨(), trivial, Ghost.only [] [3] rfl⟩
    · replace h := ifF hb4 h
      refine T.skip ?_
      cases h
      exact ⟨(), trivial, Ghost.only [] [3] rfl⟩
  · refine T.seq ?_
    refine T.region ?_
    refine Run.go (Ev.move rfl rfl) ?_
    obtain ⟨x11, e12, h⟩ := bdS h
    refine Run.go (Ev.e_cat e12 rfl rfl rfl) ?_
    refine Run.go (Ev.assign rfl rfl) ?_
    refine Run.nil ?_
    refine T.ret ?_
    cases h
    exact Fin.one rfl .v
theorem en27 : Enters Tryz.prog 27 := ⟨_, Tryz.func27, rfl, rfl⟩
theorem k_canon_each_api_Node__canon_node {p0 : (List D_api_Node)} {y : (List ByteArray)} (h : m_canon_each_api_Node__canon_node p0 = some y) : Spec Tryz.prog 27 [(.v (.sl Y_api_Node) p0), (.fn 28 [])] (.v (.sl .str) y) [] := by
  rw [m_canon_each_api_Node__canon_node] at h
  refine enterN [(.v (.sl Y_api_Node) p0), (.fn 28 [])] 26 Tryz.func27 rfl rfl rfl ?_
  refine T.seq ?_
  refine T.region ?_
  refine Run.go (Ev.assign rfl rfl) ?_
  refine Run.nil ?_
  refine T.seq ?_
  refine T.region ?_
  refine Run.go (Ev.move rfl rfl) ?_
  refine Run.go (Ev.len X rfl rfl rfl rfl) ?_
  obtain ⟨x1, e2, h⟩ := bdS h
  refine Run.go (Ev.e_mk X 1 e2 rfl rfl rfl rfl rfl rfl) ?_
  refine Run.go (Ev.assign rfl rfl) ?_
  refine Run.nil ?_
  obtain ⟨v3, hv, h⟩ := bdS h
  refine T.cut (fun _ : Unit => (⟨[(5, .own 1)], [(1, .arr 9 .str v3)], 26⟩ : St)) (fun _ => True) ?_ (fun _ _ => ?_)
  · replace h := hv
    clear hv
    refine T.seq ?_
    refine T.region ?_
    refine Run.go (Ev.move rfl rfl) ?_
    refine Run.go (Ev.len X rfl rfl rfl rfl) ?_
    refine Run.go (Ev.move rfl rfl) ?_
    refine Run.nil ?_
    refine T.block ?_
    refine T.loop (LoopT.ghost (Ghost.only [(1, 1)] [1, 5, 11, 12, 13] rfl) (LoopT.run (fun q : Int × (List ByteArray) => (⟨[(1, .fn 28 []), (5, .own 1), (11, .v (.sl Y_api_Node) p0), (12, .v (.int .i64) ((p0.length : Int) : Int)), (13, .v (.int .i64) q.1)], [(1, .arr 9 .str q.2)], 26⟩ : St)) (fun q z1 h hz1 => ?_) h))
    obtain ⟨v4, v5⟩ := q
    dsimp only
    rw [m_canon_each_api_Node__canon_node_l1] at h
    refine T.seq ?_
    refine T.region ?_
    refine Run.go (Ev.int rfl rfl rfl rfl trivial) ?_
    refine Run.nil ?_
    refine T.seq ?_
    refine T.cond rfl (fun hb6 => ?_) (fun hb6 => ?_)
    · replace h := ifT hb6 h
      refine T.skip ?_
      refine T.seq ?_
      refine T.block ?_
      refine T.seq ?_
      refine T.region ?_
      refine Run.go (Ev.move rfl rfl) ?_
      obtain ⟨x7, e8, h⟩ := bdS h
      refine Run.go (Ev.e_rd X e8 rfl rfl rfl rfl) ?_
      refine Run.go (Ev.load X rfl rfl rfl) ?_
      refine Run.go (Ev.allocN X 14 rfl rfl rfl) ?_
      refine Run.go (Ev.assign rfl rfl) ?_
      refine Run.do_ (Ev.storeBox X rfl rfl rfl rfl rfl rfl rfl) ?_
      refine Run.nil ?_
      refine T.region ?_
      refine Run.go (Ev.move rfl rfl) ?_
      refine Run.go (Ev.move rfl rfl) ?_
      refine Run.go (Ev.move rfl rfl) ?_
      refine Run.go (Ev.loadBox X rfl rfl rfl rfl rfl) ?_
      obtain ⟨x9, e10, h⟩ := bdS h
      refine Run.go (Ev.callC en28 (k_canon_node e10) rfl (.cons .v .nil) rfl rfl) ?_
      obtain ⟨j11, e12, h⟩ := bdS h
      refine Run.go (Ev.e_ixO X e12 rfl rfl rfl rfl rfl) ?_
      obtain ⟨x13, e14, h⟩ := ltS h
      refine Run.do_ (Ev.asO (Ev.storeEl X rfl rfl rfl rfl rfl) e14) ?_
      refine Run.nil ?_
      refine T.region ?_
      refine Run.go (Ev.int rfl rfl rfl rfl trivial) ?_
      refine Run.go (Ev.move rfl rfl) ?_
      refine Run.nil ?_
      cases h
      exact LoopT.ghost (Ghost.only [(1, 1)] [1, 5, 11, 12, 13] rfl) hz1
    · replace h := ifF hb6 h
      refine T.exit ?_
      cases h
      cases hz1
      exact ⟨(), trivial, Ghost.only [(1, 1)] [5] rfl⟩
  · refine T.seq ?_
    refine T.region ?_
    refine Run.go (Ev.move rfl rfl) ?_
    refine Run.go (Ev.assign rfl rfl) ?_
    refine Run.nil ?_
    refine T.ret ?_
    cases h
    exact Fin.one rfl (.own rfl)
theorem en78 : Enters Tryz.prog 78 := ⟨_, Tryz.func78, rfl, rfl⟩
theorem k_digits_based {p0 : Int} {y : Int} (h : m_digits_based p0 = some y) : Spec Tryz.prog 78 [(.v (.int .i64) p0)] (.v (.int .i64) y) [] := by
  rw [m_digits_based] at h
  refine enterN [(.v (.int .i64) p0)] 9 Tryz.func78 rfl rfl rfl ?_
  refine T.seq ?_
  refine T.region ?_
  refine Run.go (Ev.assign rfl rfl) ?_
  refine Run.nil ?_
  refine T.seq ?_
  obtain ⟨v1, hv, h⟩ := bdS h
  refine T.cut (fun _ : Unit => (⟨[(8, .v .bool v1)], [], 9⟩ : St)) (fun _ => True) ?_ (fun _ _ => ?_)
  · replace h := hv
    clear hv
    refine T.region ?_
    refine Run.go (Ev.move rfl rfl) ?_
    refine Run.go (Ev.int rfl rfl rfl rfl trivial) ?_
    refine Run.go (Ev.move rfl rfl) ?_
    rcases boolCases (decide (p0 < 2)) with hb2 | hb2
    · replace h := ifT hb2 h
      refine Run.offT rfl rfl rfl rfl hb2 ?_
      refine Run.offT rfl rfl rfl rfl hb2 ?_
      refine Run.go (Ev.pickT rfl hb2 rfl rfl) ?_
      refine Run.nil ?_
      cases h
      exact ⟨(), trivial, Ghost.only [] [8] rfl⟩
    · replace h := ifF hb2 h
      refine Run.on rfl rfl rfl hb2 (Ev.move rfl rfl) ?_
      refine Run.on rfl rfl rfl hb2 (Ev.int rfl rfl rfl rfl trivial) ?_
      refine Run.go (Ev.pickF rfl hb2 rfl rfl) ?_
      refine Run.nil ?_
      cases h
      exact ⟨(), trivial, Ghost.only [] [8] rfl⟩
  · refine T.cond rfl (fun hb3 => ?_) (fun hb3 => ?_)
    · replace h := ifT hb3 h
      refine T.seq ?_
      refine T.region ?_
      refine Run.go (Ev.assign rfl rfl) ?_
      refine Run.nil ?_
      refine T.ret ?_
      cases h
      exact Fin.one rfl .v
    · replace h := ifF hb3 h
      refine T.skip ?_
      refine T.seq ?_
      refine T.region ?_
      refine Run.go (Ev.assign rfl rfl) ?_
      refine Run.nil ?_
      refine T.ret ?_
      cases h
      exact Fin.one rfl .v
theorem en79 : Enters Tryz.prog 79 := ⟨_, Tryz.func79, rfl, rfl⟩
theorem k_digits_chunk {p0 : Int} {y : Int × Int} (h : m_digits_chunk p0 = some y) : Spec Tryz.prog 79 [(.v (.int .i64) p0)] (.tup [.v (.int .u64) y.1, .v (.int .i64) y.2]) [] := by
  rw [m_digits_chunk] at h
  refine enterN [(.v (.int .i64) p0)] 21 Tryz.func79 rfl rfl rfl ?_
  refine T.seq ?_
  refine T.region ?_
  refine Run.go (Ev.assign rfl rfl) ?_
  refine Run.go (Ev.assign rfl rfl) ?_
  refine Run.nil ?_
  refine T.seq ?_
  refine T.region ?_
  refine Run.go (Ev.move rfl rfl) ?_
  refine Run.go (Ev.conv X rfl rfl rfl rfl) ?_
  refine Run.go (Ev.assign rfl rfl) ?_
  refine Run.go (Ev.assign rfl rfl) ?_
  refine Run.nil ?_
  obtain ⟨⟨v1, v2⟩, hv, h⟩ := bdS h
  refine T.cut (fun _ : Unit => (⟨[(4, .v (.int .u64) v1), (5, .v (.int .i64) v2)], [], 21⟩ : St)) (fun _ => True) ?_ (fun _ _ => ?_)
  · replace h := hv
    clear hv
    refine T.block ?_
    refine T.loop (LoopT.ghost (Ghost.only [] [0, 4, 5] rfl) (LoopT.run (fun q : Int × Int => (⟨[(0, .v (.int .i64) p0), (4, .v (.int .u64) q.1), (5, .v (.int .i64) q.2)], [], 21⟩ : St)) (fun q z1 h hz1 => ?_) h))
    obtain ⟨v3, v4⟩ := q
    dsimp only
    rw [m_digits_chunk_l1] at h
    refine T.seq ?_
    refine T.seq ?_
    refine T.region ?_
    refine Run.go (Ev.move rfl rfl) ?_
    refine Run.go (Ev.move rfl rfl) ?_
    refine Run.go (Ev.conv X rfl rfl rfl rfl) ?_
    refine Run.go (Ev.int rfl rfl rfl rfl trivial) ?_
    refine Run.go (Ev.int rfl rfl rfl rfl trivial) ?_
    refine Run.nil ?_
    refine T.cond rfl (fun hb5 => ?_) (fun hb5 => ?_)
    · replace h := ifT hb5 h
      refine T.skip ?_
      refine T.block ?_
      refine T.seq ?_
      refine T.region ?_
      refine Run.go (Ev.move rfl rfl) ?_
      refine Run.go (Ev.move rfl rfl) ?_
      refine Run.go (Ev.conv X rfl rfl rfl rfl) ?_
      refine Run.go (Ev.int rfl rfl rfl rfl trivial) ?_
      refine Run.go (Ev.assign rfl rfl) ?_
      refine Run.nil ?_
      refine T.region ?_
      refine Run.go (Ev.move rfl rfl) ?_
      refine Run.go (Ev.int rfl rfl rfl rfl trivial) ?_
      refine Run.go (Ev.assign rfl rfl) ?_
      refine Run.nil ?_
      cases h
      exact LoopT.ghost (Ghost.only [] [0, 4, 5] rfl) hz1
    · replace h := ifF hb5 h
      refine T.exit ?_
      cases h
      cases hz1
      exact ⟨(), trivial, Ghost.only [] [4, 5] rfl⟩
  · refine T.seq ?_
    refine T.region ?_
    refine Run.go (Ev.move rfl rfl) ?_
    refine Run.go (Ev.move rfl rfl) ?_
    refine Run.go (Ev.assign rfl rfl) ?_
    refine Run.go (Ev.assign rfl rfl) ?_
    refine Run.nil ?_
    refine T.ret ?_
    cases h
    exact Fin.many X rfl (.cons (.tmp .v) (.cons (.tmp .v) .nil)) rfl
theorem en72 : Enters Tryz.prog 72 := ⟨_, Tryz.func72, rfl, rfl⟩
theorem k_nat_trim {p0 : (List Int)} {y : (List Int)} (h : m_nat_trim p0 = some y) : Spec Tryz.prog 72 [(.v (.sl (.int .u64)) p0)] (.v (.sl (.int .u64)) y) [] := by
  rw [m_nat_trim] at h
  refine enterN [(.v (.sl (.int .u64)) p0)] 21 Tryz.func72 rfl rfl rfl ?_
  refine T.seq ?_
  refine T.region ?_
  refine Run.go (Ev.assign rfl rfl) ?_
  refine Run.nil ?_
  refine T.seq ?_
  refine T.region ?_
  refine Run.go (Ev.move rfl rfl) ?_
  refine Run.go (Ev.len X rfl rfl rfl rfl) ?_
  refine Run.go (Ev.assign rfl rfl) ?_
  refine Run.nil ?_
  obtain ⟨v1, hv, h⟩ := bdS h
  refine T.cut (fun _ : Unit => (⟨[(0, .v (.sl (.int .u64)) p0), (3, .v (.int .i64) v1)], [], 21⟩ : St)) (fun _ => True) ?_ (fun _ _ => ?_)
  · replace h := hv
    clear hv
    refine T.block ?_
    refine T.loop (LoopT.ghost (Ghost.only [] [0, 3] rfl) (LoopT.run (fun q : Int => (⟨[(0, .v (.sl (.int .u64)) p0), (3, .v (.int .i64) q)], [], 21⟩ : St)) (fun v2 z1 h hz1 => ?_) h))
    rw [m_nat_trim_l1] at h
    refine T.seq ?_
    obtain ⟨v3, hv, h⟩ := bdS h
    refine T.cut (fun _ : Unit => (⟨[(0, .v (.sl (.int .u64)) p0), (3, .v (.int .i64) v2), (15, .v .bool v3)], [], 21⟩ : St)) (fun _ => True) ?_ (fun _ _ => ?_)
    · replace h := hv
      clear hv
      refine T.region ?_
      refine Run.go (Ev.move rfl rfl) ?_
      refine Run.go (Ev.int rfl rfl rfl rfl trivial) ?_
      refine Run.go (Ev.move rfl rfl) ?_
      rcases boolCases (decide (0 < v2)) with hb4 | hb4
      · replace h := ifT hb4 h
        refine Run.on rfl rfl rfl hb4 (Ev.move rfl rfl) ?_
        refine Run.on rfl rfl rfl hb4 (Ev.move rfl rfl) ?_
        refine Run.on rfl rfl rfl hb4 (Ev.int rfl rfl rfl rfl trivial) ?_
        obtain ⟨x5, e6, h⟩ := bdS h
        refine Run.on rfl rfl rfl hb4 (Ev.e_rd X e6 rfl rfl rfl rfl) ?_
        refine Run.on rfl rfl rfl hb4 (Ev.load X rfl rfl rfl) ?_
        refine Run.on rfl rfl rfl hb4 (Ev.int rfl rfl rfl rfl trivial) ?_
        refine Run.go (Ev.pickT rfl hb4 rfl rfl) ?_
        refine Run.nil ?_
        cases h
        exact ⟨(), trivial, Ghost.only [] [0, 3, 15] rfl⟩
      · replace h := ifF hb4 h
        refine Run.offT rfl rfl rfl rfl hb4 ?_
        refine Run.offT rfl rfl rfl rfl hb4 ?_
        refine Run.offT rfl rfl rfl rfl hb4 ?_
        refine Run.offT rfl rfl rfl rfl hb4 ?_
        refine Run.offT rfl rfl rfl rfl hb4 ?_
        refine Run.offT rfl rfl rfl rfl hb4 ?_
        refine Run.go (Ev.pickF rfl hb4 rfl rfl) ?_
        refine Run.nil ?_
        cases h
        exact ⟨(), trivial, Ghost.only [] [0, 3, 15] rfl⟩
    · refine T.cond rfl (fun hb7 => ?_) (fun hb7 => ?_)
      · replace h := ifT hb7 h
        refine T.skip ?_
        refine T.block ?_
        refine T.region ?_
        refine Run.go (Ev.move rfl rfl) ?_
        refine Run.go (Ev.int rfl rfl rfl rfl trivial) ?_
        refine Run.go (Ev.assign rfl rfl) ?_
        refine Run.nil ?_
        cases h
        exact LoopT.ghost (Ghost.only [] [0, 3] rfl) hz1
      · replace h := ifF hb7 h
        refine T.exit ?_
        cases h
        cases hz1
        exact ⟨(), trivial, Ghost.only [] [0, 3] rfl⟩
  · refine T.seq ?_
    refine T.region ?_
    refine Run.go (Ev.move rfl rfl) ?_
    refine Run.go (Ev.move rfl rfl) ?_
    obtain ⟨x8, e9, h⟩ := bdS h
    refine Run.go (Ev.e_ct X e9 rfl rfl rfl (fun _ h => by cases h) (fun _ => rfl) (fun _ _ => cutAt_of rfl) (fun h => by cases h)) ?_
    refine Run.go (Ev.assign rfl rfl) ?_
    refine Run.nil ?_
    refine T.ret ?_
    cases h
    exact Fin.one rfl .v
theorem en80 : Enters Tryz.prog 80 := ⟨_, Tryz.func80, rfl, rfl⟩
theorem k_nat_Make {p0 : (List Int)} {y : (List Int) × Int} (h : m_nat_Make p0 = some y) : Spec Tryz.prog 80 [(.v (.sl (.int .u64)) p0)] (.tup [.v (.sl (.int .u64)) y.1, .v (.int .i64) y.2]) [] := by
  rw [m_nat_Make] at h
  refine enterN [(.v (.sl (.int .u64)) p0)] 25 Tryz.func80 rfl rfl rfl ?_
  refine T.seq ?_
  refine T.region ?_
  refine Run.go (Ev.assign rfl rfl) ?_
  refine Run.go (Ev.assign rfl rfl) ?_
  refine Run.nil ?_
  refine T.seq ?_
  refine T.region ?_
  refine Run.go (Ev.move rfl rfl) ?_
  refine Run.go (Ev.len X rfl rfl rfl rfl) ?_
  obtain ⟨x1, e2, h⟩ := bdS h
  refine Run.go (Ev.e_mk X 1 e2 rfl rfl rfl rfl rfl rfl) ?_
  refine Run.go (Ev.assign rfl rfl) ?_
  refine Run.nil ?_
  refine T.seq ?_
  refine T.seq ?_
  refine T.region ?_
  refine Run.go (Ev.move rfl rfl) ?_
  refine Run.go (Ev.len X rfl rfl rfl rfl) ?_
  refine Run.go (Ev.move rfl rfl) ?_
  refine Run.nil ?_
  refine T.block ?_
  refine T.loop (LoopT.ghost (Ghost.only [(1, 5)] [4, 10, 11, 12] rfl) (LoopT.run (fun q : Int × (List Int) => (⟨[(4, .own 5), (10, .v (.sl (.int .u64)) p0), (11, .v (.int .i64) ((p0.length : Int) : Int)), (12, .v (.int .i64) q.1)], [(5, .arr 91 (.int .u64) q.2)], 25⟩ : St)) (fun q z1 h hz1 => ?_) h))
  obtain ⟨v3, v4⟩ := q
  dsimp only
  rw [m_nat_Make_l1] at h
  refine T.seq ?_
  refine T.region ?_
  refine Run.go (Ev.int rfl rfl rfl rfl trivial) ?_
  refine Run.nil ?_
  refine T.seq ?_
  refine T.cond rfl (fun hb5 => ?_) (fun hb5 => ?_)
  · replace h := ifT hb5 h
    refine T.skip ?_
    refine T.seq ?_
    refine T.block ?_
    refine T.seq ?_
    refine T.region ?_
    obtain ⟨x6, e7, h⟩ := bdS h
    refine Run.go (Ev.e_rd X e7 rfl rfl rfl rfl) ?_
    refine Run.go (Ev.load X rfl rfl rfl) ?_
    refine Run.go (Ev.assign rfl rfl) ?_
    refine Run.nil ?_
    refine T.seq ?_
    refine T.seq ?_
    refine T.region ?_
    refine Run.go (Ev.move rfl rfl) ?_
    refine Run.go (Ev.int rfl rfl rfl rfl trivial) ?_
    refine Run.nil ?_
    refine T.cond rfl (fun hb8 => ?_) (fun hb8 => ?_)
    · replace h := ifT hb8 h
      refine T.seq ?_
      refine T.region ?_
      refine Run.go (Ev.assign rfl rfl) ?_
      refine Run.go (Ev.assign rfl rfl) ?_
      refine Run.nil ?_
      refine T.ret ?_
      cases h
      cases hz1
      exact Fin.many X rfl (.cons (.tmp .nilv) (.cons (.tmp .v) .nil)) rfl
    · replace h := ifF hb8 h
      refine T.skip ?_
      refine T.region ?_
      refine Run.go (Ev.move rfl rfl) ?_
      refine Run.go (Ev.move rfl rfl) ?_
      refine Run.go (Ev.build X 9 rfl rfl rfl rfl rfl rfl rfl rfl) ?_
      obtain ⟨x9, e10, h⟩ := bdS h
      refine Run.go (Ev.e_ap X 10 e10 rfl rfl rfl (.own rfl) rfl rfl rfl rfl rfl) ?_
      refine Run.go (Ev.assign rfl rfl) ?_
      refine Run.nil ?_
      refine T.region ?_
      refine Run.go (Ev.int rfl rfl rfl rfl trivial) ?_
      refine Run.go (Ev.move rfl rfl) ?_
      refine Run.nil ?_
      cases h
      exact LoopT.ghost (Ghost.only [(10, 5)] [4, 10, 11, 12] rfl) hz1
  · replace h := ifF hb5 h
    refine T.exit ?_
    refine T.seq ?_
    refine T.region ?_
    refine Run.go (Ev.move rfl rfl) ?_
    refine Run.ghost (Ghost.firmAll (id := 5) rfl) ?_
    obtain ⟨x11, e12, h⟩ := bdS h
    refine Run.go (Ev.callC en72 (k_nat_trim e12) rfl (.cons .v .nil) rfl rfl) ?_
    refine Run.go (Ev.assign rfl rfl) ?_
    refine Run.go (Ev.assign rfl rfl) ?_
    refine Run.nil ?_
    refine T.ret ?_
    cases h
    cases hz1
    exact Fin.many X rfl (.cons (.tmp .v) (.cons (.tmp .v) .nil)) rfl
theorem en89 : Enters Tryz.prog 89 := ⟨_, Tryz.func89, rfl, rfl⟩
theorem k_limb_Div {p0 : Int} {p1 : Int} {p2 : Int} {y : Int × Int × Int} (h : m_limb_Div p0 p1 p2 = some y) : Spec Tryz.prog 89 [(.v (.int .u64) p0), (.v (.int .u64) p1), (.v (.int .u64) p2)] (.tup [.v (.int .u64) y.1, .v (.int .u64) y.2.1, .v (.int .i64) y.2.2]) [] := by
  rw [m_limb_Div] at h
  refine enterN [(.v (.int .u64) p0), (.v (.int .u64) p1), (.v (.int .u64) p2)] 33 Tryz.func89 rfl rfl rfl ?_
  refine T.seq ?_
  refine T.region ?_
  refine Run.go (Ev.assign rfl rfl) ?_
  refine Run.go (Ev.assign rfl rfl) ?_
  refine Run.go (Ev.assign rfl rfl) ?_
  refine Run.nil ?_
  refine T.seq ?_
  refine T.region ?_
  refine Run.go (Ev.move rfl rfl) ?_
  refine Run.go (Ev.int rfl rfl rfl rfl trivial) ?_
  refine Run.go (Ev.move rfl rfl) ?_
  refine Run.go (Ev.int rfl rfl rfl rfl trivial) ?_
  refine Run.go (Ev.move rfl rfl) ?_
  refine Run.go (Ev.int rfl rfl rfl rfl trivial) ?_
  refine Run.go (Ev.assign rfl rfl) ?_
  refine Run.go (Ev.assign rfl rfl) ?_
  refine Run.go (Ev.assign rfl rfl) ?_
  refine Run.nil ?_
  refine T.seq ?_
  refine T.block ?_
  refine T.seq ?_
  refine T.region ?_
  refine Run.go (Ev.move rfl rfl) ?_
  refine Run.go (Ev.int rfl rfl rfl rfl trivial) ?_
  obtain ⟨x1, e2, h⟩ := ltS h
  refine Run.go (Ev.avs (Ev.assign rfl rfl) e2) ?_
  refine Run.nil ?_
  refine T.cond rfl (fun hb3 => ?_) (fun hb3 => ?_)
  · replace h := ifT hb3 h
    refine T.seq ?_
    refine T.region ?_
    refine Run.go (Ev.assign rfl rfl) ?_
    refine Run.go (Ev.assign rfl rfl) ?_
    refine Run.go (Ev.assign rfl rfl) ?_
    refine Run.nil ?_
    refine T.ret ?_
    cases h
    exact Fin.many X rfl (.cons (.tmp .v) (.cons (.tmp .v) (.cons (.tmp .v) .nil))) rfl
  · replace h := ifF hb3 h
    refine T.seq ?_
    refine T.region ?_
    refine Run.go (Ev.move rfl rfl) ?_
    refine Run.go (Ev.move rfl rfl) ?_
    refine Run.go (Ev.int rfl rfl rfl rfl trivial) ?_
    obtain ⟨x4, e5, h⟩ := ltS h
    refine Run.go (Ev.avs (Ev.assign rfl rfl) e5) ?_
    refine Run.nil ?_
    refine T.cond rfl (fun hb6 => ?_) (fun hb6 => ?_)
    · replace h := ifT hb6 h
      refine T.seq ?_
      refine T.region ?_
      refine Run.go (Ev.assign rfl rfl) ?_
      refine Run.go (Ev.assign rfl rfl) ?_
      refine Run.go (Ev.assign rfl rfl) ?_
      refine Run.nil ?_
      refine T.ret ?_
      cases h
      exact Fin.many X rfl (.cons (.tmp .v) (.cons (.tmp .v) (.cons (.tmp .v) .nil))) rfl
    · replace h := ifF hb6 h
      refine T.skip ?_
      refine T.seq ?_
      refine T.region ?_
      refine Run.go (Ev.move rfl rfl) ?_
      obtain ⟨x7, e8, h⟩ := bdS h
      refine Run.go (Ev.e_sh e8 rfl rfl rfl) ?_
      refine Run.go (Ev.move rfl rfl) ?_
      refine Run.go (Ev.int rfl rfl rfl rfl trivial) ?_
      obtain ⟨x9, e10, h⟩ := ltS h
      refine Run.go (Ev.avs (Ev.assign rfl rfl) e10) ?_
      refine Run.nil ?_
      refine T.seq ?_
      refine T.drawM [] [0, 0, 3, 0, 0, 24, 7, 127, 255] (by kernel_rfl) (by kernel_rfl) ?_
      refine RunD.w (fun _ => Ev.move rfl rfl) ?_
      refine RunD.w (fun _ => Ev.move rfl rfl) ?_
      obtain ⟨x11, e12, h⟩ := bdS h
      refine RunD.w (fun _ => Ev.e_qd e12 rfl rfl rfl) ?_
      refine RunD.w (fun _ => Ev.move rfl rfl) ?_
      refine RunD.w (fun _ => Ev.move rfl rfl) ?_
      obtain ⟨x13, e14, h⟩ := bdS h
      refine RunD.w (fun _ => Ev.e_rm e14 rfl rfl rfl) ?_
      refine RunD.w (fun _ => Ev.assign rfl rfl) ?_
      refine RunD.w (fun _ => Ev.assign rfl rfl) ?_
      refine RunD.w (fun _ => Ev.assign rfl rfl) ?_
      refine RunD.nil ?_
      refine T.ret ?_
      cases h
      exact Fin.many X rfl (.cons (.tmp .v) (.cons (.tmp .v) (.cons (.tmp .v) .nil))) rfl
theorem en81 : Enters Tryz.prog 81 := ⟨_, Tryz.func81, rfl, rfl⟩
theorem k_divide_Small {p0 : (List Int)} {p1 : Int} {y : (List Int) × Int × Int} (h : m_divide_Small p0 p1 = some y) : Spec Tryz.prog 81 [(.v (.sl (.int .u64)) p0), (.v (.int .u64) p1)] (.tup [.v (.sl (.int .u64)) y.1, .v (.int .u64) y.2.1, .v (.int .i64) y.2.2]) [] := by
  rw [m_divide_Small] at h
  refine enterN [(.v (.sl (.int .u64)) p0), (.v (.int .u64) p1)] 51 Tryz.func81 rfl rfl rfl ?_
  refine T.seq ?_
  refine T.region ?_
  refine Run.go (Ev.assign rfl rfl) ?_
  refine Run.go (Ev.assign rfl rfl) ?_
  refine Run.go (Ev.assign rfl rfl) ?_
  refine Run.nil ?_
  refine T.seq ?_
  refine T.seq ?_
  refine T.region ?_
  refine Run.go (Ev.move rfl rfl) ?_
  obtain ⟨x1, e2, h⟩ := bdS h
  refine Run.go (Ev.e_rm e2 rfl rfl rfl) ?_
  refine Run.go (Ev.int rfl rfl rfl rfl trivial) ?_
  refine Run.nil ?_
  refine T.cond rfl (fun hb3 => ?_) (fun hb3 => ?_)
  · replace h := ifT hb3 h
    refine T.seq ?_
    refine T.region ?_
    refine Run.go (Ev.assign rfl rfl) ?_
    refine Run.go (Ev.assign rfl rfl) ?_
    refine Run.go (Ev.assign rfl rfl) ?_
    refine Run.nil ?_
    refine T.ret ?_
    cases h
    exact Fin.many X rfl (.cons (.tmp .nilv) (.cons (.tmp .v) (.cons (.tmp .v) .nil))) rfl
  · replace h := ifF hb3 h
    refine T.skip ?_
    refine T.seq ?_
    refine T.region ?_
    refine Run.go (Ev.move rfl rfl) ?_
    refine Run.go (Ev.len X rfl rfl rfl rfl) ?_
    obtain ⟨x4, e5, h⟩ := bdS h
    refine Run.go (Ev.e_mk X 1 e5 rfl rfl rfl rfl rfl rfl) ?_
    refine Run.go (Ev.assign rfl rfl) ?_
    refine Run.nil ?_
    refine T.seq ?_
    refine T.region ?_
    refine Run.go (Ev.assign rfl rfl) ?_
    refine Run.nil ?_
    obtain ⟨⟨v6, v7⟩, hv, h⟩ := bdS h
    refine T.cut (fun _ : Unit => (⟨[(7, .own 1), (8, .v (.int .u64) v6)], [(1, .arr 91 (.int .u64) v7)], 51⟩ : St)) (fun _ => True) ?_ (fun _ _ => ?_)
    · replace h := hv
      clear hv
      refine T.seq ?_
      refine T.region ?_
      refine Run.go (Ev.move rfl rfl) ?_
      refine Run.go (Ev.len X rfl rfl rfl rfl) ?_
      refine Run.go (Ev.move rfl rfl) ?_
      refine Run.nil ?_
      refine T.block ?_
      refine T.loop (LoopT.ghost (Ghost.only [(1, 1)] [0, 1, 7, 8, 20, 21] rfl) (LoopT.run (fun q : Int × Int × (List Int) => (⟨[(0, .v (.sl (.int .u64)) p0), (1, .v (.int .u64) p1), (7, .own 1), (8, .v (.int .u64) q.1), (20, .v (.int .i64) ((p0.length : Int) : Int)), (21, .v (.int .i64) q.2.1)], [(1, .arr 91 (.int .u64) q.2.2)], 51⟩ : St)) (fun q z1 h hz1 => ?_) h))
      obtain ⟨v8, v9, v10⟩ := q
      dsimp only
      rw [m_divide_Small_l1] at h
      refine T.seq ?_
      refine T.region ?_
      refine Run.go (Ev.int rfl rfl rfl rfl trivial) ?_
      refine Run.nil ?_
      refine T.seq ?_
      refine T.cond rfl (fun hb11 => ?_) (fun hb11 => ?_)
      · replace h := ifT hb11 h
        refine T.skip ?_
        refine T.seq ?_
        refine T.block ?_
        refine T.seq ?_
        refine T.region ?_
        refine Run.go (Ev.move rfl rfl) ?_
        refine Run.go (Ev.assign rfl rfl) ?_
        refine Run.nil ?_
        refine T.seq ?_
        refine T.region ?_
        refine Run.go (Ev.move rfl rfl) ?_
        refine Run.go (Ev.len X rfl rfl rfl rfl) ?_
        refine Run.go (Ev.int rfl rfl rfl rfl trivial) ?_
        refine Run.go (Ev.move rfl rfl) ?_
        refine Run.go (Ev.int rfl rfl rfl rfl trivial) ?_
        obtain ⟨x12, e13, h⟩ := ltS h
        refine Run.go (Ev.avs (Ev.assign rfl rfl) e13) ?_
        refine Run.nil ?_
        refine T.region ?_
        refine Run.go (Ev.move rfl rfl) ?_
        refine Run.go (Ev.move rfl rfl) ?_
        refine Run.go (Ev.move rfl rfl) ?_
        refine Run.go (Ev.move rfl rfl) ?_
        refine Run.go (Ev.move rfl rfl) ?_
        obtain ⟨x14, e15, h⟩ := bdS h
        refine Run.go (Ev.e_rd X e15 rfl rfl rfl rfl) ?_
        refine Run.go (Ev.load X rfl rfl rfl) ?_
        refine Run.go (Ev.move rfl rfl) ?_
        obtain ⟨x16, e17, h⟩ := bdS h
        refine Run.go (Ev.callC en89 (k_limb_Div e17) rfl (.cons .v (.cons .v (.cons .v .nil))) rfl rfl) ?_
        refine Run.go (Ev.move rfl rfl) ?_
        refine Run.go (Ev.extract rfl rfl rfl) ?_
        refine Run.go (Ev.extract rfl rfl rfl) ?_
        refine Run.go (Ev.extract rfl rfl rfl) ?_
        obtain ⟨j18, e19, h⟩ := bdS h
        refine Run.go (Ev.e_ixO X e19 rfl rfl rfl rfl rfl) ?_
        obtain ⟨x20, e21, h⟩ := ltS h
        refine Run.do_ (Ev.asO (Ev.storeEl X rfl rfl rfl rfl rfl) e21) ?_
        refine Run.go (Ev.assign rfl rfl) ?_
        refine Run.nil ?_
        refine T.region ?_
        refine Run.go (Ev.int rfl rfl rfl rfl trivial) ?_
        refine Run.go (Ev.move rfl rfl) ?_
        refine Run.nil ?_
        cases h
        exact LoopT.ghost (Ghost.only [(1, 1)] [0, 1, 7, 8, 20, 21] rfl) hz1
      · replace h := ifF hb11 h
        refine T.exit ?_
        cases h
        cases hz1
        exact ⟨(), trivial, Ghost.only [(1, 1)] [7, 8] rfl⟩
    · refine T.seq ?_
      refine T.region ?_
      refine Run.go (Ev.move rfl rfl) ?_
      refine Run.ghost (Ghost.firmAll (id := 1) rfl) ?_
      obtain ⟨x22, e23, h⟩ := bdS h
      refine Run.go (Ev.callC en80 (k_nat_Make e23) rfl (.cons .v .nil) rfl rfl) ?_
      refine Run.go (Ev.move rfl rfl) ?_
      refine Run.go (Ev.extract rfl rfl rfl) ?_
      refine Run.go (Ev.extract rfl rfl rfl) ?_
      refine Run.go (Ev.assign rfl rfl) ?_
      refine Run.go (Ev.assign rfl rfl) ?_
      refine Run.nil ?_
      refine T.seq ?_
      refine T.region ?_
      refine Run.go (Ev.move rfl rfl) ?_
      refine Run.go (Ev.move rfl rfl) ?_
      refine Run.go (Ev.assign rfl rfl) ?_
      refine Run.go (Ev.assign rfl rfl) ?_
      refine Run.go (Ev.assign rfl rfl) ?_
      refine Run.nil ?_
      refine T.ret ?_
      cases h
      exact Fin.many X rfl (.cons (.tmp .v) (.cons (.tmp .v) (.cons (.tmp .v) .nil))) rfl
theorem en82 : Enters Tryz.prog 82 := ⟨_, Tryz.func82, rfl, rfl⟩
theorem k_digits_piece {p0 : Int} {p1 : Int} {p2 : Int} {y : ByteArray} (h : m_digits_piece p0 p1 p2 = some y) : Spec Tryz.prog 82 [(.v (.int .u64) p0), (.v (.int .i64) p1), (.v (.int .i64) p2)] (.v .str y) [] := by
  rw [m_digits_piece] at h
  refine enterN [(.v (.int .u64) p0), (.v (.int .i64) p1), (.v (.int .i64) p2)] 33 Tryz.func82 rfl rfl rfl ?_
  refine T.seq ?_
  refine T.region ?_
  refine Run.go (Ev.assign rfl rfl) ?_
  refine Run.nil ?_
  refine T.seq ?_
  refine T.region ?_
  refine Run.go (Ev.move rfl rfl) ?_
  obtain ⟨x1, e2, h⟩ := bdS h
  refine Run.go (Ev.e_mk X 1 e2 rfl rfl rfl rfl rfl rfl) ?_
  refine Run.go (Ev.assign rfl rfl) ?_
  refine Run.nil ?_
  obtain ⟨v3, hv, h⟩ := bdS h
  refine T.cut (fun _ : Unit => (⟨[(7, .own 1)], [(1, .arr 5 (.int .u8) v3)], 33⟩ : St)) (fun _ => True) ?_ (fun _ _ => ?_)
  · replace h := hv
    clear hv
    refine T.seq ?_
    refine T.region ?_
    refine Run.go (Ev.move rfl rfl) ?_
    refine Run.go (Ev.move rfl rfl) ?_
    refine Run.nil ?_
    refine T.block ?_
    refine T.loop (LoopT.ghost (Ghost.only [(1, 1)] [0, 1, 2, 7, 11, 12] rfl) (LoopT.run (fun q : Int × Int × (List Int) => (⟨[(0, .v (.int .u64) q.1), (1, .v (.int .i64) p1), (2, .v (.int .i64) p2), (7, .own 1), (11, .v (.int .i64) p2), (12, .v (.int .i64) q.2.1)], [(1, .arr 5 (.int .u8) q.2.2)], 33⟩ : St)) (fun q z1 h hz1 => ?_) h))
    obtain ⟨v4, v5, v6⟩ := q
    dsimp only
    rw [m_digits_piece_l1] at h
    refine T.seq ?_
    refine T.region ?_
    refine Run.go (Ev.int rfl rfl rfl rfl trivial) ?_
    refine Run.nil ?_
    refine T.seq ?_
    refine T.cond rfl (fun hb7 => ?_) (fun hb7 => ?_)
    · replace h := ifT hb7 h
      refine T.skip ?_
      refine T.seq ?_
      refine T.block ?_
      refine T.seq ?_
      refine T.region ?_
      refine Run.go (Ev.move rfl rfl) ?_
      refine Run.go (Ev.assign rfl rfl) ?_
      refine Run.nil ?_
      refine T.seq ?_
      refine T.region ?_
      refine Run.go (Ev.move rfl rfl) ?_
      refine Run.go (Ev.move rfl rfl) ?_
      refine Run.go (Ev.int rfl rfl rfl rfl trivial) ?_
      refine Run.go (Ev.move rfl rfl) ?_
      refine Run.go (Ev.int rfl rfl rfl rfl trivial) ?_
      refine Run.go (Ev.move rfl rfl) ?_
      refine Run.go (Ev.move rfl rfl) ?_
      refine Run.go (Ev.conv X rfl rfl rfl rfl) ?_
      obtain ⟨x8, e9, h⟩ := bdS h
      refine Run.go (Ev.e_rm e9 rfl rfl rfl) ?_
      obtain ⟨x10, e11, h⟩ := bdS h
      refine Run.go (Ev.e_bt X e11 rfl rfl rfl rfl) ?_
      obtain ⟨j12, e13, h⟩ := bdS h
      refine Run.go (Ev.e_ixO X e13 rfl rfl rfl rfl rfl) ?_
      obtain ⟨x14, e15, h⟩ := ltS h
      refine Run.do_ (Ev.asO (Ev.storeEl X rfl rfl rfl rfl rfl) e15) ?_
      refine Run.nil ?_
      refine T.region ?_
      refine Run.go (Ev.move rfl rfl) ?_
      refine Run.go (Ev.move rfl rfl) ?_
      refine Run.go (Ev.conv X rfl rfl rfl rfl) ?_
      obtain ⟨x16, e17, h⟩ := bdS h
      refine Run.go (Ev.e_qd e17 rfl rfl rfl) ?_
      refine Run.go (Ev.assign rfl rfl) ?_
      refine Run.nil ?_
      refine T.region ?_
      refine Run.go (Ev.int rfl rfl rfl rfl trivial) ?_
      refine Run.go (Ev.move rfl rfl) ?_
      refine Run.nil ?_
      cases h
      exact LoopT.ghost (Ghost.only [(1, 1)] [0, 1, 2, 7, 11, 12] rfl) hz1
    · replace h := ifF hb7 h
      refine T.exit ?_
      cases h
      cases hz1
      exact ⟨(), trivial, Ghost.only [(1, 1)] [7] rfl⟩
  · refine T.seq ?_
    refine T.region ?_
    refine Run.go (Ev.move rfl rfl) ?_
    refine Run.ghost (Ghost.firmAll (id := 1) rfl) ?_
    refine Run.go (Ev.e_b2s (e := 0) X rfl rfl rfl rfl) ?_
    refine Run.go (Ev.assign rfl rfl) ?_
    refine Run.nil ?_
    refine T.ret ?_
    cases h
    exact Fin.one rfl .v
theorem k_strings_Builder_String_M {o1_0 : Bool} {o2 : (List Int)} {y : ByteArray} (h : m_strings_Builder_String_M o1_0 o2 = some y) : SpecM Tryz.prog 26 [(.box 1 0)] [(1, .box [.pn o1_0 1 0 77, .owz 2]), (2, .arr 5 (.int .u8) o2)] (.v .str y) [(1, .box [.pn o1_0 1 0 77, .bot]), (2, .dead)] := by
  rw [m_strings_Builder_String_M] at h
  refine SpecM.enter 100000 [(.box 1 0)] 14 Tryz.func26 rfl rfl rfl rfl (fun L => ?_)
  refine T.seq ?_
  refine T.region ?_
  refine Run.go (Ev.assign rfl rfl) ?_
  refine Run.nil ?_
  refine T.seq ?_
  refine T.drawE [([1], []), ([1], []), ([1], []), ([1], []), ([2], []), ([1], []), ([1], []), ([1], []), ([1], []), ([2], []), ([2], [2]), ([], [])] [0, 1, 3, 7, 15, 0, 32, 96, 224, 480, 1023, 2047] (by kernel_rfl) (by kernel_rfl) ?_
  refine RunE.go0 [1] (fun ô hô => Ev.move rfl rfl) rfl rfl ?_
  refine RunE.go0 [1] (fun ô hô => Ev.e_nc rfl (one_box (ka hô rfl rfl)) rfl rfl) rfl rfl ?_
  refine RunE.go0 [1] (fun ô hô => Ev.fieldBoxN fo77_1 sz75 rfl (ka hô rfl rfl) rfl rfl) rfl rfl ?_
  refine RunE.go0 [1] (fun ô hô => Ev.loadCell X rfl (ka hô rfl rfl) rfl rfl rfl rfl) rfl rfl ?_
  rcases boolCases (decide (o2.length = 0)) with hb1 | hb1
  · replace h := ifT hb1 h
    refine RunE.go0 [2] (fun ô hô => Ev.e_usd0 X hb1 rfl (ka hô rfl rfl) rfl) rfl rfl ?_
    refine RunE.go0 [1] (fun ô hô => Ev.move rfl rfl) rfl rfl ?_
    refine RunE.go0 [1] (fun ô hô => Ev.e_nc rfl (one_box (ka hô rfl rfl)) rfl rfl) rfl rfl ?_
    refine RunE.go0 [1] (fun ô hô => Ev.fieldBoxN fo77_1 sz75 rfl (ka hô rfl rfl) rfl rfl) rfl rfl ?_
    refine RunE.go0 [1] (fun ô hô => Ev.loadCell X rfl (ka hô rfl rfl) rfl rfl rfl rfl) rfl rfl ?_
    refine RunE.go0 [2] (fun ô hô => Ev.e_lenZ X rfl (ka hô rfl rfl) rfl rfl) rfl rfl ?_
    refine RunE.go1 [2] (fun ô hô => Ev.e_ust0 (id := 2) hb1 rfl rfl rfl) rfl rfl ?_
    refine RunE.go0 [] (fun ô hô => Ev.assign rfl rfl) rfl rfl ?_
    refine RunE.nil ?_
    refine T.ret ?_
    cases h
    exact FinM.of 100000 [(1, 1), (900002, 2)] (inlR.one' (X := X) rfl (.tmp rfl)) rfl rfl rfl rfl ⟨(.inl ⟨rfl, _, rfl, .box, fun _ => rfl⟩), (.inr rfl), trivial⟩
  · replace h := ifF hb1 h
    refine RunE.go0 [2] (fun ô hô => Ev.e_usd X hb1 rfl (ka hô rfl rfl) rfl) rfl rfl ?_
    refine RunE.go0 [1] (fun ô hô => Ev.move rfl rfl) rfl rfl ?_
    refine RunE.go0 [1] (fun ô hô => Ev.e_nc rfl (one_box (ka hô rfl rfl)) rfl rfl) rfl rfl ?_
    refine RunE.go0 [1] (fun ô hô => Ev.fieldBoxN fo77_1 sz75 rfl (ka hô rfl rfl) rfl rfl) rfl rfl ?_
    refine RunE.go0 [1] (fun ô hô => Ev.loadCell X rfl (ka hô rfl rfl) rfl rfl rfl rfl) rfl rfl ?_
    refine RunE.go0 [2] (fun ô hô => Ev.e_lenZ X rfl (ka hô rfl rfl) rfl rfl) rfl rfl ?_
    obtain ⟨x2, e3, h⟩ := bdS h
    refine RunE.go1 [2] (fun ô hô => Ev.e_ust us105_5 e3 rfl (ka hô rfl rfl) rfl rfl rfl) rfl rfl ?_
    refine RunE.go0 [] (fun ô hô => Ev.assign rfl rfl) rfl rfl ?_
    refine RunE.nil ?_
    refine T.ret ?_
    cases h
    exact FinM.of 100000 [(1, 1), (900002, 2)] (inlR.one' (X := X) rfl (.tmp rfl)) rfl rfl rfl rfl ⟨(.inl ⟨rfl, _, rfl, .box, fun _ => rfl⟩), (.inr rfl), trivial⟩
theorem en90 : Enters Tryz.prog 90 := ⟨_, Tryz.func90, rfl, rfl⟩
theorem k_strings_trimLeftByte {p0 : ByteArray} {p1 : Int} {y : ByteArray} (h : m_strings_trimLeftByte p0 p1 = some y) : Spec Tryz.prog 90 [(.v .str p0), (.v (.int .u8) p1)] (.v .str y) [] := by
  rw [m_strings_trimLeftByte] at h
  refine enterN [(.v .str p0), (.v (.int .u8) p1)] 17 Tryz.func90 rfl rfl rfl ?_
  refine T.seq ?_
  refine T.region ?_
  refine Run.go (Ev.assign rfl rfl) ?_
  refine Run.nil ?_
  obtain ⟨v1, hv, h⟩ := bdS h
  refine T.cut (fun _ : Unit => (⟨[(0, .v .str v1)], [], 17⟩ : St)) (fun _ => True) ?_ (fun _ _ => ?_)
  · replace h := hv
    clear hv
    refine T.block ?_
    refine T.loop (LoopT.ghost (Ghost.only [] [0, 1] rfl) (LoopT.run (fun q : ByteArray => (⟨[(0, .v .str q), (1, .v (.int .u8) p1)], [], 17⟩ : St)) (fun v2 z1 h hz1 => ?_) h))
    rw [m_strings_trimLeftByte_l1] at h
    refine T.seq ?_
    obtain ⟨v3, hv, h⟩ := bdS h
    refine T.cut (fun _ : Unit => (⟨[(0, .v .str v2), (1, .v (.int .u8) p1), (13, .v .bool v3)], [], 17⟩ : St)) (fun _ => True) ?_ (fun _ _ => ?_)
    · replace h := hv
      clear hv
      refine T.region ?_
      refine Run.go (Ev.move rfl rfl) ?_
      refine Run.go (Ev.len X rfl rfl rfl rfl) ?_
      refine Run.go (Ev.int rfl rfl rfl rfl trivial) ?_
      refine Run.go (Ev.move rfl rfl) ?_
      rcases boolCases (decide (0 < (v2.size : Int))) with hb4 | hb4
      · replace h := ifT hb4 h
        refine Run.on rfl rfl rfl hb4 (Ev.move rfl rfl) ?_
        obtain ⟨x5, e6, h⟩ := bdS h
        refine Run.on rfl rfl rfl hb4 (Ev.e_bt X e6 rfl rfl rfl rfl) ?_
        refine Run.on rfl rfl rfl hb4 (Ev.move rfl rfl) ?_
        refine Run.on rfl rfl rfl hb4 (Ev.int rfl rfl rfl rfl trivial) ?_
        refine Run.go (Ev.pickT rfl hb4 rfl rfl) ?_
        refine Run.nil ?_
        cases h
        exact ⟨(), trivial, Ghost.only [] [0, 1, 13] rfl⟩
      · replace h := ifF hb4 h
        refine Run.offT rfl rfl rfl rfl hb4 ?_
        refine Run.offT rfl rfl rfl rfl hb4 ?_
        refine Run.offT rfl rfl rfl rfl hb4 ?_
        refine Run.offT rfl rfl rfl rfl hb4 ?_
        refine Run.go (Ev.pickF rfl hb4 rfl rfl) ?_
        refine Run.nil ?_
        cases h
        exact ⟨(), trivial, Ghost.only [] [0, 1, 13] rfl⟩
    · refine T.cond rfl (fun hb7 => ?_) (fun hb7 => ?_)
      · replace h := ifT hb7 h
        refine T.skip ?_
        refine T.block ?_
        refine T.region ?_
        refine Run.go (Ev.move rfl rfl) ?_
        obtain ⟨x8, e9, h⟩ := bdS h
        refine Run.go (Ev.e_cs X e9 rfl rfl rfl (fun _ _ => cutAt_of rfl) (fun h => by cases h) (fun _ h => by cases h) (fun _ => rfl)) ?_
        refine Run.go (Ev.assign rfl rfl) ?_
        refine Run.nil ?_
        cases h
        exact LoopT.ghost (Ghost.only [] [0, 1] rfl) hz1
      · replace h := ifF hb7 h
        refine T.exit ?_
        cases h
        cases hz1
        exact ⟨(), trivial, Ghost.only [] [0] rfl⟩
  · refine T.seq ?_
    refine T.region ?_
    refine Run.go (Ev.move rfl rfl) ?_
    refine Run.go (Ev.assign rfl rfl) ?_
    refine Run.nil ?_
    refine T.ret ?_
    cases h
    exact Fin.one rfl .v
theorem en83 : Enters Tryz.prog 83 := ⟨_, Tryz.func83, rfl, rfl⟩
theorem k_strings_TrimLeft {p0 : ByteArray} {p1 : ByteArray} {y : ByteArray} (h : m_strings_TrimLeft p0 p1 = some y) : Spec Tryz.prog 83 [(.v .str p0), (.v .str p1)] (.v .str y) [] := by
  rw [m_strings_TrimLeft] at h
  refine enterN [(.v .str p0), (.v .str p1)] 37 Tryz.func83 rfl rfl rfl ?_
  refine T.seq ?_
  refine T.region ?_
  refine Run.go (Ev.assign rfl rfl) ?_
  refine Run.nil ?_
  refine T.seq ?_
  obtain ⟨v1, hv, h⟩ := bdS h
  refine T.cut (fun _ : Unit => (⟨[(0, .v .str p0), (1, .v .str p1), (12, .v .bool v1)], [], 37⟩ : St)) (fun _ => True) ?_ (fun _ _ => ?_)
  · replace h := hv
    clear hv
    refine T.region ?_
    refine Run.go (Ev.move rfl rfl) ?_
    refine Run.go (Ev.strs rfl rfl rfl rfl trivial) ?_
    refine Run.go (Ev.move rfl rfl) ?_
    rcases boolCases (sq p0 (bs [])) with hb2 | hb2
    · replace h := ifT hb2 h
      refine Run.offT rfl rfl rfl rfl hb2 ?_
      refine Run.offT rfl rfl rfl rfl hb2 ?_
      refine Run.go (Ev.pickT rfl hb2 rfl rfl) ?_
      refine Run.nil ?_
      cases h
      exact ⟨(), trivial, Ghost.only [] [0, 1, 12] rfl⟩
    · replace h := ifF hb2 h
      refine Run.on rfl rfl rfl hb2 (Ev.move rfl rfl) ?_
      refine Run.on rfl rfl rfl hb2 (Ev.strs rfl rfl rfl rfl trivial) ?_
      refine Run.go (Ev.pickF rfl hb2 rfl rfl) ?_
      refine Run.nil ?_
      cases h
      exact ⟨(), trivial, Ghost.only [] [0, 1, 12] rfl⟩
  · refine T.cond rfl (fun hb3 => ?_) (fun hb3 => ?_)
    · replace h := ifT hb3 h
      refine T.seq ?_
      refine T.region ?_
      refine Run.go (Ev.move rfl rfl) ?_
      refine Run.go (Ev.assign rfl rfl) ?_
      refine Run.nil ?_
      refine T.ret ?_
      cases h
      exact Fin.one rfl .v
    · replace h := ifF hb3 h
      refine T.skip ?_
      refine T.seq ?_
      obtain ⟨v4, hv, h⟩ := bdS h
      refine T.cut (fun _ : Unit => (⟨[(0, .v .str p0), (1, .v .str p1), (21, .v .bool v4)], [], 37⟩ : St)) (fun _ => True) ?_ (fun _ _ => ?_)
      · replace h := hv
        clear hv
        refine T.region ?_
        refine Run.go (Ev.move rfl rfl) ?_
        refine Run.go (Ev.len X rfl rfl rfl rfl) ?_
        refine Run.go (Ev.int rfl rfl rfl rfl trivial) ?_
        refine Run.go (Ev.move rfl rfl) ?_
        rcases boolCases (decide ((p1.size : Int) = 1)) with hb5 | hb5
        · replace h := ifT hb5 h
          refine Run.on rfl rfl rfl hb5 (Ev.move rfl rfl) ?_
          obtain ⟨x6, e7, h⟩ := bdS h
          refine Run.on rfl rfl rfl hb5 (Ev.e_bt X e7 rfl rfl rfl rfl) ?_
          refine Run.on rfl rfl rfl hb5 (Ev.int rfl rfl rfl rfl trivial) ?_
          refine Run.go (Ev.pickT rfl hb5 rfl rfl) ?_
          refine Run.nil ?_
          cases h
          exact ⟨(), trivial, Ghost.only [] [0, 1, 21] rfl⟩
        · replace h := ifF hb5 h
          refine Run.offT rfl rfl rfl rfl hb5 ?_
          refine Run.offT rfl rfl rfl rfl hb5 ?_
          refine Run.offT rfl rfl rfl rfl hb5 ?_
          refine Run.go (Ev.pickF rfl hb5 rfl rfl) ?_
          refine Run.nil ?_
          cases h
          exact ⟨(), trivial, Ghost.only [] [0, 1, 21] rfl⟩
      · refine T.cond rfl (fun hb8 => ?_) (fun hb8 => ?_)
        · replace h := ifT hb8 h
          refine T.seq ?_
          refine T.region ?_
          refine Run.go (Ev.move rfl rfl) ?_
          refine Run.go (Ev.move rfl rfl) ?_
          obtain ⟨x9, e10, h⟩ := bdS h
          refine Run.go (Ev.e_bt X e10 rfl rfl rfl rfl) ?_
          obtain ⟨x11, e12, h⟩ := bdS h
          refine Run.go (Ev.callC en90 (k_strings_trimLeftByte e12) rfl (.cons .v (.cons .v .nil)) rfl rfl) ?_
          refine Run.go (Ev.assign rfl rfl) ?_
          refine Run.nil ?_
          refine T.ret ?_
          cases h
          exact Fin.one rfl .v
        · replace h := ifF hb8 h
          refine T.skip ?_
          refine T.seq ?_
          refine T.seq ?_
          refine T.region ?_
          refine Run.go (Ev.move rfl rfl) ?_
          cases h
end Go.Proofs.YtkjlcghikagdlaaGreatDoor.AE
/- The code comes to the printed functions (printed by a program of ours). -/
namespace Go.Proofs.YtkjlcghikagdlaaGreatDoor.AE
open Go Go.RowKit Go.Proofs.YtkjlcghikagdlaaGreatDoor.AP
set_option linter.unusedVariables false
set_option maxRecDepth 20000
theorem en73 : Enters Tryz.prog 73 := ⟨_, Tryz.func73, rfl, rfl⟩
theorem k_digits_In {p0 : (List Int)} {p1 : Int} {y : ByteArray × Int} (h : m_digits_In p0 p1 = some y) : Spec Tryz.prog 73 [(.v (.sl (.int .u64)) p0), (.v (.int .i64) p1)] (.tup [.v .str y.1, .v (.int .i64) y.2]) [] := by
  rw [m_digits_In] at h
  refine enterN [(.v (.sl (.int .u64)) p0), (.v (.int .i64) p1)] 71 Tryz.func73 rfl rfl rfl ?_
  refine T.seq ?_
  refine T.region ?_
  refine Run.go (Ev.assign rfl rfl) ?_
  refine Run.go (Ev.assign rfl rfl) ?_
  refine Run.nil ?_
  refine T.seq ?_
  refine T.seq ?_
  refine T.region ?_
  refine Run.go (Ev.move rfl rfl) ?_
  obtain ⟨x1, e2, h⟩ := bdS h
  refine Run.go (Ev.callC en78 (k_digits_based e2) rfl (.cons .v .nil) rfl rfl) ?_
  refine Run.go (Ev.assign rfl rfl) ?_
  refine Run.nil ?_
  refine T.seq ?_
  refine T.region ?_
  refine Run.go (Ev.move rfl rfl) ?_
  refine Run.go (Ev.int rfl rfl rfl rfl trivial) ?_
  refine Run.nil ?_
  refine T.cond rfl (fun hb3 => ?_) (fun hb3 => ?_)
  · replace h := ifT hb3 h
    refine T.seq ?_
    refine T.region ?_
    refine Run.go (Ev.move rfl rfl) ?_
    refine Run.go (Ev.assign rfl rfl) ?_
    refine Run.go (Ev.assign rfl rfl) ?_
    refine Run.nil ?_
    refine T.ret ?_
    cases h
    exact Fin.many X rfl (.cons (.tmp .v) (.cons (.tmp .v) .nil)) rfl
  · replace h := ifF hb3 h
    refine T.skip ?_
    refine T.seq ?_
    refine T.region ?_
    refine Run.go (Ev.move rfl rfl) ?_
    obtain ⟨x4, e5, h⟩ := bdS h
    refine Run.go (Ev.callC en79 (k_digits_chunk e5) rfl (.cons .v .nil) rfl rfl) ?_
    refine Run.go (Ev.move rfl rfl) ?_
    refine Run.go (Ev.extract rfl rfl rfl) ?_
    refine Run.go (Ev.extract rfl rfl rfl) ?_
    refine Run.go (Ev.assign rfl rfl) ?_
    refine Run.go (Ev.assign rfl rfl) ?_
    refine Run.nil ?_
    refine T.seq ?_
    refine T.region ?_
    refine Run.go (Ev.assign rfl rfl) ?_
    refine Run.nil ?_
    refine T.seq ?_
    refine T.region ?_
    refine Run.go (Ev.move rfl rfl) ?_
    obtain ⟨x6, e7, h⟩ := bdS h
    refine Run.go (Ev.callC en80 (k_nat_Make e7) rfl (.cons .v .nil) rfl rfl) ?_
    refine Run.go (Ev.move rfl rfl) ?_
    refine Run.go (Ev.extract rfl rfl rfl) ?_
    refine Run.go (Ev.extract rfl rfl rfl) ?_
    refine Run.go (Ev.assign rfl rfl) ?_
    refine Run.go (Ev.assign rfl rfl) ?_
    refine Run.nil ?_
    obtain ⟨v8, hv, h⟩ := bdS h
    refine T.cut (fun _ : Unit => (⟨[(9, .own 2)], [(2, .arr 9 .str v8)], 71⟩ : St)) (fun _ => True) ?_ (fun _ _ => ?_)
    · replace h := hv
      clear hv
      refine T.block ?_
      refine T.loop (LoopT.ghost (Ghost.trans (Ghost.empty 9 19 9 .str rfl rfl) (Ghost.only [(19, 13)] [1, 7, 8, 9, 10] rfl)) (LoopT.run (fun q : (List Int) × (List ByteArray) => (⟨[(1, .v (.int .i64) p1), (7, .v (.int .u64) x4.1), (8, .v (.int .i64) x4.2), (9, .own 13), (10, .v (.sl (.int .u64)) q.1)], [(13, .arr 9 .str q.2)], 71⟩ : St)) (fun q z1 h hz1 => ?_) h))
      obtain ⟨v9, v10⟩ := q
      dsimp only
      rw [m_digits_In_l1] at h
      refine T.seq ?_
      refine T.seq ?_
      refine T.region ?_
      refine Run.go (Ev.move rfl rfl) ?_
      refine Run.go (Ev.len X rfl rfl rfl rfl) ?_
      refine Run.go (Ev.int rfl rfl rfl rfl trivial) ?_
      refine Run.nil ?_
      refine T.cond rfl (fun hb11 => ?_) (fun hb11 => ?_)
      · replace h := ifT hb11 h
        refine T.skip ?_
        refine T.block ?_
        refine T.seq ?_
        refine T.region ?_
        refine Run.go (Ev.move rfl rfl) ?_
        refine Run.go (Ev.move rfl rfl) ?_
        obtain ⟨x12, e13, h⟩ := bdS h
        refine Run.go (Ev.callC en81 (k_divide_Small e13) rfl (.cons .v (.cons .v .nil)) rfl rfl) ?_
        refine Run.go (Ev.move rfl rfl) ?_
        refine Run.go (Ev.extract rfl rfl rfl) ?_
        refine Run.go (Ev.extract rfl rfl rfl) ?_
        refine Run.go (Ev.extract rfl rfl rfl) ?_
        refine Run.go (Ev.assign rfl rfl) ?_
        refine Run.go (Ev.assign rfl rfl) ?_
        refine Run.go (Ev.assign rfl rfl) ?_
        refine Run.nil ?_
        refine T.seq ?_
        refine T.region ?_
        refine Run.go (Ev.move rfl rfl) ?_
        refine Run.go (Ev.move rfl rfl) ?_
        refine Run.go (Ev.move rfl rfl) ?_
        refine Run.go (Ev.move rfl rfl) ?_
        obtain ⟨x14, e15, h⟩ := bdS h
        refine Run.go (Ev.callC en82 (k_digits_piece e15) rfl (.cons .v (.cons .v (.cons .v .nil))) rfl rfl) ?_
        refine Run.go (Ev.build X 20 rfl rfl rfl rfl rfl rfl rfl rfl) ?_
        obtain ⟨x16, e17, h⟩ := bdS h
        refine Run.go (Ev.e_ap X 21 e17 rfl rfl rfl (.own rfl) rfl rfl rfl rfl rfl) ?_
        refine Run.go (Ev.assign rfl rfl) ?_
        refine Run.nil ?_
        refine T.region ?_
        refine Run.go (Ev.move rfl rfl) ?_
        refine Run.go (Ev.assign rfl rfl) ?_
        refine Run.nil ?_
        cases h
        exact LoopT.ghost (Ghost.only [(21, 13)] [1, 7, 8, 9, 10] rfl) hz1
      · replace h := ifF hb11 h
        refine T.exit ?_
        cases h
        cases hz1
        exact ⟨(), trivial, Ghost.only [(13, 2)] [9] rfl⟩
    · refine T.seq ?_
      refine T.region ?_
      refine Run.go (Ev.e_allocB 22 23 5 zs77 rfl rfl rfl) ?_
      refine Run.nil ?_
      obtain ⟨⟨v18, v19⟩, hv, h⟩ := bdS h
      refine T.cut (fun _ : Unit => (⟨[(15, .box 22 0)], [(22, .box [.pn v18 22 0 77, .owz 30]), (30, .arr 5 (.int .u8) v19)], 71⟩ : St)) (fun _ => True) ?_ (fun _ _ => ?_)
      · replace h := hv
        clear hv
        refine T.seq ?_
        refine T.region ?_
        refine Run.go (Ev.move rfl rfl) ?_
        refine Run.go (Ev.e_lenO X rfl rfl rfl rfl) ?_
        refine Run.go (Ev.move rfl rfl) ?_
        refine Run.nil ?_
        refine T.block ?_
        refine T.loop (LoopT.ghost (Ghost.only [(2, 2), (22, 22), (23, 44)] [9, 15, 52, 53] rfl) (LoopT.run (fun q : Int × Bool × (List Int) => (⟨[(9, .own 2), (15, .box 22 0), (52, .v (.int .i64) ((v8.length : Int) : Int)), (53, .v (.int .i64) q.1)], [(2, .arr 9 .str v8), (22, .box [.pn q.2.1 22 0 77, .owz 44]), (44, .arr 5 (.int .u8) q.2.2)], 71⟩ : St)) (fun q z1 h hz1 => ?_) h))
        obtain ⟨v20, v21, v22⟩ := q
        dsimp only
        rw [m_digits_In_l2] at h
        refine T.seq ?_
        refine T.region ?_
        refine Run.go (Ev.int rfl rfl rfl rfl trivial) ?_
        refine Run.nil ?_
        refine T.seq ?_
        refine T.cond rfl (fun hb23 => ?_) (fun hb23 => ?_)
        · replace h := ifT hb23 h
          refine T.skip ?_
          refine T.seq ?_
          refine T.block ?_
          refine T.seq ?_
          refine T.region ?_
          refine Run.go (Ev.move rfl rfl) ?_
          refine Run.go (Ev.assign rfl rfl) ?_
          refine Run.nil ?_
          refine T.region ?_
          refine Run.go (Ev.move rfl rfl) ?_
          refine Run.go (Ev.move rfl rfl) ?_
          refine Run.go (Ev.e_lenO X rfl rfl rfl rfl) ?_
          refine Run.go (Ev.int rfl rfl rfl rfl trivial) ?_
          refine Run.go (Ev.move rfl rfl) ?_
          refine Run.go (Ev.int rfl rfl rfl rfl trivial) ?_
          obtain ⟨x24, e25, h⟩ := bdS h
          refine Run.go (Ev.e_rdO X e25 rfl rfl rfl rfl rfl) ?_
          refine Run.go (Ev.e_ldO X (rdS e25).2 rfl rfl rfl rfl) ?_
          obtain ⟨x27, e26, h⟩ := bdS h
          refine Run.go (Ev.w3 (Ev.lendM [(22, 1), (44, 2)] [(1, 22), (2, 44), (4, 49)] en25 (k_strings_Builder_WriteString_M e26) rfl (.cons (.ren rfl) (.cons (.ren rfl) .nil)) rfl rfl rfl rfl rfl (A := .tup [.v (.int .i64) ((x24.size : Int) : Int), .bot]) rfl (W := [(22, .box [.pn x27.1 22 0 77, .owz 49]), (44, .dead), (49, .arr 5 (.int .u8) x27.2)]) rfl rfl)) ?_
          refine Run.nil ?_
          refine T.region ?_
          refine Run.go (Ev.int rfl rfl rfl rfl trivial) ?_
          refine Run.go (Ev.move rfl rfl) ?_
          refine Run.nil ?_
          cases h
          exact LoopT.ghost (Ghost.only [(2, 2), (22, 22), (49, 44)] [9, 15, 52, 53] rfl) hz1
        · replace h := ifF hb23 h
          refine T.exit ?_
          cases h
          cases hz1
          exact ⟨(), trivial, Ghost.only [(22, 22), (44, 30)] [15] rfl⟩
      · refine T.seq ?_
        refine T.region ?_
        obtain ⟨x29, e28, h⟩ := bdS h
        refine Run.go (Ev.w2 (Ev.lendM [(22, 1), (30, 2)] [(1, 22), (2, 30)] en26 (k_strings_Builder_String_M e28) rfl (.cons (.ren rfl) .nil) rfl rfl rfl rfl rfl (A := .v .str x29) rfl (W := [(22, .box [.pn v18 22 0 77, .bot]), (30, .dead)]) rfl rfl)) ?_
        obtain ⟨x30, e31, h⟩ := bdS h
        refine Run.go (Ev.callC en83 (k_strings_TrimLeft e31) rfl (.cons .v (.cons .v .nil)) rfl rfl) ?_
        refine Run.go (Ev.assign rfl rfl) ?_
        refine Run.nil ?_
        obtain ⟨v32, hv, h⟩ := bdS h
        refine T.cut (fun _ : Unit => (⟨[(17, .v .str v32)], [], 71⟩ : St)) (fun _ => True) ?_ (fun _ _ => ?_)
        · replace h := hv
          clear hv
          refine T.seq ?_
          refine T.region ?_
          refine Run.go (Ev.move rfl rfl) ?_
          refine Run.go (Ev.strs rfl rfl rfl rfl trivial) ?_
          refine Run.nil ?_
          refine T.cond rfl (fun hb33 => ?_) (fun hb33 => ?_)
          · replace h := ifT hb33 h
            refine T.region ?_
            refine Run.go (Ev.assign rfl rfl) ?_
            refine Run.nil ?_
            cases h
            exact ⟨(), trivial, Ghost.only [] [17] rfl⟩
          · replace h := ifF hb33 h
            refine T.skip ?_
            cases h
            exact ⟨(), trivial, Ghost.only [] [17] rfl⟩
        · refine T.seq ?_
          refine T.region ?_
          refine Run.go (Ev.move rfl rfl) ?_
          refine Run.go (Ev.assign rfl rfl) ?_
          refine Run.go (Ev.assign rfl rfl) ?_
          refine Run.nil ?_
          refine T.ret ?_
          cases h
          exact Fin.many X rfl (.cons (.tmp .v) (.cons (.tmp .v) .nil)) rfl
theorem en68 : Enters Tryz.prog 68 := ⟨_, Tryz.func68, rfl, rfl⟩
theorem k_digits_Print {p0 : (List Int)} {y : ByteArray} (h : m_digits_Print p0 = some y) : Spec Tryz.prog 68 [(.v (.sl (.int .u64)) p0)] (.v .str y) [] := by
  rw [m_digits_Print] at h
  refine enterN [(.v (.sl (.int .u64)) p0)] 11 Tryz.func68 rfl rfl rfl ?_
  refine T.seq ?_
  refine T.region ?_
  refine Run.go (Ev.assign rfl rfl) ?_
  refine Run.nil ?_
  refine T.seq ?_
  refine T.region ?_
  refine Run.go (Ev.move rfl rfl) ?_
  obtain ⟨x1, e2, h⟩ := bdS h
  refine Run.go (Ev.callC en73 (k_digits_In e2) rfl (.cons .v (.cons .v .nil)) rfl rfl) ?_
  refine Run.go (Ev.move rfl rfl) ?_
  refine Run.go (Ev.extract rfl rfl rfl) ?_
  refine Run.go (Ev.extract rfl rfl rfl) ?_
  refine Run.go (Ev.assign rfl rfl) ?_
  refine Run.go (Ev.assign rfl rfl) ?_
  refine Run.nil ?_
  refine T.seq ?_
  refine T.region ?_
  refine Run.go (Ev.move rfl rfl) ?_
  refine Run.go (Ev.assign rfl rfl) ?_
  refine Run.nil ?_
  refine T.ret ?_
  cases h
  exact Fin.one rfl .v
theorem en65 : Enters Tryz.prog 65 := ⟨_, Tryz.func65, rfl, rfl⟩
theorem k_whole_Print {p0 : D_api_Int} {y : ByteArray} (h : m_whole_Print p0 = some y) : Spec Tryz.prog 65 [(.v Y_api_Int p0)] (.v .str y) [] := by
  rw [m_whole_Print] at h
  refine enterN [(.v Y_api_Int p0)] 12 Tryz.func65 rfl rfl rfl ?_
  refine T.seq ?_
  refine T.region ?_
  refine Run.go (Ev.box 1 rfl rfl rfl rfl) ?_
  refine Run.go (Ev.assign rfl rfl) ?_
  refine Run.nil ?_
  refine T.seq ?_
  refine T.seq ?_
  refine T.region ?_
  refine Run.go (Ev.fieldBox X rfl rfl rfl rfl rfl) ?_
  refine Run.go (Ev.loadCell X rfl rfl rfl rfl rfl rfl) ?_
  refine Run.nil ?_
  refine T.cond rfl (fun hb1 => ?_) (fun hb1 => ?_)
  · replace h := ifT hb1 h
    refine T.seq ?_
    refine T.region ?_
    refine Run.go (Ev.fieldBox X rfl rfl rfl rfl rfl) ?_
    refine Run.go (Ev.loadCell X rfl rfl rfl rfl rfl rfl) ?_
    obtain ⟨x2, e3, h⟩ := bdS h
    refine Run.go (Ev.callC en68 (k_digits_Print e3) rfl (.cons .v .nil) rfl rfl) ?_
    obtain ⟨x4, e5, h⟩ := bdS h
    refine Run.go (Ev.e_cat e5 rfl rfl rfl) ?_
    refine Run.go (Ev.assign rfl rfl) ?_
    refine Run.nil ?_
    refine T.ret ?_
    cases h
    exact Fin.one rfl .v
  · replace h := ifF hb1 h
    refine T.skip ?_
    refine T.seq ?_
    refine T.region ?_
    refine Run.go (Ev.fieldBox X rfl rfl rfl rfl rfl) ?_
    refine Run.go (Ev.loadCell X rfl rfl rfl rfl rfl rfl) ?_
    obtain ⟨x6, e7, h⟩ := bdS h
    refine Run.go (Ev.callC en68 (k_digits_Print e7) rfl (.cons .v .nil) rfl rfl) ?_
    refine Run.go (Ev.assign rfl rfl) ?_
    refine Run.nil ?_
    refine T.ret ?_
    cases h
    exact Fin.one rfl .v
theorem en67 : Enters Tryz.prog 67 := ⟨_, Tryz.func67, rfl, rfl⟩
theorem k_nat_Of {p0 : Int} {y : (List Int)} (h : m_nat_Of p0 = some y) : Spec Tryz.prog 67 [(.v (.int .u64) p0)] (.v (.sl (.int .u64)) y) [] := by
  rw [m_nat_Of] at h
  refine enterN [(.v (.int .u64) p0)] 9 Tryz.func67 rfl rfl rfl ?_
  refine T.seq ?_
  refine T.region ?_
  refine Run.go (Ev.assign rfl rfl) ?_
  refine Run.nil ?_
  refine T.seq ?_
  refine T.region ?_
  refine Run.go (Ev.move rfl rfl) ?_
  obtain ⟨x1, e2, h⟩ := bdS h
  refine Run.go (Ev.e_rm e2 rfl rfl rfl) ?_
  refine Run.go (Ev.move rfl rfl) ?_
  obtain ⟨x3, e4, h⟩ := bdS h
  refine Run.go (Ev.e_sr e4 rfl rfl rfl) ?_
  refine Run.go (Ev.build X 1 rfl rfl rfl rfl rfl rfl rfl rfl) ?_
  refine Run.ghost (Ghost.firmAll (id := 1) rfl) ?_
  obtain ⟨x5, e6, h⟩ := bdS h
  refine Run.go (Ev.callC en72 (k_nat_trim e6) rfl (.cons .v .nil) rfl rfl) ?_
  refine Run.go (Ev.assign rfl rfl) ?_
  refine Run.nil ?_
  refine T.ret ?_
  cases h
  exact Fin.one rfl .v
theorem en66 : Enters Tryz.prog 66 := ⟨_, Tryz.func66, rfl, rfl⟩
theorem k_nat_Cmp {p0 : (List Int)} {p1 : (List Int)} {y : Int} (h : m_nat_Cmp p0 p1 = some y) : Spec Tryz.prog 66 [(.v (.sl (.int .u64)) p0), (.v (.sl (.int .u64)) p1)] (.v (.int .i64) y) [] := by
  rw [m_nat_Cmp] at h
  refine enterN [(.v (.sl (.int .u64)) p0), (.v (.sl (.int .u64)) p1)] 45 Tryz.func66 rfl rfl rfl ?_
  refine T.seq ?_
  refine T.region ?_
  refine Run.go (Ev.assign rfl rfl) ?_
  refine Run.nil ?_
  refine T.seq ?_
  refine T.block ?_
  refine T.seq ?_
  refine T.region ?_
  refine Run.go (Ev.move rfl rfl) ?_
  refine Run.go (Ev.len X rfl rfl rfl rfl) ?_
  refine Run.go (Ev.move rfl rfl) ?_
  refine Run.go (Ev.len X rfl rfl rfl rfl) ?_
  refine Run.go (Ev.int rfl rfl rfl rfl trivial) ?_
  obtain ⟨x1, e2, h⟩ := ltS h
  refine Run.go (Ev.avs (Ev.assign rfl rfl) e2) ?_
  refine Run.nil ?_
  refine T.cond rfl (fun hb3 => ?_) (fun hb3 => ?_)
  · replace h := ifT hb3 h
    refine T.seq ?_
    refine T.region ?_
    refine Run.go (Ev.assign rfl rfl) ?_
    refine Run.nil ?_
    refine T.ret ?_
    cases h
    exact Fin.one rfl .v
  · replace h := ifF hb3 h
    refine T.seq ?_
    refine T.region ?_
    refine Run.go (Ev.move rfl rfl) ?_
    refine Run.go (Ev.len X rfl rfl rfl rfl) ?_
    refine Run.go (Ev.move rfl rfl) ?_
    refine Run.go (Ev.len X rfl rfl rfl rfl) ?_
    refine Run.go (Ev.int rfl rfl rfl rfl trivial) ?_
    obtain ⟨x4, e5, h⟩ := ltS h
    refine Run.go (Ev.avs (Ev.assign rfl rfl) e5) ?_
    refine Run.nil ?_
    refine T.cond rfl (fun hb6 => ?_) (fun hb6 => ?_)
    · replace h := ifT hb6 h
      refine T.seq ?_
      refine T.region ?_
      refine Run.go (Ev.assign rfl rfl) ?_
      refine Run.nil ?_
      refine T.ret ?_
      cases h
      exact Fin.one rfl .v
    · replace h := ifF hb6 h
      refine T.skip ?_
      refine T.seq ?_
      refine T.seq ?_
      refine T.region ?_
      refine Run.go (Ev.move rfl rfl) ?_
      refine Run.go (Ev.len X rfl rfl rfl rfl) ?_
      refine Run.go (Ev.int rfl rfl rfl rfl trivial) ?_
      refine Run.go (Ev.assign rfl rfl) ?_
      refine Run.nil ?_
      refine T.block ?_
      refine T.loop (LoopT.ghost (Ghost.only [] [0, 1, 5] rfl) (LoopT.run (fun q : Int => (⟨[(0, .v (.sl (.int .u64)) p0), (1, .v (.sl (.int .u64)) p1), (5, .v (.int .i64) q)], [], 45⟩ : St)) (fun v7 z1 h hz1 => ?_) h))
      rw [m_nat_Cmp_l1] at h
      refine T.seq ?_
      refine T.seq ?_
      refine T.region ?_
      refine Run.go (Ev.move rfl rfl) ?_
      refine Run.go (Ev.int rfl rfl rfl rfl trivial) ?_
      refine Run.nil ?_
      refine T.cond rfl (fun hb8 => ?_) (fun hb8 => ?_)
      · replace h := ifT hb8 h
        refine T.skip ?_
        refine T.seq ?_
        refine T.block ?_
        refine T.block ?_
        refine T.seq ?_
        refine T.drawM [] [0, 0, 3, 7, 0, 0, 48, 112, 255, 511] (by kernel_rfl) (by kernel_rfl) ?_
        refine RunD.w (fun _ => Ev.move rfl rfl) ?_
        refine RunD.w (fun _ => Ev.move rfl rfl) ?_
        obtain ⟨x9, e10, h⟩ := bdS h
        refine RunD.a rfl rfl (Ev.e_rd X e10 rfl rfl rfl rfl) ?_
        refine RunD.a rfl rfl (Ev.load X rfl rfl rfl) ?_
        refine RunD.w (fun _ => Ev.move rfl rfl) ?_
        refine RunD.w (fun _ => Ev.move rfl rfl) ?_
        obtain ⟨x11, e12, h⟩ := bdS h
        refine RunD.a rfl rfl (Ev.e_rd X e12 rfl rfl rfl rfl) ?_
        refine RunD.a rfl rfl (Ev.load X rfl rfl rfl) ?_
        refine RunD.w (fun _ => Ev.int rfl rfl rfl rfl trivial) ?_
        refine RunD.w (fun _ => Ev.assign rfl rfl) ?_
        refine RunD.nil ?_
        refine T.cond rfl (fun hb13 => ?_) (fun hb13 => ?_)
        · replace h := ifT hb13 h
          refine T.seq ?_
          refine T.region ?_
          refine Run.go (Ev.assign rfl rfl) ?_
          refine Run.nil ?_
          refine T.ret ?_
          cases h
          cases hz1
          exact Fin.one rfl .v
        · replace h := ifF hb13 h
          refine T.seq ?_
          refine T.drawM [] [0, 0, 3, 7, 0, 0, 48, 112, 255, 511] (by kernel_rfl) (by kernel_rfl) ?_
          refine RunD.w (fun _ => Ev.move rfl rfl) ?_
          refine RunD.w (fun _ => Ev.move rfl rfl) ?_
          obtain ⟨x14, e15, h⟩ := bdS h
          refine RunD.a rfl rfl (Ev.e_rd X e15 rfl rfl rfl rfl) ?_
          refine RunD.a rfl rfl (Ev.load X rfl rfl rfl) ?_
          refine RunD.w (fun _ => Ev.move rfl rfl) ?_
          refine RunD.w (fun _ => Ev.move rfl rfl) ?_
          obtain ⟨x16, e17, h⟩ := bdS h
          refine RunD.a rfl rfl (Ev.e_rd X e17 rfl rfl rfl rfl) ?_
          refine RunD.a rfl rfl (Ev.load X rfl rfl rfl) ?_
          refine RunD.w (fun _ => Ev.int rfl rfl rfl rfl trivial) ?_
          refine RunD.w (fun _ => Ev.assign rfl rfl) ?_
          refine RunD.nil ?_
          refine T.cond rfl (fun hb18 => ?_) (fun hb18 => ?_)
          · replace h := ifT hb18 h
            refine T.seq ?_
            refine T.region ?_
            refine Run.go (Ev.assign rfl rfl) ?_
            refine Run.nil ?_
            refine T.ret ?_
            cases h
            cases hz1
            exact Fin.one rfl .v
          · replace h := ifF hb18 h
            refine T.skip ?_
            refine T.region ?_
            refine Run.go (Ev.move rfl rfl) ?_
            refine Run.go (Ev.int rfl rfl rfl rfl trivial) ?_
            refine Run.go (Ev.assign rfl rfl) ?_
            refine Run.nil ?_
            cases h
            exact LoopT.ghost (Ghost.only [] [0, 1, 5] rfl) hz1
      · replace h := ifF hb8 h
        refine T.exit ?_
        refine T.seq ?_
        refine T.region ?_
        refine Run.go (Ev.assign rfl rfl) ?_
        refine Run.nil ?_
        refine T.ret ?_
        cases h
        cases hz1
        exact Fin.one rfl .v
theorem en52 : Enters Tryz.prog 52 := ⟨_, Tryz.func52, rfl, rfl⟩
theorem k_ratio_Print {p0 : D_api_Rat} {y : ByteArray} (h : m_ratio_Print p0 = some y) : Spec Tryz.prog 52 [(.v Y_api_Rat p0)] (.v .str y) [] := by
  rw [m_ratio_Print] at h
  refine enterN [(.v Y_api_Rat p0)] 19 Tryz.func52 rfl rfl rfl ?_
  refine T.seq ?_
  refine T.region ?_
  refine Run.go (Ev.box 1 rfl rfl rfl rfl) ?_
  refine Run.go (Ev.assign rfl rfl) ?_
  refine Run.nil ?_
  refine T.seq ?_
  refine T.region ?_
  refine Run.go (Ev.fieldBox X rfl rfl rfl rfl rfl) ?_
  refine Run.go (Ev.loadBox X rfl rfl rfl rfl rfl) ?_
  obtain ⟨x1, e2, h⟩ := bdS h
  refine Run.go (Ev.callC en65 (k_whole_Print e2) rfl (.cons .v .nil) rfl rfl) ?_
  refine Run.go (Ev.assign rfl rfl) ?_
  refine Run.nil ?_
  refine T.seq ?_
  refine T.seq ?_
  refine T.drawM [] [0, 1, 0, 7, 15] (by kernel_rfl) (by kernel_rfl) ?_
  refine RunD.a rfl rfl (Ev.fieldBox X rfl rfl rfl rfl rfl) ?_
  refine RunD.a rfl rfl (Ev.loadCell X rfl rfl rfl rfl rfl rfl) ?_
  obtain ⟨x3, e4, h⟩ := bdS h
  refine RunD.a rfl rfl (Ev.callC en67 (k_nat_Of e4) rfl (.cons .v .nil) rfl rfl) ?_
  obtain ⟨x5, e6, h⟩ := bdS h
  refine RunD.a rfl rfl (Ev.callC en66 (k_nat_Cmp e6) rfl (.cons .v (.cons .v .nil)) rfl rfl) ?_
  refine RunD.w (fun _ => Ev.int rfl rfl rfl rfl trivial) ?_
  refine RunD.nil ?_
  refine T.cond rfl (fun hb7 => ?_) (fun hb7 => ?_)
  · replace h := ifT hb7 h
    refine T.seq ?_
    refine T.region ?_
    refine Run.go (Ev.move rfl rfl) ?_
    refine Run.go (Ev.assign rfl rfl) ?_
    refine Run.nil ?_
    refine T.ret ?_
    cases h
    exact Fin.one rfl .v
  · replace h := ifF hb7 h
    refine T.skip ?_
    refine T.seq ?_
    refine T.region ?_
    refine Run.go (Ev.move rfl rfl) ?_
    obtain ⟨x8, e9, h⟩ := bdS h
    refine Run.go (Ev.e_cat e9 rfl rfl rfl) ?_
    refine Run.go (Ev.fieldBox X rfl rfl rfl rfl rfl) ?_
    refine Run.go (Ev.loadCell X rfl rfl rfl rfl rfl rfl) ?_
    obtain ⟨x10, e11, h⟩ := bdS h
    refine Run.go (Ev.callC en68 (k_digits_Print e11) rfl (.cons .v .nil) rfl rfl) ?_
    obtain ⟨x12, e13, h⟩ := bdS h
    refine Run.go (Ev.e_cat e13 rfl rfl rfl) ?_
    refine Run.go (Ev.assign rfl rfl) ?_
    refine Run.nil ?_
    refine T.ret ?_
    cases h
    exact Fin.one rfl .v
theorem en30 : Enters Tryz.prog 30 := ⟨_, Tryz.func30, rfl, rfl⟩
theorem k_canon_link {p0 : D_api_Link} {y : ByteArray} (h : m_canon_link p0 = some y) : Spec Tryz.prog 30 [(.v Y_api_Link p0)] (.v .str y) [] := by
  rw [m_canon_link] at h
  refine enterN [(.v Y_api_Link p0)] 15 Tryz.func30 rfl rfl rfl ?_
  refine T.seq ?_
  refine T.region ?_
  refine Run.go (Ev.box 1 rfl rfl rfl rfl) ?_
  refine Run.go (Ev.assign rfl rfl) ?_
  refine Run.nil ?_
  refine T.seq ?_
  refine T.drawM [9] [0, 1, 0, 4, 0, 16, 0, 64, 192, 511, 1023, 2047, 4095] (by kernel_rfl) (by kernel_rfl) ?_
  refine RunD.a rfl rfl (Ev.fieldBox X rfl rfl rfl rfl rfl) ?_
  refine RunD.a rfl rfl (Ev.loadCell X rfl rfl rfl rfl rfl rfl) ?_
  refine RunD.a rfl rfl (Ev.fieldBox X rfl rfl rfl rfl rfl) ?_
  refine RunD.a rfl rfl (Ev.loadCell X rfl rfl rfl rfl rfl rfl) ?_
  refine RunD.a rfl rfl (Ev.fieldBox X rfl rfl rfl rfl rfl) ?_
  refine RunD.a rfl rfl (Ev.loadCell X rfl rfl rfl rfl rfl rfl) ?_
  refine RunD.a rfl rfl (Ev.fieldBox X rfl rfl rfl rfl rfl) ?_
  refine RunD.a rfl rfl (Ev.loadBox X rfl rfl rfl rfl rfl) ?_
  obtain ⟨x1, e2, h⟩ := bdS h
  refine RunD.a rfl rfl (Ev.callC en52 (k_ratio_Print e2) rfl (.cons .v .nil) rfl rfl) ?_
  refine RunD.mD rfl (Ev.build X 2 rfl rfl rfl rfl rfl rfl rfl rfl) ?_
  obtain ⟨x3, e4, h⟩ := bdS h
  refine RunD.a rfl rfl (Ev.lend rfl (.cons (.own rfl) .nil) en19 (k_canon_words e4) rfl rfl) ?_
  obtain ⟨x5, e6, h⟩ := bdS h
  refine RunD.w (fun _ => Ev.e_cat e6 rfl rfl rfl) ?_
  refine RunD.w (fun _ => Ev.assign rfl rfl) ?_
  refine RunD.nil ?_
  refine T.ret ?_
  cases h
  exact Fin.one rfl .v
theorem en29 : Enters Tryz.prog 29 := ⟨_, Tryz.func29, rfl, rfl⟩
theorem k_canon_each_api_Link__canon_link {p0 : (List D_api_Link)} {y : (List ByteArray)} (h : m_canon_each_api_Link__canon_link p0 = some y) : Spec Tryz.prog 29 [(.v (.sl Y_api_Link) p0), (.fn 30 [])] (.v (.sl .str) y) [] := by
  rw [m_canon_each_api_Link__canon_link] at h
  refine enterN [(.v (.sl Y_api_Link) p0), (.fn 30 [])] 26 Tryz.func29 rfl rfl rfl ?_
  refine T.seq ?_
  refine T.region ?_
  refine Run.go (Ev.assign rfl rfl) ?_
  refine Run.nil ?_
  refine T.seq ?_
  refine T.region ?_
  refine Run.go (Ev.move rfl rfl) ?_
  refine Run.go (Ev.len X rfl rfl rfl rfl) ?_
  obtain ⟨x1, e2, h⟩ := bdS h
  refine Run.go (Ev.e_mk X 1 e2 rfl rfl rfl rfl rfl rfl) ?_
  refine Run.go (Ev.assign rfl rfl) ?_
  refine Run.nil ?_
  obtain ⟨v3, hv, h⟩ := bdS h
  refine T.cut (fun _ : Unit => (⟨[(5, .own 1)], [(1, .arr 9 .str v3)], 26⟩ : St)) (fun _ => True) ?_ (fun _ _ => ?_)
  · replace h := hv
    clear hv
    refine T.seq ?_
    refine T.region ?_
    refine Run.go (Ev.move rfl rfl) ?_
    refine Run.go (Ev.len X rfl rfl rfl rfl) ?_
    refine Run.go (Ev.move rfl rfl) ?_
    refine Run.nil ?_
    refine T.block ?_
    refine T.loop (LoopT.ghost (Ghost.only [(1, 1)] [1, 5, 11, 12, 13] rfl) (LoopT.run (fun q : Int × (List ByteArray) => (⟨[(1, .fn 30 []), (5, .own 1), (11, .v (.sl Y_api_Link) p0), (12, .v (.int .i64) ((p0.length : Int) : Int)), (13, .v (.int .i64) q.1)], [(1, .arr 9 .str q.2)], 26⟩ : St)) (fun q z1 h hz1 => ?_) h))
    obtain ⟨v4, v5⟩ := q
    dsimp only
    rw [m_canon_each_api_Link__canon_link_l1] at h
    refine T.seq ?_
    refine T.region ?_
    refine Run.go (Ev.int rfl rfl rfl rfl trivial) ?_
    refine Run.nil ?_
    refine T.seq ?_
    refine T.cond rfl (fun hb6 => ?_) (fun hb6 => ?_)
    · replace h := ifT hb6 h
      refine T.skip ?_
      refine T.seq ?_
      refine T.block ?_
      refine T.seq ?_
      refine T.region ?_
      refine Run.go (Ev.move rfl rfl) ?_
      obtain ⟨x7, e8, h⟩ := bdS h
      refine Run.go (Ev.e_rd X e8 rfl rfl rfl rfl) ?_
      refine Run.go (Ev.load X rfl rfl rfl) ?_
      refine Run.go (Ev.allocN X 14 rfl rfl rfl) ?_
      refine Run.go (Ev.assign rfl rfl) ?_
      refine Run.do_ (Ev.storeBox X rfl rfl rfl rfl rfl rfl rfl) ?_
      refine Run.nil ?_
      refine T.region ?_
      refine Run.go (Ev.move rfl rfl) ?_
      refine Run.go (Ev.move rfl rfl) ?_
      refine Run.go (Ev.move rfl rfl) ?_
      refine Run.go (Ev.loadBox X rfl rfl rfl rfl rfl) ?_
      obtain ⟨x9, e10, h⟩ := bdS h
      refine Run.go (Ev.callC en30 (k_canon_link e10) rfl (.cons .v .nil) rfl rfl) ?_
      obtain ⟨j11, e12, h⟩ := bdS h
      refine Run.go (Ev.e_ixO X e12 rfl rfl rfl rfl rfl) ?_
      obtain ⟨x13, e14, h⟩ := ltS h
      refine Run.do_ (Ev.asO (Ev.storeEl X rfl rfl rfl rfl rfl) e14) ?_
      refine Run.nil ?_
      refine T.region ?_
      refine Run.go (Ev.int rfl rfl rfl rfl trivial) ?_
      refine Run.go (Ev.move rfl rfl) ?_
      refine Run.nil ?_
      cases h
      exact LoopT.ghost (Ghost.only [(1, 1)] [1, 5, 11, 12, 13] rfl) hz1
    · replace h := ifF hb6 h
      refine T.exit ?_
      cases h
      cases hz1
      exact ⟨(), trivial, Ghost.only [(1, 1)] [5] rfl⟩
  · refine T.seq ?_
    refine T.region ?_
    refine Run.go (Ev.move rfl rfl) ?_
    refine Run.go (Ev.assign rfl rfl) ?_
    refine Run.nil ?_
    refine T.ret ?_
    cases h
    exact Fin.one rfl (.own rfl)
theorem en48 : Enters Tryz.prog 48 := ⟨_, Tryz.func48, rfl, rfl⟩
theorem k_canon_hop {p0 : D_api_Hop} {y : ByteArray} (h : m_canon_hop p0 = some y) : Spec Tryz.prog 48 [(.v Y_api_Hop p0)] (.v .str y) [] := by
  rw [m_canon_hop] at h
  refine enterN [(.v Y_api_Hop p0)] 15 Tryz.func48 rfl rfl rfl ?_
  refine T.seq ?_
  refine T.region ?_
  refine Run.go (Ev.box 1 rfl rfl rfl rfl) ?_
  refine Run.go (Ev.assign rfl rfl) ?_
  refine Run.nil ?_
  refine T.seq ?_
  refine T.seq ?_
  refine T.region ?_
  refine Run.go (Ev.fieldBox X rfl rfl rfl rfl rfl) ?_
  refine Run.go (Ev.loadCell X rfl rfl rfl rfl rfl rfl) ?_
  refine Run.go (Ev.int rfl rfl rfl rfl trivial) ?_
  refine Run.nil ?_
  refine T.cond rfl (fun hb1 => ?_) (fun hb1 => ?_)
  · replace h := ifT hb1 h
    refine T.seq ?_
    refine T.region ?_
    refine Run.go (Ev.fieldBox X rfl rfl rfl rfl rfl) ?_
    refine Run.go (Ev.loadCell X rfl rfl rfl rfl rfl rfl) ?_
    refine Run.go (Ev.assign rfl rfl) ?_
    refine Run.nil ?_
    refine T.ret ?_
    cases h
    exact Fin.one rfl .v
  · replace h := ifF hb1 h
    refine T.skip ?_
    refine T.seq ?_
    refine T.drawM [] [0, 1, 3, 0, 8, 24, 63, 127] (by kernel_rfl) (by kernel_rfl) ?_
    refine RunD.a rfl rfl (Ev.fieldBox X rfl rfl rfl rfl rfl) ?_
    refine RunD.a rfl rfl (Ev.loadCell X rfl rfl rfl rfl rfl rfl) ?_
    obtain ⟨x2, e3, h⟩ := bdS h
    refine RunD.w (fun _ => Ev.e_cat e3 rfl rfl rfl) ?_
    refine RunD.a rfl rfl (Ev.fieldBox X rfl rfl rfl rfl rfl) ?_
    refine RunD.a rfl rfl (Ev.loadCell X rfl rfl rfl rfl rfl rfl) ?_
    obtain ⟨x4, e5, h⟩ := bdS h
    refine RunD.a rfl rfl (Ev.callC en46 (k_strconv_Itoa e5) rfl (.cons .v .nil) rfl rfl) ?_
    obtain ⟨x6, e7, h⟩ := bdS h
    refine RunD.w (fun _ => Ev.e_cat e7 rfl rfl rfl) ?_
    refine RunD.w (fun _ => Ev.assign rfl rfl) ?_
    refine RunD.nil ?_
    refine T.ret ?_
    cases h
    exact Fin.one rfl .v
theorem en47 : Enters Tryz.prog 47 := ⟨_, Tryz.func47, rfl, rfl⟩
theorem k_canon_each_api_Hop__canon_hop {p0 : (List D_api_Hop)} {y : (List ByteArray)} (h : m_canon_each_api_Hop__canon_hop p0 = some y) : Spec Tryz.prog 47 [(.v (.sl Y_api_Hop) p0), (.fn 48 [])] (.v (.sl .str) y) [] := by
  rw [m_canon_each_api_Hop__canon_hop] at h
  refine enterN [(.v (.sl Y_api_Hop) p0), (.fn 48 [])] 26 Tryz.func47 rfl rfl rfl ?_
  refine T.seq ?_
  refine T.region ?_
  refine Run.go (Ev.assign rfl rfl) ?_
  refine Run.nil ?_
  refine T.seq ?_
  refine T.region ?_
  refine Run.go (Ev.move rfl rfl) ?_
  refine Run.go (Ev.len X rfl rfl rfl rfl) ?_
  obtain ⟨x1, e2, h⟩ := bdS h
  refine Run.go (Ev.e_mk X 1 e2 rfl rfl rfl rfl rfl rfl) ?_
  refine Run.go (Ev.assign rfl rfl) ?_
  refine Run.nil ?_
  obtain ⟨v3, hv, h⟩ := bdS h
  refine T.cut (fun _ : Unit => (⟨[(5, .own 1)], [(1, .arr 9 .str v3)], 26⟩ : St)) (fun _ => True) ?_ (fun _ _ => ?_)
  · replace h := hv
    clear hv
    refine T.seq ?_
    refine T.region ?_
    refine Run.go (Ev.move rfl rfl) ?_
    refine Run.go (Ev.len X rfl rfl rfl rfl) ?_
    refine Run.go (Ev.move rfl rfl) ?_
    refine Run.nil ?_
    refine T.block ?_
    refine T.loop (LoopT.ghost (Ghost.only [(1, 1)] [1, 5, 11, 12, 13] rfl) (LoopT.run (fun q : Int × (List ByteArray) => (⟨[(1, .fn 48 []), (5, .own 1), (11, .v (.sl Y_api_Hop) p0), (12, .v (.int .i64) ((p0.length : Int) : Int)), (13, .v (.int .i64) q.1)], [(1, .arr 9 .str q.2)], 26⟩ : St)) (fun q z1 h hz1 => ?_) h))
    obtain ⟨v4, v5⟩ := q
    dsimp only
    rw [m_canon_each_api_Hop__canon_hop_l1] at h
    refine T.seq ?_
    refine T.region ?_
    refine Run.go (Ev.int rfl rfl rfl rfl trivial) ?_
    refine Run.nil ?_
    refine T.seq ?_
    refine T.cond rfl (fun hb6 => ?_) (fun hb6 => ?_)
    · replace h := ifT hb6 h
      refine T.skip ?_
      refine T.seq ?_
      refine T.block ?_
      refine T.seq ?_
      refine T.region ?_
      refine Run.go (Ev.move rfl rfl) ?_
      obtain ⟨x7, e8, h⟩ := bdS h
      refine Run.go (Ev.e_rd X e8 rfl rfl rfl rfl) ?_
      refine Run.go (Ev.load X rfl rfl rfl) ?_
      refine Run.go (Ev.allocN X 14 rfl rfl rfl) ?_
      refine Run.go (Ev.assign rfl rfl) ?_
      refine Run.do_ (Ev.storeBox X rfl rfl rfl rfl rfl rfl rfl) ?_
      refine Run.nil ?_
      refine T.region ?_
      refine Run.go (Ev.move rfl rfl) ?_
      refine Run.go (Ev.move rfl rfl) ?_
      refine Run.go (Ev.move rfl rfl) ?_
      refine Run.go (Ev.loadBox X rfl rfl rfl rfl rfl) ?_
      obtain ⟨x9, e10, h⟩ := bdS h
      refine Run.go (Ev.callC en48 (k_canon_hop e10) rfl (.cons .v .nil) rfl rfl) ?_
      obtain ⟨j11, e12, h⟩ := bdS h
      refine Run.go (Ev.e_ixO X e12 rfl rfl rfl rfl rfl) ?_
      obtain ⟨x13, e14, h⟩ := ltS h
      refine Run.do_ (Ev.asO (Ev.storeEl X rfl rfl rfl rfl rfl) e14) ?_
      refine Run.nil ?_
      refine T.region ?_
      refine Run.go (Ev.int rfl rfl rfl rfl trivial) ?_
      refine Run.go (Ev.move rfl rfl) ?_
      refine Run.nil ?_
      cases h
      exact LoopT.ghost (Ghost.only [(1, 1)] [1, 5, 11, 12, 13] rfl) hz1
    · replace h := ifF hb6 h
      refine T.exit ?_
      cases h
      cases hz1
      exact ⟨(), trivial, Ghost.only [(1, 1)] [5] rfl⟩
  · refine T.seq ?_
    refine T.region ?_
    refine Run.go (Ev.move rfl rfl) ?_
    refine Run.go (Ev.assign rfl rfl) ?_
    refine Run.nil ?_
    refine T.ret ?_
    cases h
    exact Fin.one rfl (.own rfl)
theorem en22 : Enters Tryz.prog 22 := ⟨_, Tryz.func22, rfl, rfl⟩
theorem k_canon_group {p0 : (List D_api_Hop)} {y : ByteArray} (h : m_canon_group p0 = some y) : Spec Tryz.prog 22 [(.v (.sl Y_api_Hop) p0)] (.v .str y) [] := by
  rw [m_canon_group] at h
  refine enterN [(.v (.sl Y_api_Hop) p0)] 6 Tryz.func22 rfl rfl rfl ?_
  refine T.seq ?_
  refine T.region ?_
  refine Run.go (Ev.assign rfl rfl) ?_
  refine Run.nil ?_
  refine T.seq ?_
  refine T.region ?_
  refine Run.go (Ev.move rfl rfl) ?_
  obtain ⟨x1, e2, h⟩ := bdS h
  refine Run.go (Ev.callC en47 (k_canon_each_api_Hop__canon_hop e2) rfl (.cons .v (.cons (.fn rfl) .nil)) rfl rfl) ?_
  obtain ⟨x3, e4, h⟩ := bdS h
  refine Run.go (Ev.callC en12 (k_strings_Join e4) rfl (.cons .v (.cons .v .nil)) rfl rfl) ?_
  refine Run.go (Ev.assign rfl rfl) ?_
  refine Run.nil ?_
  refine T.ret ?_
  cases h
  exact Fin.one rfl .v
theorem en21 : Enters Tryz.prog 21 := ⟨_, Tryz.func21, rfl, rfl⟩
theorem k_canon_each_api_Hop__canon_group {p0 : (List (List D_api_Hop))} {y : (List ByteArray)} (h : m_canon_each_api_Hop__canon_group p0 = some y) : Spec Tryz.prog 21 [(.v (.sl (.sl Y_api_Hop)) p0), (.fn 22 [])] (.v (.sl .str) y) [] := by
  rw [m_canon_each_api_Hop__canon_group] at h
  refine enterN [(.v (.sl (.sl Y_api_Hop)) p0), (.fn 22 [])] 26 Tryz.func21 rfl rfl rfl ?_
  refine T.seq ?_
  refine T.region ?_
  refine Run.go (Ev.assign rfl rfl) ?_
  refine Run.nil ?_
  refine T.seq ?_
  refine T.region ?_
  refine Run.go (Ev.move rfl rfl) ?_
  refine Run.go (Ev.len X rfl rfl rfl rfl) ?_
  obtain ⟨x1, e2, h⟩ := bdS h
  refine Run.go (Ev.e_mk X 1 e2 rfl rfl rfl rfl rfl rfl) ?_
  refine Run.go (Ev.assign rfl rfl) ?_
  refine Run.nil ?_
  obtain ⟨v3, hv, h⟩ := bdS h
  refine T.cut (fun _ : Unit => (⟨[(5, .own 1)], [(1, .arr 9 .str v3)], 26⟩ : St)) (fun _ => True) ?_ (fun _ _ => ?_)
  · replace h := hv
    clear hv
    refine T.seq ?_
    refine T.region ?_
    refine Run.go (Ev.move rfl rfl) ?_
    refine Run.go (Ev.len X rfl rfl rfl rfl) ?_
    refine Run.go (Ev.move rfl rfl) ?_
    refine Run.nil ?_
    refine T.block ?_
    refine T.loop (LoopT.ghost (Ghost.only [(1, 1)] [1, 5, 11, 12, 13] rfl) (LoopT.run (fun q : Int × (List ByteArray) => (⟨[(1, .fn 22 []), (5, .own 1), (11, .v (.sl (.sl Y_api_Hop)) p0), (12, .v (.int .i64) ((p0.length : Int) : Int)), (13, .v (.int .i64) q.1)], [(1, .arr 9 .str q.2)], 26⟩ : St)) (fun q z1 h hz1 => ?_) h))
    obtain ⟨v4, v5⟩ := q
    dsimp only
    rw [m_canon_each_api_Hop__canon_group_l1] at h
    refine T.seq ?_
    refine T.region ?_
    refine Run.go (Ev.int rfl rfl rfl rfl trivial) ?_
    refine Run.nil ?_
    refine T.seq ?_
    refine T.cond rfl (fun hb6 => ?_) (fun hb6 => ?_)
    · replace h := ifT hb6 h
      refine T.skip ?_
      refine T.seq ?_
      refine T.block ?_
      refine T.seq ?_
      refine T.region ?_
      refine Run.go (Ev.move rfl rfl) ?_
      obtain ⟨x7, e8, h⟩ := bdS h
      refine Run.go (Ev.e_rd X e8 rfl rfl rfl rfl) ?_
      refine Run.go (Ev.load X rfl rfl rfl) ?_
      refine Run.go (Ev.assign rfl rfl) ?_
      refine Run.go (Ev.assign rfl rfl) ?_
      refine Run.nil ?_
      refine T.region ?_
      refine Run.go (Ev.move rfl rfl) ?_
      refine Run.go (Ev.move rfl rfl) ?_
      refine Run.go (Ev.move rfl rfl) ?_
      refine Run.go (Ev.move rfl rfl) ?_
      obtain ⟨x9, e10, h⟩ := bdS h
      refine Run.go (Ev.callC en22 (k_canon_group e10) rfl (.cons .v .nil) rfl rfl) ?_
      obtain ⟨j11, e12, h⟩ := bdS h
      refine Run.go (Ev.e_ixO X e12 rfl rfl rfl rfl rfl) ?_
      obtain ⟨x13, e14, h⟩ := ltS h
      refine Run.do_ (Ev.asO (Ev.storeEl X rfl rfl rfl rfl rfl) e14) ?_
      refine Run.nil ?_
      refine T.region ?_
      refine Run.go (Ev.int rfl rfl rfl rfl trivial) ?_
      refine Run.go (Ev.move rfl rfl) ?_
      refine Run.nil ?_
      cases h
      exact LoopT.ghost (Ghost.only [(1, 1)] [1, 5, 11, 12, 13] rfl) hz1
    · replace h := ifF hb6 h
      refine T.exit ?_
      cases h
      cases hz1
      exact ⟨(), trivial, Ghost.only [(1, 1)] [5] rfl⟩
  · refine T.seq ?_
    refine T.region ?_
    refine Run.go (Ev.move rfl rfl) ?_
    refine Run.go (Ev.assign rfl rfl) ?_
    refine Run.nil ?_
    refine T.ret ?_
    cases h
    exact Fin.one rfl (.own rfl)
theorem en8 : Enters Tryz.prog 8 := ⟨_, Tryz.func8, rfl, rfl⟩
theorem k_canon_Rule {p0 : D_api_Rule} {y : ByteArray} (h : m_canon_Rule p0 = some y) : Spec Tryz.prog 8 [(.v Y_api_Rule p0)] (.v .str y) [] := by
  rw [m_canon_Rule] at h
  refine enterN [(.v Y_api_Rule p0)] 25 Tryz.func8 rfl rfl rfl ?_
  refine T.seq ?_
  refine T.region ?_
  refine Run.go (Ev.box 1 rfl rfl rfl rfl) ?_
  refine Run.go (Ev.assign rfl rfl) ?_
  refine Run.nil ?_
  refine T.seq ?_
  refine T.drawM [5] [0, 1, 0, 4, 12, 31, 63, 127] (by kernel_rfl) (by kernel_rfl) ?_
  refine RunD.a rfl rfl (Ev.fieldBox X rfl rfl rfl rfl rfl) ?_
  refine RunD.a rfl rfl (Ev.loadCell X rfl rfl rfl rfl rfl rfl) ?_
  refine RunD.a rfl rfl (Ev.fieldBox X rfl rfl rfl rfl rfl) ?_
  refine RunD.a rfl rfl (Ev.loadBox X rfl rfl rfl rfl rfl) ?_
  obtain ⟨x1, e2, h⟩ := bdS h
  refine RunD.a rfl rfl (Ev.callC en20 (k_addr_Text e2) rfl (.cons .v .nil) rfl rfl) ?_
  refine RunD.mD rfl (Ev.build X 2 rfl rfl rfl rfl rfl rfl rfl rfl) ?_
  obtain ⟨x3, e4, h⟩ := bdS h
  refine RunD.a rfl rfl (Ev.lend rfl (.cons (.own rfl) .nil) en19 (k_canon_words e4) rfl rfl) ?_
  refine RunD.w (fun _ => Ev.assign rfl rfl) ?_
  refine RunD.nil ?_
  refine T.seq ?_
  refine T.seq ?_
  refine T.region ?_
  refine Run.go (Ev.fieldBox X rfl rfl rfl rfl rfl) ?_
  refine Run.go (Ev.loadCell X rfl rfl rfl rfl rfl rfl) ?_
  refine Run.nil ?_
  refine T.cond rfl (fun hb5 => ?_) (fun hb5 => ?_)
  · replace h := ifT hb5 h
    refine T.seq ?_
    refine T.region ?_
    refine Run.go (Ev.move rfl rfl) ?_
    refine Run.go (Ev.build X 3 rfl rfl rfl rfl rfl rfl rfl rfl) ?_
    obtain ⟨x6, e7, h⟩ := bdS h
    refine Run.go (Ev.lend rfl (.cons (.own rfl) .nil) en19 (k_canon_words e7) rfl rfl) ?_
    obtain ⟨x8, e9, h⟩ := bdS h
    refine Run.go (Ev.e_cat e9 rfl rfl rfl) ?_
    refine Run.go (Ev.assign rfl rfl) ?_
    refine Run.nil ?_
    refine T.ret ?_
    cases h
    exact Fin.one rfl .v
  · replace h := ifF hb5 h
    refine T.skip ?_
    refine T.seq ?_
    refine T.region ?_
    refine Run.go (Ev.move rfl rfl) ?_
    refine Run.go (Ev.fieldBox X rfl rfl rfl rfl rfl) ?_
    refine Run.go (Ev.loadCell X rfl rfl rfl rfl rfl rfl) ?_
    obtain ⟨x10, e11, h⟩ := bdS h
    refine Run.go (Ev.callC en21 (k_canon_each_api_Hop__canon_group e11) rfl (.cons .v (.cons (.fn rfl) .nil)) rfl rfl) ?_
    obtain ⟨x12, e13, h⟩ := bdS h
    refine Run.go (Ev.callC en12 (k_strings_Join e13) rfl (.cons .v (.cons .v .nil)) rfl rfl) ?_
    refine Run.go (Ev.build X 4 rfl rfl rfl rfl rfl rfl rfl rfl) ?_
    obtain ⟨x14, e15, h⟩ := bdS h
    refine Run.go (Ev.lend rfl (.cons (.own rfl) .nil) en19 (k_canon_words e15) rfl rfl) ?_
    obtain ⟨x16, e17, h⟩ := bdS h
    refine Run.go (Ev.e_cat e17 rfl rfl rfl) ?_
    refine Run.go (Ev.assign rfl rfl) ?_
    refine Run.nil ?_
    refine T.ret ?_
    cases h
    exact Fin.one rfl .v
theorem en31 : Enters Tryz.prog 31 := ⟨_, Tryz.func31, rfl, rfl⟩
theorem k_canon_each_api_Rule__canon_Rule {p0 : (List D_api_Rule)} {y : (List ByteArray)} (h : m_canon_each_api_Rule__canon_Rule p0 = some y) : Spec Tryz.prog 31 [(.v (.sl Y_api_Rule) p0), (.fn 8 [])] (.v (.sl .str) y) [] := by
  rw [m_canon_each_api_Rule__canon_Rule] at h
  refine enterN [(.v (.sl Y_api_Rule) p0), (.fn 8 [])] 26 Tryz.func31 rfl rfl rfl ?_
  refine T.seq ?_
  refine T.region ?_
  refine Run.go (Ev.assign rfl rfl) ?_
  refine Run.nil ?_
  refine T.seq ?_
  refine T.region ?_
  refine Run.go (Ev.move rfl rfl) ?_
  refine Run.go (Ev.len X rfl rfl rfl rfl) ?_
  obtain ⟨x1, e2, h⟩ := bdS h
  refine Run.go (Ev.e_mk X 1 e2 rfl rfl rfl rfl rfl rfl) ?_
  refine Run.go (Ev.assign rfl rfl) ?_
  refine Run.nil ?_
  obtain ⟨v3, hv, h⟩ := bdS h
  refine T.cut (fun _ : Unit => (⟨[(5, .own 1)], [(1, .arr 9 .str v3)], 26⟩ : St)) (fun _ => True) ?_ (fun _ _ => ?_)
  · replace h := hv
    clear hv
    refine T.seq ?_
    refine T.region ?_
    refine Run.go (Ev.move rfl rfl) ?_
    refine Run.go (Ev.len X rfl rfl rfl rfl) ?_
    refine Run.go (Ev.move rfl rfl) ?_
    refine Run.nil ?_
    refine T.block ?_
    refine T.loop (LoopT.ghost (Ghost.only [(1, 1)] [1, 5, 11, 12, 13] rfl) (LoopT.run (fun q : Int × (List ByteArray) => (⟨[(1, .fn 8 []), (5, .own 1), (11, .v (.sl Y_api_Rule) p0), (12, .v (.int .i64) ((p0.length : Int) : Int)), (13, .v (.int .i64) q.1)], [(1, .arr 9 .str q.2)], 26⟩ : St)) (fun q z1 h hz1 => ?_) h))
    obtain ⟨v4, v5⟩ := q
    dsimp only
    rw [m_canon_each_api_Rule__canon_Rule_l1] at h
    refine T.seq ?_
    refine T.region ?_
    refine Run.go (Ev.int rfl rfl rfl rfl trivial) ?_
    refine Run.nil ?_
    refine T.seq ?_
    refine T.cond rfl (fun hb6 => ?_) (fun hb6 => ?_)
    · replace h := ifT hb6 h
      refine T.skip ?_
      refine T.seq ?_
      refine T.block ?_
      refine T.seq ?_
      refine T.region ?_
      refine Run.go (Ev.move rfl rfl) ?_
      obtain ⟨x7, e8, h⟩ := bdS h
      refine Run.go (Ev.e_rd X e8 rfl rfl rfl rfl) ?_
      refine Run.go (Ev.load X rfl rfl rfl) ?_
      refine Run.go (Ev.allocN X 14 rfl rfl rfl) ?_
      refine Run.go (Ev.assign rfl rfl) ?_
      refine Run.do_ (Ev.storeBox X rfl rfl rfl rfl rfl rfl rfl) ?_
      refine Run.nil ?_
      refine T.region ?_
      refine Run.go (Ev.move rfl rfl) ?_
      refine Run.go (Ev.move rfl rfl) ?_
      refine Run.go (Ev.move rfl rfl) ?_
      refine Run.go (Ev.loadBox X rfl rfl rfl rfl rfl) ?_
      obtain ⟨x9, e10, h⟩ := bdS h
      refine Run.go (Ev.callC en8 (k_canon_Rule e10) rfl (.cons .v .nil) rfl rfl) ?_
      obtain ⟨j11, e12, h⟩ := bdS h
      refine Run.go (Ev.e_ixO X e12 rfl rfl rfl rfl rfl) ?_
      obtain ⟨x13, e14, h⟩ := ltS h
      refine Run.do_ (Ev.asO (Ev.storeEl X rfl rfl rfl rfl rfl) e14) ?_
      refine Run.nil ?_
      refine T.region ?_
      refine Run.go (Ev.int rfl rfl rfl rfl trivial) ?_
      refine Run.go (Ev.move rfl rfl) ?_
      refine Run.nil ?_
      cases h
      exact LoopT.ghost (Ghost.only [(1, 1)] [1, 5, 11, 12, 13] rfl) hz1
    · replace h := ifF hb6 h
      refine T.exit ?_
      cases h
      cases hz1
      exact ⟨(), trivial, Ghost.only [(1, 1)] [5] rfl⟩
  · refine T.seq ?_
    refine T.region ?_
    refine Run.go (Ev.move rfl rfl) ?_
    refine Run.go (Ev.assign rfl rfl) ?_
    refine Run.nil ?_
    refine T.ret ?_
    cases h
    exact Fin.one rfl (.own rfl)
theorem en14 : Enters Tryz.prog 14 := ⟨_, Tryz.func14, rfl, rfl⟩
theorem k_canon_net {p0 : D_api_Net} {y : ByteArray} (h : m_canon_net p0 = some y) : Spec Tryz.prog 14 [(.v Y_api_Net p0)] (.v .str y) [] := by
  rw [m_canon_net] at h
  refine enterN [(.v Y_api_Net p0)] 43 Tryz.func14 rfl rfl rfl ?_
  refine T.seq ?_
  refine T.region ?_
  refine Run.go (Ev.box 1 rfl rfl rfl rfl) ?_
  refine Run.go (Ev.assign rfl rfl) ?_
  refine Run.nil ?_
  refine T.seq ?_
  refine T.region ?_
  refine Run.go (Ev.e_allocB 2 3 5 zs77 rfl rfl rfl) ?_
  refine Run.nil ?_
  refine T.seq ?_
  refine T.region ?_
  refine Run.go (Ev.fieldBox X rfl rfl rfl rfl rfl) ?_
  refine Run.go (Ev.loadCell X rfl rfl rfl rfl rfl rfl) ?_
  refine Run.go (Ev.build X 4 rfl rfl rfl rfl rfl rfl rfl rfl) ?_
  obtain ⟨x1, e2, h⟩ := bdS h
  refine Run.go (Ev.lend rfl (.cons (.own rfl) .nil) en19 (k_canon_words e2) rfl rfl) ?_
  obtain ⟨x3, e4, h⟩ := bdS h
  refine Run.go (Ev.e_cat e4 rfl rfl rfl) ?_
  obtain ⟨x6, e5, h⟩ := bdS h
  refine Run.go (Ev.w3 (Ev.lendM [(2, 1), (3, 2)] [(1, 2), (2, 3), (4, 5)] en25 (k_strings_Builder_WriteString_M e5) rfl (.cons (.ren rfl) (.cons (.ren rfl) .nil)) rfl rfl rfl rfl rfl (A := .tup [.v (.int .i64) ((x3.size : Int) : Int), .bot]) rfl (W := [(2, .box [.pn x6.1 2 0 77, .owz 5]), (3, .dead), (5, .arr 5 (.int .u8) x6.2)]) rfl rfl)) ?_
  refine Run.nil ?_
  obtain ⟨⟨v7, v8⟩, hv, h⟩ := bdS h
  refine T.cut (fun _ : Unit => (⟨[(3, .box 2 0)], [(2, .box [.pn v7 2 0 77, .owz 39]), (39, .arr 5 (.int .u8) v8)], 43⟩ : St)) (fun _ => True) ?_ (fun _ _ => ?_)
  · replace h := hv
    clear hv
    refine T.seq ?_
    refine T.drawM [9] [0, 1, 3, 0, 8, 31, 0, 64, 255, 511, 1023, 0] (by kernel_rfl) (by kernel_rfl) ?_
    refine RunD.a rfl rfl (Ev.fieldBox X rfl rfl rfl rfl rfl) ?_
    refine RunD.a rfl rfl (Ev.loadCell X rfl rfl rfl rfl rfl rfl) ?_
    obtain ⟨x9, e10, h⟩ := bdS h
    refine RunD.a rfl rfl (Ev.callC en27 (k_canon_each_api_Node__canon_node e10) rfl (.cons .v (.cons (.fn rfl) .nil)) rfl rfl) ?_
    refine RunD.a rfl rfl (Ev.fieldBox X rfl rfl rfl rfl rfl) ?_
    refine RunD.a rfl rfl (Ev.loadCell X rfl rfl rfl rfl rfl rfl) ?_
    obtain ⟨x11, e12, h⟩ := bdS h
    refine RunD.a rfl rfl (Ev.callC en29 (k_canon_each_api_Link__canon_link e12) rfl (.cons .v (.cons (.fn rfl) .nil)) rfl rfl) ?_
    refine RunD.a rfl rfl (Ev.fieldBox X rfl rfl rfl rfl rfl) ?_
    refine RunD.a rfl rfl (Ev.loadCell X rfl rfl rfl rfl rfl rfl) ?_
    obtain ⟨x13, e14, h⟩ := bdS h
    refine RunD.a rfl rfl (Ev.callC en31 (k_canon_each_api_Rule__canon_Rule e14) rfl (.cons .v (.cons (.fn rfl) .nil)) rfl rfl) ?_
    refine RunD.mD rfl (Ev.build X 99 rfl rfl rfl rfl rfl rfl rfl rfl) ?_
    refine RunD.a rfl rfl (Ev.e_lenO X rfl rfl rfl rfl) ?_
    refine RunD.w (fun _ => Ev.move rfl rfl) ?_
    refine RunD.nil ?_
    refine T.block ?_
    refine T.loop (LoopT.ghost (Ghost.only [(2, 2), (99, 99), (5, 132)] [3, 23, 24, 25] rfl) (LoopT.run (fun q : Int × Bool × (List Int) => (⟨[(3, .box 2 0), (23, .own 99), (24, .v (.int .i64) (([x9, x11, x13].length : Int) : Int)), (25, .v (.int .i64) q.1)], [(2, .box [.pn q.2.1 2 0 77, .owz 132]), (99, .arr 41 (.sl .str) ([x9, x11, x13] : List (List ByteArray))), (132, .arr 5 (.int .u8) q.2.2)], 43⟩ : St)) (fun q z1 h hz1 => ?_) h))
    obtain ⟨v15, v16, v17⟩ := q
    dsimp only
    rw [m_canon_net_l1] at h
    refine T.seq ?_
    refine T.region ?_
    refine Run.go (Ev.int rfl rfl rfl rfl trivial) ?_
    refine Run.nil ?_
    refine T.seq ?_
    refine T.cond rfl (fun hb18 => ?_) (fun hb18 => ?_)
    · replace h := ifT hb18 h
      refine T.skip ?_
      obtain ⟨⟨v19, v20⟩, hv, h⟩ := bdS h
      refine T.cut (fun _ : Unit => (⟨[(3, .box 2 0), (23, .own 99), (24, .v (.int .i64) (([x9, x11, x13].length : Int) : Int)), (25, .v (.int .i64) v15)], [(2, .box [.pn v19 2 0 77, .owz 169]), (99, .arr 41 (.sl .str) ([x9, x11, x13] : List (List ByteArray))), (169, .arr 5 (.int .u8) v20)], 43⟩ : St)) (fun _ => True) ?_ (fun _ _ => ?_)
      · replace h := hv
        clear hv
        refine T.block ?_
        refine T.seq ?_
        refine T.region ?_
        obtain ⟨x21, e22, h⟩ := bdS h
        refine Run.go (Ev.e_rdO X e22 rfl rfl rfl rfl rfl) ?_
        refine Run.go (Ev.e_ldO X (rdS e22).2 rfl rfl rfl rfl) ?_
        refine Run.go (Ev.assign rfl rfl) ?_
        refine Run.nil ?_
        refine T.seq ?_
        refine T.region ?_
        refine Run.go (Ev.move rfl rfl) ?_
        refine Run.go (Ev.len X rfl rfl rfl rfl) ?_
        refine Run.go (Ev.move rfl rfl) ?_
        refine Run.nil ?_
        refine T.block ?_
        refine T.loop (LoopT.ghost (Ghost.only [(2, 2), (99, 99), (132, 184)] [3, 23, 24, 25, 29, 30, 31] rfl) (LoopT.run (fun q : Int × Bool × (List Int) => (⟨[(3, .box 2 0), (23, .own 99), (24, .v (.int .i64) (([x9, x11, x13].length : Int) : Int)), (25, .v (.int .i64) v15), (29, .v (.sl .str) x21), (30, .v (.int .i64) ((x21.length : Int) : Int)), (31, .v (.int .i64) q.1)], [(2, .box [.pn q.2.1 2 0 77, .owz 184]), (99, .arr 41 (.sl .str) ([x9, x11, x13] : List (List ByteArray))), (184, .arr 5 (.int .u8) q.2.2)], 43⟩ : St)) (fun q z2 h hz2 => ?_) h))
        obtain ⟨v23, v24, v25⟩ := q
        dsimp only
        rw [m_canon_net_l2] at h
        refine T.seq ?_
        refine T.region ?_
        refine Run.go (Ev.int rfl rfl rfl rfl trivial) ?_
        refine Run.nil ?_
        refine T.seq ?_
        refine T.cond rfl (fun hb26 => ?_) (fun hb26 => ?_)
        · replace h := ifT hb26 h
          refine T.skip ?_
          refine T.seq ?_
          refine T.block ?_
          refine T.seq ?_
          refine T.region ?_
          obtain ⟨x27, e28, h⟩ := bdS h
          refine Run.go (Ev.e_rd X e28 rfl rfl rfl rfl) ?_
          refine Run.go (Ev.load X rfl rfl rfl) ?_
          refine Run.go (Ev.assign rfl rfl) ?_
          refine Run.nil ?_
          refine T.region ?_
          refine Run.go (Ev.move rfl rfl) ?_
          obtain ⟨x29, e30, h⟩ := bdS h
          refine Run.go (Ev.e_cat e30 rfl rfl rfl) ?_
          obtain ⟨x31, e32, h⟩ := bdS h
          refine Run.go (Ev.e_cat e32 rfl rfl rfl) ?_
          obtain ⟨x34, e33, h⟩ := bdS h
          refine Run.go (Ev.w3 (Ev.lendM [(2, 1), (184, 2)] [(1, 2), (2, 184), (4, 189)] en25 (k_strings_Builder_WriteString_M e33) rfl (.cons (.ren rfl) (.cons (.ren rfl) .nil)) rfl rfl rfl rfl rfl (A := .tup [.v (.int .i64) ((x31.size : Int) : Int), .bot]) rfl (W := [(2, .box [.pn x34.1 2 0 77, .owz 189]), (184, .dead), (189, .arr 5 (.int .u8) x34.2)]) rfl rfl)) ?_
          refine Run.nil ?_
          refine T.region ?_
          refine Run.go (Ev.int rfl rfl rfl rfl trivial) ?_
          refine Run.go (Ev.move rfl rfl) ?_
          refine Run.nil ?_
          cases h
          exact LoopT.ghost (Ghost.only [(2, 2), (99, 99), (189, 184)] [3, 23, 24, 25, 29, 30, 31] rfl) hz2
        · replace h := ifF hb26 h
          refine T.exit ?_
          cases h
          cases hz2
          exact ⟨(), trivial, Ghost.only [(2, 2), (99, 99), (184, 169)] [3, 23, 24, 25] rfl⟩
      · refine T.region ?_
        refine Run.go (Ev.int rfl rfl rfl rfl trivial) ?_
        refine Run.go (Ev.move rfl rfl) ?_
        refine Run.nil ?_
        cases h
        exact LoopT.ghost (Ghost.only [(2, 2), (99, 99), (169, 132)] [3, 23, 24, 25] rfl) hz1
    · replace h := ifF hb18 h
      refine T.exit ?_
      cases h
      cases hz1
      exact ⟨(), trivial, Ghost.only [(2, 2), (132, 39)] [3] rfl⟩
  · refine T.seq ?_
    refine T.region ?_
    obtain ⟨x36, e35, h⟩ := bdS h
    refine Run.go (Ev.w3 (Ev.lendM [(2, 1), (39, 2)] [(1, 2), (2, 39), (4, 190)] en25 (k_strings_Builder_WriteString_M e35) rfl (.cons (.ren rfl) (.cons (.ren rfl) .nil)) rfl rfl rfl rfl rfl (A := .tup [.v (.int .i64) (((bs [125, 10]).size : Int) : Int), .bot]) rfl (W := [(2, .box [.pn x36.1 2 0 77, .owz 190]), (39, .dead), (190, .arr 5 (.int .u8) x36.2)]) rfl rfl)) ?_
    refine Run.nil ?_
    refine T.seq ?_
    refine T.region ?_
    obtain ⟨x38, e37, h⟩ := bdS h
    refine Run.go (Ev.w2 (Ev.lendM [(2, 1), (190, 2)] [(1, 2), (2, 190)] en26 (k_strings_Builder_String_M e37) rfl (.cons (.ren rfl) .nil) rfl rfl rfl rfl rfl (A := .v .str x38) rfl (W := [(2, .box [.pn x36.1 2 0 77, .bot]), (190, .dead)]) rfl rfl)) ?_
    refine Run.go (Ev.assign rfl rfl) ?_
    refine Run.nil ?_
    refine T.ret ?_
    cases h
    exact Fin.one rfl .v
theorem en13 : Enters Tryz.prog 13 := ⟨_, Tryz.func13, rfl, rfl⟩
theorem k_canon_each_api_Net__canon_net {p0 : (List D_api_Net)} {y : (List ByteArray)} (h : m_canon_each_api_Net__canon_net p0 = some y) : Spec Tryz.prog 13 [(.v (.sl Y_api_Net) p0), (.fn 14 [])] (.v (.sl .str) y) [] := by
  rw [m_canon_each_api_Net__canon_net] at h
  refine enterN [(.v (.sl Y_api_Net) p0), (.fn 14 [])] 26 Tryz.func13 rfl rfl rfl ?_
  refine T.seq ?_
  refine T.region ?_
  refine Run.go (Ev.assign rfl rfl) ?_
  refine Run.nil ?_
  refine T.seq ?_
  refine T.region ?_
  refine Run.go (Ev.move rfl rfl) ?_
  refine Run.go (Ev.len X rfl rfl rfl rfl) ?_
  obtain ⟨x1, e2, h⟩ := bdS h
  refine Run.go (Ev.e_mk X 1 e2 rfl rfl rfl rfl rfl rfl) ?_
  refine Run.go (Ev.assign rfl rfl) ?_
  refine Run.nil ?_
  obtain ⟨v3, hv, h⟩ := bdS h
  refine T.cut (fun _ : Unit => (⟨[(5, .own 1)], [(1, .arr 9 .str v3)], 26⟩ : St)) (fun _ => True) ?_ (fun _ _ => ?_)
  · replace h := hv
    clear hv
    refine T.seq ?_
    refine T.region ?_
    refine Run.go (Ev.move rfl rfl) ?_
    refine Run.go (Ev.len X rfl rfl rfl rfl) ?_
    refine Run.go (Ev.move rfl rfl) ?_
    refine Run.nil ?_
    refine T.block ?_
    refine T.loop (LoopT.ghost (Ghost.only [(1, 1)] [1, 5, 11, 12, 13] rfl) (LoopT.run (fun q : Int × (List ByteArray) => (⟨[(1, .fn 14 []), (5, .own 1), (11, .v (.sl Y_api_Net) p0), (12, .v (.int .i64) ((p0.length : Int) : Int)), (13, .v (.int .i64) q.1)], [(1, .arr 9 .str q.2)], 26⟩ : St)) (fun q z1 h hz1 => ?_) h))
    obtain ⟨v4, v5⟩ := q
    dsimp only
    rw [m_canon_each_api_Net__canon_net_l1] at h
    refine T.seq ?_
    refine T.region ?_
    refine Run.go (Ev.int rfl rfl rfl rfl trivial) ?_
    refine Run.nil ?_
    refine T.seq ?_
    refine T.cond rfl (fun hb6 => ?_) (fun hb6 => ?_)
    · replace h := ifT hb6 h
      refine T.skip ?_
      refine T.seq ?_
      refine T.block ?_
      refine T.seq ?_
      refine T.region ?_
      refine Run.go (Ev.move rfl rfl) ?_
      obtain ⟨x7, e8, h⟩ := bdS h
      refine Run.go (Ev.e_rd X e8 rfl rfl rfl rfl) ?_
      refine Run.go (Ev.load X rfl rfl rfl) ?_
      refine Run.go (Ev.allocN X 14 rfl rfl rfl) ?_
      refine Run.go (Ev.assign rfl rfl) ?_
      refine Run.do_ (Ev.storeBox X rfl rfl rfl rfl rfl rfl rfl) ?_
      refine Run.nil ?_
      refine T.region ?_
      refine Run.go (Ev.move rfl rfl) ?_
      refine Run.go (Ev.move rfl rfl) ?_
      refine Run.go (Ev.move rfl rfl) ?_
      refine Run.go (Ev.loadBox X rfl rfl rfl rfl rfl) ?_
      obtain ⟨x9, e10, h⟩ := bdS h
      refine Run.go (Ev.callC en14 (k_canon_net e10) rfl (.cons .v .nil) rfl rfl) ?_
      obtain ⟨j11, e12, h⟩ := bdS h
      refine Run.go (Ev.e_ixO X e12 rfl rfl rfl rfl rfl) ?_
      obtain ⟨x13, e14, h⟩ := ltS h
      refine Run.do_ (Ev.asO (Ev.storeEl X rfl rfl rfl rfl rfl) e14) ?_
      refine Run.nil ?_
      refine T.region ?_
      refine Run.go (Ev.int rfl rfl rfl rfl trivial) ?_
      refine Run.go (Ev.move rfl rfl) ?_
      refine Run.nil ?_
      cases h
      exact LoopT.ghost (Ghost.only [(1, 1)] [1, 5, 11, 12, 13] rfl) hz1
    · replace h := ifF hb6 h
      refine T.exit ?_
      cases h
      cases hz1
      exact ⟨(), trivial, Ghost.only [(1, 1)] [5] rfl⟩
  · refine T.seq ?_
    refine T.region ?_
    refine Run.go (Ev.move rfl rfl) ?_
    refine Run.go (Ev.assign rfl rfl) ?_
    refine Run.nil ?_
    refine T.ret ?_
    cases h
    exact Fin.one rfl (.own rfl)
theorem en5 : Enters Tryz.prog 5 := ⟨_, Tryz.func5, rfl, rfl⟩
theorem k_canon_Nets {p0 : (List D_api_Net)} {y : ByteArray} (h : m_canon_Nets p0 = some y) : Spec Tryz.prog 5 [(.v (.sl Y_api_Net) p0)] (.v .str y) [] := by
  rw [m_canon_Nets] at h
  refine enterN [(.v (.sl Y_api_Net) p0)] 6 Tryz.func5 rfl rfl rfl ?_
  refine T.seq ?_
  refine T.region ?_
  refine Run.go (Ev.assign rfl rfl) ?_
  refine Run.nil ?_
  refine T.seq ?_
  refine T.region ?_
  refine Run.go (Ev.move rfl rfl) ?_
  obtain ⟨x1, e2, h⟩ := bdS h
  refine Run.go (Ev.callC en13 (k_canon_each_api_Net__canon_net e2) rfl (.cons .v (.cons (.fn rfl) .nil)) rfl rfl) ?_
  obtain ⟨x3, e4, h⟩ := bdS h
  refine Run.go (Ev.callC en12 (k_strings_Join e4) rfl (.cons .v (.cons .v .nil)) rfl rfl) ?_
  refine Run.go (Ev.assign rfl rfl) ?_
  refine Run.nil ?_
  refine T.ret ?_
  cases h
  exact Fin.one rfl .v
theorem en59 : Enters Tryz.prog 59 := ⟨_, Tryz.func59, rfl, rfl⟩
theorem k_triviumref18_Size {p0 : Int} {y : Int} (h : m_triviumref18_Size p0 = some y) : Spec Tryz.prog 59 [(.v (.int .i64) p0)] (.v (.int .u64) y) [] := by
  rw [m_triviumref18_Size] at h
  refine enterN [(.v (.int .i64) p0)] 13 Tryz.func59 rfl rfl rfl ?_
  refine T.seq ?_
  refine T.region ?_
  refine Run.go (Ev.assign rfl rfl) ?_
  refine Run.nil ?_
  refine T.seq ?_
  refine T.region ?_
  refine Run.go (Ev.assign rfl rfl) ?_
  refine Run.nil ?_
  obtain ⟨v1, hv, h⟩ := bdS h
  refine T.cut (fun _ : Unit => (⟨[(3, .v (.int .u64) v1)], [], 13⟩ : St)) (fun _ => True) ?_ (fun _ _ => ?_)
  · replace h := hv
    clear hv
    refine T.seq ?_
    refine T.region ?_
    refine Run.go (Ev.move rfl rfl) ?_
    refine Run.go (Ev.assign rfl rfl) ?_
    refine Run.nil ?_
    refine T.block ?_
    refine T.loop (LoopT.ghost (Ghost.only [] [3, 4] rfl) (LoopT.run (fun q : Int × Int => (⟨[(3, .v (.int .u64) q.1), (4, .v (.int .i64) q.2)], [], 13⟩ : St)) (fun q z1 h hz1 => ?_) h))
    obtain ⟨v2, v3⟩ := q
    dsimp only
    rw [m_triviumref18_Size_l1] at h
    refine T.seq ?_
    refine T.seq ?_
    refine T.region ?_
    refine Run.go (Ev.move rfl rfl) ?_
    refine Run.go (Ev.int rfl rfl rfl rfl trivial) ?_
    refine Run.nil ?_
    refine T.cond rfl (fun hb4 => ?_) (fun hb4 => ?_)
    · replace h := ifT hb4 h
      refine T.skip ?_
      refine T.seq ?_
      refine T.block ?_
      refine T.region ?_
      refine Run.go (Ev.move rfl rfl) ?_
      refine Run.go (Ev.int rfl rfl rfl rfl trivial) ?_
      refine Run.go (Ev.assign rfl rfl) ?_
      refine Run.nil ?_
      refine T.region ?_
      refine Run.go (Ev.move rfl rfl) ?_
      refine Run.go (Ev.int rfl rfl rfl rfl trivial) ?_
      refine Run.go (Ev.assign rfl rfl) ?_
      refine Run.nil ?_
      cases h
      exact LoopT.ghost (Ghost.only [] [3, 4] rfl) hz1
    · replace h := ifF hb4 h
      refine T.exit ?_
      cases h
      cases hz1
      exact ⟨(), trivial, Ghost.only [] [3] rfl⟩
  · refine T.seq ?_
    refine T.region ?_
    refine Run.go (Ev.move rfl rfl) ?_
    refine Run.go (Ev.assign rfl rfl) ?_
    refine Run.nil ?_
    refine T.ret ?_
    cases h
    exact Fin.one rfl .v
end Go.Proofs.YtkjlcghikagdlaaGreatDoor.AE
/- The code comes to the printed functions (printed by a program of ours). -/
namespace Go.Proofs.YtkjlcghikagdlaaGreatDoor.AE
open Go Go.RowKit Go.Proofs.YtkjlcghikagdlaaGreatDoor.AP
set_option linter.unusedVariables false
set_option maxRecDepth 20000
theorem en38 : Enters Tryz.prog 38 := ⟨_, Tryz.func38, rfl, rfl⟩
theorem k_triviumref18_May {p0 : D_api_Prefix} {y : Bool} (h : m_triviumref18_May p0 = some y) : Spec Tryz.prog 38 [(.v Y_api_Prefix p0)] (.v .bool y) [] := by
  rw [m_triviumref18_May] at h
  refine enterN [(.v Y_api_Prefix p0)] 21 Tryz.func38 rfl rfl rfl ?_
  refine T.seq ?_
  refine T.region ?_
  refine Run.go (Ev.box 1 rfl rfl rfl rfl) ?_
  refine Run.go (Ev.assign rfl rfl) ?_
  refine Run.nil ?_
  refine T.seq ?_
  refine T.drawM [] [0, 1, 3, 7, 15, 31, 63, 127, 255, 511, 1023, 2047, 511, 4607, 12799, 32767, 65535, 131071, 262143] (by kernel_rfl) (by kernel_rfl) ?_
  refine RunD.a rfl rfl (Ev.fieldBox X rfl rfl rfl rfl rfl) ?_
  refine RunD.a rfl rfl (Ev.loadCell X rfl rfl rfl rfl rfl rfl) ?_
  refine RunD.w (fun _ => Ev.int rfl rfl rfl rfl trivial) ?_
  refine RunD.w (fun _ => Ev.move rfl rfl) ?_
  rcases boolCases (decide (0 ≤ p0.2)) with hb1 | hb1
  · replace h := ifT hb1 h
    refine RunD.on rfl rfl rfl hb1 rfl (fun ô hô => by obtain rfl := hô.resolve_left (by decide); exact Ev.fieldBox X rfl rfl rfl rfl rfl) ?_
    refine RunD.on rfl rfl rfl hb1 rfl (fun ô hô => by obtain rfl := hô.resolve_left (by decide); exact Ev.loadCell X rfl rfl rfl rfl rfl rfl) ?_
    refine RunD.on rfl rfl rfl hb1 rfl (fun _ _ => Ev.int rfl rfl rfl rfl trivial) ?_
    refine RunD.w (fun _ => Ev.pickT rfl hb1 rfl rfl) ?_
    refine RunD.w (fun _ => Ev.move rfl rfl) ?_
    rcases boolCases (decide (p0.2 ≤ 32)) with hb2 | hb2
    · replace h := ifT hb2 h
      refine RunD.on rfl rfl rfl hb2 rfl (fun ô hô => by obtain rfl := hô.resolve_left (by decide); exact Ev.fieldBox X rfl rfl rfl rfl rfl) ?_
      refine RunD.on rfl rfl rfl hb2 rfl (fun ô hô => by obtain rfl := hô.resolve_left (by decide); exact Ev.loadCell X rfl rfl rfl rfl rfl rfl) ?_
      refine RunD.on rfl rfl rfl hb2 rfl (fun ô hô => by obtain rfl := hô.resolve_left (by decide); exact Ev.conv X rfl rfl rfl rfl) ?_
      refine RunD.on rfl rfl rfl hb2 rfl (fun ô hô => by obtain rfl := hô.resolve_left (by decide); exact Ev.fieldBox X rfl rfl rfl rfl rfl) ?_
      refine RunD.on rfl rfl rfl hb2 rfl (fun ô hô => by obtain rfl := hô.resolve_left (by decide); exact Ev.loadCell X rfl rfl rfl rfl rfl rfl) ?_
      obtain ⟨x3, e4, h⟩ := bdS h
      refine RunD.on rfl rfl rfl hb2 rfl (fun ô hô => by obtain rfl := hô.resolve_left (by decide); exact Ev.callC en59 (k_triviumref18_Size e4) rfl (.cons .v .nil) rfl rfl) ?_
      obtain ⟨x5, e6, h⟩ := bdS h
      refine RunD.on rfl rfl rfl hb2 rfl (fun _ _ => Ev.e_rm e6 rfl rfl rfl) ?_
      refine RunD.on rfl rfl rfl hb2 rfl (fun _ _ => Ev.int rfl rfl rfl rfl trivial) ?_
      refine RunD.w (fun _ => Ev.pickT rfl hb2 rfl rfl) ?_
      refine RunD.w (fun _ => Ev.assign rfl rfl) ?_
      refine RunD.nil ?_
      refine T.ret ?_
      cases h
      exact Fin.one rfl .v
    · replace h := ifF hb2 h
      refine RunD.offT rfl rfl rfl rfl hb2 ?_
      refine RunD.offT rfl rfl rfl rfl hb2 ?_
      refine RunD.offT rfl rfl rfl rfl hb2 ?_
      refine RunD.offT rfl rfl rfl rfl hb2 ?_
      refine RunD.offT rfl rfl rfl rfl hb2 ?_
      refine RunD.offT rfl rfl rfl rfl hb2 ?_
      refine RunD.offT rfl rfl rfl rfl hb2 ?_
      refine RunD.offT rfl rfl rfl rfl hb2 ?_
      refine RunD.w (fun _ => Ev.pickF rfl hb2 rfl rfl) ?_
      refine RunD.w (fun _ => Ev.assign rfl rfl) ?_
      refine RunD.nil ?_
      refine T.ret ?_
      cases h
      exact Fin.one rfl .v
  · replace h := ifF hb1 h
    refine RunD.offT rfl rfl rfl rfl hb1 ?_
    refine RunD.offT rfl rfl rfl rfl hb1 ?_
    refine RunD.offT rfl rfl rfl rfl hb1 ?_
    refine RunD.w (fun _ => Ev.pickF rfl hb1 rfl rfl) ?_
    refine RunD.w (fun _ => Ev.move rfl rfl) ?_
    refine RunD.offT rfl rfl rfl rfl rfl ?_
    refine RunD.offT rfl rfl rfl rfl rfl ?_
    refine RunD.offT rfl rfl rfl rfl rfl ?_
    refine RunD.offT rfl rfl rfl rfl rfl ?_
    refine RunD.offT rfl rfl rfl rfl rfl ?_
    refine RunD.offT rfl rfl rfl rfl rfl ?_
    refine RunD.offT rfl rfl rfl rfl rfl ?_
    refine RunD.offT rfl rfl rfl rfl rfl ?_
    refine RunD.w (fun _ => Ev.pickF rfl rfl rfl rfl) ?_
    refine RunD.w (fun _ => Ev.assign rfl rfl) ?_
    refine RunD.nil ?_
    refine T.ret ?_
    cases h
    exact Fin.one rfl .v
theorem en23 : Enters Tryz.prog 23 := ⟨_, Tryz.func23, rfl, rfl⟩
theorem k_triviumbase_Itoa {p0 : Int} {y : ByteArray} (h : m_triviumbase_Itoa p0 = some y) : Spec Tryz.prog 23 [(.v (.int .i64) p0)] (.v .str y) [] := by
  rw [m_triviumbase_Itoa] at h
  refine enterN [(.v (.int .i64) p0)] 31 Tryz.func23 rfl rfl rfl ?_
  refine T.seq ?_
  refine T.region ?_
  refine Run.go (Ev.assign rfl rfl) ?_
  refine Run.nil ?_
  refine T.seq ?_
  refine T.seq ?_
  refine T.region ?_
  refine Run.go (Ev.move rfl rfl) ?_
  refine Run.go (Ev.int rfl rfl rfl rfl trivial) ?_
  refine Run.nil ?_
  refine T.cond rfl (fun hb1 => ?_) (fun hb1 => ?_)
  · replace h := ifT hb1 h
    refine T.seq ?_
    refine T.region ?_
    refine Run.go (Ev.assign rfl rfl) ?_
    refine Run.nil ?_
    refine T.ret ?_
    cases h
    exact Fin.one rfl .v
  · replace h := ifF hb1 h
    refine T.skip ?_
    refine T.seq ?_
    refine T.region ?_
    refine Run.go (Ev.move rfl rfl) ?_
    refine Run.go (Ev.assign rfl rfl) ?_
    refine Run.go (Ev.assign rfl rfl) ?_
    refine Run.nil ?_
    obtain ⟨v2, hv, h⟩ := bdS h
    refine T.cut (fun _ : Unit => (⟨[(0, .v (.int .i64) p0), (3, .v .str v2)], [], 31⟩ : St)) (fun _ => True) ?_ (fun _ _ => ?_)
    · replace h := hv
      clear hv
      refine T.block ?_
      refine T.loop (LoopT.ghost (Ghost.only [] [0, 3, 4] rfl) (LoopT.run (fun q : ByteArray × Int => (⟨[(0, .v (.int .i64) p0), (3, .v .str q.1), (4, .v (.int .i64) q.2)], [], 31⟩ : St)) (fun q z1 h hz1 => ?_) h))
      obtain ⟨v3, v4⟩ := q
      dsimp only
      rw [m_triviumbase_Itoa_l1] at h
      refine T.seq ?_
      refine T.seq ?_
      refine T.region ?_
      refine Run.go (Ev.move rfl rfl) ?_
      refine Run.go (Ev.int rfl rfl rfl rfl trivial) ?_
      refine Run.nil ?_
      refine T.cond rfl (fun hb5 => ?_) (fun hb5 => ?_)
      · replace h := ifT hb5 h
        refine T.skip ?_
        refine T.block ?_
        refine T.seq ?_
        refine T.region ?_
        refine Run.go (Ev.move rfl rfl) ?_
        obtain ⟨x6, e7, h⟩ := bdS h
        refine Run.go (Ev.e_rm e7 rfl rfl rfl) ?_
        refine Run.go (Ev.assign rfl rfl) ?_
        refine Run.nil ?_
        obtain ⟨v8, hv, h⟩ := bdS h
        refine T.cut (fun _ : Unit => (⟨[(0, .v (.int .i64) p0), (3, .v .str v3), (4, .v (.int .i64) v4), (5, .v (.int .i64) v8)], [], 31⟩ : St)) (fun _ => True) ?_ (fun _ _ => ?_)
        · replace h := hv
          clear hv
          refine T.seq ?_
          refine T.region ?_
          refine Run.go (Ev.move rfl rfl) ?_
          refine Run.go (Ev.int rfl rfl rfl rfl trivial) ?_
          refine Run.nil ?_
          refine T.cond rfl (fun hb9 => ?_) (fun hb9 => ?_)
          · replace h := ifT hb9 h
            refine T.region ?_
            refine Run.go (Ev.move rfl rfl) ?_
            refine Run.go (Ev.neg rfl rfl) ?_
            refine Run.go (Ev.assign rfl rfl) ?_
            refine Run.nil ?_
            cases h
            exact ⟨(), trivial, Ghost.only [] [0, 3, 4, 5] rfl⟩
          · replace h := ifF hb9 h
            refine T.skip ?_
            cases h
            exact ⟨(), trivial, Ghost.only [] [0, 3, 4, 5] rfl⟩
        · refine T.seq ?_
          refine T.region ?_
          refine Run.go (Ev.move rfl rfl) ?_
          refine Run.go (Ev.int rfl rfl rfl rfl trivial) ?_
          refine Run.go (Ev.conv X rfl rfl rfl rfl) ?_
          refine Run.go (Ev.build X 6 rfl rfl rfl rfl rfl rfl rfl rfl) ?_
          refine Run.ghost (Ghost.firmAll (id := 6) rfl) ?_
          refine Run.go (Ev.e_b2s (e := 0) X rfl rfl rfl rfl) ?_
          refine Run.go (Ev.move rfl rfl) ?_
          obtain ⟨x10, e11, h⟩ := bdS h
          refine Run.go (Ev.e_cat e11 rfl rfl rfl) ?_
          refine Run.go (Ev.assign rfl rfl) ?_
          refine Run.nil ?_
          refine T.region ?_
          refine Run.go (Ev.move rfl rfl) ?_
          obtain ⟨x12, e13, h⟩ := bdS h
          refine Run.go (Ev.e_qd e13 rfl rfl rfl) ?_
          refine Run.go (Ev.assign rfl rfl) ?_
          refine Run.nil ?_
          cases h
          exact LoopT.ghost (Ghost.only [] [0, 3, 4] rfl) hz1
      · replace h := ifF hb5 h
        refine T.exit ?_
        cases h
        cases hz1
        exact ⟨(), trivial, Ghost.only [] [0, 3] rfl⟩
    · obtain ⟨v14, hv, h⟩ := bdS h
      refine T.cut (fun _ : Unit => (⟨[(3, .v .str v14)], [], 31⟩ : St)) (fun _ => True) ?_ (fun _ _ => ?_)
      · replace h := hv
        clear hv
        refine T.seq ?_
        refine T.region ?_
        refine Run.go (Ev.move rfl rfl) ?_
        refine Run.go (Ev.int rfl rfl rfl rfl trivial) ?_
        refine Run.nil ?_
        refine T.cond rfl (fun hb15 => ?_) (fun hb15 => ?_)
        · replace h := ifT hb15 h
          refine T.region ?_
          refine Run.go (Ev.move rfl rfl) ?_
          obtain ⟨x16, e17, h⟩ := bdS h
          refine Run.go (Ev.e_cat e17 rfl rfl rfl) ?_
          refine Run.go (Ev.assign rfl rfl) ?_
          refine Run.nil ?_
          cases h
          exact ⟨(), trivial, Ghost.only [] [3] rfl⟩
        · replace h := ifF hb15 h
          refine T.skip ?_
          cases h
          exact ⟨(), trivial, Ghost.only [] [3] rfl⟩
      · refine T.seq ?_
        refine T.region ?_
        refine Run.go (Ev.move rfl rfl) ?_
        refine Run.go (Ev.assign rfl rfl) ?_
        refine Run.nil ?_
        refine T.ret ?_
        cases h
        exact Fin.one rfl .v
theorem en39 : Enters Tryz.prog 39 := ⟨_, Tryz.func39, rfl, rfl⟩
theorem k_triviumref18_Print {p0 : Int} {y : ByteArray} (h : m_triviumref18_Print p0 = some y) : Spec Tryz.prog 39 [(.v (.int .u32) p0)] (.v .str y) [] := by
  rw [m_triviumref18_Print] at h
  refine enterN [(.v (.int .u32) p0)] 27 Tryz.func39 rfl rfl rfl ?_
  refine T.seq ?_
  refine T.region ?_
  refine Run.go (Ev.assign rfl rfl) ?_
  refine Run.nil ?_
  refine T.seq ?_
  refine T.region ?_
  refine Run.go (Ev.move rfl rfl) ?_
  obtain ⟨x1, e2, h⟩ := bdS h
  refine Run.go (Ev.e_qd e2 rfl rfl rfl) ?_
  refine Run.go (Ev.conv X rfl rfl rfl rfl) ?_
  obtain ⟨x3, e4, h⟩ := bdS h
  refine Run.go (Ev.callC en23 (k_triviumbase_Itoa e4) rfl (.cons .v .nil) rfl rfl) ?_
  obtain ⟨x5, e6, h⟩ := bdS h
  refine Run.go (Ev.e_cat e6 rfl rfl rfl) ?_
  refine Run.go (Ev.move rfl rfl) ?_
  obtain ⟨x7, e8, h⟩ := bdS h
  refine Run.go (Ev.e_qd e8 rfl rfl rfl) ?_
  obtain ⟨x9, e10, h⟩ := bdS h
  refine Run.go (Ev.e_rm e10 rfl rfl rfl) ?_
  refine Run.go (Ev.conv X rfl rfl rfl rfl) ?_
  obtain ⟨x11, e12, h⟩ := bdS h
  refine Run.go (Ev.callC en23 (k_triviumbase_Itoa e12) rfl (.cons .v .nil) rfl rfl) ?_
  obtain ⟨x13, e14, h⟩ := bdS h
  refine Run.go (Ev.e_cat e14 rfl rfl rfl) ?_
  obtain ⟨x15, e16, h⟩ := bdS h
  refine Run.go (Ev.e_cat e16 rfl rfl rfl) ?_
  refine Run.go (Ev.move rfl rfl) ?_
  obtain ⟨x17, e18, h⟩ := bdS h
  refine Run.go (Ev.e_qd e18 rfl rfl rfl) ?_
  obtain ⟨x19, e20, h⟩ := bdS h
  refine Run.go (Ev.e_rm e20 rfl rfl rfl) ?_
  refine Run.go (Ev.conv X rfl rfl rfl rfl) ?_
  obtain ⟨x21, e22, h⟩ := bdS h
  refine Run.go (Ev.callC en23 (k_triviumbase_Itoa e22) rfl (.cons .v .nil) rfl rfl) ?_
  obtain ⟨x23, e24, h⟩ := bdS h
  refine Run.go (Ev.e_cat e24 rfl rfl rfl) ?_
  obtain ⟨x25, e26, h⟩ := bdS h
  refine Run.go (Ev.e_cat e26 rfl rfl rfl) ?_
  refine Run.go (Ev.move rfl rfl) ?_
  obtain ⟨x27, e28, h⟩ := bdS h
  refine Run.go (Ev.e_rm e28 rfl rfl rfl) ?_
  refine Run.go (Ev.conv X rfl rfl rfl rfl) ?_
  obtain ⟨x29, e30, h⟩ := bdS h
  refine Run.go (Ev.callC en23 (k_triviumbase_Itoa e30) rfl (.cons .v .nil) rfl rfl) ?_
  obtain ⟨x31, e32, h⟩ := bdS h
  refine Run.go (Ev.e_cat e32 rfl rfl rfl) ?_
  refine Run.go (Ev.assign rfl rfl) ?_
  refine Run.nil ?_
  refine T.ret ?_
  cases h
  exact Fin.one rfl .v
theorem en16 : Enters Tryz.prog 16 := ⟨_, Tryz.func16, rfl, rfl⟩
theorem k_triviumref18_Text {p0 : D_api_Prefix} {y : ByteArray} (h : m_triviumref18_Text p0 = some y) : Spec Tryz.prog 16 [(.v Y_api_Prefix p0)] (.v .str y) [] := by
  rw [m_triviumref18_Text] at h
  refine enterN [(.v Y_api_Prefix p0)] 14 Tryz.func16 rfl rfl rfl ?_
  refine T.seq ?_
  refine T.region ?_
  refine Run.go (Ev.box 1 rfl rfl rfl rfl) ?_
  refine Run.go (Ev.assign rfl rfl) ?_
  refine Run.nil ?_
  refine T.seq ?_
  refine T.seq ?_
  refine T.region ?_
  refine Run.go (Ev.loadBox X rfl rfl rfl rfl rfl) ?_
  obtain ⟨x1, e2, h⟩ := bdS h
  refine Run.go (Ev.callC en38 (k_triviumref18_May e2) rfl (.cons .v .nil) rfl rfl) ?_
  refine Run.go (Ev.not rfl rfl) ?_
  refine Run.nil ?_
  refine T.cond rfl (fun hb3 => ?_) (fun hb3 => ?_)
  · replace h := ifT hb3 h
    refine T.seq ?_
    refine T.region ?_
    refine Run.go (Ev.assign rfl rfl) ?_
    refine Run.nil ?_
    refine T.ret ?_
    cases h
    exact Fin.one rfl .v
  · replace h := ifF hb3 h
    refine T.skip ?_
    refine T.seq ?_
    refine T.drawM [] [0, 1, 3, 7, 0, 16, 55, 127, 255] (by kernel_rfl) (by kernel_rfl) ?_
    refine RunD.a rfl rfl (Ev.fieldBox X rfl rfl rfl rfl rfl) ?_
    refine RunD.a rfl rfl (Ev.loadCell X rfl rfl rfl rfl rfl rfl) ?_
    obtain ⟨x4, e5, h⟩ := bdS h
    refine RunD.a rfl rfl (Ev.callC en39 (k_triviumref18_Print e5) rfl (.cons .v .nil) rfl rfl) ?_
    obtain ⟨x6, e7, h⟩ := bdS h
    refine RunD.w (fun _ => Ev.e_cat e7 rfl rfl rfl) ?_
    refine RunD.a rfl rfl (Ev.fieldBox X rfl rfl rfl rfl rfl) ?_
    refine RunD.a rfl rfl (Ev.loadCell X rfl rfl rfl rfl rfl rfl) ?_
    obtain ⟨x8, e9, h⟩ := bdS h
    refine RunD.a rfl rfl (Ev.callC en23 (k_triviumbase_Itoa e9) rfl (.cons .v .nil) rfl rfl) ?_
    obtain ⟨x10, e11, h⟩ := bdS h
    refine RunD.w (fun _ => Ev.e_cat e11 rfl rfl rfl) ?_
    refine RunD.w (fun _ => Ev.assign rfl rfl) ?_
    refine RunD.nil ?_
    refine T.ret ?_
    cases h
    exact Fin.one rfl .v
theorem en18 : Enters Tryz.prog 18 := ⟨_, Tryz.func18, rfl, rfl⟩
theorem k_triviumref08_Of {p0 : D_api_Rat} {y : D_triviumref08_Q} (h : m_triviumref08_Of p0 = some y) : Spec Tryz.prog 18 [(.v Y_api_Rat p0)] (.v Y_triviumref08_Q y) [] := by
  rw [m_triviumref08_Of] at h
  refine enterN [(.v Y_api_Rat p0)] 10 Tryz.func18 rfl rfl rfl ?_
  refine T.seq ?_
  refine T.region ?_
  refine Run.go (Ev.box 1 rfl rfl rfl rfl) ?_
  refine Run.go (Ev.allocN X 2 rfl rfl rfl) ?_
  refine Run.nil ?_
  refine T.seq ?_
  refine T.drawM [7] [0, 1, 3, 0, 8, 31, 63, 127] (by kernel_rfl) (by kernel_rfl) ?_
  refine RunD.a rfl rfl (Ev.fieldBox X rfl rfl rfl rfl rfl) ?_
  refine RunD.a rfl rfl (Ev.loadBox X rfl rfl rfl rfl rfl) ?_
  obtain ⟨x1, e2, h⟩ := bdS h
  refine RunD.a rfl rfl (Ev.callC en35 (k_triviumref07_Of e2) rfl (.cons .v .nil) rfl rfl) ?_
  refine RunD.a rfl rfl (Ev.fieldBox X rfl rfl rfl rfl rfl) ?_
  refine RunD.a rfl rfl (Ev.loadCell X rfl rfl rfl rfl rfl rfl) ?_
  obtain ⟨x3, e4, h⟩ := bdS h
  refine RunD.a rfl rfl (Ev.callC en37 (k_triviumref02_Of e4) rfl (.cons .v .nil) rfl rfl) ?_
  refine RunD.w (fun _ => Ev.struct X pl68 rfl rfl rfl rfl rfl rfl rfl rfl) ?_
  refine RunD.mN rfl (Ev.storeBox X rfl rfl rfl rfl rfl rfl rfl) ?_
  refine RunD.nil ?_
  refine T.ret ?_
  cases h
  exact Fin.cell X rfl rfl rfl rfl rfl
theorem en41 : Enters Tryz.prog 41 := ⟨_, Tryz.func41, rfl, rfl⟩
theorem k_triviumref02_Num {p0 : Int} {y : (List Int)} (h : m_triviumref02_Num p0 = some y) : Spec Tryz.prog 41 [(.v (.int .i64) p0)] (.v (.sl (.int .i64)) y) [] := by
  rw [m_triviumref02_Num] at h
  refine enterN [(.v (.int .i64) p0)] 6 Tryz.func41 rfl rfl rfl ?_
  refine T.seq ?_
  refine T.region ?_
  refine Run.go (Ev.assign rfl rfl) ?_
  refine Run.nil ?_
  refine T.seq ?_
  refine T.region ?_
  refine Run.go (Ev.build X 1 rfl rfl rfl rfl rfl rfl rfl rfl) ?_
  refine Run.go (Ev.move rfl rfl) ?_
  refine Run.ghost (Ghost.firmAll (id := 1) rfl) ?_
  obtain ⟨x1, e2, h⟩ := bdS h
  refine Run.go (Ev.callC en58 (k_triviumref02_MulAdd e2) rfl (.cons .v (.cons .v (.cons .v .nil))) rfl rfl) ?_
  refine Run.go (Ev.assign rfl rfl) ?_
  refine Run.nil ?_
  refine T.ret ?_
  cases h
  exact Fin.one rfl .v
theorem en43 : Enters Tryz.prog 43 := ⟨_, Tryz.func43, rfl, rfl⟩
theorem k_triviumref02_Text {p0 : (List Int)} {y : ByteArray} (h : m_triviumref02_Text p0 = some y) : Spec Tryz.prog 43 [(.v (.sl (.int .i64)) p0)] (.v .str y) [] := by
  rw [m_triviumref02_Text] at h
  refine enterN [(.v (.sl (.int .i64)) p0)] 27 Tryz.func43 rfl rfl rfl ?_
  refine T.seq ?_
  refine T.region ?_
  refine Run.go (Ev.assign rfl rfl) ?_
  refine Run.nil ?_
  refine T.seq ?_
  refine T.seq ?_
  refine T.region ?_
  refine Run.go (Ev.move rfl rfl) ?_
  refine Run.go (Ev.len X rfl rfl rfl rfl) ?_
  refine Run.go (Ev.int rfl rfl rfl rfl trivial) ?_
  refine Run.nil ?_
  refine T.cond rfl (fun hb1 => ?_) (fun hb1 => ?_)
  · replace h := ifT hb1 h
    refine T.seq ?_
    refine T.region ?_
    refine Run.go (Ev.assign rfl rfl) ?_
    refine Run.nil ?_
    refine T.ret ?_
    cases h
    exact Fin.one rfl .v
  · replace h := ifF hb1 h
    refine T.skip ?_
    refine T.seq ?_
    refine T.region ?_
    refine Run.go (Ev.build X 1 rfl rfl rfl rfl rfl rfl rfl rfl) ?_
    refine Run.go (Ev.assign rfl rfl) ?_
    refine Run.nil ?_
    obtain ⟨v2, hv, h⟩ := bdS h
    refine T.cut (fun _ : Unit => (⟨[(3, .own 5)], [(5, .arr 5 (.int .u8) v2)], 27⟩ : St)) (fun _ => True) ?_ (fun _ _ => ?_)
    · replace h := hv
      clear hv
      refine T.block ?_
      refine T.loop (LoopT.ghost (Ghost.only [(1, 15)] [0, 3] rfl) (LoopT.run (fun q : (List Int) × (List Int) => (⟨[(0, .v (.sl (.int .i64)) q.1), (3, .own 15)], [(15, .arr 5 (.int .u8) q.2)], 27⟩ : St)) (fun q z1 h hz1 => ?_) h))
      obtain ⟨v3, v4⟩ := q
      dsimp only
      rw [m_triviumref02_Text_l1] at h
      refine T.seq ?_
      refine T.seq ?_
      refine T.region ?_
      refine Run.go (Ev.move rfl rfl) ?_
      refine Run.go (Ev.len X rfl rfl rfl rfl) ?_
      refine Run.go (Ev.int rfl rfl rfl rfl trivial) ?_
      refine Run.nil ?_
      refine T.cond rfl (fun hb5 => ?_) (fun hb5 => ?_)
      · replace h := ifT hb5 h
        refine T.skip ?_
        refine T.block ?_
        refine T.seq ?_
        refine T.region ?_
        refine Run.go (Ev.move rfl rfl) ?_
        obtain ⟨x6, e7, h⟩ := bdS h
        refine Run.go (Ev.callC en60 (k_triviumref02_DivSmall e7) rfl (.cons .v (.cons .v .nil)) rfl rfl) ?_
        refine Run.go (Ev.move rfl rfl) ?_
        refine Run.go (Ev.extract rfl rfl rfl) ?_
        refine Run.go (Ev.extract rfl rfl rfl) ?_
        refine Run.go (Ev.assign rfl rfl) ?_
        refine Run.go (Ev.assign rfl rfl) ?_
        refine Run.nil ?_
        refine T.seq ?_
        refine T.region ?_
        refine Run.go (Ev.move rfl rfl) ?_
        refine Run.go (Ev.int rfl rfl rfl rfl trivial) ?_
        refine Run.go (Ev.conv X rfl rfl rfl rfl) ?_
        refine Run.go (Ev.build X 19 rfl rfl rfl rfl rfl rfl rfl rfl) ?_
        refine Run.go (Ev.move rfl rfl) ?_
        obtain ⟨x8, e9, h⟩ := bdS h
        refine Run.go (Ev.e_ap X 20 e9 rfl rfl rfl (.own rfl) rfl rfl rfl rfl rfl) ?_
        refine Run.go (Ev.assign rfl rfl) ?_
        refine Run.nil ?_
        refine T.region ?_
        refine Run.go (Ev.move rfl rfl) ?_
        refine Run.go (Ev.assign rfl rfl) ?_
        refine Run.nil ?_
        cases h
        exact LoopT.ghost (Ghost.only [(20, 15)] [0, 3] rfl) hz1
      · replace h := ifF hb5 h
        refine T.exit ?_
        cases h
        cases hz1
        exact ⟨(), trivial, Ghost.only [(15, 5)] [3] rfl⟩
    · refine T.seq ?_
      refine T.region ?_
      refine Run.go (Ev.move rfl rfl) ?_
      refine Run.ghost (Ghost.firmAll (id := 5) rfl) ?_
      refine Run.go (Ev.e_b2s (e := 0) X rfl rfl rfl rfl) ?_
      refine Run.go (Ev.assign rfl rfl) ?_
      refine Run.nil ?_
      refine T.ret ?_
      cases h
      exact Fin.one rfl .v
theorem en42 : Enters Tryz.prog 42 := ⟨_, Tryz.func42, rfl, rfl⟩
theorem k_triviumref07_Print {p0 : D_triviumref07_Z} {y : ByteArray} (h : m_triviumref07_Print p0 = some y) : Spec Tryz.prog 42 [(.v Y_triviumref07_Z p0)] (.v .str y) [] := by
  rw [m_triviumref07_Print] at h
  refine enterN [(.v Y_triviumref07_Z p0)] 12 Tryz.func42 rfl rfl rfl ?_
  refine T.seq ?_
  refine T.region ?_
  refine Run.go (Ev.box 1 rfl rfl rfl rfl) ?_
  refine Run.go (Ev.assign rfl rfl) ?_
  refine Run.nil ?_
  refine T.seq ?_
  refine T.seq ?_
  refine T.region ?_
  refine Run.go (Ev.fieldBox X rfl rfl rfl rfl rfl) ?_
  refine Run.go (Ev.loadCell X rfl rfl rfl rfl rfl rfl) ?_
  refine Run.nil ?_
  refine T.cond rfl (fun hb1 => ?_) (fun hb1 => ?_)
  · replace h := ifT hb1 h
    refine T.seq ?_
    refine T.region ?_
    refine Run.go (Ev.fieldBox X rfl rfl rfl rfl rfl) ?_
    refine Run.go (Ev.loadCell X rfl rfl rfl rfl rfl rfl) ?_
    obtain ⟨x2, e3, h⟩ := bdS h
    refine Run.go (Ev.callC en43 (k_triviumref02_Text e3) rfl (.cons .v .nil) rfl rfl) ?_
    obtain ⟨x4, e5, h⟩ := bdS h
    refine Run.go (Ev.e_cat e5 rfl rfl rfl) ?_
    refine Run.go (Ev.assign rfl rfl) ?_
    refine Run.nil ?_
    refine T.ret ?_
    cases h
    exact Fin.one rfl .v
  · replace h := ifF hb1 h
    refine T.skip ?_
    refine T.seq ?_
    refine T.region ?_
    refine Run.go (Ev.fieldBox X rfl rfl rfl rfl rfl) ?_
    refine Run.go (Ev.loadCell X rfl rfl rfl rfl rfl rfl) ?_
    obtain ⟨x6, e7, h⟩ := bdS h
    refine Run.go (Ev.callC en43 (k_triviumref02_Text e7) rfl (.cons .v .nil) rfl rfl) ?_
    refine Run.go (Ev.assign rfl rfl) ?_
    refine Run.nil ?_
    refine T.ret ?_
    cases h
    exact Fin.one rfl .v
theorem en17 : Enters Tryz.prog 17 := ⟨_, Tryz.func17, rfl, rfl⟩
theorem k_triviumref09_Print {p0 : D_triviumref08_Q} {y : ByteArray} (h : m_triviumref09_Print p0 = some y) : Spec Tryz.prog 17 [(.v Y_triviumref08_Q p0)] (.v .str y) [] := by
  rw [m_triviumref09_Print] at h
  refine enterN [(.v Y_triviumref08_Q p0)] 19 Tryz.func17 rfl rfl rfl ?_
  refine T.seq ?_
  refine T.region ?_
  refine Run.go (Ev.box 1 rfl rfl rfl rfl) ?_
  refine Run.go (Ev.assign rfl rfl) ?_
  refine Run.nil ?_
  refine T.seq ?_
  refine T.seq ?_
  refine T.drawM [] [0, 1, 0, 7, 15] (by kernel_rfl) (by kernel_rfl) ?_
  refine RunD.a rfl rfl (Ev.fieldBox X rfl rfl rfl rfl rfl) ?_
  refine RunD.a rfl rfl (Ev.loadCell X rfl rfl rfl rfl rfl rfl) ?_
  obtain ⟨x1, e2, h⟩ := bdS h
  refine RunD.a rfl rfl (Ev.callC en41 (k_triviumref02_Num e2) rfl (.cons .v .nil) rfl rfl) ?_
  obtain ⟨x3, e4, h⟩ := bdS h
  refine RunD.a rfl rfl (Ev.callC en40 (k_triviumref02_Cmp e4) rfl (.cons .v (.cons .v .nil)) rfl rfl) ?_
  refine RunD.w (fun _ => Ev.int rfl rfl rfl rfl trivial) ?_
  refine RunD.nil ?_
  refine T.cond rfl (fun hb5 => ?_) (fun hb5 => ?_)
  · replace h := ifT hb5 h
    refine T.seq ?_
    refine T.region ?_
    refine Run.go (Ev.fieldBox X rfl rfl rfl rfl rfl) ?_
    refine Run.go (Ev.loadBox X rfl rfl rfl rfl rfl) ?_
    obtain ⟨x6, e7, h⟩ := bdS h
    refine Run.go (Ev.callC en42 (k_triviumref07_Print e7) rfl (.cons .v .nil) rfl rfl) ?_
    refine Run.go (Ev.assign rfl rfl) ?_
    refine Run.nil ?_
    refine T.ret ?_
    cases h
    exact Fin.one rfl .v
  · replace h := ifF hb5 h
    refine T.skip ?_
    refine T.seq ?_
    refine T.drawM [] [0, 1, 3, 7, 0, 16, 55, 127, 255] (by kernel_rfl) (by kernel_rfl) ?_
    refine RunD.a rfl rfl (Ev.fieldBox X rfl rfl rfl rfl rfl) ?_
    refine RunD.a rfl rfl (Ev.loadBox X rfl rfl rfl rfl rfl) ?_
    obtain ⟨x8, e9, h⟩ := bdS h
    refine RunD.a rfl rfl (Ev.callC en42 (k_triviumref07_Print e9) rfl (.cons .v .nil) rfl rfl) ?_
    obtain ⟨x10, e11, h⟩ := bdS h
    refine RunD.w (fun _ => Ev.e_cat e11 rfl rfl rfl) ?_
    refine RunD.a rfl rfl (Ev.fieldBox X rfl rfl rfl rfl rfl) ?_
    refine RunD.a rfl rfl (Ev.loadCell X rfl rfl rfl rfl rfl rfl) ?_
    obtain ⟨x12, e13, h⟩ := bdS h
    refine RunD.a rfl rfl (Ev.callC en43 (k_triviumref02_Text e13) rfl (.cons .v .nil) rfl rfl) ?_
    obtain ⟨x14, e15, h⟩ := bdS h
    refine RunD.w (fun _ => Ev.e_cat e15 rfl rfl rfl) ?_
    refine RunD.w (fun _ => Ev.assign rfl rfl) ?_
    refine RunD.nil ?_
    refine T.ret ?_
    cases h
    exact Fin.one rfl .v
theorem en9 : Enters Tryz.prog 9 := ⟨_, Tryz.func9, rfl, rfl⟩
theorem k_triviumref22_Rule {p0 : D_api_Rule} {y : ByteArray} (h : m_triviumref22_Rule p0 = some y) : Spec Tryz.prog 9 [(.v Y_api_Rule p0)] (.v .str y) [] := by
  rw [m_triviumref22_Rule] at h
  refine enterN [(.v Y_api_Rule p0)] 75 Tryz.func9 rfl rfl rfl ?_
  refine T.seq ?_
  refine T.region ?_
  refine Run.go (Ev.box 1 rfl rfl rfl rfl) ?_
  refine Run.go (Ev.assign rfl rfl) ?_
  refine Run.nil ?_
  refine T.seq ?_
  refine T.drawM [] [0, 1, 3, 7, 0, 16, 48, 127, 255] (by kernel_rfl) (by kernel_rfl) ?_
  refine RunD.a rfl rfl (Ev.fieldBox X rfl rfl rfl rfl rfl) ?_
  refine RunD.a rfl rfl (Ev.loadCell X rfl rfl rfl rfl rfl rfl) ?_
  obtain ⟨x1, e2, h⟩ := bdS h
  refine RunD.w (fun _ => Ev.e_cat e2 rfl rfl rfl) ?_
  obtain ⟨x3, e4, h⟩ := bdS h
  refine RunD.w (fun _ => Ev.e_cat e4 rfl rfl rfl) ?_
  refine RunD.a rfl rfl (Ev.fieldBox X rfl rfl rfl rfl rfl) ?_
  refine RunD.a rfl rfl (Ev.loadBox X rfl rfl rfl rfl rfl) ?_
  obtain ⟨x5, e6, h⟩ := bdS h
  refine RunD.a rfl rfl (Ev.callC en16 (k_triviumref18_Text e6) rfl (.cons .v .nil) rfl rfl) ?_
  obtain ⟨x7, e8, h⟩ := bdS h
  refine RunD.w (fun _ => Ev.e_cat e8 rfl rfl rfl) ?_
  refine RunD.w (fun _ => Ev.assign rfl rfl) ?_
  refine RunD.nil ?_
  refine T.seq ?_
  refine T.seq ?_
  refine T.region ?_
  refine Run.go (Ev.fieldBox X rfl rfl rfl rfl rfl) ?_
  refine Run.go (Ev.loadCell X rfl rfl rfl rfl rfl rfl) ?_
  refine Run.nil ?_
  refine T.cond rfl (fun hb9 => ?_) (fun hb9 => ?_)
  · replace h := ifT hb9 h
    refine T.seq ?_
    refine T.region ?_
    refine Run.go (Ev.move rfl rfl) ?_
    obtain ⟨x10, e11, h⟩ := bdS h
    refine Run.go (Ev.e_cat e11 rfl rfl rfl) ?_
    refine Run.go (Ev.assign rfl rfl) ?_
    refine Run.nil ?_
    refine T.ret ?_
    cases h
    exact Fin.one rfl .v
  · replace h := ifF hb9 h
    refine T.skip ?_
    refine T.seq ?_
    refine T.region ?_
    refine Run.go (Ev.move rfl rfl) ?_
    obtain ⟨x12, e13, h⟩ := bdS h
    refine Run.go (Ev.e_cat e13 rfl rfl rfl) ?_
    refine Run.go (Ev.assign rfl rfl) ?_
    refine Run.nil ?_
    obtain ⟨v14, hv, h⟩ := bdS h
    refine T.cut (fun _ : Unit => (⟨[(3, .v .str v14)], [], 75⟩ : St)) (fun _ => True) ?_ (fun _ _ => ?_)
    · replace h := hv
      clear hv
      refine T.seq ?_
      refine T.region ?_
      refine Run.go (Ev.assign rfl rfl) ?_
      refine Run.nil ?_
      refine T.block ?_
      refine T.loop (LoopT.ghost (Ghost.only [(1, 1)] [1, 3, 4] rfl) (LoopT.run (fun q : ByteArray × Int => (⟨[(1, .box 1 0), (3, .v .str q.1), (4, .v (.int .i64) q.2)], [(1, .box [.v .str p0.1, .v (.int .u32) p0.2.1.1, .v (.int .i64) p0.2.1.2, .v .bool p0.2.2.1, .v (.sl (.sl Y_api_Hop)) p0.2.2.2])], 75⟩ : St)) (fun q z1 h hz1 => ?_) h))
      obtain ⟨v15, v16⟩ := q
      dsimp only
      rw [m_triviumref22_Rule_l1] at h
      refine T.seq ?_
      refine T.seq ?_
      refine T.region ?_
      refine Run.go (Ev.move rfl rfl) ?_
      refine Run.go (Ev.fieldBox X rfl rfl rfl rfl rfl) ?_
      refine Run.go (Ev.loadCell X rfl rfl rfl rfl rfl rfl) ?_
      refine Run.go (Ev.len X rfl rfl rfl rfl) ?_
      refine Run.go (Ev.int rfl rfl rfl rfl trivial) ?_
      refine Run.nil ?_
      refine T.cond rfl (fun hb17 => ?_) (fun hb17 => ?_)
      · replace h := ifT hb17 h
        refine T.skip ?_
        obtain ⟨v18, hv, h⟩ := bdS h
        refine T.cut (fun _ : Unit => (⟨[(1, .box 1 0), (3, .v .str v18), (4, .v (.int .i64) v16)], [(1, .box [.v .str p0.1, .v (.int .u32) p0.2.1.1, .v (.int .i64) p0.2.1.2, .v .bool p0.2.2.1, .v (.sl (.sl Y_api_Hop)) p0.2.2.2])], 75⟩ : St)) (fun _ => True) ?_ (fun _ _ => ?_)
        · replace h := hv
          clear hv
          refine T.block ?_
          obtain ⟨v19, hv, h⟩ := bdS h
          refine T.cut (fun _ : Unit => (⟨[(1, .box 1 0), (3, .v .str v19), (4, .v (.int .i64) v16)], [(1, .box [.v .str p0.1, .v (.int .u32) p0.2.1.1, .v (.int .i64) p0.2.1.2, .v .bool p0.2.2.1, .v (.sl (.sl Y_api_Hop)) p0.2.2.2])], 75⟩ : St)) (fun _ => True) ?_ (fun _ _ => ?_)
          · replace h := hv
            clear hv
            refine T.seq ?_
            refine T.region ?_
            refine Run.go (Ev.move rfl rfl) ?_
            refine Run.go (Ev.int rfl rfl rfl rfl trivial) ?_
            refine Run.nil ?_
            refine T.cond rfl (fun hb20 => ?_) (fun hb20 => ?_)
            · replace h := ifT hb20 h
              refine T.region ?_
              refine Run.go (Ev.move rfl rfl) ?_
              obtain ⟨x21, e22, h⟩ := bdS h
              refine Run.go (Ev.e_cat e22 rfl rfl rfl) ?_
              refine Run.go (Ev.assign rfl rfl) ?_
              refine Run.nil ?_
              cases h
              exact ⟨(), trivial, Ghost.only [(1, 1)] [1, 3, 4] rfl⟩
            · replace h := ifF hb20 h
              refine T.skip ?_
              cases h
              exact ⟨(), trivial, Ghost.only [(1, 1)] [1, 3, 4] rfl⟩
          · refine T.seq ?_
            refine T.region ?_
            refine Run.go (Ev.assign rfl rfl) ?_
            refine Run.nil ?_
            refine T.block ?_
            refine T.loop (LoopT.ghost (Ghost.only [(1, 1)] [1, 3, 4, 5] rfl) (LoopT.run (fun q : ByteArray × Int => (⟨[(1, .box 1 0), (3, .v .str q.1), (4, .v (.int .i64) v16), (5, .v (.int .i64) q.2)], [(1, .box [.v .str p0.1, .v (.int .u32) p0.2.1.1, .v (.int .i64) p0.2.1.2, .v .bool p0.2.2.1, .v (.sl (.sl Y_api_Hop)) p0.2.2.2])], 75⟩ : St)) (fun q z2 h hz2 => ?_) h))
            obtain ⟨v23, v24⟩ := q
            dsimp only
            rw [m_triviumref22_Rule_l2] at h
            refine T.seq ?_
            refine T.seq ?_
            refine T.region ?_
            refine Run.go (Ev.move rfl rfl) ?_
            refine Run.go (Ev.fieldBox X rfl rfl rfl rfl rfl) ?_
            refine Run.go (Ev.loadCell X rfl rfl rfl rfl rfl rfl) ?_
            refine Run.go (Ev.move rfl rfl) ?_
            obtain ⟨x25, e26, h⟩ := bdS h
            refine Run.go (Ev.e_rd X e26 rfl rfl rfl rfl) ?_
            refine Run.go (Ev.load X rfl rfl rfl) ?_
            refine Run.go (Ev.len X rfl rfl rfl rfl) ?_
            refine Run.go (Ev.int rfl rfl rfl rfl trivial) ?_
            refine Run.nil ?_
            refine T.cond rfl (fun hb27 => ?_) (fun hb27 => ?_)
            · replace h := ifT hb27 h
              refine T.skip ?_
              obtain ⟨v28, hv, h⟩ := bdS h
              refine T.cut (fun _ : Unit => (⟨[(1, .box 1 0), (3, .v .str v28), (4, .v (.int .i64) v16), (5, .v (.int .i64) v24)], [(1, .box [.v .str p0.1, .v (.int .u32) p0.2.1.1, .v (.int .i64) p0.2.1.2, .v .bool p0.2.2.1, .v (.sl (.sl Y_api_Hop)) p0.2.2.2])], 75⟩ : St)) (fun _ => True) ?_ (fun _ _ => ?_)
              · replace h := hv
                clear hv
                refine T.block ?_
                obtain ⟨v29, hv, h⟩ := bdS h
                refine T.cut (fun _ : Unit => (⟨[(1, .box 1 0), (3, .v .str v29), (4, .v (.int .i64) v16), (5, .v (.int .i64) v24)], [(1, .box [.v .str p0.1, .v (.int .u32) p0.2.1.1, .v (.int .i64) p0.2.1.2, .v .bool p0.2.2.1, .v (.sl (.sl Y_api_Hop)) p0.2.2.2])], 75⟩ : St)) (fun _ => True) ?_ (fun _ _ => ?_)
                · replace h := hv
                  clear hv
                  refine T.seq ?_
                  refine T.region ?_
                  refine Run.go (Ev.move rfl rfl) ?_
                  refine Run.go (Ev.int rfl rfl rfl rfl trivial) ?_
                  refine Run.nil ?_
                  refine T.cond rfl (fun hb30 => ?_) (fun hb30 => ?_)
                  · replace h := ifT hb30 h
                    refine T.region ?_
                    refine Run.go (Ev.move rfl rfl) ?_
                    obtain ⟨x31, e32, h⟩ := bdS h
                    refine Run.go (Ev.e_cat e32 rfl rfl rfl) ?_
                    refine Run.go (Ev.assign rfl rfl) ?_
                    refine Run.nil ?_
                    cases h
                    exact ⟨(), trivial, Ghost.only [(1, 1)] [1, 3, 4, 5] rfl⟩
                  · replace h := ifF hb30 h
                    refine T.skip ?_
                    cases h
                    exact ⟨(), trivial, Ghost.only [(1, 1)] [1, 3, 4, 5] rfl⟩
                · refine T.seq ?_
                  refine T.region ?_
                  refine Run.go (Ev.move rfl rfl) ?_
                  refine Run.go (Ev.fieldBox X rfl rfl rfl rfl rfl) ?_
                  refine Run.go (Ev.loadCell X rfl rfl rfl rfl rfl rfl) ?_
                  refine Run.go (Ev.move rfl rfl) ?_
                  obtain ⟨x33, e34, h⟩ := bdS h
                  refine Run.go (Ev.e_rd X e34 rfl rfl rfl rfl) ?_
                  refine Run.go (Ev.load X rfl rfl rfl) ?_
                  refine Run.go (Ev.move rfl rfl) ?_
                  obtain ⟨x35, e36, h⟩ := bdS h
                  refine Run.go (Ev.e_rd X e36 rfl rfl rfl rfl) ?_
                  refine Run.go (Ev.fieldAddr X rfl rfl rfl rfl) ?_
                  refine Run.go (Ev.load X rfl rfl rfl) ?_
                  obtain ⟨x37, e38, h⟩ := bdS h
                  refine Run.go (Ev.e_cat e38 rfl rfl rfl) ?_
                  refine Run.go (Ev.assign rfl rfl) ?_
                  refine Run.nil ?_
                  refine T.seq ?_
                  refine T.region ?_
                  refine Run.go (Ev.fieldBox X rfl rfl rfl rfl rfl) ?_
                  refine Run.go (Ev.loadCell X rfl rfl rfl rfl rfl rfl) ?_
                  refine Run.go (Ev.move rfl rfl) ?_
                  obtain ⟨x39, e40, h⟩ := bdS h
                  refine Run.go (Ev.e_rd X e40 rfl rfl rfl rfl) ?_
                  refine Run.go (Ev.load X rfl rfl rfl) ?_
                  refine Run.go (Ev.move rfl rfl) ?_
                  obtain ⟨x41, e42, h⟩ := bdS h
                  refine Run.go (Ev.e_rd X e42 rfl rfl rfl rfl) ?_
                  refine Run.go (Ev.fieldAddr X rfl rfl rfl rfl) ?_
                  refine Run.go (Ev.load X rfl rfl rfl) ?_
                  refine Run.go (Ev.assign rfl rfl) ?_
                  refine Run.nil ?_
                  refine T.seq ?_
                  refine T.region ?_
                  refine Run.go (Ev.move rfl rfl) ?_
                  refine Run.go (Ev.int rfl rfl rfl rfl trivial) ?_
                  refine Run.nil ?_
                  refine T.cond rfl (fun hb43 => ?_) (fun hb43 => ?_)
                  · replace h := ifT hb43 h
                    refine T.region ?_
                    refine Run.go (Ev.move rfl rfl) ?_
                    refine Run.go (Ev.move rfl rfl) ?_
                    obtain ⟨x44, e45, h⟩ := bdS h
                    refine Run.go (Ev.callC en23 (k_triviumbase_Itoa e45) rfl (.cons .v .nil) rfl rfl) ?_
                    obtain ⟨x46, e47, h⟩ := bdS h
                    refine Run.go (Ev.e_cat e47 rfl rfl rfl) ?_
                    obtain ⟨x48, e49, h⟩ := bdS h
                    refine Run.go (Ev.e_cat e49 rfl rfl rfl) ?_
                    refine Run.go (Ev.assign rfl rfl) ?_
                    refine Run.nil ?_
                    cases h
                    exact ⟨(), trivial, Ghost.only [(1, 1)] [1, 3, 4, 5] rfl⟩
                  · replace h := ifF hb43 h
                    refine T.skip ?_
                    cases h
                    exact ⟨(), trivial, Ghost.only [(1, 1)] [1, 3, 4, 5] rfl⟩
              · refine T.region ?_
                refine Run.go (Ev.move rfl rfl) ?_
                refine Run.go (Ev.int rfl rfl rfl rfl trivial) ?_
                refine Run.go (Ev.assign rfl rfl) ?_
                refine Run.nil ?_
                cases h
                exact LoopT.ghost (Ghost.only [(1, 1)] [1, 3, 4, 5] rfl) hz2
            · replace h := ifF hb27 h
              refine T.exit ?_
              cases h
              cases hz2
              exact ⟨(), trivial, Ghost.only [(1, 1)] [1, 3, 4] rfl⟩
        · refine T.region ?_
          refine Run.go (Ev.move rfl rfl) ?_
          refine Run.go (Ev.int rfl rfl rfl rfl trivial) ?_
          refine Run.go (Ev.assign rfl rfl) ?_
          refine Run.nil ?_
          cases h
          exact LoopT.ghost (Ghost.only [(1, 1)] [1, 3, 4] rfl) hz1
      · replace h := ifF hb17 h
        refine T.exit ?_
        cases h
        cases hz1
        exact ⟨(), trivial, Ghost.only [] [3] rfl⟩
    · refine T.seq ?_
      refine T.region ?_
      refine Run.go (Ev.move rfl rfl) ?_
      obtain ⟨x50, e51, h⟩ := bdS h
      refine Run.go (Ev.e_cat e51 rfl rfl rfl) ?_
      refine Run.go (Ev.assign rfl rfl) ?_
      refine Run.nil ?_
      refine T.ret ?_
      cases h
      exact Fin.one rfl .v
theorem en7 : Enters Tryz.prog 7 := ⟨_, Tryz.func7, rfl, rfl⟩
theorem k_triviumref22_Nets {p0 : (List D_api_Net)} {y : ByteArray} (h : m_triviumref22_Nets p0 = some y) : Spec Tryz.prog 7 [(.v (.sl Y_api_Net) p0)] (.v .str y) [] := by
  rw [m_triviumref22_Nets] at h
  refine enterN [(.v (.sl Y_api_Net) p0)] 126 Tryz.func7 rfl rfl rfl ?_
  refine T.seq ?_
  refine T.region ?_
  refine Run.go (Ev.assign rfl rfl) ?_
  refine Run.nil ?_
  refine T.seq ?_
  refine T.region ?_
  refine Run.go (Ev.assign rfl rfl) ?_
  refine Run.nil ?_
  obtain ⟨v1, hv, h⟩ := bdS h
  refine T.cut (fun _ : Unit => (⟨[(3, .v .str v1)], [], 126⟩ : St)) (fun _ => True) ?_ (fun _ _ => ?_)
  · replace h := hv
    clear hv
    refine T.seq ?_
    refine T.region ?_
    refine Run.go (Ev.assign rfl rfl) ?_
    refine Run.nil ?_
    refine T.block ?_
    refine T.loop (LoopT.ghost (Ghost.only [] [0, 3, 4] rfl) (LoopT.run (fun q : ByteArray × Int => (⟨[(0, .v (.sl Y_api_Net) p0), (3, .v .str q.1), (4, .v (.int .i64) q.2)], [], 126⟩ : St)) (fun q z1 h hz1 => ?_) h))
    obtain ⟨v2, v3⟩ := q
    dsimp only
    rw [m_triviumref22_Nets_l1] at h
    refine T.seq ?_
    refine T.seq ?_
    refine T.region ?_
    refine Run.go (Ev.move rfl rfl) ?_
    refine Run.go (Ev.move rfl rfl) ?_
    refine Run.go (Ev.len X rfl rfl rfl rfl) ?_
    refine Run.go (Ev.int rfl rfl rfl rfl trivial) ?_
    refine Run.nil ?_
    refine T.cond rfl (fun hb4 => ?_) (fun hb4 => ?_)
    · replace h := ifT hb4 h
      refine T.skip ?_
      obtain ⟨v5, hv, h⟩ := bdS h
      refine T.cut (fun _ : Unit => (⟨[(0, .v (.sl Y_api_Net) p0), (3, .v .str v5), (4, .v (.int .i64) v3)], [], 126⟩ : St)) (fun _ => True) ?_ (fun _ _ => ?_)
      · replace h := hv
        clear hv
        refine T.block ?_
        refine T.seq ?_
        refine T.region ?_
        refine Run.go (Ev.move rfl rfl) ?_
        refine Run.go (Ev.move rfl rfl) ?_
        obtain ⟨x6, e7, h⟩ := bdS h
        refine Run.go (Ev.e_rd X e7 rfl rfl rfl rfl) ?_
        refine Run.go (Ev.load X rfl rfl rfl) ?_
        refine Run.go (Ev.allocN X 2080 rfl rfl rfl) ?_
        refine Run.do_ (Ev.storeBox X rfl rfl rfl rfl rfl rfl rfl) ?_
        refine Run.nil ?_
        refine T.seq ?_
        refine T.region ?_
        refine Run.go (Ev.move rfl rfl) ?_
        refine Run.go (Ev.fieldBox X rfl rfl rfl rfl rfl) ?_
        refine Run.go (Ev.loadCell X rfl rfl rfl rfl rfl rfl) ?_
        obtain ⟨x8, e9, h⟩ := bdS h
        refine Run.go (Ev.e_cat e9 rfl rfl rfl) ?_
        obtain ⟨x10, e11, h⟩ := bdS h
        refine Run.go (Ev.e_cat e11 rfl rfl rfl) ?_
        obtain ⟨x12, e13, h⟩ := bdS h
        refine Run.go (Ev.e_cat e13 rfl rfl rfl) ?_
        refine Run.go (Ev.assign rfl rfl) ?_
        refine Run.nil ?_
        obtain ⟨v14, hv, h⟩ := bdS h
        refine T.cut (fun _ : Unit => (⟨[(0, .v (.sl Y_api_Net) p0), (3, .v .str v14), (4, .v (.int .i64) v3), (5, .box 2080 0)], [(2080, .box [.v .str x6.1, .v (.sl Y_api_Node) x6.2.1, .v (.sl Y_api_Link) x6.2.2.1, .v (.sl Y_api_Rule) x6.2.2.2])], 126⟩ : St)) (fun _ => True) ?_ (fun _ _ => ?_)
        · replace h := hv
          clear hv
          refine T.seq ?_
          refine T.region ?_
          refine Run.go (Ev.assign rfl rfl) ?_
          refine Run.nil ?_
          refine T.block ?_
          refine T.loop (LoopT.ghost (Ghost.only [(2080, 2080)] [0, 3, 4, 5, 6] rfl) (LoopT.run (fun q : ByteArray × Int => (⟨[(0, .v (.sl Y_api_Net) p0), (3, .v .str q.1), (4, .v (.int .i64) v3), (5, .box 2080 0), (6, .v (.int .i64) q.2)], [(2080, .box [.v .str x6.1, .v (.sl Y_api_Node) x6.2.1, .v (.sl Y_api_Link) x6.2.2.1, .v (.sl Y_api_Rule) x6.2.2.2])], 126⟩ : St)) (fun q z2 h hz2 => ?_) h))
          obtain ⟨v15, v16⟩ := q
          dsimp only
          rw [m_triviumref22_Nets_l2] at h
          refine T.seq ?_
          refine T.seq ?_
          refine T.region ?_
          refine Run.go (Ev.move rfl rfl) ?_
          refine Run.go (Ev.fieldBox X rfl rfl rfl rfl rfl) ?_
          refine Run.go (Ev.loadCell X rfl rfl rfl rfl rfl rfl) ?_
          refine Run.go (Ev.len X rfl rfl rfl rfl) ?_
          refine Run.go (Ev.int rfl rfl rfl rfl trivial) ?_
          refine Run.nil ?_
          refine T.cond rfl (fun hb17 => ?_) (fun hb17 => ?_)
          · replace h := ifT hb17 h
            refine T.skip ?_
            obtain ⟨v18, hv, h⟩ := bdS h
            refine T.cut (fun _ : Unit => (⟨[(0, .v (.sl Y_api_Net) p0), (3, .v .str v18), (4, .v (.int .i64) v3), (5, .box 2080 0), (6, .v (.int .i64) v16)], [(2080, .box [.v .str x6.1, .v (.sl Y_api_Node) x6.2.1, .v (.sl Y_api_Link) x6.2.2.1, .v (.sl Y_api_Rule) x6.2.2.2])], 126⟩ : St)) (fun _ => True) ?_ (fun _ _ => ?_)
            · replace h := hv
              clear hv
              refine T.block ?_
              refine T.seq ?_
              refine T.region ?_
              refine Run.go (Ev.move rfl rfl) ?_
              refine Run.go (Ev.fieldBox X rfl rfl rfl rfl rfl) ?_
              refine Run.go (Ev.loadCell X rfl rfl rfl rfl rfl rfl) ?_
              refine Run.go (Ev.move rfl rfl) ?_
              obtain ⟨x19, e20, h⟩ := bdS h
              refine Run.go (Ev.e_rd X e20 rfl rfl rfl rfl) ?_
              refine Run.go (Ev.fieldAddr X rfl rfl rfl rfl) ?_
              refine Run.go (Ev.load X rfl rfl rfl) ?_
              obtain ⟨x21, e22, h⟩ := bdS h
              refine Run.go (Ev.e_cat e22 rfl rfl rfl) ?_
              obtain ⟨x23, e24, h⟩ := bdS h
              refine Run.go (Ev.e_cat e24 rfl rfl rfl) ?_
              refine Run.go (Ev.assign rfl rfl) ?_
              refine Run.nil ?_
              obtain ⟨v25, hv, h⟩ := bdS h
              refine T.cut (fun _ : Unit => (⟨[(0, .v (.sl Y_api_Net) p0), (3, .v .str v25), (4, .v (.int .i64) v3), (5, .box 2080 0), (6, .v (.int .i64) v16)], [(2080, .box [.v .str x6.1, .v (.sl Y_api_Node) x6.2.1, .v (.sl Y_api_Link) x6.2.2.1, .v (.sl Y_api_Rule) x6.2.2.2])], 126⟩ : St)) (fun _ => True) ?_ (fun _ _ => ?_)
              · replace h := hv
                clear hv
                refine T.seq ?_
                refine T.region ?_
                refine Run.go (Ev.assign rfl rfl) ?_
                refine Run.nil ?_
                refine T.block ?_
                refine T.loop (LoopT.ghost (Ghost.only [(2080, 2080)] [0, 3, 4, 5, 6, 7] rfl) (LoopT.run (fun q : ByteArray × Int => (⟨[(0, .v (.sl Y_api_Net) p0), (3, .v .str q.1), (4, .v (.int .i64) v3), (5, .box 2080 0), (6, .v (.int .i64) v16), (7, .v (.int .i64) q.2)], [(2080, .box [.v .str x6.1, .v (.sl Y_api_Node) x6.2.1, .v (.sl Y_api_Link) x6.2.2.1, .v (.sl Y_api_Rule) x6.2.2.2])], 126⟩ : St)) (fun q z3 h hz3 => ?_) h))
                obtain ⟨v26, v27⟩ := q
                dsimp only
                rw [m_triviumref22_Nets_l3] at h
                refine T.seq ?_
                refine T.seq ?_
                refine T.region ?_
                refine Run.go (Ev.move rfl rfl) ?_
                refine Run.go (Ev.fieldBox X rfl rfl rfl rfl rfl) ?_
                refine Run.go (Ev.loadCell X rfl rfl rfl rfl rfl rfl) ?_
                refine Run.go (Ev.move rfl rfl) ?_
                obtain ⟨x28, e29, h⟩ := bdS h
                refine Run.go (Ev.e_rd X e29 rfl rfl rfl rfl) ?_
                refine Run.go (Ev.fieldAddr X rfl rfl rfl rfl) ?_
                refine Run.go (Ev.load X rfl rfl rfl) ?_
                refine Run.go (Ev.len X rfl rfl rfl rfl) ?_
                refine Run.go (Ev.int rfl rfl rfl rfl trivial) ?_
                refine Run.nil ?_
                refine T.cond rfl (fun hb30 => ?_) (fun hb30 => ?_)
                · replace h := ifT hb30 h
                  refine T.skip ?_
                  refine T.seq ?_
                  refine T.block ?_
                  obtain ⟨v31, hv, h⟩ := bdS h
                  refine T.cut (fun _ : Unit => (⟨[(0, .v (.sl Y_api_Net) p0), (3, .v .str v31), (4, .v (.int .i64) v3), (5, .box 2080 0), (6, .v (.int .i64) v16), (7, .v (.int .i64) v27)], [(2080, .box [.v .str x6.1, .v (.sl Y_api_Node) x6.2.1, .v (.sl Y_api_Link) x6.2.2.1, .v (.sl Y_api_Rule) x6.2.2.2])], 126⟩ : St)) (fun _ => True) ?_ (fun _ _ => ?_)
                  · replace h := hv
                    clear hv
                    refine T.seq ?_
                    refine T.region ?_
                    refine Run.go (Ev.move rfl rfl) ?_
                    refine Run.go (Ev.int rfl rfl rfl rfl trivial) ?_
                    refine Run.nil ?_
                    refine T.cond rfl (fun hb32 => ?_) (fun hb32 => ?_)
                    · replace h := ifT hb32 h
                      refine T.region ?_
                      refine Run.go (Ev.move rfl rfl) ?_
                      obtain ⟨x33, e34, h⟩ := bdS h
                      refine Run.go (Ev.e_cat e34 rfl rfl rfl) ?_
                      refine Run.go (Ev.assign rfl rfl) ?_
                      refine Run.nil ?_
                      cases h
                      exact ⟨(), trivial, Ghost.only [(2080, 2080)] [0, 3, 4, 5, 6, 7] rfl⟩
                    · replace h := ifF hb32 h
                      refine T.region ?_
                      refine Run.go (Ev.move rfl rfl) ?_
                      obtain ⟨x35, e36, h⟩ := bdS h
                      refine Run.go (Ev.e_cat e36 rfl rfl rfl) ?_
                      refine Run.go (Ev.assign rfl rfl) ?_
                      refine Run.nil ?_
                      cases h
                      exact ⟨(), trivial, Ghost.only [(2080, 2080)] [0, 3, 4, 5, 6, 7] rfl⟩
                  · refine T.region ?_
                    refine Run.go (Ev.move rfl rfl) ?_
                    refine Run.go (Ev.fieldBox X rfl rfl rfl rfl rfl) ?_
                    refine Run.go (Ev.loadCell X rfl rfl rfl rfl rfl rfl) ?_
                    refine Run.go (Ev.move rfl rfl) ?_
                    obtain ⟨x37, e38, h⟩ := bdS h
                    refine Run.go (Ev.e_rd X e38 rfl rfl rfl rfl) ?_
                    refine Run.go (Ev.fieldAddr X rfl rfl rfl rfl) ?_
                    refine Run.go (Ev.load X rfl rfl rfl) ?_
                    refine Run.go (Ev.move rfl rfl) ?_
                    obtain ⟨x39, e40, h⟩ := bdS h
                    refine Run.go (Ev.e_rd X e40 rfl rfl rfl rfl) ?_
                    refine Run.go (Ev.load X rfl rfl rfl) ?_
                    obtain ⟨x41, e42, h⟩ := bdS h
                    refine Run.go (Ev.callC en16 (k_triviumref18_Text e42) rfl (.cons .v .nil) rfl rfl) ?_
                    obtain ⟨x43, e44, h⟩ := bdS h
                    refine Run.go (Ev.e_cat e44 rfl rfl rfl) ?_
                    refine Run.go (Ev.assign rfl rfl) ?_
                    refine Run.nil ?_
                    refine T.region ?_
                    refine Run.go (Ev.move rfl rfl) ?_
                    refine Run.go (Ev.int rfl rfl rfl rfl trivial) ?_
                    refine Run.go (Ev.assign rfl rfl) ?_
                    refine Run.nil ?_
                    cases h
                    exact LoopT.ghost (Ghost.only [(2080, 2080)] [0, 3, 4, 5, 6, 7] rfl) hz3
                · replace h := ifF hb30 h
                  refine T.exit ?_
                  cases h
                  cases hz3
                  exact ⟨(), trivial, Ghost.only [(2080, 2080)] [0, 3, 4, 5, 6] rfl⟩
              · refine T.region ?_
                refine Run.go (Ev.move rfl rfl) ?_
                obtain ⟨x45, e46, h⟩ := bdS h
                refine Run.go (Ev.e_cat e46 rfl rfl rfl) ?_
                refine Run.go (Ev.assign rfl rfl) ?_
                refine Run.nil ?_
                cases h
                exact ⟨(), trivial, Ghost.only [(2080, 2080)] [0, 3, 4, 5, 6] rfl⟩
            · refine T.region ?_
              refine Run.go (Ev.move rfl rfl) ?_
              refine Run.go (Ev.int rfl rfl rfl rfl trivial) ?_
              refine Run.go (Ev.assign rfl rfl) ?_
              refine Run.nil ?_
              cases h
              exact LoopT.ghost (Ghost.only [(2080, 2080)] [0, 3, 4, 5, 6] rfl) hz2
          · replace h := ifF hb17 h
            refine T.exit ?_
            cases h
            cases hz2
            exact ⟨(), trivial, Ghost.only [(2080, 2080)] [0, 3, 4, 5] rfl⟩
        · obtain ⟨v47, hv, h⟩ := bdS h
          refine T.cut (fun _ : Unit => (⟨[(0, .v (.sl Y_api_Net) p0), (3, .v .str v47), (4, .v (.int .i64) v3), (5, .box 2080 0)], [(2080, .box [.v .str x6.1, .v (.sl Y_api_Node) x6.2.1, .v (.sl Y_api_Link) x6.2.2.1, .v (.sl Y_api_Rule) x6.2.2.2])], 126⟩ : St)) (fun _ => True) ?_ (fun _ _ => ?_)
          · replace h := hv
            clear hv
            refine T.seq ?_
            refine T.region ?_
            refine Run.go (Ev.assign rfl rfl) ?_
            refine Run.nil ?_
            refine T.block ?_
            refine T.loop (LoopT.ghost (Ghost.only [(2080, 2080)] [0, 3, 4, 5, 8] rfl) (LoopT.run (fun q : ByteArray × Int => (⟨[(0, .v (.sl Y_api_Net) p0), (3, .v .str q.1), (4, .v (.int .i64) v3), (5, .box 2080 0), (8, .v (.int .i64) q.2)], [(2080, .box [.v .str x6.1, .v (.sl Y_api_Node) x6.2.1, .v (.sl Y_api_Link) x6.2.2.1, .v (.sl Y_api_Rule) x6.2.2.2])], 126⟩ : St)) (fun q z2 h hz2 => ?_) h))
            obtain ⟨v48, v49⟩ := q
            dsimp only
            rw [m_triviumref22_Nets_l4] at h
            refine T.seq ?_
            refine T.seq ?_
            refine T.region ?_
            refine Run.go (Ev.move rfl rfl) ?_
            refine Run.go (Ev.fieldBox X rfl rfl rfl rfl rfl) ?_
            refine Run.go (Ev.loadCell X rfl rfl rfl rfl rfl rfl) ?_
            refine Run.go (Ev.len X rfl rfl rfl rfl) ?_
            refine Run.go (Ev.int rfl rfl rfl rfl trivial) ?_
            refine Run.nil ?_
            refine T.cond rfl (fun hb50 => ?_) (fun hb50 => ?_)
            · replace h := ifT hb50 h
              refine T.skip ?_
              refine T.seq ?_
              refine T.block ?_
              refine T.seq ?_
              refine T.region ?_
              refine Run.go (Ev.fieldBox X rfl rfl rfl rfl rfl) ?_
              refine Run.go (Ev.loadCell X rfl rfl rfl rfl rfl rfl) ?_
              refine Run.go (Ev.move rfl rfl) ?_
              obtain ⟨x51, e52, h⟩ := bdS h
              refine Run.go (Ev.e_rd X e52 rfl rfl rfl rfl) ?_
              refine Run.go (Ev.load X rfl rfl rfl) ?_
              refine Run.go (Ev.allocN X 2262 rfl rfl rfl) ?_
              refine Run.do_ (Ev.storeBox X rfl rfl rfl rfl rfl rfl rfl) ?_
              refine Run.nil ?_
              refine T.drawM [] [0, 0, 2, 6, 14, 0, 32, 126, 254, 0, 512, 2046, 4094, 0, 8192, 24576, 57344, 131070, 262142, 524287, 1048575] (by kernel_rfl) (by kernel_rfl) ?_
              refine RunD.w (fun _ => Ev.move rfl rfl) ?_
              refine RunD.a rfl rfl (Ev.fieldBox X rfl rfl rfl rfl rfl) ?_
              refine RunD.a rfl rfl (Ev.loadCell X rfl rfl rfl rfl rfl rfl) ?_
              obtain ⟨x53, e54, h⟩ := bdS h
              refine RunD.w (fun _ => Ev.e_cat e54 rfl rfl rfl) ?_
              obtain ⟨x55, e56, h⟩ := bdS h
              refine RunD.w (fun _ => Ev.e_cat e56 rfl rfl rfl) ?_
              refine RunD.a rfl rfl (Ev.fieldBox X rfl rfl rfl rfl rfl) ?_
              refine RunD.a rfl rfl (Ev.loadCell X rfl rfl rfl rfl rfl rfl) ?_
              obtain ⟨x57, e58, h⟩ := bdS h
              refine RunD.w (fun _ => Ev.e_cat e58 rfl rfl rfl) ?_
              obtain ⟨x59, e60, h⟩ := bdS h
              refine RunD.w (fun _ => Ev.e_cat e60 rfl rfl rfl) ?_
              refine RunD.a rfl rfl (Ev.fieldBox X rfl rfl rfl rfl rfl) ?_
              refine RunD.a rfl rfl (Ev.loadCell X rfl rfl rfl rfl rfl rfl) ?_
              obtain ⟨x61, e62, h⟩ := bdS h
              refine RunD.w (fun _ => Ev.e_cat e62 rfl rfl rfl) ?_
              obtain ⟨x63, e64, h⟩ := bdS h
              refine RunD.w (fun _ => Ev.e_cat e64 rfl rfl rfl) ?_
              refine RunD.a rfl rfl (Ev.fieldBox X rfl rfl rfl rfl rfl) ?_
              refine RunD.a rfl rfl (Ev.loadBox X rfl rfl rfl rfl rfl) ?_
              obtain ⟨x65, e66, h⟩ := bdS h
              refine RunD.a rfl rfl (Ev.callC en18 (k_triviumref08_Of e66) rfl (.cons .v .nil) rfl rfl) ?_
              obtain ⟨x67, e68, h⟩ := bdS h
              refine RunD.a rfl rfl (Ev.callC en17 (k_triviumref09_Print e68) rfl (.cons .v .nil) rfl rfl) ?_
              obtain ⟨x69, e70, h⟩ := bdS h
              refine RunD.w (fun _ => Ev.e_cat e70 rfl rfl rfl) ?_
              obtain ⟨x71, e72, h⟩ := bdS h
              refine RunD.w (fun _ => Ev.e_cat e72 rfl rfl rfl) ?_
              obtain ⟨x73, e74, h⟩ := bdS h
              refine RunD.w (fun _ => Ev.e_cat e74 rfl rfl rfl) ?_
              refine RunD.w (fun _ => Ev.assign rfl rfl) ?_
              refine RunD.nil ?_
              refine T.region ?_
              refine Run.go (Ev.move rfl rfl) ?_
              refine Run.go (Ev.int rfl rfl rfl rfl trivial) ?_
              refine Run.go (Ev.assign rfl rfl) ?_
              refine Run.nil ?_
              cases h
              exact LoopT.ghost (Ghost.only [(2080, 2080)] [0, 3, 4, 5, 8] rfl) hz2
            · replace h := ifF hb50 h
              refine T.exit ?_
              cases h
              cases hz2
              exact ⟨(), trivial, Ghost.only [(2080, 2080)] [0, 3, 4, 5] rfl⟩
          · obtain ⟨v75, hv, h⟩ := bdS h
            refine T.cut (fun _ : Unit => (⟨[(0, .v (.sl Y_api_Net) p0), (3, .v .str v75), (4, .v (.int .i64) v3)], [], 126⟩ : St)) (fun _ => True) ?_ (fun _ _ => ?_)
            · replace h := hv
              clear hv
              refine T.seq ?_
              refine T.region ?_
              refine Run.go (Ev.assign rfl rfl) ?_
              refine Run.nil ?_
              refine T.block ?_
              refine T.loop (LoopT.ghost (Ghost.only [(2080, 2080)] [0, 3, 4, 5, 10] rfl) (LoopT.run (fun q : ByteArray × Int => (⟨[(0, .v (.sl Y_api_Net) p0), (3, .v .str q.1), (4, .v (.int .i64) v3), (5, .box 2080 0), (10, .v (.int .i64) q.2)], [(2080, .box [.v .str x6.1, .v (.sl Y_api_Node) x6.2.1, .v (.sl Y_api_Link) x6.2.2.1, .v (.sl Y_api_Rule) x6.2.2.2])], 126⟩ : St)) (fun q z2 h hz2 => ?_) h))
              obtain ⟨v76, v77⟩ := q
              dsimp only
              rw [m_triviumref22_Nets_l5] at h
              refine T.seq ?_
              refine T.seq ?_
              refine T.region ?_
              refine Run.go (Ev.move rfl rfl) ?_
              refine Run.go (Ev.fieldBox X rfl rfl rfl rfl rfl) ?_
              refine Run.go (Ev.loadCell X rfl rfl rfl rfl rfl rfl) ?_
              refine Run.go (Ev.len X rfl rfl rfl rfl) ?_
              refine Run.go (Ev.int rfl rfl rfl rfl trivial) ?_
              refine Run.nil ?_
              refine T.cond rfl (fun hb78 => ?_) (fun hb78 => ?_)
              · replace h := ifT hb78 h
                refine T.skip ?_
                refine T.seq ?_
                refine T.block ?_
                refine T.region ?_
                refine Run.go (Ev.move rfl rfl) ?_
                refine Run.go (Ev.fieldBox X rfl rfl rfl rfl rfl) ?_
                refine Run.go (Ev.loadCell X rfl rfl rfl rfl rfl rfl) ?_
                refine Run.go (Ev.move rfl rfl) ?_
                obtain ⟨x79, e80, h⟩ := bdS h
                refine Run.go (Ev.e_rd X e80 rfl rfl rfl rfl) ?_
                refine Run.go (Ev.load X rfl rfl rfl) ?_
                obtain ⟨x81, e82, h⟩ := bdS h
                refine Run.go (Ev.callC en9 (k_triviumref22_Rule e82) rfl (.cons .v .nil) rfl rfl) ?_
                obtain ⟨x83, e84, h⟩ := bdS h
                refine Run.go (Ev.e_cat e84 rfl rfl rfl) ?_
                obtain ⟨x85, e86, h⟩ := bdS h
                refine Run.go (Ev.e_cat e86 rfl rfl rfl) ?_
                obtain ⟨x87, e88, h⟩ := bdS h
                refine Run.go (Ev.e_cat e88 rfl rfl rfl) ?_
                refine Run.go (Ev.assign rfl rfl) ?_
                refine Run.nil ?_
                refine T.region ?_
                refine Run.go (Ev.move rfl rfl) ?_
                refine Run.go (Ev.int rfl rfl rfl rfl trivial) ?_
                refine Run.go (Ev.assign rfl rfl) ?_
                refine Run.nil ?_
                cases h
                exact LoopT.ghost (Ghost.only [(2080, 2080)] [0, 3, 4, 5, 10] rfl) hz2
              · replace h := ifF hb78 h
                refine T.exit ?_
                cases h
                cases hz2
                exact ⟨(), trivial, Ghost.only [] [0, 3, 4] rfl⟩
            · refine T.region ?_
              refine Run.go (Ev.move rfl rfl) ?_
              obtain ⟨x89, e90, h⟩ := bdS h
              refine Run.go (Ev.e_cat e90 rfl rfl rfl) ?_
              refine Run.go (Ev.assign rfl rfl) ?_
              refine Run.nil ?_
              cases h
              exact ⟨(), trivial, Ghost.only [] [0, 3, 4] rfl⟩
      · refine T.region ?_
        refine Run.go (Ev.move rfl rfl) ?_
        refine Run.go (Ev.int rfl rfl rfl rfl trivial) ?_
        refine Run.go (Ev.assign rfl rfl) ?_
        refine Run.nil ?_
        cases h
        exact LoopT.ghost (Ghost.only [] [0, 3, 4] rfl) hz1
    · replace h := ifF hb4 h
      refine T.exit ?_
      cases h
      cases hz1
      exact ⟨(), trivial, Ghost.only [] [3] rfl⟩
  · refine T.seq ?_
    refine T.region ?_
    refine Run.go (Ev.move rfl rfl) ?_
    refine Run.go (Ev.assign rfl rfl) ?_
    refine Run.nil ?_
    refine T.ret ?_
    cases h
    exact Fin.one rfl .v
theorem en10 : Enters Tryz.prog 10 := ⟨_, Tryz.func10, rfl, rfl⟩
theorem k_triviumlaw22_works  {y : Bool} (h : m_triviumlaw22_works  = some y) : Spec Tryz.prog 10 [] (.v .bool y) [] := by
  rw [m_triviumlaw22_works] at h
  refine enterN [] 7 Tryz.func10 rfl rfl rfl ?_
  refine T.seq ?_
  refine T.region ?_
  refine Run.go (Ev.assign rfl rfl) ?_
  refine Run.nil ?_
  refine T.seq ?_
  refine T.region ?_
  refine Run.go (Ev.structC pl51 zs51 rfl rfl rfl) ?_
  refine Run.ghost (Ghost.stv (t := 1) (τ := Y_api_Node) (y := (((bs [114]), []) : D_api_Node)) rfl rfl rfl) ?_
  refine Run.go (Ev.build X 1 rfl rfl rfl rfl rfl rfl rfl rfl) ?_
  refine Run.go (Ev.structC pl47 zs47 rfl rfl rfl) ?_
  refine Run.ghost (Ghost.firmAll (id := 1) rfl) ?_
  refine Run.ghost (Ghost.stv (t := 3) (τ := Y_api_Net) (y := (((bs [97]), [((bs [114]), [])], [], []) : D_api_Net)) rfl rfl rfl) ?_
  refine Run.go (Ev.build X 2 rfl rfl rfl rfl rfl rfl rfl rfl) ?_
  obtain ⟨x1, e2, h⟩ := bdS h
  refine Run.go (Ev.lend rfl (.cons (.own rfl) .nil) en5 (k_canon_Nets e2) rfl rfl) ?_
  refine Run.go (Ev.strs rfl rfl rfl rfl trivial) ?_
  obtain ⟨x3, e4, h⟩ := ltS h
  refine Run.go (Ev.avs (Ev.assign rfl rfl) e4) ?_
  refine Run.nil ?_
  refine T.ret ?_
  cases h
  exact Fin.one rfl .v
end Go.Proofs.YtkjlcghikagdlaaGreatDoor.AE
