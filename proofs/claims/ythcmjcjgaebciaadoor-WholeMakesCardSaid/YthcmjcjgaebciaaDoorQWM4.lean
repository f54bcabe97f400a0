/- The code comes to the printed functions (printed by a program of ours). -/
import Derived.Test.YthcmjcjgaebciaaDoorQWM3
/- The code comes to the printed functions (printed by a program of ours). -/
namespace Go.Proofs.YthcmjcjgaebciaaDoor.AE
open Go Go.RowKit Go.Proofs.YthcmjcjgaebciaaDoor.AP
set_option linter.unusedVariables false
set_option maxRecDepth 20000
theorem en46 : Enters Tryd.prog 46 := ⟨_, Tryd.func46, rfl, rfl⟩
theorem k_triviumref02_Add {p0 : (List Int)} {p1 : (List Int)} {y : (List Int)} (h : m_triviumref02_Add p0 p1 = some y) : Spec Tryd.prog 46 [(.v (.sl (.int .i64)) p0), (.v (.sl (.int .i64)) p1)] (.v (.sl (.int .i64)) y) [] := by
  rw [m_triviumref02_Add] at h
  refine enterN [(.v (.sl (.int .i64)) p0), (.v (.sl (.int .i64)) p1)] 50 Tryd.func46 rfl rfl rfl ?_
  refine T.seq ?_
  refine T.region ?_
  refine Run.go (Ev.assign rfl rfl) ?_
  refine Run.nil ?_
  refine T.seq ?_
  refine T.region ?_
  refine Run.go (Ev.build X 1 rfl rfl rfl rfl rfl rfl rfl rfl) ?_
  refine Run.go (Ev.assign rfl rfl) ?_
  refine Run.go (Ev.assign rfl rfl) ?_
  refine Run.nil ?_
  obtain ⟨⟨v1, v2⟩, hv, h⟩ := bdS h
  refine T.cut (fun _ : Unit => (⟨[(5, .own 7), (6, .v (.int .i64) v1)], [(7, .arr 3 (.int .i64) v2)], 50⟩ : St)) (fun _ => True) ?_ (fun _ _ => ?_)
  · replace h := hv
    clear hv
    refine T.seq ?_
    refine T.region ?_
    refine Run.go (Ev.assign rfl rfl) ?_
    refine Run.nil ?_
    refine T.block ?_
    refine T.loop (LoopT.ghost (Ghost.only [(1, 23)] [0, 1, 5, 6, 7] rfl) (LoopT.run (fun q : Int × Int × (List Int) => (⟨[(0, .v (.sl (.int .i64)) p0), (1, .v (.sl (.int .i64)) p1), (5, .own 23), (6, .v (.int .i64) q.1), (7, .v (.int .i64) q.2.1)], [(23, .arr 3 (.int .i64) q.2.2)], 50⟩ : St)) (fun q z1 h hz1 => ?_) h))
    obtain ⟨v3, v4, v5⟩ := q
    dsimp only
    rw [m_triviumref02_Add_l1] at h
    refine T.seq ?_
    refine T.seq ?_
    refine T.region ?_
    refine Run.go (Ev.move rfl rfl) ?_
    refine Run.go (Ev.move rfl rfl) ?_
    refine Run.go (Ev.len X rfl rfl rfl rfl) ?_
    refine Run.go (Ev.move rfl rfl) ?_
    refine Run.go (Ev.len X rfl rfl rfl rfl) ?_
    refine Run.go (Ev.max rfl rfl rfl) ?_
    refine Run.go (Ev.int rfl rfl rfl rfl trivial) ?_
    refine Run.nil ?_
    refine T.cond rfl (fun hb6 => ?_) (fun hb6 => ?_)
    · replace h := ifT hb6 h
      refine T.skip ?_
      refine T.seq ?_
      refine T.block ?_
      obtain ⟨v7, hv, h⟩ := bdS h
      refine T.cut (fun _ : Unit => (⟨[(0, .v (.sl (.int .i64)) p0), (1, .v (.sl (.int .i64)) p1), (5, .own 23), (6, .v (.int .i64) v7), (7, .v (.int .i64) v4)], [(23, .arr 3 (.int .i64) v5)], 50⟩ : St)) (fun _ => True) ?_ (fun _ _ => ?_)
      · replace h := hv
        clear hv
        refine T.seq ?_
        refine T.region ?_
        refine Run.go (Ev.move rfl rfl) ?_
        refine Run.go (Ev.move rfl rfl) ?_
        refine Run.go (Ev.len X rfl rfl rfl rfl) ?_
        refine Run.go (Ev.int rfl rfl rfl rfl trivial) ?_
        refine Run.nil ?_
        refine T.cond rfl (fun hb8 => ?_) (fun hb8 => ?_)
        · replace h := ifT hb8 h
          refine T.region ?_
          refine Run.go (Ev.move rfl rfl) ?_
          refine Run.go (Ev.move rfl rfl) ?_
          refine Run.go (Ev.move rfl rfl) ?_
          obtain ⟨x9, e10, h⟩ := bdS h
          refine Run.go (Ev.e_rd X e10 rfl rfl rfl rfl) ?_
          refine Run.go (Ev.load X rfl rfl rfl) ?_
          refine Run.go (Ev.int rfl rfl rfl rfl trivial) ?_
          refine Run.go (Ev.assign rfl rfl) ?_
          refine Run.nil ?_
          cases h
          exact ⟨(), trivial, Ghost.only [(23, 23)] [0, 1, 5, 6, 7] rfl⟩
        · replace h := ifF hb8 h
          refine T.skip ?_
          cases h
          exact ⟨(), trivial, Ghost.only [(23, 23)] [0, 1, 5, 6, 7] rfl⟩
      · obtain ⟨v11, hv, h⟩ := bdS h
        refine T.cut (fun _ : Unit => (⟨[(0, .v (.sl (.int .i64)) p0), (1, .v (.sl (.int .i64)) p1), (5, .own 23), (6, .v (.int .i64) v11), (7, .v (.int .i64) v4)], [(23, .arr 3 (.int .i64) v5)], 50⟩ : St)) (fun _ => True) ?_ (fun _ _ => ?_)
        · replace h := hv
          clear hv
          refine T.seq ?_
          refine T.region ?_
          refine Run.go (Ev.move rfl rfl) ?_
          refine Run.go (Ev.move rfl rfl) ?_
          refine Run.go (Ev.len X rfl rfl rfl rfl) ?_
          refine Run.go (Ev.int rfl rfl rfl rfl trivial) ?_
          refine Run.nil ?_
          refine T.cond rfl (fun hb12 => ?_) (fun hb12 => ?_)
          · replace h := ifT hb12 h
            refine T.region ?_
            refine Run.go (Ev.move rfl rfl) ?_
            refine Run.go (Ev.move rfl rfl) ?_
            refine Run.go (Ev.move rfl rfl) ?_
            obtain ⟨x13, e14, h⟩ := bdS h
            refine Run.go (Ev.e_rd X e14 rfl rfl rfl rfl) ?_
            refine Run.go (Ev.load X rfl rfl rfl) ?_
            refine Run.go (Ev.int rfl rfl rfl rfl trivial) ?_
            refine Run.go (Ev.assign rfl rfl) ?_
            refine Run.nil ?_
            cases h
            exact ⟨(), trivial, Ghost.only [(23, 23)] [0, 1, 5, 6, 7] rfl⟩
          · replace h := ifF hb12 h
            refine T.skip ?_
            cases h
            exact ⟨(), trivial, Ghost.only [(23, 23)] [0, 1, 5, 6, 7] rfl⟩
        · refine T.seq ?_
          refine T.region ?_
          refine Run.go (Ev.move rfl rfl) ?_
          refine Run.go (Ev.move rfl rfl) ?_
          obtain ⟨x15, e16, h⟩ := bdS h
          refine Run.go (Ev.e_rm e16 rfl rfl rfl) ?_
          refine Run.go (Ev.build X 31 rfl rfl rfl rfl rfl rfl rfl rfl) ?_
          obtain ⟨x17, e18, h⟩ := bdS h
          refine Run.go (Ev.e_ap X 32 e18 rfl rfl rfl (.own rfl) rfl rfl rfl rfl rfl) ?_
          refine Run.go (Ev.assign rfl rfl) ?_
          refine Run.nil ?_
          refine T.region ?_
          refine Run.go (Ev.move rfl rfl) ?_
          obtain ⟨x19, e20, h⟩ := bdS h
          refine Run.go (Ev.e_qd e20 rfl rfl rfl) ?_
          refine Run.go (Ev.assign rfl rfl) ?_
          refine Run.nil ?_
          refine T.region ?_
          refine Run.go (Ev.move rfl rfl) ?_
          refine Run.go (Ev.int rfl rfl rfl rfl trivial) ?_
          refine Run.go (Ev.assign rfl rfl) ?_
          refine Run.nil ?_
          cases h
          exact LoopT.ghost (Ghost.only [(32, 23)] [0, 1, 5, 6, 7] rfl) hz1
    · replace h := ifF hb6 h
      refine T.exit ?_
      cases h
      cases hz1
      exact ⟨(), trivial, Ghost.only [(23, 7)] [5, 6] rfl⟩
  · refine T.seq ?_
    refine T.region ?_
    refine Run.go (Ev.move rfl rfl) ?_
    refine Run.go (Ev.move rfl rfl) ?_
    refine Run.go (Ev.build X 33 rfl rfl rfl rfl rfl rfl rfl rfl) ?_
    obtain ⟨x21, e22, h⟩ := bdS h
    refine Run.go (Ev.e_ap X 34 e22 rfl rfl rfl (.own rfl) rfl rfl rfl rfl rfl) ?_
    refine Run.ghost (Ghost.firmAll (id := 34) rfl) ?_
    obtain ⟨x23, e24, h⟩ := bdS h
    refine Run.go (Ev.callC en98 (k_triviumref02_Trim e24) rfl (.cons .v .nil) rfl rfl) ?_
    refine Run.go (Ev.assign rfl rfl) ?_
    refine Run.nil ?_
    refine T.ret ?_
    cases h
    exact Fin.one rfl .v
theorem en94 : Enters Tryd.prog 94 := ⟨_, Tryd.func94, rfl, rfl⟩
theorem k_triviumref02_Cmp {p0 : (List Int)} {p1 : (List Int)} {y : Int} (h : m_triviumref02_Cmp p0 p1 = some y) : Spec Tryd.prog 94 [(.v (.sl (.int .i64)) p0), (.v (.sl (.int .i64)) p1)] (.v (.int .i64) y) [] := by
  rw [m_triviumref02_Cmp] at h
  refine enterN [(.v (.sl (.int .i64)) p0), (.v (.sl (.int .i64)) p1)] 41 Tryd.func94 rfl rfl rfl ?_
  refine T.seq ?_
  refine T.region ?_
  refine Run.go (Ev.assign rfl rfl) ?_
  refine Run.nil ?_
  refine T.seq ?_
  refine T.seq ?_
  refine T.region ?_
  refine Run.go (Ev.move rfl rfl) ?_
  refine Run.go (Ev.len X rfl rfl rfl rfl) ?_
  refine Run.go (Ev.move rfl rfl) ?_
  refine Run.go (Ev.len X rfl rfl rfl rfl) ?_
  refine Run.go (Ev.int rfl rfl rfl rfl trivial) ?_
  refine Run.nil ?_
  refine T.cond rfl (fun hb1 => ?_) (fun hb1 => ?_)
  · replace h := ifT hb1 h
    refine T.seq ?_
    refine T.seq ?_
    refine T.region ?_
    refine Run.go (Ev.move rfl rfl) ?_
    refine Run.go (Ev.len X rfl rfl rfl rfl) ?_
    refine Run.go (Ev.move rfl rfl) ?_
    refine Run.go (Ev.len X rfl rfl rfl rfl) ?_
    refine Run.go (Ev.int rfl rfl rfl rfl trivial) ?_
    refine Run.nil ?_
    refine T.cond rfl (fun hb2 => ?_) (fun hb2 => ?_)
    · replace h := ifT hb2 h
      refine T.seq ?_
      refine T.region ?_
      refine Run.go (Ev.assign rfl rfl) ?_
      refine Run.nil ?_
      refine T.ret ?_
      cases h
      exact Fin.one rfl .v
    · replace h := ifF hb2 h
      refine T.skip ?_
      refine T.seq ?_
      refine T.region ?_
      refine Run.go (Ev.assign rfl rfl) ?_
      refine Run.nil ?_
      refine T.ret ?_
      cases h
      exact Fin.one rfl .v
  · replace h := ifF hb1 h
    refine T.skip ?_
    refine T.seq ?_
    refine T.seq ?_
    refine T.region ?_
    refine Run.go (Ev.move rfl rfl) ?_
    refine Run.go (Ev.len X rfl rfl rfl rfl) ?_
    refine Run.go (Ev.int rfl rfl rfl rfl trivial) ?_
    refine Run.go (Ev.assign rfl rfl) ?_
    refine Run.nil ?_
    refine T.block ?_
    refine T.loop (LoopT.ghost (Ghost.only [] [0, 1, 5] rfl) (LoopT.run (fun q : Int => (⟨[(0, .v (.sl (.int .i64)) p0), (1, .v (.sl (.int .i64)) p1), (5, .v (.int .i64) q)], [], 41⟩ : St)) (fun v3 z1 h hz1 => ?_) h))
    rw [m_triviumref02_Cmp_l1] at h
    refine T.seq ?_
    refine T.seq ?_
    refine T.region ?_
    refine Run.go (Ev.move rfl rfl) ?_
    refine Run.go (Ev.int rfl rfl rfl rfl trivial) ?_
    refine Run.nil ?_
    refine T.cond rfl (fun hb4 => ?_) (fun hb4 => ?_)
    · replace h := ifT hb4 h
      refine T.skip ?_
      refine T.seq ?_
      refine T.block ?_
      refine T.seq ?_
      refine T.seq ?_
      refine T.drawM [] [0, 0, 3, 7, 0, 0, 48, 112, 255] (by kernel_rfl) (by kernel_rfl) ?_
      refine RunD.w (fun _ => Ev.move rfl rfl) ?_
      refine RunD.w (fun _ => Ev.move rfl rfl) ?_
      obtain ⟨x5, e6, h⟩ := bdS h
      refine RunD.a rfl rfl (Ev.e_rd X e6 rfl rfl rfl rfl) ?_
      refine RunD.a rfl rfl (Ev.load X rfl rfl rfl) ?_
      refine RunD.w (fun _ => Ev.move rfl rfl) ?_
      refine RunD.w (fun _ => Ev.move rfl rfl) ?_
      obtain ⟨x7, e8, h⟩ := bdS h
      refine RunD.a rfl rfl (Ev.e_rd X e8 rfl rfl rfl rfl) ?_
      refine RunD.a rfl rfl (Ev.load X rfl rfl rfl) ?_
      refine RunD.w (fun _ => Ev.int rfl rfl rfl rfl trivial) ?_
      refine RunD.nil ?_
      refine T.cond rfl (fun hb9 => ?_) (fun hb9 => ?_)
      · replace h := ifT hb9 h
        refine T.seq ?_
        refine T.region ?_
        refine Run.go (Ev.assign rfl rfl) ?_
        refine Run.nil ?_
        refine T.ret ?_
        cases h
        cases hz1
        exact Fin.one rfl .v
      · replace h := ifF hb9 h
        refine T.skip ?_
        refine T.seq ?_
        refine T.drawM [] [0, 0, 3, 7, 0, 0, 48, 112, 255] (by kernel_rfl) (by kernel_rfl) ?_
        refine RunD.w (fun _ => Ev.move rfl rfl) ?_
        refine RunD.w (fun _ => Ev.move rfl rfl) ?_
        obtain ⟨x10, e11, h⟩ := bdS h
        refine RunD.a rfl rfl (Ev.e_rd X e11 rfl rfl rfl rfl) ?_
        refine RunD.a rfl rfl (Ev.load X rfl rfl rfl) ?_
        refine RunD.w (fun _ => Ev.move rfl rfl) ?_
        refine RunD.w (fun _ => Ev.move rfl rfl) ?_
        obtain ⟨x12, e13, h⟩ := bdS h
        refine RunD.a rfl rfl (Ev.e_rd X e13 rfl rfl rfl rfl) ?_
        refine RunD.a rfl rfl (Ev.load X rfl rfl rfl) ?_
        refine RunD.w (fun _ => Ev.int rfl rfl rfl rfl trivial) ?_
        refine RunD.nil ?_
        refine T.cond rfl (fun hb14 => ?_) (fun hb14 => ?_)
        · replace h := ifT hb14 h
          refine T.seq ?_
          refine T.region ?_
          refine Run.go (Ev.assign rfl rfl) ?_
          refine Run.nil ?_
          refine T.ret ?_
          cases h
          cases hz1
          exact Fin.one rfl .v
        · replace h := ifF hb14 h
          refine T.skip ?_
          refine T.region ?_
          refine Run.go (Ev.move rfl rfl) ?_
          refine Run.go (Ev.int rfl rfl rfl rfl trivial) ?_
          refine Run.go (Ev.assign rfl rfl) ?_
          refine Run.nil ?_
          cases h
          exact LoopT.ghost (Ghost.only [] [0, 1, 5] rfl) hz1
    · replace h := ifF hb4 h
      refine T.exit ?_
      refine T.seq ?_
      refine T.region ?_
      refine Run.go (Ev.assign rfl rfl) ?_
      refine Run.nil ?_
      refine T.ret ?_
      cases h
      cases hz1
      exact Fin.one rfl .v
theorem en95 : Enters Tryd.prog 95 := ⟨_, Tryd.func95, rfl, rfl⟩
theorem k_triviumref02_Sub {p0 : (List Int)} {p1 : (List Int)} {y : (List Int)} (h : m_triviumref02_Sub p0 p1 = some y) : Spec Tryd.prog 95 [(.v (.sl (.int .i64)) p0), (.v (.sl (.int .i64)) p1)] (.v (.sl (.int .i64)) y) [] := by
  rw [m_triviumref02_Sub] at h
  refine enterN [(.v (.sl (.int .i64)) p0), (.v (.sl (.int .i64)) p1)] 42 Tryd.func95 rfl rfl rfl ?_
  refine T.seq ?_
  refine T.region ?_
  refine Run.go (Ev.assign rfl rfl) ?_
  refine Run.nil ?_
  refine T.seq ?_
  refine T.region ?_
  refine Run.go (Ev.build X 1 rfl rfl rfl rfl rfl rfl rfl rfl) ?_
  refine Run.go (Ev.assign rfl rfl) ?_
  refine Run.go (Ev.assign rfl rfl) ?_
  refine Run.nil ?_
  obtain ⟨v1, hv, h⟩ := bdS h
  refine T.cut (fun _ : Unit => (⟨[(5, .own 7)], [(7, .arr 3 (.int .i64) v1)], 42⟩ : St)) (fun _ => True) ?_ (fun _ _ => ?_)
  · replace h := hv
    clear hv
    refine T.seq ?_
    refine T.region ?_
    refine Run.go (Ev.assign rfl rfl) ?_
    refine Run.nil ?_
    refine T.block ?_
    refine T.loop (LoopT.ghost (Ghost.only [(1, 23)] [0, 1, 5, 6, 7] rfl) (LoopT.run (fun q : Int × Int × (List Int) => (⟨[(0, .v (.sl (.int .i64)) p0), (1, .v (.sl (.int .i64)) p1), (5, .own 23), (6, .v (.int .i64) q.1), (7, .v (.int .i64) q.2.1)], [(23, .arr 3 (.int .i64) q.2.2)], 42⟩ : St)) (fun q z1 h hz1 => ?_) h))
    obtain ⟨v2, v3, v4⟩ := q
    dsimp only
    rw [m_triviumref02_Sub_l1] at h
    refine T.seq ?_
    refine T.seq ?_
    refine T.region ?_
    refine Run.go (Ev.move rfl rfl) ?_
    refine Run.go (Ev.move rfl rfl) ?_
    refine Run.go (Ev.len X rfl rfl rfl rfl) ?_
    refine Run.go (Ev.int rfl rfl rfl rfl trivial) ?_
    refine Run.nil ?_
    refine T.cond rfl (fun hb5 => ?_) (fun hb5 => ?_)
    · replace h := ifT hb5 h
      refine T.skip ?_
      refine T.seq ?_
      refine T.block ?_
      refine T.seq ?_
      refine T.region ?_
      refine Run.go (Ev.move rfl rfl) ?_
      refine Run.go (Ev.move rfl rfl) ?_
      obtain ⟨x6, e7, h⟩ := bdS h
      refine Run.go (Ev.e_rd X e7 rfl rfl rfl rfl) ?_
      refine Run.go (Ev.load X rfl rfl rfl) ?_
      refine Run.go (Ev.move rfl rfl) ?_
      refine Run.go (Ev.int rfl rfl rfl rfl trivial) ?_
      refine Run.go (Ev.assign rfl rfl) ?_
      refine Run.nil ?_
      obtain ⟨v8, hv, h⟩ := bdS h
      refine T.cut (fun _ : Unit => (⟨[(0, .v (.sl (.int .i64)) p0), (1, .v (.sl (.int .i64)) p1), (5, .own 23), (7, .v (.int .i64) v3), (8, .v (.int .i64) v8)], [(23, .arr 3 (.int .i64) v4)], 42⟩ : St)) (fun _ => True) ?_ (fun _ _ => ?_)
      · replace h := hv
        clear hv
        refine T.seq ?_
        refine T.region ?_
        refine Run.go (Ev.move rfl rfl) ?_
        refine Run.go (Ev.move rfl rfl) ?_
        refine Run.go (Ev.len X rfl rfl rfl rfl) ?_
        refine Run.go (Ev.int rfl rfl rfl rfl trivial) ?_
        refine Run.nil ?_
        refine T.cond rfl (fun hb9 => ?_) (fun hb9 => ?_)
        · replace h := ifT hb9 h
          refine T.region ?_
          refine Run.go (Ev.move rfl rfl) ?_
          refine Run.go (Ev.move rfl rfl) ?_
          refine Run.go (Ev.move rfl rfl) ?_
          obtain ⟨x10, e11, h⟩ := bdS h
          refine Run.go (Ev.e_rd X e11 rfl rfl rfl rfl) ?_
          refine Run.go (Ev.load X rfl rfl rfl) ?_
          refine Run.go (Ev.int rfl rfl rfl rfl trivial) ?_
          refine Run.go (Ev.assign rfl rfl) ?_
          refine Run.nil ?_
          cases h
          exact ⟨(), trivial, Ghost.only [(23, 23)] [0, 1, 5, 7, 8] rfl⟩
        · replace h := ifF hb9 h
          refine T.skip ?_
          cases h
          exact ⟨(), trivial, Ghost.only [(23, 23)] [0, 1, 5, 7, 8] rfl⟩
      · refine T.seq ?_
        refine T.region ?_
        refine Run.go (Ev.assign rfl rfl) ?_
        refine Run.nil ?_
        obtain ⟨⟨v12, v13⟩, hv, h⟩ := bdS h
        refine T.cut (fun _ : Unit => (⟨[(0, .v (.sl (.int .i64)) p0), (1, .v (.sl (.int .i64)) p1), (5, .own 23), (6, .v (.int .i64) v12), (7, .v (.int .i64) v3), (8, .v (.int .i64) v13)], [(23, .arr 3 (.int .i64) v4)], 42⟩ : St)) (fun _ => True) ?_ (fun _ _ => ?_)
        · replace h := hv
          clear hv
          refine T.seq ?_
          refine T.region ?_
          refine Run.go (Ev.move rfl rfl) ?_
          refine Run.go (Ev.int rfl rfl rfl rfl trivial) ?_
          refine Run.nil ?_
          refine T.cond rfl (fun hb14 => ?_) (fun hb14 => ?_)
          · replace h := ifT hb14 h
            refine T.region ?_
            refine Run.go (Ev.move rfl rfl) ?_
            refine Run.go (Ev.int rfl rfl rfl rfl trivial) ?_
            refine Run.go (Ev.assign rfl rfl) ?_
            refine Run.go (Ev.assign rfl rfl) ?_
            refine Run.nil ?_
            cases h
            exact ⟨(), trivial, Ghost.only [(23, 23)] [0, 1, 5, 6, 7, 8] rfl⟩
          · replace h := ifF hb14 h
            refine T.skip ?_
            cases h
            exact ⟨(), trivial, Ghost.only [(23, 23)] [0, 1, 5, 6, 7, 8] rfl⟩
        · refine T.region ?_
          refine Run.go (Ev.move rfl rfl) ?_
          refine Run.go (Ev.move rfl rfl) ?_
          refine Run.go (Ev.build X 31 rfl rfl rfl rfl rfl rfl rfl rfl) ?_
          obtain ⟨x15, e16, h⟩ := bdS h
          refine Run.go (Ev.e_ap X 32 e16 rfl rfl rfl (.own rfl) rfl rfl rfl rfl rfl) ?_
          refine Run.go (Ev.assign rfl rfl) ?_
          refine Run.nil ?_
          refine T.region ?_
          refine Run.go (Ev.move rfl rfl) ?_
          refine Run.go (Ev.int rfl rfl rfl rfl trivial) ?_
          refine Run.go (Ev.assign rfl rfl) ?_
          refine Run.nil ?_
          cases h
          exact LoopT.ghost (Ghost.only [(32, 23)] [0, 1, 5, 6, 7] rfl) hz1
    · replace h := ifF hb5 h
      refine T.exit ?_
      cases h
      cases hz1
      exact ⟨(), trivial, Ghost.only [(23, 7)] [5] rfl⟩
  · refine T.seq ?_
    refine T.region ?_
    refine Run.go (Ev.move rfl rfl) ?_
    refine Run.ghost (Ghost.firmAll (id := 7) rfl) ?_
    obtain ⟨x17, e18, h⟩ := bdS h
    refine Run.go (Ev.callC en98 (k_triviumref02_Trim e18) rfl (.cons .v .nil) rfl rfl) ?_
    refine Run.go (Ev.assign rfl rfl) ?_
    refine Run.nil ?_
    refine T.ret ?_
    cases h
    exact Fin.one rfl .v
theorem en43 : Enters Tryd.prog 43 := ⟨_, Tryd.func43, rfl, rfl⟩
theorem k_triviumref07_Add {p0 : D_triviumref07_Z} {p1 : D_triviumref07_Z} {y : D_triviumref07_Z} (h : m_triviumref07_Add p0 p1 = some y) : Spec Tryd.prog 43 [(.v Y_triviumref07_Z p0), (.v Y_triviumref07_Z p1)] (.v Y_triviumref07_Z y) [] := by
  rw [m_triviumref07_Add] at h
  refine enterN [(.v Y_triviumref07_Z p0), (.v Y_triviumref07_Z p1)] 40 Tryd.func43 rfl rfl rfl ?_
  refine T.seq ?_
  refine T.region ?_
  refine Run.go (Ev.box 1 rfl rfl rfl rfl) ?_
  refine Run.go (Ev.box 2 rfl rfl rfl rfl) ?_
  refine Run.go (Ev.allocN X 3 rfl rfl rfl) ?_
  refine Run.nil ?_
  refine T.seq ?_
  refine T.seq ?_
  refine T.region ?_
  refine Run.go (Ev.fieldBox X rfl rfl rfl rfl rfl) ?_
  refine Run.go (Ev.loadCell X rfl rfl rfl rfl rfl rfl) ?_
  refine Run.go (Ev.fieldBox X rfl rfl rfl rfl rfl) ?_
  refine Run.go (Ev.loadCell X rfl rfl rfl rfl rfl rfl) ?_
  refine Run.go (Ev.bools X rfl rfl rfl rfl rfl) ?_
  refine Run.nil ?_
  refine T.cond rfl (fun hb1 => ?_) (fun hb1 => ?_)
  · replace h := ifT hb1 h
    refine T.seq ?_
    refine T.drawM [8] [0, 1, 0, 4, 0, 16, 60, 127, 255] (by kernel_rfl) (by kernel_rfl) ?_
    refine RunD.a rfl rfl (Ev.fieldBox X rfl rfl rfl rfl rfl) ?_
    refine RunD.a rfl rfl (Ev.loadCell X rfl rfl rfl rfl rfl rfl) ?_
    refine RunD.a rfl rfl (Ev.fieldBox X rfl rfl rfl rfl rfl) ?_
    refine RunD.a rfl rfl (Ev.loadCell X rfl rfl rfl rfl rfl rfl) ?_
    refine RunD.a rfl rfl (Ev.fieldBox X rfl rfl rfl rfl rfl) ?_
    refine RunD.a rfl rfl (Ev.loadCell X rfl rfl rfl rfl rfl rfl) ?_
    obtain ⟨x2, e3, h⟩ := bdS h
    refine RunD.a rfl rfl (Ev.callC en46 (k_triviumref02_Add e3) rfl (.cons .v (.cons .v .nil)) rfl rfl) ?_
    obtain ⟨x4, e5, h⟩ := bdS h
    refine RunD.a rfl rfl (Ev.callC en93 (k_triviumref07_made e5) rfl (.cons .v (.cons .v .nil)) rfl rfl) ?_
    refine RunD.mN rfl (Ev.storeBox X rfl rfl rfl rfl rfl rfl rfl) ?_
    refine RunD.nil ?_
    refine T.ret ?_
    cases h
    exact Fin.cell X rfl rfl rfl rfl rfl
  · replace h := ifF hb1 h
    refine T.skip ?_
    refine T.seq ?_
    refine T.seq ?_
    refine T.region ?_
    refine Run.go (Ev.fieldBox X rfl rfl rfl rfl rfl) ?_
    refine Run.go (Ev.loadCell X rfl rfl rfl rfl rfl rfl) ?_
    refine Run.go (Ev.fieldBox X rfl rfl rfl rfl rfl) ?_
    refine Run.go (Ev.loadCell X rfl rfl rfl rfl rfl rfl) ?_
    obtain ⟨x6, e7, h⟩ := bdS h
    refine Run.go (Ev.callC en94 (k_triviumref02_Cmp e7) rfl (.cons .v (.cons .v .nil)) rfl rfl) ?_
    refine Run.go (Ev.int rfl rfl rfl rfl trivial) ?_
    refine Run.nil ?_
    refine T.cond rfl (fun hb8 => ?_) (fun hb8 => ?_)
    · replace h := ifT hb8 h
      refine T.seq ?_
      refine T.drawM [8] [0, 1, 0, 4, 0, 16, 60, 127, 255] (by kernel_rfl) (by kernel_rfl) ?_
      refine RunD.a rfl rfl (Ev.fieldBox X rfl rfl rfl rfl rfl) ?_
      refine RunD.a rfl rfl (Ev.loadCell X rfl rfl rfl rfl rfl rfl) ?_
      refine RunD.a rfl rfl (Ev.fieldBox X rfl rfl rfl rfl rfl) ?_
      refine RunD.a rfl rfl (Ev.loadCell X rfl rfl rfl rfl rfl rfl) ?_
      refine RunD.a rfl rfl (Ev.fieldBox X rfl rfl rfl rfl rfl) ?_
      refine RunD.a rfl rfl (Ev.loadCell X rfl rfl rfl rfl rfl rfl) ?_
      obtain ⟨x9, e10, h⟩ := bdS h
      refine RunD.a rfl rfl (Ev.callC en95 (k_triviumref02_Sub e10) rfl (.cons .v (.cons .v .nil)) rfl rfl) ?_
      obtain ⟨x11, e12, h⟩ := bdS h
      refine RunD.a rfl rfl (Ev.callC en93 (k_triviumref07_made e12) rfl (.cons .v (.cons .v .nil)) rfl rfl) ?_
      refine RunD.mN rfl (Ev.storeBox X rfl rfl rfl rfl rfl rfl rfl) ?_
      refine RunD.nil ?_
      refine T.ret ?_
      cases h
      exact Fin.cell X rfl rfl rfl rfl rfl
    · replace h := ifF hb8 h
      refine T.skip ?_
      refine T.seq ?_
      refine T.drawM [8] [0, 1, 0, 4, 0, 16, 60, 127, 255] (by kernel_rfl) (by kernel_rfl) ?_
      refine RunD.a rfl rfl (Ev.fieldBox X rfl rfl rfl rfl rfl) ?_
      refine RunD.a rfl rfl (Ev.loadCell X rfl rfl rfl rfl rfl rfl) ?_
      refine RunD.a rfl rfl (Ev.fieldBox X rfl rfl rfl rfl rfl) ?_
      refine RunD.a rfl rfl (Ev.loadCell X rfl rfl rfl rfl rfl rfl) ?_
      refine RunD.a rfl rfl (Ev.fieldBox X rfl rfl rfl rfl rfl) ?_
      refine RunD.a rfl rfl (Ev.loadCell X rfl rfl rfl rfl rfl rfl) ?_
      obtain ⟨x13, e14, h⟩ := bdS h
      refine RunD.a rfl rfl (Ev.callC en95 (k_triviumref02_Sub e14) rfl (.cons .v (.cons .v .nil)) rfl rfl) ?_
      obtain ⟨x15, e16, h⟩ := bdS h
      refine RunD.a rfl rfl (Ev.callC en93 (k_triviumref07_made e16) rfl (.cons .v (.cons .v .nil)) rfl rfl) ?_
      refine RunD.mN rfl (Ev.storeBox X rfl rfl rfl rfl rfl rfl rfl) ?_
      refine RunD.nil ?_
      refine T.ret ?_
      cases h
      exact Fin.cell X rfl rfl rfl rfl rfl
theorem en84 : Enters Tryd.prog 84 := ⟨_, Tryd.func84, rfl, rfl⟩
theorem k_triviumref02_DivSmall {p0 : (List Int)} {p1 : Int} {y : (List Int) × Int} (h : m_triviumref02_DivSmall p0 p1 = some y) : Spec Tryd.prog 84 [(.v (.sl (.int .i64)) p0), (.v (.int .i64) p1)] (.tup [.v (.sl (.int .i64)) y.1, .v (.int .i64) y.2]) [] := by
  rw [m_triviumref02_DivSmall] at h
  refine enterN [(.v (.sl (.int .i64)) p0), (.v (.int .i64) p1)] 38 Tryd.func84 rfl rfl rfl ?_
  refine T.seq ?_
  refine T.region ?_
  refine Run.go (Ev.assign rfl rfl) ?_
  refine Run.go (Ev.assign rfl rfl) ?_
  refine Run.nil ?_
  refine T.seq ?_
  refine T.region ?_
  refine Run.go (Ev.move rfl rfl) ?_
  refine Run.go (Ev.len X rfl rfl rfl rfl) ?_
  obtain ⟨x1, e2, h⟩ := bdS h
  refine Run.go (Ev.e_mk X 1 e2 rfl rfl rfl rfl rfl rfl) ?_
  refine Run.go (Ev.assign rfl rfl) ?_
  refine Run.go (Ev.assign rfl rfl) ?_
  refine Run.nil ?_
  obtain ⟨⟨v3, v4⟩, hv, h⟩ := bdS h
  refine T.cut (fun _ : Unit => (⟨[(6, .own 1), (7, .v (.int .i64) v3)], [(1, .arr 3 (.int .i64) v4)], 38⟩ : St)) (fun _ => True) ?_ (fun _ _ => ?_)
  · replace h := hv
    clear hv
    refine T.seq ?_
    refine T.region ?_
    refine Run.go (Ev.move rfl rfl) ?_
    refine Run.go (Ev.len X rfl rfl rfl rfl) ?_
    refine Run.go (Ev.int rfl rfl rfl rfl trivial) ?_
    refine Run.go (Ev.assign rfl rfl) ?_
    refine Run.nil ?_
    refine T.block ?_
    refine T.loop (LoopT.ghost (Ghost.only [(1, 1)] [0, 1, 6, 7, 8] rfl) (LoopT.run (fun q : Int × Int × (List Int) => (⟨[(0, .v (.sl (.int .i64)) p0), (1, .v (.int .i64) p1), (6, .own 1), (7, .v (.int .i64) q.1), (8, .v (.int .i64) q.2.1)], [(1, .arr 3 (.int .i64) q.2.2)], 38⟩ : St)) (fun q z1 h hz1 => ?_) h))
    obtain ⟨v5, v6, v7⟩ := q
    dsimp only
    rw [m_triviumref02_DivSmall_l1] at h
    refine T.seq ?_
    refine T.seq ?_
    refine T.region ?_
    refine Run.go (Ev.move rfl rfl) ?_
    refine Run.go (Ev.int rfl rfl rfl rfl trivial) ?_
    refine Run.nil ?_
    refine T.cond rfl (fun hb8 => ?_) (fun hb8 => ?_)
    · replace h := ifT hb8 h
      refine T.skip ?_
      refine T.seq ?_
      refine T.block ?_
      refine T.seq ?_
      refine T.region ?_
      refine Run.go (Ev.move rfl rfl) ?_
      refine Run.go (Ev.int rfl rfl rfl rfl trivial) ?_
      refine Run.go (Ev.move rfl rfl) ?_
      refine Run.go (Ev.move rfl rfl) ?_
      obtain ⟨x9, e10, h⟩ := bdS h
      refine Run.go (Ev.e_rd X e10 rfl rfl rfl rfl) ?_
      refine Run.go (Ev.load X rfl rfl rfl) ?_
      refine Run.go (Ev.int rfl rfl rfl rfl trivial) ?_
      refine Run.go (Ev.assign rfl rfl) ?_
      refine Run.nil ?_
      refine T.seq ?_
      refine T.region ?_
      refine Run.go (Ev.move rfl rfl) ?_
      refine Run.go (Ev.move rfl rfl) ?_
      refine Run.go (Ev.move rfl rfl) ?_
      refine Run.go (Ev.move rfl rfl) ?_
      obtain ⟨x11, e12, h⟩ := bdS h
      refine Run.go (Ev.e_qd e12 rfl rfl rfl) ?_
      obtain ⟨j13, e14, h⟩ := bdS h
      refine Run.go (Ev.e_ixO X e14 rfl rfl rfl rfl rfl) ?_
      obtain ⟨x15, e16, h⟩ := ltS h
      refine Run.do_ (Ev.asO (Ev.storeEl X rfl rfl rfl rfl rfl) e16) ?_
      refine Run.nil ?_
      refine T.region ?_
      refine Run.go (Ev.move rfl rfl) ?_
      refine Run.go (Ev.move rfl rfl) ?_
      obtain ⟨x17, e18, h⟩ := bdS h
      refine Run.go (Ev.e_rm e18 rfl rfl rfl) ?_
      refine Run.go (Ev.assign rfl rfl) ?_
      refine Run.nil ?_
      refine T.region ?_
      refine Run.go (Ev.move rfl rfl) ?_
      refine Run.go (Ev.int rfl rfl rfl rfl trivial) ?_
      refine Run.go (Ev.assign rfl rfl) ?_
      refine Run.nil ?_
      cases h
      exact LoopT.ghost (Ghost.only [(1, 1)] [0, 1, 6, 7, 8] rfl) hz1
    · replace h := ifF hb8 h
      refine T.exit ?_
      cases h
      cases hz1
      exact ⟨(), trivial, Ghost.only [(1, 1)] [6, 7] rfl⟩
  · refine T.seq ?_
    refine T.region ?_
    refine Run.go (Ev.move rfl rfl) ?_
    refine Run.ghost (Ghost.firmAll (id := 1) rfl) ?_
    obtain ⟨x19, e20, h⟩ := bdS h
    refine Run.go (Ev.callC en98 (k_triviumref02_Trim e20) rfl (.cons .v .nil) rfl rfl) ?_
    refine Run.go (Ev.move rfl rfl) ?_
    refine Run.go (Ev.assign rfl rfl) ?_
    refine Run.go (Ev.assign rfl rfl) ?_
    refine Run.nil ?_
    refine T.ret ?_
    cases h
    exact Fin.many X rfl (.cons (.tmp .v) (.cons (.tmp .v) .nil)) rfl
theorem en48 : Enters Tryd.prog 48 := ⟨_, Tryd.func48, rfl, rfl⟩
theorem k_triviumref02_Back {p0 : (List Int)} {y : (List Int)} (h : m_triviumref02_Back p0 = some y) : Spec Tryd.prog 48 [(.v (.sl (.int .i64)) p0)] (.v (.sl (.int .u64)) y) [] := by
  rw [m_triviumref02_Back] at h
  refine enterN [(.v (.sl (.int .i64)) p0)] 22 Tryd.func48 rfl rfl rfl ?_
  refine T.seq ?_
  refine T.region ?_
  refine Run.go (Ev.assign rfl rfl) ?_
  refine Run.nil ?_
  refine T.seq ?_
  refine T.region ?_
  refine Run.go (Ev.build X 1 rfl rfl rfl rfl rfl rfl rfl rfl) ?_
  refine Run.go (Ev.assign rfl rfl) ?_
  refine Run.nil ?_
  obtain ⟨v1, hv, h⟩ := bdS h
  refine T.cut (fun _ : Unit => (⟨[(3, .own 5)], [(5, .arr 96 (.int .u64) v1)], 22⟩ : St)) (fun _ => True) ?_ (fun _ _ => ?_)
  · replace h := hv
    clear hv
    refine T.block ?_
    refine T.loop (LoopT.ghost (Ghost.only [(1, 15)] [0, 3] rfl) (LoopT.run (fun q : (List Int) × (List Int) => (⟨[(0, .v (.sl (.int .i64)) q.1), (3, .own 15)], [(15, .arr 96 (.int .u64) q.2)], 22⟩ : St)) (fun q z1 h hz1 => ?_) h))
    obtain ⟨v2, v3⟩ := q
    dsimp only
    rw [m_triviumref02_Back_l1] at h
    refine T.seq ?_
    refine T.seq ?_
    refine T.region ?_
    refine Run.go (Ev.move rfl rfl) ?_
    refine Run.go (Ev.len X rfl rfl rfl rfl) ?_
    refine Run.go (Ev.int rfl rfl rfl rfl trivial) ?_
    refine Run.nil ?_
    refine T.cond rfl (fun hb4 => ?_) (fun hb4 => ?_)
    · replace h := ifT hb4 h
      refine T.skip ?_
      refine T.block ?_
      refine T.seq ?_
      refine T.region ?_
      refine Run.go (Ev.move rfl rfl) ?_
      obtain ⟨x5, e6, h⟩ := bdS h
      refine Run.go (Ev.callC en84 (k_triviumref02_DivSmall e6) rfl (.cons .v (.cons .v .nil)) rfl rfl) ?_
      refine Run.go (Ev.move rfl rfl) ?_
      refine Run.go (Ev.extract rfl rfl rfl) ?_
      refine Run.go (Ev.extract rfl rfl rfl) ?_
      refine Run.go (Ev.assign rfl rfl) ?_
      refine Run.go (Ev.assign rfl rfl) ?_
      refine Run.nil ?_
      refine T.seq ?_
      refine T.region ?_
      refine Run.go (Ev.move rfl rfl) ?_
      refine Run.go (Ev.move rfl rfl) ?_
      refine Run.go (Ev.conv X rfl rfl rfl rfl) ?_
      refine Run.go (Ev.build X 19 rfl rfl rfl rfl rfl rfl rfl rfl) ?_
      obtain ⟨x7, e8, h⟩ := bdS h
      refine Run.go (Ev.e_ap X 20 e8 rfl rfl rfl (.own rfl) rfl rfl rfl rfl rfl) ?_
      refine Run.go (Ev.assign rfl rfl) ?_
      refine Run.nil ?_
      refine T.region ?_
      refine Run.go (Ev.move rfl rfl) ?_
      refine Run.go (Ev.assign rfl rfl) ?_
      refine Run.nil ?_
      cases h
      exact LoopT.ghost (Ghost.only [(20, 15)] [0, 3] rfl) hz1
    · replace h := ifF hb4 h
      refine T.exit ?_
      cases h
      cases hz1
      exact ⟨(), trivial, Ghost.only [(15, 5)] [3] rfl⟩
  · refine T.seq ?_
    refine T.region ?_
    refine Run.go (Ev.move rfl rfl) ?_
    refine Run.go (Ev.assign rfl rfl) ?_
    refine Run.nil ?_
    refine T.ret ?_
    cases h
    exact Fin.one rfl (.own rfl)
theorem en52 : Enters Tryd.prog 52 := ⟨_, Tryd.func52, rfl, rfl⟩
theorem k_triviumref07_Back {p0 : D_triviumref07_Z} {y : D_api_Int} (h : m_triviumref07_Back p0 = some y) : Spec Tryd.prog 52 [(.v Y_triviumref07_Z p0)] (.v Y_api_Int y) [] := by
  rw [m_triviumref07_Back] at h
  refine enterN [(.v Y_triviumref07_Z p0)] 9 Tryd.func52 rfl rfl rfl ?_
  refine T.seq ?_
  refine T.region ?_
  refine Run.go (Ev.box 1 rfl rfl rfl rfl) ?_
  refine Run.go (Ev.allocN X 2 rfl rfl rfl) ?_
  refine Run.nil ?_
  refine T.seq ?_
  refine T.drawM [6] [0, 1, 0, 4, 12, 31, 63] (by kernel_rfl) (by kernel_rfl) ?_
  refine RunD.a rfl rfl (Ev.fieldBox X rfl rfl rfl rfl rfl) ?_
  refine RunD.a rfl rfl (Ev.loadCell X rfl rfl rfl rfl rfl rfl) ?_
  refine RunD.a rfl rfl (Ev.fieldBox X rfl rfl rfl rfl rfl) ?_
  refine RunD.a rfl rfl (Ev.loadCell X rfl rfl rfl rfl rfl rfl) ?_
  obtain ⟨x1, e2, h⟩ := bdS h
  refine RunD.a rfl rfl (Ev.callC en48 (k_triviumref02_Back e2) rfl (.cons .v .nil) rfl rfl) ?_
  refine RunD.w (fun _ => Ev.struct X pl64 rfl rfl rfl rfl rfl rfl rfl rfl) ?_
  refine RunD.mN rfl (Ev.storeBox X rfl rfl rfl rfl rfl rfl rfl) ?_
  refine RunD.nil ?_
  refine T.ret ?_
  cases h
  exact Fin.cell X rfl rfl rfl rfl rfl
theorem en18 : Enters Tryd.prog 18 := ⟨_, Tryd.func18, rfl, rfl⟩
theorem k_triviumref02_Same {p0 : (List Int)} {p1 : (List Int)} {y : Bool} (h : m_triviumref02_Same p0 p1 = some y) : Spec Tryd.prog 18 [(.v (.sl (.int .u64)) p0), (.v (.sl (.int .u64)) p1)] (.v .bool y) [] := by
  rw [m_triviumref02_Same] at h
  refine enterN [(.v (.sl (.int .u64)) p0), (.v (.sl (.int .u64)) p1)] 26 Tryd.func18 rfl rfl rfl ?_
  refine T.seq ?_
  refine T.region ?_
  refine Run.go (Ev.assign rfl rfl) ?_
  refine Run.nil ?_
  refine T.seq ?_
  refine T.seq ?_
  refine T.region ?_
  refine Run.go (Ev.move rfl rfl) ?_
  refine Run.go (Ev.len X rfl rfl rfl rfl) ?_
  refine Run.go (Ev.move rfl rfl) ?_
  refine Run.go (Ev.len X rfl rfl rfl rfl) ?_
  refine Run.go (Ev.int rfl rfl rfl rfl trivial) ?_
  refine Run.nil ?_
  refine T.cond rfl (fun hb1 => ?_) (fun hb1 => ?_)
  · replace h := ifT hb1 h
    refine T.seq ?_
    refine T.region ?_
    refine Run.go (Ev.assign rfl rfl) ?_
    refine Run.nil ?_
    refine T.ret ?_
    cases h
    exact Fin.one rfl .v
  · replace h := ifF hb1 h
    refine T.skip ?_
    refine T.seq ?_
    refine T.seq ?_
    refine T.region ?_
    refine Run.go (Ev.assign rfl rfl) ?_
    refine Run.nil ?_
    refine T.block ?_
    refine T.loop (LoopT.ghost (Ghost.only [] [0, 1, 5] rfl) (LoopT.run (fun q : Int => (⟨[(0, .v (.sl (.int .u64)) p0), (1, .v (.sl (.int .u64)) p1), (5, .v (.int .i64) q)], [], 26⟩ : St)) (fun v2 z1 h hz1 => ?_) h))
    rw [m_triviumref02_Same_l1] at h
    refine T.seq ?_
    refine T.seq ?_
    refine T.region ?_
    refine Run.go (Ev.move rfl rfl) ?_
    refine Run.go (Ev.move rfl rfl) ?_
    refine Run.go (Ev.len X rfl rfl rfl rfl) ?_
    refine Run.go (Ev.int rfl rfl rfl rfl trivial) ?_
    refine Run.nil ?_
    refine T.cond rfl (fun hb3 => ?_) (fun hb3 => ?_)
    · replace h := ifT hb3 h
      refine T.skip ?_
      refine T.seq ?_
      refine T.block ?_
      refine T.seq ?_
      refine T.drawM [] [0, 0, 3, 7, 0, 0, 48, 112, 255] (by kernel_rfl) (by kernel_rfl) ?_
      refine RunD.w (fun _ => Ev.move rfl rfl) ?_
      refine RunD.w (fun _ => Ev.move rfl rfl) ?_
      obtain ⟨x4, e5, h⟩ := bdS h
      refine RunD.a rfl rfl (Ev.e_rd X e5 rfl rfl rfl rfl) ?_
      refine RunD.a rfl rfl (Ev.load X rfl rfl rfl) ?_
      refine RunD.w (fun _ => Ev.move rfl rfl) ?_
      refine RunD.w (fun _ => Ev.move rfl rfl) ?_
      obtain ⟨x6, e7, h⟩ := bdS h
      refine RunD.a rfl rfl (Ev.e_rd X e7 rfl rfl rfl rfl) ?_
      refine RunD.a rfl rfl (Ev.load X rfl rfl rfl) ?_
      refine RunD.w (fun _ => Ev.int rfl rfl rfl rfl trivial) ?_
      refine RunD.nil ?_
      refine T.cond rfl (fun hb8 => ?_) (fun hb8 => ?_)
      · replace h := ifT hb8 h
        refine T.seq ?_
        refine T.region ?_
        refine Run.go (Ev.assign rfl rfl) ?_
        refine Run.nil ?_
        refine T.ret ?_
        cases h
        cases hz1
        exact Fin.one rfl .v
      · replace h := ifF hb8 h
        refine T.skip ?_
        refine T.region ?_
        refine Run.go (Ev.move rfl rfl) ?_
        refine Run.go (Ev.int rfl rfl rfl rfl trivial) ?_
        refine Run.go (Ev.assign rfl rfl) ?_
        refine Run.nil ?_
        cases h
        exact LoopT.ghost (Ghost.only [] [0, 1, 5] rfl) hz1
    · replace h := ifF hb3 h
      refine T.exit ?_
      refine T.seq ?_
      refine T.region ?_
      refine Run.go (Ev.assign rfl rfl) ?_
      refine Run.nil ?_
      refine T.ret ?_
      cases h
      cases hz1
      exact Fin.one rfl .v
theorem en49 : Enters Tryd.prog 49 := ⟨_, Tryd.func49, rfl, rfl⟩
theorem k_triviumref07_Same {p0 : D_api_Int} {p1 : D_api_Int} {y : Bool} (h : m_triviumref07_Same p0 p1 = some y) : Spec Tryd.prog 49 [(.v Y_api_Int p0), (.v Y_api_Int p1)] (.v .bool y) [] := by
  rw [m_triviumref07_Same] at h
  refine enterN [(.v Y_api_Int p0), (.v Y_api_Int p1)] 17 Tryd.func49 rfl rfl rfl ?_
  refine T.seq ?_
  refine T.region ?_
  refine Run.go (Ev.box 1 rfl rfl rfl rfl) ?_
  refine Run.go (Ev.box 2 rfl rfl rfl rfl) ?_
  refine Run.go (Ev.assign rfl rfl) ?_
  refine Run.nil ?_
  refine T.seq ?_
  refine T.region ?_
  refine Run.go (Ev.fieldBox X rfl rfl rfl rfl rfl) ?_
  refine Run.go (Ev.loadCell X rfl rfl rfl rfl rfl rfl) ?_
  refine Run.go (Ev.fieldBox X rfl rfl rfl rfl rfl) ?_
  refine Run.go (Ev.loadCell X rfl rfl rfl rfl rfl rfl) ?_
  refine Run.go (Ev.bools X rfl rfl rfl rfl rfl) ?_
  refine Run.go (Ev.move rfl rfl) ?_
  rcases boolCases (p0.1 == p1.1) with hb1 | hb1
  · replace h := ifT hb1 h
    refine Run.on rfl rfl rfl hb1 (Ev.fieldBox X rfl rfl rfl rfl rfl) ?_
    refine Run.on rfl rfl rfl hb1 (Ev.loadCell X rfl rfl rfl rfl rfl rfl) ?_
    refine Run.on rfl rfl rfl hb1 (Ev.fieldBox X rfl rfl rfl rfl rfl) ?_
    refine Run.on rfl rfl rfl hb1 (Ev.loadCell X rfl rfl rfl rfl rfl rfl) ?_
    obtain ⟨x2, e3, h⟩ := bdS h
    refine Run.on rfl rfl rfl hb1 (Ev.callC en18 (k_triviumref02_Same e3) rfl (.cons .v (.cons .v .nil)) rfl rfl) ?_
    refine Run.go (Ev.pickT rfl hb1 rfl rfl) ?_
    refine Run.go (Ev.assign rfl rfl) ?_
    refine Run.nil ?_
    refine T.ret ?_
    cases h
    exact Fin.one rfl .v
  · replace h := ifF hb1 h
    refine Run.offT rfl rfl rfl rfl hb1 ?_
    refine Run.offT rfl rfl rfl rfl hb1 ?_
    refine Run.offT rfl rfl rfl rfl hb1 ?_
    refine Run.offT rfl rfl rfl rfl hb1 ?_
    refine Run.offT rfl rfl rfl rfl hb1 ?_
    refine Run.go (Ev.pickF rfl hb1 rfl rfl) ?_
    refine Run.go (Ev.assign rfl rfl) ?_
    refine Run.nil ?_
    refine T.ret ?_
    cases h
    exact Fin.one rfl .v
theorem en66 : Enters Tryd.prog 66 := ⟨_, Tryd.func66, rfl, rfl⟩
theorem k_whole_Neg {p0 : D_api_Int} {y : D_api_Int} (h : m_whole_Neg p0 = some y) : Spec Tryd.prog 66 [(.v Y_api_Int p0)] (.v Y_api_Int y) [] := by
  rw [m_whole_Neg] at h
  refine enterN [(.v Y_api_Int p0)] 9 Tryd.func66 rfl rfl rfl ?_
  refine T.seq ?_
  refine T.region ?_
  refine Run.go (Ev.box 1 rfl rfl rfl rfl) ?_
  refine Run.go (Ev.allocN X 2 rfl rfl rfl) ?_
  refine Run.nil ?_
  refine T.seq ?_
  refine T.region ?_
  refine Run.go (Ev.fieldBox X rfl rfl rfl rfl rfl) ?_
  refine Run.go (Ev.loadCell X rfl rfl rfl rfl rfl rfl) ?_
  refine Run.go (Ev.not rfl rfl) ?_
  refine Run.go (Ev.fieldBox X rfl rfl rfl rfl rfl) ?_
  refine Run.go (Ev.loadCell X rfl rfl rfl rfl rfl rfl) ?_
  obtain ⟨x1, e2, h⟩ := bdS h
  refine Run.go (Ev.callC en50 (k_whole_Made e2) rfl (.cons .v (.cons .v .nil)) rfl rfl) ?_
  refine Run.do_ (Ev.storeBox X rfl rfl rfl rfl rfl rfl rfl) ?_
  refine Run.nil ?_
  refine T.ret ?_
  cases h
  exact Fin.cell X rfl rfl rfl rfl rfl
theorem en62 : Enters Tryd.prog 62 := ⟨_, Tryd.func62, rfl, rfl⟩
theorem k_whole_Sub {p0 : D_api_Int} {p1 : D_api_Int} {y : D_api_Int} (h : m_whole_Sub p0 p1 = some y) : Spec Tryd.prog 62 [(.v Y_api_Int p0), (.v Y_api_Int p1)] (.v Y_api_Int y) [] := by
  rw [m_whole_Sub] at h
  refine enterN [(.v Y_api_Int p0), (.v Y_api_Int p1)] 9 Tryd.func62 rfl rfl rfl ?_
  refine T.seq ?_
  refine T.region ?_
  refine Run.go (Ev.box 1 rfl rfl rfl rfl) ?_
  refine Run.go (Ev.box 2 rfl rfl rfl rfl) ?_
  refine Run.go (Ev.allocN X 3 rfl rfl rfl) ?_
  refine Run.nil ?_
  refine T.seq ?_
  refine T.drawM [4] [0, 0, 2, 7, 15] (by kernel_rfl) (by kernel_rfl) ?_
  refine RunD.a rfl rfl (Ev.loadBox X rfl rfl rfl rfl rfl) ?_
  refine RunD.a rfl rfl (Ev.loadBox X rfl rfl rfl rfl rfl) ?_
  obtain ⟨x1, e2, h⟩ := bdS h
  refine RunD.a rfl rfl (Ev.callC en66 (k_whole_Neg e2) rfl (.cons .v .nil) rfl rfl) ?_
  obtain ⟨x3, e4, h⟩ := bdS h
  refine RunD.a rfl rfl (Ev.callC en61 (k_whole_Add e4) rfl (.cons .v (.cons .v .nil)) rfl rfl) ?_
  refine RunD.mN rfl (Ev.storeBox X rfl rfl rfl rfl rfl rfl rfl) ?_
  refine RunD.nil ?_
  refine T.ret ?_
  cases h
  exact Fin.cell X rfl rfl rfl rfl rfl
theorem en67 : Enters Tryd.prog 67 := ⟨_, Tryd.func67, rfl, rfl⟩
theorem k_triviumref07_Neg {p0 : D_triviumref07_Z} {y : D_triviumref07_Z} (h : m_triviumref07_Neg p0 = some y) : Spec Tryd.prog 67 [(.v Y_triviumref07_Z p0)] (.v Y_triviumref07_Z y) [] := by
  rw [m_triviumref07_Neg] at h
  refine enterN [(.v Y_triviumref07_Z p0)] 9 Tryd.func67 rfl rfl rfl ?_
  refine T.seq ?_
  refine T.region ?_
  refine Run.go (Ev.box 1 rfl rfl rfl rfl) ?_
  refine Run.go (Ev.allocN X 2 rfl rfl rfl) ?_
  refine Run.nil ?_
  refine T.seq ?_
  refine T.region ?_
  refine Run.go (Ev.fieldBox X rfl rfl rfl rfl rfl) ?_
  refine Run.go (Ev.loadCell X rfl rfl rfl rfl rfl rfl) ?_
  refine Run.go (Ev.not rfl rfl) ?_
  refine Run.go (Ev.fieldBox X rfl rfl rfl rfl rfl) ?_
  refine Run.go (Ev.loadCell X rfl rfl rfl rfl rfl rfl) ?_
  obtain ⟨x1, e2, h⟩ := bdS h
  refine Run.go (Ev.callC en93 (k_triviumref07_made e2) rfl (.cons .v (.cons .v .nil)) rfl rfl) ?_
  refine Run.do_ (Ev.storeBox X rfl rfl rfl rfl rfl rfl rfl) ?_
  refine Run.nil ?_
  refine T.ret ?_
  cases h
  exact Fin.cell X rfl rfl rfl rfl rfl
theorem en63 : Enters Tryd.prog 63 := ⟨_, Tryd.func63, rfl, rfl⟩
theorem k_triviumref07_Sub {p0 : D_triviumref07_Z} {p1 : D_triviumref07_Z} {y : D_triviumref07_Z} (h : m_triviumref07_Sub p0 p1 = some y) : Spec Tryd.prog 63 [(.v Y_triviumref07_Z p0), (.v Y_triviumref07_Z p1)] (.v Y_triviumref07_Z y) [] := by
  rw [m_triviumref07_Sub] at h
  refine enterN [(.v Y_triviumref07_Z p0), (.v Y_triviumref07_Z p1)] 9 Tryd.func63 rfl rfl rfl ?_
  refine T.seq ?_
  refine T.region ?_
  refine Run.go (Ev.box 1 rfl rfl rfl rfl) ?_
  refine Run.go (Ev.box 2 rfl rfl rfl rfl) ?_
  refine Run.go (Ev.allocN X 3 rfl rfl rfl) ?_
  refine Run.nil ?_
  refine T.seq ?_
  refine T.drawM [4] [0, 0, 2, 7, 15] (by kernel_rfl) (by kernel_rfl) ?_
  refine RunD.a rfl rfl (Ev.loadBox X rfl rfl rfl rfl rfl) ?_
  refine RunD.a rfl rfl (Ev.loadBox X rfl rfl rfl rfl rfl) ?_
  obtain ⟨x1, e2, h⟩ := bdS h
  refine RunD.a rfl rfl (Ev.callC en67 (k_triviumref07_Neg e2) rfl (.cons .v .nil) rfl rfl) ?_
  obtain ⟨x3, e4, h⟩ := bdS h
  refine RunD.a rfl rfl (Ev.callC en43 (k_triviumref07_Add e4) rfl (.cons .v (.cons .v .nil)) rfl rfl) ?_
  refine RunD.mN rfl (Ev.storeBox X rfl rfl rfl rfl rfl rfl rfl) ?_
  refine RunD.nil ?_
  refine T.ret ?_
  cases h
  exact Fin.cell X rfl rfl rfl rfl rfl
theorem en110 : Enters Tryd.prog 110 := ⟨_, Tryd.func110, rfl, rfl⟩
theorem k_limb_Mul {p0 : Int} {p1 : Int} {p2 : Int} {p3 : Int} {y : Int × Int} (h : m_limb_Mul p0 p1 p2 p3 = some y) : Spec Tryd.prog 110 [(.v (.int .u64) p0), (.v (.int .u64) p1), (.v (.int .u64) p2), (.v (.int .u64) p3)] (.tup [.v (.int .u64) y.1, .v (.int .u64) y.2]) [] := by
  rw [m_limb_Mul] at h
  refine enterN [(.v (.int .u64) p0), (.v (.int .u64) p1), (.v (.int .u64) p2), (.v (.int .u64) p3)] 26 Tryd.func110 rfl rfl rfl ?_
  refine T.seq ?_
  refine T.region ?_
  refine Run.go (Ev.assign rfl rfl) ?_
  refine Run.go (Ev.assign rfl rfl) ?_
  refine Run.nil ?_
  refine T.seq ?_
  refine T.region ?_
  refine Run.go (Ev.move rfl rfl) ?_
  refine Run.go (Ev.int rfl rfl rfl rfl trivial) ?_
  refine Run.go (Ev.move rfl rfl) ?_
  refine Run.go (Ev.int rfl rfl rfl rfl trivial) ?_
  refine Run.go (Ev.int rfl rfl rfl rfl trivial) ?_
  refine Run.go (Ev.move rfl rfl) ?_
  refine Run.go (Ev.int rfl rfl rfl rfl trivial) ?_
  refine Run.go (Ev.int rfl rfl rfl rfl trivial) ?_
  refine Run.go (Ev.move rfl rfl) ?_
  refine Run.go (Ev.int rfl rfl rfl rfl trivial) ?_
  refine Run.go (Ev.int rfl rfl rfl rfl trivial) ?_
  obtain ⟨x1, e2, h⟩ := ltS h
  refine Run.go (Ev.avs (Ev.assign rfl rfl) e2) ?_
  refine Run.nil ?_
  refine T.seq ?_
  refine T.region ?_
  refine Run.go (Ev.move rfl rfl) ?_
  refine Run.go (Ev.int rfl rfl rfl rfl trivial) ?_
  refine Run.go (Ev.move rfl rfl) ?_
  obtain ⟨x3, e4, h⟩ := bdS h
  refine Run.go (Ev.e_sr e4 rfl rfl rfl) ?_
  refine Run.go (Ev.assign rfl rfl) ?_
  refine Run.go (Ev.assign rfl rfl) ?_
  refine Run.nil ?_
  refine T.ret ?_
  cases h
  exact Fin.many X rfl (.cons (.tmp .v) (.cons (.tmp .v) .nil)) rfl
theorem en111 : Enters Tryd.prog 111 := ⟨_, Tryd.func111, rfl, rfl⟩
theorem k_mul_made {p0 : (List Int)} {y : (List Int)} (h : m_mul_made p0 = some y) : Spec Tryd.prog 111 [(.v (.sl (.int .u64)) p0)] (.v (.sl (.int .u64)) y) [] := by
  rw [m_mul_made] at h
  refine enterN [(.v (.sl (.int .u64)) p0)] 11 Tryd.func111 rfl rfl rfl ?_
  refine T.seq ?_
  refine T.region ?_
  refine Run.go (Ev.assign rfl rfl) ?_
  refine Run.nil ?_
  refine T.seq ?_
  refine T.region ?_
  refine Run.go (Ev.move rfl rfl) ?_
  obtain ⟨x1, e2, h⟩ := bdS h
  refine Run.go (Ev.callC en77 (k_nat_Make e2) rfl (.cons .v .nil) rfl rfl) ?_
  refine Run.go (Ev.move rfl rfl) ?_
  refine Run.go (Ev.extract rfl rfl rfl) ?_
  refine Run.go (Ev.extract rfl rfl rfl) ?_
  refine Run.go (Ev.assign rfl rfl) ?_
  refine Run.go (Ev.assign rfl rfl) ?_
  refine Run.nil ?_
  refine T.seq ?_
  refine T.region ?_
  refine Run.go (Ev.move rfl rfl) ?_
  refine Run.go (Ev.assign rfl rfl) ?_
  refine Run.nil ?_
  refine T.ret ?_
  cases h
  exact Fin.one rfl .v
theorem en143 : Enters Tryd.prog 143 := ⟨_, Tryd.func143, rfl, rfl⟩
theorem k_mul_Long {p0 : (List Int)} {p1 : (List Int)} {y : (List Int)} (h : m_mul_Long p0 p1 = some y) : Spec Tryd.prog 143 [(.v (.sl (.int .u64)) p0), (.v (.sl (.int .u64)) p1)] (.v (.sl (.int .u64)) y) [] := by
  rw [m_mul_Long] at h
  refine enterN [(.v (.sl (.int .u64)) p0), (.v (.sl (.int .u64)) p1)] 60 Tryd.func143 rfl rfl rfl ?_
  refine T.seq ?_
  refine T.region ?_
  refine Run.go (Ev.assign rfl rfl) ?_
  refine Run.nil ?_
  refine T.seq ?_
  refine T.region ?_
  refine Run.go (Ev.move rfl rfl) ?_
  refine Run.go (Ev.len X rfl rfl rfl rfl) ?_
  refine Run.go (Ev.move rfl rfl) ?_
  refine Run.go (Ev.len X rfl rfl rfl rfl) ?_
  refine Run.go (Ev.int rfl rfl rfl rfl trivial) ?_
  obtain ⟨x1, e2, h⟩ := bdS h
  refine Run.go (Ev.e_mk X 1 e2 rfl rfl rfl rfl rfl rfl) ?_
  refine Run.go (Ev.assign rfl rfl) ?_
  refine Run.nil ?_
  obtain ⟨v3, hv, h⟩ := bdS h
  refine T.cut (fun _ : Unit => (⟨[(5, .own 1)], [(1, .arr 96 (.int .u64) v3)], 60⟩ : St)) (fun _ => True) ?_ (fun _ _ => ?_)
  · replace h := hv
    clear hv
    refine T.seq ?_
    refine T.region ?_
    refine Run.go (Ev.move rfl rfl) ?_
    refine Run.go (Ev.len X rfl rfl rfl rfl) ?_
    refine Run.go (Ev.move rfl rfl) ?_
    refine Run.nil ?_
    refine T.block ?_
    refine T.loop (LoopT.ghost (Ghost.only [(1, 1)] [1, 5, 17, 18, 19] rfl) (LoopT.run (fun q : Int × (List Int) => (⟨[(1, .v (.sl (.int .u64)) p1), (5, .own 1), (17, .v (.sl (.int .u64)) p0), (18, .v (.int .i64) ((p0.length : Int) : Int)), (19, .v (.int .i64) q.1)], [(1, .arr 96 (.int .u64) q.2)], 60⟩ : St)) (fun q z1 h hz1 => ?_) h))
    obtain ⟨v4, v5⟩ := q
    dsimp only
    rw [m_mul_Long_l1] at h
    refine T.seq ?_
    refine T.region ?_
    refine Run.go (Ev.int rfl rfl rfl rfl trivial) ?_
    refine Run.nil ?_
    refine T.seq ?_
    refine T.cond rfl (fun hb6 => ?_) (fun hb6 => ?_)
    · replace h := ifT hb6 h
      refine T.skip ?_
      obtain ⟨v7, hv, h⟩ := bdS h
      refine T.cut (fun _ : Unit => (⟨[(1, .v (.sl (.int .u64)) p1), (5, .own 1), (17, .v (.sl (.int .u64)) p0), (18, .v (.int .i64) ((p0.length : Int) : Int)), (19, .v (.int .i64) v4)], [(1, .arr 96 (.int .u64) v7)], 60⟩ : St)) (fun _ => True) ?_ (fun _ _ => ?_)
      · replace h := hv
        clear hv
        refine T.block ?_
        refine T.seq ?_
        refine T.region ?_
        refine Run.go (Ev.move rfl rfl) ?_
        obtain ⟨x8, e9, h⟩ := bdS h
        refine Run.go (Ev.e_rd X e9 rfl rfl rfl rfl) ?_
        refine Run.go (Ev.load X rfl rfl rfl) ?_
        refine Run.go (Ev.assign rfl rfl) ?_
        refine Run.go (Ev.assign rfl rfl) ?_
        refine Run.nil ?_
        refine T.seq ?_
        refine T.region ?_
        refine Run.go (Ev.assign rfl rfl) ?_
        refine Run.nil ?_
        obtain ⟨⟨v10, v11⟩, hv, h⟩ := bdS h
        refine T.cut (fun _ : Unit => (⟨[(1, .v (.sl (.int .u64)) p1), (5, .own 1), (6, .v (.int .i64) v4), (8, .v (.int .u64) v10), (17, .v (.sl (.int .u64)) p0), (18, .v (.int .i64) ((p0.length : Int) : Int)), (19, .v (.int .i64) v4)], [(1, .arr 96 (.int .u64) v11)], 60⟩ : St)) (fun _ => True) ?_ (fun _ _ => ?_)
        · replace h := hv
          clear hv
          refine T.seq ?_
          refine T.region ?_
          refine Run.go (Ev.move rfl rfl) ?_
          refine Run.go (Ev.len X rfl rfl rfl rfl) ?_
          refine Run.go (Ev.move rfl rfl) ?_
          refine Run.nil ?_
          refine T.block ?_
          refine T.loop (LoopT.ghost (Ghost.only [(1, 1)] [1, 5, 6, 7, 8, 17, 18, 19, 24, 25, 26] rfl) (LoopT.run (fun q : Int × Int × (List Int) => (⟨[(1, .v (.sl (.int .u64)) p1), (5, .own 1), (6, .v (.int .i64) v4), (7, .v (.int .u64) x8), (8, .v (.int .u64) q.1), (17, .v (.sl (.int .u64)) p0), (18, .v (.int .i64) ((p0.length : Int) : Int)), (19, .v (.int .i64) v4), (24, .v (.sl (.int .u64)) p1), (25, .v (.int .i64) ((p1.length : Int) : Int)), (26, .v (.int .i64) q.2.1)], [(1, .arr 96 (.int .u64) q.2.2)], 60⟩ : St)) (fun q z2 h hz2 => ?_) h))
          obtain ⟨v12, v13, v14⟩ := q
          dsimp only
          rw [m_mul_Long_l2] at h
          refine T.seq ?_
          refine T.region ?_
          refine Run.go (Ev.int rfl rfl rfl rfl trivial) ?_
          refine Run.nil ?_
          refine T.seq ?_
          refine T.cond rfl (fun hb15 => ?_) (fun hb15 => ?_)
          · replace h := ifT hb15 h
            refine T.skip ?_
            refine T.seq ?_
            refine T.block ?_
            refine T.seq ?_
            refine T.region ?_
            refine Run.go (Ev.move rfl rfl) ?_
            obtain ⟨x16, e17, h⟩ := bdS h
            refine Run.go (Ev.e_rd X e17 rfl rfl rfl rfl) ?_
            refine Run.go (Ev.load X rfl rfl rfl) ?_
            refine Run.go (Ev.assign rfl rfl) ?_
            refine Run.go (Ev.assign rfl rfl) ?_
            refine Run.nil ?_
            refine T.region ?_
            refine Run.go (Ev.move rfl rfl) ?_
            refine Run.go (Ev.move rfl rfl) ?_
            refine Run.go (Ev.move rfl rfl) ?_
            refine Run.go (Ev.int rfl rfl rfl rfl trivial) ?_
            refine Run.go (Ev.move rfl rfl) ?_
            refine Run.go (Ev.move rfl rfl) ?_
            refine Run.go (Ev.move rfl rfl) ?_
            refine Run.go (Ev.move rfl rfl) ?_
            refine Run.go (Ev.move rfl rfl) ?_
            refine Run.go (Ev.int rfl rfl rfl rfl trivial) ?_
            obtain ⟨x18, e19, h⟩ := bdS h
            refine Run.go (Ev.e_rdO X e19 rfl rfl rfl rfl rfl) ?_
            refine Run.go (Ev.e_ldO X (rdS e19).2 rfl rfl rfl rfl) ?_
            refine Run.go (Ev.move rfl rfl) ?_
            obtain ⟨x20, e21, h⟩ := bdS h
            refine Run.go (Ev.callC en110 (k_limb_Mul e21) rfl (.cons .v (.cons .v (.cons .v (.cons .v .nil)))) rfl rfl) ?_
            refine Run.go (Ev.move rfl rfl) ?_
            refine Run.go (Ev.extract rfl rfl rfl) ?_
            refine Run.go (Ev.extract rfl rfl rfl) ?_
            obtain ⟨j22, e23, h⟩ := bdS h
            refine Run.go (Ev.e_ixO X e23 rfl rfl rfl rfl rfl) ?_
            obtain ⟨x24, e25, h⟩ := ltS h
            refine Run.do_ (Ev.asO (Ev.storeEl X rfl rfl rfl rfl rfl) e25) ?_
            refine Run.go (Ev.assign rfl rfl) ?_
            refine Run.nil ?_
            refine T.region ?_
            refine Run.go (Ev.int rfl rfl rfl rfl trivial) ?_
            refine Run.go (Ev.move rfl rfl) ?_
            refine Run.nil ?_
            cases h
            exact LoopT.ghost (Ghost.only [(1, 1)] [1, 5, 6, 7, 8, 17, 18, 19, 24, 25, 26] rfl) hz2
          · replace h := ifF hb15 h
            refine T.exit ?_
            cases h
            cases hz2
            exact ⟨(), trivial, Ghost.only [(1, 1)] [1, 5, 6, 8, 17, 18, 19] rfl⟩
        · refine T.region ?_
          refine Run.go (Ev.move rfl rfl) ?_
          refine Run.go (Ev.move rfl rfl) ?_
          refine Run.go (Ev.move rfl rfl) ?_
          refine Run.go (Ev.len X rfl rfl rfl rfl) ?_
          refine Run.go (Ev.int rfl rfl rfl rfl trivial) ?_
          refine Run.go (Ev.move rfl rfl) ?_
          obtain ⟨j26, e27, h⟩ := bdS h
          refine Run.go (Ev.e_ixO X e27 rfl rfl rfl rfl rfl) ?_
          obtain ⟨x28, e29, h⟩ := ltS h
          refine Run.do_ (Ev.asO (Ev.storeEl X rfl rfl rfl rfl rfl) e29) ?_
          refine Run.nil ?_
          cases h
          exact ⟨(), trivial, Ghost.only [(1, 1)] [1, 5, 17, 18, 19] rfl⟩
      · refine T.region ?_
        refine Run.go (Ev.int rfl rfl rfl rfl trivial) ?_
        refine Run.go (Ev.move rfl rfl) ?_
        refine Run.nil ?_
        cases h
        exact LoopT.ghost (Ghost.only [(1, 1)] [1, 5, 17, 18, 19] rfl) hz1
    · replace h := ifF hb6 h
      refine T.exit ?_
      cases h
      cases hz1
      exact ⟨(), trivial, Ghost.only [(1, 1)] [5] rfl⟩
  · refine T.seq ?_
    refine T.region ?_
    refine Run.go (Ev.move rfl rfl) ?_
    refine Run.ghost (Ghost.firmAll (id := 1) rfl) ?_
    obtain ⟨x30, e31, h⟩ := bdS h
    refine Run.go (Ev.callC en111 (k_mul_made e31) rfl (.cons .v .nil) rfl rfl) ?_
    refine Run.go (Ev.assign rfl rfl) ?_
    refine Run.nil ?_
    refine T.ret ?_
    cases h
    exact Fin.one rfl .v
theorem en144 : Enters Tryd.prog 144 := ⟨_, Tryd.func144, rfl, rfl⟩
theorem k_mul_cut {p0 : (List Int)} {p1 : Int} {y : (List Int) × (List Int)} (h : m_mul_cut p0 p1 = some y) : Spec Tryd.prog 144 [(.v (.sl (.int .u64)) p0), (.v (.int .i64) p1)] (.tup [.v (.sl (.int .u64)) y.1, .v (.sl (.int .u64)) y.2]) [] := by
  rw [m_mul_cut] at h
  refine enterN [(.v (.sl (.int .u64)) p0), (.v (.int .i64) p1)] 18 Tryd.func144 rfl rfl rfl ?_
  refine T.seq ?_
  refine T.region ?_
  refine Run.go (Ev.assign rfl rfl) ?_
  refine Run.go (Ev.assign rfl rfl) ?_
  refine Run.nil ?_
  refine T.seq ?_
  refine T.region ?_
  refine Run.go (Ev.move rfl rfl) ?_
  refine Run.go (Ev.move rfl rfl) ?_
  refine Run.go (Ev.len X rfl rfl rfl rfl) ?_
  refine Run.go (Ev.min rfl rfl rfl) ?_
  refine Run.go (Ev.assign rfl rfl) ?_
  refine Run.nil ?_
  refine T.seq ?_
  refine T.drawM [] [0, 0, 3, 7, 0, 0, 48, 127, 255, 511] (by kernel_rfl) (by kernel_rfl) ?_
  refine RunD.w (fun _ => Ev.move rfl rfl) ?_
  refine RunD.w (fun _ => Ev.move rfl rfl) ?_
  obtain ⟨x1, e2, h⟩ := bdS h
  refine RunD.a rfl rfl (Ev.e_ct X e2 rfl rfl rfl (fun _ h => by cases h) (fun _ => rfl) (fun _ _ => cutAt_of rfl) (fun h => by cases h)) ?_
  obtain ⟨x3, e4, h⟩ := bdS h
  refine RunD.a rfl rfl (Ev.callC en111 (k_mul_made e4) rfl (.cons .v .nil) rfl rfl) ?_
  refine RunD.w (fun _ => Ev.move rfl rfl) ?_
  refine RunD.w (fun _ => Ev.move rfl rfl) ?_
  obtain ⟨x5, e6, h⟩ := bdS h
  refine RunD.a rfl rfl (Ev.e_ct X e6 rfl rfl rfl (fun _ _ => cutAt_of rfl) (fun h => by cases h) (fun _ h => by cases h) (fun _ => rfl)) ?_
  obtain ⟨x7, e8, h⟩ := bdS h
  refine RunD.a rfl rfl (Ev.callC en111 (k_mul_made e8) rfl (.cons .v .nil) rfl rfl) ?_
  refine RunD.w (fun _ => Ev.assign rfl rfl) ?_
  refine RunD.w (fun _ => Ev.assign rfl rfl) ?_
  refine RunD.nil ?_
  refine T.ret ?_
  cases h
  exact Fin.many X rfl (.cons (.tmp .v) (.cons (.tmp .v) .nil)) rfl
theorem en146 : Enters Tryd.prog 146 := ⟨_, Tryd.func146, rfl, rfl⟩
theorem k_mul_up {p0 : (List Int)} {p1 : Int} {y : (List Int)} (h : m_mul_up p0 p1 = some y) : Spec Tryd.prog 146 [(.v (.sl (.int .u64)) p0), (.v (.int .i64) p1)] (.v (.sl (.int .u64)) y) [] := by
  rw [m_mul_up] at h
  refine enterN [(.v (.sl (.int .u64)) p0), (.v (.int .i64) p1)] 18 Tryd.func146 rfl rfl rfl ?_
  refine T.seq ?_
  refine T.region ?_
  refine Run.go (Ev.assign rfl rfl) ?_
  refine Run.nil ?_
  refine T.seq ?_
  refine T.region ?_
  refine Run.go (Ev.move rfl rfl) ?_
  refine Run.go (Ev.move rfl rfl) ?_
  refine Run.go (Ev.len X rfl rfl rfl rfl) ?_
  refine Run.go (Ev.int rfl rfl rfl rfl trivial) ?_
  obtain ⟨x1, e2, h⟩ := bdS h
  refine Run.go (Ev.e_mk X 1 e2 rfl rfl rfl rfl rfl rfl) ?_
  refine Run.go (Ev.assign rfl rfl) ?_
  refine Run.nil ?_
  refine T.seq ?_
  refine T.region ?_
  refine Run.go (Ev.move rfl rfl) ?_
  refine Run.go (Ev.move rfl rfl) ?_
  obtain ⟨j3, e4, h⟩ := bdS h
  refine Run.go (Ev.e_rest X e4 rfl rfl rfl rfl rfl) ?_
  refine Run.go (Ev.move rfl rfl) ?_
  obtain ⟨x5, e6, h⟩ := bdS h
  refine Run.go (Ev.e_cp X e6 rfl rfl rfl .v rfl rfl) ?_
  refine Run.nil ?_
  refine T.seq ?_
  refine T.region ?_
  refine Run.go (Ev.move rfl rfl) ?_
  refine Run.ghost (Ghost.firmAll (id := 1) rfl) ?_
  obtain ⟨x7, e8, h⟩ := bdS h
  refine Run.go (Ev.callC en111 (k_mul_made e8) rfl (.cons .v .nil) rfl rfl) ?_
  refine Run.go (Ev.assign rfl rfl) ?_
  refine Run.nil ?_
  refine T.ret ?_
  cases h
  exact Fin.one rfl .v
theorem en145 : Enters Tryd.prog 145 := ⟨_, Tryd.func145, rfl, rfl⟩
theorem k_nat_Sum {p0 : (List (List Int))} {y : (List Int)} (h : m_nat_Sum p0 = some y) : Spec Tryd.prog 145 [(.v (.sl (.sl (.int .u64))) p0)] (.v (.sl (.int .u64)) y) [] := by
  rw [m_nat_Sum] at h
  refine enterN [(.v (.sl (.sl (.int .u64))) p0)] 17 Tryd.func145 rfl rfl rfl ?_
  refine T.seq ?_
  refine T.region ?_
  refine Run.go (Ev.assign rfl rfl) ?_
  refine Run.nil ?_
  refine T.seq ?_
  refine T.region ?_
  refine Run.go (Ev.assign rfl rfl) ?_
  refine Run.nil ?_
  obtain ⟨v1, hv, h⟩ := bdS h
  refine T.cut (fun _ : Unit => (⟨[(3, .v (.sl (.int .u64)) v1)], [], 17⟩ : St)) (fun _ => True) ?_ (fun _ _ => ?_)
  · replace h := hv
    clear hv
    refine T.seq ?_
    refine T.region ?_
    refine Run.go (Ev.move rfl rfl) ?_
    refine Run.go (Ev.len X rfl rfl rfl rfl) ?_
    refine Run.go (Ev.move rfl rfl) ?_
    refine Run.nil ?_
    refine T.block ?_
    refine T.loop (LoopT.ghost (Ghost.trans (Ghost.nilv (t := 3) (τ := (.int .u64)) rfl) (Ghost.only [] [3, 6, 7, 8] rfl)) (LoopT.run (fun q : (List Int) × Int => (⟨[(3, .v (.sl (.int .u64)) q.1), (6, .v (.sl (.sl (.int .u64))) p0), (7, .v (.int .i64) ((p0.length : Int) : Int)), (8, .v (.int .i64) q.2)], [], 17⟩ : St)) (fun q z1 h hz1 => ?_) h))
    obtain ⟨v2, v3⟩ := q
    dsimp only
    rw [m_nat_Sum_l1] at h
    refine T.seq ?_
    refine T.region ?_
    refine Run.go (Ev.int rfl rfl rfl rfl trivial) ?_
    refine Run.nil ?_
    refine T.seq ?_
    refine T.cond rfl (fun hb4 => ?_) (fun hb4 => ?_)
    · replace h := ifT hb4 h
      refine T.skip ?_
      refine T.seq ?_
      refine T.block ?_
      refine T.seq ?_
      refine T.region ?_
      obtain ⟨x5, e6, h⟩ := bdS h
      refine Run.go (Ev.e_rd X e6 rfl rfl rfl rfl) ?_
      refine Run.go (Ev.load X rfl rfl rfl) ?_
      refine Run.go (Ev.assign rfl rfl) ?_
      refine Run.nil ?_
      refine T.region ?_
      refine Run.go (Ev.move rfl rfl) ?_
      refine Run.go (Ev.move rfl rfl) ?_
      obtain ⟨x7, e8, h⟩ := bdS h
      refine Run.go (Ev.callC en96 (k_nat_Add e8) rfl (.cons .v (.cons .v .nil)) rfl rfl) ?_
      refine Run.go (Ev.assign rfl rfl) ?_
      refine Run.nil ?_
      refine T.region ?_
      refine Run.go (Ev.int rfl rfl rfl rfl trivial) ?_
      refine Run.go (Ev.move rfl rfl) ?_
      refine Run.nil ?_
      cases h
      exact LoopT.ghost (Ghost.only [] [3, 6, 7, 8] rfl) hz1
    · replace h := ifF hb4 h
      refine T.exit ?_
      cases h
      cases hz1
      exact ⟨(), trivial, Ghost.only [] [3] rfl⟩
  · refine T.seq ?_
    refine T.region ?_
    refine Run.go (Ev.move rfl rfl) ?_
    refine Run.go (Ev.assign rfl rfl) ?_
    refine Run.nil ?_
    refine T.ret ?_
    cases h
    exact Fin.one rfl .v
end Go.Proofs.YthcmjcjgaebciaaDoor.AE
/- The code comes to the printed functions (printed by a program of ours). -/
namespace Go.Proofs.YthcmjcjgaebciaaDoor.AE
open Go Go.RowKit Go.Proofs.YthcmjcjgaebciaaDoor.AP
set_option linter.unusedVariables false
set_option maxRecDepth 20000
theorem en127 : Enters Tryd.prog 127 := ⟨_, Tryd.func127, rfl, rfl⟩
theorem k_mul_Short_b {rec_ : ((List Int) → (List Int) → Option ((List Int)))} (hrec : ∀ {p0 : (List Int)} {p1 : (List Int)} {y : (List Int)}, rec_ p0 p1 = some y → Spec Tryd.prog 127 [(.v (.sl (.int .u64)) p0), (.v (.sl (.int .u64)) p1)] (.v (.sl (.int .u64)) y) []) {p0 : (List Int)} {p1 : (List Int)} {y : (List Int)} (h : m_mul_Short_b rec_ p0 p1 = some y) : Spec Tryd.prog 127 [(.v (.sl (.int .u64)) p0), (.v (.sl (.int .u64)) p1)] (.v (.sl (.int .u64)) y) [] := by
  rw [m_mul_Short_b] at h
  refine enterN [(.v (.sl (.int .u64)) p0), (.v (.sl (.int .u64)) p1)] 76 Tryd.func127 rfl rfl rfl ?_
  refine T.seq ?_
  refine T.region ?_
  refine Run.go (Ev.assign rfl rfl) ?_
  refine Run.nil ?_
  refine T.seq ?_
  refine T.seq ?_
  refine T.region ?_
  refine Run.go (Ev.move rfl rfl) ?_
  refine Run.go (Ev.len X rfl rfl rfl rfl) ?_
  refine Run.go (Ev.move rfl rfl) ?_
  refine Run.go (Ev.len X rfl rfl rfl rfl) ?_
  refine Run.go (Ev.min rfl rfl rfl) ?_
  refine Run.go (Ev.int rfl rfl rfl rfl trivial) ?_
  refine Run.nil ?_
  refine T.cond rfl (fun hb1 => ?_) (fun hb1 => ?_)
  · replace h := ifT hb1 h
    refine T.seq ?_
    refine T.region ?_
    refine Run.go (Ev.move rfl rfl) ?_
    refine Run.go (Ev.move rfl rfl) ?_
    obtain ⟨x2, e3, h⟩ := bdS h
    refine Run.go (Ev.callC en143 (k_mul_Long e3) rfl (.cons .v (.cons .v .nil)) rfl rfl) ?_
    refine Run.go (Ev.assign rfl rfl) ?_
    refine Run.nil ?_
    refine T.ret ?_
    cases h
    exact Fin.one rfl .v
  · replace h := ifF hb1 h
    refine T.skip ?_
    refine T.seq ?_
    refine T.region ?_
    refine Run.go (Ev.move rfl rfl) ?_
    refine Run.go (Ev.len X rfl rfl rfl rfl) ?_
    refine Run.go (Ev.move rfl rfl) ?_
    refine Run.go (Ev.len X rfl rfl rfl rfl) ?_
    refine Run.go (Ev.max rfl rfl rfl) ?_
    refine Run.go (Ev.int rfl rfl rfl rfl trivial) ?_
    obtain ⟨x4, e5, h⟩ := bdS h
    refine Run.go (Ev.e_qd e5 rfl rfl rfl) ?_
    refine Run.go (Ev.assign rfl rfl) ?_
    refine Run.nil ?_
    refine T.seq ?_
    refine T.region ?_
    refine Run.go (Ev.move rfl rfl) ?_
    refine Run.go (Ev.move rfl rfl) ?_
    obtain ⟨x6, e7, h⟩ := bdS h
    refine Run.go (Ev.callC en144 (k_mul_cut e7) rfl (.cons .v (.cons .v .nil)) rfl rfl) ?_
    refine Run.go (Ev.move rfl rfl) ?_
    refine Run.go (Ev.extract rfl rfl rfl) ?_
    refine Run.go (Ev.extract rfl rfl rfl) ?_
    refine Run.go (Ev.assign rfl rfl) ?_
    refine Run.go (Ev.assign rfl rfl) ?_
    refine Run.nil ?_
    refine T.seq ?_
    refine T.region ?_
    refine Run.go (Ev.move rfl rfl) ?_
    refine Run.go (Ev.move rfl rfl) ?_
    obtain ⟨x8, e9, h⟩ := bdS h
    refine Run.go (Ev.callC en144 (k_mul_cut e9) rfl (.cons .v (.cons .v .nil)) rfl rfl) ?_
    refine Run.go (Ev.move rfl rfl) ?_
    refine Run.go (Ev.extract rfl rfl rfl) ?_
    refine Run.go (Ev.extract rfl rfl rfl) ?_
    refine Run.go (Ev.assign rfl rfl) ?_
    refine Run.go (Ev.assign rfl rfl) ?_
    refine Run.nil ?_
    refine T.seq ?_
    refine T.region ?_
    refine Run.go (Ev.move rfl rfl) ?_
    refine Run.go (Ev.move rfl rfl) ?_
    obtain ⟨x10, e11, h⟩ := bdS h
    refine Run.go (Ev.callC en127 (hrec e11) rfl (.cons .v (.cons .v .nil)) rfl rfl) ?_
    refine Run.go (Ev.move rfl rfl) ?_
    refine Run.go (Ev.move rfl rfl) ?_
    obtain ⟨x12, e13, h⟩ := bdS h
    refine Run.go (Ev.callC en127 (hrec e13) rfl (.cons .v (.cons .v .nil)) rfl rfl) ?_
    refine Run.go (Ev.assign rfl rfl) ?_
    refine Run.go (Ev.assign rfl rfl) ?_
    refine Run.nil ?_
    refine T.seq ?_
    refine T.region ?_
    refine Run.go (Ev.move rfl rfl) ?_
    refine Run.go (Ev.move rfl rfl) ?_
    obtain ⟨x14, e15, h⟩ := bdS h
    refine Run.go (Ev.callC en96 (k_nat_Add e15) rfl (.cons .v (.cons .v .nil)) rfl rfl) ?_
    refine Run.go (Ev.move rfl rfl) ?_
    refine Run.go (Ev.move rfl rfl) ?_
    obtain ⟨x16, e17, h⟩ := bdS h
    refine Run.go (Ev.callC en96 (k_nat_Add e17) rfl (.cons .v (.cons .v .nil)) rfl rfl) ?_
    obtain ⟨x18, e19, h⟩ := bdS h
    refine Run.go (Ev.callC en127 (hrec e19) rfl (.cons .v (.cons .v .nil)) rfl rfl) ?_
    refine Run.go (Ev.assign rfl rfl) ?_
    refine Run.nil ?_
    refine T.seq ?_
    refine T.region ?_
    refine Run.go (Ev.move rfl rfl) ?_
    refine Run.go (Ev.move rfl rfl) ?_
    obtain ⟨x20, e21, h⟩ := bdS h
    refine Run.go (Ev.callC en100 (k_nat_Sub e21) rfl (.cons .v (.cons .v .nil)) rfl rfl) ?_
    refine Run.go (Ev.move rfl rfl) ?_
    refine Run.go (Ev.extract rfl rfl rfl) ?_
    refine Run.go (Ev.extract rfl rfl rfl) ?_
    refine Run.go (Ev.assign rfl rfl) ?_
    refine Run.nil ?_
    refine T.seq ?_
    refine T.region ?_
    refine Run.go (Ev.move rfl rfl) ?_
    refine Run.go (Ev.move rfl rfl) ?_
    obtain ⟨x22, e23, h⟩ := bdS h
    refine Run.go (Ev.callC en100 (k_nat_Sub e23) rfl (.cons .v (.cons .v .nil)) rfl rfl) ?_
    refine Run.go (Ev.move rfl rfl) ?_
    refine Run.go (Ev.extract rfl rfl rfl) ?_
    refine Run.go (Ev.extract rfl rfl rfl) ?_
    refine Run.go (Ev.assign rfl rfl) ?_
    refine Run.nil ?_
    refine T.seq ?_
    refine T.region ?_
    refine Run.go (Ev.move rfl rfl) ?_
    refine Run.go (Ev.move rfl rfl) ?_
    refine Run.go (Ev.move rfl rfl) ?_
    obtain ⟨x24, e25, h⟩ := bdS h
    refine Run.go (Ev.callC en146 (k_mul_up e25) rfl (.cons .v (.cons .v .nil)) rfl rfl) ?_
    refine Run.go (Ev.move rfl rfl) ?_
    refine Run.go (Ev.move rfl rfl) ?_
    refine Run.go (Ev.int rfl rfl rfl rfl trivial) ?_
    obtain ⟨x26, e27, h⟩ := bdS h
    refine Run.go (Ev.callC en146 (k_mul_up e27) rfl (.cons .v (.cons .v .nil)) rfl rfl) ?_
    refine Run.go (Ev.build X 1 rfl rfl rfl rfl rfl rfl rfl rfl) ?_
    refine Run.ghost (Ghost.firmAll (id := 1) rfl) ?_
    obtain ⟨x28, e29, h⟩ := bdS h
    refine Run.go (Ev.callC en145 (k_nat_Sum e29) rfl (.cons .v .nil) rfl rfl) ?_
    refine Run.go (Ev.assign rfl rfl) ?_
    refine Run.nil ?_
    refine T.ret ?_
    cases h
    exact Fin.one rfl .v
theorem k_mul_Short_r : ∀ (n : Nat) {p0 : (List Int)} {p1 : (List Int)} {y : (List Int)}, m_mul_Short_r n p0 p1 = some y → Spec Tryd.prog 127 [(.v (.sl (.int .u64)) p0), (.v (.sl (.int .u64)) p1)] (.v (.sl (.int .u64)) y) []
  | 0 => fun h => by cases h
  | n + 1 => fun h => k_mul_Short_b (fun h => k_mul_Short_r n h) h
theorem k_mul_Short {p0 : (List Int)} {p1 : (List Int)} {y : (List Int)} (h : m_mul_Short p0 p1 = some y) : Spec Tryd.prog 127 [(.v (.sl (.int .u64)) p0), (.v (.sl (.int .u64)) p1)] (.v (.sl (.int .u64)) y) [] := k_mul_Short_r _ h
theorem en105 : Enters Tryd.prog 105 := ⟨_, Tryd.func105, rfl, rfl⟩
theorem k_mul_Mul {p0 : (List Int)} {p1 : (List Int)} {y : (List Int)} (h : m_mul_Mul p0 p1 = some y) : Spec Tryd.prog 105 [(.v (.sl (.int .u64)) p0), (.v (.sl (.int .u64)) p1)] (.v (.sl (.int .u64)) y) [] := by
  rw [m_mul_Mul] at h
  refine enterN [(.v (.sl (.int .u64)) p0), (.v (.sl (.int .u64)) p1)] 8 Tryd.func105 rfl rfl rfl ?_
  refine T.seq ?_
  refine T.region ?_
  refine Run.go (Ev.assign rfl rfl) ?_
  refine Run.nil ?_
  refine T.seq ?_
  refine T.region ?_
  refine Run.go (Ev.move rfl rfl) ?_
  refine Run.go (Ev.move rfl rfl) ?_
  obtain ⟨x1, e2, h⟩ := bdS h
  refine Run.go (Ev.callC en127 (k_mul_Short e2) rfl (.cons .v (.cons .v .nil)) rfl rfl) ?_
  refine Run.go (Ev.assign rfl rfl) ?_
  refine Run.nil ?_
  refine T.ret ?_
  cases h
  exact Fin.one rfl .v
theorem en64 : Enters Tryd.prog 64 := ⟨_, Tryd.func64, rfl, rfl⟩
theorem k_whole_Mul {p0 : D_api_Int} {p1 : D_api_Int} {y : D_api_Int} (h : m_whole_Mul p0 p1 = some y) : Spec Tryd.prog 64 [(.v Y_api_Int p0), (.v Y_api_Int p1)] (.v Y_api_Int y) [] := by
  rw [m_whole_Mul] at h
  refine enterN [(.v Y_api_Int p0), (.v Y_api_Int p1)] 16 Tryd.func64 rfl rfl rfl ?_
  refine T.seq ?_
  refine T.region ?_
  refine Run.go (Ev.box 1 rfl rfl rfl rfl) ?_
  refine Run.go (Ev.box 2 rfl rfl rfl rfl) ?_
  refine Run.go (Ev.allocN X 3 rfl rfl rfl) ?_
  refine Run.nil ?_
  refine T.seq ?_
  refine T.drawM [11] [0, 1, 0, 4, 15, 0, 32, 0, 128, 480, 1023, 2047] (by kernel_rfl) (by kernel_rfl) ?_
  refine RunD.a rfl rfl (Ev.fieldBox X rfl rfl rfl rfl rfl) ?_
  refine RunD.a rfl rfl (Ev.loadCell X rfl rfl rfl rfl rfl rfl) ?_
  refine RunD.a rfl rfl (Ev.fieldBox X rfl rfl rfl rfl rfl) ?_
  refine RunD.a rfl rfl (Ev.loadCell X rfl rfl rfl rfl rfl rfl) ?_
  refine RunD.w (fun _ => Ev.bools X rfl rfl rfl rfl rfl) ?_
  refine RunD.a rfl rfl (Ev.fieldBox X rfl rfl rfl rfl rfl) ?_
  refine RunD.a rfl rfl (Ev.loadCell X rfl rfl rfl rfl rfl rfl) ?_
  refine RunD.a rfl rfl (Ev.fieldBox X rfl rfl rfl rfl rfl) ?_
  refine RunD.a rfl rfl (Ev.loadCell X rfl rfl rfl rfl rfl rfl) ?_
  obtain ⟨x1, e2, h⟩ := bdS h
  refine RunD.a rfl rfl (Ev.callC en105 (k_mul_Mul e2) rfl (.cons .v (.cons .v .nil)) rfl rfl) ?_
  obtain ⟨x3, e4, h⟩ := bdS h
  refine RunD.a rfl rfl (Ev.callC en50 (k_whole_Made e4) rfl (.cons .v (.cons .v .nil)) rfl rfl) ?_
  refine RunD.mN rfl (Ev.storeBox X rfl rfl rfl rfl rfl rfl rfl) ?_
  refine RunD.nil ?_
  refine T.ret ?_
  cases h
  exact Fin.cell X rfl rfl rfl rfl rfl
theorem en106 : Enters Tryd.prog 106 := ⟨_, Tryd.func106, rfl, rfl⟩
theorem k_triviumref02_Mul {p0 : (List Int)} {p1 : (List Int)} {y : (List Int)} (h : m_triviumref02_Mul p0 p1 = some y) : Spec Tryd.prog 106 [(.v (.sl (.int .i64)) p0), (.v (.sl (.int .i64)) p1)] (.v (.sl (.int .i64)) y) [] := by
  rw [m_triviumref02_Mul] at h
  refine enterN [(.v (.sl (.int .i64)) p0), (.v (.sl (.int .i64)) p1)] 79 Tryd.func106 rfl rfl rfl ?_
  refine T.seq ?_
  refine T.region ?_
  refine Run.go (Ev.assign rfl rfl) ?_
  refine Run.nil ?_
  refine T.seq ?_
  refine T.region ?_
  refine Run.go (Ev.move rfl rfl) ?_
  refine Run.go (Ev.len X rfl rfl rfl rfl) ?_
  refine Run.go (Ev.move rfl rfl) ?_
  refine Run.go (Ev.len X rfl rfl rfl rfl) ?_
  refine Run.go (Ev.int rfl rfl rfl rfl trivial) ?_
  refine Run.go (Ev.int rfl rfl rfl rfl trivial) ?_
  obtain ⟨x1, e2, h⟩ := bdS h
  refine Run.go (Ev.e_mk X 1 e2 rfl rfl rfl rfl rfl rfl) ?_
  refine Run.go (Ev.assign rfl rfl) ?_
  refine Run.nil ?_
  obtain ⟨v3, hv, h⟩ := bdS h
  refine T.cut (fun _ : Unit => (⟨[(5, .own 1)], [(1, .arr 3 (.int .i64) v3)], 79⟩ : St)) (fun _ => True) ?_ (fun _ _ => ?_)
  · replace h := hv
    clear hv
    refine T.seq ?_
    refine T.region ?_
    refine Run.go (Ev.assign rfl rfl) ?_
    refine Run.nil ?_
    refine T.block ?_
    refine T.loop (LoopT.ghost (Ghost.only [(1, 1)] [0, 1, 5, 6] rfl) (LoopT.run (fun q : Int × (List Int) => (⟨[(0, .v (.sl (.int .i64)) p0), (1, .v (.sl (.int .i64)) p1), (5, .own 1), (6, .v (.int .i64) q.1)], [(1, .arr 3 (.int .i64) q.2)], 79⟩ : St)) (fun q z1 h hz1 => ?_) h))
    obtain ⟨v4, v5⟩ := q
    dsimp only
    rw [m_triviumref02_Mul_l1] at h
    refine T.seq ?_
    refine T.seq ?_
    refine T.region ?_
    refine Run.go (Ev.move rfl rfl) ?_
    refine Run.go (Ev.move rfl rfl) ?_
    refine Run.go (Ev.len X rfl rfl rfl rfl) ?_
    refine Run.go (Ev.int rfl rfl rfl rfl trivial) ?_
    refine Run.nil ?_
    refine T.cond rfl (fun hb6 => ?_) (fun hb6 => ?_)
    · replace h := ifT hb6 h
      refine T.skip ?_
      obtain ⟨v7, hv, h⟩ := bdS h
      refine T.cut (fun _ : Unit => (⟨[(0, .v (.sl (.int .i64)) p0), (1, .v (.sl (.int .i64)) p1), (5, .own 1), (6, .v (.int .i64) v4)], [(1, .arr 3 (.int .i64) v7)], 79⟩ : St)) (fun _ => True) ?_ (fun _ _ => ?_)
      · replace h := hv
        clear hv
        refine T.block ?_
        refine T.seq ?_
        refine T.region ?_
        refine Run.go (Ev.assign rfl rfl) ?_
        refine Run.nil ?_
        obtain ⟨⟨v8, v9⟩, hv, h⟩ := bdS h
        refine T.cut (fun _ : Unit => (⟨[(0, .v (.sl (.int .i64)) p0), (1, .v (.sl (.int .i64)) p1), (5, .own 1), (6, .v (.int .i64) v4), (7, .v (.int .i64) v8)], [(1, .arr 3 (.int .i64) v9)], 79⟩ : St)) (fun _ => True) ?_ (fun _ _ => ?_)
        · replace h := hv
          clear hv
          refine T.seq ?_
          refine T.region ?_
          refine Run.go (Ev.assign rfl rfl) ?_
          refine Run.nil ?_
          refine T.block ?_
          refine T.loop (LoopT.ghost (Ghost.only [(1, 1)] [0, 1, 5, 6, 7, 8] rfl) (LoopT.run (fun q : Int × Int × (List Int) => (⟨[(0, .v (.sl (.int .i64)) p0), (1, .v (.sl (.int .i64)) p1), (5, .own 1), (6, .v (.int .i64) v4), (7, .v (.int .i64) q.1), (8, .v (.int .i64) q.2.1)], [(1, .arr 3 (.int .i64) q.2.2)], 79⟩ : St)) (fun q z2 h hz2 => ?_) h))
          obtain ⟨v10, v11, v12⟩ := q
          dsimp only
          rw [m_triviumref02_Mul_l2] at h
          refine T.seq ?_
          refine T.seq ?_
          refine T.region ?_
          refine Run.go (Ev.move rfl rfl) ?_
          refine Run.go (Ev.move rfl rfl) ?_
          refine Run.go (Ev.len X rfl rfl rfl rfl) ?_
          refine Run.go (Ev.int rfl rfl rfl rfl trivial) ?_
          refine Run.nil ?_
          refine T.cond rfl (fun hb13 => ?_) (fun hb13 => ?_)
          · replace h := ifT hb13 h
            refine T.skip ?_
            refine T.seq ?_
            refine T.block ?_
            refine T.seq ?_
            refine T.drawM [] [0, 0, 0, 0, 12, 30, 62, 127, 0, 0, 768, 1792, 0, 0, 12288, 28672, 65280, 131071, 262143] (by kernel_rfl) (by kernel_rfl) ?_
            refine RunD.w (fun _ => Ev.move rfl rfl) ?_
            refine RunD.w (fun _ => Ev.move rfl rfl) ?_
            refine RunD.w (fun _ => Ev.move rfl rfl) ?_
            refine RunD.w (fun _ => Ev.move rfl rfl) ?_
            refine RunD.w (fun _ => Ev.int rfl rfl rfl rfl trivial) ?_
            obtain ⟨x14, e15, h⟩ := bdS h
            refine RunD.a rfl rfl (Ev.e_rdO X e15 rfl rfl rfl rfl rfl) ?_
            refine RunD.a rfl rfl (Ev.e_ldO X (rdS e15).2 rfl rfl rfl rfl) ?_
            refine RunD.w (fun _ => Ev.int rfl rfl rfl rfl trivial) ?_
            refine RunD.w (fun _ => Ev.move rfl rfl) ?_
            refine RunD.w (fun _ => Ev.move rfl rfl) ?_
            obtain ⟨x16, e17, h⟩ := bdS h
            refine RunD.a rfl rfl (Ev.e_rd X e17 rfl rfl rfl rfl) ?_
            refine RunD.a rfl rfl (Ev.load X rfl rfl rfl) ?_
            refine RunD.w (fun _ => Ev.move rfl rfl) ?_
            refine RunD.w (fun _ => Ev.move rfl rfl) ?_
            obtain ⟨x18, e19, h⟩ := bdS h
            refine RunD.a rfl rfl (Ev.e_rd X e19 rfl rfl rfl rfl) ?_
            refine RunD.a rfl rfl (Ev.load X rfl rfl rfl) ?_
            refine RunD.w (fun _ => Ev.int rfl rfl rfl rfl trivial) ?_
            refine RunD.w (fun _ => Ev.int rfl rfl rfl rfl trivial) ?_
            obtain ⟨x20, e21, h⟩ := ltS h
            refine RunD.w (fun _ => Ev.avs (Ev.assign rfl rfl) e21) ?_
            refine RunD.nil ?_
            refine T.seq ?_
            refine T.region ?_
            refine Run.go (Ev.move rfl rfl) ?_
            refine Run.go (Ev.move rfl rfl) ?_
            refine Run.go (Ev.move rfl rfl) ?_
            refine Run.go (Ev.int rfl rfl rfl rfl trivial) ?_
            refine Run.go (Ev.move rfl rfl) ?_
            obtain ⟨x22, e23, h⟩ := bdS h
            refine Run.go (Ev.e_rm e23 rfl rfl rfl) ?_
            obtain ⟨j24, e25, h⟩ := bdS h
            refine Run.go (Ev.e_ixO X e25 rfl rfl rfl rfl rfl) ?_
            obtain ⟨x26, e27, h⟩ := ltS h
            refine Run.do_ (Ev.asO (Ev.storeEl X rfl rfl rfl rfl rfl) e27) ?_
            refine Run.nil ?_
            refine T.region ?_
            refine Run.go (Ev.move rfl rfl) ?_
            obtain ⟨x28, e29, h⟩ := bdS h
            refine Run.go (Ev.e_qd e29 rfl rfl rfl) ?_
            refine Run.go (Ev.assign rfl rfl) ?_
            refine Run.nil ?_
            refine T.region ?_
            refine Run.go (Ev.move rfl rfl) ?_
            refine Run.go (Ev.int rfl rfl rfl rfl trivial) ?_
            refine Run.go (Ev.assign rfl rfl) ?_
            refine Run.nil ?_
            cases h
            exact LoopT.ghost (Ghost.only [(1, 1)] [0, 1, 5, 6, 7, 8] rfl) hz2
          · replace h := ifF hb13 h
            refine T.exit ?_
            cases h
            cases hz2
            exact ⟨(), trivial, Ghost.only [(1, 1)] [0, 1, 5, 6, 7] rfl⟩
        · refine T.seq ?_
          refine T.region ?_
          refine Run.go (Ev.move rfl rfl) ?_
          refine Run.go (Ev.move rfl rfl) ?_
          refine Run.go (Ev.len X rfl rfl rfl rfl) ?_
          refine Run.go (Ev.int rfl rfl rfl rfl trivial) ?_
          refine Run.go (Ev.assign rfl rfl) ?_
          refine Run.nil ?_
          refine T.block ?_
          refine T.loop (LoopT.ghost (Ghost.only [(1, 1)] [0, 1, 5, 6, 7, 9] rfl) (LoopT.run (fun q : Int × Int × (List Int) => (⟨[(0, .v (.sl (.int .i64)) p0), (1, .v (.sl (.int .i64)) p1), (5, .own 1), (6, .v (.int .i64) v4), (7, .v (.int .i64) q.1), (9, .v (.int .i64) q.2.1)], [(1, .arr 3 (.int .i64) q.2.2)], 79⟩ : St)) (fun q z2 h hz2 => ?_) h))
          obtain ⟨v30, v31, v32⟩ := q
          dsimp only
          rw [m_triviumref02_Mul_l3] at h
          refine T.seq ?_
          refine T.seq ?_
          refine T.region ?_
          refine Run.go (Ev.move rfl rfl) ?_
          refine Run.go (Ev.int rfl rfl rfl rfl trivial) ?_
          refine Run.nil ?_
          refine T.cond rfl (fun hb33 => ?_) (fun hb33 => ?_)
          · replace h := ifT hb33 h
            refine T.skip ?_
            refine T.seq ?_
            refine T.block ?_
            refine T.seq ?_
            refine T.region ?_
            refine Run.go (Ev.move rfl rfl) ?_
            refine Run.go (Ev.move rfl rfl) ?_
            refine Run.go (Ev.move rfl rfl) ?_
            obtain ⟨x34, e35, h⟩ := bdS h
            refine Run.go (Ev.e_rdO X e35 rfl rfl rfl rfl rfl) ?_
            refine Run.go (Ev.e_ldO X (rdS e35).2 rfl rfl rfl rfl) ?_
            refine Run.go (Ev.int rfl rfl rfl rfl trivial) ?_
            refine Run.go (Ev.assign rfl rfl) ?_
            refine Run.nil ?_
            refine T.seq ?_
            refine T.region ?_
            refine Run.go (Ev.move rfl rfl) ?_
            refine Run.go (Ev.move rfl rfl) ?_
            refine Run.go (Ev.move rfl rfl) ?_
            obtain ⟨x36, e37, h⟩ := bdS h
            refine Run.go (Ev.e_rm e37 rfl rfl rfl) ?_
            obtain ⟨j38, e39, h⟩ := bdS h
            refine Run.go (Ev.e_ixO X e39 rfl rfl rfl rfl rfl) ?_
            obtain ⟨x40, e41, h⟩ := ltS h
            refine Run.do_ (Ev.asO (Ev.storeEl X rfl rfl rfl rfl rfl) e41) ?_
            refine Run.nil ?_
            refine T.region ?_
            refine Run.go (Ev.move rfl rfl) ?_
            obtain ⟨x42, e43, h⟩ := bdS h
            refine Run.go (Ev.e_qd e43 rfl rfl rfl) ?_
            refine Run.go (Ev.assign rfl rfl) ?_
            refine Run.nil ?_
            refine T.region ?_
            refine Run.go (Ev.move rfl rfl) ?_
            refine Run.go (Ev.int rfl rfl rfl rfl trivial) ?_
            refine Run.go (Ev.assign rfl rfl) ?_
            refine Run.nil ?_
            cases h
            exact LoopT.ghost (Ghost.only [(1, 1)] [0, 1, 5, 6, 7, 9] rfl) hz2
          · replace h := ifF hb33 h
            refine T.exit ?_
            cases h
            cases hz2
            exact ⟨(), trivial, Ghost.only [(1, 1)] [0, 1, 5, 6] rfl⟩
      · refine T.region ?_
        refine Run.go (Ev.move rfl rfl) ?_
        refine Run.go (Ev.int rfl rfl rfl rfl trivial) ?_
        refine Run.go (Ev.assign rfl rfl) ?_
        refine Run.nil ?_
        cases h
        exact LoopT.ghost (Ghost.only [(1, 1)] [0, 1, 5, 6] rfl) hz1
    · replace h := ifF hb6 h
      refine T.exit ?_
      cases h
      cases hz1
      exact ⟨(), trivial, Ghost.only [(1, 1)] [5] rfl⟩
  · refine T.seq ?_
    refine T.region ?_
    refine Run.go (Ev.move rfl rfl) ?_
    refine Run.ghost (Ghost.firmAll (id := 1) rfl) ?_
    obtain ⟨x44, e45, h⟩ := bdS h
    refine Run.go (Ev.callC en98 (k_triviumref02_Trim e45) rfl (.cons .v .nil) rfl rfl) ?_
    refine Run.go (Ev.assign rfl rfl) ?_
    refine Run.nil ?_
    refine T.ret ?_
    cases h
    exact Fin.one rfl .v
theorem en65 : Enters Tryd.prog 65 := ⟨_, Tryd.func65, rfl, rfl⟩
theorem k_triviumref07_Mul {p0 : D_triviumref07_Z} {p1 : D_triviumref07_Z} {y : D_triviumref07_Z} (h : m_triviumref07_Mul p0 p1 = some y) : Spec Tryd.prog 65 [(.v Y_triviumref07_Z p0), (.v Y_triviumref07_Z p1)] (.v Y_triviumref07_Z y) [] := by
  rw [m_triviumref07_Mul] at h
  refine enterN [(.v Y_triviumref07_Z p0), (.v Y_triviumref07_Z p1)] 16 Tryd.func65 rfl rfl rfl ?_
  refine T.seq ?_
  refine T.region ?_
  refine Run.go (Ev.box 1 rfl rfl rfl rfl) ?_
  refine Run.go (Ev.box 2 rfl rfl rfl rfl) ?_
  refine Run.go (Ev.allocN X 3 rfl rfl rfl) ?_
  refine Run.nil ?_
  refine T.seq ?_
  refine T.drawM [11] [0, 1, 0, 4, 15, 0, 32, 0, 128, 480, 1023, 2047] (by kernel_rfl) (by kernel_rfl) ?_
  refine RunD.a rfl rfl (Ev.fieldBox X rfl rfl rfl rfl rfl) ?_
  refine RunD.a rfl rfl (Ev.loadCell X rfl rfl rfl rfl rfl rfl) ?_
  refine RunD.a rfl rfl (Ev.fieldBox X rfl rfl rfl rfl rfl) ?_
  refine RunD.a rfl rfl (Ev.loadCell X rfl rfl rfl rfl rfl rfl) ?_
  refine RunD.w (fun _ => Ev.bools X rfl rfl rfl rfl rfl) ?_
  refine RunD.a rfl rfl (Ev.fieldBox X rfl rfl rfl rfl rfl) ?_
  refine RunD.a rfl rfl (Ev.loadCell X rfl rfl rfl rfl rfl rfl) ?_
  refine RunD.a rfl rfl (Ev.fieldBox X rfl rfl rfl rfl rfl) ?_
  refine RunD.a rfl rfl (Ev.loadCell X rfl rfl rfl rfl rfl rfl) ?_
  obtain ⟨x1, e2, h⟩ := bdS h
  refine RunD.a rfl rfl (Ev.callC en106 (k_triviumref02_Mul e2) rfl (.cons .v (.cons .v .nil)) rfl rfl) ?_
  obtain ⟨x3, e4, h⟩ := bdS h
  refine RunD.a rfl rfl (Ev.callC en93 (k_triviumref07_made e4) rfl (.cons .v (.cons .v .nil)) rfl rfl) ?_
  refine RunD.mN rfl (Ev.storeBox X rfl rfl rfl rfl rfl rfl rfl) ?_
  refine RunD.nil ?_
  refine T.ret ?_
  cases h
  exact Fin.cell X rfl rfl rfl rfl rfl
theorem en70 : Enters Tryd.prog 70 := ⟨_, Tryd.func70, rfl, rfl⟩
theorem k_whole_Sign {p0 : D_api_Int} {y : Int} (h : m_whole_Sign p0 = some y) : Spec Tryd.prog 70 [(.v Y_api_Int p0)] (.v (.int .i64) y) [] := by
  rw [m_whole_Sign] at h
  refine enterN [(.v Y_api_Int p0)] 11 Tryd.func70 rfl rfl rfl ?_
  refine T.seq ?_
  refine T.region ?_
  refine Run.go (Ev.box 1 rfl rfl rfl rfl) ?_
  refine Run.go (Ev.assign rfl rfl) ?_
  refine Run.nil ?_
  refine T.seq ?_
  refine T.block ?_
  refine T.seq ?_
  refine T.region ?_
  refine Run.go (Ev.fieldBox X rfl rfl rfl rfl rfl) ?_
  refine Run.go (Ev.loadCell X rfl rfl rfl rfl rfl rfl) ?_
  refine Run.go (Ev.len X rfl rfl rfl rfl) ?_
  refine Run.go (Ev.int rfl rfl rfl rfl trivial) ?_
  refine Run.go (Ev.assign rfl rfl) ?_
  refine Run.nil ?_
  refine T.cond rfl (fun hb1 => ?_) (fun hb1 => ?_)
  · replace h := ifT hb1 h
    refine T.seq ?_
    refine T.region ?_
    refine Run.go (Ev.assign rfl rfl) ?_
    refine Run.nil ?_
    refine T.ret ?_
    cases h
    exact Fin.one rfl .v
  · replace h := ifF hb1 h
    refine T.seq ?_
    refine T.region ?_
    refine Run.go (Ev.fieldBox X rfl rfl rfl rfl rfl) ?_
    refine Run.go (Ev.loadCell X rfl rfl rfl rfl rfl rfl) ?_
    refine Run.go (Ev.assign rfl rfl) ?_
    refine Run.nil ?_
    refine T.cond rfl (fun hb2 => ?_) (fun hb2 => ?_)
    · replace h := ifT hb2 h
      refine T.seq ?_
      refine T.region ?_
      refine Run.go (Ev.assign rfl rfl) ?_
      refine Run.nil ?_
      refine T.ret ?_
      cases h
      exact Fin.one rfl .v
    · replace h := ifF hb2 h
      refine T.skip ?_
      refine T.seq ?_
      refine T.region ?_
      refine Run.go (Ev.assign rfl rfl) ?_
      refine Run.nil ?_
      refine T.ret ?_
      cases h
      exact Fin.one rfl .v
theorem en68 : Enters Tryd.prog 68 := ⟨_, Tryd.func68, rfl, rfl⟩
theorem k_whole_Cmp {p0 : D_api_Int} {p1 : D_api_Int} {y : Int} (h : m_whole_Cmp p0 p1 = some y) : Spec Tryd.prog 68 [(.v Y_api_Int p0), (.v Y_api_Int p1)] (.v (.int .i64) y) [] := by
  rw [m_whole_Cmp] at h
  refine enterN [(.v Y_api_Int p0), (.v Y_api_Int p1)] 26 Tryd.func68 rfl rfl rfl ?_
  refine T.seq ?_
  refine T.region ?_
  refine Run.go (Ev.box 1 rfl rfl rfl rfl) ?_
  refine Run.go (Ev.box 2 rfl rfl rfl rfl) ?_
  refine Run.go (Ev.assign rfl rfl) ?_
  refine Run.nil ?_
  refine T.seq ?_
  refine T.drawM [] [0, 1, 0, 7, 15, 31] (by kernel_rfl) (by kernel_rfl) ?_
  refine RunD.a rfl rfl (Ev.loadBox X rfl rfl rfl rfl rfl) ?_
  obtain ⟨x1, e2, h⟩ := bdS h
  refine RunD.a rfl rfl (Ev.callC en70 (k_whole_Sign e2) rfl (.cons .v .nil) rfl rfl) ?_
  refine RunD.a rfl rfl (Ev.loadBox X rfl rfl rfl rfl rfl) ?_
  obtain ⟨x3, e4, h⟩ := bdS h
  refine RunD.a rfl rfl (Ev.callC en70 (k_whole_Sign e4) rfl (.cons .v .nil) rfl rfl) ?_
  refine RunD.w (fun _ => Ev.assign rfl rfl) ?_
  refine RunD.w (fun _ => Ev.assign rfl rfl) ?_
  refine RunD.nil ?_
  refine T.seq ?_
  refine T.block ?_
  refine T.seq ?_
  refine T.region ?_
  refine Run.go (Ev.move rfl rfl) ?_
  refine Run.go (Ev.move rfl rfl) ?_
  refine Run.go (Ev.int rfl rfl rfl rfl trivial) ?_
  refine Run.go (Ev.assign rfl rfl) ?_
  refine Run.nil ?_
  refine T.cond rfl (fun hb5 => ?_) (fun hb5 => ?_)
  · replace h := ifT hb5 h
    refine T.seq ?_
    refine T.region ?_
    refine Run.go (Ev.assign rfl rfl) ?_
    refine Run.nil ?_
    refine T.ret ?_
    cases h
    exact Fin.one rfl .v
  · replace h := ifF hb5 h
    refine T.seq ?_
    refine T.region ?_
    refine Run.go (Ev.move rfl rfl) ?_
    refine Run.go (Ev.move rfl rfl) ?_
    refine Run.go (Ev.int rfl rfl rfl rfl trivial) ?_
    refine Run.go (Ev.assign rfl rfl) ?_
    refine Run.nil ?_
    refine T.cond rfl (fun hb6 => ?_) (fun hb6 => ?_)
    · replace h := ifT hb6 h
      refine T.seq ?_
      refine T.region ?_
      refine Run.go (Ev.assign rfl rfl) ?_
      refine Run.nil ?_
      refine T.ret ?_
      cases h
      exact Fin.one rfl .v
    · replace h := ifF hb6 h
      refine T.skip ?_
      refine T.seq ?_
      refine T.region ?_
      refine Run.go (Ev.move rfl rfl) ?_
      refine Run.go (Ev.fieldBox X rfl rfl rfl rfl rfl) ?_
      refine Run.go (Ev.loadCell X rfl rfl rfl rfl rfl rfl) ?_
      refine Run.go (Ev.fieldBox X rfl rfl rfl rfl rfl) ?_
      refine Run.go (Ev.loadCell X rfl rfl rfl rfl rfl rfl) ?_
      obtain ⟨x7, e8, h⟩ := bdS h
      refine Run.go (Ev.callC en107 (k_nat_Cmp e8) rfl (.cons .v (.cons .v .nil)) rfl rfl) ?_
      refine Run.go (Ev.int rfl rfl rfl rfl trivial) ?_
      refine Run.go (Ev.assign rfl rfl) ?_
      refine Run.nil ?_
      refine T.ret ?_
      cases h
      exact Fin.one rfl .v
theorem en57 : Enters Tryd.prog 57 := ⟨_, Tryd.func57, rfl, rfl⟩
theorem k_triviumref07_Sign {p0 : D_triviumref07_Z} {y : Int} (h : m_triviumref07_Sign p0 = some y) : Spec Tryd.prog 57 [(.v Y_triviumref07_Z p0)] (.v (.int .i64) y) [] := by
  rw [m_triviumref07_Sign] at h
  refine enterN [(.v Y_triviumref07_Z p0)] 9 Tryd.func57 rfl rfl rfl ?_
  refine T.seq ?_
  refine T.region ?_
  refine Run.go (Ev.box 1 rfl rfl rfl rfl) ?_
  refine Run.go (Ev.assign rfl rfl) ?_
  refine Run.nil ?_
  refine T.seq ?_
  refine T.seq ?_
  refine T.region ?_
  refine Run.go (Ev.fieldBox X rfl rfl rfl rfl rfl) ?_
  refine Run.go (Ev.loadCell X rfl rfl rfl rfl rfl rfl) ?_
  refine Run.go (Ev.len X rfl rfl rfl rfl) ?_
  refine Run.go (Ev.int rfl rfl rfl rfl trivial) ?_
  refine Run.nil ?_
  refine T.cond rfl (fun hb1 => ?_) (fun hb1 => ?_)
  · replace h := ifT hb1 h
    refine T.seq ?_
    refine T.region ?_
    refine Run.go (Ev.assign rfl rfl) ?_
    refine Run.nil ?_
    refine T.ret ?_
    cases h
    exact Fin.one rfl .v
  · replace h := ifF hb1 h
    refine T.skip ?_
    refine T.seq ?_
    refine T.seq ?_
    refine T.region ?_
    refine Run.go (Ev.fieldBox X rfl rfl rfl rfl rfl) ?_
    refine Run.go (Ev.loadCell X rfl rfl rfl rfl rfl rfl) ?_
    refine Run.nil ?_
    refine T.cond rfl (fun hb2 => ?_) (fun hb2 => ?_)
    · replace h := ifT hb2 h
      refine T.seq ?_
      refine T.region ?_
      refine Run.go (Ev.assign rfl rfl) ?_
      refine Run.nil ?_
      refine T.ret ?_
      cases h
      exact Fin.one rfl .v
    · replace h := ifF hb2 h
      refine T.skip ?_
      refine T.seq ?_
      refine T.region ?_
      refine Run.go (Ev.assign rfl rfl) ?_
      refine Run.nil ?_
      refine T.ret ?_
      cases h
      exact Fin.one rfl .v
theorem en69 : Enters Tryd.prog 69 := ⟨_, Tryd.func69, rfl, rfl⟩
theorem k_triviumref07_Cmp {p0 : D_triviumref07_Z} {p1 : D_triviumref07_Z} {y : Int} (h : m_triviumref07_Cmp p0 p1 = some y) : Spec Tryd.prog 69 [(.v Y_triviumref07_Z p0), (.v Y_triviumref07_Z p1)] (.v (.int .i64) y) [] := by
  rw [m_triviumref07_Cmp] at h
  refine enterN [(.v Y_triviumref07_Z p0), (.v Y_triviumref07_Z p1)] 9 Tryd.func69 rfl rfl rfl ?_
  refine T.seq ?_
  refine T.region ?_
  refine Run.go (Ev.box 1 rfl rfl rfl rfl) ?_
  refine Run.go (Ev.box 2 rfl rfl rfl rfl) ?_
  refine Run.go (Ev.assign rfl rfl) ?_
  refine Run.nil ?_
  refine T.seq ?_
  refine T.region ?_
  refine Run.go (Ev.loadBox X rfl rfl rfl rfl rfl) ?_
  refine Run.go (Ev.loadBox X rfl rfl rfl rfl rfl) ?_
  obtain ⟨x1, e2, h⟩ := bdS h
  refine Run.go (Ev.callC en63 (k_triviumref07_Sub e2) rfl (.cons .v (.cons .v .nil)) rfl rfl) ?_
  obtain ⟨x3, e4, h⟩ := bdS h
  refine Run.go (Ev.callC en57 (k_triviumref07_Sign e4) rfl (.cons .v .nil) rfl rfl) ?_
  refine Run.go (Ev.assign rfl rfl) ?_
  refine Run.nil ?_
  refine T.ret ?_
  cases h
  exact Fin.one rfl .v
theorem en97 : Enters Tryd.prog 97 := ⟨_, Tryd.func97, rfl, rfl⟩
theorem k_nat_Of {p0 : Int} {y : (List Int)} (h : m_nat_Of p0 = some y) : Spec Tryd.prog 97 [(.v (.int .u64) p0)] (.v (.sl (.int .u64)) y) [] := by
  rw [m_nat_Of] at h
  refine enterN [(.v (.int .u64) p0)] 9 Tryd.func97 rfl rfl rfl ?_
  refine T.seq ?_
  refine T.region ?_
  refine Run.go (Ev.assign rfl rfl) ?_
  refine Run.nil ?_
  refine T.seq ?_
  refine T.region ?_
  refine Run.go (Ev.move rfl rfl) ?_
  obtain ⟨x1, e2, h⟩ := bdS h
  refine Run.go (Ev.e_rm e2 rfl rfl rfl) ?_
  refine Run.go (Ev.move rfl rfl) ?_
  obtain ⟨x3, e4, h⟩ := bdS h
  refine Run.go (Ev.e_sr e4 rfl rfl rfl) ?_
  refine Run.go (Ev.build X 1 rfl rfl rfl rfl rfl rfl rfl rfl) ?_
  refine Run.ghost (Ghost.firmAll (id := 1) rfl) ?_
  obtain ⟨x5, e6, h⟩ := bdS h
  refine Run.go (Ev.callC en112 (k_nat_trim e6) rfl (.cons .v .nil) rfl rfl) ?_
  refine Run.go (Ev.assign rfl rfl) ?_
  refine Run.nil ?_
  refine T.ret ?_
  cases h
  exact Fin.one rfl .v
theorem en45 : Enters Tryd.prog 45 := ⟨_, Tryd.func45, rfl, rfl⟩
theorem k_whole_Of {p0 : Int} {y : D_api_Int} (h : m_whole_Of p0 = some y) : Spec Tryd.prog 45 [(.v (.int .i64) p0)] (.v Y_api_Int y) [] := by
  rw [m_whole_Of] at h
  refine enterN [(.v (.int .i64) p0)] 17 Tryd.func45 rfl rfl rfl ?_
  refine T.seq ?_
  refine T.region ?_
  refine Run.go (Ev.allocN X 1 rfl rfl rfl) ?_
  refine Run.nil ?_
  refine T.seq ?_
  refine T.seq ?_
  refine T.region ?_
  refine Run.go (Ev.move rfl rfl) ?_
  refine Run.go (Ev.int rfl rfl rfl rfl trivial) ?_
  refine Run.nil ?_
  refine T.cond rfl (fun hb1 => ?_) (fun hb1 => ?_)
  · replace h := ifT hb1 h
    refine T.seq ?_
    refine T.region ?_
    refine Run.go (Ev.move rfl rfl) ?_
    refine Run.go (Ev.int rfl rfl rfl rfl trivial) ?_
    refine Run.go (Ev.neg rfl rfl) ?_
    refine Run.go (Ev.conv X rfl rfl rfl rfl) ?_
    obtain ⟨x2, e3, h⟩ := bdS h
    refine Run.go (Ev.callC en97 (k_nat_Of e3) rfl (.cons .v .nil) rfl rfl) ?_
    obtain ⟨x4, e5, h⟩ := bdS h
    refine Run.go (Ev.callC en97 (k_nat_Of e5) rfl (.cons .v .nil) rfl rfl) ?_
    obtain ⟨x6, e7, h⟩ := bdS h
    refine Run.go (Ev.callC en96 (k_nat_Add e7) rfl (.cons .v (.cons .v .nil)) rfl rfl) ?_
    obtain ⟨x8, e9, h⟩ := bdS h
    refine Run.go (Ev.callC en50 (k_whole_Made e9) rfl (.cons .v (.cons .v .nil)) rfl rfl) ?_
    refine Run.do_ (Ev.storeBox X rfl rfl rfl rfl rfl rfl rfl) ?_
    refine Run.nil ?_
    refine T.ret ?_
    cases h
    exact Fin.cell X rfl rfl rfl rfl rfl
  · replace h := ifF hb1 h
    refine T.skip ?_
    refine T.seq ?_
    refine T.region ?_
    refine Run.go (Ev.move rfl rfl) ?_
    refine Run.go (Ev.conv X rfl rfl rfl rfl) ?_
    obtain ⟨x10, e11, h⟩ := bdS h
    refine Run.go (Ev.callC en97 (k_nat_Of e11) rfl (.cons .v .nil) rfl rfl) ?_
    obtain ⟨x12, e13, h⟩ := bdS h
    refine Run.go (Ev.callC en50 (k_whole_Made e13) rfl (.cons .v (.cons .v .nil)) rfl rfl) ?_
    refine Run.do_ (Ev.storeBox X rfl rfl rfl rfl rfl rfl rfl) ?_
    refine Run.nil ?_
    refine T.ret ?_
    cases h
    exact Fin.cell X rfl rfl rfl rfl rfl
theorem en123 : Enters Tryd.prog 123 := ⟨_, Tryd.func123, rfl, rfl⟩
theorem k_nat_May {p0 : (List Int)} {y : Bool} (h : m_nat_May p0 = some y) : Spec Tryd.prog 123 [(.v (.sl (.int .u64)) p0)] (.v .bool y) [] := by
  rw [m_nat_May] at h
  refine enterN [(.v (.sl (.int .u64)) p0)] 26 Tryd.func123 rfl rfl rfl ?_
  refine T.seq ?_
  refine T.region ?_
  refine Run.go (Ev.assign rfl rfl) ?_
  refine Run.nil ?_
  refine T.seq ?_
  refine T.seq ?_
  refine T.region ?_
  refine Run.go (Ev.move rfl rfl) ?_
  refine Run.go (Ev.len X rfl rfl rfl rfl) ?_
  refine Run.go (Ev.move rfl rfl) ?_
  refine Run.nil ?_
  refine T.block ?_
  refine T.loop (LoopT.ghost (Ghost.only [] [0, 5, 6, 7] rfl) (LoopT.run (fun q : Int => (⟨[(0, .v (.sl (.int .u64)) p0), (5, .v (.sl (.int .u64)) p0), (6, .v (.int .i64) ((p0.length : Int) : Int)), (7, .v (.int .i64) q)], [], 26⟩ : St)) (fun v1 z1 h hz1 => ?_) h))
  rw [m_nat_May_l1] at h
  refine T.seq ?_
  refine T.region ?_
  refine Run.go (Ev.int rfl rfl rfl rfl trivial) ?_
  refine Run.nil ?_
  refine T.seq ?_
  refine T.cond rfl (fun hb2 => ?_) (fun hb2 => ?_)
  · replace h := ifT hb2 h
    refine T.skip ?_
    refine T.seq ?_
    refine T.block ?_
    refine T.seq ?_
    refine T.region ?_
    obtain ⟨x3, e4, h⟩ := bdS h
    refine Run.go (Ev.e_rd X e4 rfl rfl rfl rfl) ?_
    refine Run.go (Ev.load X rfl rfl rfl) ?_
    refine Run.go (Ev.assign rfl rfl) ?_
    refine Run.nil ?_
    refine T.seq ?_
    refine T.region ?_
    refine Run.go (Ev.move rfl rfl) ?_
    refine Run.go (Ev.int rfl rfl rfl rfl trivial) ?_
    refine Run.nil ?_
    refine T.cond rfl (fun hb5 => ?_) (fun hb5 => ?_)
    · replace h := ifT hb5 h
      refine T.seq ?_
      refine T.region ?_
      refine Run.go (Ev.assign rfl rfl) ?_
      refine Run.nil ?_
      refine T.ret ?_
      cases h
      cases hz1
      exact Fin.one rfl .v
    · replace h := ifF hb5 h
      refine T.skip ?_
      refine T.region ?_
      refine Run.go (Ev.int rfl rfl rfl rfl trivial) ?_
      refine Run.go (Ev.move rfl rfl) ?_
      refine Run.nil ?_
      cases h
      exact LoopT.ghost (Ghost.only [] [0, 5, 6, 7] rfl) hz1
  · replace h := ifF hb2 h
    refine T.exit ?_
    refine T.seq ?_
    refine T.region ?_
    refine Run.go (Ev.move rfl rfl) ?_
    refine Run.go (Ev.len X rfl rfl rfl rfl) ?_
    refine Run.go (Ev.int rfl rfl rfl rfl trivial) ?_
    refine Run.go (Ev.move rfl rfl) ?_
    rcases boolCases (decide ((p0.length : Int) = 0)) with hb6 | hb6
    · replace h := ifT hb6 h
      refine Run.offT rfl rfl rfl rfl hb6 ?_
      refine Run.offT rfl rfl rfl rfl hb6 ?_
      refine Run.offT rfl rfl rfl rfl hb6 ?_
      refine Run.offT rfl rfl rfl rfl hb6 ?_
      refine Run.offT rfl rfl rfl rfl hb6 ?_
      refine Run.offT rfl rfl rfl rfl hb6 ?_
      refine Run.offT rfl rfl rfl rfl hb6 ?_
      refine Run.go (Ev.pickT rfl hb6 rfl rfl) ?_
      refine Run.go (Ev.assign rfl rfl) ?_
      refine Run.nil ?_
      refine T.ret ?_
      cases h
      cases hz1
      exact Fin.one rfl .v
    · replace h := ifF hb6 h
      refine Run.on rfl rfl rfl hb6 (Ev.move rfl rfl) ?_
      refine Run.on rfl rfl rfl hb6 (Ev.move rfl rfl) ?_
      refine Run.on rfl rfl rfl hb6 (Ev.len X rfl rfl rfl rfl) ?_
      refine Run.on rfl rfl rfl hb6 (Ev.int rfl rfl rfl rfl trivial) ?_
      obtain ⟨x7, e8, h⟩ := bdS h
      refine Run.on rfl rfl rfl hb6 (Ev.e_rd X e8 rfl rfl rfl rfl) ?_
      refine Run.on rfl rfl rfl hb6 (Ev.load X rfl rfl rfl) ?_
      refine Run.on rfl rfl rfl hb6 (Ev.int rfl rfl rfl rfl trivial) ?_
      refine Run.go (Ev.pickF rfl hb6 rfl rfl) ?_
      refine Run.go (Ev.assign rfl rfl) ?_
      refine Run.nil ?_
      refine T.ret ?_
      cases h
      cases hz1
      exact Fin.one rfl .v
theorem en113 : Enters Tryd.prog 113 := ⟨_, Tryd.func113, rfl, rfl⟩
theorem k_limb_Div {p0 : Int} {p1 : Int} {p2 : Int} {y : Int × Int × Int} (h : m_limb_Div p0 p1 p2 = some y) : Spec Tryd.prog 113 [(.v (.int .u64) p0), (.v (.int .u64) p1), (.v (.int .u64) p2)] (.tup [.v (.int .u64) y.1, .v (.int .u64) y.2.1, .v (.int .i64) y.2.2]) [] := by
  rw [m_limb_Div] at h
  refine enterN [(.v (.int .u64) p0), (.v (.int .u64) p1), (.v (.int .u64) p2)] 33 Tryd.func113 rfl rfl rfl ?_
  refine T.seq ?_
  refine T.region ?_
  refine Run.go (Ev.assign rfl rfl) ?_
  refine Run.go (Ev.assign rfl rfl) ?_
  refine Run.go (Ev.assign rfl rfl) ?_
  refine Run.nil ?_
  refine T.seq ?_
  refine T.region ?_
  refine Run.go (Ev.move rfl rfl) ?_
  refine Run.go (Ev.int rfl rfl rfl rfl trivial) ?_
  refine Run.go (Ev.move rfl rfl) ?_
  refine Run.go (Ev.int rfl rfl rfl rfl trivial) ?_
  refine Run.go (Ev.move rfl rfl) ?_
  refine Run.go (Ev.int rfl rfl rfl rfl trivial) ?_
  refine Run.go (Ev.assign rfl rfl) ?_
  refine Run.go (Ev.assign rfl rfl) ?_
  refine Run.go (Ev.assign rfl rfl) ?_
  refine Run.nil ?_
  refine T.seq ?_
  refine T.block ?_
  refine T.seq ?_
  refine T.region ?_
  refine Run.go (Ev.move rfl rfl) ?_
  refine Run.go (Ev.int rfl rfl rfl rfl trivial) ?_
  obtain ⟨x1, e2, h⟩ := ltS h
  refine Run.go (Ev.avs (Ev.assign rfl rfl) e2) ?_
  refine Run.nil ?_
  refine T.cond rfl (fun hb3 => ?_) (fun hb3 => ?_)
  · replace h := ifT hb3 h
    refine T.seq ?_
    refine T.region ?_
    refine Run.go (Ev.assign rfl rfl) ?_
    refine Run.go (Ev.assign rfl rfl) ?_
    refine Run.go (Ev.assign rfl rfl) ?_
    refine Run.nil ?_
    refine T.ret ?_
    cases h
    exact Fin.many X rfl (.cons (.tmp .v) (.cons (.tmp .v) (.cons (.tmp .v) .nil))) rfl
  · replace h := ifF hb3 h
    refine T.seq ?_
    refine T.region ?_
    refine Run.go (Ev.move rfl rfl) ?_
    refine Run.go (Ev.move rfl rfl) ?_
    refine Run.go (Ev.int rfl rfl rfl rfl trivial) ?_
    obtain ⟨x4, e5, h⟩ := ltS h
    refine Run.go (Ev.avs (Ev.assign rfl rfl) e5) ?_
    refine Run.nil ?_
    refine T.cond rfl (fun hb6 => ?_) (fun hb6 => ?_)
    · replace h := ifT hb6 h
      refine T.seq ?_
      refine T.region ?_
      refine Run.go (Ev.assign rfl rfl) ?_
      refine Run.go (Ev.assign rfl rfl) ?_
      refine Run.go (Ev.assign rfl rfl) ?_
      refine Run.nil ?_
      refine T.ret ?_
      cases h
      exact Fin.many X rfl (.cons (.tmp .v) (.cons (.tmp .v) (.cons (.tmp .v) .nil))) rfl
    · replace h := ifF hb6 h
      refine T.skip ?_
      refine T.seq ?_
      refine T.region ?_
      refine Run.go (Ev.move rfl rfl) ?_
      obtain ⟨x7, e8, h⟩ := bdS h
      refine Run.go (Ev.e_sh e8 rfl rfl rfl) ?_
      refine Run.go (Ev.move rfl rfl) ?_
      refine Run.go (Ev.int rfl rfl rfl rfl trivial) ?_
      obtain ⟨x9, e10, h⟩ := ltS h
      refine Run.go (Ev.avs (Ev.assign rfl rfl) e10) ?_
      refine Run.nil ?_
      refine T.seq ?_
      refine T.drawM [] [0, 0, 3, 0, 0, 24, 7, 127, 255] (by kernel_rfl) (by kernel_rfl) ?_
      refine RunD.w (fun _ => Ev.move rfl rfl) ?_
      refine RunD.w (fun _ => Ev.move rfl rfl) ?_
      obtain ⟨x11, e12, h⟩ := bdS h
      refine RunD.w (fun _ => Ev.e_qd e12 rfl rfl rfl) ?_
      refine RunD.w (fun _ => Ev.move rfl rfl) ?_
      refine RunD.w (fun _ => Ev.move rfl rfl) ?_
      obtain ⟨x13, e14, h⟩ := bdS h
      refine RunD.w (fun _ => Ev.e_rm e14 rfl rfl rfl) ?_
      refine RunD.w (fun _ => Ev.assign rfl rfl) ?_
      refine RunD.w (fun _ => Ev.assign rfl rfl) ?_
      refine RunD.w (fun _ => Ev.assign rfl rfl) ?_
      refine RunD.nil ?_
      refine T.ret ?_
      cases h
      exact Fin.many X rfl (.cons (.tmp .v) (.cons (.tmp .v) (.cons (.tmp .v) .nil))) rfl
theorem en78 : Enters Tryd.prog 78 := ⟨_, Tryd.func78, rfl, rfl⟩
theorem k_divide_Small {p0 : (List Int)} {p1 : Int} {y : (List Int) × Int × Int} (h : m_divide_Small p0 p1 = some y) : Spec Tryd.prog 78 [(.v (.sl (.int .u64)) p0), (.v (.int .u64) p1)] (.tup [.v (.sl (.int .u64)) y.1, .v (.int .u64) y.2.1, .v (.int .i64) y.2.2]) [] := by
  rw [m_divide_Small] at h
  refine enterN [(.v (.sl (.int .u64)) p0), (.v (.int .u64) p1)] 51 Tryd.func78 rfl rfl rfl ?_
  refine T.seq ?_
  refine T.region ?_
  refine Run.go (Ev.assign rfl rfl) ?_
  refine Run.go (Ev.assign rfl rfl) ?_
  refine Run.go (Ev.assign rfl rfl) ?_
  refine Run.nil ?_
  refine T.seq ?_
  refine T.seq ?_
  refine T.region ?_
  refine Run.go (Ev.move rfl rfl) ?_
  obtain ⟨x1, e2, h⟩ := bdS h
  refine Run.go (Ev.e_rm e2 rfl rfl rfl) ?_
  refine Run.go (Ev.int rfl rfl rfl rfl trivial) ?_
  refine Run.nil ?_
  refine T.cond rfl (fun hb3 => ?_) (fun hb3 => ?_)
  · replace h := ifT hb3 h
    refine T.seq ?_
    refine T.region ?_
    refine Run.go (Ev.assign rfl rfl) ?_
    refine Run.go (Ev.assign rfl rfl) ?_
    refine Run.go (Ev.assign rfl rfl) ?_
    refine Run.nil ?_
    refine T.ret ?_
    cases h
    exact Fin.many X rfl (.cons (.tmp .nilv) (.cons (.tmp .v) (.cons (.tmp .v) .nil))) rfl
  · replace h := ifF hb3 h
    refine T.skip ?_
    refine T.seq ?_
    refine T.region ?_
    refine Run.go (Ev.move rfl rfl) ?_
    refine Run.go (Ev.len X rfl rfl rfl rfl) ?_
    obtain ⟨x4, e5, h⟩ := bdS h
    refine Run.go (Ev.e_mk X 1 e5 rfl rfl rfl rfl rfl rfl) ?_
    refine Run.go (Ev.assign rfl rfl) ?_
    refine Run.nil ?_
    refine T.seq ?_
    refine T.region ?_
    refine Run.go (Ev.assign rfl rfl) ?_
    refine Run.nil ?_
    obtain ⟨⟨v6, v7⟩, hv, h⟩ := bdS h
    refine T.cut (fun _ : Unit => (⟨[(7, .own 1), (8, .v (.int .u64) v6)], [(1, .arr 96 (.int .u64) v7)], 51⟩ : St)) (fun _ => True) ?_ (fun _ _ => ?_)
    · replace h := hv
      clear hv
      refine T.seq ?_
      refine T.region ?_
      refine Run.go (Ev.move rfl rfl) ?_
      refine Run.go (Ev.len X rfl rfl rfl rfl) ?_
      refine Run.go (Ev.move rfl rfl) ?_
      refine Run.nil ?_
      refine T.block ?_
      refine T.loop (LoopT.ghost (Ghost.only [(1, 1)] [0, 1, 7, 8, 20, 21] rfl) (LoopT.run (fun q : Int × Int × (List Int) => (⟨[(0, .v (.sl (.int .u64)) p0), (1, .v (.int .u64) p1), (7, .own 1), (8, .v (.int .u64) q.1), (20, .v (.int .i64) ((p0.length : Int) : Int)), (21, .v (.int .i64) q.2.1)], [(1, .arr 96 (.int .u64) q.2.2)], 51⟩ : St)) (fun q z1 h hz1 => ?_) h))
      obtain ⟨v8, v9, v10⟩ := q
      dsimp only
      rw [m_divide_Small_l1] at h
      refine T.seq ?_
      refine T.region ?_
      refine Run.go (Ev.int rfl rfl rfl rfl trivial) ?_
      refine Run.nil ?_
      refine T.seq ?_
      refine T.cond rfl (fun hb11 => ?_) (fun hb11 => ?_)
      · replace h := ifT hb11 h
        refine T.skip ?_
        refine T.seq ?_
        refine T.block ?_
        refine T.seq ?_
        refine T.region ?_
        refine Run.go (Ev.move rfl rfl) ?_
        refine Run.go (Ev.assign rfl rfl) ?_
        refine Run.nil ?_
        refine T.seq ?_
        refine T.region ?_
        refine Run.go (Ev.move rfl rfl) ?_
        refine Run.go (Ev.len X rfl rfl rfl rfl) ?_
        refine Run.go (Ev.int rfl rfl rfl rfl trivial) ?_
        refine Run.go (Ev.move rfl rfl) ?_
        refine Run.go (Ev.int rfl rfl rfl rfl trivial) ?_
        obtain ⟨x12, e13, h⟩ := ltS h
        refine Run.go (Ev.avs (Ev.assign rfl rfl) e13) ?_
        refine Run.nil ?_
        refine T.region ?_
        refine Run.go (Ev.move rfl rfl) ?_
        refine Run.go (Ev.move rfl rfl) ?_
        refine Run.go (Ev.move rfl rfl) ?_
        refine Run.go (Ev.move rfl rfl) ?_
        refine Run.go (Ev.move rfl rfl) ?_
        obtain ⟨x14, e15, h⟩ := bdS h
        refine Run.go (Ev.e_rd X e15 rfl rfl rfl rfl) ?_
        refine Run.go (Ev.load X rfl rfl rfl) ?_
        refine Run.go (Ev.move rfl rfl) ?_
        obtain ⟨x16, e17, h⟩ := bdS h
        refine Run.go (Ev.callC en113 (k_limb_Div e17) rfl (.cons .v (.cons .v (.cons .v .nil))) rfl rfl) ?_
        refine Run.go (Ev.move rfl rfl) ?_
        refine Run.go (Ev.extract rfl rfl rfl) ?_
        refine Run.go (Ev.extract rfl rfl rfl) ?_
        refine Run.go (Ev.extract rfl rfl rfl) ?_
        obtain ⟨j18, e19, h⟩ := bdS h
        refine Run.go (Ev.e_ixO X e19 rfl rfl rfl rfl rfl) ?_
        obtain ⟨x20, e21, h⟩ := ltS h
        refine Run.do_ (Ev.asO (Ev.storeEl X rfl rfl rfl rfl rfl) e21) ?_
        refine Run.go (Ev.assign rfl rfl) ?_
        refine Run.nil ?_
        refine T.region ?_
        refine Run.go (Ev.int rfl rfl rfl rfl trivial) ?_
        refine Run.go (Ev.move rfl rfl) ?_
        refine Run.nil ?_
        cases h
        exact LoopT.ghost (Ghost.only [(1, 1)] [0, 1, 7, 8, 20, 21] rfl) hz1
      · replace h := ifF hb11 h
        refine T.exit ?_
        cases h
        cases hz1
        exact ⟨(), trivial, Ghost.only [(1, 1)] [7, 8] rfl⟩
    · refine T.seq ?_
      refine T.region ?_
      refine Run.go (Ev.move rfl rfl) ?_
      refine Run.ghost (Ghost.firmAll (id := 1) rfl) ?_
      obtain ⟨x22, e23, h⟩ := bdS h
      refine Run.go (Ev.callC en77 (k_nat_Make e23) rfl (.cons .v .nil) rfl rfl) ?_
      refine Run.go (Ev.move rfl rfl) ?_
      refine Run.go (Ev.extract rfl rfl rfl) ?_
      refine Run.go (Ev.extract rfl rfl rfl) ?_
      refine Run.go (Ev.assign rfl rfl) ?_
      refine Run.go (Ev.assign rfl rfl) ?_
      refine Run.nil ?_
      refine T.seq ?_
      refine T.region ?_
      refine Run.go (Ev.move rfl rfl) ?_
      refine Run.go (Ev.move rfl rfl) ?_
      refine Run.go (Ev.assign rfl rfl) ?_
      refine Run.go (Ev.assign rfl rfl) ?_
      refine Run.go (Ev.assign rfl rfl) ?_
      refine Run.nil ?_
      refine T.ret ?_
      cases h
      exact Fin.many X rfl (.cons (.tmp .v) (.cons (.tmp .v) (.cons (.tmp .v) .nil))) rfl
theorem en136 : Enters Tryd.prog 136 := ⟨_, Tryd.func136, rfl, rfl⟩
theorem k_limb_Bits {p0 : Int} {y : Int} (h : m_limb_Bits p0 = some y) : Spec Tryd.prog 136 [(.v (.int .u64) p0)] (.v (.int .i64) y) [] := by
  rw [m_limb_Bits] at h
  refine enterN [(.v (.int .u64) p0)] 17 Tryd.func136 rfl rfl rfl ?_
  refine T.seq ?_
  refine T.region ?_
  refine Run.go (Ev.assign rfl rfl) ?_
  refine Run.nil ?_
  refine T.seq ?_
  refine T.region ?_
  refine Run.go (Ev.assign rfl rfl) ?_
  refine Run.nil ?_
  obtain ⟨v1, hv, h⟩ := bdS h
  refine T.cut (fun _ : Unit => (⟨[(3, .v (.int .i64) v1)], [], 17⟩ : St)) (fun _ => True) ?_ (fun _ _ => ?_)
  · replace h := hv
    clear hv
    refine T.seq ?_
    refine T.region ?_
    refine Run.go (Ev.move rfl rfl) ?_
    refine Run.nil ?_
    refine T.block ?_
    refine T.loop (LoopT.ghost (Ghost.only [] [0, 3, 5] rfl) (LoopT.run (fun q : Int × Int => (⟨[(0, .v (.int .u64) p0), (3, .v (.int .i64) q.1), (5, .v (.int .i64) q.2)], [], 17⟩ : St)) (fun q z1 h hz1 => ?_) h))
    obtain ⟨v2, v3⟩ := q
    dsimp only
    rw [m_limb_Bits_l1] at h
    refine T.seq ?_
    refine T.region ?_
    refine Run.go (Ev.int rfl rfl rfl rfl trivial) ?_
    refine Run.nil ?_
    refine T.seq ?_
    refine T.cond rfl (fun hb4 => ?_) (fun hb4 => ?_)
    · replace h := ifT hb4 h
      refine T.skip ?_
      obtain ⟨v5, hv, h⟩ := bdS h
      refine T.cut (fun _ : Unit => (⟨[(0, .v (.int .u64) p0), (3, .v (.int .i64) v5), (5, .v (.int .i64) v3)], [], 17⟩ : St)) (fun _ => True) ?_ (fun _ _ => ?_)
      · replace h := hv
        clear hv
        refine T.block ?_
        refine T.seq ?_
        refine T.region ?_
        refine Run.go (Ev.move rfl rfl) ?_
        refine Run.go (Ev.assign rfl rfl) ?_
        refine Run.nil ?_
        refine T.seq ?_
        refine T.region ?_
        refine Run.go (Ev.move rfl rfl) ?_
        refine Run.go (Ev.move rfl rfl) ?_
        obtain ⟨x6, e7, h⟩ := bdS h
        refine Run.go (Ev.e_sr e7 rfl rfl rfl) ?_
        refine Run.go (Ev.int rfl rfl rfl rfl trivial) ?_
        refine Run.go (Ev.int rfl rfl rfl rfl trivial) ?_
        refine Run.nil ?_
        refine T.cond rfl (fun hb8 => ?_) (fun hb8 => ?_)
        · replace h := ifT hb8 h
          refine T.region ?_
          refine Run.go (Ev.move rfl rfl) ?_
          refine Run.go (Ev.int rfl rfl rfl rfl trivial) ?_
          refine Run.go (Ev.assign rfl rfl) ?_
          refine Run.nil ?_
          cases h
          exact ⟨(), trivial, Ghost.only [] [0, 3, 5] rfl⟩
        · replace h := ifF hb8 h
          refine T.skip ?_
          cases h
          exact ⟨(), trivial, Ghost.only [] [0, 3, 5] rfl⟩
      · refine T.region ?_
        refine Run.go (Ev.int rfl rfl rfl rfl trivial) ?_
        refine Run.go (Ev.move rfl rfl) ?_
        refine Run.nil ?_
        cases h
        exact LoopT.ghost (Ghost.only [] [0, 3, 5] rfl) hz1
    · replace h := ifF hb4 h
      refine T.exit ?_
      cases h
      cases hz1
      exact ⟨(), trivial, Ghost.only [] [3] rfl⟩
  · refine T.seq ?_
    refine T.region ?_
    refine Run.go (Ev.move rfl rfl) ?_
    refine Run.go (Ev.assign rfl rfl) ?_
    refine Run.nil ?_
    refine T.ret ?_
    cases h
    exact Fin.one rfl .v
theorem en158 : Enters Tryd.prog 158 := ⟨_, Tryd.func158, rfl, rfl⟩
theorem k_nat_shift {p0 : Int} {y : Int} (h : m_nat_shift p0 = some y) : Spec Tryd.prog 158 [(.v (.int .i64) p0)] (.v (.int .i64) y) [] := by
  rw [m_nat_shift] at h
  refine enterN [(.v (.int .i64) p0)] 9 Tryd.func158 rfl rfl rfl ?_
  refine T.seq ?_
  refine T.region ?_
  refine Run.go (Ev.assign rfl rfl) ?_
  refine Run.nil ?_
  refine T.seq ?_
  obtain ⟨v1, hv, h⟩ := bdS h
  refine T.cut (fun _ : Unit => (⟨[(8, .v .bool v1)], [], 9⟩ : St)) (fun _ => True) ?_ (fun _ _ => ?_)
  · replace h := hv
    clear hv
    refine T.region ?_
    refine Run.go (Ev.move rfl rfl) ?_
    refine Run.go (Ev.int rfl rfl rfl rfl trivial) ?_
    refine Run.go (Ev.move rfl rfl) ?_
    rcases boolCases (decide (p0 < 0)) with hb2 | hb2
    · replace h := ifT hb2 h
      refine Run.offT rfl rfl rfl rfl hb2 ?_
      refine Run.offT rfl rfl rfl rfl hb2 ?_
      refine Run.go (Ev.pickT rfl hb2 rfl rfl) ?_
      refine Run.nil ?_
      cases h
      exact ⟨(), trivial, Ghost.only [] [8] rfl⟩
    · replace h := ifF hb2 h
      refine Run.on rfl rfl rfl hb2 (Ev.move rfl rfl) ?_
      refine Run.on rfl rfl rfl hb2 (Ev.int rfl rfl rfl rfl trivial) ?_
      refine Run.go (Ev.pickF rfl hb2 rfl rfl) ?_
      refine Run.nil ?_
      cases h
      exact ⟨(), trivial, Ghost.only [] [8] rfl⟩
  · refine T.cond rfl (fun hb3 => ?_) (fun hb3 => ?_)
    · replace h := ifT hb3 h
      refine T.seq ?_
      refine T.region ?_
      refine Run.go (Ev.assign rfl rfl) ?_
      refine Run.nil ?_
      refine T.ret ?_
      cases h
      exact Fin.one rfl .v
    · replace h := ifF hb3 h
      refine T.skip ?_
      refine T.seq ?_
      refine T.region ?_
      refine Run.go (Ev.assign rfl rfl) ?_
      refine Run.nil ?_
      refine T.ret ?_
      cases h
      exact Fin.one rfl .v
theorem en137 : Enters Tryd.prog 137 := ⟨_, Tryd.func137, rfl, rfl⟩
theorem k_nat_Shl {p0 : (List Int)} {p1 : Int} {y : (List Int) × Int} (h : m_nat_Shl p0 p1 = some y) : Spec Tryd.prog 137 [(.v (.sl (.int .u64)) p0), (.v (.int .i64) p1)] (.tup [.v (.sl (.int .u64)) y.1, .v (.int .i64) y.2]) [] := by
  rw [m_nat_Shl] at h
  refine enterN [(.v (.sl (.int .u64)) p0), (.v (.int .i64) p1)] 60 Tryd.func137 rfl rfl rfl ?_
  refine T.seq ?_
  refine T.region ?_
  refine Run.go (Ev.assign rfl rfl) ?_
  refine Run.go (Ev.assign rfl rfl) ?_
  refine Run.nil ?_
  refine T.seq ?_
  refine T.seq ?_
  refine T.region ?_
  refine Run.go (Ev.move rfl rfl) ?_
  obtain ⟨x1, e2, h⟩ := bdS h
  refine Run.go (Ev.callC en158 (k_nat_shift e2) rfl (.cons .v .nil) rfl rfl) ?_
  refine Run.go (Ev.assign rfl rfl) ?_
  refine Run.nil ?_
  obtain ⟨v3, hv, h⟩ := bdS h
  refine T.cut (fun _ : Unit => (⟨[(0, .v (.sl (.int .u64)) p0), (1, .v (.int .i64) p1), (6, .v (.int .i64) x1), (19, .v .bool v3)], [], 60⟩ : St)) (fun _ => True) ?_ (fun _ _ => ?_)
  · replace h := hv
    clear hv
    refine T.region ?_
    refine Run.go (Ev.move rfl rfl) ?_
    refine Run.go (Ev.int rfl rfl rfl rfl trivial) ?_
    refine Run.go (Ev.move rfl rfl) ?_
    rcases boolCases (!decide (x1 = 0)) with hb4 | hb4
    · replace h := ifT hb4 h
      refine Run.offT rfl rfl rfl rfl hb4 ?_
      refine Run.offT rfl rfl rfl rfl hb4 ?_
      refine Run.offT rfl rfl rfl rfl hb4 ?_
      refine Run.go (Ev.pickT rfl hb4 rfl rfl) ?_
      refine Run.nil ?_
      cases h
      exact ⟨(), trivial, Ghost.only [] [0, 1, 6, 19] rfl⟩
    · replace h := ifF hb4 h
      refine Run.on rfl rfl rfl hb4 (Ev.move rfl rfl) ?_
      refine Run.on rfl rfl rfl hb4 (Ev.len X rfl rfl rfl rfl) ?_
      refine Run.on rfl rfl rfl hb4 (Ev.int rfl rfl rfl rfl trivial) ?_
      refine Run.go (Ev.pickF rfl hb4 rfl rfl) ?_
      refine Run.nil ?_
      cases h
      exact ⟨(), trivial, Ghost.only [] [0, 1, 6, 19] rfl⟩
  · refine T.cond rfl (fun hb5 => ?_) (fun hb5 => ?_)
    · replace h := ifT hb5 h
      refine T.seq ?_
      refine T.region ?_
      refine Run.go (Ev.move rfl rfl) ?_
      refine Run.go (Ev.assign rfl rfl) ?_
      refine Run.go (Ev.assign rfl rfl) ?_
      refine Run.nil ?_
      refine T.ret ?_
      cases h
      exact Fin.many X rfl (.cons (.tmp .nilv) (.cons (.tmp .v) .nil)) rfl
    · replace h := ifF hb5 h
      refine T.skip ?_
      refine T.seq ?_
      refine T.region ?_
      refine Run.go (Ev.move rfl rfl) ?_
      refine Run.go (Ev.len X rfl rfl rfl rfl) ?_
      refine Run.go (Ev.move rfl rfl) ?_
      obtain ⟨x6, e7, h⟩ := bdS h
      refine Run.go (Ev.e_qd e7 rfl rfl rfl) ?_
      refine Run.go (Ev.int rfl rfl rfl rfl trivial) ?_
      refine Run.go (Ev.int rfl rfl rfl rfl trivial) ?_
      obtain ⟨x8, e9, h⟩ := bdS h
      refine Run.go (Ev.e_mk X 1 e9 rfl rfl rfl rfl rfl rfl) ?_
      refine Run.go (Ev.assign rfl rfl) ?_
      refine Run.nil ?_
      obtain ⟨v10, hv, h⟩ := bdS h
      refine T.cut (fun _ : Unit => (⟨[(7, .own 1)], [(1, .arr 96 (.int .u64) v10)], 60⟩ : St)) (fun _ => True) ?_ (fun _ _ => ?_)
      · replace h := hv
        clear hv
        refine T.seq ?_
        refine T.region ?_
        refine Run.go (Ev.move rfl rfl) ?_
        refine Run.go (Ev.len X rfl rfl rfl rfl) ?_
        refine Run.go (Ev.move rfl rfl) ?_
        refine Run.nil ?_
        refine T.block ?_
        refine T.loop (LoopT.ghost (Ghost.only [(1, 1)] [1, 7, 28, 29, 30] rfl) (LoopT.run (fun q : Int × (List Int) => (⟨[(1, .v (.int .i64) p1), (7, .own 1), (28, .v (.sl (.int .u64)) p0), (29, .v (.int .i64) ((p0.length : Int) : Int)), (30, .v (.int .i64) q.1)], [(1, .arr 96 (.int .u64) q.2)], 60⟩ : St)) (fun q z1 h hz1 => ?_) h))
        obtain ⟨v11, v12⟩ := q
        dsimp only
        rw [m_nat_Shl_l1] at h
        refine T.seq ?_
        refine T.region ?_
        refine Run.go (Ev.int rfl rfl rfl rfl trivial) ?_
        refine Run.nil ?_
        refine T.seq ?_
        refine T.cond rfl (fun hb13 => ?_) (fun hb13 => ?_)
        · replace h := ifT hb13 h
          refine T.skip ?_
          refine T.seq ?_
          refine T.block ?_
          refine T.seq ?_
          refine T.region ?_
          refine Run.go (Ev.move rfl rfl) ?_
          obtain ⟨x14, e15, h⟩ := bdS h
          refine Run.go (Ev.e_rd X e15 rfl rfl rfl rfl) ?_
          refine Run.go (Ev.load X rfl rfl rfl) ?_
          refine Run.go (Ev.assign rfl rfl) ?_
          refine Run.go (Ev.assign rfl rfl) ?_
          refine Run.nil ?_
          refine T.seq ?_
          refine T.region ?_
          refine Run.go (Ev.move rfl rfl) ?_
          refine Run.go (Ev.move rfl rfl) ?_
          obtain ⟨x16, e17, h⟩ := bdS h
          refine Run.go (Ev.e_qd e17 rfl rfl rfl) ?_
          refine Run.go (Ev.int rfl rfl rfl rfl trivial) ?_
          refine Run.go (Ev.assign rfl rfl) ?_
          refine Run.nil ?_
          refine T.seq ?_
          refine T.region ?_
          refine Run.go (Ev.move rfl rfl) ?_
          refine Run.go (Ev.move rfl rfl) ?_
          obtain ⟨x18, e19, h⟩ := bdS h
          refine Run.go (Ev.e_rm e19 rfl rfl rfl) ?_
          obtain ⟨x20, e21, h⟩ := bdS h
          refine Run.go (Ev.e_sh e21 rfl rfl rfl) ?_
          refine Run.go (Ev.assign rfl rfl) ?_
          refine Run.nil ?_
          refine T.seq ?_
          refine T.region ?_
          refine Run.go (Ev.move rfl rfl) ?_
          refine Run.go (Ev.move rfl rfl) ?_
          obtain ⟨x22, e23, h⟩ := bdS h
          refine Run.go (Ev.e_rdO X e23 rfl rfl rfl rfl rfl) ?_
          refine Run.go (Ev.e_ldO X (rdS e23).2 rfl rfl rfl rfl) ?_
          refine Run.go (Ev.move rfl rfl) ?_
          obtain ⟨x24, e25, h⟩ := bdS h
          refine Run.go (Ev.e_rm e25 rfl rfl rfl) ?_
          refine Run.go (Ev.int rfl rfl rfl rfl trivial) ?_
          obtain ⟨j26, e27, h⟩ := bdS h
          refine Run.go (Ev.e_ixO X e27 rfl rfl rfl rfl rfl) ?_
          obtain ⟨x28, e29, h⟩ := ltS h
          refine Run.do_ (Ev.asO (Ev.storeEl X rfl rfl rfl rfl rfl) e29) ?_
          refine Run.nil ?_
          refine T.region ?_
          refine Run.go (Ev.move rfl rfl) ?_
          refine Run.go (Ev.move rfl rfl) ?_
          refine Run.go (Ev.int rfl rfl rfl rfl trivial) ?_
          refine Run.go (Ev.move rfl rfl) ?_
          obtain ⟨x30, e31, h⟩ := bdS h
          refine Run.go (Ev.e_sr e31 rfl rfl rfl) ?_
          obtain ⟨j32, e33, h⟩ := bdS h
          refine Run.go (Ev.e_ixO X e33 rfl rfl rfl rfl rfl) ?_
          obtain ⟨x34, e35, h⟩ := ltS h
          refine Run.do_ (Ev.asO (Ev.storeEl X rfl rfl rfl rfl rfl) e35) ?_
          refine Run.nil ?_
          refine T.region ?_
          refine Run.go (Ev.int rfl rfl rfl rfl trivial) ?_
          refine Run.go (Ev.move rfl rfl) ?_
          refine Run.nil ?_
          cases h
          exact LoopT.ghost (Ghost.only [(1, 1)] [1, 7, 28, 29, 30] rfl) hz1
        · replace h := ifF hb13 h
          refine T.exit ?_
          cases h
          cases hz1
          exact ⟨(), trivial, Ghost.only [(1, 1)] [7] rfl⟩
      · refine T.seq ?_
        refine T.region ?_
        refine Run.go (Ev.move rfl rfl) ?_
        refine Run.ghost (Ghost.firmAll (id := 1) rfl) ?_
        obtain ⟨x36, e37, h⟩ := bdS h
        refine Run.go (Ev.callC en112 (k_nat_trim e37) rfl (.cons .v .nil) rfl rfl) ?_
        refine Run.go (Ev.assign rfl rfl) ?_
        refine Run.go (Ev.assign rfl rfl) ?_
        refine Run.nil ?_
        refine T.ret ?_
        cases h
        exact Fin.many X rfl (.cons (.tmp .v) (.cons (.tmp .v) .nil)) rfl
end Go.Proofs.YthcmjcjgaebciaaDoor.AE
/- The code comes to the printed functions (printed by a program of ours). -/
namespace Go.Proofs.YthcmjcjgaebciaaDoor.AE
open Go Go.RowKit Go.Proofs.YthcmjcjgaebciaaDoor.AP
set_option linter.unusedVariables false
set_option maxRecDepth 20000
theorem en138 : Enters Tryd.prog 138 := ⟨_, Tryd.func138, rfl, rfl⟩
theorem k_divide_guess {p0 : (List Int)} {p1 : Int} {p2 : (List Int)} {y : Int} (h : m_divide_guess p0 p1 p2 = some y) : Spec Tryd.prog 138 [(.v (.sl (.int .u64)) p0), (.v (.int .i64) p1), (.v (.sl (.int .u64)) p2)] (.v (.int .u64) y) [] := by
  rw [m_divide_guess] at h
  refine enterN [(.v (.sl (.int .u64)) p0), (.v (.int .i64) p1), (.v (.sl (.int .u64)) p2)] 76 Tryd.func138 rfl rfl rfl ?_
  refine T.seq ?_
  refine T.region ?_
  refine Run.go (Ev.assign rfl rfl) ?_
  refine Run.nil ?_
  refine T.seq ?_
  refine T.region ?_
  refine Run.go (Ev.move rfl rfl) ?_
  refine Run.go (Ev.len X rfl rfl rfl rfl) ?_
  refine Run.go (Ev.assign rfl rfl) ?_
  refine Run.nil ?_
  refine T.seq ?_
  refine T.drawM [] [0, 0, 0, 6, 15, 31, 63, 0, 0, 0, 768, 1792, 3968, 8064, 16383, 32767] (by kernel_rfl) (by kernel_rfl) ?_
  refine RunD.w (fun _ => Ev.move rfl rfl) ?_
  refine RunD.w (fun _ => Ev.move rfl rfl) ?_
  refine RunD.w (fun _ => Ev.move rfl rfl) ?_
  refine RunD.w (fun _ => Ev.int rfl rfl rfl rfl trivial) ?_
  obtain ⟨x1, e2, h⟩ := bdS h
  refine RunD.a rfl rfl (Ev.e_rd X e2 rfl rfl rfl rfl) ?_
  refine RunD.a rfl rfl (Ev.load X rfl rfl rfl) ?_
  obtain ⟨x3, e4, h⟩ := bdS h
  refine RunD.w (fun _ => Ev.e_sh e4 rfl rfl rfl) ?_
  refine RunD.w (fun _ => Ev.move rfl rfl) ?_
  refine RunD.w (fun _ => Ev.move rfl rfl) ?_
  refine RunD.w (fun _ => Ev.move rfl rfl) ?_
  refine RunD.w (fun _ => Ev.int rfl rfl rfl rfl trivial) ?_
  refine RunD.w (fun _ => Ev.int rfl rfl rfl rfl trivial) ?_
  obtain ⟨x5, e6, h⟩ := bdS h
  refine RunD.a rfl rfl (Ev.e_rd X e6 rfl rfl rfl rfl) ?_
  refine RunD.a rfl rfl (Ev.load X rfl rfl rfl) ?_
  refine RunD.w (fun _ => Ev.int rfl rfl rfl rfl trivial) ?_
  refine RunD.w (fun _ => Ev.assign rfl rfl) ?_
  refine RunD.nil ?_
  refine T.seq ?_
  refine T.drawM [] [0, 0, 0, 4, 14, 30, 63, 0, 0, 0, 512, 1792, 3840, 8064, 127, 32767] (by kernel_rfl) (by kernel_rfl) ?_
  refine RunD.w (fun _ => Ev.move rfl rfl) ?_
  refine RunD.w (fun _ => Ev.move rfl rfl) ?_
  refine RunD.w (fun _ => Ev.move rfl rfl) ?_
  refine RunD.w (fun _ => Ev.int rfl rfl rfl rfl trivial) ?_
  obtain ⟨x7, e8, h⟩ := bdS h
  refine RunD.a rfl rfl (Ev.e_rd X e8 rfl rfl rfl rfl) ?_
  refine RunD.a rfl rfl (Ev.load X rfl rfl rfl) ?_
  obtain ⟨x9, e10, h⟩ := bdS h
  refine RunD.w (fun _ => Ev.e_qd e10 rfl rfl rfl) ?_
  refine RunD.w (fun _ => Ev.move rfl rfl) ?_
  refine RunD.w (fun _ => Ev.move rfl rfl) ?_
  refine RunD.w (fun _ => Ev.move rfl rfl) ?_
  refine RunD.w (fun _ => Ev.int rfl rfl rfl rfl trivial) ?_
  obtain ⟨x11, e12, h⟩ := bdS h
  refine RunD.a rfl rfl (Ev.e_rd X e12 rfl rfl rfl rfl) ?_
  refine RunD.a rfl rfl (Ev.load X rfl rfl rfl) ?_
  obtain ⟨x13, e14, h⟩ := bdS h
  refine RunD.w (fun _ => Ev.e_rm e14 rfl rfl rfl) ?_
  refine RunD.w (fun _ => Ev.assign rfl rfl) ?_
  refine RunD.w (fun _ => Ev.assign rfl rfl) ?_
  refine RunD.nil ?_
  obtain ⟨v15, hv, h⟩ := bdS h
  refine T.cut (fun _ : Unit => (⟨[(9, .v (.int .u64) v15)], [], 76⟩ : St)) (fun _ => True) ?_ (fun _ _ => ?_)
  · replace h := hv
    clear hv
    refine T.block ?_
    refine T.loop (LoopT.ghost (Ghost.only [] [0, 1, 2, 7, 9, 10] rfl) (LoopT.run (fun q : Int × Int => (⟨[(0, .v (.sl (.int .u64)) p0), (1, .v (.int .i64) p1), (2, .v (.sl (.int .u64)) p2), (7, .v (.int .i64) ((p2.length : Int) : Int)), (9, .v (.int .u64) q.1), (10, .v (.int .u64) q.2)], [], 76⟩ : St)) (fun q z1 h hz1 => ?_) h))
    obtain ⟨v16, v17⟩ := q
    dsimp only
    rw [m_divide_guess_l1] at h
    refine T.seq ?_
    obtain ⟨v18, hv, h⟩ := bdS h
    refine T.cut (fun _ : Unit => (⟨[(0, .v (.sl (.int .u64)) p0), (1, .v (.int .i64) p1), (2, .v (.sl (.int .u64)) p2), (7, .v (.int .i64) ((p2.length : Int) : Int)), (9, .v (.int .u64) v16), (10, .v (.int .u64) v17), (63, .v .bool v18)], [], 76⟩ : St)) (fun _ => True) ?_ (fun _ _ => ?_)
    · replace h := hv
      clear hv
      refine T.drawM [] [0, 1, 3, 7, 7, 7, 39, 119, 247, 511, 7, 1031, 7, 7, 7, 24583, 57351, 126983, 258055, 523271, 1048575, 2097151] (by kernel_rfl) (by kernel_rfl) ?_
      refine RunD.w (fun _ => Ev.move rfl rfl) ?_
      refine RunD.w (fun _ => Ev.int rfl rfl rfl rfl trivial) ?_
      refine RunD.w (fun _ => Ev.move rfl rfl) ?_
      rcases boolCases (decide (4294967296 ≤ v16)) with hb19 | hb19
      · replace h := ifT hb19 h
        refine RunD.offT rfl rfl rfl rfl hb19 ?_
        refine RunD.offT rfl rfl rfl rfl hb19 ?_
        refine RunD.offT rfl rfl rfl rfl hb19 ?_
        refine RunD.offT rfl rfl rfl rfl hb19 ?_
        refine RunD.offT rfl rfl rfl rfl hb19 ?_
        refine RunD.offT rfl rfl rfl rfl hb19 ?_
        refine RunD.offT rfl rfl rfl rfl hb19 ?_
        refine RunD.offT rfl rfl rfl rfl hb19 ?_
        refine RunD.offT rfl rfl rfl rfl hb19 ?_
        refine RunD.offT rfl rfl rfl rfl hb19 ?_
        refine RunD.offT rfl rfl rfl rfl hb19 ?_
        refine RunD.offT rfl rfl rfl rfl hb19 ?_
        refine RunD.offT rfl rfl rfl rfl hb19 ?_
        refine RunD.offT rfl rfl rfl rfl hb19 ?_
        refine RunD.offT rfl rfl rfl rfl hb19 ?_
        refine RunD.offT rfl rfl rfl rfl hb19 ?_
        refine RunD.offT rfl rfl rfl rfl hb19 ?_
        refine RunD.offT rfl rfl rfl rfl hb19 ?_
        refine RunD.w (fun _ => Ev.pickT rfl hb19 rfl rfl) ?_
        refine RunD.nil ?_
        cases h
        exact ⟨(), trivial, Ghost.only [] [0, 1, 2, 7, 9, 10, 63] rfl⟩
      · replace h := ifF hb19 h
        refine RunD.on rfl rfl rfl hb19 rfl (fun _ _ => Ev.move rfl rfl) ?_
        refine RunD.on rfl rfl rfl hb19 rfl (fun _ _ => Ev.move rfl rfl) ?_
        refine RunD.on rfl rfl rfl hb19 rfl (fun _ _ => Ev.move rfl rfl) ?_
        refine RunD.on rfl rfl rfl hb19 rfl (fun _ _ => Ev.int rfl rfl rfl rfl trivial) ?_
        obtain ⟨x20, e21, h⟩ := bdS h
        refine RunD.on rfl rfl rfl hb19 rfl (fun ô hô => by obtain rfl := hô.resolve_left (by decide); exact Ev.e_rd X e21 rfl rfl rfl rfl) ?_
        refine RunD.on rfl rfl rfl hb19 rfl (fun ô hô => by obtain rfl := hô.resolve_left (by decide); exact Ev.load X rfl rfl rfl) ?_
        refine RunD.on rfl rfl rfl hb19 rfl (fun _ _ => Ev.int rfl rfl rfl rfl trivial) ?_
        refine RunD.on rfl rfl rfl hb19 rfl (fun _ _ => Ev.move rfl rfl) ?_
        obtain ⟨x22, e23, h⟩ := bdS h
        refine RunD.on rfl rfl rfl hb19 rfl (fun _ _ => Ev.e_sh e23 rfl rfl rfl) ?_
        refine RunD.on rfl rfl rfl hb19 rfl (fun _ _ => Ev.move rfl rfl) ?_
        refine RunD.on rfl rfl rfl hb19 rfl (fun _ _ => Ev.move rfl rfl) ?_
        refine RunD.on rfl rfl rfl hb19 rfl (fun _ _ => Ev.move rfl rfl) ?_
        refine RunD.on rfl rfl rfl hb19 rfl (fun _ _ => Ev.int rfl rfl rfl rfl trivial) ?_
        refine RunD.on rfl rfl rfl hb19 rfl (fun _ _ => Ev.int rfl rfl rfl rfl trivial) ?_
        obtain ⟨x24, e25, h⟩ := bdS h
        refine RunD.on rfl rfl rfl hb19 rfl (fun ô hô => by obtain rfl := hô.resolve_left (by decide); exact Ev.e_rd X e25 rfl rfl rfl rfl) ?_
        refine RunD.on rfl rfl rfl hb19 rfl (fun ô hô => by obtain rfl := hô.resolve_left (by decide); exact Ev.load X rfl rfl rfl) ?_
        refine RunD.on rfl rfl rfl hb19 rfl (fun _ _ => Ev.int rfl rfl rfl rfl trivial) ?_
        refine RunD.on rfl rfl rfl hb19 rfl (fun _ _ => Ev.int rfl rfl rfl rfl trivial) ?_
        refine RunD.w (fun _ => Ev.pickF rfl hb19 rfl rfl) ?_
        refine RunD.nil ?_
        cases h
        exact ⟨(), trivial, Ghost.only [] [0, 1, 2, 7, 9, 10, 63] rfl⟩
    · refine T.cond rfl (fun hb26 => ?_) (fun hb26 => ?_)
      · replace h := ifT hb26 h
        refine T.skip ?_
        refine T.block ?_
        refine T.seq ?_
        refine T.region ?_
        refine Run.go (Ev.move rfl rfl) ?_
        refine Run.go (Ev.int rfl rfl rfl rfl trivial) ?_
        refine Run.go (Ev.assign rfl rfl) ?_
        refine Run.nil ?_
        refine T.seq ?_
        refine T.region ?_
        refine Run.go (Ev.move rfl rfl) ?_
        refine Run.go (Ev.move rfl rfl) ?_
        refine Run.go (Ev.move rfl rfl) ?_
        refine Run.go (Ev.int rfl rfl rfl rfl trivial) ?_
        obtain ⟨x27, e28, h⟩ := bdS h
        refine Run.go (Ev.e_rd X e28 rfl rfl rfl rfl) ?_
        refine Run.go (Ev.load X rfl rfl rfl) ?_
        refine Run.go (Ev.int rfl rfl rfl rfl trivial) ?_
        refine Run.go (Ev.assign rfl rfl) ?_
        refine Run.nil ?_
        refine T.seq ?_
        refine T.region ?_
        refine Run.go (Ev.move rfl rfl) ?_
        refine Run.go (Ev.int rfl rfl rfl rfl trivial) ?_
        refine Run.nil ?_
        refine T.cond rfl (fun hb29 => ?_) (fun hb29 => ?_)
        · replace h := ifT hb29 h
          refine T.exit ?_
          cases h
          cases hz1
          exact ⟨(), trivial, Ghost.only [] [9] rfl⟩
        · replace h := ifF hb29 h
          refine T.skip ?_
          cases h
          exact LoopT.ghost (Ghost.only [] [0, 1, 2, 7, 9, 10] rfl) hz1
      · replace h := ifF hb26 h
        refine T.exit ?_
        cases h
        cases hz1
        exact ⟨(), trivial, Ghost.only [] [9] rfl⟩
  · refine T.seq ?_
    refine T.region ?_
    refine Run.go (Ev.move rfl rfl) ?_
    refine Run.go (Ev.assign rfl rfl) ?_
    refine Run.nil ?_
    refine T.ret ?_
    cases h
    exact Fin.one rfl .v
theorem en159 : Enters Tryd.prog 159 := ⟨_, Tryd.func159, rfl, rfl⟩
theorem k_divide_at {p0 : (List Int)} {p1 : Int} {y : Int} (h : m_divide_at p0 p1 = some y) : Spec Tryd.prog 159 [(.v (.sl (.int .u64)) p0), (.v (.int .i64) p1)] (.v (.int .u64) y) [] := by
  rw [m_divide_at] at h
  refine enterN [(.v (.sl (.int .u64)) p0), (.v (.int .i64) p1)] 13 Tryd.func159 rfl rfl rfl ?_
  refine T.seq ?_
  refine T.region ?_
  refine Run.go (Ev.assign rfl rfl) ?_
  refine Run.nil ?_
  refine T.seq ?_
  refine T.seq ?_
  refine T.region ?_
  refine Run.go (Ev.move rfl rfl) ?_
  refine Run.go (Ev.move rfl rfl) ?_
  refine Run.go (Ev.len X rfl rfl rfl rfl) ?_
  refine Run.go (Ev.int rfl rfl rfl rfl trivial) ?_
  refine Run.nil ?_
  refine T.cond rfl (fun hb1 => ?_) (fun hb1 => ?_)
  · replace h := ifT hb1 h
    refine T.seq ?_
    refine T.region ?_
    refine Run.go (Ev.assign rfl rfl) ?_
    refine Run.nil ?_
    refine T.ret ?_
    cases h
    exact Fin.one rfl .v
  · replace h := ifF hb1 h
    refine T.skip ?_
    refine T.seq ?_
    refine T.region ?_
    refine Run.go (Ev.move rfl rfl) ?_
    refine Run.go (Ev.move rfl rfl) ?_
    obtain ⟨x2, e3, h⟩ := bdS h
    refine Run.go (Ev.e_rd X e3 rfl rfl rfl rfl) ?_
    refine Run.go (Ev.load X rfl rfl rfl) ?_
    refine Run.go (Ev.assign rfl rfl) ?_
    refine Run.nil ?_
    refine T.ret ?_
    cases h
    exact Fin.one rfl .v
theorem k_divide_take_M {p1 : Int} {p2 : (List Int)} {p3 : Int} {o1 : (List Int)} {y : Bool × (List Int)} (h : m_divide_take_M p1 p2 p3 o1 = some y) : SpecM Tryd.prog 139 [(.own 1), (.v (.int .i64) p1), (.v (.sl (.int .u64)) p2), (.v (.int .u64) p3)] [(1, .arr 96 (.int .u64) o1)] (.v .bool y.1) [(1, .arr 96 (.int .u64) y.2)] := by
  rw [m_divide_take_M] at h
  refine SpecM.enter 100000 [(.own 1), (.v (.int .i64) p1), (.v (.sl (.int .u64)) p2), (.v (.int .u64) p3)] 48 Tryd.func139 rfl rfl rfl rfl (fun L => ?_)
  refine T.seq ?_
  refine T.region ?_
  refine Run.go (Ev.assign rfl rfl) ?_
  refine Run.nil ?_
  refine T.seq ?_
  refine T.region ?_
  refine Run.go (Ev.assign rfl rfl) ?_
  refine Run.go (Ev.assign rfl rfl) ?_
  refine Run.nil ?_
  obtain ⟨⟨v1, v2⟩, hv, h⟩ := bdS h
  refine T.cut (fun _ : Unit => (⟨[(10, .v (.int .u64) v1)], [(1, .arr 96 (.int .u64) v2), (100001, .place 1 (L 1).1 (L 1).2)], 48⟩ : St)) (fun _ => True) ?_ (fun _ _ => ?_)
  · replace h := hv
    clear hv
    refine T.seq ?_
    refine T.region ?_
    refine Run.go (Ev.move rfl rfl) ?_
    refine Run.go (Ev.len X rfl rfl rfl rfl) ?_
    refine Run.go (Ev.int rfl rfl rfl rfl trivial) ?_
    refine Run.go (Ev.move rfl rfl) ?_
    refine Run.nil ?_
    refine T.block ?_
    refine T.loop (LoopT.ghost (Ghost.only [(1, 1), (100001, 100001)] [0, 1, 2, 3, 9, 10, 15, 16] rfl) (LoopT.run (fun q : Int × Int × Int × (List Int) => (⟨[(0, .own 1), (1, .v (.int .i64) p1), (2, .v (.sl (.int .u64)) p2), (3, .v (.int .u64) p3), (9, .v (.int .u64) q.1), (10, .v (.int .u64) q.2.1), (15, .v (.int .i64) (wi64 ((p2.length : Int) + 1) : Int)), (16, .v (.int .i64) q.2.2.1)], [(1, .arr 96 (.int .u64) q.2.2.2), (100001, .place 1 (L 1).1 (L 1).2)], 48⟩ : St)) (fun q z1 h hz1 => ?_) h))
    obtain ⟨v3, v4, v5, v6⟩ := q
    dsimp only
    rw [m_divide_take_M_l1] at h
    refine T.seq ?_
    refine T.region ?_
    refine Run.go (Ev.int rfl rfl rfl rfl trivial) ?_
    refine Run.nil ?_
    refine T.seq ?_
    refine T.cond rfl (fun hb7 => ?_) (fun hb7 => ?_)
    · replace h := ifT hb7 h
      refine T.skip ?_
      refine T.seq ?_
      refine T.block ?_
      refine T.seq ?_
      refine T.region ?_
      refine Run.go (Ev.move rfl rfl) ?_
      refine Run.go (Ev.assign rfl rfl) ?_
      refine Run.nil ?_
      refine T.seq ?_
      refine T.region ?_
      refine Run.go (Ev.assign rfl rfl) ?_
      refine Run.nil ?_
      refine T.seq ?_
      refine T.region ?_
      refine Run.go (Ev.move rfl rfl) ?_
      refine Run.go (Ev.move rfl rfl) ?_
      refine Run.go (Ev.move rfl rfl) ?_
      obtain ⟨x8, e9, h⟩ := bdS h
      refine Run.go (Ev.callC en159 (k_divide_at e9) rfl (.cons .v (.cons .v .nil)) rfl rfl) ?_
      refine Run.go (Ev.move rfl rfl) ?_
      obtain ⟨x10, e11, h⟩ := bdS h
      refine Run.go (Ev.callC en110 (k_limb_Mul e11) rfl (.cons .v (.cons .v (.cons .v (.cons .v .nil)))) rfl rfl) ?_
      refine Run.go (Ev.move rfl rfl) ?_
      refine Run.go (Ev.extract rfl rfl rfl) ?_
      refine Run.go (Ev.extract rfl rfl rfl) ?_
      refine Run.go (Ev.assign rfl rfl) ?_
      refine Run.go (Ev.assign rfl rfl) ?_
      refine Run.nil ?_
      refine T.region ?_
      refine Run.go (Ev.move rfl rfl) ?_
      refine Run.go (Ev.move rfl rfl) ?_
      refine Run.go (Ev.move rfl rfl) ?_
      refine Run.go (Ev.int rfl rfl rfl rfl trivial) ?_
      refine Run.go (Ev.move rfl rfl) ?_
      refine Run.go (Ev.move rfl rfl) ?_
      refine Run.go (Ev.move rfl rfl) ?_
      refine Run.go (Ev.int rfl rfl rfl rfl trivial) ?_
      obtain ⟨x12, e13, h⟩ := bdS h
      refine Run.go (Ev.e_rdO X e13 rfl rfl rfl rfl rfl) ?_
      refine Run.go (Ev.e_ldO X (rdS e13).2 rfl rfl rfl rfl) ?_
      refine Run.go (Ev.move rfl rfl) ?_
      refine Run.go (Ev.move rfl rfl) ?_
      obtain ⟨x14, e15, h⟩ := bdS h
      refine Run.go (Ev.callC en125 (k_limb_Sub e15) rfl (.cons .v (.cons .v (.cons .v .nil))) rfl rfl) ?_
      refine Run.go (Ev.move rfl rfl) ?_
      refine Run.go (Ev.extract rfl rfl rfl) ?_
      refine Run.go (Ev.extract rfl rfl rfl) ?_
      obtain ⟨j16, e17, h⟩ := bdS h
      refine Run.go (Ev.e_ixO X e17 rfl rfl rfl rfl rfl) ?_
      obtain ⟨x18, e19, h⟩ := ltS h
      refine Run.do_ (Ev.asO (Ev.storeEl X rfl rfl rfl rfl rfl) e19) ?_
      refine Run.go (Ev.assign rfl rfl) ?_
      refine Run.nil ?_
      refine T.region ?_
      refine Run.go (Ev.int rfl rfl rfl rfl trivial) ?_
      refine Run.go (Ev.move rfl rfl) ?_
      refine Run.nil ?_
      cases h
      exact LoopT.ghost (Ghost.only [(1, 1), (100001, 100001)] [0, 1, 2, 3, 9, 10, 15, 16] rfl) hz1
    · replace h := ifF hb7 h
      refine T.exit ?_
      cases h
      cases hz1
      exact ⟨(), trivial, Ghost.only [(1, 1), (100001, 100001)] [10] rfl⟩
  · refine T.seq ?_
    refine T.region ?_
    refine Run.go (Ev.move rfl rfl) ?_
    refine Run.go (Ev.int rfl rfl rfl rfl trivial) ?_
    refine Run.go (Ev.assign rfl rfl) ?_
    refine Run.nil ?_
    refine T.ret ?_
    obtain ⟨_, eL1, h⟩ := bdS h
    cases h
    exact FinM.of 100000 [(1, 1)] (inlR.one' (X := X) rfl (.tmp rfl)) rfl rfl rfl rfl ⟨(.inl ⟨rfl, _, rfl, .arr (elnS eL1), fun _ => rfl⟩), trivial⟩
theorem k_divide_give_M {p1 : Int} {p2 : (List Int)} {o1 : (List Int)} {y : (List Int)} (h : m_divide_give_M p1 p2 o1 = some y) : SpecM Tryd.prog 140 [(.own 1), (.v (.int .i64) p1), (.v (.sl (.int .u64)) p2)] [(1, .arr 96 (.int .u64) o1)] (.tup []) [(1, .arr 96 (.int .u64) y)] := by
  rw [m_divide_give_M] at h
  refine SpecM.enter 100000 [(.own 1), (.v (.int .i64) p1), (.v (.sl (.int .u64)) p2)] 34 Tryd.func140 rfl rfl rfl rfl (fun L => ?_)
  refine T.seq ?_
  refine T.region ?_
  refine Run.go (Ev.assign rfl rfl) ?_
  refine Run.nil ?_
  refine T.seq ?_
  refine T.region ?_
  refine Run.go (Ev.move rfl rfl) ?_
  refine Run.go (Ev.len X rfl rfl rfl rfl) ?_
  refine Run.go (Ev.int rfl rfl rfl rfl trivial) ?_
  refine Run.go (Ev.move rfl rfl) ?_
  refine Run.nil ?_
  refine T.block ?_
  refine T.loop (LoopT.ghost (Ghost.only [(1, 1), (100001, 100001)] [0, 1, 2, 6, 10, 11] rfl) (LoopT.run (fun q : Int × Int × (List Int) => (⟨[(0, .own 1), (1, .v (.int .i64) p1), (2, .v (.sl (.int .u64)) p2), (6, .v (.int .u64) q.1), (10, .v (.int .i64) (wi64 ((p2.length : Int) + 1) : Int)), (11, .v (.int .i64) q.2.1)], [(1, .arr 96 (.int .u64) q.2.2), (100001, .place 1 (L 1).1 (L 1).2)], 34⟩ : St)) (fun q z1 h hz1 => ?_) h))
  obtain ⟨v1, v2, v3⟩ := q
  dsimp only
  rw [m_divide_give_M_l1] at h
  refine T.seq ?_
  refine T.region ?_
  refine Run.go (Ev.int rfl rfl rfl rfl trivial) ?_
  refine Run.nil ?_
  refine T.seq ?_
  refine T.cond rfl (fun hb4 => ?_) (fun hb4 => ?_)
  · replace h := ifT hb4 h
    refine T.skip ?_
    refine T.seq ?_
    refine T.block ?_
    refine T.seq ?_
    refine T.region ?_
    refine Run.go (Ev.move rfl rfl) ?_
    refine Run.go (Ev.assign rfl rfl) ?_
    refine Run.nil ?_
    refine T.drawM [19] [0, 0, 0, 6, 0, 0, 0, 96, 240, 496, 0, 0, 3072, 0, 16368, 32752, 65520, 65520, 131071, 393215, 1048575] (by kernel_rfl) (by kernel_rfl) ?_
    refine RunD.w (fun _ => Ev.move rfl rfl) ?_
    refine RunD.w (fun _ => Ev.move rfl rfl) ?_
    refine RunD.w (fun _ => Ev.move rfl rfl) ?_
    refine RunD.w (fun _ => Ev.int rfl rfl rfl rfl trivial) ?_
    refine RunD.w (fun _ => Ev.move rfl rfl) ?_
    refine RunD.w (fun _ => Ev.move rfl rfl) ?_
    refine RunD.w (fun _ => Ev.move rfl rfl) ?_
    refine RunD.w (fun _ => Ev.int rfl rfl rfl rfl trivial) ?_
    obtain ⟨x5, e6, h⟩ := bdS h
    refine RunD.a rfl rfl (Ev.e_rdO X e6 rfl rfl rfl rfl rfl) ?_
    refine RunD.a rfl rfl (Ev.e_ldO X (rdS e6).2 rfl rfl rfl rfl) ?_
    refine RunD.w (fun _ => Ev.move rfl rfl) ?_
    refine RunD.w (fun _ => Ev.move rfl rfl) ?_
    obtain ⟨x7, e8, h⟩ := bdS h
    refine RunD.a rfl rfl (Ev.callC en159 (k_divide_at e8) rfl (.cons .v (.cons .v .nil)) rfl rfl) ?_
    refine RunD.w (fun _ => Ev.move rfl rfl) ?_
    obtain ⟨x9, e10, h⟩ := bdS h
    refine RunD.a rfl rfl (Ev.callC en109 (k_limb_Add e10) rfl (.cons .v (.cons .v (.cons .v .nil))) rfl rfl) ?_
    refine RunD.w (fun _ => Ev.move rfl rfl) ?_
    refine RunD.w (fun _ => Ev.extract rfl rfl rfl) ?_
    refine RunD.w (fun _ => Ev.extract rfl rfl rfl) ?_
    obtain ⟨j11, e12, h⟩ := bdS h
    refine RunD.a rfl rfl (Ev.e_ixO X e12 rfl rfl rfl rfl rfl) ?_
    obtain ⟨x13, e14, h⟩ := ltS h
    refine RunD.mN rfl (Ev.asO (Ev.storeEl X rfl rfl rfl rfl rfl) e14) ?_
    refine RunD.w (fun _ => Ev.assign rfl rfl) ?_
    refine RunD.nil ?_
    refine T.region ?_
    refine Run.go (Ev.int rfl rfl rfl rfl trivial) ?_
    refine Run.go (Ev.move rfl rfl) ?_
    refine Run.nil ?_
    cases h
    exact LoopT.ghost (Ghost.only [(1, 1), (100001, 100001)] [0, 1, 2, 6, 10, 11] rfl) hz1
  · replace h := ifF hb4 h
    refine T.exit ?_
    obtain ⟨_, eL1, h⟩ := bdS h
    cases h
    cases hz1
    exact FinM.of 100000 [(1, 1)] (inlR.many' (X := X) rfl .nil rfl) rfl rfl rfl rfl ⟨(.inl ⟨rfl, _, rfl, .arr (elnS eL1), fun _ => rfl⟩), trivial⟩
theorem en141 : Enters Tryd.prog 141 := ⟨_, Tryd.func141, rfl, rfl⟩
theorem k_nat_Shr {p0 : (List Int)} {p1 : Int} {y : (List Int) × Int} (h : m_nat_Shr p0 p1 = some y) : Spec Tryd.prog 141 [(.v (.sl (.int .u64)) p0), (.v (.int .i64) p1)] (.tup [.v (.sl (.int .u64)) y.1, .v (.int .i64) y.2]) [] := by
  rw [m_nat_Shr] at h
  refine enterN [(.v (.sl (.int .u64)) p0), (.v (.int .i64) p1)] 57 Tryd.func141 rfl rfl rfl ?_
  refine T.seq ?_
  refine T.region ?_
  refine Run.go (Ev.assign rfl rfl) ?_
  refine Run.go (Ev.assign rfl rfl) ?_
  refine Run.nil ?_
  refine T.seq ?_
  refine T.seq ?_
  refine T.region ?_
  refine Run.go (Ev.move rfl rfl) ?_
  obtain ⟨x1, e2, h⟩ := bdS h
  refine Run.go (Ev.callC en158 (k_nat_shift e2) rfl (.cons .v .nil) rfl rfl) ?_
  refine Run.go (Ev.assign rfl rfl) ?_
  refine Run.nil ?_
  obtain ⟨v3, hv, h⟩ := bdS h
  refine T.cut (fun _ : Unit => (⟨[(0, .v (.sl (.int .u64)) p0), (1, .v (.int .i64) p1), (6, .v (.int .i64) x1), (20, .v .bool v3)], [], 57⟩ : St)) (fun _ => True) ?_ (fun _ _ => ?_)
  · replace h := hv
    clear hv
    refine T.region ?_
    refine Run.go (Ev.move rfl rfl) ?_
    refine Run.go (Ev.int rfl rfl rfl rfl trivial) ?_
    refine Run.go (Ev.move rfl rfl) ?_
    rcases boolCases (!decide (x1 = 0)) with hb4 | hb4
    · replace h := ifT hb4 h
      refine Run.offT rfl rfl rfl rfl hb4 ?_
      refine Run.offT rfl rfl rfl rfl hb4 ?_
      refine Run.offT rfl rfl rfl rfl hb4 ?_
      refine Run.offT rfl rfl rfl rfl hb4 ?_
      refine Run.offT rfl rfl rfl rfl hb4 ?_
      refine Run.go (Ev.pickT rfl hb4 rfl rfl) ?_
      refine Run.nil ?_
      cases h
      exact ⟨(), trivial, Ghost.only [] [0, 1, 6, 20] rfl⟩
    · replace h := ifF hb4 h
      refine Run.on rfl rfl rfl hb4 (Ev.move rfl rfl) ?_
      obtain ⟨x5, e6, h⟩ := bdS h
      refine Run.on rfl rfl rfl hb4 (Ev.e_qd e6 rfl rfl rfl) ?_
      refine Run.on rfl rfl rfl hb4 (Ev.move rfl rfl) ?_
      refine Run.on rfl rfl rfl hb4 (Ev.len X rfl rfl rfl rfl) ?_
      refine Run.on rfl rfl rfl hb4 (Ev.int rfl rfl rfl rfl trivial) ?_
      refine Run.go (Ev.pickF rfl hb4 rfl rfl) ?_
      refine Run.nil ?_
      cases h
      exact ⟨(), trivial, Ghost.only [] [0, 1, 6, 20] rfl⟩
  · refine T.cond rfl (fun hb7 => ?_) (fun hb7 => ?_)
    · replace h := ifT hb7 h
      refine T.seq ?_
      refine T.region ?_
      refine Run.go (Ev.move rfl rfl) ?_
      refine Run.go (Ev.assign rfl rfl) ?_
      refine Run.go (Ev.assign rfl rfl) ?_
      refine Run.nil ?_
      refine T.ret ?_
      cases h
      exact Fin.many X rfl (.cons (.tmp .nilv) (.cons (.tmp .v) .nil)) rfl
    · replace h := ifF hb7 h
      refine T.skip ?_
      refine T.seq ?_
      refine T.region ?_
      refine Run.go (Ev.move rfl rfl) ?_
      refine Run.go (Ev.len X rfl rfl rfl rfl) ?_
      refine Run.go (Ev.move rfl rfl) ?_
      obtain ⟨x8, e9, h⟩ := bdS h
      refine Run.go (Ev.e_qd e9 rfl rfl rfl) ?_
      refine Run.go (Ev.int rfl rfl rfl rfl trivial) ?_
      obtain ⟨x10, e11, h⟩ := bdS h
      refine Run.go (Ev.e_mk X 1 e11 rfl rfl rfl rfl rfl rfl) ?_
      refine Run.go (Ev.assign rfl rfl) ?_
      refine Run.nil ?_
      obtain ⟨v12, hv, h⟩ := bdS h
      refine T.cut (fun _ : Unit => (⟨[(7, .own 1)], [(1, .arr 96 (.int .u64) v12)], 57⟩ : St)) (fun _ => True) ?_ (fun _ _ => ?_)
      · replace h := hv
        clear hv
        refine T.seq ?_
        refine T.region ?_
        refine Run.go (Ev.move rfl rfl) ?_
        refine Run.go (Ev.e_lenO X rfl rfl rfl rfl) ?_
        refine Run.go (Ev.move rfl rfl) ?_
        refine Run.nil ?_
        refine T.block ?_
        refine T.loop (LoopT.ghost (Ghost.only [(1, 1)] [0, 1, 7, 29, 30] rfl) (LoopT.run (fun q : Int × (List Int) => (⟨[(0, .v (.sl (.int .u64)) p0), (1, .v (.int .i64) p1), (7, .own 1), (29, .v (.int .i64) ((x10.length : Int) : Int)), (30, .v (.int .i64) q.1)], [(1, .arr 96 (.int .u64) q.2)], 57⟩ : St)) (fun q z1 h hz1 => ?_) h))
        obtain ⟨v13, v14⟩ := q
        dsimp only
        rw [m_nat_Shr_l1] at h
        refine T.seq ?_
        refine T.region ?_
        refine Run.go (Ev.int rfl rfl rfl rfl trivial) ?_
        refine Run.nil ?_
        refine T.seq ?_
        refine T.cond rfl (fun hb15 => ?_) (fun hb15 => ?_)
        · replace h := ifT hb15 h
          refine T.skip ?_
          refine T.seq ?_
          refine T.block ?_
          refine T.seq ?_
          refine T.region ?_
          refine Run.go (Ev.move rfl rfl) ?_
          refine Run.go (Ev.assign rfl rfl) ?_
          refine Run.nil ?_
          refine T.seq ?_
          refine T.region ?_
          refine Run.go (Ev.move rfl rfl) ?_
          refine Run.go (Ev.move rfl rfl) ?_
          obtain ⟨x16, e17, h⟩ := bdS h
          refine Run.go (Ev.e_qd e17 rfl rfl rfl) ?_
          refine Run.go (Ev.int rfl rfl rfl rfl trivial) ?_
          refine Run.go (Ev.assign rfl rfl) ?_
          refine Run.nil ?_
          refine T.drawM [17] [0, 0, 0, 0, 12, 28, 0, 0, 128, 448, 960, 2044, 0, 4096, 16380, 32764, 65535, 131071] (by kernel_rfl) (by kernel_rfl) ?_
          refine RunD.w (fun _ => Ev.move rfl rfl) ?_
          refine RunD.w (fun _ => Ev.move rfl rfl) ?_
          refine RunD.w (fun _ => Ev.move rfl rfl) ?_
          refine RunD.w (fun _ => Ev.move rfl rfl) ?_
          obtain ⟨x18, e19, h⟩ := bdS h
          refine RunD.a rfl rfl (Ev.e_rd X e19 rfl rfl rfl rfl) ?_
          refine RunD.a rfl rfl (Ev.load X rfl rfl rfl) ?_
          refine RunD.w (fun _ => Ev.move rfl rfl) ?_
          refine RunD.w (fun _ => Ev.move rfl rfl) ?_
          refine RunD.w (fun _ => Ev.int rfl rfl rfl rfl trivial) ?_
          obtain ⟨x20, e21, h⟩ := bdS h
          refine RunD.a rfl rfl (Ev.callC en122 (k_nat_at e21) rfl (.cons .v (.cons .v .nil)) rfl rfl) ?_
          obtain ⟨x22, e23, h⟩ := bdS h
          refine RunD.w (fun _ => Ev.e_sh e23 rfl rfl rfl) ?_
          refine RunD.w (fun _ => Ev.int rfl rfl rfl rfl trivial) ?_
          refine RunD.w (fun _ => Ev.move rfl rfl) ?_
          obtain ⟨x24, e25, h⟩ := bdS h
          refine RunD.w (fun _ => Ev.e_rm e25 rfl rfl rfl) ?_
          obtain ⟨x26, e27, h⟩ := bdS h
          refine RunD.w (fun _ => Ev.e_sr e27 rfl rfl rfl) ?_
          obtain ⟨x28, e29, h⟩ := bdS h
          refine RunD.w (fun _ => Ev.e_rm e29 rfl rfl rfl) ?_
          obtain ⟨j30, e31, h⟩ := bdS h
          refine RunD.a rfl rfl (Ev.e_ixO X e31 rfl rfl rfl rfl rfl) ?_
          obtain ⟨x32, e33, h⟩ := ltS h
          refine RunD.mN rfl (Ev.asO (Ev.storeEl X rfl rfl rfl rfl rfl) e33) ?_
          refine RunD.nil ?_
          refine T.region ?_
          refine Run.go (Ev.int rfl rfl rfl rfl trivial) ?_
          refine Run.go (Ev.move rfl rfl) ?_
          refine Run.nil ?_
          cases h
          exact LoopT.ghost (Ghost.only [(1, 1)] [0, 1, 7, 29, 30] rfl) hz1
        · replace h := ifF hb15 h
          refine T.exit ?_
          cases h
          cases hz1
          exact ⟨(), trivial, Ghost.only [(1, 1)] [7] rfl⟩
      · refine T.seq ?_
        refine T.region ?_
        refine Run.go (Ev.move rfl rfl) ?_
        refine Run.ghost (Ghost.firmAll (id := 1) rfl) ?_
        obtain ⟨x34, e35, h⟩ := bdS h
        refine Run.go (Ev.callC en112 (k_nat_trim e35) rfl (.cons .v .nil) rfl rfl) ?_
        refine Run.go (Ev.assign rfl rfl) ?_
        refine Run.go (Ev.assign rfl rfl) ?_
        refine Run.nil ?_
        refine T.ret ?_
        cases h
        exact Fin.many X rfl (.cons (.tmp .v) (.cons (.tmp .v) .nil)) rfl
theorem en124 : Enters Tryd.prog 124 := ⟨_, Tryd.func124, rfl, rfl⟩
theorem k_divide_knuth {p0 : (List Int)} {p1 : (List Int)} {y : (List Int) × (List Int)} (h : m_divide_knuth p0 p1 = some y) : Spec Tryd.prog 124 [(.v (.sl (.int .u64)) p0), (.v (.sl (.int .u64)) p1)] (.tup [.v (.sl (.int .u64)) y.1, .v (.sl (.int .u64)) y.2]) [] := by
  rw [m_divide_knuth] at h
  refine enterN [(.v (.sl (.int .u64)) p0), (.v (.sl (.int .u64)) p1)] 104 Tryd.func124 rfl rfl rfl ?_
  refine T.seq ?_
  refine T.region ?_
  refine Run.go (Ev.assign rfl rfl) ?_
  refine Run.go (Ev.assign rfl rfl) ?_
  refine Run.nil ?_
  refine T.seq ?_
  refine T.region ?_
  refine Run.go (Ev.move rfl rfl) ?_
  refine Run.go (Ev.move rfl rfl) ?_
  refine Run.go (Ev.len X rfl rfl rfl rfl) ?_
  refine Run.go (Ev.int rfl rfl rfl rfl trivial) ?_
  obtain ⟨x1, e2, h⟩ := bdS h
  refine Run.go (Ev.e_rd X e2 rfl rfl rfl rfl) ?_
  refine Run.go (Ev.load X rfl rfl rfl) ?_
  obtain ⟨x3, e4, h⟩ := bdS h
  refine Run.go (Ev.callC en136 (k_limb_Bits e4) rfl (.cons .v .nil) rfl rfl) ?_
  refine Run.go (Ev.int rfl rfl rfl rfl trivial) ?_
  refine Run.go (Ev.assign rfl rfl) ?_
  refine Run.nil ?_
  refine T.seq ?_
  refine T.region ?_
  refine Run.go (Ev.move rfl rfl) ?_
  refine Run.go (Ev.move rfl rfl) ?_
  obtain ⟨x5, e6, h⟩ := bdS h
  refine Run.go (Ev.callC en137 (k_nat_Shl e6) rfl (.cons .v (.cons .v .nil)) rfl rfl) ?_
  refine Run.go (Ev.move rfl rfl) ?_
  refine Run.go (Ev.extract rfl rfl rfl) ?_
  refine Run.go (Ev.extract rfl rfl rfl) ?_
  refine Run.go (Ev.assign rfl rfl) ?_
  refine Run.go (Ev.assign rfl rfl) ?_
  refine Run.nil ?_
  refine T.seq ?_
  refine T.region ?_
  refine Run.go (Ev.move rfl rfl) ?_
  refine Run.go (Ev.len X rfl rfl rfl rfl) ?_
  refine Run.go (Ev.int rfl rfl rfl rfl trivial) ?_
  obtain ⟨x7, e8, h⟩ := bdS h
  refine Run.go (Ev.e_mk X 1 e8 rfl rfl rfl rfl rfl rfl) ?_
  refine Run.go (Ev.assign rfl rfl) ?_
  refine Run.nil ?_
  refine T.seq ?_
  refine T.region ?_
  refine Run.go (Ev.move rfl rfl) ?_
  refine Run.go (Ev.move rfl rfl) ?_
  obtain ⟨x9, e10, h⟩ := bdS h
  refine Run.go (Ev.callC en137 (k_nat_Shl e10) rfl (.cons .v (.cons .v .nil)) rfl rfl) ?_
  refine Run.go (Ev.move rfl rfl) ?_
  refine Run.go (Ev.extract rfl rfl rfl) ?_
  refine Run.go (Ev.extract rfl rfl rfl) ?_
  refine Run.go (Ev.assign rfl rfl) ?_
  refine Run.go (Ev.assign rfl rfl) ?_
  refine Run.nil ?_
  refine T.seq ?_
  refine T.region ?_
  refine Run.go (Ev.move rfl rfl) ?_
  refine Run.go (Ev.move rfl rfl) ?_
  refine Run.ghost (Ghost.whole (v := 42) rfl rfl) ?_
  obtain ⟨x11, e12, h⟩ := bdS h
  refine Run.go (Ev.e_cp X e12 rfl rfl rfl .v rfl rfl) ?_
  refine Run.nil ?_
  refine T.seq ?_
  refine T.region ?_
  refine Run.go (Ev.move rfl rfl) ?_
  refine Run.go (Ev.len X rfl rfl rfl rfl) ?_
  refine Run.go (Ev.move rfl rfl) ?_
  refine Run.go (Ev.len X rfl rfl rfl rfl) ?_
  refine Run.go (Ev.int rfl rfl rfl rfl trivial) ?_
  refine Run.go (Ev.int rfl rfl rfl rfl trivial) ?_
  obtain ⟨x13, e14, h⟩ := bdS h
  refine Run.go (Ev.e_mk X 2 e14 rfl rfl rfl rfl rfl rfl) ?_
  refine Run.go (Ev.assign rfl rfl) ?_
  refine Run.nil ?_
  obtain ⟨⟨v15, v16⟩, hv, h⟩ := bdS h
  refine T.cut (fun _ : Unit => (⟨[(6, .v (.int .i64) (wi64 (32 - x3) : Int)), (9, .own 1), (12, .own 2)], [(1, .arr 96 (.int .u64) v15), (2, .arr 96 (.int .u64) v16)], 104⟩ : St)) (fun _ => True) ?_ (fun _ _ => ?_)
  · replace h := hv
    clear hv
    refine T.seq ?_
    refine T.region ?_
    refine Run.go (Ev.move rfl rfl) ?_
    refine Run.go (Ev.len X rfl rfl rfl rfl) ?_
    refine Run.go (Ev.move rfl rfl) ?_
    refine Run.go (Ev.len X rfl rfl rfl rfl) ?_
    refine Run.go (Ev.int rfl rfl rfl rfl trivial) ?_
    obtain ⟨x17, e18, h⟩ := ltS h
    refine Run.go (Ev.avs (Ev.assign rfl rfl) e18) ?_
    refine Run.nil ?_
    refine T.block ?_
    refine T.loop (LoopT.ghost (Ghost.only [(1, 1), (2, 2)] [6, 7, 9, 12, 13] rfl) (LoopT.run (fun q : Int × (List Int) × (List Int) => (⟨[(6, .v (.int .i64) (wi64 (32 - x3) : Int)), (7, .v (.sl (.int .u64)) x5.1), (9, .own 1), (12, .own 2), (13, .v (.int .i64) q.1)], [(1, .arr 96 (.int .u64) q.2.1), (2, .arr 96 (.int .u64) q.2.2)], 104⟩ : St)) (fun q z1 h hz1 => ?_) h))
    obtain ⟨v19, v20, v21⟩ := q
    dsimp only
    rw [m_divide_knuth_l1] at h
    refine T.seq ?_
    refine T.seq ?_
    refine T.region ?_
    refine Run.go (Ev.move rfl rfl) ?_
    refine Run.go (Ev.int rfl rfl rfl rfl trivial) ?_
    refine Run.nil ?_
    refine T.cond rfl (fun hb22 => ?_) (fun hb22 => ?_)
    · replace h := ifT hb22 h
      refine T.skip ?_
      obtain ⟨⟨v23, v24⟩, hv, h⟩ := bdS h
      refine T.cut (fun _ : Unit => (⟨[(6, .v (.int .i64) (wi64 (32 - x3) : Int)), (7, .v (.sl (.int .u64)) x5.1), (9, .own 1), (12, .own 2), (13, .v (.int .i64) v19)], [(1, .arr 96 (.int .u64) v23), (2, .arr 96 (.int .u64) v24)], 104⟩ : St)) (fun _ => True) ?_ (fun _ _ => ?_)
      · replace h := hv
        clear hv
        refine T.block ?_
        refine T.seq ?_
        refine T.region ?_
        refine Run.go (Ev.move rfl rfl) ?_
        refine Run.go (Ev.move rfl rfl) ?_
        refine Run.go (Ev.move rfl rfl) ?_
        refine Run.go (Ev.move rfl rfl) ?_
        refine Run.go (Ev.move rfl rfl) ?_
        obtain ⟨x25, e26, h⟩ := bdS h
        refine Run.go (Ev.lend rfl (.cons (.own rfl) (.cons .v (.cons .v .nil))) en138 (k_divide_guess e26) rfl rfl) ?_
        obtain ⟨j27, e28, h⟩ := bdS h
        refine Run.go (Ev.e_ixO X e28 rfl rfl rfl rfl rfl) ?_
        obtain ⟨x29, e30, h⟩ := ltS h
        refine Run.do_ (Ev.asO (Ev.storeEl X rfl rfl rfl rfl rfl) e30) ?_
        refine Run.nil ?_
        refine T.seq ?_
        refine T.region ?_
        refine Run.go (Ev.move rfl rfl) ?_
        refine Run.go (Ev.move rfl rfl) ?_
        refine Run.go (Ev.move rfl rfl) ?_
        refine Run.go (Ev.move rfl rfl) ?_
        refine Run.go (Ev.move rfl rfl) ?_
        obtain ⟨x31, e32, h⟩ := bdS h
        refine Run.go (Ev.e_rdO X e32 rfl rfl rfl rfl rfl) ?_
        refine Run.go (Ev.e_ldO X (rdS e32).2 rfl rfl rfl rfl) ?_
        obtain ⟨x34, e33, h⟩ := bdS h
        refine Run.go (Ev.w1 (Ev.lendM [(1, 1)] [(1, 1)] en139 (k_divide_take_M e33) rfl (.cons (.ren rfl) (.cons (.ren rfl) (.cons (.ren rfl) (.cons (.ren rfl) .nil)))) rfl rfl rfl rfl rfl (A := .v .bool x34.1) rfl (W := [(1, .arr 96 (.int .u64) x34.2)]) rfl rfl)) ?_
        refine Run.nil ?_
        refine T.cond rfl (fun hb35 => ?_) (fun hb35 => ?_)
        · replace h := ifT hb35 h
          refine T.seq ?_
          refine T.region ?_
          refine Run.go (Ev.move rfl rfl) ?_
          refine Run.go (Ev.move rfl rfl) ?_
          obtain ⟨x36, e37, h⟩ := bdS h
          refine Run.go (Ev.e_rdO X e37 rfl rfl rfl rfl rfl) ?_
          refine Run.go (Ev.e_ldO X (rdS e37).2 rfl rfl rfl rfl) ?_
          refine Run.go (Ev.int rfl rfl rfl rfl trivial) ?_
          obtain ⟨j38, e39, h⟩ := bdS h
          refine Run.go (Ev.e_ixO X e39 rfl rfl rfl rfl rfl) ?_
          obtain ⟨x40, e41, h⟩ := ltS h
          refine Run.do_ (Ev.asO (Ev.storeEl X rfl rfl rfl rfl rfl) e41) ?_
          refine Run.nil ?_
          refine T.region ?_
          refine Run.go (Ev.move rfl rfl) ?_
          refine Run.go (Ev.move rfl rfl) ?_
          refine Run.go (Ev.move rfl rfl) ?_
          obtain ⟨x43, e42, h⟩ := bdS h
          refine Run.go (Ev.w1 (Ev.lendM [(1, 1)] [(1, 1)] en140 (k_divide_give_M e42) rfl (.cons (.ren rfl) (.cons (.ren rfl) (.cons (.ren rfl) .nil))) rfl rfl rfl rfl rfl (A := .tup []) rfl (W := [(1, .arr 96 (.int .u64) x43)]) rfl rfl)) ?_
          refine Run.nil ?_
          cases h
          exact ⟨(), trivial, Ghost.only [(1, 1), (2, 2)] [6, 7, 9, 12, 13] rfl⟩
        · replace h := ifF hb35 h
          refine T.skip ?_
          cases h
          exact ⟨(), trivial, Ghost.only [(1, 1), (2, 2)] [6, 7, 9, 12, 13] rfl⟩
      · refine T.region ?_
        refine Run.go (Ev.move rfl rfl) ?_
        refine Run.go (Ev.int rfl rfl rfl rfl trivial) ?_
        refine Run.go (Ev.assign rfl rfl) ?_
        refine Run.nil ?_
        cases h
        exact LoopT.ghost (Ghost.only [(1, 1), (2, 2)] [6, 7, 9, 12, 13] rfl) hz1
    · replace h := ifF hb22 h
      refine T.exit ?_
      cases h
      cases hz1
      exact ⟨(), trivial, Ghost.only [(1, 1), (2, 2)] [6, 9, 12] rfl⟩
  · refine T.seq ?_
    refine T.region ?_
    refine Run.go (Ev.move rfl rfl) ?_
    refine Run.ghost (Ghost.firmAll (id := 2) rfl) ?_
    obtain ⟨x44, e45, h⟩ := bdS h
    refine Run.go (Ev.callC en77 (k_nat_Make e45) rfl (.cons .v .nil) rfl rfl) ?_
    refine Run.go (Ev.move rfl rfl) ?_
    refine Run.go (Ev.extract rfl rfl rfl) ?_
    refine Run.go (Ev.extract rfl rfl rfl) ?_
    refine Run.go (Ev.assign rfl rfl) ?_
    refine Run.go (Ev.assign rfl rfl) ?_
    refine Run.nil ?_
    refine T.seq ?_
    refine T.region ?_
    refine Run.go (Ev.move rfl rfl) ?_
    refine Run.ghost (Ghost.firmAll (id := 1) rfl) ?_
    obtain ⟨x46, e47, h⟩ := bdS h
    refine Run.go (Ev.callC en77 (k_nat_Make e47) rfl (.cons .v .nil) rfl rfl) ?_
    refine Run.go (Ev.move rfl rfl) ?_
    refine Run.go (Ev.extract rfl rfl rfl) ?_
    refine Run.go (Ev.extract rfl rfl rfl) ?_
    refine Run.go (Ev.assign rfl rfl) ?_
    refine Run.go (Ev.assign rfl rfl) ?_
    refine Run.nil ?_
    refine T.seq ?_
    refine T.region ?_
    refine Run.go (Ev.move rfl rfl) ?_
    refine Run.go (Ev.move rfl rfl) ?_
    obtain ⟨x48, e49, h⟩ := bdS h
    refine Run.go (Ev.callC en141 (k_nat_Shr e49) rfl (.cons .v (.cons .v .nil)) rfl rfl) ?_
    refine Run.go (Ev.move rfl rfl) ?_
    refine Run.go (Ev.extract rfl rfl rfl) ?_
    refine Run.go (Ev.extract rfl rfl rfl) ?_
    refine Run.go (Ev.assign rfl rfl) ?_
    refine Run.nil ?_
    refine T.seq ?_
    refine T.region ?_
    refine Run.go (Ev.move rfl rfl) ?_
    refine Run.go (Ev.move rfl rfl) ?_
    refine Run.go (Ev.assign rfl rfl) ?_
    refine Run.go (Ev.assign rfl rfl) ?_
    refine Run.nil ?_
    refine T.ret ?_
    cases h
    exact Fin.many X rfl (.cons (.tmp .v) (.cons (.tmp .v) .nil)) rfl
theorem en99 : Enters Tryd.prog 99 := ⟨_, Tryd.func99, rfl, rfl⟩
theorem k_divide_Div {p0 : (List Int)} {p1 : (List Int)} {y : (List Int) × (List Int) × Int} (h : m_divide_Div p0 p1 = some y) : Spec Tryd.prog 99 [(.v (.sl (.int .u64)) p0), (.v (.sl (.int .u64)) p1)] (.tup [.v (.sl (.int .u64)) y.1, .v (.sl (.int .u64)) y.2.1, .v (.int .i64) y.2.2]) [] := by
  rw [m_divide_Div] at h
  refine enterN [(.v (.sl (.int .u64)) p0), (.v (.sl (.int .u64)) p1)] 64 Tryd.func99 rfl rfl rfl ?_
  refine T.seq ?_
  refine T.region ?_
  refine Run.go (Ev.assign rfl rfl) ?_
  refine Run.go (Ev.assign rfl rfl) ?_
  refine Run.go (Ev.assign rfl rfl) ?_
  refine Run.nil ?_
  refine T.seq ?_
  refine T.block ?_
  refine T.seq ?_
  refine T.region ?_
  refine Run.go (Ev.move rfl rfl) ?_
  refine Run.go (Ev.len X rfl rfl rfl rfl) ?_
  refine Run.go (Ev.int rfl rfl rfl rfl trivial) ?_
  refine Run.go (Ev.assign rfl rfl) ?_
  refine Run.nil ?_
  refine T.cond rfl (fun hb1 => ?_) (fun hb1 => ?_)
  · replace h := ifT hb1 h
    refine T.seq ?_
    refine T.region ?_
    refine Run.go (Ev.assign rfl rfl) ?_
    refine Run.go (Ev.assign rfl rfl) ?_
    refine Run.go (Ev.assign rfl rfl) ?_
    refine Run.nil ?_
    refine T.ret ?_
    cases h
    exact Fin.many X rfl (.cons (.tmp .nilv) (.cons (.tmp .nilv) (.cons (.tmp .v) .nil))) rfl
  · replace h := ifF hb1 h
    obtain ⟨v2, hv, h⟩ := bdS h
    refine T.cut (fun _ : Unit => (⟨[(0, .v (.sl (.int .u64)) p0), (1, .v (.sl (.int .u64)) p1), (18, .v .bool v2)], [], 64⟩ : St)) (fun _ => True) ?_ (fun _ _ => ?_)
    · replace h := hv
      clear hv
      refine T.region ?_
      refine Run.go (Ev.move rfl rfl) ?_
      obtain ⟨x3, e4, h⟩ := bdS h
      refine Run.go (Ev.callC en123 (k_nat_May e4) rfl (.cons .v .nil) rfl rfl) ?_
      refine Run.go (Ev.not rfl rfl) ?_
      refine Run.go (Ev.move rfl rfl) ?_
      rcases boolCases (!x3) with hb5 | hb5
      · replace h := ifT hb5 h
        refine Run.offT rfl rfl rfl rfl hb5 ?_
        refine Run.offT rfl rfl rfl rfl hb5 ?_
        refine Run.offT rfl rfl rfl rfl hb5 ?_
        refine Run.go (Ev.pickT rfl hb5 rfl rfl) ?_
        refine Run.go (Ev.assign rfl rfl) ?_
        refine Run.nil ?_
        cases h
        exact ⟨(), trivial, Ghost.only [] [0, 1, 18] rfl⟩
      · replace h := ifF hb5 h
        refine Run.on rfl rfl rfl hb5 (Ev.move rfl rfl) ?_
        obtain ⟨x6, e7, h⟩ := bdS h
        refine Run.on rfl rfl rfl hb5 (Ev.callC en123 (k_nat_May e7) rfl (.cons .v .nil) rfl rfl) ?_
        refine Run.on rfl rfl rfl hb5 (Ev.not rfl rfl) ?_
        refine Run.go (Ev.pickF rfl hb5 rfl rfl) ?_
        refine Run.go (Ev.assign rfl rfl) ?_
        refine Run.nil ?_
        cases h
        exact ⟨(), trivial, Ghost.only [] [0, 1, 18] rfl⟩
    · refine T.cond rfl (fun hb8 => ?_) (fun hb8 => ?_)
      · replace h := ifT hb8 h
        refine T.seq ?_
        refine T.region ?_
        refine Run.go (Ev.assign rfl rfl) ?_
        refine Run.go (Ev.assign rfl rfl) ?_
        refine Run.go (Ev.assign rfl rfl) ?_
        refine Run.nil ?_
        refine T.ret ?_
        cases h
        exact Fin.many X rfl (.cons (.tmp .nilv) (.cons (.tmp .nilv) (.cons (.tmp .v) .nil))) rfl
      · replace h := ifF hb8 h
        refine T.seq ?_
        refine T.region ?_
        refine Run.go (Ev.move rfl rfl) ?_
        refine Run.go (Ev.move rfl rfl) ?_
        obtain ⟨x9, e10, h⟩ := bdS h
        refine Run.go (Ev.callC en107 (k_nat_Cmp e10) rfl (.cons .v (.cons .v .nil)) rfl rfl) ?_
        refine Run.go (Ev.int rfl rfl rfl rfl trivial) ?_
        refine Run.go (Ev.assign rfl rfl) ?_
        refine Run.nil ?_
        refine T.cond rfl (fun hb11 => ?_) (fun hb11 => ?_)
        · replace h := ifT hb11 h
          refine T.seq ?_
          refine T.region ?_
          refine Run.go (Ev.move rfl rfl) ?_
          obtain ⟨x12, e13, h⟩ := bdS h
          refine Run.go (Ev.callC en77 (k_nat_Make e13) rfl (.cons .v .nil) rfl rfl) ?_
          refine Run.go (Ev.move rfl rfl) ?_
          refine Run.go (Ev.extract rfl rfl rfl) ?_
          refine Run.go (Ev.extract rfl rfl rfl) ?_
          refine Run.go (Ev.assign rfl rfl) ?_
          refine Run.go (Ev.assign rfl rfl) ?_
          refine Run.nil ?_
          refine T.seq ?_
          refine T.region ?_
          refine Run.go (Ev.move rfl rfl) ?_
          refine Run.go (Ev.move rfl rfl) ?_
          refine Run.go (Ev.assign rfl rfl) ?_
          refine Run.go (Ev.assign rfl rfl) ?_
          refine Run.go (Ev.assign rfl rfl) ?_
          refine Run.nil ?_
          refine T.ret ?_
          cases h
          exact Fin.many X rfl (.cons (.tmp .nilv) (.cons (.tmp .v) (.cons (.tmp .v) .nil))) rfl
        · replace h := ifF hb11 h
          refine T.seq ?_
          refine T.region ?_
          refine Run.go (Ev.move rfl rfl) ?_
          refine Run.go (Ev.len X rfl rfl rfl rfl) ?_
          refine Run.go (Ev.int rfl rfl rfl rfl trivial) ?_
          refine Run.go (Ev.assign rfl rfl) ?_
          refine Run.nil ?_
          refine T.cond rfl (fun hb14 => ?_) (fun hb14 => ?_)
          · replace h := ifT hb14 h
            refine T.seq ?_
            refine T.region ?_
            refine Run.go (Ev.move rfl rfl) ?_
            refine Run.go (Ev.move rfl rfl) ?_
            obtain ⟨x15, e16, h⟩ := bdS h
            refine Run.go (Ev.e_rd X e16 rfl rfl rfl rfl) ?_
            refine Run.go (Ev.load X rfl rfl rfl) ?_
            obtain ⟨x17, e18, h⟩ := bdS h
            refine Run.go (Ev.callC en78 (k_divide_Small e18) rfl (.cons .v (.cons .v .nil)) rfl rfl) ?_
            refine Run.go (Ev.move rfl rfl) ?_
            refine Run.go (Ev.extract rfl rfl rfl) ?_
            refine Run.go (Ev.extract rfl rfl rfl) ?_
            refine Run.go (Ev.extract rfl rfl rfl) ?_
            refine Run.go (Ev.assign rfl rfl) ?_
            refine Run.go (Ev.assign rfl rfl) ?_
            refine Run.go (Ev.assign rfl rfl) ?_
            refine Run.nil ?_
            refine T.seq ?_
            refine T.region ?_
            refine Run.go (Ev.move rfl rfl) ?_
            refine Run.go (Ev.move rfl rfl) ?_
            obtain ⟨x19, e20, h⟩ := bdS h
            refine Run.go (Ev.callC en97 (k_nat_Of e20) rfl (.cons .v .nil) rfl rfl) ?_
            refine Run.go (Ev.move rfl rfl) ?_
            refine Run.go (Ev.assign rfl rfl) ?_
            refine Run.go (Ev.assign rfl rfl) ?_
            refine Run.go (Ev.assign rfl rfl) ?_
            refine Run.nil ?_
            refine T.ret ?_
            cases h
            exact Fin.many X rfl (.cons (.tmp .v) (.cons (.tmp .v) (.cons (.tmp .v) .nil))) rfl
          · replace h := ifF hb14 h
            refine T.skip ?_
            refine T.seq ?_
            refine T.region ?_
            refine Run.go (Ev.move rfl rfl) ?_
            refine Run.go (Ev.move rfl rfl) ?_
            obtain ⟨x21, e22, h⟩ := bdS h
            refine Run.go (Ev.callC en124 (k_divide_knuth e22) rfl (.cons .v (.cons .v .nil)) rfl rfl) ?_
            refine Run.go (Ev.move rfl rfl) ?_
            refine Run.go (Ev.extract rfl rfl rfl) ?_
            refine Run.go (Ev.extract rfl rfl rfl) ?_
            refine Run.go (Ev.assign rfl rfl) ?_
            refine Run.go (Ev.assign rfl rfl) ?_
            refine Run.nil ?_
            refine T.seq ?_
            refine T.region ?_
            refine Run.go (Ev.move rfl rfl) ?_
            refine Run.go (Ev.move rfl rfl) ?_
            refine Run.go (Ev.assign rfl rfl) ?_
            refine Run.go (Ev.assign rfl rfl) ?_
            refine Run.go (Ev.assign rfl rfl) ?_
            refine Run.nil ?_
            refine T.ret ?_
            cases h
            exact Fin.many X rfl (.cons (.tmp .v) (.cons (.tmp .v) (.cons (.tmp .v) .nil))) rfl
theorem en54 : Enters Tryd.prog 54 := ⟨_, Tryd.func54, rfl, rfl⟩
theorem k_whole_Floor {p0 : D_api_Int} {p1 : D_api_Int} {y : D_api_Int × D_api_Int × Int} (h : m_whole_Floor p0 p1 = some y) : Spec Tryd.prog 54 [(.v Y_api_Int p0), (.v Y_api_Int p1)] (.tup [.v Y_api_Int y.1, .v Y_api_Int y.2.1, .v (.int .i64) y.2.2]) [] := by
  rw [m_whole_Floor] at h
  refine enterN [(.v Y_api_Int p0), (.v Y_api_Int p1)] 56 Tryd.func54 rfl rfl rfl ?_
  refine T.seq ?_
  refine T.region ?_
  refine Run.go (Ev.box 1 rfl rfl rfl rfl) ?_
  refine Run.go (Ev.box 2 rfl rfl rfl rfl) ?_
  refine Run.go (Ev.allocN X 3 rfl rfl rfl) ?_
  refine Run.go (Ev.allocN X 4 rfl rfl rfl) ?_
  refine Run.go (Ev.assign rfl rfl) ?_
  refine Run.nil ?_
  refine T.seq ?_
  refine T.region ?_
  refine Run.go (Ev.fieldBox X rfl rfl rfl rfl rfl) ?_
  refine Run.go (Ev.loadCell X rfl rfl rfl rfl rfl rfl) ?_
  refine Run.go (Ev.fieldBox X rfl rfl rfl rfl rfl) ?_
  refine Run.go (Ev.loadCell X rfl rfl rfl rfl rfl rfl) ?_
  obtain ⟨x1, e2, h⟩ := bdS h
  refine Run.go (Ev.callC en99 (k_divide_Div e2) rfl (.cons .v (.cons .v .nil)) rfl rfl) ?_
  refine Run.go (Ev.move rfl rfl) ?_
  refine Run.go (Ev.extract rfl rfl rfl) ?_
  refine Run.go (Ev.extract rfl rfl rfl) ?_
  refine Run.go (Ev.extract rfl rfl rfl) ?_
  refine Run.go (Ev.assign rfl rfl) ?_
  refine Run.go (Ev.assign rfl rfl) ?_
  refine Run.go (Ev.assign rfl rfl) ?_
  refine Run.nil ?_
  refine T.seq ?_
  refine T.seq ?_
  refine T.region ?_
  refine Run.go (Ev.move rfl rfl) ?_
  refine Run.go (Ev.int rfl rfl rfl rfl trivial) ?_
  refine Run.nil ?_
  refine T.cond rfl (fun hb3 => ?_) (fun hb3 => ?_)
  · replace h := ifT hb3 h
    refine T.seq ?_
    refine T.region ?_
    refine Run.go (Ev.structC pl64 zs64 rfl rfl rfl) ?_
    refine Run.go (Ev.structC pl64 zs64 rfl rfl rfl) ?_
    refine Run.go (Ev.move rfl rfl) ?_
    refine Run.do_ (Ev.storeC sz64 rfl rfl rfl rfl rfl rfl) ?_
    refine Run.do_ (Ev.storeC sz64 rfl rfl rfl rfl rfl rfl) ?_
    refine Run.go (Ev.assign rfl rfl) ?_
    refine Run.nil ?_
    refine T.ret ?_
    cases h
    exact Fin.many X rfl (.cons (.cell rfl rfl rfl rfl) (.cons (.cell rfl rfl rfl rfl) (.cons (.tmp .v) .nil))) rfl
  · replace h := ifF hb3 h
    refine T.skip ?_
    obtain ⟨⟨v4, v5⟩, hv, h⟩ := bdS h
    refine T.cut (fun _ : Unit => (⟨[(2, .box 1 0), (3, .box 2 0), (4, .box 3 0), (5, .box 4 0), (7, .v (.sl (.int .u64)) v4), (8, .v (.sl (.int .u64)) v5), (9, .v (.int .i64) x1.2.2)], [(1, .box [.v .bool p0.1, .v (.sl (.int .u64)) p0.2]), (2, .box [.v .bool p1.1, .v (.sl (.int .u64)) p1.2]), (3, .box [.v .bool false, .nil]), (4, .box [.v .bool false, .nil])], 56⟩ : St)) (fun _ => True) ?_ (fun _ _ => ?_)
    · replace h := hv
      clear hv
      obtain ⟨v6, hv, h⟩ := bdS h
      refine T.cut (fun _ : Unit => (⟨[(2, .box 1 0), (3, .box 2 0), (4, .box 3 0), (5, .box 4 0), (7, .v (.sl (.int .u64)) x1.1), (8, .v (.sl (.int .u64)) x1.2.1), (9, .v (.int .i64) x1.2.2), (33, .v .bool v6)], [(1, .box [.v .bool p0.1, .v (.sl (.int .u64)) p0.2]), (2, .box [.v .bool p1.1, .v (.sl (.int .u64)) p1.2]), (3, .box [.v .bool false, .nil]), (4, .box [.v .bool false, .nil])], 56⟩ : St)) (fun _ => True) ?_ (fun _ _ => ?_)
      · replace h := hv
        clear hv
        refine T.region ?_
        refine Run.go (Ev.fieldBox X rfl rfl rfl rfl rfl) ?_
        refine Run.go (Ev.loadCell X rfl rfl rfl rfl rfl rfl) ?_
        refine Run.go (Ev.fieldBox X rfl rfl rfl rfl rfl) ?_
        refine Run.go (Ev.loadCell X rfl rfl rfl rfl rfl rfl) ?_
        refine Run.go (Ev.bools X rfl rfl rfl rfl rfl) ?_
        refine Run.go (Ev.move rfl rfl) ?_
        rcases boolCases (!(p0.1 == p1.1)) with hb7 | hb7
        · replace h := ifT hb7 h
          refine Run.on rfl rfl rfl hb7 (Ev.move rfl rfl) ?_
          refine Run.on rfl rfl rfl hb7 (Ev.len X rfl rfl rfl rfl) ?_
          refine Run.on rfl rfl rfl hb7 (Ev.int rfl rfl rfl rfl trivial) ?_
          refine Run.go (Ev.pickT rfl hb7 rfl rfl) ?_
          refine Run.nil ?_
          cases h
          exact ⟨(), trivial, Ghost.only [(1, 1), (2, 2), (3, 3), (4, 4)] [2, 3, 4, 5, 7, 8, 9, 33] rfl⟩
        · replace h := ifF hb7 h
          refine Run.offT rfl rfl rfl rfl hb7 ?_
          refine Run.offT rfl rfl rfl rfl hb7 ?_
          refine Run.offT rfl rfl rfl rfl hb7 ?_
          refine Run.go (Ev.pickF rfl hb7 rfl rfl) ?_
          refine Run.nil ?_
          cases h
          exact ⟨(), trivial, Ghost.only [(1, 1), (2, 2), (3, 3), (4, 4)] [2, 3, 4, 5, 7, 8, 9, 33] rfl⟩
      · refine T.cond rfl (fun hb8 => ?_) (fun hb8 => ?_)
        · replace h := ifT hb8 h
          refine T.seq ?_
          refine T.region ?_
          refine Run.go (Ev.move rfl rfl) ?_
          obtain ⟨x9, e10, h⟩ := bdS h
          refine Run.go (Ev.callC en97 (k_nat_Of e10) rfl (.cons .v .nil) rfl rfl) ?_
          obtain ⟨x11, e12, h⟩ := bdS h
          refine Run.go (Ev.callC en96 (k_nat_Add e12) rfl (.cons .v (.cons .v .nil)) rfl rfl) ?_
          refine Run.go (Ev.assign rfl rfl) ?_
          refine Run.nil ?_
          refine T.region ?_
          refine Run.go (Ev.fieldBox X rfl rfl rfl rfl rfl) ?_
          refine Run.go (Ev.loadCell X rfl rfl rfl rfl rfl rfl) ?_
          refine Run.go (Ev.move rfl rfl) ?_
          obtain ⟨x13, e14, h⟩ := bdS h
          refine Run.go (Ev.callC en100 (k_nat_Sub e14) rfl (.cons .v (.cons .v .nil)) rfl rfl) ?_
          refine Run.go (Ev.move rfl rfl) ?_
          refine Run.go (Ev.extract rfl rfl rfl) ?_
          refine Run.go (Ev.extract rfl rfl rfl) ?_
          refine Run.go (Ev.assign rfl rfl) ?_
          refine Run.nil ?_
          cases h
          exact ⟨(), trivial, Ghost.only [(1, 1), (2, 2), (3, 3), (4, 4)] [2, 3, 4, 5, 7, 8, 9] rfl⟩
        · replace h := ifF hb8 h
          refine T.skip ?_
          cases h
          exact ⟨(), trivial, Ghost.only [(1, 1), (2, 2), (3, 3), (4, 4)] [2, 3, 4, 5, 7, 8, 9] rfl⟩
    · refine T.seq ?_
      refine T.drawM [12, 13] [0, 1, 0, 4, 15, 0, 63, 0, 128, 0, 1023, 0, 2047, 6143, 16383] (by kernel_rfl) (by kernel_rfl) ?_
      refine RunD.a rfl rfl (Ev.fieldBox X rfl rfl rfl rfl rfl) ?_
      refine RunD.a rfl rfl (Ev.loadCell X rfl rfl rfl rfl rfl rfl) ?_
      refine RunD.a rfl rfl (Ev.fieldBox X rfl rfl rfl rfl rfl) ?_
      refine RunD.a rfl rfl (Ev.loadCell X rfl rfl rfl rfl rfl rfl) ?_
      refine RunD.w (fun _ => Ev.bools X rfl rfl rfl rfl rfl) ?_
      refine RunD.w (fun _ => Ev.move rfl rfl) ?_
      obtain ⟨x15, e16, h⟩ := bdS h
      refine RunD.a rfl rfl (Ev.callC en50 (k_whole_Made e16) rfl (.cons .v (.cons .v .nil)) rfl rfl) ?_
      refine RunD.a rfl rfl (Ev.fieldBox X rfl rfl rfl rfl rfl) ?_
      refine RunD.a rfl rfl (Ev.loadCell X rfl rfl rfl rfl rfl rfl) ?_
      refine RunD.w (fun _ => Ev.move rfl rfl) ?_
      obtain ⟨x17, e18, h⟩ := bdS h
      refine RunD.a rfl rfl (Ev.callC en50 (k_whole_Made e18) rfl (.cons .v (.cons .v .nil)) rfl rfl) ?_
      refine RunD.w (fun _ => Ev.move rfl rfl) ?_
      refine RunD.mN rfl (Ev.storeBox X rfl rfl rfl rfl rfl rfl rfl) ?_
      refine RunD.mN rfl (Ev.storeBox X rfl rfl rfl rfl rfl rfl rfl) ?_
      refine RunD.w (fun _ => Ev.assign rfl rfl) ?_
      refine RunD.nil ?_
      refine T.ret ?_
      cases h
      exact Fin.many X rfl (.cons (.cell rfl rfl rfl rfl) (.cons (.cell rfl rfl rfl rfl) (.cons (.tmp .v) .nil))) rfl
theorem en71 : Enters Tryd.prog 71 := ⟨_, Tryd.func71, rfl, rfl⟩
theorem k_digits_based {p0 : Int} {y : Int} (h : m_digits_based p0 = some y) : Spec Tryd.prog 71 [(.v (.int .i64) p0)] (.v (.int .i64) y) [] := by
  rw [m_digits_based] at h
  refine enterN [(.v (.int .i64) p0)] 9 Tryd.func71 rfl rfl rfl ?_
  refine T.seq ?_
  refine T.region ?_
  refine Run.go (Ev.assign rfl rfl) ?_
  refine Run.nil ?_
  refine T.seq ?_
  obtain ⟨v1, hv, h⟩ := bdS h
  refine T.cut (fun _ : Unit => (⟨[(8, .v .bool v1)], [], 9⟩ : St)) (fun _ => True) ?_ (fun _ _ => ?_)
  · replace h := hv
    clear hv
    refine T.region ?_
    refine Run.go (Ev.move rfl rfl) ?_
    refine Run.go (Ev.int rfl rfl rfl rfl trivial) ?_
    refine Run.go (Ev.move rfl rfl) ?_
    rcases boolCases (decide (p0 < 2)) with hb2 | hb2
    · replace h := ifT hb2 h
      refine Run.offT rfl rfl rfl rfl hb2 ?_
      refine Run.offT rfl rfl rfl rfl hb2 ?_
      refine Run.go (Ev.pickT rfl hb2 rfl rfl) ?_
      refine Run.nil ?_
      cases h
      exact ⟨(), trivial, Ghost.only [] [8] rfl⟩
    · replace h := ifF hb2 h
      refine Run.on rfl rfl rfl hb2 (Ev.move rfl rfl) ?_
      refine Run.on rfl rfl rfl hb2 (Ev.int rfl rfl rfl rfl trivial) ?_
      refine Run.go (Ev.pickF rfl hb2 rfl rfl) ?_
      refine Run.nil ?_
      cases h
      exact ⟨(), trivial, Ghost.only [] [8] rfl⟩
  · refine T.cond rfl (fun hb3 => ?_) (fun hb3 => ?_)
    · replace h := ifT hb3 h
      refine T.seq ?_
      refine T.region ?_
      refine Run.go (Ev.assign rfl rfl) ?_
      refine Run.nil ?_
      refine T.ret ?_
      cases h
      exact Fin.one rfl .v
    · replace h := ifF hb3 h
      refine T.skip ?_
      refine T.seq ?_
      refine T.region ?_
      refine Run.go (Ev.assign rfl rfl) ?_
      refine Run.nil ?_
      refine T.ret ?_
      cases h
      exact Fin.one rfl .v
theorem en76 : Enters Tryd.prog 76 := ⟨_, Tryd.func76, rfl, rfl⟩
theorem k_digits_chunk {p0 : Int} {y : Int × Int} (h : m_digits_chunk p0 = some y) : Spec Tryd.prog 76 [(.v (.int .i64) p0)] (.tup [.v (.int .u64) y.1, .v (.int .i64) y.2]) [] := by
  rw [m_digits_chunk] at h
  refine enterN [(.v (.int .i64) p0)] 21 Tryd.func76 rfl rfl rfl ?_
  refine T.seq ?_
  refine T.region ?_
  refine Run.go (Ev.assign rfl rfl) ?_
  refine Run.go (Ev.assign rfl rfl) ?_
  refine Run.nil ?_
  refine T.seq ?_
  refine T.region ?_
  refine Run.go (Ev.move rfl rfl) ?_
  refine Run.go (Ev.conv X rfl rfl rfl rfl) ?_
  refine Run.go (Ev.assign rfl rfl) ?_
  refine Run.go (Ev.assign rfl rfl) ?_
  refine Run.nil ?_
  obtain ⟨⟨v1, v2⟩, hv, h⟩ := bdS h
  refine T.cut (fun _ : Unit => (⟨[(4, .v (.int .u64) v1), (5, .v (.int .i64) v2)], [], 21⟩ : St)) (fun _ => True) ?_ (fun _ _ => ?_)
  · replace h := hv
    clear hv
    refine T.block ?_
    refine T.loop (LoopT.ghost (Ghost.only [] [0, 4, 5] rfl) (LoopT.run (fun q : Int × Int => (⟨[(0, .v (.int .i64) p0), (4, .v (.int .u64) q.1), (5, .v (.int .i64) q.2)], [], 21⟩ : St)) (fun q z1 h hz1 => ?_) h))
    obtain ⟨v3, v4⟩ := q
    dsimp only
    rw [m_digits_chunk_l1] at h
    refine T.seq ?_
    refine T.seq ?_
    refine T.region ?_
    refine Run.go (Ev.move rfl rfl) ?_
    refine Run.go (Ev.move rfl rfl) ?_
    refine Run.go (Ev.conv X rfl rfl rfl rfl) ?_
    refine Run.go (Ev.int rfl rfl rfl rfl trivial) ?_
    refine Run.go (Ev.int rfl rfl rfl rfl trivial) ?_
    refine Run.nil ?_
    refine T.cond rfl (fun hb5 => ?_) (fun hb5 => ?_)
    · replace h := ifT hb5 h
      refine T.skip ?_
      refine T.block ?_
      refine T.seq ?_
      refine T.region ?_
      refine Run.go (Ev.move rfl rfl) ?_
      refine Run.go (Ev.move rfl rfl) ?_
      refine Run.go (Ev.conv X rfl rfl rfl rfl) ?_
      refine Run.go (Ev.int rfl rfl rfl rfl trivial) ?_
      refine Run.go (Ev.assign rfl rfl) ?_
      refine Run.nil ?_
      refine T.region ?_
      refine Run.go (Ev.move rfl rfl) ?_
      refine Run.go (Ev.int rfl rfl rfl rfl trivial) ?_
      refine Run.go (Ev.assign rfl rfl) ?_
      refine Run.nil ?_
      cases h
      exact LoopT.ghost (Ghost.only [] [0, 4, 5] rfl) hz1
    · replace h := ifF hb5 h
      refine T.exit ?_
      cases h
      cases hz1
      exact ⟨(), trivial, Ghost.only [] [4, 5] rfl⟩
  · refine T.seq ?_
    refine T.region ?_
    refine Run.go (Ev.move rfl rfl) ?_
    refine Run.go (Ev.move rfl rfl) ?_
    refine Run.go (Ev.assign rfl rfl) ?_
    refine Run.go (Ev.assign rfl rfl) ?_
    refine Run.nil ?_
    refine T.ret ?_
    cases h
    exact Fin.many X rfl (.cons (.tmp .v) (.cons (.tmp .v) .nil)) rfl
theorem en79 : Enters Tryd.prog 79 := ⟨_, Tryd.func79, rfl, rfl⟩
theorem k_digits_piece {p0 : Int} {p1 : Int} {p2 : Int} {y : ByteArray} (h : m_digits_piece p0 p1 p2 = some y) : Spec Tryd.prog 79 [(.v (.int .u64) p0), (.v (.int .i64) p1), (.v (.int .i64) p2)] (.v .str y) [] := by
  rw [m_digits_piece] at h
  refine enterN [(.v (.int .u64) p0), (.v (.int .i64) p1), (.v (.int .i64) p2)] 33 Tryd.func79 rfl rfl rfl ?_
  refine T.seq ?_
  refine T.region ?_
  refine Run.go (Ev.assign rfl rfl) ?_
  refine Run.nil ?_
  refine T.seq ?_
  refine T.region ?_
  refine Run.go (Ev.move rfl rfl) ?_
  obtain ⟨x1, e2, h⟩ := bdS h
  refine Run.go (Ev.e_mk X 1 e2 rfl rfl rfl rfl rfl rfl) ?_
  refine Run.go (Ev.assign rfl rfl) ?_
  refine Run.nil ?_
  obtain ⟨v3, hv, h⟩ := bdS h
  refine T.cut (fun _ : Unit => (⟨[(7, .own 1)], [(1, .arr 5 (.int .u8) v3)], 33⟩ : St)) (fun _ => True) ?_ (fun _ _ => ?_)
  · replace h := hv
    clear hv
    refine T.seq ?_
    refine T.region ?_
    refine Run.go (Ev.move rfl rfl) ?_
    refine Run.go (Ev.move rfl rfl) ?_
    refine Run.nil ?_
    refine T.block ?_
    refine T.loop (LoopT.ghost (Ghost.only [(1, 1)] [0, 1, 2, 7, 11, 12] rfl) (LoopT.run (fun q : Int × Int × (List Int) => (⟨[(0, .v (.int .u64) q.1), (1, .v (.int .i64) p1), (2, .v (.int .i64) p2), (7, .own 1), (11, .v (.int .i64) p2), (12, .v (.int .i64) q.2.1)], [(1, .arr 5 (.int .u8) q.2.2)], 33⟩ : St)) (fun q z1 h hz1 => ?_) h))
    obtain ⟨v4, v5, v6⟩ := q
    dsimp only
    rw [m_digits_piece_l1] at h
    refine T.seq ?_
    refine T.region ?_
    refine Run.go (Ev.int rfl rfl rfl rfl trivial) ?_
    refine Run.nil ?_
    refine T.seq ?_
    refine T.cond rfl (fun hb7 => ?_) (fun hb7 => ?_)
    · replace h := ifT hb7 h
      refine T.skip ?_
      refine T.seq ?_
      refine T.block ?_
      refine T.seq ?_
      refine T.region ?_
      refine Run.go (Ev.move rfl rfl) ?_
      refine Run.go (Ev.assign rfl rfl) ?_
      refine Run.nil ?_
      refine T.seq ?_
      refine T.region ?_
      refine Run.go (Ev.move rfl rfl) ?_
      refine Run.go (Ev.move rfl rfl) ?_
      refine Run.go (Ev.int rfl rfl rfl rfl trivial) ?_
      refine Run.go (Ev.move rfl rfl) ?_
      refine Run.go (Ev.int rfl rfl rfl rfl trivial) ?_
      refine Run.go (Ev.move rfl rfl) ?_
      refine Run.go (Ev.move rfl rfl) ?_
      refine Run.go (Ev.conv X rfl rfl rfl rfl) ?_
      obtain ⟨x8, e9, h⟩ := bdS h
      refine Run.go (Ev.e_rm e9 rfl rfl rfl) ?_
      obtain ⟨x10, e11, h⟩ := bdS h
      refine Run.go (Ev.e_bt X e11 rfl rfl rfl rfl) ?_
      obtain ⟨j12, e13, h⟩ := bdS h
      refine Run.go (Ev.e_ixO X e13 rfl rfl rfl rfl rfl) ?_
      obtain ⟨x14, e15, h⟩ := ltS h
      refine Run.do_ (Ev.asO (Ev.storeEl X rfl rfl rfl rfl rfl) e15) ?_
      refine Run.nil ?_
      refine T.region ?_
      refine Run.go (Ev.move rfl rfl) ?_
      refine Run.go (Ev.move rfl rfl) ?_
      refine Run.go (Ev.conv X rfl rfl rfl rfl) ?_
      obtain ⟨x16, e17, h⟩ := bdS h
      refine Run.go (Ev.e_qd e17 rfl rfl rfl) ?_
      refine Run.go (Ev.assign rfl rfl) ?_
      refine Run.nil ?_
      refine T.region ?_
      refine Run.go (Ev.int rfl rfl rfl rfl trivial) ?_
      refine Run.go (Ev.move rfl rfl) ?_
      refine Run.nil ?_
      cases h
      exact LoopT.ghost (Ghost.only [(1, 1)] [0, 1, 2, 7, 11, 12] rfl) hz1
    · replace h := ifF hb7 h
      refine T.exit ?_
      cases h
      cases hz1
      exact ⟨(), trivial, Ghost.only [(1, 1)] [7] rfl⟩
  · refine T.seq ?_
    refine T.region ?_
    refine Run.go (Ev.move rfl rfl) ?_
    refine Run.ghost (Ghost.firmAll (id := 1) rfl) ?_
    refine Run.go (Ev.e_b2s (e := 0) X rfl rfl rfl rfl) ?_
    refine Run.go (Ev.assign rfl rfl) ?_
    refine Run.nil ?_
    refine T.ret ?_
    cases h
    exact Fin.one rfl .v
end Go.Proofs.YthcmjcjgaebciaaDoor.AE
/- The code comes to the printed functions (printed by a program of ours). -/
namespace Go.Proofs.YthcmjcjgaebciaaDoor.AE
open Go Go.RowKit Go.Proofs.YthcmjcjgaebciaaDoor.AP
set_option linter.unusedVariables false
set_option maxRecDepth 20000
theorem k_strings_Builder_copyCheck_M {o1_0 : Bool} {o2 : (List Int)} {y : Bool} (h : m_strings_Builder_copyCheck_M o1_0 o2 = some y) : SpecM Tryd.prog 114 [(.box 1 0)] [(1, .box [.pn o1_0 1 0 112, .owz 2]), (2, .arr 5 (.int .u8) o2)] (.tup []) [(1, .box [.pn y 1 0 112, .owz 2]), (2, .arr 5 (.int .u8) o2)] := by
  rw [m_strings_Builder_copyCheck_M] at h
  refine SpecM.enter 100000 [(.box 1 0)] 20 Tryd.func114 rfl rfl rfl rfl (fun L => ?_)
  refine T.seq ?_
  refine T.region ?_
  refine Run.go (Ev.move rfl rfl) ?_
  refine Run.go (Ev.e_nc rfl rfl rfl rfl) ?_
  refine Run.go (Ev.fieldBoxN fo112_0 sz109 rfl rfl rfl rfl) ?_
  refine Run.go (Ev.loadOne sz109 rfl rfl rfl rfl) ?_
  refine Run.go (Ev.e_pnil pt109 (.inl ⟨rfl, rfl⟩) rfl (.pn rfl) rfl rfl) ?_
  refine Run.nil ?_
  refine T.cond rfl (fun hb1 => ?_) (fun hb1 => ?_)
  · replace h := ifT hb1 h
    refine T.region ?_
    refine Run.go (Ev.move rfl rfl) ?_
    refine Run.go (Ev.move rfl rfl) ?_
    refine Run.go (Ev.e_toU up109_168 rfl rfl rfl rfl) ?_
    refine Run.go (Ev.e_noesc ne129 rfl rfl rfl) ?_
    refine Run.go (Ev.e_fromU ul168_109_112_2 rfl rfl rfl) ?_
    refine Run.go (Ev.e_nc rfl rfl rfl rfl) ?_
    refine Run.go (Ev.fieldBoxN fo112_0 sz109 rfl rfl rfl rfl) ?_
    refine Run.do_ (Ev.e_stPn sz109 rfl rfl rfl) ?_
    refine Run.nil ?_
    cases h
    exact FinM.of 100000 [(1, 1), (2, 2)] (inlR.many' (X := X) rfl .nil rfl) rfl rfl rfl rfl ⟨(.inl ⟨rfl, _, rfl, .box, fun _ => rfl⟩), (.inl ⟨rfl, _, rfl, .refl, fun _ => rfl⟩), trivial⟩
  · replace h := ifF hb1 h
    refine T.seq ?_
    refine T.region ?_
    refine Run.go (Ev.move rfl rfl) ?_
    refine Run.go (Ev.e_nc rfl rfl rfl rfl) ?_
    refine Run.go (Ev.fieldBoxN fo112_0 sz109 rfl rfl rfl rfl) ?_
    refine Run.go (Ev.loadOne sz109 rfl rfl rfl rfl) ?_
    refine Run.go (Ev.move rfl rfl) ?_
    refine Run.go (Ev.e_pself pt109 (.inr ⟨rfl, rfl⟩) rfl rfl rfl rfl) ?_
    refine Run.nil ?_
    refine T.condF rfl hb1 ?_
    refine T.skip ?_
    cases h
    exact FinM.of 100000 [(1, 1), (2, 2)] (inlR.many' (X := X) rfl .nil rfl) rfl rfl rfl rfl ⟨(.inl ⟨rfl, _, rfl, .box, fun _ => rfl⟩), (.inl ⟨rfl, _, rfl, .refl, fun _ => rfl⟩), trivial⟩
theorem k_strings_Builder_WriteString_M {p1 : ByteArray} {o1_0 : Bool} {o2 : (List Int)} {y : Bool × (List Int)} (h : m_strings_Builder_WriteString_M p1 o1_0 o2 = some y) : SpecM Tryd.prog 80 [(.box 1 0), (.v .str p1)] [(1, .box [.pn o1_0 1 0 112, .owz 2]), (2, .arr 5 (.int .u8) o2)] (.tup [.v (.int .i64) ((p1.size : Int) : Int), .bot]) [(1, .box [.pn y.1 1 0 112, .owz 4]), (2, .dead), (4, .arr 5 (.int .u8) y.2)] := by
  rw [m_strings_Builder_WriteString_M] at h
  refine SpecM.enter 100000 [(.box 1 0), (.v .str p1)] 19 Tryd.func80 rfl rfl rfl rfl (fun L => ?_)
  refine T.seq ?_
  refine T.region ?_
  refine Run.go (Ev.assign rfl rfl) ?_
  refine Run.go (Ev.assign rfl rfl) ?_
  refine Run.nil ?_
  refine T.seq ?_
  refine T.region ?_
  refine Run.go (Ev.move rfl rfl) ?_
  obtain ⟨x2, e1, h⟩ := bdS h
  refine Run.go (Ev.w2 (Ev.lendM [(1, 1), (2, 2)] [(1, 1), (2, 2)] en114 (k_strings_Builder_copyCheck_M e1) rfl (.cons (.ren rfl) .nil) rfl rfl rfl rfl rfl (A := .tup []) rfl (W := [(1, .box [.pn x2 1 0 112, .owz 2]), (2, .arr 5 (.int .u8) o2)]) rfl rfl)) ?_
  refine Run.nil ?_
  refine T.seq ?_
  refine T.region ?_
  refine Run.go (Ev.move rfl rfl) ?_
  refine Run.go (Ev.move rfl rfl) ?_
  refine Run.go (Ev.e_nc rfl rfl rfl rfl) ?_
  refine Run.go (Ev.fieldBoxN fo112_1 sz110 rfl rfl rfl rfl) ?_
  refine Run.go (Ev.loadCell X rfl rfl rfl rfl rfl rfl) ?_
  refine Run.go (Ev.move rfl rfl) ?_
  obtain ⟨x3, e4, h⟩ := bdS h
  refine Run.go (Ev.e_apZ X 6 e4 rfl rfl rfl rfl rfl rfl rfl rfl) ?_
  refine Run.go (Ev.e_nc rfl rfl rfl rfl) ?_
  refine Run.go (Ev.fieldBoxN fo112_1 sz110 rfl rfl rfl rfl) ?_
  refine Run.do_ (Ev.storeC sz110 rfl rfl rfl rfl rfl rfl) ?_
  refine Run.nil ?_
  refine T.seq ?_
  refine T.region ?_
  refine Run.go (Ev.move rfl rfl) ?_
  refine Run.go (Ev.len X rfl rfl rfl rfl) ?_
  refine Run.go (Ev.assign rfl rfl) ?_
  refine Run.go (Ev.assign rfl rfl) ?_
  refine Run.nil ?_
  refine T.ret ?_
  cases h
  exact FinM.of 100000 [(1, 1), (900002, 2), (6, 4)] (inlR.many' (X := X) rfl (.cons (.tmp rfl) (.cons .bot .nil)) rfl) rfl rfl rfl rfl ⟨(.inl ⟨rfl, _, rfl, .box, fun _ => rfl⟩), (.inr rfl), trivial⟩
theorem k_strings_Builder_String_M {o1_0 : Bool} {o2 : (List Int)} {y : ByteArray} (h : m_strings_Builder_String_M o1_0 o2 = some y) : SpecM Tryd.prog 82 [(.box 1 0)] [(1, .box [.pn o1_0 1 0 112, .owz 2]), (2, .arr 5 (.int .u8) o2)] (.v .str y) [(1, .box [.pn o1_0 1 0 112, .bot]), (2, .dead)] := by
  rw [m_strings_Builder_String_M] at h
  refine SpecM.enter 100000 [(.box 1 0)] 14 Tryd.func82 rfl rfl rfl rfl (fun L => ?_)
  refine T.seq ?_
  refine T.region ?_
  refine Run.go (Ev.assign rfl rfl) ?_
  refine Run.nil ?_
  refine T.seq ?_
  refine T.drawE [([1], []), ([1], []), ([1], []), ([1], []), ([2], []), ([1], []), ([1], []), ([1], []), ([1], []), ([2], []), ([2], [2]), ([], [])] [0, 1, 3, 7, 15, 0, 32, 96, 224, 480, 1023, 2047] (by kernel_rfl) (by kernel_rfl) ?_
  refine RunE.go0 [1] (fun ô hô => Ev.move rfl rfl) rfl rfl ?_
  refine RunE.go0 [1] (fun ô hô => Ev.e_nc rfl (one_box (ka hô rfl rfl)) rfl rfl) rfl rfl ?_
  refine RunE.go0 [1] (fun ô hô => Ev.fieldBoxN fo112_1 sz110 rfl (ka hô rfl rfl) rfl rfl) rfl rfl ?_
  refine RunE.go0 [1] (fun ô hô => Ev.loadCell X rfl (ka hô rfl rfl) rfl rfl rfl rfl) rfl rfl ?_
  rcases boolCases (decide (o2.length = 0)) with hb1 | hb1
  · replace h := ifT hb1 h
    refine RunE.go0 [2] (fun ô hô => Ev.e_usd0 X hb1 rfl (ka hô rfl rfl) rfl) rfl rfl ?_
    refine RunE.go0 [1] (fun ô hô => Ev.move rfl rfl) rfl rfl ?_
    refine RunE.go0 [1] (fun ô hô => Ev.e_nc rfl (one_box (ka hô rfl rfl)) rfl rfl) rfl rfl ?_
    refine RunE.go0 [1] (fun ô hô => Ev.fieldBoxN fo112_1 sz110 rfl (ka hô rfl rfl) rfl rfl) rfl rfl ?_
    refine RunE.go0 [1] (fun ô hô => Ev.loadCell X rfl (ka hô rfl rfl) rfl rfl rfl rfl) rfl rfl ?_
    refine RunE.go0 [2] (fun ô hô => Ev.e_lenZ X rfl (ka hô rfl rfl) rfl rfl) rfl rfl ?_
    refine RunE.go1 [2] (fun ô hô => Ev.e_ust0 (id := 2) hb1 rfl rfl rfl) rfl rfl ?_
    refine RunE.go0 [] (fun ô hô => Ev.assign rfl rfl) rfl rfl ?_
    refine RunE.nil ?_
    refine T.ret ?_
    cases h
    exact FinM.of 100000 [(1, 1), (900002, 2)] (inlR.one' (X := X) rfl (.tmp rfl)) rfl rfl rfl rfl ⟨(.inl ⟨rfl, _, rfl, .box, fun _ => rfl⟩), (.inr rfl), trivial⟩
  · replace h := ifF hb1 h
    refine RunE.go0 [2] (fun ô hô => Ev.e_usd X hb1 rfl (ka hô rfl rfl) rfl) rfl rfl ?_
    refine RunE.go0 [1] (fun ô hô => Ev.move rfl rfl) rfl rfl ?_
    refine RunE.go0 [1] (fun ô hô => Ev.e_nc rfl (one_box (ka hô rfl rfl)) rfl rfl) rfl rfl ?_
    refine RunE.go0 [1] (fun ô hô => Ev.fieldBoxN fo112_1 sz110 rfl (ka hô rfl rfl) rfl rfl) rfl rfl ?_
    refine RunE.go0 [1] (fun ô hô => Ev.loadCell X rfl (ka hô rfl rfl) rfl rfl rfl rfl) rfl rfl ?_
    refine RunE.go0 [2] (fun ô hô => Ev.e_lenZ X rfl (ka hô rfl rfl) rfl rfl) rfl rfl ?_
    obtain ⟨x2, e3, h⟩ := bdS h
    refine RunE.go1 [2] (fun ô hô => Ev.e_ust us162_5 e3 rfl (ka hô rfl rfl) rfl rfl rfl) rfl rfl ?_
    refine RunE.go0 [] (fun ô hô => Ev.assign rfl rfl) rfl rfl ?_
    refine RunE.nil ?_
    refine T.ret ?_
    cases h
    exact FinM.of 100000 [(1, 1), (900002, 2)] (inlR.one' (X := X) rfl (.tmp rfl)) rfl rfl rfl rfl ⟨(.inl ⟨rfl, _, rfl, .box, fun _ => rfl⟩), (.inr rfl), trivial⟩
theorem en115 : Enters Tryd.prog 115 := ⟨_, Tryd.func115, rfl, rfl⟩
theorem k_strings_trimLeftByte {p0 : ByteArray} {p1 : Int} {y : ByteArray} (h : m_strings_trimLeftByte p0 p1 = some y) : Spec Tryd.prog 115 [(.v .str p0), (.v (.int .u8) p1)] (.v .str y) [] := by
  rw [m_strings_trimLeftByte] at h
  refine enterN [(.v .str p0), (.v (.int .u8) p1)] 17 Tryd.func115 rfl rfl rfl ?_
  refine T.seq ?_
  refine T.region ?_
  refine Run.go (Ev.assign rfl rfl) ?_
  refine Run.nil ?_
  obtain ⟨v1, hv, h⟩ := bdS h
  refine T.cut (fun _ : Unit => (⟨[(0, .v .str v1)], [], 17⟩ : St)) (fun _ => True) ?_ (fun _ _ => ?_)
  · replace h := hv
    clear hv
    refine T.block ?_
    refine T.loop (LoopT.ghost (Ghost.only [] [0, 1] rfl) (LoopT.run (fun q : ByteArray => (⟨[(0, .v .str q), (1, .v (.int .u8) p1)], [], 17⟩ : St)) (fun v2 z1 h hz1 => ?_) h))
    rw [m_strings_trimLeftByte_l1] at h
    refine T.seq ?_
    obtain ⟨v3, hv, h⟩ := bdS h
    refine T.cut (fun _ : Unit => (⟨[(0, .v .str v2), (1, .v (.int .u8) p1), (13, .v .bool v3)], [], 17⟩ : St)) (fun _ => True) ?_ (fun _ _ => ?_)
    · replace h := hv
      clear hv
      refine T.region ?_
      refine Run.go (Ev.move rfl rfl) ?_
      refine Run.go (Ev.len X rfl rfl rfl rfl) ?_
      refine Run.go (Ev.int rfl rfl rfl rfl trivial) ?_
      refine Run.go (Ev.move rfl rfl) ?_
      rcases boolCases (decide (0 < (v2.size : Int))) with hb4 | hb4
      · replace h := ifT hb4 h
        refine Run.on rfl rfl rfl hb4 (Ev.move rfl rfl) ?_
        obtain ⟨x5, e6, h⟩ := bdS h
        refine Run.on rfl rfl rfl hb4 (Ev.e_bt X e6 rfl rfl rfl rfl) ?_
        refine Run.on rfl rfl rfl hb4 (Ev.move rfl rfl) ?_
        refine Run.on rfl rfl rfl hb4 (Ev.int rfl rfl rfl rfl trivial) ?_
        refine Run.go (Ev.pickT rfl hb4 rfl rfl) ?_
        refine Run.nil ?_
        cases h
        exact ⟨(), trivial, Ghost.only [] [0, 1, 13] rfl⟩
      · replace h := ifF hb4 h
        refine Run.offT rfl rfl rfl rfl hb4 ?_
        refine Run.offT rfl rfl rfl rfl hb4 ?_
        refine Run.offT rfl rfl rfl rfl hb4 ?_
        refine Run.offT rfl rfl rfl rfl hb4 ?_
        refine Run.go (Ev.pickF rfl hb4 rfl rfl) ?_
        refine Run.nil ?_
        cases h
        exact ⟨(), trivial, Ghost.only [] [0, 1, 13] rfl⟩
    · refine T.cond rfl (fun hb7 => ?_) (fun hb7 => ?_)
      · replace h := ifT hb7 h
        refine T.skip ?_
        refine T.block ?_
        refine T.region ?_
        refine Run.go (Ev.move rfl rfl) ?_
        obtain ⟨x8, e9, h⟩ := bdS h
        refine Run.go (Ev.e_cs X e9 rfl rfl rfl (fun _ _ => cutAt_of rfl) (fun h => by cases h) (fun _ h => by cases h) (fun _ => rfl)) ?_
        refine Run.go (Ev.assign rfl rfl) ?_
        refine Run.nil ?_
        cases h
        exact LoopT.ghost (Ghost.only [] [0, 1] rfl) hz1
      · replace h := ifF hb7 h
        refine T.exit ?_
        cases h
        cases hz1
        exact ⟨(), trivial, Ghost.only [] [0] rfl⟩
  · refine T.seq ?_
    refine T.region ?_
    refine Run.go (Ev.move rfl rfl) ?_
    refine Run.go (Ev.assign rfl rfl) ?_
    refine Run.nil ?_
    refine T.ret ?_
    cases h
    exact Fin.one rfl .v
theorem en81 : Enters Tryd.prog 81 := ⟨_, Tryd.func81, rfl, rfl⟩
theorem k_strings_TrimLeft {p0 : ByteArray} {p1 : ByteArray} {y : ByteArray} (h : m_strings_TrimLeft p0 p1 = some y) : Spec Tryd.prog 81 [(.v .str p0), (.v .str p1)] (.v .str y) [] := by
  rw [m_strings_TrimLeft] at h
  refine enterN [(.v .str p0), (.v .str p1)] 37 Tryd.func81 rfl rfl rfl ?_
  refine T.seq ?_
  refine T.region ?_
  refine Run.go (Ev.assign rfl rfl) ?_
  refine Run.nil ?_
  refine T.seq ?_
  obtain ⟨v1, hv, h⟩ := bdS h
  refine T.cut (fun _ : Unit => (⟨[(0, .v .str p0), (1, .v .str p1), (12, .v .bool v1)], [], 37⟩ : St)) (fun _ => True) ?_ (fun _ _ => ?_)
  · replace h := hv
    clear hv
    refine T.region ?_
    refine Run.go (Ev.move rfl rfl) ?_
    refine Run.go (Ev.strs rfl rfl rfl rfl trivial) ?_
    refine Run.go (Ev.move rfl rfl) ?_
    rcases boolCases (sq p0 (bs [])) with hb2 | hb2
    · replace h := ifT hb2 h
      refine Run.offT rfl rfl rfl rfl hb2 ?_
      refine Run.offT rfl rfl rfl rfl hb2 ?_
      refine Run.go (Ev.pickT rfl hb2 rfl rfl) ?_
      refine Run.nil ?_
      cases h
      exact ⟨(), trivial, Ghost.only [] [0, 1, 12] rfl⟩
    · replace h := ifF hb2 h
      refine Run.on rfl rfl rfl hb2 (Ev.move rfl rfl) ?_
      refine Run.on rfl rfl rfl hb2 (Ev.strs rfl rfl rfl rfl trivial) ?_
      refine Run.go (Ev.pickF rfl hb2 rfl rfl) ?_
      refine Run.nil ?_
      cases h
      exact ⟨(), trivial, Ghost.only [] [0, 1, 12] rfl⟩
  · refine T.cond rfl (fun hb3 => ?_) (fun hb3 => ?_)
    · replace h := ifT hb3 h
      refine T.seq ?_
      refine T.region ?_
      refine Run.go (Ev.move rfl rfl) ?_
      refine Run.go (Ev.assign rfl rfl) ?_
      refine Run.nil ?_
      refine T.ret ?_
      cases h
      exact Fin.one rfl .v
    · replace h := ifF hb3 h
      refine T.skip ?_
      refine T.seq ?_
      obtain ⟨v4, hv, h⟩ := bdS h
      refine T.cut (fun _ : Unit => (⟨[(0, .v .str p0), (1, .v .str p1), (21, .v .bool v4)], [], 37⟩ : St)) (fun _ => True) ?_ (fun _ _ => ?_)
      · replace h := hv
        clear hv
        refine T.region ?_
        refine Run.go (Ev.move rfl rfl) ?_
        refine Run.go (Ev.len X rfl rfl rfl rfl) ?_
        refine Run.go (Ev.int rfl rfl rfl rfl trivial) ?_
        refine Run.go (Ev.move rfl rfl) ?_
        rcases boolCases (decide ((p1.size : Int) = 1)) with hb5 | hb5
        · replace h := ifT hb5 h
          refine Run.on rfl rfl rfl hb5 (Ev.move rfl rfl) ?_
          obtain ⟨x6, e7, h⟩ := bdS h
          refine Run.on rfl rfl rfl hb5 (Ev.e_bt X e7 rfl rfl rfl rfl) ?_
          refine Run.on rfl rfl rfl hb5 (Ev.int rfl rfl rfl rfl trivial) ?_
          refine Run.go (Ev.pickT rfl hb5 rfl rfl) ?_
          refine Run.nil ?_
          cases h
          exact ⟨(), trivial, Ghost.only [] [0, 1, 21] rfl⟩
        · replace h := ifF hb5 h
          refine Run.offT rfl rfl rfl rfl hb5 ?_
          refine Run.offT rfl rfl rfl rfl hb5 ?_
          refine Run.offT rfl rfl rfl rfl hb5 ?_
          refine Run.go (Ev.pickF rfl hb5 rfl rfl) ?_
          refine Run.nil ?_
          cases h
          exact ⟨(), trivial, Ghost.only [] [0, 1, 21] rfl⟩
      · refine T.cond rfl (fun hb8 => ?_) (fun hb8 => ?_)
        · replace h := ifT hb8 h
          refine T.seq ?_
          refine T.region ?_
          refine Run.go (Ev.move rfl rfl) ?_
          refine Run.go (Ev.move rfl rfl) ?_
          obtain ⟨x9, e10, h⟩ := bdS h
          refine Run.go (Ev.e_bt X e10 rfl rfl rfl rfl) ?_
          obtain ⟨x11, e12, h⟩ := bdS h
          refine Run.go (Ev.callC en115 (k_strings_trimLeftByte e12) rfl (.cons .v (.cons .v .nil)) rfl rfl) ?_
          refine Run.go (Ev.assign rfl rfl) ?_
          refine Run.nil ?_
          refine T.ret ?_
          cases h
          exact Fin.one rfl .v
        · replace h := ifF hb8 h
          refine T.skip ?_
          refine T.seq ?_
          refine T.seq ?_
          refine T.region ?_
          refine Run.go (Ev.move rfl rfl) ?_
          cases h
theorem en21 : Enters Tryd.prog 21 := ⟨_, Tryd.func21, rfl, rfl⟩
theorem k_digits_In {p0 : (List Int)} {p1 : Int} {y : ByteArray × Int} (h : m_digits_In p0 p1 = some y) : Spec Tryd.prog 21 [(.v (.sl (.int .u64)) p0), (.v (.int .i64) p1)] (.tup [.v .str y.1, .v (.int .i64) y.2]) [] := by
  rw [m_digits_In] at h
  refine enterN [(.v (.sl (.int .u64)) p0), (.v (.int .i64) p1)] 71 Tryd.func21 rfl rfl rfl ?_
  refine T.seq ?_
  refine T.region ?_
  refine Run.go (Ev.assign rfl rfl) ?_
  refine Run.go (Ev.assign rfl rfl) ?_
  refine Run.nil ?_
  refine T.seq ?_
  refine T.seq ?_
  refine T.region ?_
  refine Run.go (Ev.move rfl rfl) ?_
  obtain ⟨x1, e2, h⟩ := bdS h
  refine Run.go (Ev.callC en71 (k_digits_based e2) rfl (.cons .v .nil) rfl rfl) ?_
  refine Run.go (Ev.assign rfl rfl) ?_
  refine Run.nil ?_
  refine T.seq ?_
  refine T.region ?_
  refine Run.go (Ev.move rfl rfl) ?_
  refine Run.go (Ev.int rfl rfl rfl rfl trivial) ?_
  refine Run.nil ?_
  refine T.cond rfl (fun hb3 => ?_) (fun hb3 => ?_)
  · replace h := ifT hb3 h
    refine T.seq ?_
    refine T.region ?_
    refine Run.go (Ev.move rfl rfl) ?_
    refine Run.go (Ev.assign rfl rfl) ?_
    refine Run.go (Ev.assign rfl rfl) ?_
    refine Run.nil ?_
    refine T.ret ?_
    cases h
    exact Fin.many X rfl (.cons (.tmp .v) (.cons (.tmp .v) .nil)) rfl
  · replace h := ifF hb3 h
    refine T.skip ?_
    refine T.seq ?_
    refine T.region ?_
    refine Run.go (Ev.move rfl rfl) ?_
    obtain ⟨x4, e5, h⟩ := bdS h
    refine Run.go (Ev.callC en76 (k_digits_chunk e5) rfl (.cons .v .nil) rfl rfl) ?_
    refine Run.go (Ev.move rfl rfl) ?_
    refine Run.go (Ev.extract rfl rfl rfl) ?_
    refine Run.go (Ev.extract rfl rfl rfl) ?_
    refine Run.go (Ev.assign rfl rfl) ?_
    refine Run.go (Ev.assign rfl rfl) ?_
    refine Run.nil ?_
    refine T.seq ?_
    refine T.region ?_
    refine Run.go (Ev.assign rfl rfl) ?_
    refine Run.nil ?_
    refine T.seq ?_
    refine T.region ?_
    refine Run.go (Ev.move rfl rfl) ?_
    obtain ⟨x6, e7, h⟩ := bdS h
    refine Run.go (Ev.callC en77 (k_nat_Make e7) rfl (.cons .v .nil) rfl rfl) ?_
    refine Run.go (Ev.move rfl rfl) ?_
    refine Run.go (Ev.extract rfl rfl rfl) ?_
    refine Run.go (Ev.extract rfl rfl rfl) ?_
    refine Run.go (Ev.assign rfl rfl) ?_
    refine Run.go (Ev.assign rfl rfl) ?_
    refine Run.nil ?_
    obtain ⟨v8, hv, h⟩ := bdS h
    refine T.cut (fun _ : Unit => (⟨[(9, .own 2)], [(2, .arr 9 .str v8)], 71⟩ : St)) (fun _ => True) ?_ (fun _ _ => ?_)
    · replace h := hv
      clear hv
      refine T.block ?_
      refine T.loop (LoopT.ghost (Ghost.trans (Ghost.empty 9 19 9 .str rfl rfl) (Ghost.only [(19, 13)] [1, 7, 8, 9, 10] rfl)) (LoopT.run (fun q : (List Int) × (List ByteArray) => (⟨[(1, .v (.int .i64) p1), (7, .v (.int .u64) x4.1), (8, .v (.int .i64) x4.2), (9, .own 13), (10, .v (.sl (.int .u64)) q.1)], [(13, .arr 9 .str q.2)], 71⟩ : St)) (fun q z1 h hz1 => ?_) h))
      obtain ⟨v9, v10⟩ := q
      dsimp only
      rw [m_digits_In_l1] at h
      refine T.seq ?_
      refine T.seq ?_
      refine T.region ?_
      refine Run.go (Ev.move rfl rfl) ?_
      refine Run.go (Ev.len X rfl rfl rfl rfl) ?_
      refine Run.go (Ev.int rfl rfl rfl rfl trivial) ?_
      refine Run.nil ?_
      refine T.cond rfl (fun hb11 => ?_) (fun hb11 => ?_)
      · replace h := ifT hb11 h
        refine T.skip ?_
        refine T.block ?_
        refine T.seq ?_
        refine T.region ?_
        refine Run.go (Ev.move rfl rfl) ?_
        refine Run.go (Ev.move rfl rfl) ?_
        obtain ⟨x12, e13, h⟩ := bdS h
        refine Run.go (Ev.callC en78 (k_divide_Small e13) rfl (.cons .v (.cons .v .nil)) rfl rfl) ?_
        refine Run.go (Ev.move rfl rfl) ?_
        refine Run.go (Ev.extract rfl rfl rfl) ?_
        refine Run.go (Ev.extract rfl rfl rfl) ?_
        refine Run.go (Ev.extract rfl rfl rfl) ?_
        refine Run.go (Ev.assign rfl rfl) ?_
        refine Run.go (Ev.assign rfl rfl) ?_
        refine Run.go (Ev.assign rfl rfl) ?_
        refine Run.nil ?_
        refine T.seq ?_
        refine T.region ?_
        refine Run.go (Ev.move rfl rfl) ?_
        refine Run.go (Ev.move rfl rfl) ?_
        refine Run.go (Ev.move rfl rfl) ?_
        refine Run.go (Ev.move rfl rfl) ?_
        obtain ⟨x14, e15, h⟩ := bdS h
        refine Run.go (Ev.callC en79 (k_digits_piece e15) rfl (.cons .v (.cons .v (.cons .v .nil))) rfl rfl) ?_
        refine Run.go (Ev.build X 20 rfl rfl rfl rfl rfl rfl rfl rfl) ?_
        obtain ⟨x16, e17, h⟩ := bdS h
        refine Run.go (Ev.e_ap X 21 e17 rfl rfl rfl (.own rfl) rfl rfl rfl rfl rfl) ?_
        refine Run.go (Ev.assign rfl rfl) ?_
        refine Run.nil ?_
        refine T.region ?_
        refine Run.go (Ev.move rfl rfl) ?_
        refine Run.go (Ev.assign rfl rfl) ?_
        refine Run.nil ?_
        cases h
        exact LoopT.ghost (Ghost.only [(21, 13)] [1, 7, 8, 9, 10] rfl) hz1
      · replace h := ifF hb11 h
        refine T.exit ?_
        cases h
        cases hz1
        exact ⟨(), trivial, Ghost.only [(13, 2)] [9] rfl⟩
    · refine T.seq ?_
      refine T.region ?_
      refine Run.go (Ev.e_allocB 22 23 5 zs112 rfl rfl rfl) ?_
      refine Run.nil ?_
      obtain ⟨⟨v18, v19⟩, hv, h⟩ := bdS h
      refine T.cut (fun _ : Unit => (⟨[(15, .box 22 0)], [(22, .box [.pn v18 22 0 112, .owz 30]), (30, .arr 5 (.int .u8) v19)], 71⟩ : St)) (fun _ => True) ?_ (fun _ _ => ?_)
      · replace h := hv
        clear hv
        refine T.seq ?_
        refine T.region ?_
        refine Run.go (Ev.move rfl rfl) ?_
        refine Run.go (Ev.e_lenO X rfl rfl rfl rfl) ?_
        refine Run.go (Ev.move rfl rfl) ?_
        refine Run.nil ?_
        refine T.block ?_
        refine T.loop (LoopT.ghost (Ghost.only [(2, 2), (22, 22), (23, 44)] [9, 15, 52, 53] rfl) (LoopT.run (fun q : Int × Bool × (List Int) => (⟨[(9, .own 2), (15, .box 22 0), (52, .v (.int .i64) ((v8.length : Int) : Int)), (53, .v (.int .i64) q.1)], [(2, .arr 9 .str v8), (22, .box [.pn q.2.1 22 0 112, .owz 44]), (44, .arr 5 (.int .u8) q.2.2)], 71⟩ : St)) (fun q z1 h hz1 => ?_) h))
        obtain ⟨v20, v21, v22⟩ := q
        dsimp only
        rw [m_digits_In_l2] at h
        refine T.seq ?_
        refine T.region ?_
        refine Run.go (Ev.int rfl rfl rfl rfl trivial) ?_
        refine Run.nil ?_
        refine T.seq ?_
        refine T.cond rfl (fun hb23 => ?_) (fun hb23 => ?_)
        · replace h := ifT hb23 h
          refine T.skip ?_
          refine T.seq ?_
          refine T.block ?_
          refine T.seq ?_
          refine T.region ?_
          refine Run.go (Ev.move rfl rfl) ?_
          refine Run.go (Ev.assign rfl rfl) ?_
          refine Run.nil ?_
          refine T.region ?_
          refine Run.go (Ev.move rfl rfl) ?_
          refine Run.go (Ev.move rfl rfl) ?_
          refine Run.go (Ev.e_lenO X rfl rfl rfl rfl) ?_
          refine Run.go (Ev.int rfl rfl rfl rfl trivial) ?_
          refine Run.go (Ev.move rfl rfl) ?_
          refine Run.go (Ev.int rfl rfl rfl rfl trivial) ?_
          obtain ⟨x24, e25, h⟩ := bdS h
          refine Run.go (Ev.e_rdO X e25 rfl rfl rfl rfl rfl) ?_
          refine Run.go (Ev.e_ldO X (rdS e25).2 rfl rfl rfl rfl) ?_
          obtain ⟨x27, e26, h⟩ := bdS h
          refine Run.go (Ev.w3 (Ev.lendM [(22, 1), (44, 2)] [(1, 22), (2, 44), (4, 49)] en80 (k_strings_Builder_WriteString_M e26) rfl (.cons (.ren rfl) (.cons (.ren rfl) .nil)) rfl rfl rfl rfl rfl (A := .tup [.v (.int .i64) ((x24.size : Int) : Int), .bot]) rfl (W := [(22, .box [.pn x27.1 22 0 112, .owz 49]), (44, .dead), (49, .arr 5 (.int .u8) x27.2)]) rfl rfl)) ?_
          refine Run.nil ?_
          refine T.region ?_
          refine Run.go (Ev.int rfl rfl rfl rfl trivial) ?_
          refine Run.go (Ev.move rfl rfl) ?_
          refine Run.nil ?_
          cases h
          exact LoopT.ghost (Ghost.only [(2, 2), (22, 22), (49, 44)] [9, 15, 52, 53] rfl) hz1
        · replace h := ifF hb23 h
          refine T.exit ?_
          cases h
          cases hz1
          exact ⟨(), trivial, Ghost.only [(22, 22), (44, 30)] [15] rfl⟩
      · refine T.seq ?_
        refine T.region ?_
        obtain ⟨x29, e28, h⟩ := bdS h
        refine Run.go (Ev.w2 (Ev.lendM [(22, 1), (30, 2)] [(1, 22), (2, 30)] en82 (k_strings_Builder_String_M e28) rfl (.cons (.ren rfl) .nil) rfl rfl rfl rfl rfl (A := .v .str x29) rfl (W := [(22, .box [.pn v18 22 0 112, .bot]), (30, .dead)]) rfl rfl)) ?_
        obtain ⟨x30, e31, h⟩ := bdS h
        refine Run.go (Ev.callC en81 (k_strings_TrimLeft e31) rfl (.cons .v (.cons .v .nil)) rfl rfl) ?_
        refine Run.go (Ev.assign rfl rfl) ?_
        refine Run.nil ?_
        obtain ⟨v32, hv, h⟩ := bdS h
        refine T.cut (fun _ : Unit => (⟨[(17, .v .str v32)], [], 71⟩ : St)) (fun _ => True) ?_ (fun _ _ => ?_)
        · replace h := hv
          clear hv
          refine T.seq ?_
          refine T.region ?_
          refine Run.go (Ev.move rfl rfl) ?_
          refine Run.go (Ev.strs rfl rfl rfl rfl trivial) ?_
          refine Run.nil ?_
          refine T.cond rfl (fun hb33 => ?_) (fun hb33 => ?_)
          · replace h := ifT hb33 h
            refine T.region ?_
            refine Run.go (Ev.assign rfl rfl) ?_
            refine Run.nil ?_
            cases h
            exact ⟨(), trivial, Ghost.only [] [17] rfl⟩
          · replace h := ifF hb33 h
            refine T.skip ?_
            cases h
            exact ⟨(), trivial, Ghost.only [] [17] rfl⟩
        · refine T.seq ?_
          refine T.region ?_
          refine Run.go (Ev.move rfl rfl) ?_
          refine Run.go (Ev.assign rfl rfl) ?_
          refine Run.go (Ev.assign rfl rfl) ?_
          refine Run.nil ?_
          refine T.ret ?_
          cases h
          exact Fin.many X rfl (.cons (.tmp .v) (.cons (.tmp .v) .nil)) rfl
theorem en23 : Enters Tryd.prog 23 := ⟨_, Tryd.func23, rfl, rfl⟩
theorem k_digits_Print {p0 : (List Int)} {y : ByteArray} (h : m_digits_Print p0 = some y) : Spec Tryd.prog 23 [(.v (.sl (.int .u64)) p0)] (.v .str y) [] := by
  rw [m_digits_Print] at h
  refine enterN [(.v (.sl (.int .u64)) p0)] 11 Tryd.func23 rfl rfl rfl ?_
  refine T.seq ?_
  refine T.region ?_
  refine Run.go (Ev.assign rfl rfl) ?_
  refine Run.nil ?_
  refine T.seq ?_
  refine T.region ?_
  refine Run.go (Ev.move rfl rfl) ?_
  obtain ⟨x1, e2, h⟩ := bdS h
  refine Run.go (Ev.callC en21 (k_digits_In e2) rfl (.cons .v (.cons .v .nil)) rfl rfl) ?_
  refine Run.go (Ev.move rfl rfl) ?_
  refine Run.go (Ev.extract rfl rfl rfl) ?_
  refine Run.go (Ev.extract rfl rfl rfl) ?_
  refine Run.go (Ev.assign rfl rfl) ?_
  refine Run.go (Ev.assign rfl rfl) ?_
  refine Run.nil ?_
  refine T.seq ?_
  refine T.region ?_
  refine Run.go (Ev.move rfl rfl) ?_
  refine Run.go (Ev.assign rfl rfl) ?_
  refine Run.nil ?_
  refine T.ret ?_
  cases h
  exact Fin.one rfl .v
theorem en59 : Enters Tryd.prog 59 := ⟨_, Tryd.func59, rfl, rfl⟩
theorem k_whole_Print {p0 : D_api_Int} {y : ByteArray} (h : m_whole_Print p0 = some y) : Spec Tryd.prog 59 [(.v Y_api_Int p0)] (.v .str y) [] := by
  rw [m_whole_Print] at h
  refine enterN [(.v Y_api_Int p0)] 12 Tryd.func59 rfl rfl rfl ?_
  refine T.seq ?_
  refine T.region ?_
  refine Run.go (Ev.box 1 rfl rfl rfl rfl) ?_
  refine Run.go (Ev.assign rfl rfl) ?_
  refine Run.nil ?_
  refine T.seq ?_
  refine T.seq ?_
  refine T.region ?_
  refine Run.go (Ev.fieldBox X rfl rfl rfl rfl rfl) ?_
  refine Run.go (Ev.loadCell X rfl rfl rfl rfl rfl rfl) ?_
  refine Run.nil ?_
  refine T.cond rfl (fun hb1 => ?_) (fun hb1 => ?_)
  · replace h := ifT hb1 h
    refine T.seq ?_
    refine T.region ?_
    refine Run.go (Ev.fieldBox X rfl rfl rfl rfl rfl) ?_
    refine Run.go (Ev.loadCell X rfl rfl rfl rfl rfl rfl) ?_
    obtain ⟨x2, e3, h⟩ := bdS h
    refine Run.go (Ev.callC en23 (k_digits_Print e3) rfl (.cons .v .nil) rfl rfl) ?_
    obtain ⟨x4, e5, h⟩ := bdS h
    refine Run.go (Ev.e_cat e5 rfl rfl rfl) ?_
    refine Run.go (Ev.assign rfl rfl) ?_
    refine Run.nil ?_
    refine T.ret ?_
    cases h
    exact Fin.one rfl .v
  · replace h := ifF hb1 h
    refine T.skip ?_
    refine T.seq ?_
    refine T.region ?_
    refine Run.go (Ev.fieldBox X rfl rfl rfl rfl rfl) ?_
    refine Run.go (Ev.loadCell X rfl rfl rfl rfl rfl rfl) ?_
    obtain ⟨x6, e7, h⟩ := bdS h
    refine Run.go (Ev.callC en23 (k_digits_Print e7) rfl (.cons .v .nil) rfl rfl) ?_
    refine Run.go (Ev.assign rfl rfl) ?_
    refine Run.nil ?_
    refine T.ret ?_
    cases h
    exact Fin.one rfl .v
theorem en53 : Enters Tryd.prog 53 := ⟨_, Tryd.func53, rfl, rfl⟩
theorem k_triviumlaw07_works  {y : Bool} (h : m_triviumlaw07_works  = some y) : Spec Tryd.prog 53 [] (.v .bool y) [] := by
  rw [m_triviumlaw07_works] at h
  refine enterN [] 23 Tryd.func53 rfl rfl rfl ?_
  refine T.seq ?_
  refine T.region ?_
  refine Run.go (Ev.assign rfl rfl) ?_
  refine Run.nil ?_
  refine T.seq ?_
  refine T.region ?_
  obtain ⟨x1, e2, h⟩ := bdS h
  refine Run.go (Ev.callC en45 (k_whole_Of e2) rfl (.cons .v .nil) rfl rfl) ?_
  obtain ⟨x3, e4, h⟩ := bdS h
  refine Run.go (Ev.callC en45 (k_whole_Of e4) rfl (.cons .v .nil) rfl rfl) ?_
  obtain ⟨x5, e6, h⟩ := bdS h
  refine Run.go (Ev.callC en54 (k_whole_Floor e6) rfl (.cons .v (.cons .v .nil)) rfl rfl) ?_
  refine Run.go (Ev.move rfl rfl) ?_
  refine Run.go (Ev.extract rfl rfl rfl) ?_
  refine Run.go (Ev.extract rfl rfl rfl) ?_
  refine Run.go (Ev.extract rfl rfl rfl) ?_
  refine Run.go (Ev.allocN X 1 rfl rfl rfl) ?_
  refine Run.go (Ev.allocN X 2 rfl rfl rfl) ?_
  refine Run.do_ (Ev.storeBox X rfl rfl rfl rfl rfl rfl rfl) ?_
  refine Run.do_ (Ev.storeBox X rfl rfl rfl rfl rfl rfl rfl) ?_
  refine Run.go (Ev.assign rfl rfl) ?_
  refine Run.nil ?_
  refine T.seq ?_
  refine T.region ?_
  refine Run.go (Ev.move rfl rfl) ?_
  refine Run.go (Ev.int rfl rfl rfl rfl trivial) ?_
  refine Run.go (Ev.move rfl rfl) ?_
  rcases boolCases (decide (x5.2.2 = 0)) with hb7 | hb7
  · replace h := ifT hb7 h
    refine Run.on rfl rfl rfl hb7 (Ev.loadBox X rfl rfl rfl rfl rfl) ?_
    obtain ⟨x8, e9, h⟩ := bdS h
    refine Run.on rfl rfl rfl hb7 (Ev.callC en59 (k_whole_Print e9) rfl (.cons .v .nil) rfl rfl) ?_
    refine Run.on rfl rfl rfl hb7 (Ev.strs rfl rfl rfl rfl trivial) ?_
    refine Run.go (Ev.pickT rfl hb7 rfl rfl) ?_
    refine Run.go (Ev.move rfl rfl) ?_
    rcases boolCases (sq x8 (bs [45, 52])) with hb10 | hb10
    · replace h := ifT hb10 h
      refine Run.on rfl rfl rfl hb10 (Ev.loadBox X rfl rfl rfl rfl rfl) ?_
      obtain ⟨x11, e12, h⟩ := bdS h
      refine Run.on rfl rfl rfl hb10 (Ev.callC en59 (k_whole_Print e12) rfl (.cons .v .nil) rfl rfl) ?_
      refine Run.on rfl rfl rfl hb10 (Ev.strs rfl rfl rfl rfl trivial) ?_
      refine Run.go (Ev.pickT rfl hb10 rfl rfl) ?_
      refine Run.go (Ev.assign rfl rfl) ?_
      refine Run.nil ?_
      refine T.ret ?_
      cases h
      exact Fin.one rfl .v
    · replace h := ifF hb10 h
      refine Run.offT rfl rfl rfl rfl hb10 ?_
      refine Run.offT rfl rfl rfl rfl hb10 ?_
      refine Run.offT rfl rfl rfl rfl hb10 ?_
      refine Run.go (Ev.pickF rfl hb10 rfl rfl) ?_
      refine Run.go (Ev.assign rfl rfl) ?_
      refine Run.nil ?_
      refine T.ret ?_
      cases h
      exact Fin.one rfl .v
  · replace h := ifF hb7 h
    refine Run.offT rfl rfl rfl rfl hb7 ?_
    refine Run.offT rfl rfl rfl rfl hb7 ?_
    refine Run.offT rfl rfl rfl rfl hb7 ?_
    refine Run.go (Ev.pickF rfl hb7 rfl rfl) ?_
    refine Run.go (Ev.move rfl rfl) ?_
    refine Run.offT rfl rfl rfl rfl rfl ?_
    refine Run.offT rfl rfl rfl rfl rfl ?_
    refine Run.offT rfl rfl rfl rfl rfl ?_
    refine Run.go (Ev.pickF rfl rfl rfl rfl) ?_
    refine Run.go (Ev.assign rfl rfl) ?_
    refine Run.nil ?_
    refine T.ret ?_
    cases h
    exact Fin.one rfl .v
theorem en13 : Enters Tryd.prog 13 := ⟨_, Tryd.func13, rfl, rfl⟩
theorem k_triviumlaw07_WholeAdds {p0 : D_api_Int} {p1 : D_api_Int} {y : Bool} (h : m_triviumlaw07_WholeAdds p0 p1 = some y) : Spec Tryd.prog 13 [(.v Y_api_Int p0), (.v Y_api_Int p1)] (.v .bool y) [] := by
  rw [m_triviumlaw07_WholeAdds] at h
  refine enterN [(.v Y_api_Int p0), (.v Y_api_Int p1)] 70 Tryd.func13 rfl rfl rfl ?_
  refine T.seq ?_
  refine T.region ?_
  refine Run.go (Ev.box 1 rfl rfl rfl rfl) ?_
  refine Run.go (Ev.box 2 rfl rfl rfl rfl) ?_
  refine Run.go (Ev.assign rfl rfl) ?_
  refine Run.nil ?_
  refine T.seq ?_
  refine T.drawM [4, 5] [0, 1, 0, 7, 15, 31] (by kernel_rfl) (by kernel_rfl) ?_
  refine RunD.a rfl rfl (Ev.loadBox X rfl rfl rfl rfl rfl) ?_
  obtain ⟨x1, e2, h⟩ := bdS h
  refine RunD.a rfl rfl (Ev.callC en42 (k_triviumref07_Clean e2) rfl (.cons .v (.cons .v .nil)) rfl rfl) ?_
  refine RunD.a rfl rfl (Ev.loadBox X rfl rfl rfl rfl rfl) ?_
  obtain ⟨x3, e4, h⟩ := bdS h
  refine RunD.a rfl rfl (Ev.callC en42 (k_triviumref07_Clean e4) rfl (.cons .v (.cons .v .nil)) rfl rfl) ?_
  refine RunD.mN rfl (Ev.storeBox X rfl rfl rfl rfl rfl rfl rfl) ?_
  refine RunD.mN rfl (Ev.storeBox X rfl rfl rfl rfl rfl rfl rfl) ?_
  refine RunD.nil ?_
  refine T.seq ?_
  refine T.drawE [([1], []), ([], []), ([2], []), ([], []), ([5], [5]), ([6], [6]), ([5], [5]), ([6], [6])] [0, 1, 0, 7, 0, 0, 63, 127] (by kernel_rfl) (by kernel_rfl) ?_
  refine RunE.go0 [1] (fun ô hô => Ev.loadBox X rfl (ka hô rfl rfl) rfl rfl rfl) rfl rfl ?_
  obtain ⟨x5, e6, h⟩ := bdS h
  refine RunE.go0 [] (fun ô hô => Ev.callC en44 (k_triviumref07_Of e6) rfl (.cons .v .nil) rfl rfl) rfl rfl ?_
  refine RunE.go0 [2] (fun ô hô => Ev.loadBox X rfl (ka hô rfl rfl) rfl rfl rfl) rfl rfl ?_
  obtain ⟨x7, e8, h⟩ := bdS h
  refine RunE.go0 [] (fun ô hô => Ev.callC en44 (k_triviumref07_Of e8) rfl (.cons .v .nil) rfl rfl) rfl rfl ?_
  refine RunE.go1 [5] (fun ô hô => Ev.allocN X 5 rfl (ka hô rfl rfl) rfl) rfl rfl ?_
  refine RunE.go1 [6] (fun ô hô => Ev.allocN X 6 rfl (ka hô rfl rfl) rfl) rfl rfl ?_
  refine RunE.do1 [5] (fun ô hô => Ev.storeBox X rfl (ka hô rfl rfl) rfl rfl rfl rfl rfl) rfl rfl ?_
  refine RunE.do1 [6] (fun ô hô => Ev.storeBox X rfl (ka hô rfl rfl) rfl rfl rfl rfl rfl) rfl rfl ?_
  refine RunE.nil ?_
  refine T.seq ?_
  refine T.drawM [] [0, 0, 3, 0, 0, 31, 63, 127, 255, 511, 511, 2047, 511, 511, 16383, 32767, 65535, 131071, 262143, 524287, 524287, 2097151, 524287, 524287, 16777215, 33554431, 67108863, 134217727, 268435455, 536870911, 1073741823, 536870911, 4294967295, 8589934591, 17179869183, 34359738367, 68719476735, 137438953471, 137438953471, 549755813887, 137438953471, 137438953471, 4398046511103, 8796093022207, 17592186044415, 35184372088831, 70368744177663, 140737488355327, 70368744177663, 562949953421311, 1125899906842623, 2251799813685247, 4503599627370495, 9007199254740991, 18014398509481983, 36028797018963967] (by kernel_rfl) (by kernel_rfl) ?_
  refine RunD.a rfl rfl (Ev.loadBox X rfl rfl rfl rfl rfl) ?_
  refine RunD.a rfl rfl (Ev.loadBox X rfl rfl rfl rfl rfl) ?_
  obtain ⟨x9, e10, h⟩ := bdS h
  refine RunD.a rfl rfl (Ev.callC en61 (k_whole_Add e10) rfl (.cons .v (.cons .v .nil)) rfl rfl) ?_
  refine RunD.a rfl rfl (Ev.loadBox X rfl rfl rfl rfl rfl) ?_
  refine RunD.a rfl rfl (Ev.loadBox X rfl rfl rfl rfl rfl) ?_
  obtain ⟨x11, e12, h⟩ := bdS h
  refine RunD.a rfl rfl (Ev.callC en43 (k_triviumref07_Add e12) rfl (.cons .v (.cons .v .nil)) rfl rfl) ?_
  obtain ⟨x13, e14, h⟩ := bdS h
  refine RunD.a rfl rfl (Ev.callC en52 (k_triviumref07_Back e14) rfl (.cons .v .nil) rfl rfl) ?_
  obtain ⟨x15, e16, h⟩ := bdS h
  refine RunD.a rfl rfl (Ev.callC en49 (k_triviumref07_Same e16) rfl (.cons .v (.cons .v .nil)) rfl rfl) ?_
  refine RunD.w (fun _ => Ev.move rfl rfl) ?_
  rcases boolCases x15 with hb17 | hb17
  · replace h := ifT hb17 h
    refine RunD.on rfl rfl rfl hb17 rfl (fun ô hô => by obtain rfl := hô.resolve_left (by decide); exact Ev.loadBox X rfl rfl rfl rfl rfl) ?_
    refine RunD.on rfl rfl rfl hb17 rfl (fun ô hô => by obtain rfl := hô.resolve_left (by decide); exact Ev.loadBox X rfl rfl rfl rfl rfl) ?_
    obtain ⟨x18, e19, h⟩ := bdS h
    refine RunD.on rfl rfl rfl hb17 rfl (fun ô hô => by obtain rfl := hô.resolve_left (by decide); exact Ev.callC en62 (k_whole_Sub e19) rfl (.cons .v (.cons .v .nil)) rfl rfl) ?_
    refine RunD.on rfl rfl rfl hb17 rfl (fun ô hô => by obtain rfl := hô.resolve_left (by decide); exact Ev.loadBox X rfl rfl rfl rfl rfl) ?_
    refine RunD.on rfl rfl rfl hb17 rfl (fun ô hô => by obtain rfl := hô.resolve_left (by decide); exact Ev.loadBox X rfl rfl rfl rfl rfl) ?_
    obtain ⟨x20, e21, h⟩ := bdS h
    refine RunD.on rfl rfl rfl hb17 rfl (fun ô hô => by obtain rfl := hô.resolve_left (by decide); exact Ev.callC en63 (k_triviumref07_Sub e21) rfl (.cons .v (.cons .v .nil)) rfl rfl) ?_
    obtain ⟨x22, e23, h⟩ := bdS h
    refine RunD.on rfl rfl rfl hb17 rfl (fun ô hô => by obtain rfl := hô.resolve_left (by decide); exact Ev.callC en52 (k_triviumref07_Back e23) rfl (.cons .v .nil) rfl rfl) ?_
    obtain ⟨x24, e25, h⟩ := bdS h
    refine RunD.on rfl rfl rfl hb17 rfl (fun ô hô => by obtain rfl := hô.resolve_left (by decide); exact Ev.callC en49 (k_triviumref07_Same e25) rfl (.cons .v (.cons .v .nil)) rfl rfl) ?_
    refine RunD.w (fun _ => Ev.pickT rfl hb17 rfl rfl) ?_
    refine RunD.w (fun _ => Ev.move rfl rfl) ?_
    rcases boolCases x24 with hb26 | hb26
    · replace h := ifT hb26 h
      refine RunD.on rfl rfl rfl hb26 rfl (fun ô hô => by obtain rfl := hô.resolve_left (by decide); exact Ev.loadBox X rfl rfl rfl rfl rfl) ?_
      refine RunD.on rfl rfl rfl hb26 rfl (fun ô hô => by obtain rfl := hô.resolve_left (by decide); exact Ev.loadBox X rfl rfl rfl rfl rfl) ?_
      obtain ⟨x27, e28, h⟩ := bdS h
      refine RunD.on rfl rfl rfl hb26 rfl (fun ô hô => by obtain rfl := hô.resolve_left (by decide); exact Ev.callC en64 (k_whole_Mul e28) rfl (.cons .v (.cons .v .nil)) rfl rfl) ?_
      refine RunD.on rfl rfl rfl hb26 rfl (fun ô hô => by obtain rfl := hô.resolve_left (by decide); exact Ev.loadBox X rfl rfl rfl rfl rfl) ?_
      refine RunD.on rfl rfl rfl hb26 rfl (fun ô hô => by obtain rfl := hô.resolve_left (by decide); exact Ev.loadBox X rfl rfl rfl rfl rfl) ?_
      obtain ⟨x29, e30, h⟩ := bdS h
      refine RunD.on rfl rfl rfl hb26 rfl (fun ô hô => by obtain rfl := hô.resolve_left (by decide); exact Ev.callC en65 (k_triviumref07_Mul e30) rfl (.cons .v (.cons .v .nil)) rfl rfl) ?_
      obtain ⟨x31, e32, h⟩ := bdS h
      refine RunD.on rfl rfl rfl hb26 rfl (fun ô hô => by obtain rfl := hô.resolve_left (by decide); exact Ev.callC en52 (k_triviumref07_Back e32) rfl (.cons .v .nil) rfl rfl) ?_
      obtain ⟨x33, e34, h⟩ := bdS h
      refine RunD.on rfl rfl rfl hb26 rfl (fun ô hô => by obtain rfl := hô.resolve_left (by decide); exact Ev.callC en49 (k_triviumref07_Same e34) rfl (.cons .v (.cons .v .nil)) rfl rfl) ?_
      refine RunD.w (fun _ => Ev.pickT rfl hb26 rfl rfl) ?_
      refine RunD.w (fun _ => Ev.move rfl rfl) ?_
      rcases boolCases x33 with hb35 | hb35
      · replace h := ifT hb35 h
        refine RunD.on rfl rfl rfl hb35 rfl (fun ô hô => by obtain rfl := hô.resolve_left (by decide); exact Ev.loadBox X rfl rfl rfl rfl rfl) ?_
        obtain ⟨x36, e37, h⟩ := bdS h
        refine RunD.on rfl rfl rfl hb35 rfl (fun ô hô => by obtain rfl := hô.resolve_left (by decide); exact Ev.callC en66 (k_whole_Neg e37) rfl (.cons .v .nil) rfl rfl) ?_
        refine RunD.on rfl rfl rfl hb35 rfl (fun ô hô => by obtain rfl := hô.resolve_left (by decide); exact Ev.loadBox X rfl rfl rfl rfl rfl) ?_
        obtain ⟨x38, e39, h⟩ := bdS h
        refine RunD.on rfl rfl rfl hb35 rfl (fun ô hô => by obtain rfl := hô.resolve_left (by decide); exact Ev.callC en67 (k_triviumref07_Neg e39) rfl (.cons .v .nil) rfl rfl) ?_
        obtain ⟨x40, e41, h⟩ := bdS h
        refine RunD.on rfl rfl rfl hb35 rfl (fun ô hô => by obtain rfl := hô.resolve_left (by decide); exact Ev.callC en52 (k_triviumref07_Back e41) rfl (.cons .v .nil) rfl rfl) ?_
        obtain ⟨x42, e43, h⟩ := bdS h
        refine RunD.on rfl rfl rfl hb35 rfl (fun ô hô => by obtain rfl := hô.resolve_left (by decide); exact Ev.callC en49 (k_triviumref07_Same e43) rfl (.cons .v (.cons .v .nil)) rfl rfl) ?_
        refine RunD.w (fun _ => Ev.pickT rfl hb35 rfl rfl) ?_
        refine RunD.w (fun _ => Ev.move rfl rfl) ?_
        rcases boolCases x42 with hb44 | hb44
        · replace h := ifT hb44 h
          refine RunD.on rfl rfl rfl hb44 rfl (fun ô hô => by obtain rfl := hô.resolve_left (by decide); exact Ev.loadBox X rfl rfl rfl rfl rfl) ?_
          refine RunD.on rfl rfl rfl hb44 rfl (fun ô hô => by obtain rfl := hô.resolve_left (by decide); exact Ev.loadBox X rfl rfl rfl rfl rfl) ?_
          obtain ⟨x45, e46, h⟩ := bdS h
          refine RunD.on rfl rfl rfl hb44 rfl (fun ô hô => by obtain rfl := hô.resolve_left (by decide); exact Ev.callC en68 (k_whole_Cmp e46) rfl (.cons .v (.cons .v .nil)) rfl rfl) ?_
          refine RunD.on rfl rfl rfl hb44 rfl (fun ô hô => by obtain rfl := hô.resolve_left (by decide); exact Ev.loadBox X rfl rfl rfl rfl rfl) ?_
          refine RunD.on rfl rfl rfl hb44 rfl (fun ô hô => by obtain rfl := hô.resolve_left (by decide); exact Ev.loadBox X rfl rfl rfl rfl rfl) ?_
          obtain ⟨x47, e48, h⟩ := bdS h
          refine RunD.on rfl rfl rfl hb44 rfl (fun ô hô => by obtain rfl := hô.resolve_left (by decide); exact Ev.callC en69 (k_triviumref07_Cmp e48) rfl (.cons .v (.cons .v .nil)) rfl rfl) ?_
          refine RunD.on rfl rfl rfl hb44 rfl (fun _ _ => Ev.int rfl rfl rfl rfl trivial) ?_
          refine RunD.w (fun _ => Ev.pickT rfl hb44 rfl rfl) ?_
          refine RunD.w (fun _ => Ev.move rfl rfl) ?_
          rcases boolCases (decide (x45 = x47)) with hb49 | hb49
          · replace h := ifT hb49 h
            refine RunD.on rfl rfl rfl hb49 rfl (fun ô hô => by obtain rfl := hô.resolve_left (by decide); exact Ev.loadBox X rfl rfl rfl rfl rfl) ?_
            obtain ⟨x50, e51, h⟩ := bdS h
            refine RunD.on rfl rfl rfl hb49 rfl (fun ô hô => by obtain rfl := hô.resolve_left (by decide); exact Ev.callC en70 (k_whole_Sign e51) rfl (.cons .v .nil) rfl rfl) ?_
            refine RunD.on rfl rfl rfl hb49 rfl (fun ô hô => by obtain rfl := hô.resolve_left (by decide); exact Ev.loadBox X rfl rfl rfl rfl rfl) ?_
            obtain ⟨x52, e53, h⟩ := bdS h
            refine RunD.on rfl rfl rfl hb49 rfl (fun ô hô => by obtain rfl := hô.resolve_left (by decide); exact Ev.callC en57 (k_triviumref07_Sign e53) rfl (.cons .v .nil) rfl rfl) ?_
            refine RunD.on rfl rfl rfl hb49 rfl (fun _ _ => Ev.int rfl rfl rfl rfl trivial) ?_
            refine RunD.w (fun _ => Ev.pickT rfl hb49 rfl rfl) ?_
            refine RunD.w (fun _ => Ev.move rfl rfl) ?_
            rcases boolCases (decide (x50 = x52)) with hb54 | hb54
            · replace h := ifT hb54 h
              obtain ⟨x55, e56, h⟩ := bdS h
              refine RunD.on rfl rfl rfl hb54 rfl (fun ô hô => by obtain rfl := hô.resolve_left (by decide); exact Ev.callC en53 (k_triviumlaw07_works e56) rfl .nil rfl rfl) ?_
              refine RunD.w (fun _ => Ev.pickT rfl hb54 rfl rfl) ?_
              refine RunD.w (fun _ => Ev.assign rfl rfl) ?_
              refine RunD.nil ?_
              refine T.ret ?_
              cases h
              exact Fin.one rfl .v
            · replace h := ifF hb54 h
              refine RunD.offT rfl rfl rfl rfl hb54 ?_
              refine RunD.w (fun _ => Ev.pickF rfl hb54 rfl rfl) ?_
              refine RunD.w (fun _ => Ev.assign rfl rfl) ?_
              refine RunD.nil ?_
              refine T.ret ?_
              cases h
              exact Fin.one rfl .v
          · replace h := ifF hb49 h
            refine RunD.offT rfl rfl rfl rfl hb49 ?_
            refine RunD.offT rfl rfl rfl rfl hb49 ?_
            refine RunD.offT rfl rfl rfl rfl hb49 ?_
            refine RunD.offT rfl rfl rfl rfl hb49 ?_
            refine RunD.offT rfl rfl rfl rfl hb49 ?_
            refine RunD.w (fun _ => Ev.pickF rfl hb49 rfl rfl) ?_
            refine RunD.w (fun _ => Ev.move rfl rfl) ?_
            refine RunD.offT rfl rfl rfl rfl rfl ?_
            refine RunD.w (fun _ => Ev.pickF rfl rfl rfl rfl) ?_
            refine RunD.w (fun _ => Ev.assign rfl rfl) ?_
            refine RunD.nil ?_
            refine T.ret ?_
            cases h
            exact Fin.one rfl .v
        · replace h := ifF hb44 h
          refine RunD.offT rfl rfl rfl rfl hb44 ?_
          refine RunD.offT rfl rfl rfl rfl hb44 ?_
          refine RunD.offT rfl rfl rfl rfl hb44 ?_
          refine RunD.offT rfl rfl rfl rfl hb44 ?_
          refine RunD.offT rfl rfl rfl rfl hb44 ?_
          refine RunD.offT rfl rfl rfl rfl hb44 ?_
          refine RunD.offT rfl rfl rfl rfl hb44 ?_
          refine RunD.w (fun _ => Ev.pickF rfl hb44 rfl rfl) ?_
          refine RunD.w (fun _ => Ev.move rfl rfl) ?_
          refine RunD.offT rfl rfl rfl rfl rfl ?_
          refine RunD.offT rfl rfl rfl rfl rfl ?_
          refine RunD.offT rfl rfl rfl rfl rfl ?_
          refine RunD.offT rfl rfl rfl rfl rfl ?_
          refine RunD.offT rfl rfl rfl rfl rfl ?_
          refine RunD.w (fun _ => Ev.pickF rfl rfl rfl rfl) ?_
          refine RunD.w (fun _ => Ev.move rfl rfl) ?_
          refine RunD.offT rfl rfl rfl rfl rfl ?_
          refine RunD.w (fun _ => Ev.pickF rfl rfl rfl rfl) ?_
          refine RunD.w (fun _ => Ev.assign rfl rfl) ?_
          refine RunD.nil ?_
          refine T.ret ?_
          cases h
          exact Fin.one rfl .v
      · replace h := ifF hb35 h
        refine RunD.offT rfl rfl rfl rfl hb35 ?_
        refine RunD.offT rfl rfl rfl rfl hb35 ?_
        refine RunD.offT rfl rfl rfl rfl hb35 ?_
        refine RunD.offT rfl rfl rfl rfl hb35 ?_
        refine RunD.offT rfl rfl rfl rfl hb35 ?_
        refine RunD.offT rfl rfl rfl rfl hb35 ?_
        refine RunD.w (fun _ => Ev.pickF rfl hb35 rfl rfl) ?_
        refine RunD.w (fun _ => Ev.move rfl rfl) ?_
        refine RunD.offT rfl rfl rfl rfl rfl ?_
        refine RunD.offT rfl rfl rfl rfl rfl ?_
        refine RunD.offT rfl rfl rfl rfl rfl ?_
        refine RunD.offT rfl rfl rfl rfl rfl ?_
        refine RunD.offT rfl rfl rfl rfl rfl ?_
        refine RunD.offT rfl rfl rfl rfl rfl ?_
        refine RunD.offT rfl rfl rfl rfl rfl ?_
        refine RunD.w (fun _ => Ev.pickF rfl rfl rfl rfl) ?_
        refine RunD.w (fun _ => Ev.move rfl rfl) ?_
        refine RunD.offT rfl rfl rfl rfl rfl ?_
        refine RunD.offT rfl rfl rfl rfl rfl ?_
        refine RunD.offT rfl rfl rfl rfl rfl ?_
        refine RunD.offT rfl rfl rfl rfl rfl ?_
        refine RunD.offT rfl rfl rfl rfl rfl ?_
        refine RunD.w (fun _ => Ev.pickF rfl rfl rfl rfl) ?_
        refine RunD.w (fun _ => Ev.move rfl rfl) ?_
        refine RunD.offT rfl rfl rfl rfl rfl ?_
        refine RunD.w (fun _ => Ev.pickF rfl rfl rfl rfl) ?_
        refine RunD.w (fun _ => Ev.assign rfl rfl) ?_
        refine RunD.nil ?_
        refine T.ret ?_
        cases h
        exact Fin.one rfl .v
    · replace h := ifF hb26 h
      refine RunD.offT rfl rfl rfl rfl hb26 ?_
      refine RunD.offT rfl rfl rfl rfl hb26 ?_
      refine RunD.offT rfl rfl rfl rfl hb26 ?_
      refine RunD.offT rfl rfl rfl rfl hb26 ?_
      refine RunD.offT rfl rfl rfl rfl hb26 ?_
      refine RunD.offT rfl rfl rfl rfl hb26 ?_
      refine RunD.offT rfl rfl rfl rfl hb26 ?_
      refine RunD.offT rfl rfl rfl rfl hb26 ?_
      refine RunD.w (fun _ => Ev.pickF rfl hb26 rfl rfl) ?_
      refine RunD.w (fun _ => Ev.move rfl rfl) ?_
      refine RunD.offT rfl rfl rfl rfl rfl ?_
      refine RunD.offT rfl rfl rfl rfl rfl ?_
      refine RunD.offT rfl rfl rfl rfl rfl ?_
      refine RunD.offT rfl rfl rfl rfl rfl ?_
      refine RunD.offT rfl rfl rfl rfl rfl ?_
      refine RunD.offT rfl rfl rfl rfl rfl ?_
      refine RunD.w (fun _ => Ev.pickF rfl rfl rfl rfl) ?_
      refine RunD.w (fun _ => Ev.move rfl rfl) ?_
      refine RunD.offT rfl rfl rfl rfl rfl ?_
      refine RunD.offT rfl rfl rfl rfl rfl ?_
      refine RunD.offT rfl rfl rfl rfl rfl ?_
      refine RunD.offT rfl rfl rfl rfl rfl ?_
      refine RunD.offT rfl rfl rfl rfl rfl ?_
      refine RunD.offT rfl rfl rfl rfl rfl ?_
      refine RunD.offT rfl rfl rfl rfl rfl ?_
      refine RunD.w (fun _ => Ev.pickF rfl rfl rfl rfl) ?_
      refine RunD.w (fun _ => Ev.move rfl rfl) ?_
      refine RunD.offT rfl rfl rfl rfl rfl ?_
      refine RunD.offT rfl rfl rfl rfl rfl ?_
      refine RunD.offT rfl rfl rfl rfl rfl ?_
      refine RunD.offT rfl rfl rfl rfl rfl ?_
      refine RunD.offT rfl rfl rfl rfl rfl ?_
      refine RunD.w (fun _ => Ev.pickF rfl rfl rfl rfl) ?_
      refine RunD.w (fun _ => Ev.move rfl rfl) ?_
      refine RunD.offT rfl rfl rfl rfl rfl ?_
      refine RunD.w (fun _ => Ev.pickF rfl rfl rfl rfl) ?_
      refine RunD.w (fun _ => Ev.assign rfl rfl) ?_
      refine RunD.nil ?_
      refine T.ret ?_
      cases h
      exact Fin.one rfl .v
  · replace h := ifF hb17 h
    refine RunD.offT rfl rfl rfl rfl hb17 ?_
    refine RunD.offT rfl rfl rfl rfl hb17 ?_
    refine RunD.offT rfl rfl rfl rfl hb17 ?_
    refine RunD.offT rfl rfl rfl rfl hb17 ?_
    refine RunD.offT rfl rfl rfl rfl hb17 ?_
    refine RunD.offT rfl rfl rfl rfl hb17 ?_
    refine RunD.offT rfl rfl rfl rfl hb17 ?_
    refine RunD.offT rfl rfl rfl rfl hb17 ?_
    refine RunD.w (fun _ => Ev.pickF rfl hb17 rfl rfl) ?_
    refine RunD.w (fun _ => Ev.move rfl rfl) ?_
    refine RunD.offT rfl rfl rfl rfl rfl ?_
    refine RunD.offT rfl rfl rfl rfl rfl ?_
    refine RunD.offT rfl rfl rfl rfl rfl ?_
    refine RunD.offT rfl rfl rfl rfl rfl ?_
    refine RunD.offT rfl rfl rfl rfl rfl ?_
    refine RunD.offT rfl rfl rfl rfl rfl ?_
    refine RunD.offT rfl rfl rfl rfl rfl ?_
    refine RunD.offT rfl rfl rfl rfl rfl ?_
    refine RunD.w (fun _ => Ev.pickF rfl rfl rfl rfl) ?_
    refine RunD.w (fun _ => Ev.move rfl rfl) ?_
    refine RunD.offT rfl rfl rfl rfl rfl ?_
    refine RunD.offT rfl rfl rfl rfl rfl ?_
    refine RunD.offT rfl rfl rfl rfl rfl ?_
    refine RunD.offT rfl rfl rfl rfl rfl ?_
    refine RunD.offT rfl rfl rfl rfl rfl ?_
    refine RunD.offT rfl rfl rfl rfl rfl ?_
    refine RunD.w (fun _ => Ev.pickF rfl rfl rfl rfl) ?_
    refine RunD.w (fun _ => Ev.move rfl rfl) ?_
    refine RunD.offT rfl rfl rfl rfl rfl ?_
    refine RunD.offT rfl rfl rfl rfl rfl ?_
    refine RunD.offT rfl rfl rfl rfl rfl ?_
    refine RunD.offT rfl rfl rfl rfl rfl ?_
    refine RunD.offT rfl rfl rfl rfl rfl ?_
    refine RunD.offT rfl rfl rfl rfl rfl ?_
    refine RunD.offT rfl rfl rfl rfl rfl ?_
    refine RunD.w (fun _ => Ev.pickF rfl rfl rfl rfl) ?_
    refine RunD.w (fun _ => Ev.move rfl rfl) ?_
    refine RunD.offT rfl rfl rfl rfl rfl ?_
    refine RunD.offT rfl rfl rfl rfl rfl ?_
    refine RunD.offT rfl rfl rfl rfl rfl ?_
    refine RunD.offT rfl rfl rfl rfl rfl ?_
    refine RunD.offT rfl rfl rfl rfl rfl ?_
    refine RunD.w (fun _ => Ev.pickF rfl rfl rfl rfl) ?_
    refine RunD.w (fun _ => Ev.move rfl rfl) ?_
    refine RunD.offT rfl rfl rfl rfl rfl ?_
    refine RunD.w (fun _ => Ev.pickF rfl rfl rfl rfl) ?_
    refine RunD.w (fun _ => Ev.assign rfl rfl) ?_
    refine RunD.nil ?_
    refine T.ret ?_
    cases h
    exact Fin.one rfl .v
theorem en47 : Enters Tryd.prog 47 := ⟨_, Tryd.func47, rfl, rfl⟩
theorem k_triviumref02_Num {p0 : Int} {y : (List Int)} (h : m_triviumref02_Num p0 = some y) : Spec Tryd.prog 47 [(.v (.int .i64) p0)] (.v (.sl (.int .i64)) y) [] := by
  rw [m_triviumref02_Num] at h
  refine enterN [(.v (.int .i64) p0)] 6 Tryd.func47 rfl rfl rfl ?_
  refine T.seq ?_
  refine T.region ?_
  refine Run.go (Ev.assign rfl rfl) ?_
  refine Run.nil ?_
  refine T.seq ?_
  refine T.region ?_
  refine Run.go (Ev.build X 1 rfl rfl rfl rfl rfl rfl rfl rfl) ?_
  refine Run.go (Ev.move rfl rfl) ?_
  refine Run.ghost (Ghost.firmAll (id := 1) rfl) ?_
  obtain ⟨x1, e2, h⟩ := bdS h
  refine Run.go (Ev.callC en75 (k_triviumref02_MulAdd e2) rfl (.cons .v (.cons .v (.cons .v .nil))) rfl rfl) ?_
  refine Run.go (Ev.assign rfl rfl) ?_
  refine Run.nil ?_
  refine T.ret ?_
  cases h
  exact Fin.one rfl .v
theorem en51 : Enters Tryd.prog 51 := ⟨_, Tryd.func51, rfl, rfl⟩
theorem k_whole_Sum {p0 : (List D_api_Int)} {y : D_api_Int} (h : m_whole_Sum p0 = some y) : Spec Tryd.prog 51 [(.v (.sl Y_api_Int) p0)] (.v Y_api_Int y) [] := by
  rw [m_whole_Sum] at h
  refine enterN [(.v (.sl Y_api_Int) p0)] 17 Tryd.func51 rfl rfl rfl ?_
  refine T.seq ?_
  refine T.region ?_
  refine Run.go (Ev.allocN X 1 rfl rfl rfl) ?_
  refine Run.nil ?_
  refine T.seq ?_
  refine T.region ?_
  refine Run.go (Ev.allocN X 2 rfl rfl rfl) ?_
  refine Run.nil ?_
  obtain ⟨⟨v1, v2⟩, hv, h⟩ := bdS h
  refine T.cut (fun _ : Unit => (⟨[(2, .box 1 0), (3, .box 2 0)], [(1, .box [.v .bool false, .nil]), (2, .box [.v .bool v1, .v (.sl (.int .u64)) v2])], 17⟩ : St)) (fun _ => True) ?_ (fun _ _ => ?_)
  · replace h := hv
    clear hv
    refine T.seq ?_
    refine T.region ?_
    refine Run.go (Ev.move rfl rfl) ?_
    refine Run.go (Ev.len X rfl rfl rfl rfl) ?_
    refine Run.go (Ev.move rfl rfl) ?_
    refine Run.nil ?_
    refine T.block ?_
    refine T.loop (LoopT.ghost (Ghost.trans (Ghost.nilvC (id := 2) (j := 1) (τ := (.int .u64)) rfl rfl) (Ghost.only [(1, 1), (2, 2)] [2, 3, 6, 7, 8] rfl)) (LoopT.run (fun q : Int × Bool × (List Int) => (⟨[(2, .box 1 0), (3, .box 2 0), (6, .v (.sl Y_api_Int) p0), (7, .v (.int .i64) ((p0.length : Int) : Int)), (8, .v (.int .i64) q.1)], [(1, .box [.v .bool false, .nil]), (2, .box [.v .bool q.2.1, .v (.sl (.int .u64)) q.2.2])], 17⟩ : St)) (fun q z1 h hz1 => ?_) h))
    obtain ⟨v3, v4, v5⟩ := q
    dsimp only
    rw [m_whole_Sum_l1] at h
    refine T.seq ?_
    refine T.region ?_
    refine Run.go (Ev.int rfl rfl rfl rfl trivial) ?_
    refine Run.nil ?_
    refine T.seq ?_
    refine T.cond rfl (fun hb6 => ?_) (fun hb6 => ?_)
    · replace h := ifT hb6 h
      refine T.skip ?_
      refine T.seq ?_
      refine T.block ?_
      refine T.seq ?_
      refine T.region ?_
      obtain ⟨x7, e8, h⟩ := bdS h
      refine Run.go (Ev.e_rd X e8 rfl rfl rfl rfl) ?_
      refine Run.go (Ev.load X rfl rfl rfl) ?_
      refine Run.go (Ev.allocN X 22 rfl rfl rfl) ?_
      refine Run.do_ (Ev.storeBox X rfl rfl rfl rfl rfl rfl rfl) ?_
      refine Run.nil ?_
      refine T.region ?_
      refine Run.go (Ev.loadBox X rfl rfl rfl rfl rfl) ?_
      refine Run.go (Ev.loadBox X rfl rfl rfl rfl rfl) ?_
      obtain ⟨x9, e10, h⟩ := bdS h
      refine Run.go (Ev.callC en61 (k_whole_Add e10) rfl (.cons .v (.cons .v .nil)) rfl rfl) ?_
      refine Run.do_ (Ev.storeBox X rfl rfl rfl rfl rfl rfl rfl) ?_
      refine Run.nil ?_
      refine T.region ?_
      refine Run.go (Ev.int rfl rfl rfl rfl trivial) ?_
      refine Run.go (Ev.move rfl rfl) ?_
      refine Run.nil ?_
      cases h
      exact LoopT.ghost (Ghost.only [(1, 1), (2, 2)] [2, 3, 6, 7, 8] rfl) hz1
    · replace h := ifF hb6 h
      refine T.exit ?_
      cases h
      cases hz1
      exact ⟨(), trivial, Ghost.only [(1, 1), (2, 2)] [2, 3] rfl⟩
  · refine T.seq ?_
    refine T.region ?_
    refine Run.go (Ev.loadBox X rfl rfl rfl rfl rfl) ?_
    refine Run.do_ (Ev.storeBox X rfl rfl rfl rfl rfl rfl rfl) ?_
    refine Run.nil ?_
    refine T.ret ?_
    cases h
    exact Fin.cell X rfl rfl rfl rfl rfl
end Go.Proofs.YthcmjcjgaebciaaDoor.AE
