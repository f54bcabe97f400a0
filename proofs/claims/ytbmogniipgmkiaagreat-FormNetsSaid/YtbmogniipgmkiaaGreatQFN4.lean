/- The code comes to the printed functions (printed by a program of ours). -/
import Derived.Test.YtbmogniipgmkiaaGreatQFN3
/- The code comes to the printed functions (printed by a program of ours). -/
namespace Go.Proofs.YtbmogniipgmkiaaGreat.AE
open Go Go.RowKit Go.Proofs.YtbmogniipgmkiaaGreat.AP
set_option linter.unusedVariables false
set_option maxRecDepth 20000
theorem en24 : Enters Tryz.prog 24 := ⟨_, Tryz.func24, rfl, rfl⟩
theorem k_slices_IndexFunc_api_Node_api_Node__formed_Node_1 {p0 : (List D_api_Node)} {p1_0 : ByteArray} {y : Int} (h : m_slices_IndexFunc_api_Node_api_Node__formed_Node_1 p0 p1_0 = some y) : Spec Tryz.prog 24 [(.v (.sl Y_api_Node) p0), (.fn 25 [(.ptr .str p1_0)])] (.v (.int .i64) y) [] := by
  rw [m_slices_IndexFunc_api_Node_api_Node__formed_Node_1] at h
  refine enterN [(.v (.sl Y_api_Node) p0), (.fn 25 [(.ptr .str p1_0)])] 19 Tryz.func24 rfl rfl rfl ?_
  refine T.seq ?_
  refine T.region ?_
  refine Run.go (Ev.assign rfl rfl) ?_
  refine Run.nil ?_
  refine T.seq ?_
  refine T.seq ?_
  refine T.region ?_
  refine Run.go (Ev.move rfl rfl) ?_
  refine Run.go (Ev.len X rfl rfl rfl rfl) ?_
  refine Run.go (Ev.move rfl rfl) ?_
  refine Run.nil ?_
  refine T.block ?_
  refine T.loop (LoopT.ghost (Ghost.only [] [0, 1, 7, 8] rfl) (LoopT.run (fun q : Int => (⟨[(0, .v (.sl Y_api_Node) p0), (1, .fn 25 [.ptr .str p1_0]), (7, .v (.int .i64) ((p0.length : Int) : Int)), (8, .v (.int .i64) q)], [], 19⟩ : St)) (fun v1 z1 h hz1 => ?_) h))
  rw [m_slices_IndexFunc_api_Node_api_Node__formed_Node_1_l1] at h
  refine T.seq ?_
  refine T.region ?_
  refine Run.go (Ev.int rfl rfl rfl rfl trivial) ?_
  refine Run.nil ?_
  refine T.seq ?_
  refine T.cond rfl (fun hb2 => ?_) (fun hb2 => ?_)
  · replace h := ifT hb2 h
    refine T.skip ?_
    refine T.seq ?_
    refine T.block ?_
    refine T.seq ?_
    refine T.region ?_
    refine Run.go (Ev.move rfl rfl) ?_
    refine Run.go (Ev.assign rfl rfl) ?_
    refine Run.nil ?_
    refine T.seq ?_
    refine T.region ?_
    refine Run.go (Ev.move rfl rfl) ?_
    refine Run.go (Ev.move rfl rfl) ?_
    refine Run.go (Ev.move rfl rfl) ?_
    obtain ⟨x3, e4, h⟩ := bdS h
    refine Run.go (Ev.e_rd X e4 rfl rfl rfl rfl) ?_
    refine Run.go (Ev.load X rfl rfl rfl) ?_
    obtain ⟨x5, e6, h⟩ := bdS h
    refine Run.go (Ev.callC en25 (k_formed_Node_1 e6) rfl (.cons .v (.cons .ptr .nil)) rfl rfl) ?_
    refine Run.nil ?_
    refine T.cond rfl (fun hb7 => ?_) (fun hb7 => ?_)
    · replace h := ifT hb7 h
      refine T.seq ?_
      refine T.region ?_
      refine Run.go (Ev.move rfl rfl) ?_
      refine Run.go (Ev.assign rfl rfl) ?_
      refine Run.nil ?_
      refine T.ret ?_
      cases h
      cases hz1
      exact Fin.one rfl .v
    · replace h := ifF hb7 h
      refine T.skip ?_
      refine T.region ?_
      refine Run.go (Ev.int rfl rfl rfl rfl trivial) ?_
      refine Run.go (Ev.move rfl rfl) ?_
      refine Run.nil ?_
      cases h
      exact LoopT.ghost (Ghost.only [] [0, 1, 7, 8] rfl) hz1
  · replace h := ifF hb2 h
    refine T.exit ?_
    refine T.seq ?_
    refine T.region ?_
    refine Run.go (Ev.assign rfl rfl) ?_
    refine Run.nil ?_
    refine T.ret ?_
    cases h
    cases hz1
    exact Fin.one rfl .v
theorem en8 : Enters Tryz.prog 8 := ⟨_, Tryz.func8, rfl, rfl⟩
theorem k_formed_Node {p0 : D_api_Net} {p1 : ByteArray} {y : Int × Bool} (h : m_formed_Node p0 p1 = some y) : Spec Tryz.prog 8 [(.v Y_api_Net p0), (.v .str p1)] (.tup [.v (.int .i64) y.1, .v .bool y.2]) [] := by
  rw [m_formed_Node] at h
  refine enterN [(.v Y_api_Net p0), (.v .str p1)] 15 Tryz.func8 rfl rfl rfl ?_
  refine T.seq ?_
  refine T.region ?_
  refine Run.go (Ev.box 1 rfl rfl rfl rfl) ?_
  refine Run.go (Ev.box 2 rfl rfl rfl rfl) ?_
  refine Run.go (Ev.assign rfl rfl) ?_
  refine Run.go (Ev.assign rfl rfl) ?_
  refine Run.nil ?_
  refine T.seq ?_
  refine T.region ?_
  refine Run.go (Ev.fieldBox X rfl rfl rfl rfl rfl) ?_
  refine Run.go (Ev.loadCell X rfl rfl rfl rfl rfl rfl) ?_
  refine Run.go (Ev.e_fn rfl rfl) ?_
  refine Run.ghost (Ghost.freeze (id := 2) (τ := .str) (y := (p1 : ByteArray)) rfl rfl) ?_
  obtain ⟨x1, e2, h⟩ := bdS h
  refine Run.go (Ev.callC en24 (k_slices_IndexFunc_api_Node_api_Node__formed_Node_1 e2) rfl (.cons .v (.cons (.fn rfl) .nil)) rfl rfl) ?_
  refine Run.go (Ev.assign rfl rfl) ?_
  refine Run.nil ?_
  refine T.seq ?_
  refine T.region ?_
  refine Run.go (Ev.move rfl rfl) ?_
  refine Run.go (Ev.max rfl rfl rfl) ?_
  refine Run.go (Ev.move rfl rfl) ?_
  refine Run.go (Ev.int rfl rfl rfl rfl trivial) ?_
  refine Run.go (Ev.assign rfl rfl) ?_
  refine Run.go (Ev.assign rfl rfl) ?_
  refine Run.nil ?_
  refine T.ret ?_
  cases h
  exact Fin.many X rfl (.cons (.tmp .v) (.cons (.tmp .v) .nil)) rfl
theorem en27 : Enters Tryz.prog 27 := ⟨_, Tryz.func27, rfl, rfl⟩
theorem k_formed_Link_1 {p0 : D_api_Link} {p1 : ByteArray} {y : Bool} (h : m_formed_Link_1 p0 p1 = some y) : Spec Tryz.prog 27 [(.v Y_api_Link p0), (.ptr .str p1)] (.v .bool y) [] := by
  rw [m_formed_Link_1] at h
  refine enterN [(.v Y_api_Link p0), (.ptr .str p1)] 8 Tryz.func27 rfl rfl rfl ?_
  refine T.seq ?_
  refine T.region ?_
  refine Run.go (Ev.box 1 rfl rfl rfl rfl) ?_
  refine Run.go (Ev.assign rfl rfl) ?_
  refine Run.nil ?_
  refine T.seq ?_
  refine T.region ?_
  refine Run.go (Ev.fieldBox X rfl rfl rfl rfl rfl) ?_
  refine Run.go (Ev.loadCell X rfl rfl rfl rfl rfl rfl) ?_
  refine Run.go (Ev.load X rfl rfl rfl) ?_
  refine Run.go (Ev.strs rfl rfl rfl rfl trivial) ?_
  refine Run.go (Ev.assign rfl rfl) ?_
  refine Run.nil ?_
  refine T.ret ?_
  cases h
  exact Fin.one rfl .v
theorem en26 : Enters Tryz.prog 26 := ⟨_, Tryz.func26, rfl, rfl⟩
theorem k_slices_IndexFunc_api_Link_api_Link__formed_Link_1 {p0 : (List D_api_Link)} {p1_0 : ByteArray} {y : Int} (h : m_slices_IndexFunc_api_Link_api_Link__formed_Link_1 p0 p1_0 = some y) : Spec Tryz.prog 26 [(.v (.sl Y_api_Link) p0), (.fn 27 [(.ptr .str p1_0)])] (.v (.int .i64) y) [] := by
  rw [m_slices_IndexFunc_api_Link_api_Link__formed_Link_1] at h
  refine enterN [(.v (.sl Y_api_Link) p0), (.fn 27 [(.ptr .str p1_0)])] 19 Tryz.func26 rfl rfl rfl ?_
  refine T.seq ?_
  refine T.region ?_
  refine Run.go (Ev.assign rfl rfl) ?_
  refine Run.nil ?_
  refine T.seq ?_
  refine T.seq ?_
  refine T.region ?_
  refine Run.go (Ev.move rfl rfl) ?_
  refine Run.go (Ev.len X rfl rfl rfl rfl) ?_
  refine Run.go (Ev.move rfl rfl) ?_
  refine Run.nil ?_
  refine T.block ?_
  refine T.loop (LoopT.ghost (Ghost.only [] [0, 1, 7, 8] rfl) (LoopT.run (fun q : Int => (⟨[(0, .v (.sl Y_api_Link) p0), (1, .fn 27 [.ptr .str p1_0]), (7, .v (.int .i64) ((p0.length : Int) : Int)), (8, .v (.int .i64) q)], [], 19⟩ : St)) (fun v1 z1 h hz1 => ?_) h))
  rw [m_slices_IndexFunc_api_Link_api_Link__formed_Link_1_l1] at h
  refine T.seq ?_
  refine T.region ?_
  refine Run.go (Ev.int rfl rfl rfl rfl trivial) ?_
  refine Run.nil ?_
  refine T.seq ?_
  refine T.cond rfl (fun hb2 => ?_) (fun hb2 => ?_)
  · replace h := ifT hb2 h
    refine T.skip ?_
    refine T.seq ?_
    refine T.block ?_
    refine T.seq ?_
    refine T.region ?_
    refine Run.go (Ev.move rfl rfl) ?_
    refine Run.go (Ev.assign rfl rfl) ?_
    refine Run.nil ?_
    refine T.seq ?_
    refine T.region ?_
    refine Run.go (Ev.move rfl rfl) ?_
    refine Run.go (Ev.move rfl rfl) ?_
    refine Run.go (Ev.move rfl rfl) ?_
    obtain ⟨x3, e4, h⟩ := bdS h
    refine Run.go (Ev.e_rd X e4 rfl rfl rfl rfl) ?_
    refine Run.go (Ev.load X rfl rfl rfl) ?_
    obtain ⟨x5, e6, h⟩ := bdS h
    refine Run.go (Ev.callC en27 (k_formed_Link_1 e6) rfl (.cons .v (.cons .ptr .nil)) rfl rfl) ?_
    refine Run.nil ?_
    refine T.cond rfl (fun hb7 => ?_) (fun hb7 => ?_)
    · replace h := ifT hb7 h
      refine T.seq ?_
      refine T.region ?_
      refine Run.go (Ev.move rfl rfl) ?_
      refine Run.go (Ev.assign rfl rfl) ?_
      refine Run.nil ?_
      refine T.ret ?_
      cases h
      cases hz1
      exact Fin.one rfl .v
    · replace h := ifF hb7 h
      refine T.skip ?_
      refine T.region ?_
      refine Run.go (Ev.int rfl rfl rfl rfl trivial) ?_
      refine Run.go (Ev.move rfl rfl) ?_
      refine Run.nil ?_
      cases h
      exact LoopT.ghost (Ghost.only [] [0, 1, 7, 8] rfl) hz1
  · replace h := ifF hb2 h
    refine T.exit ?_
    refine T.seq ?_
    refine T.region ?_
    refine Run.go (Ev.assign rfl rfl) ?_
    refine Run.nil ?_
    refine T.ret ?_
    cases h
    cases hz1
    exact Fin.one rfl .v
theorem en9 : Enters Tryz.prog 9 := ⟨_, Tryz.func9, rfl, rfl⟩
theorem k_formed_Link {p0 : D_api_Net} {p1 : ByteArray} {y : Int × Bool} (h : m_formed_Link p0 p1 = some y) : Spec Tryz.prog 9 [(.v Y_api_Net p0), (.v .str p1)] (.tup [.v (.int .i64) y.1, .v .bool y.2]) [] := by
  rw [m_formed_Link] at h
  refine enterN [(.v Y_api_Net p0), (.v .str p1)] 15 Tryz.func9 rfl rfl rfl ?_
  refine T.seq ?_
  refine T.region ?_
  refine Run.go (Ev.box 1 rfl rfl rfl rfl) ?_
  refine Run.go (Ev.box 2 rfl rfl rfl rfl) ?_
  refine Run.go (Ev.assign rfl rfl) ?_
  refine Run.go (Ev.assign rfl rfl) ?_
  refine Run.nil ?_
  refine T.seq ?_
  refine T.region ?_
  refine Run.go (Ev.fieldBox X rfl rfl rfl rfl rfl) ?_
  refine Run.go (Ev.loadCell X rfl rfl rfl rfl rfl rfl) ?_
  refine Run.go (Ev.e_fn rfl rfl) ?_
  refine Run.ghost (Ghost.freeze (id := 2) (τ := .str) (y := (p1 : ByteArray)) rfl rfl) ?_
  obtain ⟨x1, e2, h⟩ := bdS h
  refine Run.go (Ev.callC en26 (k_slices_IndexFunc_api_Link_api_Link__formed_Link_1 e2) rfl (.cons .v (.cons (.fn rfl) .nil)) rfl rfl) ?_
  refine Run.go (Ev.assign rfl rfl) ?_
  refine Run.nil ?_
  refine T.seq ?_
  refine T.region ?_
  refine Run.go (Ev.move rfl rfl) ?_
  refine Run.go (Ev.max rfl rfl rfl) ?_
  refine Run.go (Ev.move rfl rfl) ?_
  refine Run.go (Ev.int rfl rfl rfl rfl trivial) ?_
  refine Run.go (Ev.assign rfl rfl) ?_
  refine Run.go (Ev.assign rfl rfl) ?_
  refine Run.nil ?_
  refine T.ret ?_
  cases h
  exact Fin.many X rfl (.cons (.tmp .v) (.cons (.tmp .v) .nil)) rfl
theorem en10 : Enters Tryz.prog 10 := ⟨_, Tryz.func10, rfl, rfl⟩
theorem k_triviumref23_Node {p0 : D_api_Net} {p1 : ByteArray} {y : Int} (h : m_triviumref23_Node p0 p1 = some y) : Spec Tryz.prog 10 [(.v Y_api_Net p0), (.v .str p1)] (.v (.int .i64) y) [] := by
  rw [m_triviumref23_Node] at h
  refine enterN [(.v Y_api_Net p0), (.v .str p1)] 22 Tryz.func10 rfl rfl rfl ?_
  refine T.seq ?_
  refine T.region ?_
  refine Run.go (Ev.box 1 rfl rfl rfl rfl) ?_
  refine Run.go (Ev.assign rfl rfl) ?_
  refine Run.nil ?_
  refine T.seq ?_
  refine T.seq ?_
  refine T.region ?_
  refine Run.go (Ev.assign rfl rfl) ?_
  refine Run.nil ?_
  refine T.block ?_
  refine T.loop (LoopT.ghost (Ghost.only [(1, 1)] [1, 2, 5] rfl) (LoopT.run (fun q : Int => (⟨[(1, .v .str p1), (2, .box 1 0), (5, .v (.int .i64) q)], [(1, .box [.v .str p0.1, .v (.sl Y_api_Node) p0.2.1, .v (.sl Y_api_Link) p0.2.2.1, .v (.sl Y_api_Rule) p0.2.2.2])], 22⟩ : St)) (fun v1 z1 h hz1 => ?_) h))
  rw [m_triviumref23_Node_l1] at h
  refine T.seq ?_
  refine T.seq ?_
  refine T.region ?_
  refine Run.go (Ev.move rfl rfl) ?_
  refine Run.go (Ev.fieldBox X rfl rfl rfl rfl rfl) ?_
  refine Run.go (Ev.loadCell X rfl rfl rfl rfl rfl rfl) ?_
  refine Run.go (Ev.len X rfl rfl rfl rfl) ?_
  refine Run.go (Ev.int rfl rfl rfl rfl trivial) ?_
  refine Run.nil ?_
  refine T.cond rfl (fun hb2 => ?_) (fun hb2 => ?_)
  · replace h := ifT hb2 h
    refine T.skip ?_
    refine T.seq ?_
    refine T.block ?_
    refine T.seq ?_
    refine T.region ?_
    refine Run.go (Ev.fieldBox X rfl rfl rfl rfl rfl) ?_
    refine Run.go (Ev.loadCell X rfl rfl rfl rfl rfl rfl) ?_
    refine Run.go (Ev.move rfl rfl) ?_
    obtain ⟨x3, e4, h⟩ := bdS h
    refine Run.go (Ev.e_rd X e4 rfl rfl rfl rfl) ?_
    refine Run.go (Ev.fieldAddr X rfl rfl rfl rfl) ?_
    refine Run.go (Ev.load X rfl rfl rfl) ?_
    refine Run.go (Ev.move rfl rfl) ?_
    refine Run.go (Ev.strs rfl rfl rfl rfl trivial) ?_
    refine Run.nil ?_
    refine T.cond rfl (fun hb5 => ?_) (fun hb5 => ?_)
    · replace h := ifT hb5 h
      refine T.seq ?_
      refine T.region ?_
      refine Run.go (Ev.move rfl rfl) ?_
      refine Run.go (Ev.assign rfl rfl) ?_
      refine Run.nil ?_
      refine T.ret ?_
      cases h
      cases hz1
      exact Fin.one rfl .v
    · replace h := ifF hb5 h
      refine T.skip ?_
      refine T.region ?_
      refine Run.go (Ev.move rfl rfl) ?_
      refine Run.go (Ev.int rfl rfl rfl rfl trivial) ?_
      refine Run.go (Ev.assign rfl rfl) ?_
      refine Run.nil ?_
      cases h
      exact LoopT.ghost (Ghost.only [(1, 1)] [1, 2, 5] rfl) hz1
  · replace h := ifF hb2 h
    refine T.exit ?_
    refine T.seq ?_
    refine T.region ?_
    refine Run.go (Ev.assign rfl rfl) ?_
    refine Run.nil ?_
    refine T.ret ?_
    cases h
    cases hz1
    exact Fin.one rfl .v
theorem en11 : Enters Tryz.prog 11 := ⟨_, Tryz.func11, rfl, rfl⟩
theorem k_triviumref23_Link {p0 : D_api_Net} {p1 : ByteArray} {y : Int} (h : m_triviumref23_Link p0 p1 = some y) : Spec Tryz.prog 11 [(.v Y_api_Net p0), (.v .str p1)] (.v (.int .i64) y) [] := by
  rw [m_triviumref23_Link] at h
  refine enterN [(.v Y_api_Net p0), (.v .str p1)] 22 Tryz.func11 rfl rfl rfl ?_
  refine T.seq ?_
  refine T.region ?_
  refine Run.go (Ev.box 1 rfl rfl rfl rfl) ?_
  refine Run.go (Ev.assign rfl rfl) ?_
  refine Run.nil ?_
  refine T.seq ?_
  refine T.seq ?_
  refine T.region ?_
  refine Run.go (Ev.assign rfl rfl) ?_
  refine Run.nil ?_
  refine T.block ?_
  refine T.loop (LoopT.ghost (Ghost.only [(1, 1)] [1, 2, 5] rfl) (LoopT.run (fun q : Int => (⟨[(1, .v .str p1), (2, .box 1 0), (5, .v (.int .i64) q)], [(1, .box [.v .str p0.1, .v (.sl Y_api_Node) p0.2.1, .v (.sl Y_api_Link) p0.2.2.1, .v (.sl Y_api_Rule) p0.2.2.2])], 22⟩ : St)) (fun v1 z1 h hz1 => ?_) h))
  rw [m_triviumref23_Link_l1] at h
  refine T.seq ?_
  refine T.seq ?_
  refine T.region ?_
  refine Run.go (Ev.move rfl rfl) ?_
  refine Run.go (Ev.fieldBox X rfl rfl rfl rfl rfl) ?_
  refine Run.go (Ev.loadCell X rfl rfl rfl rfl rfl rfl) ?_
  refine Run.go (Ev.len X rfl rfl rfl rfl) ?_
  refine Run.go (Ev.int rfl rfl rfl rfl trivial) ?_
  refine Run.nil ?_
  refine T.cond rfl (fun hb2 => ?_) (fun hb2 => ?_)
  · replace h := ifT hb2 h
    refine T.skip ?_
    refine T.seq ?_
    refine T.block ?_
    refine T.seq ?_
    refine T.region ?_
    refine Run.go (Ev.fieldBox X rfl rfl rfl rfl rfl) ?_
    refine Run.go (Ev.loadCell X rfl rfl rfl rfl rfl rfl) ?_
    refine Run.go (Ev.move rfl rfl) ?_
    obtain ⟨x3, e4, h⟩ := bdS h
    refine Run.go (Ev.e_rd X e4 rfl rfl rfl rfl) ?_
    refine Run.go (Ev.fieldAddr X rfl rfl rfl rfl) ?_
    refine Run.go (Ev.load X rfl rfl rfl) ?_
    refine Run.go (Ev.move rfl rfl) ?_
    refine Run.go (Ev.strs rfl rfl rfl rfl trivial) ?_
    refine Run.nil ?_
    refine T.cond rfl (fun hb5 => ?_) (fun hb5 => ?_)
    · replace h := ifT hb5 h
      refine T.seq ?_
      refine T.region ?_
      refine Run.go (Ev.move rfl rfl) ?_
      refine Run.go (Ev.assign rfl rfl) ?_
      refine Run.nil ?_
      refine T.ret ?_
      cases h
      cases hz1
      exact Fin.one rfl .v
    · replace h := ifF hb5 h
      refine T.skip ?_
      refine T.region ?_
      refine Run.go (Ev.move rfl rfl) ?_
      refine Run.go (Ev.int rfl rfl rfl rfl trivial) ?_
      refine Run.go (Ev.assign rfl rfl) ?_
      refine Run.nil ?_
      cases h
      exact LoopT.ghost (Ghost.only [(1, 1)] [1, 2, 5] rfl) hz1
  · replace h := ifF hb2 h
    refine T.exit ?_
    refine T.seq ?_
    refine T.region ?_
    refine Run.go (Ev.assign rfl rfl) ?_
    refine Run.nil ?_
    refine T.ret ?_
    cases h
    cases hz1
    exact Fin.one rfl .v
theorem en93 : Enters Tryz.prog 93 := ⟨_, Tryz.func93, rfl, rfl⟩
theorem k_name_letter {p0 : Int} {y : Bool} (h : m_name_letter p0 = some y) : Spec Tryz.prog 93 [(.v (.int .i32) p0)] (.v .bool y) [] := by
  rw [m_name_letter] at h
  refine enterN [(.v (.int .i32) p0)] 9 Tryz.func93 rfl rfl rfl ?_
  refine T.seq ?_
  refine T.region ?_
  refine Run.go (Ev.assign rfl rfl) ?_
  refine Run.nil ?_
  refine T.seq ?_
  refine T.region ?_
  refine Run.go (Ev.move rfl rfl) ?_
  refine Run.go (Ev.int rfl rfl rfl rfl trivial) ?_
  refine Run.go (Ev.move rfl rfl) ?_
  rcases boolCases (decide (97 ≤ p0)) with hb1 | hb1
  · replace h := ifT hb1 h
    refine Run.on rfl rfl rfl hb1 (Ev.move rfl rfl) ?_
    refine Run.on rfl rfl rfl hb1 (Ev.int rfl rfl rfl rfl trivial) ?_
    refine Run.go (Ev.pickT rfl hb1 rfl rfl) ?_
    refine Run.go (Ev.assign rfl rfl) ?_
    refine Run.nil ?_
    refine T.ret ?_
    cases h
    exact Fin.one rfl .v
  · replace h := ifF hb1 h
    refine Run.offT rfl rfl rfl rfl hb1 ?_
    refine Run.offT rfl rfl rfl rfl hb1 ?_
    refine Run.go (Ev.pickF rfl hb1 rfl rfl) ?_
    refine Run.go (Ev.assign rfl rfl) ?_
    refine Run.nil ?_
    refine T.ret ?_
    cases h
    exact Fin.one rfl .v
theorem en94 : Enters Tryz.prog 94 := ⟨_, Tryz.func94, rfl, rfl⟩
theorem k_name_other {p0 : Int} {y : Bool} (h : m_name_other p0 = some y) : Spec Tryz.prog 94 [(.v (.int .i32) p0)] (.v .bool y) [] := by
  rw [m_name_other] at h
  refine enterN [(.v (.int .i32) p0)] 17 Tryz.func94 rfl rfl rfl ?_
  refine T.seq ?_
  refine T.region ?_
  refine Run.go (Ev.assign rfl rfl) ?_
  refine Run.nil ?_
  refine T.seq ?_
  refine T.region ?_
  refine Run.go (Ev.move rfl rfl) ?_
  refine Run.go (Ev.int rfl rfl rfl rfl trivial) ?_
  refine Run.go (Ev.move rfl rfl) ?_
  rcases boolCases (decide (48 ≤ p0)) with hb1 | hb1
  · replace h := ifT hb1 h
    refine Run.on rfl rfl rfl hb1 (Ev.move rfl rfl) ?_
    refine Run.on rfl rfl rfl hb1 (Ev.int rfl rfl rfl rfl trivial) ?_
    refine Run.go (Ev.pickT rfl hb1 rfl rfl) ?_
    refine Run.go (Ev.move rfl rfl) ?_
    rcases boolCases (decide (p0 ≤ 57)) with hb2 | hb2
    · replace h := ifT hb2 h
      refine Run.offT rfl rfl rfl rfl hb2 ?_
      refine Run.offT rfl rfl rfl rfl hb2 ?_
      refine Run.go (Ev.pickT rfl hb2 rfl rfl) ?_
      refine Run.go (Ev.move rfl rfl) ?_
      refine Run.offT rfl rfl rfl rfl rfl ?_
      refine Run.offT rfl rfl rfl rfl rfl ?_
      refine Run.go (Ev.pickT rfl rfl rfl rfl) ?_
      refine Run.go (Ev.assign rfl rfl) ?_
      refine Run.nil ?_
      refine T.ret ?_
      cases h
      exact Fin.one rfl .v
    · replace h := ifF hb2 h
      refine Run.on rfl rfl rfl hb2 (Ev.move rfl rfl) ?_
      refine Run.on rfl rfl rfl hb2 (Ev.int rfl rfl rfl rfl trivial) ?_
      refine Run.go (Ev.pickF rfl hb2 rfl rfl) ?_
      refine Run.go (Ev.move rfl rfl) ?_
      rcases boolCases (decide (p0 = 45)) with hb3 | hb3
      · replace h := ifT hb3 h
        refine Run.offT rfl rfl rfl rfl hb3 ?_
        refine Run.offT rfl rfl rfl rfl hb3 ?_
        refine Run.go (Ev.pickT rfl hb3 rfl rfl) ?_
        refine Run.go (Ev.assign rfl rfl) ?_
        refine Run.nil ?_
        refine T.ret ?_
        cases h
        exact Fin.one rfl .v
      · replace h := ifF hb3 h
        refine Run.on rfl rfl rfl hb3 (Ev.move rfl rfl) ?_
        refine Run.on rfl rfl rfl hb3 (Ev.int rfl rfl rfl rfl trivial) ?_
        refine Run.go (Ev.pickF rfl hb3 rfl rfl) ?_
        refine Run.go (Ev.assign rfl rfl) ?_
        refine Run.nil ?_
        refine T.ret ?_
        cases h
        exact Fin.one rfl .v
  · replace h := ifF hb1 h
    refine Run.offT rfl rfl rfl rfl hb1 ?_
    refine Run.offT rfl rfl rfl rfl hb1 ?_
    refine Run.go (Ev.pickF rfl hb1 rfl rfl) ?_
    refine Run.go (Ev.move rfl rfl) ?_
    refine Run.on rfl rfl rfl rfl (Ev.move rfl rfl) ?_
    refine Run.on rfl rfl rfl rfl (Ev.int rfl rfl rfl rfl trivial) ?_
    refine Run.go (Ev.pickF rfl rfl rfl rfl) ?_
    refine Run.go (Ev.move rfl rfl) ?_
    rcases boolCases (decide (p0 = 45)) with hb4 | hb4
    · replace h := ifT hb4 h
      refine Run.offT rfl rfl rfl rfl hb4 ?_
      refine Run.offT rfl rfl rfl rfl hb4 ?_
      refine Run.go (Ev.pickT rfl hb4 rfl rfl) ?_
      refine Run.go (Ev.assign rfl rfl) ?_
      refine Run.nil ?_
      refine T.ret ?_
      cases h
      exact Fin.one rfl .v
    · replace h := ifF hb4 h
      refine Run.on rfl rfl rfl hb4 (Ev.move rfl rfl) ?_
      refine Run.on rfl rfl rfl hb4 (Ev.int rfl rfl rfl rfl trivial) ?_
      refine Run.go (Ev.pickF rfl hb4 rfl rfl) ?_
      refine Run.go (Ev.assign rfl rfl) ?_
      refine Run.nil ?_
      refine T.ret ?_
      cases h
      exact Fin.one rfl .v
theorem en70 : Enters Tryz.prog 70 := ⟨_, Tryz.func70, rfl, rfl⟩
theorem k_name_Word {p0 : ByteArray} {y : Bool} (h : m_name_Word p0 = some y) : Spec Tryz.prog 70 [(.v .str p0)] (.v .bool y) [] := by
  rw [m_name_Word] at h
  refine enterN [(.v .str p0)] 25 Tryz.func70 rfl rfl rfl ?_
  refine T.seq ?_
  refine T.region ?_
  refine Run.go (Ev.assign rfl rfl) ?_
  refine Run.nil ?_
  refine T.seq ?_
  refine T.seq ?_
  refine T.region ?_
  refine Run.go (Ev.move rfl rfl) ?_
  refine Run.go (Ev.e_range X 1 rfl rfl rfl rfl) ?_
  refine Run.nil ?_
  refine T.block ?_
  refine T.loop (LoopT.ghost (Ghost.only [(1, 1)] [0, 6] rfl) (LoopT.run (fun q : Nat => (⟨[(0, .v .str p0), (6, .it 1)], [(1, .siter p0 q)], 25⟩ : St)) (fun v1 z1 h hz1 => ?_) h))
  rw [m_name_Word_l1] at h
  refine T.seq ?_
  refine T.region ?_
  rcases boolCases (decide (v1 < p0.size)) with hb2 | hb2
  · replace h := ifT hb2 h
    refine Run.go (Ev.e_nextT hb2 rfl rfl rfl) ?_
    refine Run.go (Ev.extract rfl rfl rfl) ?_
    refine Run.nil ?_
    refine T.seq ?_
    refine T.condT rfl rfl ?_
    refine T.skip ?_
    refine T.block ?_
    refine T.seq ?_
    refine T.region ?_
    refine Run.go (Ev.extract rfl rfl rfl) ?_
    refine Run.go (Ev.extract rfl rfl rfl) ?_
    refine Run.go (Ev.assign rfl rfl) ?_
    refine Run.go (Ev.assign rfl rfl) ?_
    refine Run.nil ?_
    obtain ⟨⟨v3, v4⟩, hv, h⟩ := bdS h
    refine T.cut (fun _ : Unit => (⟨[(0, .v .str p0), (6, .it 1), (22, .v .bool v3)], [(1, .siter p0 v4)], 25⟩ : St)) (fun _ => True) ?_ (fun _ _ => ?_)
    · replace h := hv
      clear hv
      refine T.region ?_
      refine Run.go (Ev.move rfl rfl) ?_
      obtain ⟨x5, e6, h⟩ := bdS h
      refine Run.go (Ev.callC en93 (k_name_letter e6) rfl (.cons .v .nil) rfl rfl) ?_
      refine Run.go (Ev.not rfl rfl) ?_
      refine Run.go (Ev.move rfl rfl) ?_
      rcases boolCases (!x5) with hb7 | hb7
      · replace h := ifT hb7 h
        refine Run.on rfl rfl rfl hb7 (Ev.move rfl rfl) ?_
        refine Run.on rfl rfl rfl hb7 (Ev.int rfl rfl rfl rfl trivial) ?_
        refine Run.on rfl rfl rfl hb7 (Ev.move rfl rfl) ?_
        rcases boolCases (decide ((v1 : Int) = 0)) with hb8 | hb8
        · replace h := ifT hb8 h
          refine Run.offT rfl rfl rfl rfl hb8 ?_
          refine Run.offT rfl rfl rfl rfl hb8 ?_
          refine Run.offT rfl rfl rfl rfl hb8 ?_
          refine Run.on rfl rfl rfl hb7 (Ev.pickT rfl hb8 rfl rfl) ?_
          refine Run.go (Ev.pickT rfl hb7 rfl rfl) ?_
          refine Run.nil ?_
          cases h
          exact ⟨(), trivial, Ghost.only [(1, 1)] [0, 6, 22] rfl⟩
        · replace h := ifF hb8 h
          refine Run.on rfl rfl rfl hb8 (Ev.move rfl rfl) ?_
          obtain ⟨x9, e10, h⟩ := bdS h
          refine Run.on rfl rfl rfl hb8 (Ev.callC en94 (k_name_other e10) rfl (.cons .v .nil) rfl rfl) ?_
          refine Run.on rfl rfl rfl hb8 (Ev.not rfl rfl) ?_
          refine Run.on rfl rfl rfl hb7 (Ev.pickF rfl hb8 rfl rfl) ?_
          refine Run.go (Ev.pickT rfl hb7 rfl rfl) ?_
          refine Run.nil ?_
          cases h
          exact ⟨(), trivial, Ghost.only [(1, 1)] [0, 6, 22] rfl⟩
      · replace h := ifF hb7 h
        refine Run.offT rfl rfl rfl rfl hb7 ?_
        refine Run.offT rfl rfl rfl rfl hb7 ?_
        refine Run.offT rfl rfl rfl rfl hb7 ?_
        refine Run.un rfl rfl rfl ?_
        refine Run.un rfl rfl rfl ?_
        refine Run.un rfl rfl rfl ?_
        refine Run.offT rfl rfl rfl rfl hb7 ?_
        refine Run.go (Ev.pickF rfl hb7 rfl rfl) ?_
        refine Run.nil ?_
        cases h
        exact ⟨(), trivial, Ghost.only [(1, 1)] [0, 6, 22] rfl⟩
    · refine T.cond rfl (fun hb11 => ?_) (fun hb11 => ?_)
      · replace h := ifT hb11 h
        refine T.seq ?_
        refine T.region ?_
        refine Run.go (Ev.assign rfl rfl) ?_
        refine Run.nil ?_
        refine T.ret ?_
        cases h
        cases hz1
        exact Fin.one rfl .v
      · replace h := ifF hb11 h
        refine T.skip ?_
        cases h
        exact LoopT.ghost (Ghost.only [(1, 1)] [0, 6] rfl) hz1
  · replace h := ifF hb2 h
    refine Run.go (Ev.e_nextF hb2 rfl rfl rfl) ?_
    refine Run.go (Ev.extract rfl rfl rfl) ?_
    refine Run.nil ?_
    refine T.seq ?_
    refine T.condF rfl rfl ?_
    refine T.exit ?_
    refine T.seq ?_
    refine T.region ?_
    refine Run.go (Ev.move rfl rfl) ?_
    refine Run.go (Ev.strs rfl rfl rfl rfl trivial) ?_
    refine Run.go (Ev.assign rfl rfl) ?_
    refine Run.nil ?_
    refine T.ret ?_
    cases h
    cases hz1
    exact Fin.one rfl .v
theorem en96 : Enters Tryz.prog 96 := ⟨_, Tryz.func96, rfl, rfl⟩
theorem k_name_Keywords  {y : (List ByteArray)} (h : m_name_Keywords  = some y) : Spec Tryz.prog 96 [] (.v (.sl .str) y) [] := by
  rw [m_name_Keywords] at h
  refine enterN [] 2 Tryz.func96 rfl rfl rfl ?_
  refine T.seq ?_
  refine T.region ?_
  refine Run.go (Ev.assign rfl rfl) ?_
  refine Run.nil ?_
  refine T.seq ?_
  refine T.region ?_
  refine Run.go (Ev.build X 1 rfl rfl rfl rfl rfl rfl rfl rfl) ?_
  refine Run.go (Ev.assign rfl rfl) ?_
  refine Run.nil ?_
  refine T.ret ?_
  cases h
  exact Fin.one rfl (.own rfl)
theorem en112 : Enters Tryz.prog 112 := ⟨_, Tryz.func112, rfl, rfl⟩
theorem k_slices_Index_string_string {p0 : (List ByteArray)} {p1 : ByteArray} {y : Int} (h : m_slices_Index_string_string p0 p1 = some y) : Spec Tryz.prog 112 [(.v (.sl .str) p0), (.v .str p1)] (.v (.int .i64) y) [] := by
  rw [m_slices_Index_string_string] at h
  refine enterN [(.v (.sl .str) p0), (.v .str p1)] 19 Tryz.func112 rfl rfl rfl ?_
  refine T.seq ?_
  refine T.region ?_
  refine Run.go (Ev.assign rfl rfl) ?_
  refine Run.nil ?_
  refine T.seq ?_
  refine T.seq ?_
  refine T.region ?_
  refine Run.go (Ev.move rfl rfl) ?_
  refine Run.go (Ev.len X rfl rfl rfl rfl) ?_
  refine Run.go (Ev.move rfl rfl) ?_
  refine Run.nil ?_
  refine T.block ?_
  refine T.loop (LoopT.ghost (Ghost.only [] [0, 1, 7, 8] rfl) (LoopT.run (fun q : Int => (⟨[(0, .v (.sl .str) p0), (1, .v .str p1), (7, .v (.int .i64) ((p0.length : Int) : Int)), (8, .v (.int .i64) q)], [], 19⟩ : St)) (fun v1 z1 h hz1 => ?_) h))
  rw [m_slices_Index_string_string_l1] at h
  refine T.seq ?_
  refine T.region ?_
  refine Run.go (Ev.int rfl rfl rfl rfl trivial) ?_
  refine Run.nil ?_
  refine T.seq ?_
  refine T.cond rfl (fun hb2 => ?_) (fun hb2 => ?_)
  · replace h := ifT hb2 h
    refine T.skip ?_
    refine T.seq ?_
    refine T.block ?_
    refine T.seq ?_
    refine T.region ?_
    refine Run.go (Ev.move rfl rfl) ?_
    refine Run.go (Ev.assign rfl rfl) ?_
    refine Run.nil ?_
    refine T.seq ?_
    refine T.region ?_
    refine Run.go (Ev.move rfl rfl) ?_
    refine Run.go (Ev.move rfl rfl) ?_
    refine Run.go (Ev.move rfl rfl) ?_
    obtain ⟨x3, e4, h⟩ := bdS h
    refine Run.go (Ev.e_rd X e4 rfl rfl rfl rfl) ?_
    refine Run.go (Ev.load X rfl rfl rfl) ?_
    refine Run.go (Ev.strs rfl rfl rfl rfl trivial) ?_
    refine Run.nil ?_
    refine T.cond rfl (fun hb5 => ?_) (fun hb5 => ?_)
    · replace h := ifT hb5 h
      refine T.seq ?_
      refine T.region ?_
      refine Run.go (Ev.move rfl rfl) ?_
      refine Run.go (Ev.assign rfl rfl) ?_
      refine Run.nil ?_
      refine T.ret ?_
      cases h
      cases hz1
      exact Fin.one rfl .v
    · replace h := ifF hb5 h
      refine T.skip ?_
      refine T.region ?_
      refine Run.go (Ev.int rfl rfl rfl rfl trivial) ?_
      refine Run.go (Ev.move rfl rfl) ?_
      refine Run.nil ?_
      cases h
      exact LoopT.ghost (Ghost.only [] [0, 1, 7, 8] rfl) hz1
  · replace h := ifF hb2 h
    refine T.exit ?_
    refine T.seq ?_
    refine T.region ?_
    refine Run.go (Ev.assign rfl rfl) ?_
    refine Run.nil ?_
    refine T.ret ?_
    cases h
    cases hz1
    exact Fin.one rfl .v
theorem en95 : Enters Tryz.prog 95 := ⟨_, Tryz.func95, rfl, rfl⟩
theorem k_slices_Contains_string_string {p0 : (List ByteArray)} {p1 : ByteArray} {y : Bool} (h : m_slices_Contains_string_string p0 p1 = some y) : Spec Tryz.prog 95 [(.v (.sl .str) p0), (.v .str p1)] (.v .bool y) [] := by
  rw [m_slices_Contains_string_string] at h
  refine enterN [(.v (.sl .str) p0), (.v .str p1)] 9 Tryz.func95 rfl rfl rfl ?_
  refine T.seq ?_
  refine T.region ?_
  refine Run.go (Ev.assign rfl rfl) ?_
  refine Run.nil ?_
  refine T.seq ?_
  refine T.region ?_
  refine Run.go (Ev.move rfl rfl) ?_
  refine Run.go (Ev.move rfl rfl) ?_
  obtain ⟨x1, e2, h⟩ := bdS h
  refine Run.go (Ev.callC en112 (k_slices_Index_string_string e2) rfl (.cons .v (.cons .v .nil)) rfl rfl) ?_
  refine Run.go (Ev.int rfl rfl rfl rfl trivial) ?_
  refine Run.go (Ev.assign rfl rfl) ?_
  refine Run.nil ?_
  refine T.ret ?_
  cases h
  exact Fin.one rfl .v
theorem en71 : Enters Tryz.prog 71 := ⟨_, Tryz.func71, rfl, rfl⟩
theorem k_name_Keyword {p0 : ByteArray} {y : Bool} (h : m_name_Keyword p0 = some y) : Spec Tryz.prog 71 [(.v .str p0)] (.v .bool y) [] := by
  rw [m_name_Keyword] at h
  refine enterN [(.v .str p0)] 6 Tryz.func71 rfl rfl rfl ?_
  refine T.seq ?_
  refine T.region ?_
  refine Run.go (Ev.assign rfl rfl) ?_
  refine Run.nil ?_
  refine T.seq ?_
  refine T.region ?_
  obtain ⟨x1, e2, h⟩ := bdS h
  refine Run.go (Ev.callC en96 (k_name_Keywords e2) rfl .nil rfl rfl) ?_
  refine Run.go (Ev.move rfl rfl) ?_
  obtain ⟨x3, e4, h⟩ := bdS h
  refine Run.go (Ev.callC en95 (k_slices_Contains_string_string e4) rfl (.cons .v (.cons .v .nil)) rfl rfl) ?_
  refine Run.go (Ev.assign rfl rfl) ?_
  refine Run.nil ?_
  refine T.ret ?_
  cases h
  exact Fin.one rfl .v
theorem en43 : Enters Tryz.prog 43 := ⟨_, Tryz.func43, rfl, rfl⟩
theorem k_name_Name {p0 : ByteArray} {y : Bool} (h : m_name_Name p0 = some y) : Spec Tryz.prog 43 [(.v .str p0)] (.v .bool y) [] := by
  rw [m_name_Name] at h
  refine enterN [(.v .str p0)] 10 Tryz.func43 rfl rfl rfl ?_
  refine T.seq ?_
  refine T.region ?_
  refine Run.go (Ev.assign rfl rfl) ?_
  refine Run.nil ?_
  refine T.seq ?_
  refine T.region ?_
  refine Run.go (Ev.move rfl rfl) ?_
  obtain ⟨x1, e2, h⟩ := bdS h
  refine Run.go (Ev.callC en70 (k_name_Word e2) rfl (.cons .v .nil) rfl rfl) ?_
  refine Run.go (Ev.move rfl rfl) ?_
  rcases boolCases x1 with hb3 | hb3
  · replace h := ifT hb3 h
    refine Run.on rfl rfl rfl hb3 (Ev.move rfl rfl) ?_
    obtain ⟨x4, e5, h⟩ := bdS h
    refine Run.on rfl rfl rfl hb3 (Ev.callC en71 (k_name_Keyword e5) rfl (.cons .v .nil) rfl rfl) ?_
    refine Run.on rfl rfl rfl hb3 (Ev.not rfl rfl) ?_
    refine Run.go (Ev.pickT rfl hb3 rfl rfl) ?_
    refine Run.go (Ev.assign rfl rfl) ?_
    refine Run.nil ?_
    refine T.ret ?_
    cases h
    exact Fin.one rfl .v
  · replace h := ifF hb3 h
    refine Run.offT rfl rfl rfl rfl hb3 ?_
    refine Run.offT rfl rfl rfl rfl hb3 ?_
    refine Run.offT rfl rfl rfl rfl hb3 ?_
    refine Run.go (Ev.pickF rfl hb3 rfl rfl) ?_
    refine Run.go (Ev.assign rfl rfl) ?_
    refine Run.nil ?_
    refine T.ret ?_
    cases h
    exact Fin.one rfl .v
theorem en44 : Enters Tryz.prog 44 := ⟨_, Tryz.func44, rfl, rfl⟩
theorem k_name_Twice {p0 : (List ByteArray)} {y : ByteArray × Bool} (h : m_name_Twice p0 = some y) : Spec Tryz.prog 44 [(.v (.sl .str) p0)] (.tup [.v .str y.1, .v .bool y.2]) [] := by
  rw [m_name_Twice] at h
  refine enterN [(.v (.sl .str) p0)] 21 Tryz.func44 rfl rfl rfl ?_
  refine T.seq ?_
  refine T.region ?_
  refine Run.go (Ev.assign rfl rfl) ?_
  refine Run.go (Ev.assign rfl rfl) ?_
  refine Run.nil ?_
  refine T.seq ?_
  refine T.region ?_
  refine Run.go (Ev.e_mkmap 1 .str .bool rfl rfl) ?_
  refine Run.go (Ev.assign rfl rfl) ?_
  refine Run.nil ?_
  refine T.seq ?_
  refine T.seq ?_
  refine T.region ?_
  refine Run.go (Ev.move rfl rfl) ?_
  refine Run.go (Ev.len X rfl rfl rfl rfl) ?_
  refine Run.go (Ev.move rfl rfl) ?_
  refine Run.nil ?_
  refine T.block ?_
  refine T.loop (LoopT.ghost (Ghost.only [(1, 1)] [4, 8, 9, 10] rfl) (LoopT.run (fun q : Int × (List (ByteArray × Bool)) => (⟨[(4, .mp 1), (8, .v (.sl .str) p0), (9, .v (.int .i64) ((p0.length : Int) : Int)), (10, .v (.int .i64) q.1)], [(1, .map .str .bool q.2)], 21⟩ : St)) (fun q z1 h hz1 => ?_) h))
  obtain ⟨v1, v2⟩ := q
  dsimp only
  rw [m_name_Twice_l1] at h
  refine T.seq ?_
  refine T.region ?_
  refine Run.go (Ev.int rfl rfl rfl rfl trivial) ?_
  refine Run.nil ?_
  refine T.seq ?_
  refine T.cond rfl (fun hb3 => ?_) (fun hb3 => ?_)
  · replace h := ifT hb3 h
    refine T.skip ?_
    refine T.seq ?_
    refine T.block ?_
    refine T.seq ?_
    refine T.region ?_
    obtain ⟨x4, e5, h⟩ := bdS h
    refine Run.go (Ev.e_rd X e5 rfl rfl rfl rfl) ?_
    refine Run.go (Ev.load X rfl rfl rfl) ?_
    refine Run.go (Ev.assign rfl rfl) ?_
    refine Run.nil ?_
    refine T.seq ?_
    refine T.seq ?_
    refine T.region ?_
    refine Run.go (Ev.move rfl rfl) ?_
    refine Run.go (Ev.move rfl rfl) ?_
    refine Run.go (Ev.e_mget mt115 rfl rfl rfl rfl) ?_
    refine Run.nil ?_
    refine T.cond rfl (fun hb6 => ?_) (fun hb6 => ?_)
    · replace h := ifT hb6 h
      refine T.seq ?_
      refine T.region ?_
      refine Run.go (Ev.move rfl rfl) ?_
      refine Run.go (Ev.assign rfl rfl) ?_
      refine Run.go (Ev.assign rfl rfl) ?_
      refine Run.nil ?_
      refine T.ret ?_
      cases h
      cases hz1
      exact Fin.many X rfl (.cons (.tmp .v) (.cons (.tmp .v) .nil)) rfl
    · replace h := ifF hb6 h
      refine T.skip ?_
      refine T.region ?_
      refine Run.go (Ev.move rfl rfl) ?_
      refine Run.go (Ev.move rfl rfl) ?_
      obtain ⟨x7, e8, h⟩ := ltS h
      refine Run.do_ (Ev.asM (Ev.e_mput mt115 rfl rfl rfl rfl rfl) e8) ?_
      refine Run.nil ?_
      refine T.region ?_
      refine Run.go (Ev.int rfl rfl rfl rfl trivial) ?_
      refine Run.go (Ev.move rfl rfl) ?_
      refine Run.nil ?_
      cases h
      exact LoopT.ghost (Ghost.only [(1, 1)] [4, 8, 9, 10] rfl) hz1
  · replace h := ifF hb3 h
    refine T.exit ?_
    refine T.seq ?_
    refine T.region ?_
    refine Run.go (Ev.assign rfl rfl) ?_
    refine Run.go (Ev.assign rfl rfl) ?_
    refine Run.nil ?_
    refine T.ret ?_
    cases h
    cases hz1
    exact Fin.many X rfl (.cons (.tmp .v) (.cons (.tmp .v) .nil)) rfl
theorem en28 : Enters Tryz.prog 28 := ⟨_, Tryz.func28, rfl, rfl⟩
theorem k_formed_named {p0 : (List ByteArray)} {y : Bool} (h : m_formed_named p0 = some y) : Spec Tryz.prog 28 [(.v (.sl .str) p0)] (.v .bool y) [] := by
  rw [m_formed_named] at h
  refine enterN [(.v (.sl .str) p0)] 24 Tryz.func28 rfl rfl rfl ?_
  refine T.seq ?_
  refine T.region ?_
  refine Run.go (Ev.assign rfl rfl) ?_
  refine Run.nil ?_
  refine T.seq ?_
  refine T.seq ?_
  refine T.region ?_
  refine Run.go (Ev.move rfl rfl) ?_
  refine Run.go (Ev.len X rfl rfl rfl rfl) ?_
  refine Run.go (Ev.move rfl rfl) ?_
  refine Run.nil ?_
  refine T.block ?_
  refine T.loop (LoopT.ghost (Ghost.only [] [0, 7, 8, 9] rfl) (LoopT.run (fun q : Int => (⟨[(0, .v (.sl .str) p0), (7, .v (.sl .str) p0), (8, .v (.int .i64) ((p0.length : Int) : Int)), (9, .v (.int .i64) q)], [], 24⟩ : St)) (fun v1 z1 h hz1 => ?_) h))
  rw [m_formed_named_l1] at h
  refine T.seq ?_
  refine T.region ?_
  refine Run.go (Ev.int rfl rfl rfl rfl trivial) ?_
  refine Run.nil ?_
  refine T.seq ?_
  refine T.cond rfl (fun hb2 => ?_) (fun hb2 => ?_)
  · replace h := ifT hb2 h
    refine T.skip ?_
    refine T.seq ?_
    refine T.block ?_
    refine T.seq ?_
    refine T.region ?_
    obtain ⟨x3, e4, h⟩ := bdS h
    refine Run.go (Ev.e_rd X e4 rfl rfl rfl rfl) ?_
    refine Run.go (Ev.load X rfl rfl rfl) ?_
    refine Run.go (Ev.assign rfl rfl) ?_
    refine Run.nil ?_
    refine T.seq ?_
    refine T.region ?_
    refine Run.go (Ev.move rfl rfl) ?_
    obtain ⟨x5, e6, h⟩ := bdS h
    refine Run.go (Ev.callC en43 (k_name_Name e6) rfl (.cons .v .nil) rfl rfl) ?_
    refine Run.go (Ev.not rfl rfl) ?_
    refine Run.nil ?_
    refine T.cond rfl (fun hb7 => ?_) (fun hb7 => ?_)
    · replace h := ifT hb7 h
      refine T.seq ?_
      refine T.region ?_
      refine Run.go (Ev.assign rfl rfl) ?_
      refine Run.nil ?_
      refine T.ret ?_
      cases h
      cases hz1
      exact Fin.one rfl .v
    · replace h := ifF hb7 h
      refine T.skip ?_
      refine T.region ?_
      refine Run.go (Ev.int rfl rfl rfl rfl trivial) ?_
      refine Run.go (Ev.move rfl rfl) ?_
      refine Run.nil ?_
      cases h
      exact LoopT.ghost (Ghost.only [] [0, 7, 8, 9] rfl) hz1
  · replace h := ifF hb2 h
    refine T.exit ?_
    refine T.seq ?_
    refine T.region ?_
    refine Run.go (Ev.move rfl rfl) ?_
    obtain ⟨x8, e9, h⟩ := bdS h
    refine Run.go (Ev.callC en44 (k_name_Twice e9) rfl (.cons .v .nil) rfl rfl) ?_
    refine Run.go (Ev.move rfl rfl) ?_
    refine Run.go (Ev.extract rfl rfl rfl) ?_
    refine Run.go (Ev.extract rfl rfl rfl) ?_
    refine Run.go (Ev.assign rfl rfl) ?_
    refine Run.go (Ev.assign rfl rfl) ?_
    refine Run.nil ?_
    refine T.seq ?_
    refine T.region ?_
    refine Run.go (Ev.move rfl rfl) ?_
    refine Run.go (Ev.not rfl rfl) ?_
    refine Run.go (Ev.assign rfl rfl) ?_
    refine Run.nil ?_
    refine T.ret ?_
    cases h
    cases hz1
    exact Fin.one rfl .v
theorem en45 : Enters Tryz.prog 45 := ⟨_, Tryz.func45, rfl, rfl⟩
theorem k_formed_nodesRight {p0 : D_api_Net} {y : Bool} (h : m_formed_nodesRight p0 = some y) : Spec Tryz.prog 45 [(.v Y_api_Net p0)] (.v .bool y) [] := by
  rw [m_formed_nodesRight] at h
  refine enterN [(.v Y_api_Net p0)] 21 Tryz.func45 rfl rfl rfl ?_
  refine T.seq ?_
  refine T.region ?_
  refine Run.go (Ev.box 1 rfl rfl rfl rfl) ?_
  refine Run.go (Ev.assign rfl rfl) ?_
  refine Run.nil ?_
  refine T.seq ?_
  refine T.region ?_
  refine Run.go (Ev.assign rfl rfl) ?_
  refine Run.nil ?_
  obtain ⟨v1, hv, h⟩ := bdS h
  refine T.cut (fun _ : Unit => (⟨[(3, .own 4)], [(4, .arr 9 .str v1)], 21⟩ : St)) (fun _ => True) ?_ (fun _ _ => ?_)
  · replace h := hv
    clear hv
    refine T.seq ?_
    refine T.region ?_
    refine Run.go (Ev.fieldBox X rfl rfl rfl rfl rfl) ?_
    refine Run.go (Ev.loadCell X rfl rfl rfl rfl rfl rfl) ?_
    refine Run.go (Ev.len X rfl rfl rfl rfl) ?_
    refine Run.go (Ev.move rfl rfl) ?_
    refine Run.nil ?_
    refine T.block ?_
    refine T.loop (LoopT.ghost (Ghost.trans (Ghost.empty 3 25 9 .str rfl rfl) (Ghost.only [(25, 18)] [3, 7, 8, 9] rfl)) (LoopT.run (fun q : Int × (List ByteArray) => (⟨[(3, .own 18), (7, .v (.sl Y_api_Node) p0.2.1), (8, .v (.int .i64) ((p0.2.1.length : Int) : Int)), (9, .v (.int .i64) q.1)], [(18, .arr 9 .str q.2)], 21⟩ : St)) (fun q z1 h hz1 => ?_) h))
    obtain ⟨v2, v3⟩ := q
    dsimp only
    rw [m_formed_nodesRight_l1] at h
    refine T.seq ?_
    refine T.region ?_
    refine Run.go (Ev.int rfl rfl rfl rfl trivial) ?_
    refine Run.nil ?_
    refine T.seq ?_
    refine T.cond rfl (fun hb4 => ?_) (fun hb4 => ?_)
    · replace h := ifT hb4 h
      refine T.skip ?_
      refine T.seq ?_
      refine T.block ?_
      refine T.seq ?_
      refine T.region ?_
      obtain ⟨x5, e6, h⟩ := bdS h
      refine Run.go (Ev.e_rd X e6 rfl rfl rfl rfl) ?_
      refine Run.go (Ev.load X rfl rfl rfl) ?_
      refine Run.go (Ev.allocN X 26 rfl rfl rfl) ?_
      refine Run.do_ (Ev.storeBox X rfl rfl rfl rfl rfl rfl rfl) ?_
      refine Run.nil ?_
      refine T.region ?_
      refine Run.go (Ev.move rfl rfl) ?_
      refine Run.go (Ev.fieldBox X rfl rfl rfl rfl rfl) ?_
      refine Run.go (Ev.loadCell X rfl rfl rfl rfl rfl rfl) ?_
      refine Run.go (Ev.build X 27 rfl rfl rfl rfl rfl rfl rfl rfl) ?_
      obtain ⟨x7, e8, h⟩ := bdS h
      refine Run.go (Ev.e_ap X 28 e8 rfl rfl rfl (.own rfl) rfl rfl rfl rfl rfl) ?_
      refine Run.go (Ev.assign rfl rfl) ?_
      refine Run.nil ?_
      refine T.region ?_
      refine Run.go (Ev.int rfl rfl rfl rfl trivial) ?_
      refine Run.go (Ev.move rfl rfl) ?_
      refine Run.nil ?_
      cases h
      exact LoopT.ghost (Ghost.only [(28, 18)] [3, 7, 8, 9] rfl) hz1
    · replace h := ifF hb4 h
      refine T.exit ?_
      cases h
      cases hz1
      exact ⟨(), trivial, Ghost.only [(18, 4)] [3] rfl⟩
  · refine T.seq ?_
    refine T.region ?_
    refine Run.go (Ev.move rfl rfl) ?_
    obtain ⟨x9, e10, h⟩ := bdS h
    refine Run.go (Ev.lend rfl (.cons (.own rfl) .nil) en28 (k_formed_named e10) rfl rfl) ?_
    refine Run.go (Ev.assign rfl rfl) ?_
    refine Run.nil ?_
    refine T.ret ?_
    cases h
    exact Fin.one rfl .v
theorem en62 : Enters Tryz.prog 62 := ⟨_, Tryz.func62, rfl, rfl⟩
theorem k_addr_Mask {p0 : Int} {y : Int} (h : m_addr_Mask p0 = some y) : Spec Tryz.prog 62 [(.v (.int .i64) p0)] (.v (.int .u32) y) [] := by
  rw [m_addr_Mask] at h
  refine enterN [(.v (.int .i64) p0)] 10 Tryz.func62 rfl rfl rfl ?_
  refine T.seq ?_
  refine T.region ?_
  refine Run.go (Ev.assign rfl rfl) ?_
  refine Run.nil ?_
  refine T.seq ?_
  refine T.region ?_
  refine Run.go (Ev.move rfl rfl) ?_
  refine Run.go (Ev.max rfl rfl rfl) ?_
  refine Run.go (Ev.min rfl rfl rfl) ?_
  refine Run.go (Ev.assign rfl rfl) ?_
  refine Run.nil ?_
  refine T.seq ?_
  refine T.region ?_
  refine Run.go (Ev.move rfl rfl) ?_
  refine Run.go (Ev.int rfl rfl rfl rfl trivial) ?_
  obtain ⟨x1, e2, h⟩ := bdS h
  refine Run.go (Ev.e_sh e2 rfl rfl rfl) ?_
  refine Run.go (Ev.conv X rfl rfl rfl rfl) ?_
  refine Run.go (Ev.assign rfl rfl) ?_
  refine Run.nil ?_
  refine T.ret ?_
  cases h
  exact Fin.one rfl .v
theorem en34 : Enters Tryz.prog 34 := ⟨_, Tryz.func34, rfl, rfl⟩
theorem k_addr_May {p0 : D_api_Prefix} {y : Bool} (h : m_addr_May p0 = some y) : Spec Tryz.prog 34 [(.v Y_api_Prefix p0)] (.v .bool y) [] := by
  rw [m_addr_May] at h
  refine enterN [(.v Y_api_Prefix p0)] 20 Tryz.func34 rfl rfl rfl ?_
  refine T.seq ?_
  refine T.region ?_
  refine Run.go (Ev.box 1 rfl rfl rfl rfl) ?_
  refine Run.go (Ev.assign rfl rfl) ?_
  refine Run.nil ?_
  refine T.seq ?_
  refine T.drawM [] [0, 1, 3, 7, 15, 31, 63, 127, 255, 511, 1023, 511, 2559, 6655, 16383, 32767, 65535, 131071] (by kernel_rfl) (by kernel_rfl) ?_
  refine RunD.a rfl rfl (Ev.fieldBox X rfl rfl rfl rfl rfl) ?_
  refine RunD.a rfl rfl (Ev.loadCell X rfl rfl rfl rfl rfl rfl) ?_
  refine RunD.w (fun _ => Ev.int rfl rfl rfl rfl trivial) ?_
  refine RunD.w (fun _ => Ev.move rfl rfl) ?_
  rcases boolCases (decide (0 ≤ p0.2)) with hb1 | hb1
  · replace h := ifT hb1 h
    refine RunD.on rfl rfl rfl hb1 rfl (fun ô hô => by obtain rfl := hô.resolve_left (by decide); exact Ev.fieldBox X rfl rfl rfl rfl rfl) ?_
    refine RunD.on rfl rfl rfl hb1 rfl (fun ô hô => by obtain rfl := hô.resolve_left (by decide); exact Ev.loadCell X rfl rfl rfl rfl rfl rfl) ?_
    refine RunD.on rfl rfl rfl hb1 rfl (fun _ _ => Ev.int rfl rfl rfl rfl trivial) ?_
    refine RunD.w (fun _ => Ev.pickT rfl hb1 rfl rfl) ?_
    refine RunD.w (fun _ => Ev.move rfl rfl) ?_
    rcases boolCases (decide (p0.2 ≤ 32)) with hb2 | hb2
    · replace h := ifT hb2 h
      refine RunD.on rfl rfl rfl hb2 rfl (fun ô hô => by obtain rfl := hô.resolve_left (by decide); exact Ev.fieldBox X rfl rfl rfl rfl rfl) ?_
      refine RunD.on rfl rfl rfl hb2 rfl (fun ô hô => by obtain rfl := hô.resolve_left (by decide); exact Ev.loadCell X rfl rfl rfl rfl rfl rfl) ?_
      refine RunD.on rfl rfl rfl hb2 rfl (fun ô hô => by obtain rfl := hô.resolve_left (by decide); exact Ev.fieldBox X rfl rfl rfl rfl rfl) ?_
      refine RunD.on rfl rfl rfl hb2 rfl (fun ô hô => by obtain rfl := hô.resolve_left (by decide); exact Ev.loadCell X rfl rfl rfl rfl rfl rfl) ?_
      obtain ⟨x3, e4, h⟩ := bdS h
      refine RunD.on rfl rfl rfl hb2 rfl (fun ô hô => by obtain rfl := hô.resolve_left (by decide); exact Ev.callC en62 (k_addr_Mask e4) rfl (.cons .v .nil) rfl rfl) ?_
      refine RunD.on rfl rfl rfl hb2 rfl (fun _ _ => Ev.int rfl rfl rfl rfl trivial) ?_
      refine RunD.on rfl rfl rfl hb2 rfl (fun _ _ => Ev.int rfl rfl rfl rfl trivial) ?_
      refine RunD.w (fun _ => Ev.pickT rfl hb2 rfl rfl) ?_
      obtain ⟨x5, e6, h⟩ := ltS h
      refine RunD.w (fun _ => Ev.avs (Ev.assign rfl rfl) e6) ?_
      refine RunD.nil ?_
      refine T.ret ?_
      cases h
      exact Fin.one rfl .v
    · replace h := ifF hb2 h
      refine RunD.offT rfl rfl rfl rfl hb2 ?_
      refine RunD.offT rfl rfl rfl rfl hb2 ?_
      refine RunD.offT rfl rfl rfl rfl hb2 ?_
      refine RunD.offT rfl rfl rfl rfl hb2 ?_
      refine RunD.offT rfl rfl rfl rfl hb2 ?_
      refine RunD.offT rfl rfl rfl rfl hb2 ?_
      refine RunD.offT rfl rfl rfl rfl hb2 ?_
      refine RunD.w (fun _ => Ev.pickF rfl hb2 rfl rfl) ?_
      refine RunD.w (fun _ => Ev.assign rfl rfl) ?_
      refine RunD.nil ?_
      refine T.ret ?_
      cases h
      exact Fin.one rfl .v
  · replace h := ifF hb1 h
    refine RunD.offT rfl rfl rfl rfl hb1 ?_
    refine RunD.offT rfl rfl rfl rfl hb1 ?_
    refine RunD.offT rfl rfl rfl rfl hb1 ?_
    refine RunD.w (fun _ => Ev.pickF rfl hb1 rfl rfl) ?_
    refine RunD.w (fun _ => Ev.move rfl rfl) ?_
    refine RunD.offT rfl rfl rfl rfl rfl ?_
    refine RunD.offT rfl rfl rfl rfl rfl ?_
    refine RunD.offT rfl rfl rfl rfl rfl ?_
    refine RunD.offT rfl rfl rfl rfl rfl ?_
    refine RunD.offT rfl rfl rfl rfl rfl ?_
    refine RunD.offT rfl rfl rfl rfl rfl ?_
    refine RunD.offT rfl rfl rfl rfl rfl ?_
    refine RunD.w (fun _ => Ev.pickF rfl rfl rfl rfl) ?_
    refine RunD.w (fun _ => Ev.assign rfl rfl) ?_
    refine RunD.nil ?_
    refine T.ret ?_
    cases h
    exact Fin.one rfl .v
theorem en46 : Enters Tryz.prog 46 := ⟨_, Tryz.func46, rfl, rfl⟩
theorem k_formed_homesRight {p0 : D_api_Net} {y : Bool} (h : m_formed_homesRight p0 = some y) : Spec Tryz.prog 46 [(.v Y_api_Net p0)] (.v .bool y) [] := by
  rw [m_formed_homesRight] at h
  refine enterN [(.v Y_api_Net p0)] 35 Tryz.func46 rfl rfl rfl ?_
  refine T.seq ?_
  refine T.region ?_
  refine Run.go (Ev.box 1 rfl rfl rfl rfl) ?_
  refine Run.go (Ev.assign rfl rfl) ?_
  refine Run.nil ?_
  refine T.seq ?_
  refine T.seq ?_
  refine T.region ?_
  refine Run.go (Ev.fieldBox X rfl rfl rfl rfl rfl) ?_
  refine Run.go (Ev.loadCell X rfl rfl rfl rfl rfl rfl) ?_
  refine Run.go (Ev.len X rfl rfl rfl rfl) ?_
  refine Run.go (Ev.move rfl rfl) ?_
  refine Run.nil ?_
  refine T.block ?_
  refine T.loop (LoopT.ghost (Ghost.only [] [9, 10, 11] rfl) (LoopT.run (fun q : Int => (⟨[(9, .v (.sl Y_api_Node) p0.2.1), (10, .v (.int .i64) ((p0.2.1.length : Int) : Int)), (11, .v (.int .i64) q)], [], 35⟩ : St)) (fun v1 z1 h hz1 => ?_) h))
  rw [m_formed_homesRight_l1] at h
  refine T.seq ?_
  refine T.region ?_
  refine Run.go (Ev.int rfl rfl rfl rfl trivial) ?_
  refine Run.nil ?_
  refine T.seq ?_
  refine T.cond rfl (fun hb2 => ?_) (fun hb2 => ?_)
  · replace h := ifT hb2 h
    refine T.skip ?_
    refine T.seq ?_
    refine T.block ?_
    refine T.seq ?_
    refine T.region ?_
    obtain ⟨x3, e4, h⟩ := bdS h
    refine Run.go (Ev.e_rd X e4 rfl rfl rfl rfl) ?_
    refine Run.go (Ev.load X rfl rfl rfl) ?_
    refine Run.go (Ev.allocN X 30 rfl rfl rfl) ?_
    refine Run.do_ (Ev.storeBox X rfl rfl rfl rfl rfl rfl rfl) ?_
    refine Run.nil ?_
    refine T.seq ?_
    refine T.region ?_
    refine Run.go (Ev.e_mkmap 31 Y_api_Prefix .bool rfl rfl) ?_
    refine Run.go (Ev.assign rfl rfl) ?_
    refine Run.nil ?_
    refine T.seq ?_
    refine T.region ?_
    refine Run.go (Ev.fieldBox X rfl rfl rfl rfl rfl) ?_
    refine Run.go (Ev.loadCell X rfl rfl rfl rfl rfl rfl) ?_
    refine Run.go (Ev.len X rfl rfl rfl rfl) ?_
    refine Run.go (Ev.move rfl rfl) ?_
    refine Run.nil ?_
    refine T.block ?_
    refine T.loop (LoopT.ghost (Ghost.only [(31, 31)] [5, 9, 10, 11, 17, 18, 19] rfl) (LoopT.run (fun q : Int × (List (D_api_Prefix × Bool)) => (⟨[(5, .mp 31), (9, .v (.sl Y_api_Node) p0.2.1), (10, .v (.int .i64) ((p0.2.1.length : Int) : Int)), (11, .v (.int .i64) v1), (17, .v (.sl Y_api_Prefix) x3.2), (18, .v (.int .i64) ((x3.2.length : Int) : Int)), (19, .v (.int .i64) q.1)], [(31, .map Y_api_Prefix .bool q.2)], 35⟩ : St)) (fun q z2 h hz2 => ?_) h))
    obtain ⟨v5, v6⟩ := q
    dsimp only
    rw [m_formed_homesRight_l2] at h
    refine T.seq ?_
    refine T.region ?_
    refine Run.go (Ev.int rfl rfl rfl rfl trivial) ?_
    refine Run.nil ?_
    refine T.seq ?_
    refine T.cond rfl (fun hb7 => ?_) (fun hb7 => ?_)
    · replace h := ifT hb7 h
      refine T.skip ?_
      refine T.seq ?_
      refine T.block ?_
      refine T.seq ?_
      refine T.region ?_
      obtain ⟨x8, e9, h⟩ := bdS h
      refine Run.go (Ev.e_rd X e9 rfl rfl rfl rfl) ?_
      refine Run.go (Ev.load X rfl rfl rfl) ?_
      refine Run.go (Ev.allocN X 41 rfl rfl rfl) ?_
      refine Run.do_ (Ev.storeBox X rfl rfl rfl rfl rfl rfl rfl) ?_
      refine Run.nil ?_
      refine T.seq ?_
      obtain ⟨v10, hv, h⟩ := bdS h
      refine T.cut (fun _ : Unit => (⟨[(5, .mp 31), (7, .box 41 0), (9, .v (.sl Y_api_Node) p0.2.1), (10, .v (.int .i64) ((p0.2.1.length : Int) : Int)), (11, .v (.int .i64) v1), (17, .v (.sl Y_api_Prefix) x3.2), (18, .v (.int .i64) ((x3.2.length : Int) : Int)), (19, .v (.int .i64) v5), (30, .v .bool v10)], [(31, .map Y_api_Prefix .bool v6), (41, .box [.v (.int .u32) x8.1, .v (.int .i64) x8.2])], 35⟩ : St)) (fun _ => True) ?_ (fun _ _ => ?_)
      · replace h := hv
        clear hv
        refine T.region ?_
        refine Run.go (Ev.loadBox X rfl rfl rfl rfl rfl) ?_
        obtain ⟨x11, e12, h⟩ := bdS h
        refine Run.go (Ev.callC en34 (k_addr_May e12) rfl (.cons .v .nil) rfl rfl) ?_
        refine Run.go (Ev.not rfl rfl) ?_
        refine Run.go (Ev.move rfl rfl) ?_
        rcases boolCases (!x11) with hb13 | hb13
        · replace h := ifT hb13 h
          refine Run.offT rfl rfl rfl rfl hb13 ?_
          refine Run.offT rfl rfl rfl rfl hb13 ?_
          refine Run.offT rfl rfl rfl rfl hb13 ?_
          refine Run.go (Ev.pickT rfl hb13 rfl rfl) ?_
          refine Run.nil ?_
          cases h
          exact ⟨(), trivial, Ghost.only [(31, 31), (41, 41)] [5, 7, 9, 10, 11, 17, 18, 19, 30] rfl⟩
        · replace h := ifF hb13 h
          refine Run.on rfl rfl rfl hb13 (Ev.move rfl rfl) ?_
          refine Run.on rfl rfl rfl hb13 (Ev.loadBox X rfl rfl rfl rfl rfl) ?_
          refine Run.on rfl rfl rfl hb13 (Ev.e_mget mt116 rfl rfl rfl rfl) ?_
          refine Run.go (Ev.pickF rfl hb13 rfl rfl) ?_
          refine Run.nil ?_
          cases h
          exact ⟨(), trivial, Ghost.only [(31, 31), (41, 41)] [5, 7, 9, 10, 11, 17, 18, 19, 30] rfl⟩
      · refine T.cond rfl (fun hb14 => ?_) (fun hb14 => ?_)
        · replace h := ifT hb14 h
          refine T.seq ?_
          refine T.region ?_
          refine Run.go (Ev.assign rfl rfl) ?_
          refine Run.nil ?_
          refine T.ret ?_
          cases h
          cases hz2
          cases hz1
          exact Fin.one rfl .v
        · replace h := ifF hb14 h
          refine T.skip ?_
          refine T.region ?_
          refine Run.go (Ev.move rfl rfl) ?_
          refine Run.go (Ev.loadBox X rfl rfl rfl rfl rfl) ?_
          obtain ⟨x15, e16, h⟩ := ltS h
          refine Run.do_ (Ev.asM (Ev.e_mput mt116 rfl rfl rfl rfl rfl) e16) ?_
          refine Run.nil ?_
          refine T.region ?_
          refine Run.go (Ev.int rfl rfl rfl rfl trivial) ?_
          refine Run.go (Ev.move rfl rfl) ?_
          refine Run.nil ?_
          cases h
          exact LoopT.ghost (Ghost.only [(31, 31)] [5, 9, 10, 11, 17, 18, 19] rfl) hz2
    · replace h := ifF hb7 h
      refine T.exit ?_
      refine T.region ?_
      refine Run.go (Ev.int rfl rfl rfl rfl trivial) ?_
      refine Run.go (Ev.move rfl rfl) ?_
      refine Run.nil ?_
      cases h
      cases hz2
      exact LoopT.ghost (Ghost.only [] [9, 10, 11] rfl) hz1
  · replace h := ifF hb2 h
    refine T.exit ?_
    refine T.seq ?_
    refine T.region ?_
    refine Run.go (Ev.assign rfl rfl) ?_
    refine Run.nil ?_
    refine T.ret ?_
    cases h
    cases hz1
    exact Fin.one rfl .v
theorem en47 : Enters Tryz.prog 47 := ⟨_, Tryz.func47, rfl, rfl⟩
theorem k_formed_linksRight {p0 : D_api_Net} {y : Bool} (h : m_formed_linksRight p0 = some y) : Spec Tryz.prog 47 [(.v Y_api_Net p0)] (.v .bool y) [] := by
  rw [m_formed_linksRight] at h
  refine enterN [(.v Y_api_Net p0)] 21 Tryz.func47 rfl rfl rfl ?_
  refine T.seq ?_
  refine T.region ?_
  refine Run.go (Ev.box 1 rfl rfl rfl rfl) ?_
  refine Run.go (Ev.assign rfl rfl) ?_
  refine Run.nil ?_
  refine T.seq ?_
  refine T.region ?_
  refine Run.go (Ev.assign rfl rfl) ?_
  refine Run.nil ?_
  obtain ⟨v1, hv, h⟩ := bdS h
  refine T.cut (fun _ : Unit => (⟨[(3, .own 4)], [(4, .arr 9 .str v1)], 21⟩ : St)) (fun _ => True) ?_ (fun _ _ => ?_)
  · replace h := hv
    clear hv
    refine T.seq ?_
    refine T.region ?_
    refine Run.go (Ev.fieldBox X rfl rfl rfl rfl rfl) ?_
    refine Run.go (Ev.loadCell X rfl rfl rfl rfl rfl rfl) ?_
    refine Run.go (Ev.len X rfl rfl rfl rfl) ?_
    refine Run.go (Ev.move rfl rfl) ?_
    refine Run.nil ?_
    refine T.block ?_
    refine T.loop (LoopT.ghost (Ghost.trans (Ghost.empty 3 25 9 .str rfl rfl) (Ghost.only [(25, 18)] [3, 7, 8, 9] rfl)) (LoopT.run (fun q : Int × (List ByteArray) => (⟨[(3, .own 18), (7, .v (.sl Y_api_Link) p0.2.2.1), (8, .v (.int .i64) ((p0.2.2.1.length : Int) : Int)), (9, .v (.int .i64) q.1)], [(18, .arr 9 .str q.2)], 21⟩ : St)) (fun q z1 h hz1 => ?_) h))
    obtain ⟨v2, v3⟩ := q
    dsimp only
    rw [m_formed_linksRight_l1] at h
    refine T.seq ?_
    refine T.region ?_
    refine Run.go (Ev.int rfl rfl rfl rfl trivial) ?_
    refine Run.nil ?_
    refine T.seq ?_
    refine T.cond rfl (fun hb4 => ?_) (fun hb4 => ?_)
    · replace h := ifT hb4 h
      refine T.skip ?_
      refine T.seq ?_
      refine T.block ?_
      refine T.seq ?_
      refine T.region ?_
      obtain ⟨x5, e6, h⟩ := bdS h
      refine Run.go (Ev.e_rd X e6 rfl rfl rfl rfl) ?_
      refine Run.go (Ev.load X rfl rfl rfl) ?_
      refine Run.go (Ev.allocN X 26 rfl rfl rfl) ?_
      refine Run.do_ (Ev.storeBox X rfl rfl rfl rfl rfl rfl rfl) ?_
      refine Run.nil ?_
      refine T.region ?_
      refine Run.go (Ev.move rfl rfl) ?_
      refine Run.go (Ev.fieldBox X rfl rfl rfl rfl rfl) ?_
      refine Run.go (Ev.loadCell X rfl rfl rfl rfl rfl rfl) ?_
      refine Run.go (Ev.build X 27 rfl rfl rfl rfl rfl rfl rfl rfl) ?_
      obtain ⟨x7, e8, h⟩ := bdS h
      refine Run.go (Ev.e_ap X 28 e8 rfl rfl rfl (.own rfl) rfl rfl rfl rfl rfl) ?_
      refine Run.go (Ev.assign rfl rfl) ?_
      refine Run.nil ?_
      refine T.region ?_
      refine Run.go (Ev.int rfl rfl rfl rfl trivial) ?_
      refine Run.go (Ev.move rfl rfl) ?_
      refine Run.nil ?_
      cases h
      exact LoopT.ghost (Ghost.only [(28, 18)] [3, 7, 8, 9] rfl) hz1
    · replace h := ifF hb4 h
      refine T.exit ?_
      cases h
      cases hz1
      exact ⟨(), trivial, Ghost.only [(18, 4)] [3] rfl⟩
  · refine T.seq ?_
    refine T.region ?_
    refine Run.go (Ev.move rfl rfl) ?_
    obtain ⟨x9, e10, h⟩ := bdS h
    refine Run.go (Ev.lend rfl (.cons (.own rfl) .nil) en28 (k_formed_named e10) rfl rfl) ?_
    refine Run.go (Ev.assign rfl rfl) ?_
    refine Run.nil ?_
    refine T.ret ?_
    cases h
    exact Fin.one rfl .v
theorem en73 : Enters Tryz.prog 73 := ⟨_, Tryz.func73, rfl, rfl⟩
theorem k_formed_endsRight_1 {p0 : D_api_Link} {p1 : D_api_Net} {y : Bool} (h : m_formed_endsRight_1 p0 p1 = some y) : Spec Tryz.prog 73 [(.v Y_api_Link p0), (.ptr Y_api_Net p1)] (.v .bool y) [] := by
  rw [m_formed_endsRight_1] at h
  refine enterN [(.v Y_api_Link p0), (.ptr Y_api_Net p1)] 28 Tryz.func73 rfl rfl rfl ?_
  refine T.seq ?_
  refine T.region ?_
  refine Run.go (Ev.box 1 rfl rfl rfl rfl) ?_
  refine Run.go (Ev.assign rfl rfl) ?_
  refine Run.nil ?_
  refine T.seq ?_
  refine T.region ?_
  refine Run.go (Ev.load X rfl rfl rfl) ?_
  refine Run.go (Ev.fieldBox X rfl rfl rfl rfl rfl) ?_
  refine Run.go (Ev.loadCell X rfl rfl rfl rfl rfl rfl) ?_
  obtain ⟨x1, e2, h⟩ := bdS h
  refine Run.go (Ev.callC en8 (k_formed_Node e2) rfl (.cons .v (.cons .v .nil)) rfl rfl) ?_
  refine Run.go (Ev.move rfl rfl) ?_
  refine Run.go (Ev.extract rfl rfl rfl) ?_
  refine Run.go (Ev.extract rfl rfl rfl) ?_
  refine Run.go (Ev.assign rfl rfl) ?_
  refine Run.go (Ev.assign rfl rfl) ?_
  refine Run.nil ?_
  refine T.seq ?_
  refine T.region ?_
  refine Run.go (Ev.load X rfl rfl rfl) ?_
  refine Run.go (Ev.fieldBox X rfl rfl rfl rfl rfl) ?_
  refine Run.go (Ev.loadCell X rfl rfl rfl rfl rfl rfl) ?_
  obtain ⟨x3, e4, h⟩ := bdS h
  refine Run.go (Ev.callC en8 (k_formed_Node e4) rfl (.cons .v (.cons .v .nil)) rfl rfl) ?_
  refine Run.go (Ev.move rfl rfl) ?_
  refine Run.go (Ev.extract rfl rfl rfl) ?_
  refine Run.go (Ev.extract rfl rfl rfl) ?_
  refine Run.go (Ev.assign rfl rfl) ?_
  refine Run.go (Ev.assign rfl rfl) ?_
  refine Run.nil ?_
  refine T.seq ?_
  refine T.region ?_
  refine Run.go (Ev.move rfl rfl) ?_
  refine Run.go (Ev.not rfl rfl) ?_
  refine Run.go (Ev.move rfl rfl) ?_
  rcases boolCases (!x1.2) with hb5 | hb5
  · replace h := ifT hb5 h
    refine Run.offT rfl rfl rfl rfl hb5 ?_
    refine Run.offT rfl rfl rfl rfl hb5 ?_
    refine Run.go (Ev.pickT rfl hb5 rfl rfl) ?_
    refine Run.go (Ev.assign rfl rfl) ?_
    refine Run.nil ?_
    refine T.ret ?_
    cases h
    exact Fin.one rfl .v
  · replace h := ifF hb5 h
    refine Run.on rfl rfl rfl hb5 (Ev.move rfl rfl) ?_
    refine Run.on rfl rfl rfl hb5 (Ev.not rfl rfl) ?_
    refine Run.go (Ev.pickF rfl hb5 rfl rfl) ?_
    refine Run.go (Ev.assign rfl rfl) ?_
    refine Run.nil ?_
    refine T.ret ?_
    cases h
    exact Fin.one rfl .v
theorem k_slices_IndexFunc_api_Link_api_Link__formed_endsRight_1 {p0 : (List D_api_Link)} {p1_0 : D_api_Net} {y : Int} (h : m_slices_IndexFunc_api_Link_api_Link__formed_endsRight_1 p0 p1_0 = some y) : Spec Tryz.prog 26 [(.v (.sl Y_api_Link) p0), (.fn 73 [(.ptr Y_api_Net p1_0)])] (.v (.int .i64) y) [] := by
  rw [m_slices_IndexFunc_api_Link_api_Link__formed_endsRight_1] at h
  refine enterN [(.v (.sl Y_api_Link) p0), (.fn 73 [(.ptr Y_api_Net p1_0)])] 19 Tryz.func26 rfl rfl rfl ?_
  refine T.seq ?_
  refine T.region ?_
  refine Run.go (Ev.assign rfl rfl) ?_
  refine Run.nil ?_
  refine T.seq ?_
  refine T.seq ?_
  refine T.region ?_
  refine Run.go (Ev.move rfl rfl) ?_
  refine Run.go (Ev.len X rfl rfl rfl rfl) ?_
  refine Run.go (Ev.move rfl rfl) ?_
  refine Run.nil ?_
  refine T.block ?_
  refine T.loop (LoopT.ghost (Ghost.only [] [0, 1, 7, 8] rfl) (LoopT.run (fun q : Int => (⟨[(0, .v (.sl Y_api_Link) p0), (1, .fn 73 [.ptr Y_api_Net p1_0]), (7, .v (.int .i64) ((p0.length : Int) : Int)), (8, .v (.int .i64) q)], [], 19⟩ : St)) (fun v1 z1 h hz1 => ?_) h))
  rw [m_slices_IndexFunc_api_Link_api_Link__formed_endsRight_1_l1] at h
  refine T.seq ?_
  refine T.region ?_
  refine Run.go (Ev.int rfl rfl rfl rfl trivial) ?_
  refine Run.nil ?_
  refine T.seq ?_
  refine T.cond rfl (fun hb2 => ?_) (fun hb2 => ?_)
  · replace h := ifT hb2 h
    refine T.skip ?_
    refine T.seq ?_
    refine T.block ?_
    refine T.seq ?_
    refine T.region ?_
    refine Run.go (Ev.move rfl rfl) ?_
    refine Run.go (Ev.assign rfl rfl) ?_
    refine Run.nil ?_
    refine T.seq ?_
    refine T.region ?_
    refine Run.go (Ev.move rfl rfl) ?_
    refine Run.go (Ev.move rfl rfl) ?_
    refine Run.go (Ev.move rfl rfl) ?_
    obtain ⟨x3, e4, h⟩ := bdS h
    refine Run.go (Ev.e_rd X e4 rfl rfl rfl rfl) ?_
    refine Run.go (Ev.load X rfl rfl rfl) ?_
    obtain ⟨x5, e6, h⟩ := bdS h
    refine Run.go (Ev.callC en73 (k_formed_endsRight_1 e6) rfl (.cons .v (.cons .ptr .nil)) rfl rfl) ?_
    refine Run.nil ?_
    refine T.cond rfl (fun hb7 => ?_) (fun hb7 => ?_)
    · replace h := ifT hb7 h
      refine T.seq ?_
      refine T.region ?_
      refine Run.go (Ev.move rfl rfl) ?_
      refine Run.go (Ev.assign rfl rfl) ?_
      refine Run.nil ?_
      refine T.ret ?_
      cases h
      cases hz1
      exact Fin.one rfl .v
    · replace h := ifF hb7 h
      refine T.skip ?_
      refine T.region ?_
      refine Run.go (Ev.int rfl rfl rfl rfl trivial) ?_
      refine Run.go (Ev.move rfl rfl) ?_
      refine Run.nil ?_
      cases h
      exact LoopT.ghost (Ghost.only [] [0, 1, 7, 8] rfl) hz1
  · replace h := ifF hb2 h
    refine T.exit ?_
    refine T.seq ?_
    refine T.region ?_
    refine Run.go (Ev.assign rfl rfl) ?_
    refine Run.nil ?_
    refine T.ret ?_
    cases h
    cases hz1
    exact Fin.one rfl .v
theorem en72 : Enters Tryz.prog 72 := ⟨_, Tryz.func72, rfl, rfl⟩
theorem k_slices_ContainsFunc_api_Link_api_Link__formed_endsRight_1 {p0 : (List D_api_Link)} {p1_0 : D_api_Net} {y : Bool} (h : m_slices_ContainsFunc_api_Link_api_Link__formed_endsRight_1 p0 p1_0 = some y) : Spec Tryz.prog 72 [(.v (.sl Y_api_Link) p0), (.fn 73 [(.ptr Y_api_Net p1_0)])] (.v .bool y) [] := by
  rw [m_slices_ContainsFunc_api_Link_api_Link__formed_endsRight_1] at h
  refine enterN [(.v (.sl Y_api_Link) p0), (.fn 73 [(.ptr Y_api_Net p1_0)])] 9 Tryz.func72 rfl rfl rfl ?_
  refine T.seq ?_
  refine T.region ?_
  refine Run.go (Ev.assign rfl rfl) ?_
  refine Run.nil ?_
  refine T.seq ?_
  refine T.region ?_
  refine Run.go (Ev.move rfl rfl) ?_
  refine Run.go (Ev.move rfl rfl) ?_
  obtain ⟨x1, e2, h⟩ := bdS h
  refine Run.go (Ev.callC en26 (k_slices_IndexFunc_api_Link_api_Link__formed_endsRight_1 e2) rfl (.cons .v (.cons (.fn rfl) .nil)) rfl rfl) ?_
  refine Run.go (Ev.int rfl rfl rfl rfl trivial) ?_
  refine Run.go (Ev.assign rfl rfl) ?_
  refine Run.nil ?_
  refine T.ret ?_
  cases h
  exact Fin.one rfl .v
end Go.Proofs.YtbmogniipgmkiaaGreat.AE
/- The code comes to the printed functions (printed by a program of ours). -/
namespace Go.Proofs.YtbmogniipgmkiaaGreat.AE
open Go Go.RowKit Go.Proofs.YtbmogniipgmkiaaGreat.AP
set_option linter.unusedVariables false
set_option maxRecDepth 20000
theorem en48 : Enters Tryz.prog 48 := ⟨_, Tryz.func48, rfl, rfl⟩
theorem k_formed_endsRight {p0 : D_api_Net} {y : Bool} (h : m_formed_endsRight p0 = some y) : Spec Tryz.prog 48 [(.v Y_api_Net p0)] (.v .bool y) [] := by
  rw [m_formed_endsRight] at h
  refine enterN [(.v Y_api_Net p0)] 8 Tryz.func48 rfl rfl rfl ?_
  refine T.seq ?_
  refine T.region ?_
  refine Run.go (Ev.box 1 rfl rfl rfl rfl) ?_
  refine Run.go (Ev.assign rfl rfl) ?_
  refine Run.nil ?_
  refine T.seq ?_
  refine T.region ?_
  refine Run.go (Ev.fieldBox X rfl rfl rfl rfl rfl) ?_
  refine Run.go (Ev.loadCell X rfl rfl rfl rfl rfl rfl) ?_
  refine Run.go (Ev.e_fn rfl rfl) ?_
  refine Run.ghost (Ghost.freeze (id := 1) (τ := Y_api_Net) (y := ((p0.1, p0.2.1, p0.2.2.1, p0.2.2.2) : D_api_Net)) rfl rfl) ?_
  obtain ⟨x1, e2, h⟩ := bdS h
  refine Run.go (Ev.callC en72 (k_slices_ContainsFunc_api_Link_api_Link__formed_endsRight_1 e2) rfl (.cons .v (.cons (.fn rfl) .nil)) rfl rfl) ?_
  refine Run.go (Ev.not rfl rfl) ?_
  refine Run.go (Ev.assign rfl rfl) ?_
  refine Run.nil ?_
  refine T.ret ?_
  cases h
  exact Fin.one rfl .v
theorem en97 : Enters Tryz.prog 97 := ⟨_, Tryz.func97, rfl, rfl⟩
theorem k_nat_May {p0 : (List Int)} {y : Bool} (h : m_nat_May p0 = some y) : Spec Tryz.prog 97 [(.v (.sl (.int .u64)) p0)] (.v .bool y) [] := by
  rw [m_nat_May] at h
  refine enterN [(.v (.sl (.int .u64)) p0)] 26 Tryz.func97 rfl rfl rfl ?_
  refine T.seq ?_
  refine T.region ?_
  refine Run.go (Ev.assign rfl rfl) ?_
  refine Run.nil ?_
  refine T.seq ?_
  refine T.seq ?_
  refine T.region ?_
  refine Run.go (Ev.move rfl rfl) ?_
  refine Run.go (Ev.len X rfl rfl rfl rfl) ?_
  refine Run.go (Ev.move rfl rfl) ?_
  refine Run.nil ?_
  refine T.block ?_
  refine T.loop (LoopT.ghost (Ghost.only [] [0, 5, 6, 7] rfl) (LoopT.run (fun q : Int => (⟨[(0, .v (.sl (.int .u64)) p0), (5, .v (.sl (.int .u64)) p0), (6, .v (.int .i64) ((p0.length : Int) : Int)), (7, .v (.int .i64) q)], [], 26⟩ : St)) (fun v1 z1 h hz1 => ?_) h))
  rw [m_nat_May_l1] at h
  refine T.seq ?_
  refine T.region ?_
  refine Run.go (Ev.int rfl rfl rfl rfl trivial) ?_
  refine Run.nil ?_
  refine T.seq ?_
  refine T.cond rfl (fun hb2 => ?_) (fun hb2 => ?_)
  · replace h := ifT hb2 h
    refine T.skip ?_
    refine T.seq ?_
    refine T.block ?_
    refine T.seq ?_
    refine T.region ?_
    obtain ⟨x3, e4, h⟩ := bdS h
    refine Run.go (Ev.e_rd X e4 rfl rfl rfl rfl) ?_
    refine Run.go (Ev.load X rfl rfl rfl) ?_
    refine Run.go (Ev.assign rfl rfl) ?_
    refine Run.nil ?_
    refine T.seq ?_
    refine T.region ?_
    refine Run.go (Ev.move rfl rfl) ?_
    refine Run.go (Ev.int rfl rfl rfl rfl trivial) ?_
    refine Run.nil ?_
    refine T.cond rfl (fun hb5 => ?_) (fun hb5 => ?_)
    · replace h := ifT hb5 h
      refine T.seq ?_
      refine T.region ?_
      refine Run.go (Ev.assign rfl rfl) ?_
      refine Run.nil ?_
      refine T.ret ?_
      cases h
      cases hz1
      exact Fin.one rfl .v
    · replace h := ifF hb5 h
      refine T.skip ?_
      refine T.region ?_
      refine Run.go (Ev.int rfl rfl rfl rfl trivial) ?_
      refine Run.go (Ev.move rfl rfl) ?_
      refine Run.nil ?_
      cases h
      exact LoopT.ghost (Ghost.only [] [0, 5, 6, 7] rfl) hz1
  · replace h := ifF hb2 h
    refine T.exit ?_
    refine T.seq ?_
    refine T.region ?_
    refine Run.go (Ev.move rfl rfl) ?_
    refine Run.go (Ev.len X rfl rfl rfl rfl) ?_
    refine Run.go (Ev.int rfl rfl rfl rfl trivial) ?_
    refine Run.go (Ev.move rfl rfl) ?_
    rcases boolCases (decide ((p0.length : Int) = 0)) with hb6 | hb6
    · replace h := ifT hb6 h
      refine Run.offT rfl rfl rfl rfl hb6 ?_
      refine Run.offT rfl rfl rfl rfl hb6 ?_
      refine Run.offT rfl rfl rfl rfl hb6 ?_
      refine Run.offT rfl rfl rfl rfl hb6 ?_
      refine Run.offT rfl rfl rfl rfl hb6 ?_
      refine Run.offT rfl rfl rfl rfl hb6 ?_
      refine Run.offT rfl rfl rfl rfl hb6 ?_
      refine Run.go (Ev.pickT rfl hb6 rfl rfl) ?_
      refine Run.go (Ev.assign rfl rfl) ?_
      refine Run.nil ?_
      refine T.ret ?_
      cases h
      cases hz1
      exact Fin.one rfl .v
    · replace h := ifF hb6 h
      refine Run.on rfl rfl rfl hb6 (Ev.move rfl rfl) ?_
      refine Run.on rfl rfl rfl hb6 (Ev.move rfl rfl) ?_
      refine Run.on rfl rfl rfl hb6 (Ev.len X rfl rfl rfl rfl) ?_
      refine Run.on rfl rfl rfl hb6 (Ev.int rfl rfl rfl rfl trivial) ?_
      obtain ⟨x7, e8, h⟩ := bdS h
      refine Run.on rfl rfl rfl hb6 (Ev.e_rd X e8 rfl rfl rfl rfl) ?_
      refine Run.on rfl rfl rfl hb6 (Ev.load X rfl rfl rfl) ?_
      refine Run.on rfl rfl rfl hb6 (Ev.int rfl rfl rfl rfl trivial) ?_
      refine Run.go (Ev.pickF rfl hb6 rfl rfl) ?_
      refine Run.go (Ev.assign rfl rfl) ?_
      refine Run.nil ?_
      refine T.ret ?_
      cases h
      cases hz1
      exact Fin.one rfl .v
theorem en125 : Enters Tryz.prog 125 := ⟨_, Tryz.func125, rfl, rfl⟩
theorem k_nat_trim {p0 : (List Int)} {y : (List Int)} (h : m_nat_trim p0 = some y) : Spec Tryz.prog 125 [(.v (.sl (.int .u64)) p0)] (.v (.sl (.int .u64)) y) [] := by
  rw [m_nat_trim] at h
  refine enterN [(.v (.sl (.int .u64)) p0)] 21 Tryz.func125 rfl rfl rfl ?_
  refine T.seq ?_
  refine T.region ?_
  refine Run.go (Ev.assign rfl rfl) ?_
  refine Run.nil ?_
  refine T.seq ?_
  refine T.region ?_
  refine Run.go (Ev.move rfl rfl) ?_
  refine Run.go (Ev.len X rfl rfl rfl rfl) ?_
  refine Run.go (Ev.assign rfl rfl) ?_
  refine Run.nil ?_
  obtain ⟨v1, hv, h⟩ := bdS h
  refine T.cut (fun _ : Unit => (⟨[(0, .v (.sl (.int .u64)) p0), (3, .v (.int .i64) v1)], [], 21⟩ : St)) (fun _ => True) ?_ (fun _ _ => ?_)
  · replace h := hv
    clear hv
    refine T.block ?_
    refine T.loop (LoopT.ghost (Ghost.only [] [0, 3] rfl) (LoopT.run (fun q : Int => (⟨[(0, .v (.sl (.int .u64)) p0), (3, .v (.int .i64) q)], [], 21⟩ : St)) (fun v2 z1 h hz1 => ?_) h))
    rw [m_nat_trim_l1] at h
    refine T.seq ?_
    obtain ⟨v3, hv, h⟩ := bdS h
    refine T.cut (fun _ : Unit => (⟨[(0, .v (.sl (.int .u64)) p0), (3, .v (.int .i64) v2), (15, .v .bool v3)], [], 21⟩ : St)) (fun _ => True) ?_ (fun _ _ => ?_)
    · replace h := hv
      clear hv
      refine T.region ?_
      refine Run.go (Ev.move rfl rfl) ?_
      refine Run.go (Ev.int rfl rfl rfl rfl trivial) ?_
      refine Run.go (Ev.move rfl rfl) ?_
      rcases boolCases (decide (0 < v2)) with hb4 | hb4
      · replace h := ifT hb4 h
        refine Run.on rfl rfl rfl hb4 (Ev.move rfl rfl) ?_
        refine Run.on rfl rfl rfl hb4 (Ev.move rfl rfl) ?_
        refine Run.on rfl rfl rfl hb4 (Ev.int rfl rfl rfl rfl trivial) ?_
        obtain ⟨x5, e6, h⟩ := bdS h
        refine Run.on rfl rfl rfl hb4 (Ev.e_rd X e6 rfl rfl rfl rfl) ?_
        refine Run.on rfl rfl rfl hb4 (Ev.load X rfl rfl rfl) ?_
        refine Run.on rfl rfl rfl hb4 (Ev.int rfl rfl rfl rfl trivial) ?_
        refine Run.go (Ev.pickT rfl hb4 rfl rfl) ?_
        refine Run.nil ?_
        cases h
        exact ⟨(), trivial, Ghost.only [] [0, 3, 15] rfl⟩
      · replace h := ifF hb4 h
        refine Run.offT rfl rfl rfl rfl hb4 ?_
        refine Run.offT rfl rfl rfl rfl hb4 ?_
        refine Run.offT rfl rfl rfl rfl hb4 ?_
        refine Run.offT rfl rfl rfl rfl hb4 ?_
        refine Run.offT rfl rfl rfl rfl hb4 ?_
        refine Run.offT rfl rfl rfl rfl hb4 ?_
        refine Run.go (Ev.pickF rfl hb4 rfl rfl) ?_
        refine Run.nil ?_
        cases h
        exact ⟨(), trivial, Ghost.only [] [0, 3, 15] rfl⟩
    · refine T.cond rfl (fun hb7 => ?_) (fun hb7 => ?_)
      · replace h := ifT hb7 h
        refine T.skip ?_
        refine T.block ?_
        refine T.region ?_
        refine Run.go (Ev.move rfl rfl) ?_
        refine Run.go (Ev.int rfl rfl rfl rfl trivial) ?_
        refine Run.go (Ev.assign rfl rfl) ?_
        refine Run.nil ?_
        cases h
        exact LoopT.ghost (Ghost.only [] [0, 3] rfl) hz1
      · replace h := ifF hb7 h
        refine T.exit ?_
        cases h
        cases hz1
        exact ⟨(), trivial, Ghost.only [] [0, 3] rfl⟩
  · refine T.seq ?_
    refine T.region ?_
    refine Run.go (Ev.move rfl rfl) ?_
    refine Run.go (Ev.move rfl rfl) ?_
    obtain ⟨x8, e9, h⟩ := bdS h
    refine Run.go (Ev.e_ct X e9 rfl rfl rfl (fun _ h => by cases h) (fun _ => rfl) (fun _ _ => cutAt_of rfl) (fun h => by cases h)) ?_
    refine Run.go (Ev.assign rfl rfl) ?_
    refine Run.nil ?_
    refine T.ret ?_
    cases h
    exact Fin.one rfl .v
theorem en123 : Enters Tryz.prog 123 := ⟨_, Tryz.func123, rfl, rfl⟩
theorem k_nat_Make {p0 : (List Int)} {y : (List Int) × Int} (h : m_nat_Make p0 = some y) : Spec Tryz.prog 123 [(.v (.sl (.int .u64)) p0)] (.tup [.v (.sl (.int .u64)) y.1, .v (.int .i64) y.2]) [] := by
  rw [m_nat_Make] at h
  refine enterN [(.v (.sl (.int .u64)) p0)] 25 Tryz.func123 rfl rfl rfl ?_
  refine T.seq ?_
  refine T.region ?_
  refine Run.go (Ev.assign rfl rfl) ?_
  refine Run.go (Ev.assign rfl rfl) ?_
  refine Run.nil ?_
  refine T.seq ?_
  refine T.region ?_
  refine Run.go (Ev.move rfl rfl) ?_
  refine Run.go (Ev.len X rfl rfl rfl rfl) ?_
  obtain ⟨x1, e2, h⟩ := bdS h
  refine Run.go (Ev.e_mk X 1 e2 rfl rfl rfl rfl rfl rfl) ?_
  refine Run.go (Ev.assign rfl rfl) ?_
  refine Run.nil ?_
  refine T.seq ?_
  refine T.seq ?_
  refine T.region ?_
  refine Run.go (Ev.move rfl rfl) ?_
  refine Run.go (Ev.len X rfl rfl rfl rfl) ?_
  refine Run.go (Ev.move rfl rfl) ?_
  refine Run.nil ?_
  refine T.block ?_
  refine T.loop (LoopT.ghost (Ghost.only [(1, 5)] [4, 10, 11, 12] rfl) (LoopT.run (fun q : Int × (List Int) => (⟨[(4, .own 5), (10, .v (.sl (.int .u64)) p0), (11, .v (.int .i64) ((p0.length : Int) : Int)), (12, .v (.int .i64) q.1)], [(5, .arr 81 (.int .u64) q.2)], 25⟩ : St)) (fun q z1 h hz1 => ?_) h))
  obtain ⟨v3, v4⟩ := q
  dsimp only
  rw [m_nat_Make_l1] at h
  refine T.seq ?_
  refine T.region ?_
  refine Run.go (Ev.int rfl rfl rfl rfl trivial) ?_
  refine Run.nil ?_
  refine T.seq ?_
  refine T.cond rfl (fun hb5 => ?_) (fun hb5 => ?_)
  · replace h := ifT hb5 h
    refine T.skip ?_
    refine T.seq ?_
    refine T.block ?_
    refine T.seq ?_
    refine T.region ?_
    obtain ⟨x6, e7, h⟩ := bdS h
    refine Run.go (Ev.e_rd X e7 rfl rfl rfl rfl) ?_
    refine Run.go (Ev.load X rfl rfl rfl) ?_
    refine Run.go (Ev.assign rfl rfl) ?_
    refine Run.nil ?_
    refine T.seq ?_
    refine T.seq ?_
    refine T.region ?_
    refine Run.go (Ev.move rfl rfl) ?_
    refine Run.go (Ev.int rfl rfl rfl rfl trivial) ?_
    refine Run.nil ?_
    refine T.cond rfl (fun hb8 => ?_) (fun hb8 => ?_)
    · replace h := ifT hb8 h
      refine T.seq ?_
      refine T.region ?_
      refine Run.go (Ev.assign rfl rfl) ?_
      refine Run.go (Ev.assign rfl rfl) ?_
      refine Run.nil ?_
      refine T.ret ?_
      cases h
      cases hz1
      exact Fin.many X rfl (.cons (.tmp .nilv) (.cons (.tmp .v) .nil)) rfl
    · replace h := ifF hb8 h
      refine T.skip ?_
      refine T.region ?_
      refine Run.go (Ev.move rfl rfl) ?_
      refine Run.go (Ev.move rfl rfl) ?_
      refine Run.go (Ev.build X 9 rfl rfl rfl rfl rfl rfl rfl rfl) ?_
      obtain ⟨x9, e10, h⟩ := bdS h
      refine Run.go (Ev.e_ap X 10 e10 rfl rfl rfl (.own rfl) rfl rfl rfl rfl rfl) ?_
      refine Run.go (Ev.assign rfl rfl) ?_
      refine Run.nil ?_
      refine T.region ?_
      refine Run.go (Ev.int rfl rfl rfl rfl trivial) ?_
      refine Run.go (Ev.move rfl rfl) ?_
      refine Run.nil ?_
      cases h
      exact LoopT.ghost (Ghost.only [(10, 5)] [4, 10, 11, 12] rfl) hz1
  · replace h := ifF hb5 h
    refine T.exit ?_
    refine T.seq ?_
    refine T.region ?_
    refine Run.go (Ev.move rfl rfl) ?_
    refine Run.ghost (Ghost.firmAll (id := 5) rfl) ?_
    obtain ⟨x11, e12, h⟩ := bdS h
    refine Run.go (Ev.callC en125 (k_nat_trim e12) rfl (.cons .v .nil) rfl rfl) ?_
    refine Run.go (Ev.assign rfl rfl) ?_
    refine Run.go (Ev.assign rfl rfl) ?_
    refine Run.nil ?_
    refine T.ret ?_
    cases h
    cases hz1
    exact Fin.many X rfl (.cons (.tmp .v) (.cons (.tmp .v) .nil)) rfl
theorem en113 : Enters Tryz.prog 113 := ⟨_, Tryz.func113, rfl, rfl⟩
theorem k_nat_Cmp {p0 : (List Int)} {p1 : (List Int)} {y : Int} (h : m_nat_Cmp p0 p1 = some y) : Spec Tryz.prog 113 [(.v (.sl (.int .u64)) p0), (.v (.sl (.int .u64)) p1)] (.v (.int .i64) y) [] := by
  rw [m_nat_Cmp] at h
  refine enterN [(.v (.sl (.int .u64)) p0), (.v (.sl (.int .u64)) p1)] 45 Tryz.func113 rfl rfl rfl ?_
  refine T.seq ?_
  refine T.region ?_
  refine Run.go (Ev.assign rfl rfl) ?_
  refine Run.nil ?_
  refine T.seq ?_
  refine T.block ?_
  refine T.seq ?_
  refine T.region ?_
  refine Run.go (Ev.move rfl rfl) ?_
  refine Run.go (Ev.len X rfl rfl rfl rfl) ?_
  refine Run.go (Ev.move rfl rfl) ?_
  refine Run.go (Ev.len X rfl rfl rfl rfl) ?_
  refine Run.go (Ev.int rfl rfl rfl rfl trivial) ?_
  obtain ⟨x1, e2, h⟩ := ltS h
  refine Run.go (Ev.avs (Ev.assign rfl rfl) e2) ?_
  refine Run.nil ?_
  refine T.cond rfl (fun hb3 => ?_) (fun hb3 => ?_)
  · replace h := ifT hb3 h
    refine T.seq ?_
    refine T.region ?_
    refine Run.go (Ev.assign rfl rfl) ?_
    refine Run.nil ?_
    refine T.ret ?_
    cases h
    exact Fin.one rfl .v
  · replace h := ifF hb3 h
    refine T.seq ?_
    refine T.region ?_
    refine Run.go (Ev.move rfl rfl) ?_
    refine Run.go (Ev.len X rfl rfl rfl rfl) ?_
    refine Run.go (Ev.move rfl rfl) ?_
    refine Run.go (Ev.len X rfl rfl rfl rfl) ?_
    refine Run.go (Ev.int rfl rfl rfl rfl trivial) ?_
    obtain ⟨x4, e5, h⟩ := ltS h
    refine Run.go (Ev.avs (Ev.assign rfl rfl) e5) ?_
    refine Run.nil ?_
    refine T.cond rfl (fun hb6 => ?_) (fun hb6 => ?_)
    · replace h := ifT hb6 h
      refine T.seq ?_
      refine T.region ?_
      refine Run.go (Ev.assign rfl rfl) ?_
      refine Run.nil ?_
      refine T.ret ?_
      cases h
      exact Fin.one rfl .v
    · replace h := ifF hb6 h
      refine T.skip ?_
      refine T.seq ?_
      refine T.seq ?_
      refine T.region ?_
      refine Run.go (Ev.move rfl rfl) ?_
      refine Run.go (Ev.len X rfl rfl rfl rfl) ?_
      refine Run.go (Ev.int rfl rfl rfl rfl trivial) ?_
      refine Run.go (Ev.assign rfl rfl) ?_
      refine Run.nil ?_
      refine T.block ?_
      refine T.loop (LoopT.ghost (Ghost.only [] [0, 1, 5] rfl) (LoopT.run (fun q : Int => (⟨[(0, .v (.sl (.int .u64)) p0), (1, .v (.sl (.int .u64)) p1), (5, .v (.int .i64) q)], [], 45⟩ : St)) (fun v7 z1 h hz1 => ?_) h))
      rw [m_nat_Cmp_l1] at h
      refine T.seq ?_
      refine T.seq ?_
      refine T.region ?_
      refine Run.go (Ev.move rfl rfl) ?_
      refine Run.go (Ev.int rfl rfl rfl rfl trivial) ?_
      refine Run.nil ?_
      refine T.cond rfl (fun hb8 => ?_) (fun hb8 => ?_)
      · replace h := ifT hb8 h
        refine T.skip ?_
        refine T.seq ?_
        refine T.block ?_
        refine T.block ?_
        refine T.seq ?_
        refine T.drawM [] [0, 0, 3, 7, 0, 0, 48, 112, 255, 511] (by kernel_rfl) (by kernel_rfl) ?_
        refine RunD.w (fun _ => Ev.move rfl rfl) ?_
        refine RunD.w (fun _ => Ev.move rfl rfl) ?_
        obtain ⟨x9, e10, h⟩ := bdS h
        refine RunD.a rfl rfl (Ev.e_rd X e10 rfl rfl rfl rfl) ?_
        refine RunD.a rfl rfl (Ev.load X rfl rfl rfl) ?_
        refine RunD.w (fun _ => Ev.move rfl rfl) ?_
        refine RunD.w (fun _ => Ev.move rfl rfl) ?_
        obtain ⟨x11, e12, h⟩ := bdS h
        refine RunD.a rfl rfl (Ev.e_rd X e12 rfl rfl rfl rfl) ?_
        refine RunD.a rfl rfl (Ev.load X rfl rfl rfl) ?_
        refine RunD.w (fun _ => Ev.int rfl rfl rfl rfl trivial) ?_
        refine RunD.w (fun _ => Ev.assign rfl rfl) ?_
        refine RunD.nil ?_
        refine T.cond rfl (fun hb13 => ?_) (fun hb13 => ?_)
        · replace h := ifT hb13 h
          refine T.seq ?_
          refine T.region ?_
          refine Run.go (Ev.assign rfl rfl) ?_
          refine Run.nil ?_
          refine T.ret ?_
          cases h
          cases hz1
          exact Fin.one rfl .v
        · replace h := ifF hb13 h
          refine T.seq ?_
          refine T.drawM [] [0, 0, 3, 7, 0, 0, 48, 112, 255, 511] (by kernel_rfl) (by kernel_rfl) ?_
          refine RunD.w (fun _ => Ev.move rfl rfl) ?_
          refine RunD.w (fun _ => Ev.move rfl rfl) ?_
          obtain ⟨x14, e15, h⟩ := bdS h
          refine RunD.a rfl rfl (Ev.e_rd X e15 rfl rfl rfl rfl) ?_
          refine RunD.a rfl rfl (Ev.load X rfl rfl rfl) ?_
          refine RunD.w (fun _ => Ev.move rfl rfl) ?_
          refine RunD.w (fun _ => Ev.move rfl rfl) ?_
          obtain ⟨x16, e17, h⟩ := bdS h
          refine RunD.a rfl rfl (Ev.e_rd X e17 rfl rfl rfl rfl) ?_
          refine RunD.a rfl rfl (Ev.load X rfl rfl rfl) ?_
          refine RunD.w (fun _ => Ev.int rfl rfl rfl rfl trivial) ?_
          refine RunD.w (fun _ => Ev.assign rfl rfl) ?_
          refine RunD.nil ?_
          refine T.cond rfl (fun hb18 => ?_) (fun hb18 => ?_)
          · replace h := ifT hb18 h
            refine T.seq ?_
            refine T.region ?_
            refine Run.go (Ev.assign rfl rfl) ?_
            refine Run.nil ?_
            refine T.ret ?_
            cases h
            cases hz1
            exact Fin.one rfl .v
          · replace h := ifF hb18 h
            refine T.skip ?_
            refine T.region ?_
            refine Run.go (Ev.move rfl rfl) ?_
            refine Run.go (Ev.int rfl rfl rfl rfl trivial) ?_
            refine Run.go (Ev.assign rfl rfl) ?_
            refine Run.nil ?_
            cases h
            exact LoopT.ghost (Ghost.only [] [0, 1, 5] rfl) hz1
      · replace h := ifF hb8 h
        refine T.exit ?_
        refine T.seq ?_
        refine T.region ?_
        refine Run.go (Ev.assign rfl rfl) ?_
        refine Run.nil ?_
        refine T.ret ?_
        cases h
        cases hz1
        exact Fin.one rfl .v
theorem en141 : Enters Tryz.prog 141 := ⟨_, Tryz.func141, rfl, rfl⟩
theorem k_limb_Div {p0 : Int} {p1 : Int} {p2 : Int} {y : Int × Int × Int} (h : m_limb_Div p0 p1 p2 = some y) : Spec Tryz.prog 141 [(.v (.int .u64) p0), (.v (.int .u64) p1), (.v (.int .u64) p2)] (.tup [.v (.int .u64) y.1, .v (.int .u64) y.2.1, .v (.int .i64) y.2.2]) [] := by
  rw [m_limb_Div] at h
  refine enterN [(.v (.int .u64) p0), (.v (.int .u64) p1), (.v (.int .u64) p2)] 33 Tryz.func141 rfl rfl rfl ?_
  refine T.seq ?_
  refine T.region ?_
  refine Run.go (Ev.assign rfl rfl) ?_
  refine Run.go (Ev.assign rfl rfl) ?_
  refine Run.go (Ev.assign rfl rfl) ?_
  refine Run.nil ?_
  refine T.seq ?_
  refine T.region ?_
  refine Run.go (Ev.move rfl rfl) ?_
  refine Run.go (Ev.int rfl rfl rfl rfl trivial) ?_
  refine Run.go (Ev.move rfl rfl) ?_
  refine Run.go (Ev.int rfl rfl rfl rfl trivial) ?_
  refine Run.go (Ev.move rfl rfl) ?_
  refine Run.go (Ev.int rfl rfl rfl rfl trivial) ?_
  refine Run.go (Ev.assign rfl rfl) ?_
  refine Run.go (Ev.assign rfl rfl) ?_
  refine Run.go (Ev.assign rfl rfl) ?_
  refine Run.nil ?_
  refine T.seq ?_
  refine T.block ?_
  refine T.seq ?_
  refine T.region ?_
  refine Run.go (Ev.move rfl rfl) ?_
  refine Run.go (Ev.int rfl rfl rfl rfl trivial) ?_
  obtain ⟨x1, e2, h⟩ := ltS h
  refine Run.go (Ev.avs (Ev.assign rfl rfl) e2) ?_
  refine Run.nil ?_
  refine T.cond rfl (fun hb3 => ?_) (fun hb3 => ?_)
  · replace h := ifT hb3 h
    refine T.seq ?_
    refine T.region ?_
    refine Run.go (Ev.assign rfl rfl) ?_
    refine Run.go (Ev.assign rfl rfl) ?_
    refine Run.go (Ev.assign rfl rfl) ?_
    refine Run.nil ?_
    refine T.ret ?_
    cases h
    exact Fin.many X rfl (.cons (.tmp .v) (.cons (.tmp .v) (.cons (.tmp .v) .nil))) rfl
  · replace h := ifF hb3 h
    refine T.seq ?_
    refine T.region ?_
    refine Run.go (Ev.move rfl rfl) ?_
    refine Run.go (Ev.move rfl rfl) ?_
    refine Run.go (Ev.int rfl rfl rfl rfl trivial) ?_
    obtain ⟨x4, e5, h⟩ := ltS h
    refine Run.go (Ev.avs (Ev.assign rfl rfl) e5) ?_
    refine Run.nil ?_
    refine T.cond rfl (fun hb6 => ?_) (fun hb6 => ?_)
    · replace h := ifT hb6 h
      refine T.seq ?_
      refine T.region ?_
      refine Run.go (Ev.assign rfl rfl) ?_
      refine Run.go (Ev.assign rfl rfl) ?_
      refine Run.go (Ev.assign rfl rfl) ?_
      refine Run.nil ?_
      refine T.ret ?_
      cases h
      exact Fin.many X rfl (.cons (.tmp .v) (.cons (.tmp .v) (.cons (.tmp .v) .nil))) rfl
    · replace h := ifF hb6 h
      refine T.skip ?_
      refine T.seq ?_
      refine T.region ?_
      refine Run.go (Ev.move rfl rfl) ?_
      obtain ⟨x7, e8, h⟩ := bdS h
      refine Run.go (Ev.e_sh e8 rfl rfl rfl) ?_
      refine Run.go (Ev.move rfl rfl) ?_
      refine Run.go (Ev.int rfl rfl rfl rfl trivial) ?_
      obtain ⟨x9, e10, h⟩ := ltS h
      refine Run.go (Ev.avs (Ev.assign rfl rfl) e10) ?_
      refine Run.nil ?_
      refine T.seq ?_
      refine T.drawM [] [0, 0, 3, 0, 0, 24, 7, 127, 255] (by kernel_rfl) (by kernel_rfl) ?_
      refine RunD.w (fun _ => Ev.move rfl rfl) ?_
      refine RunD.w (fun _ => Ev.move rfl rfl) ?_
      obtain ⟨x11, e12, h⟩ := bdS h
      refine RunD.w (fun _ => Ev.e_qd e12 rfl rfl rfl) ?_
      refine RunD.w (fun _ => Ev.move rfl rfl) ?_
      refine RunD.w (fun _ => Ev.move rfl rfl) ?_
      obtain ⟨x13, e14, h⟩ := bdS h
      refine RunD.w (fun _ => Ev.e_rm e14 rfl rfl rfl) ?_
      refine RunD.w (fun _ => Ev.assign rfl rfl) ?_
      refine RunD.w (fun _ => Ev.assign rfl rfl) ?_
      refine RunD.w (fun _ => Ev.assign rfl rfl) ?_
      refine RunD.nil ?_
      refine T.ret ?_
      cases h
      exact Fin.many X rfl (.cons (.tmp .v) (.cons (.tmp .v) (.cons (.tmp .v) .nil))) rfl
theorem en136 : Enters Tryz.prog 136 := ⟨_, Tryz.func136, rfl, rfl⟩
theorem k_divide_Small {p0 : (List Int)} {p1 : Int} {y : (List Int) × Int × Int} (h : m_divide_Small p0 p1 = some y) : Spec Tryz.prog 136 [(.v (.sl (.int .u64)) p0), (.v (.int .u64) p1)] (.tup [.v (.sl (.int .u64)) y.1, .v (.int .u64) y.2.1, .v (.int .i64) y.2.2]) [] := by
  rw [m_divide_Small] at h
  refine enterN [(.v (.sl (.int .u64)) p0), (.v (.int .u64) p1)] 51 Tryz.func136 rfl rfl rfl ?_
  refine T.seq ?_
  refine T.region ?_
  refine Run.go (Ev.assign rfl rfl) ?_
  refine Run.go (Ev.assign rfl rfl) ?_
  refine Run.go (Ev.assign rfl rfl) ?_
  refine Run.nil ?_
  refine T.seq ?_
  refine T.seq ?_
  refine T.region ?_
  refine Run.go (Ev.move rfl rfl) ?_
  obtain ⟨x1, e2, h⟩ := bdS h
  refine Run.go (Ev.e_rm e2 rfl rfl rfl) ?_
  refine Run.go (Ev.int rfl rfl rfl rfl trivial) ?_
  refine Run.nil ?_
  refine T.cond rfl (fun hb3 => ?_) (fun hb3 => ?_)
  · replace h := ifT hb3 h
    refine T.seq ?_
    refine T.region ?_
    refine Run.go (Ev.assign rfl rfl) ?_
    refine Run.go (Ev.assign rfl rfl) ?_
    refine Run.go (Ev.assign rfl rfl) ?_
    refine Run.nil ?_
    refine T.ret ?_
    cases h
    exact Fin.many X rfl (.cons (.tmp .nilv) (.cons (.tmp .v) (.cons (.tmp .v) .nil))) rfl
  · replace h := ifF hb3 h
    refine T.skip ?_
    refine T.seq ?_
    refine T.region ?_
    refine Run.go (Ev.move rfl rfl) ?_
    refine Run.go (Ev.len X rfl rfl rfl rfl) ?_
    obtain ⟨x4, e5, h⟩ := bdS h
    refine Run.go (Ev.e_mk X 1 e5 rfl rfl rfl rfl rfl rfl) ?_
    refine Run.go (Ev.assign rfl rfl) ?_
    refine Run.nil ?_
    refine T.seq ?_
    refine T.region ?_
    refine Run.go (Ev.assign rfl rfl) ?_
    refine Run.nil ?_
    obtain ⟨⟨v6, v7⟩, hv, h⟩ := bdS h
    refine T.cut (fun _ : Unit => (⟨[(7, .own 1), (8, .v (.int .u64) v6)], [(1, .arr 81 (.int .u64) v7)], 51⟩ : St)) (fun _ => True) ?_ (fun _ _ => ?_)
    · replace h := hv
      clear hv
      refine T.seq ?_
      refine T.region ?_
      refine Run.go (Ev.move rfl rfl) ?_
      refine Run.go (Ev.len X rfl rfl rfl rfl) ?_
      refine Run.go (Ev.move rfl rfl) ?_
      refine Run.nil ?_
      refine T.block ?_
      refine T.loop (LoopT.ghost (Ghost.only [(1, 1)] [0, 1, 7, 8, 20, 21] rfl) (LoopT.run (fun q : Int × Int × (List Int) => (⟨[(0, .v (.sl (.int .u64)) p0), (1, .v (.int .u64) p1), (7, .own 1), (8, .v (.int .u64) q.1), (20, .v (.int .i64) ((p0.length : Int) : Int)), (21, .v (.int .i64) q.2.1)], [(1, .arr 81 (.int .u64) q.2.2)], 51⟩ : St)) (fun q z1 h hz1 => ?_) h))
      obtain ⟨v8, v9, v10⟩ := q
      dsimp only
      rw [m_divide_Small_l1] at h
      refine T.seq ?_
      refine T.region ?_
      refine Run.go (Ev.int rfl rfl rfl rfl trivial) ?_
      refine Run.nil ?_
      refine T.seq ?_
      refine T.cond rfl (fun hb11 => ?_) (fun hb11 => ?_)
      · replace h := ifT hb11 h
        refine T.skip ?_
        refine T.seq ?_
        refine T.block ?_
        refine T.seq ?_
        refine T.region ?_
        refine Run.go (Ev.move rfl rfl) ?_
        refine Run.go (Ev.assign rfl rfl) ?_
        refine Run.nil ?_
        refine T.seq ?_
        refine T.region ?_
        refine Run.go (Ev.move rfl rfl) ?_
        refine Run.go (Ev.len X rfl rfl rfl rfl) ?_
        refine Run.go (Ev.int rfl rfl rfl rfl trivial) ?_
        refine Run.go (Ev.move rfl rfl) ?_
        refine Run.go (Ev.int rfl rfl rfl rfl trivial) ?_
        obtain ⟨x12, e13, h⟩ := ltS h
        refine Run.go (Ev.avs (Ev.assign rfl rfl) e13) ?_
        refine Run.nil ?_
        refine T.region ?_
        refine Run.go (Ev.move rfl rfl) ?_
        refine Run.go (Ev.move rfl rfl) ?_
        refine Run.go (Ev.move rfl rfl) ?_
        refine Run.go (Ev.move rfl rfl) ?_
        refine Run.go (Ev.move rfl rfl) ?_
        obtain ⟨x14, e15, h⟩ := bdS h
        refine Run.go (Ev.e_rd X e15 rfl rfl rfl rfl) ?_
        refine Run.go (Ev.load X rfl rfl rfl) ?_
        refine Run.go (Ev.move rfl rfl) ?_
        obtain ⟨x16, e17, h⟩ := bdS h
        refine Run.go (Ev.callC en141 (k_limb_Div e17) rfl (.cons .v (.cons .v (.cons .v .nil))) rfl rfl) ?_
        refine Run.go (Ev.move rfl rfl) ?_
        refine Run.go (Ev.extract rfl rfl rfl) ?_
        refine Run.go (Ev.extract rfl rfl rfl) ?_
        refine Run.go (Ev.extract rfl rfl rfl) ?_
        obtain ⟨j18, e19, h⟩ := bdS h
        refine Run.go (Ev.e_ixO X e19 rfl rfl rfl rfl rfl) ?_
        obtain ⟨x20, e21, h⟩ := ltS h
        refine Run.do_ (Ev.asO (Ev.storeEl X rfl rfl rfl rfl rfl) e21) ?_
        refine Run.go (Ev.assign rfl rfl) ?_
        refine Run.nil ?_
        refine T.region ?_
        refine Run.go (Ev.int rfl rfl rfl rfl trivial) ?_
        refine Run.go (Ev.move rfl rfl) ?_
        refine Run.nil ?_
        cases h
        exact LoopT.ghost (Ghost.only [(1, 1)] [0, 1, 7, 8, 20, 21] rfl) hz1
      · replace h := ifF hb11 h
        refine T.exit ?_
        cases h
        cases hz1
        exact ⟨(), trivial, Ghost.only [(1, 1)] [7, 8] rfl⟩
    · refine T.seq ?_
      refine T.region ?_
      refine Run.go (Ev.move rfl rfl) ?_
      refine Run.ghost (Ghost.firmAll (id := 1) rfl) ?_
      obtain ⟨x22, e23, h⟩ := bdS h
      refine Run.go (Ev.callC en123 (k_nat_Make e23) rfl (.cons .v .nil) rfl rfl) ?_
      refine Run.go (Ev.move rfl rfl) ?_
      refine Run.go (Ev.extract rfl rfl rfl) ?_
      refine Run.go (Ev.extract rfl rfl rfl) ?_
      refine Run.go (Ev.assign rfl rfl) ?_
      refine Run.go (Ev.assign rfl rfl) ?_
      refine Run.nil ?_
      refine T.seq ?_
      refine T.region ?_
      refine Run.go (Ev.move rfl rfl) ?_
      refine Run.go (Ev.move rfl rfl) ?_
      refine Run.go (Ev.assign rfl rfl) ?_
      refine Run.go (Ev.assign rfl rfl) ?_
      refine Run.go (Ev.assign rfl rfl) ?_
      refine Run.nil ?_
      refine T.ret ?_
      cases h
      exact Fin.many X rfl (.cons (.tmp .v) (.cons (.tmp .v) (.cons (.tmp .v) .nil))) rfl
theorem en115 : Enters Tryz.prog 115 := ⟨_, Tryz.func115, rfl, rfl⟩
theorem k_nat_Of {p0 : Int} {y : (List Int)} (h : m_nat_Of p0 = some y) : Spec Tryz.prog 115 [(.v (.int .u64) p0)] (.v (.sl (.int .u64)) y) [] := by
  rw [m_nat_Of] at h
  refine enterN [(.v (.int .u64) p0)] 9 Tryz.func115 rfl rfl rfl ?_
  refine T.seq ?_
  refine T.region ?_
  refine Run.go (Ev.assign rfl rfl) ?_
  refine Run.nil ?_
  refine T.seq ?_
  refine T.region ?_
  refine Run.go (Ev.move rfl rfl) ?_
  obtain ⟨x1, e2, h⟩ := bdS h
  refine Run.go (Ev.e_rm e2 rfl rfl rfl) ?_
  refine Run.go (Ev.move rfl rfl) ?_
  obtain ⟨x3, e4, h⟩ := bdS h
  refine Run.go (Ev.e_sr e4 rfl rfl rfl) ?_
  refine Run.go (Ev.build X 1 rfl rfl rfl rfl rfl rfl rfl rfl) ?_
  refine Run.ghost (Ghost.firmAll (id := 1) rfl) ?_
  obtain ⟨x5, e6, h⟩ := bdS h
  refine Run.go (Ev.callC en125 (k_nat_trim e6) rfl (.cons .v .nil) rfl rfl) ?_
  refine Run.go (Ev.assign rfl rfl) ?_
  refine Run.nil ?_
  refine T.ret ?_
  cases h
  exact Fin.one rfl .v
theorem en142 : Enters Tryz.prog 142 := ⟨_, Tryz.func142, rfl, rfl⟩
theorem k_limb_Bits {p0 : Int} {y : Int} (h : m_limb_Bits p0 = some y) : Spec Tryz.prog 142 [(.v (.int .u64) p0)] (.v (.int .i64) y) [] := by
  rw [m_limb_Bits] at h
  refine enterN [(.v (.int .u64) p0)] 17 Tryz.func142 rfl rfl rfl ?_
  refine T.seq ?_
  refine T.region ?_
  refine Run.go (Ev.assign rfl rfl) ?_
  refine Run.nil ?_
  refine T.seq ?_
  refine T.region ?_
  refine Run.go (Ev.assign rfl rfl) ?_
  refine Run.nil ?_
  obtain ⟨v1, hv, h⟩ := bdS h
  refine T.cut (fun _ : Unit => (⟨[(3, .v (.int .i64) v1)], [], 17⟩ : St)) (fun _ => True) ?_ (fun _ _ => ?_)
  · replace h := hv
    clear hv
    refine T.seq ?_
    refine T.region ?_
    refine Run.go (Ev.move rfl rfl) ?_
    refine Run.nil ?_
    refine T.block ?_
    refine T.loop (LoopT.ghost (Ghost.only [] [0, 3, 5] rfl) (LoopT.run (fun q : Int × Int => (⟨[(0, .v (.int .u64) p0), (3, .v (.int .i64) q.1), (5, .v (.int .i64) q.2)], [], 17⟩ : St)) (fun q z1 h hz1 => ?_) h))
    obtain ⟨v2, v3⟩ := q
    dsimp only
    rw [m_limb_Bits_l1] at h
    refine T.seq ?_
    refine T.region ?_
    refine Run.go (Ev.int rfl rfl rfl rfl trivial) ?_
    refine Run.nil ?_
    refine T.seq ?_
    refine T.cond rfl (fun hb4 => ?_) (fun hb4 => ?_)
    · replace h := ifT hb4 h
      refine T.skip ?_
      obtain ⟨v5, hv, h⟩ := bdS h
      refine T.cut (fun _ : Unit => (⟨[(0, .v (.int .u64) p0), (3, .v (.int .i64) v5), (5, .v (.int .i64) v3)], [], 17⟩ : St)) (fun _ => True) ?_ (fun _ _ => ?_)
      · replace h := hv
        clear hv
        refine T.block ?_
        refine T.seq ?_
        refine T.region ?_
        refine Run.go (Ev.move rfl rfl) ?_
        refine Run.go (Ev.assign rfl rfl) ?_
        refine Run.nil ?_
        refine T.seq ?_
        refine T.region ?_
        refine Run.go (Ev.move rfl rfl) ?_
        refine Run.go (Ev.move rfl rfl) ?_
        obtain ⟨x6, e7, h⟩ := bdS h
        refine Run.go (Ev.e_sr e7 rfl rfl rfl) ?_
        refine Run.go (Ev.int rfl rfl rfl rfl trivial) ?_
        refine Run.go (Ev.int rfl rfl rfl rfl trivial) ?_
        refine Run.nil ?_
        refine T.cond rfl (fun hb8 => ?_) (fun hb8 => ?_)
        · replace h := ifT hb8 h
          refine T.region ?_
          refine Run.go (Ev.move rfl rfl) ?_
          refine Run.go (Ev.int rfl rfl rfl rfl trivial) ?_
          refine Run.go (Ev.assign rfl rfl) ?_
          refine Run.nil ?_
          cases h
          exact ⟨(), trivial, Ghost.only [] [0, 3, 5] rfl⟩
        · replace h := ifF hb8 h
          refine T.skip ?_
          cases h
          exact ⟨(), trivial, Ghost.only [] [0, 3, 5] rfl⟩
      · refine T.region ?_
        refine Run.go (Ev.int rfl rfl rfl rfl trivial) ?_
        refine Run.go (Ev.move rfl rfl) ?_
        refine Run.nil ?_
        cases h
        exact LoopT.ghost (Ghost.only [] [0, 3, 5] rfl) hz1
    · replace h := ifF hb4 h
      refine T.exit ?_
      cases h
      cases hz1
      exact ⟨(), trivial, Ghost.only [] [3] rfl⟩
  · refine T.seq ?_
    refine T.region ?_
    refine Run.go (Ev.move rfl rfl) ?_
    refine Run.go (Ev.assign rfl rfl) ?_
    refine Run.nil ?_
    refine T.ret ?_
    cases h
    exact Fin.one rfl .v
theorem en148 : Enters Tryz.prog 148 := ⟨_, Tryz.func148, rfl, rfl⟩
theorem k_nat_shift {p0 : Int} {y : Int} (h : m_nat_shift p0 = some y) : Spec Tryz.prog 148 [(.v (.int .i64) p0)] (.v (.int .i64) y) [] := by
  rw [m_nat_shift] at h
  refine enterN [(.v (.int .i64) p0)] 9 Tryz.func148 rfl rfl rfl ?_
  refine T.seq ?_
  refine T.region ?_
  refine Run.go (Ev.assign rfl rfl) ?_
  refine Run.nil ?_
  refine T.seq ?_
  obtain ⟨v1, hv, h⟩ := bdS h
  refine T.cut (fun _ : Unit => (⟨[(8, .v .bool v1)], [], 9⟩ : St)) (fun _ => True) ?_ (fun _ _ => ?_)
  · replace h := hv
    clear hv
    refine T.region ?_
    refine Run.go (Ev.move rfl rfl) ?_
    refine Run.go (Ev.int rfl rfl rfl rfl trivial) ?_
    refine Run.go (Ev.move rfl rfl) ?_
    rcases boolCases (decide (p0 < 0)) with hb2 | hb2
    · replace h := ifT hb2 h
      refine Run.offT rfl rfl rfl rfl hb2 ?_
      refine Run.offT rfl rfl rfl rfl hb2 ?_
      refine Run.go (Ev.pickT rfl hb2 rfl rfl) ?_
      refine Run.nil ?_
      cases h
      exact ⟨(), trivial, Ghost.only [] [8] rfl⟩
    · replace h := ifF hb2 h
      refine Run.on rfl rfl rfl hb2 (Ev.move rfl rfl) ?_
      refine Run.on rfl rfl rfl hb2 (Ev.int rfl rfl rfl rfl trivial) ?_
      refine Run.go (Ev.pickF rfl hb2 rfl rfl) ?_
      refine Run.nil ?_
      cases h
      exact ⟨(), trivial, Ghost.only [] [8] rfl⟩
  · refine T.cond rfl (fun hb3 => ?_) (fun hb3 => ?_)
    · replace h := ifT hb3 h
      refine T.seq ?_
      refine T.region ?_
      refine Run.go (Ev.assign rfl rfl) ?_
      refine Run.nil ?_
      refine T.ret ?_
      cases h
      exact Fin.one rfl .v
    · replace h := ifF hb3 h
      refine T.skip ?_
      refine T.seq ?_
      refine T.region ?_
      refine Run.go (Ev.assign rfl rfl) ?_
      refine Run.nil ?_
      refine T.ret ?_
      cases h
      exact Fin.one rfl .v
theorem en143 : Enters Tryz.prog 143 := ⟨_, Tryz.func143, rfl, rfl⟩
theorem k_nat_Shl {p0 : (List Int)} {p1 : Int} {y : (List Int) × Int} (h : m_nat_Shl p0 p1 = some y) : Spec Tryz.prog 143 [(.v (.sl (.int .u64)) p0), (.v (.int .i64) p1)] (.tup [.v (.sl (.int .u64)) y.1, .v (.int .i64) y.2]) [] := by
  rw [m_nat_Shl] at h
  refine enterN [(.v (.sl (.int .u64)) p0), (.v (.int .i64) p1)] 60 Tryz.func143 rfl rfl rfl ?_
  refine T.seq ?_
  refine T.region ?_
  refine Run.go (Ev.assign rfl rfl) ?_
  refine Run.go (Ev.assign rfl rfl) ?_
  refine Run.nil ?_
  refine T.seq ?_
  refine T.seq ?_
  refine T.region ?_
  refine Run.go (Ev.move rfl rfl) ?_
  obtain ⟨x1, e2, h⟩ := bdS h
  refine Run.go (Ev.callC en148 (k_nat_shift e2) rfl (.cons .v .nil) rfl rfl) ?_
  refine Run.go (Ev.assign rfl rfl) ?_
  refine Run.nil ?_
  obtain ⟨v3, hv, h⟩ := bdS h
  refine T.cut (fun _ : Unit => (⟨[(0, .v (.sl (.int .u64)) p0), (1, .v (.int .i64) p1), (6, .v (.int .i64) x1), (19, .v .bool v3)], [], 60⟩ : St)) (fun _ => True) ?_ (fun _ _ => ?_)
  · replace h := hv
    clear hv
    refine T.region ?_
    refine Run.go (Ev.move rfl rfl) ?_
    refine Run.go (Ev.int rfl rfl rfl rfl trivial) ?_
    refine Run.go (Ev.move rfl rfl) ?_
    rcases boolCases (!decide (x1 = 0)) with hb4 | hb4
    · replace h := ifT hb4 h
      refine Run.offT rfl rfl rfl rfl hb4 ?_
      refine Run.offT rfl rfl rfl rfl hb4 ?_
      refine Run.offT rfl rfl rfl rfl hb4 ?_
      refine Run.go (Ev.pickT rfl hb4 rfl rfl) ?_
      refine Run.nil ?_
      cases h
      exact ⟨(), trivial, Ghost.only [] [0, 1, 6, 19] rfl⟩
    · replace h := ifF hb4 h
      refine Run.on rfl rfl rfl hb4 (Ev.move rfl rfl) ?_
      refine Run.on rfl rfl rfl hb4 (Ev.len X rfl rfl rfl rfl) ?_
      refine Run.on rfl rfl rfl hb4 (Ev.int rfl rfl rfl rfl trivial) ?_
      refine Run.go (Ev.pickF rfl hb4 rfl rfl) ?_
      refine Run.nil ?_
      cases h
      exact ⟨(), trivial, Ghost.only [] [0, 1, 6, 19] rfl⟩
  · refine T.cond rfl (fun hb5 => ?_) (fun hb5 => ?_)
    · replace h := ifT hb5 h
      refine T.seq ?_
      refine T.region ?_
      refine Run.go (Ev.move rfl rfl) ?_
      refine Run.go (Ev.assign rfl rfl) ?_
      refine Run.go (Ev.assign rfl rfl) ?_
      refine Run.nil ?_
      refine T.ret ?_
      cases h
      exact Fin.many X rfl (.cons (.tmp .nilv) (.cons (.tmp .v) .nil)) rfl
    · replace h := ifF hb5 h
      refine T.skip ?_
      refine T.seq ?_
      refine T.region ?_
      refine Run.go (Ev.move rfl rfl) ?_
      refine Run.go (Ev.len X rfl rfl rfl rfl) ?_
      refine Run.go (Ev.move rfl rfl) ?_
      obtain ⟨x6, e7, h⟩ := bdS h
      refine Run.go (Ev.e_qd e7 rfl rfl rfl) ?_
      refine Run.go (Ev.int rfl rfl rfl rfl trivial) ?_
      refine Run.go (Ev.int rfl rfl rfl rfl trivial) ?_
      obtain ⟨x8, e9, h⟩ := bdS h
      refine Run.go (Ev.e_mk X 1 e9 rfl rfl rfl rfl rfl rfl) ?_
      refine Run.go (Ev.assign rfl rfl) ?_
      refine Run.nil ?_
      obtain ⟨v10, hv, h⟩ := bdS h
      refine T.cut (fun _ : Unit => (⟨[(7, .own 1)], [(1, .arr 81 (.int .u64) v10)], 60⟩ : St)) (fun _ => True) ?_ (fun _ _ => ?_)
      · replace h := hv
        clear hv
        refine T.seq ?_
        refine T.region ?_
        refine Run.go (Ev.move rfl rfl) ?_
        refine Run.go (Ev.len X rfl rfl rfl rfl) ?_
        refine Run.go (Ev.move rfl rfl) ?_
        refine Run.nil ?_
        refine T.block ?_
        refine T.loop (LoopT.ghost (Ghost.only [(1, 1)] [1, 7, 28, 29, 30] rfl) (LoopT.run (fun q : Int × (List Int) => (⟨[(1, .v (.int .i64) p1), (7, .own 1), (28, .v (.sl (.int .u64)) p0), (29, .v (.int .i64) ((p0.length : Int) : Int)), (30, .v (.int .i64) q.1)], [(1, .arr 81 (.int .u64) q.2)], 60⟩ : St)) (fun q z1 h hz1 => ?_) h))
        obtain ⟨v11, v12⟩ := q
        dsimp only
        rw [m_nat_Shl_l1] at h
        refine T.seq ?_
        refine T.region ?_
        refine Run.go (Ev.int rfl rfl rfl rfl trivial) ?_
        refine Run.nil ?_
        refine T.seq ?_
        refine T.cond rfl (fun hb13 => ?_) (fun hb13 => ?_)
        · replace h := ifT hb13 h
          refine T.skip ?_
          refine T.seq ?_
          refine T.block ?_
          refine T.seq ?_
          refine T.region ?_
          refine Run.go (Ev.move rfl rfl) ?_
          obtain ⟨x14, e15, h⟩ := bdS h
          refine Run.go (Ev.e_rd X e15 rfl rfl rfl rfl) ?_
          refine Run.go (Ev.load X rfl rfl rfl) ?_
          refine Run.go (Ev.assign rfl rfl) ?_
          refine Run.go (Ev.assign rfl rfl) ?_
          refine Run.nil ?_
          refine T.seq ?_
          refine T.region ?_
          refine Run.go (Ev.move rfl rfl) ?_
          refine Run.go (Ev.move rfl rfl) ?_
          obtain ⟨x16, e17, h⟩ := bdS h
          refine Run.go (Ev.e_qd e17 rfl rfl rfl) ?_
          refine Run.go (Ev.int rfl rfl rfl rfl trivial) ?_
          refine Run.go (Ev.assign rfl rfl) ?_
          refine Run.nil ?_
          refine T.seq ?_
          refine T.region ?_
          refine Run.go (Ev.move rfl rfl) ?_
          refine Run.go (Ev.move rfl rfl) ?_
          obtain ⟨x18, e19, h⟩ := bdS h
          refine Run.go (Ev.e_rm e19 rfl rfl rfl) ?_
          obtain ⟨x20, e21, h⟩ := bdS h
          refine Run.go (Ev.e_sh e21 rfl rfl rfl) ?_
          refine Run.go (Ev.assign rfl rfl) ?_
          refine Run.nil ?_
          refine T.seq ?_
          refine T.region ?_
          refine Run.go (Ev.move rfl rfl) ?_
          refine Run.go (Ev.move rfl rfl) ?_
          obtain ⟨x22, e23, h⟩ := bdS h
          refine Run.go (Ev.e_rdO X e23 rfl rfl rfl rfl rfl) ?_
          refine Run.go (Ev.e_ldO X (rdS e23).2 rfl rfl rfl rfl) ?_
          refine Run.go (Ev.move rfl rfl) ?_
          obtain ⟨x24, e25, h⟩ := bdS h
          refine Run.go (Ev.e_rm e25 rfl rfl rfl) ?_
          refine Run.go (Ev.int rfl rfl rfl rfl trivial) ?_
          obtain ⟨j26, e27, h⟩ := bdS h
          refine Run.go (Ev.e_ixO X e27 rfl rfl rfl rfl rfl) ?_
          obtain ⟨x28, e29, h⟩ := ltS h
          refine Run.do_ (Ev.asO (Ev.storeEl X rfl rfl rfl rfl rfl) e29) ?_
          refine Run.nil ?_
          refine T.region ?_
          refine Run.go (Ev.move rfl rfl) ?_
          refine Run.go (Ev.move rfl rfl) ?_
          refine Run.go (Ev.int rfl rfl rfl rfl trivial) ?_
          refine Run.go (Ev.move rfl rfl) ?_
          obtain ⟨x30, e31, h⟩ := bdS h
          refine Run.go (Ev.e_sr e31 rfl rfl rfl) ?_
          obtain ⟨j32, e33, h⟩ := bdS h
          refine Run.go (Ev.e_ixO X e33 rfl rfl rfl rfl rfl) ?_
          obtain ⟨x34, e35, h⟩ := ltS h
          refine Run.do_ (Ev.asO (Ev.storeEl X rfl rfl rfl rfl rfl) e35) ?_
          refine Run.nil ?_
          refine T.region ?_
          refine Run.go (Ev.int rfl rfl rfl rfl trivial) ?_
          refine Run.go (Ev.move rfl rfl) ?_
          refine Run.nil ?_
          cases h
          exact LoopT.ghost (Ghost.only [(1, 1)] [1, 7, 28, 29, 30] rfl) hz1
        · replace h := ifF hb13 h
          refine T.exit ?_
          cases h
          cases hz1
          exact ⟨(), trivial, Ghost.only [(1, 1)] [7] rfl⟩
      · refine T.seq ?_
        refine T.region ?_
        refine Run.go (Ev.move rfl rfl) ?_
        refine Run.ghost (Ghost.firmAll (id := 1) rfl) ?_
        obtain ⟨x36, e37, h⟩ := bdS h
        refine Run.go (Ev.callC en125 (k_nat_trim e37) rfl (.cons .v .nil) rfl rfl) ?_
        refine Run.go (Ev.assign rfl rfl) ?_
        refine Run.go (Ev.assign rfl rfl) ?_
        refine Run.nil ?_
        refine T.ret ?_
        cases h
        exact Fin.many X rfl (.cons (.tmp .v) (.cons (.tmp .v) .nil)) rfl
theorem en137 : Enters Tryz.prog 137 := ⟨_, Tryz.func137, rfl, rfl⟩
theorem k_divide_knuth {p0 : (List Int)} {p1 : (List Int)} {y : (List Int) × (List Int)} (h : m_divide_knuth p0 p1 = some y) : Spec Tryz.prog 137 [(.v (.sl (.int .u64)) p0), (.v (.sl (.int .u64)) p1)] (.tup [.v (.sl (.int .u64)) y.1, .v (.sl (.int .u64)) y.2]) [] := by
  rw [m_divide_knuth] at h
  cases h
theorem en130 : Enters Tryz.prog 130 := ⟨_, Tryz.func130, rfl, rfl⟩
theorem k_divide_Div {p0 : (List Int)} {p1 : (List Int)} {y : (List Int) × (List Int) × Int} (h : m_divide_Div p0 p1 = some y) : Spec Tryz.prog 130 [(.v (.sl (.int .u64)) p0), (.v (.sl (.int .u64)) p1)] (.tup [.v (.sl (.int .u64)) y.1, .v (.sl (.int .u64)) y.2.1, .v (.int .i64) y.2.2]) [] := by
  rw [m_divide_Div] at h
  refine enterN [(.v (.sl (.int .u64)) p0), (.v (.sl (.int .u64)) p1)] 64 Tryz.func130 rfl rfl rfl ?_
  refine T.seq ?_
  refine T.region ?_
  refine Run.go (Ev.assign rfl rfl) ?_
  refine Run.go (Ev.assign rfl rfl) ?_
  refine Run.go (Ev.assign rfl rfl) ?_
  refine Run.nil ?_
  refine T.seq ?_
  refine T.block ?_
  refine T.seq ?_
  refine T.region ?_
  refine Run.go (Ev.move rfl rfl) ?_
  refine Run.go (Ev.len X rfl rfl rfl rfl) ?_
  refine Run.go (Ev.int rfl rfl rfl rfl trivial) ?_
  refine Run.go (Ev.assign rfl rfl) ?_
  refine Run.nil ?_
  refine T.cond rfl (fun hb1 => ?_) (fun hb1 => ?_)
  · replace h := ifT hb1 h
    refine T.seq ?_
    refine T.region ?_
    refine Run.go (Ev.assign rfl rfl) ?_
    refine Run.go (Ev.assign rfl rfl) ?_
    refine Run.go (Ev.assign rfl rfl) ?_
    refine Run.nil ?_
    refine T.ret ?_
    cases h
    exact Fin.many X rfl (.cons (.tmp .nilv) (.cons (.tmp .nilv) (.cons (.tmp .v) .nil))) rfl
  · replace h := ifF hb1 h
    obtain ⟨v2, hv, h⟩ := bdS h
    refine T.cut (fun _ : Unit => (⟨[(0, .v (.sl (.int .u64)) p0), (1, .v (.sl (.int .u64)) p1), (18, .v .bool v2)], [], 64⟩ : St)) (fun _ => True) ?_ (fun _ _ => ?_)
    · replace h := hv
      clear hv
      refine T.region ?_
      refine Run.go (Ev.move rfl rfl) ?_
      obtain ⟨x3, e4, h⟩ := bdS h
      refine Run.go (Ev.callC en97 (k_nat_May e4) rfl (.cons .v .nil) rfl rfl) ?_
      refine Run.go (Ev.not rfl rfl) ?_
      refine Run.go (Ev.move rfl rfl) ?_
      rcases boolCases (!x3) with hb5 | hb5
      · replace h := ifT hb5 h
        refine Run.offT rfl rfl rfl rfl hb5 ?_
        refine Run.offT rfl rfl rfl rfl hb5 ?_
        refine Run.offT rfl rfl rfl rfl hb5 ?_
        refine Run.go (Ev.pickT rfl hb5 rfl rfl) ?_
        refine Run.go (Ev.assign rfl rfl) ?_
        refine Run.nil ?_
        cases h
        exact ⟨(), trivial, Ghost.only [] [0, 1, 18] rfl⟩
      · replace h := ifF hb5 h
        refine Run.on rfl rfl rfl hb5 (Ev.move rfl rfl) ?_
        obtain ⟨x6, e7, h⟩ := bdS h
        refine Run.on rfl rfl rfl hb5 (Ev.callC en97 (k_nat_May e7) rfl (.cons .v .nil) rfl rfl) ?_
        refine Run.on rfl rfl rfl hb5 (Ev.not rfl rfl) ?_
        refine Run.go (Ev.pickF rfl hb5 rfl rfl) ?_
        refine Run.go (Ev.assign rfl rfl) ?_
        refine Run.nil ?_
        cases h
        exact ⟨(), trivial, Ghost.only [] [0, 1, 18] rfl⟩
    · refine T.cond rfl (fun hb8 => ?_) (fun hb8 => ?_)
      · replace h := ifT hb8 h
        refine T.seq ?_
        refine T.region ?_
        refine Run.go (Ev.assign rfl rfl) ?_
        refine Run.go (Ev.assign rfl rfl) ?_
        refine Run.go (Ev.assign rfl rfl) ?_
        refine Run.nil ?_
        refine T.ret ?_
        cases h
        exact Fin.many X rfl (.cons (.tmp .nilv) (.cons (.tmp .nilv) (.cons (.tmp .v) .nil))) rfl
      · replace h := ifF hb8 h
        refine T.seq ?_
        refine T.region ?_
        refine Run.go (Ev.move rfl rfl) ?_
        refine Run.go (Ev.move rfl rfl) ?_
        obtain ⟨x9, e10, h⟩ := bdS h
        refine Run.go (Ev.callC en113 (k_nat_Cmp e10) rfl (.cons .v (.cons .v .nil)) rfl rfl) ?_
        refine Run.go (Ev.int rfl rfl rfl rfl trivial) ?_
        refine Run.go (Ev.assign rfl rfl) ?_
        refine Run.nil ?_
        refine T.cond rfl (fun hb11 => ?_) (fun hb11 => ?_)
        · replace h := ifT hb11 h
          refine T.seq ?_
          refine T.region ?_
          refine Run.go (Ev.move rfl rfl) ?_
          obtain ⟨x12, e13, h⟩ := bdS h
          refine Run.go (Ev.callC en123 (k_nat_Make e13) rfl (.cons .v .nil) rfl rfl) ?_
          refine Run.go (Ev.move rfl rfl) ?_
          refine Run.go (Ev.extract rfl rfl rfl) ?_
          refine Run.go (Ev.extract rfl rfl rfl) ?_
          refine Run.go (Ev.assign rfl rfl) ?_
          refine Run.go (Ev.assign rfl rfl) ?_
          refine Run.nil ?_
          refine T.seq ?_
          refine T.region ?_
          refine Run.go (Ev.move rfl rfl) ?_
          refine Run.go (Ev.move rfl rfl) ?_
          refine Run.go (Ev.assign rfl rfl) ?_
          refine Run.go (Ev.assign rfl rfl) ?_
          refine Run.go (Ev.assign rfl rfl) ?_
          refine Run.nil ?_
          refine T.ret ?_
          cases h
          exact Fin.many X rfl (.cons (.tmp .nilv) (.cons (.tmp .v) (.cons (.tmp .v) .nil))) rfl
        · replace h := ifF hb11 h
          refine T.seq ?_
          refine T.region ?_
          refine Run.go (Ev.move rfl rfl) ?_
          refine Run.go (Ev.len X rfl rfl rfl rfl) ?_
          refine Run.go (Ev.int rfl rfl rfl rfl trivial) ?_
          refine Run.go (Ev.assign rfl rfl) ?_
          refine Run.nil ?_
          refine T.cond rfl (fun hb14 => ?_) (fun hb14 => ?_)
          · replace h := ifT hb14 h
            refine T.seq ?_
            refine T.region ?_
            refine Run.go (Ev.move rfl rfl) ?_
            refine Run.go (Ev.move rfl rfl) ?_
            obtain ⟨x15, e16, h⟩ := bdS h
            refine Run.go (Ev.e_rd X e16 rfl rfl rfl rfl) ?_
            refine Run.go (Ev.load X rfl rfl rfl) ?_
            obtain ⟨x17, e18, h⟩ := bdS h
            refine Run.go (Ev.callC en136 (k_divide_Small e18) rfl (.cons .v (.cons .v .nil)) rfl rfl) ?_
            refine Run.go (Ev.move rfl rfl) ?_
            refine Run.go (Ev.extract rfl rfl rfl) ?_
            refine Run.go (Ev.extract rfl rfl rfl) ?_
            refine Run.go (Ev.extract rfl rfl rfl) ?_
            refine Run.go (Ev.assign rfl rfl) ?_
            refine Run.go (Ev.assign rfl rfl) ?_
            refine Run.go (Ev.assign rfl rfl) ?_
            refine Run.nil ?_
            refine T.seq ?_
            refine T.region ?_
            refine Run.go (Ev.move rfl rfl) ?_
            refine Run.go (Ev.move rfl rfl) ?_
            obtain ⟨x19, e20, h⟩ := bdS h
            refine Run.go (Ev.callC en115 (k_nat_Of e20) rfl (.cons .v .nil) rfl rfl) ?_
            refine Run.go (Ev.move rfl rfl) ?_
            refine Run.go (Ev.assign rfl rfl) ?_
            refine Run.go (Ev.assign rfl rfl) ?_
            refine Run.go (Ev.assign rfl rfl) ?_
            refine Run.nil ?_
            refine T.ret ?_
            cases h
            exact Fin.many X rfl (.cons (.tmp .v) (.cons (.tmp .v) (.cons (.tmp .v) .nil))) rfl
          · replace h := ifF hb14 h
            refine T.skip ?_
            refine T.seq ?_
            refine T.region ?_
            refine Run.go (Ev.move rfl rfl) ?_
            refine Run.go (Ev.move rfl rfl) ?_
            obtain ⟨x21, e22, h⟩ := bdS h
            refine Run.go (Ev.callC en137 (k_divide_knuth e22) rfl (.cons .v (.cons .v .nil)) rfl rfl) ?_
            refine Run.go (Ev.move rfl rfl) ?_
            refine Run.go (Ev.extract rfl rfl rfl) ?_
            refine Run.go (Ev.extract rfl rfl rfl) ?_
            refine Run.go (Ev.assign rfl rfl) ?_
            refine Run.go (Ev.assign rfl rfl) ?_
            refine Run.nil ?_
            refine T.seq ?_
            refine T.region ?_
            refine Run.go (Ev.move rfl rfl) ?_
            refine Run.go (Ev.move rfl rfl) ?_
            refine Run.go (Ev.assign rfl rfl) ?_
            refine Run.go (Ev.assign rfl rfl) ?_
            refine Run.go (Ev.assign rfl rfl) ?_
            refine Run.nil ?_
            refine T.ret ?_
            cases h
            exact Fin.many X rfl (.cons (.tmp .v) (.cons (.tmp .v) (.cons (.tmp .v) .nil))) rfl
theorem en124 : Enters Tryz.prog 124 := ⟨_, Tryz.func124, rfl, rfl⟩
theorem k_divide_Mod {p0 : (List Int)} {p1 : (List Int)} {y : (List Int) × Int} (h : m_divide_Mod p0 p1 = some y) : Spec Tryz.prog 124 [(.v (.sl (.int .u64)) p0), (.v (.sl (.int .u64)) p1)] (.tup [.v (.sl (.int .u64)) y.1, .v (.int .i64) y.2]) [] := by
  rw [m_divide_Mod] at h
  refine enterN [(.v (.sl (.int .u64)) p0), (.v (.sl (.int .u64)) p1)] 18 Tryz.func124 rfl rfl rfl ?_
  refine T.seq ?_
  refine T.region ?_
  refine Run.go (Ev.assign rfl rfl) ?_
  refine Run.go (Ev.assign rfl rfl) ?_
  refine Run.nil ?_
  refine T.seq ?_
  refine T.region ?_
  refine Run.go (Ev.move rfl rfl) ?_
  refine Run.go (Ev.move rfl rfl) ?_
  obtain ⟨x1, e2, h⟩ := bdS h
  refine Run.go (Ev.callC en130 (k_divide_Div e2) rfl (.cons .v (.cons .v .nil)) rfl rfl) ?_
  refine Run.go (Ev.move rfl rfl) ?_
  refine Run.go (Ev.extract rfl rfl rfl) ?_
  refine Run.go (Ev.extract rfl rfl rfl) ?_
  refine Run.go (Ev.extract rfl rfl rfl) ?_
  refine Run.go (Ev.assign rfl rfl) ?_
  refine Run.go (Ev.assign rfl rfl) ?_
  refine Run.go (Ev.assign rfl rfl) ?_
  refine Run.nil ?_
  refine T.seq ?_
  refine T.region ?_
  refine Run.go (Ev.move rfl rfl) ?_
  refine Run.go (Ev.move rfl rfl) ?_
  refine Run.go (Ev.assign rfl rfl) ?_
  refine Run.go (Ev.assign rfl rfl) ?_
  refine Run.nil ?_
  refine T.ret ?_
  cases h
  exact Fin.many X rfl (.cons (.tmp .v) (.cons (.tmp .v) .nil)) rfl
theorem en114 : Enters Tryz.prog 114 := ⟨_, Tryz.func114, rfl, rfl⟩
theorem k_gcd_Euclid {p0 : (List Int)} {p1 : (List Int)} {y : (List Int)} (h : m_gcd_Euclid p0 p1 = some y) : Spec Tryz.prog 114 [(.v (.sl (.int .u64)) p0), (.v (.sl (.int .u64)) p1)] (.v (.sl (.int .u64)) y) [] := by
  rw [m_gcd_Euclid] at h
  refine enterN [(.v (.sl (.int .u64)) p0), (.v (.sl (.int .u64)) p1)] 33 Tryz.func114 rfl rfl rfl ?_
  refine T.seq ?_
  refine T.region ?_
  refine Run.go (Ev.assign rfl rfl) ?_
  refine Run.nil ?_
  refine T.seq ?_
  refine T.region ?_
  refine Run.go (Ev.move rfl rfl) ?_
  obtain ⟨x1, e2, h⟩ := bdS h
  refine Run.go (Ev.callC en123 (k_nat_Make e2) rfl (.cons .v .nil) rfl rfl) ?_
  refine Run.go (Ev.move rfl rfl) ?_
  refine Run.go (Ev.extract rfl rfl rfl) ?_
  refine Run.go (Ev.extract rfl rfl rfl) ?_
  refine Run.go (Ev.assign rfl rfl) ?_
  refine Run.go (Ev.assign rfl rfl) ?_
  refine Run.nil ?_
  refine T.seq ?_
  refine T.region ?_
  refine Run.go (Ev.move rfl rfl) ?_
  obtain ⟨x3, e4, h⟩ := bdS h
  refine Run.go (Ev.callC en123 (k_nat_Make e4) rfl (.cons .v .nil) rfl rfl) ?_
  refine Run.go (Ev.move rfl rfl) ?_
  refine Run.go (Ev.extract rfl rfl rfl) ?_
  refine Run.go (Ev.extract rfl rfl rfl) ?_
  refine Run.go (Ev.assign rfl rfl) ?_
  refine Run.go (Ev.assign rfl rfl) ?_
  refine Run.nil ?_
  obtain ⟨v5, hv, h⟩ := bdS h
  refine T.cut (fun _ : Unit => (⟨[(5, .v (.sl (.int .u64)) v5)], [], 33⟩ : St)) (fun _ => True) ?_ (fun _ _ => ?_)
  · replace h := hv
    clear hv
    refine T.block ?_
    refine T.loop (LoopT.ghost (Ghost.only [] [5, 7] rfl) (LoopT.run (fun q : (List Int) × (List Int) => (⟨[(5, .v (.sl (.int .u64)) q.1), (7, .v (.sl (.int .u64)) q.2)], [], 33⟩ : St)) (fun q z1 h hz1 => ?_) h))
    obtain ⟨v6, v7⟩ := q
    dsimp only
    rw [m_gcd_Euclid_l1] at h
    refine T.seq ?_
    refine T.seq ?_
    refine T.region ?_
    refine Run.go (Ev.move rfl rfl) ?_
    refine Run.go (Ev.len X rfl rfl rfl rfl) ?_
    refine Run.go (Ev.int rfl rfl rfl rfl trivial) ?_
    refine Run.nil ?_
    refine T.cond rfl (fun hb8 => ?_) (fun hb8 => ?_)
    · replace h := ifT hb8 h
      refine T.skip ?_
      refine T.block ?_
      refine T.seq ?_
      refine T.region ?_
      refine Run.go (Ev.move rfl rfl) ?_
      refine Run.go (Ev.move rfl rfl) ?_
      obtain ⟨x9, e10, h⟩ := bdS h
      refine Run.go (Ev.callC en124 (k_divide_Mod e10) rfl (.cons .v (.cons .v .nil)) rfl rfl) ?_
      refine Run.go (Ev.move rfl rfl) ?_
      refine Run.go (Ev.extract rfl rfl rfl) ?_
      refine Run.go (Ev.extract rfl rfl rfl) ?_
      refine Run.go (Ev.assign rfl rfl) ?_
      refine Run.go (Ev.assign rfl rfl) ?_
      refine Run.nil ?_
      refine T.region ?_
      refine Run.go (Ev.move rfl rfl) ?_
      refine Run.go (Ev.move rfl rfl) ?_
      refine Run.go (Ev.assign rfl rfl) ?_
      refine Run.go (Ev.assign rfl rfl) ?_
      refine Run.nil ?_
      cases h
      exact LoopT.ghost (Ghost.only [] [5, 7] rfl) hz1
    · replace h := ifF hb8 h
      refine T.exit ?_
      cases h
      cases hz1
      exact ⟨(), trivial, Ghost.only [] [5] rfl⟩
  · refine T.seq ?_
    refine T.region ?_
    refine Run.go (Ev.move rfl rfl) ?_
    refine Run.go (Ev.assign rfl rfl) ?_
    refine Run.nil ?_
    refine T.ret ?_
    cases h
    exact Fin.one rfl .v
theorem en98 : Enters Tryz.prog 98 := ⟨_, Tryz.func98, rfl, rfl⟩
theorem k_gcd_Coprime {p0 : (List Int)} {p1 : (List Int)} {y : Bool} (h : m_gcd_Coprime p0 p1 = some y) : Spec Tryz.prog 98 [(.v (.sl (.int .u64)) p0), (.v (.sl (.int .u64)) p1)] (.v .bool y) [] := by
  rw [m_gcd_Coprime] at h
  refine enterN [(.v (.sl (.int .u64)) p0), (.v (.sl (.int .u64)) p1)] 11 Tryz.func98 rfl rfl rfl ?_
  refine T.seq ?_
  refine T.region ?_
  refine Run.go (Ev.assign rfl rfl) ?_
  refine Run.nil ?_
  refine T.seq ?_
  refine T.region ?_
  refine Run.go (Ev.move rfl rfl) ?_
  refine Run.go (Ev.move rfl rfl) ?_
  obtain ⟨x1, e2, h⟩ := bdS h
  refine Run.go (Ev.callC en114 (k_gcd_Euclid e2) rfl (.cons .v (.cons .v .nil)) rfl rfl) ?_
  obtain ⟨x3, e4, h⟩ := bdS h
  refine Run.go (Ev.callC en115 (k_nat_Of e4) rfl (.cons .v .nil) rfl rfl) ?_
  obtain ⟨x5, e6, h⟩ := bdS h
  refine Run.go (Ev.callC en113 (k_nat_Cmp e6) rfl (.cons .v (.cons .v .nil)) rfl rfl) ?_
  refine Run.go (Ev.int rfl rfl rfl rfl trivial) ?_
  refine Run.go (Ev.assign rfl rfl) ?_
  refine Run.nil ?_
  refine T.ret ?_
  cases h
  exact Fin.one rfl .v
theorem en75 : Enters Tryz.prog 75 := ⟨_, Tryz.func75, rfl, rfl⟩
theorem k_rat_May {p0 : D_api_Rat} {y : Bool} (h : m_rat_May p0 = some y) : Spec Tryz.prog 75 [(.v Y_api_Rat p0)] (.v .bool y) [] := by
  rw [m_rat_May] at h
  refine enterN [(.v Y_api_Rat p0)] 38 Tryz.func75 rfl rfl rfl ?_
  refine T.seq ?_
  refine T.region ?_
  refine Run.go (Ev.box 1 rfl rfl rfl rfl) ?_
  refine Run.go (Ev.assign rfl rfl) ?_
  refine Run.nil ?_
  refine T.seq ?_
  refine T.block ?_
  obtain ⟨v1, hv, h⟩ := bdS h
  refine T.cut (fun _ : Unit => (⟨[(1, .box 1 0), (3, .v .bool v1)], [(1, .box [.v .bool p0.1.1, .v (.sl (.int .u64)) p0.1.2, .v (.sl (.int .u64)) p0.2])], 38⟩ : St)) (fun _ => True) ?_ (fun _ _ => ?_)
  · replace h := hv
    clear hv
    refine T.region ?_
    refine Run.go (Ev.fieldBox X rfl rfl rfl rfl rfl) ?_
    refine Run.go (Ev.fieldBox X rfl rfl rfl rfl rfl) ?_
    refine Run.go (Ev.loadCell X rfl rfl rfl rfl rfl rfl) ?_
    obtain ⟨x2, e3, h⟩ := bdS h
    refine Run.go (Ev.callC en97 (k_nat_May e3) rfl (.cons .v .nil) rfl rfl) ?_
    refine Run.go (Ev.not rfl rfl) ?_
    refine Run.go (Ev.move rfl rfl) ?_
    rcases boolCases (!x2) with hb4 | hb4
    · replace h := ifT hb4 h
      refine Run.offT rfl rfl rfl rfl hb4 ?_
      refine Run.offT rfl rfl rfl rfl hb4 ?_
      refine Run.offT rfl rfl rfl rfl hb4 ?_
      refine Run.offT rfl rfl rfl rfl hb4 ?_
      refine Run.go (Ev.pickT rfl hb4 rfl rfl) ?_
      refine Run.go (Ev.move rfl rfl) ?_
      refine Run.offT rfl rfl rfl rfl rfl ?_
      refine Run.offT rfl rfl rfl rfl rfl ?_
      refine Run.offT rfl rfl rfl rfl rfl ?_
      refine Run.offT rfl rfl rfl rfl rfl ?_
      refine Run.go (Ev.pickT rfl rfl rfl rfl) ?_
      refine Run.go (Ev.assign rfl rfl) ?_
      refine Run.nil ?_
      cases h
      exact ⟨(), trivial, Ghost.only [(1, 1)] [1, 3] rfl⟩
    · replace h := ifF hb4 h
      refine Run.on rfl rfl rfl hb4 (Ev.fieldBox X rfl rfl rfl rfl rfl) ?_
      refine Run.on rfl rfl rfl hb4 (Ev.loadCell X rfl rfl rfl rfl rfl rfl) ?_
      obtain ⟨x5, e6, h⟩ := bdS h
      refine Run.on rfl rfl rfl hb4 (Ev.callC en97 (k_nat_May e6) rfl (.cons .v .nil) rfl rfl) ?_
      refine Run.on rfl rfl rfl hb4 (Ev.not rfl rfl) ?_
      refine Run.go (Ev.pickF rfl hb4 rfl rfl) ?_
      refine Run.go (Ev.move rfl rfl) ?_
      rcases boolCases (!x5) with hb7 | hb7
      · replace h := ifT hb7 h
        refine Run.offT rfl rfl rfl rfl hb7 ?_
        refine Run.offT rfl rfl rfl rfl hb7 ?_
        refine Run.offT rfl rfl rfl rfl hb7 ?_
        refine Run.offT rfl rfl rfl rfl hb7 ?_
        refine Run.go (Ev.pickT rfl hb7 rfl rfl) ?_
        refine Run.go (Ev.assign rfl rfl) ?_
        refine Run.nil ?_
        cases h
        exact ⟨(), trivial, Ghost.only [(1, 1)] [1, 3] rfl⟩
      · replace h := ifF hb7 h
        refine Run.on rfl rfl rfl hb7 (Ev.fieldBox X rfl rfl rfl rfl rfl) ?_
        refine Run.on rfl rfl rfl hb7 (Ev.loadCell X rfl rfl rfl rfl rfl rfl) ?_
        refine Run.on rfl rfl rfl hb7 (Ev.len X rfl rfl rfl rfl) ?_
        refine Run.on rfl rfl rfl hb7 (Ev.int rfl rfl rfl rfl trivial) ?_
        refine Run.go (Ev.pickF rfl hb7 rfl rfl) ?_
        refine Run.go (Ev.assign rfl rfl) ?_
        refine Run.nil ?_
        cases h
        exact ⟨(), trivial, Ghost.only [(1, 1)] [1, 3] rfl⟩
  · refine T.cond rfl (fun hb8 => ?_) (fun hb8 => ?_)
    · replace h := ifT hb8 h
      refine T.seq ?_
      refine T.region ?_
      refine Run.go (Ev.assign rfl rfl) ?_
      refine Run.nil ?_
      refine T.ret ?_
      cases h
      exact Fin.one rfl .v
    · replace h := ifF hb8 h
      obtain ⟨v9, hv, h⟩ := bdS h
      refine T.cut (fun _ : Unit => (⟨[(1, .box 1 0), (21, .v .bool v9)], [(1, .box [.v .bool p0.1.1, .v (.sl (.int .u64)) p0.1.2, .v (.sl (.int .u64)) p0.2])], 38⟩ : St)) (fun _ => True) ?_ (fun _ _ => ?_)
      · replace h := hv
        clear hv
        refine T.region ?_
        refine Run.go (Ev.fieldBox X rfl rfl rfl rfl rfl) ?_
        refine Run.go (Ev.fieldBox X rfl rfl rfl rfl rfl) ?_
        refine Run.go (Ev.loadCell X rfl rfl rfl rfl rfl rfl) ?_
        refine Run.go (Ev.move rfl rfl) ?_
        rcases boolCases p0.1.1 with hb10 | hb10
        · replace h := ifT hb10 h
          refine Run.on rfl rfl rfl hb10 (Ev.fieldBox X rfl rfl rfl rfl rfl) ?_
          refine Run.on rfl rfl rfl hb10 (Ev.fieldBox X rfl rfl rfl rfl rfl) ?_
          refine Run.on rfl rfl rfl hb10 (Ev.loadCell X rfl rfl rfl rfl rfl rfl) ?_
          refine Run.on rfl rfl rfl hb10 (Ev.len X rfl rfl rfl rfl) ?_
          refine Run.on rfl rfl rfl hb10 (Ev.int rfl rfl rfl rfl trivial) ?_
          refine Run.go (Ev.pickT rfl hb10 rfl rfl) ?_
          refine Run.go (Ev.assign rfl rfl) ?_
          refine Run.nil ?_
          cases h
          exact ⟨(), trivial, Ghost.only [(1, 1)] [1, 21] rfl⟩
        · replace h := ifF hb10 h
          refine Run.offT rfl rfl rfl rfl hb10 ?_
          refine Run.offT rfl rfl rfl rfl hb10 ?_
          refine Run.offT rfl rfl rfl rfl hb10 ?_
          refine Run.offT rfl rfl rfl rfl hb10 ?_
          refine Run.offT rfl rfl rfl rfl hb10 ?_
          refine Run.go (Ev.pickF rfl hb10 rfl rfl) ?_
          refine Run.go (Ev.assign rfl rfl) ?_
          refine Run.nil ?_
          cases h
          exact ⟨(), trivial, Ghost.only [(1, 1)] [1, 21] rfl⟩
      · refine T.cond rfl (fun hb11 => ?_) (fun hb11 => ?_)
        · replace h := ifT hb11 h
          refine T.seq ?_
          refine T.region ?_
          refine Run.go (Ev.assign rfl rfl) ?_
          refine Run.nil ?_
          refine T.ret ?_
          cases h
          exact Fin.one rfl .v
        · replace h := ifF hb11 h
          refine T.skip ?_
          refine T.seq ?_
          refine T.region ?_
          refine Run.go (Ev.fieldBox X rfl rfl rfl rfl rfl) ?_
          refine Run.go (Ev.fieldBox X rfl rfl rfl rfl rfl) ?_
          refine Run.go (Ev.loadCell X rfl rfl rfl rfl rfl rfl) ?_
          refine Run.go (Ev.fieldBox X rfl rfl rfl rfl rfl) ?_
          refine Run.go (Ev.loadCell X rfl rfl rfl rfl rfl rfl) ?_
          obtain ⟨x12, e13, h⟩ := bdS h
          refine Run.go (Ev.callC en98 (k_gcd_Coprime e13) rfl (.cons .v (.cons .v .nil)) rfl rfl) ?_
          refine Run.go (Ev.assign rfl rfl) ?_
          refine Run.nil ?_
          refine T.ret ?_
          cases h
          exact Fin.one rfl .v
end Go.Proofs.YtbmogniipgmkiaaGreat.AE
/- The code comes to the printed functions (printed by a program of ours). -/
namespace Go.Proofs.YtbmogniipgmkiaaGreat.AE
open Go Go.RowKit Go.Proofs.YtbmogniipgmkiaaGreat.AP
set_option linter.unusedVariables false
set_option maxRecDepth 20000
theorem en99 : Enters Tryz.prog 99 := ⟨_, Tryz.func99, rfl, rfl⟩
theorem k_whole_Sign {p0 : D_api_Int} {y : Int} (h : m_whole_Sign p0 = some y) : Spec Tryz.prog 99 [(.v Y_api_Int p0)] (.v (.int .i64) y) [] := by
  rw [m_whole_Sign] at h
  refine enterN [(.v Y_api_Int p0)] 11 Tryz.func99 rfl rfl rfl ?_
  refine T.seq ?_
  refine T.region ?_
  refine Run.go (Ev.box 1 rfl rfl rfl rfl) ?_
  refine Run.go (Ev.assign rfl rfl) ?_
  refine Run.nil ?_
  refine T.seq ?_
  refine T.block ?_
  refine T.seq ?_
  refine T.region ?_
  refine Run.go (Ev.fieldBox X rfl rfl rfl rfl rfl) ?_
  refine Run.go (Ev.loadCell X rfl rfl rfl rfl rfl rfl) ?_
  refine Run.go (Ev.len X rfl rfl rfl rfl) ?_
  refine Run.go (Ev.int rfl rfl rfl rfl trivial) ?_
  refine Run.go (Ev.assign rfl rfl) ?_
  refine Run.nil ?_
  refine T.cond rfl (fun hb1 => ?_) (fun hb1 => ?_)
  · replace h := ifT hb1 h
    refine T.seq ?_
    refine T.region ?_
    refine Run.go (Ev.assign rfl rfl) ?_
    refine Run.nil ?_
    refine T.ret ?_
    cases h
    exact Fin.one rfl .v
  · replace h := ifF hb1 h
    refine T.seq ?_
    refine T.region ?_
    refine Run.go (Ev.fieldBox X rfl rfl rfl rfl rfl) ?_
    refine Run.go (Ev.loadCell X rfl rfl rfl rfl rfl rfl) ?_
    refine Run.go (Ev.assign rfl rfl) ?_
    refine Run.nil ?_
    refine T.cond rfl (fun hb2 => ?_) (fun hb2 => ?_)
    · replace h := ifT hb2 h
      refine T.seq ?_
      refine T.region ?_
      refine Run.go (Ev.assign rfl rfl) ?_
      refine Run.nil ?_
      refine T.ret ?_
      cases h
      exact Fin.one rfl .v
    · replace h := ifF hb2 h
      refine T.skip ?_
      refine T.seq ?_
      refine T.region ?_
      refine Run.go (Ev.assign rfl rfl) ?_
      refine Run.nil ?_
      refine T.ret ?_
      cases h
      exact Fin.one rfl .v
theorem en76 : Enters Tryz.prog 76 := ⟨_, Tryz.func76, rfl, rfl⟩
theorem k_rat_Sign {p0 : D_api_Rat} {y : Int} (h : m_rat_Sign p0 = some y) : Spec Tryz.prog 76 [(.v Y_api_Rat p0)] (.v (.int .i64) y) [] := by
  rw [m_rat_Sign] at h
  refine enterN [(.v Y_api_Rat p0)] 6 Tryz.func76 rfl rfl rfl ?_
  refine T.seq ?_
  refine T.region ?_
  refine Run.go (Ev.box 1 rfl rfl rfl rfl) ?_
  refine Run.go (Ev.assign rfl rfl) ?_
  refine Run.nil ?_
  refine T.seq ?_
  refine T.region ?_
  refine Run.go (Ev.fieldBox X rfl rfl rfl rfl rfl) ?_
  refine Run.go (Ev.loadBox X rfl rfl rfl rfl rfl) ?_
  obtain ⟨x1, e2, h⟩ := bdS h
  refine Run.go (Ev.callC en99 (k_whole_Sign e2) rfl (.cons .v .nil) rfl rfl) ?_
  refine Run.go (Ev.assign rfl rfl) ?_
  refine Run.nil ?_
  refine T.ret ?_
  cases h
  exact Fin.one rfl .v
theorem en128 : Enters Tryz.prog 128 := ⟨_, Tryz.func128, rfl, rfl⟩
theorem k_nat_at {p0 : (List Int)} {p1 : Int} {y : Int} (h : m_nat_at p0 p1 = some y) : Spec Tryz.prog 128 [(.v (.sl (.int .u64)) p0), (.v (.int .i64) p1)] (.v (.int .u64) y) [] := by
  rw [m_nat_at] at h
  refine enterN [(.v (.sl (.int .u64)) p0), (.v (.int .i64) p1)] 13 Tryz.func128 rfl rfl rfl ?_
  refine T.seq ?_
  refine T.region ?_
  refine Run.go (Ev.assign rfl rfl) ?_
  refine Run.nil ?_
  refine T.seq ?_
  refine T.seq ?_
  refine T.region ?_
  refine Run.go (Ev.move rfl rfl) ?_
  refine Run.go (Ev.move rfl rfl) ?_
  refine Run.go (Ev.len X rfl rfl rfl rfl) ?_
  refine Run.go (Ev.int rfl rfl rfl rfl trivial) ?_
  refine Run.nil ?_
  refine T.cond rfl (fun hb1 => ?_) (fun hb1 => ?_)
  · replace h := ifT hb1 h
    refine T.seq ?_
    refine T.region ?_
    refine Run.go (Ev.assign rfl rfl) ?_
    refine Run.nil ?_
    refine T.ret ?_
    cases h
    exact Fin.one rfl .v
  · replace h := ifF hb1 h
    refine T.skip ?_
    refine T.seq ?_
    refine T.region ?_
    refine Run.go (Ev.move rfl rfl) ?_
    refine Run.go (Ev.move rfl rfl) ?_
    obtain ⟨x2, e3, h⟩ := bdS h
    refine Run.go (Ev.e_rd X e3 rfl rfl rfl rfl) ?_
    refine Run.go (Ev.load X rfl rfl rfl) ?_
    refine Run.go (Ev.assign rfl rfl) ?_
    refine Run.nil ?_
    refine T.ret ?_
    cases h
    exact Fin.one rfl .v
theorem en127 : Enters Tryz.prog 127 := ⟨_, Tryz.func127, rfl, rfl⟩
theorem k_limb_Add {p0 : Int} {p1 : Int} {p2 : Int} {y : Int × Int} (h : m_limb_Add p0 p1 p2 = some y) : Spec Tryz.prog 127 [(.v (.int .u64) p0), (.v (.int .u64) p1), (.v (.int .u64) p2)] (.tup [.v (.int .u64) y.1, .v (.int .u64) y.2]) [] := by
  rw [m_limb_Add] at h
  refine enterN [(.v (.int .u64) p0), (.v (.int .u64) p1), (.v (.int .u64) p2)] 21 Tryz.func127 rfl rfl rfl ?_
  refine T.seq ?_
  refine T.region ?_
  refine Run.go (Ev.assign rfl rfl) ?_
  refine Run.go (Ev.assign rfl rfl) ?_
  refine Run.nil ?_
  refine T.seq ?_
  refine T.region ?_
  refine Run.go (Ev.move rfl rfl) ?_
  refine Run.go (Ev.int rfl rfl rfl rfl trivial) ?_
  refine Run.go (Ev.move rfl rfl) ?_
  refine Run.go (Ev.int rfl rfl rfl rfl trivial) ?_
  refine Run.go (Ev.int rfl rfl rfl rfl trivial) ?_
  refine Run.go (Ev.move rfl rfl) ?_
  refine Run.go (Ev.int rfl rfl rfl rfl trivial) ?_
  refine Run.go (Ev.int rfl rfl rfl rfl trivial) ?_
  obtain ⟨x1, e2, h⟩ := ltS h
  refine Run.go (Ev.avs (Ev.assign rfl rfl) e2) ?_
  refine Run.nil ?_
  refine T.seq ?_
  refine T.region ?_
  refine Run.go (Ev.move rfl rfl) ?_
  refine Run.go (Ev.int rfl rfl rfl rfl trivial) ?_
  refine Run.go (Ev.move rfl rfl) ?_
  obtain ⟨x3, e4, h⟩ := bdS h
  refine Run.go (Ev.e_sr e4 rfl rfl rfl) ?_
  refine Run.go (Ev.assign rfl rfl) ?_
  refine Run.go (Ev.assign rfl rfl) ?_
  refine Run.nil ?_
  refine T.ret ?_
  cases h
  exact Fin.many X rfl (.cons (.tmp .v) (.cons (.tmp .v) .nil)) rfl
theorem en118 : Enters Tryz.prog 118 := ⟨_, Tryz.func118, rfl, rfl⟩
theorem k_nat_Add {p0 : (List Int)} {p1 : (List Int)} {y : (List Int)} (h : m_nat_Add p0 p1 = some y) : Spec Tryz.prog 118 [(.v (.sl (.int .u64)) p0), (.v (.sl (.int .u64)) p1)] (.v (.sl (.int .u64)) y) [] := by
  rw [m_nat_Add] at h
  refine enterN [(.v (.sl (.int .u64)) p0), (.v (.sl (.int .u64)) p1)] 42 Tryz.func118 rfl rfl rfl ?_
  refine T.seq ?_
  refine T.region ?_
  refine Run.go (Ev.assign rfl rfl) ?_
  refine Run.nil ?_
  refine T.seq ?_
  refine T.region ?_
  refine Run.go (Ev.move rfl rfl) ?_
  refine Run.go (Ev.len X rfl rfl rfl rfl) ?_
  refine Run.go (Ev.move rfl rfl) ?_
  refine Run.go (Ev.len X rfl rfl rfl rfl) ?_
  refine Run.go (Ev.max rfl rfl rfl) ?_
  obtain ⟨x1, e2, h⟩ := ltS h
  refine Run.go (Ev.avs (Ev.assign rfl rfl) e2) ?_
  refine Run.nil ?_
  refine T.seq ?_
  refine T.region ?_
  refine Run.go (Ev.move rfl rfl) ?_
  refine Run.go (Ev.int rfl rfl rfl rfl trivial) ?_
  obtain ⟨x3, e4, h⟩ := bdS h
  refine Run.go (Ev.e_mk X 1 e4 rfl rfl rfl rfl rfl rfl) ?_
  refine Run.go (Ev.assign rfl rfl) ?_
  refine Run.nil ?_
  refine T.seq ?_
  refine T.region ?_
  refine Run.go (Ev.assign rfl rfl) ?_
  refine Run.nil ?_
  obtain ⟨⟨v5, v6⟩, hv, h⟩ := bdS h
  refine T.cut (fun _ : Unit => (⟨[(5, .v (.int .i64) x1), (6, .own 1), (7, .v (.int .u64) v5)], [(1, .arr 81 (.int .u64) v6)], 42⟩ : St)) (fun _ => True) ?_ (fun _ _ => ?_)
  · replace h := hv
    clear hv
    refine T.seq ?_
    refine T.region ?_
    refine Run.go (Ev.move rfl rfl) ?_
    refine Run.go (Ev.move rfl rfl) ?_
    refine Run.nil ?_
    refine T.block ?_
    refine T.loop (LoopT.ghost (Ghost.only [(1, 1)] [0, 1, 5, 6, 7, 17, 18] rfl) (LoopT.run (fun q : Int × Int × (List Int) => (⟨[(0, .v (.sl (.int .u64)) p0), (1, .v (.sl (.int .u64)) p1), (5, .v (.int .i64) x1), (6, .own 1), (7, .v (.int .u64) q.1), (17, .v (.int .i64) x1), (18, .v (.int .i64) q.2.1)], [(1, .arr 81 (.int .u64) q.2.2)], 42⟩ : St)) (fun q z1 h hz1 => ?_) h))
    obtain ⟨v7, v8, v9⟩ := q
    dsimp only
    rw [m_nat_Add_l1] at h
    refine T.seq ?_
    refine T.region ?_
    refine Run.go (Ev.int rfl rfl rfl rfl trivial) ?_
    refine Run.nil ?_
    refine T.seq ?_
    refine T.cond rfl (fun hb10 => ?_) (fun hb10 => ?_)
    · replace h := ifT hb10 h
      refine T.skip ?_
      refine T.seq ?_
      refine T.block ?_
      refine T.seq ?_
      refine T.region ?_
      refine Run.go (Ev.move rfl rfl) ?_
      refine Run.go (Ev.assign rfl rfl) ?_
      refine Run.nil ?_
      refine T.region ?_
      refine Run.go (Ev.move rfl rfl) ?_
      refine Run.go (Ev.move rfl rfl) ?_
      refine Run.go (Ev.move rfl rfl) ?_
      refine Run.go (Ev.move rfl rfl) ?_
      obtain ⟨x11, e12, h⟩ := bdS h
      refine Run.go (Ev.callC en128 (k_nat_at e12) rfl (.cons .v (.cons .v .nil)) rfl rfl) ?_
      refine Run.go (Ev.move rfl rfl) ?_
      refine Run.go (Ev.move rfl rfl) ?_
      obtain ⟨x13, e14, h⟩ := bdS h
      refine Run.go (Ev.callC en128 (k_nat_at e14) rfl (.cons .v (.cons .v .nil)) rfl rfl) ?_
      refine Run.go (Ev.move rfl rfl) ?_
      obtain ⟨x15, e16, h⟩ := bdS h
      refine Run.go (Ev.callC en127 (k_limb_Add e16) rfl (.cons .v (.cons .v (.cons .v .nil))) rfl rfl) ?_
      refine Run.go (Ev.move rfl rfl) ?_
      refine Run.go (Ev.extract rfl rfl rfl) ?_
      refine Run.go (Ev.extract rfl rfl rfl) ?_
      obtain ⟨j17, e18, h⟩ := bdS h
      refine Run.go (Ev.e_ixO X e18 rfl rfl rfl rfl rfl) ?_
      obtain ⟨x19, e20, h⟩ := ltS h
      refine Run.do_ (Ev.asO (Ev.storeEl X rfl rfl rfl rfl rfl) e20) ?_
      refine Run.go (Ev.assign rfl rfl) ?_
      refine Run.nil ?_
      refine T.region ?_
      refine Run.go (Ev.int rfl rfl rfl rfl trivial) ?_
      refine Run.go (Ev.move rfl rfl) ?_
      refine Run.nil ?_
      cases h
      exact LoopT.ghost (Ghost.only [(1, 1)] [0, 1, 5, 6, 7, 17, 18] rfl) hz1
    · replace h := ifF hb10 h
      refine T.exit ?_
      cases h
      cases hz1
      exact ⟨(), trivial, Ghost.only [(1, 1)] [5, 6, 7] rfl⟩
  · refine T.seq ?_
    refine T.region ?_
    refine Run.go (Ev.move rfl rfl) ?_
    refine Run.go (Ev.move rfl rfl) ?_
    refine Run.go (Ev.move rfl rfl) ?_
    obtain ⟨j21, e22, h⟩ := bdS h
    refine Run.go (Ev.e_ixO X e22 rfl rfl rfl rfl rfl) ?_
    obtain ⟨x23, e24, h⟩ := ltS h
    refine Run.do_ (Ev.asO (Ev.storeEl X rfl rfl rfl rfl rfl) e24) ?_
    refine Run.nil ?_
    refine T.seq ?_
    refine T.region ?_
    refine Run.go (Ev.move rfl rfl) ?_
    refine Run.ghost (Ghost.firmAll (id := 1) rfl) ?_
    obtain ⟨x25, e26, h⟩ := bdS h
    refine Run.go (Ev.callC en125 (k_nat_trim e26) rfl (.cons .v .nil) rfl rfl) ?_
    refine Run.go (Ev.assign rfl rfl) ?_
    refine Run.nil ?_
    refine T.ret ?_
    cases h
    exact Fin.one rfl .v
theorem en116 : Enters Tryz.prog 116 := ⟨_, Tryz.func116, rfl, rfl⟩
theorem k_whole_Made {p0 : Bool} {p1 : (List Int)} {y : D_api_Int} (h : m_whole_Made p0 p1 = some y) : Spec Tryz.prog 116 [(.v .bool p0), (.v (.sl (.int .u64)) p1)] (.v Y_api_Int y) [] := by
  rw [m_whole_Made] at h
  refine enterN [(.v .bool p0), (.v (.sl (.int .u64)) p1)] 20 Tryz.func116 rfl rfl rfl ?_
  refine T.seq ?_
  refine T.region ?_
  refine Run.go (Ev.allocN X 1 rfl rfl rfl) ?_
  refine Run.nil ?_
  refine T.seq ?_
  refine T.region ?_
  refine Run.go (Ev.move rfl rfl) ?_
  obtain ⟨x1, e2, h⟩ := bdS h
  refine Run.go (Ev.callC en123 (k_nat_Make e2) rfl (.cons .v .nil) rfl rfl) ?_
  refine Run.go (Ev.move rfl rfl) ?_
  refine Run.go (Ev.extract rfl rfl rfl) ?_
  refine Run.go (Ev.extract rfl rfl rfl) ?_
  refine Run.go (Ev.assign rfl rfl) ?_
  refine Run.go (Ev.assign rfl rfl) ?_
  refine Run.nil ?_
  refine T.seq ?_
  refine T.region ?_
  refine Run.go (Ev.move rfl rfl) ?_
  refine Run.go (Ev.move rfl rfl) ?_
  rcases boolCases p0 with hb3 | hb3
  · replace h := ifT hb3 h
    refine Run.on rfl rfl rfl hb3 (Ev.move rfl rfl) ?_
    refine Run.on rfl rfl rfl hb3 (Ev.len X rfl rfl rfl rfl) ?_
    refine Run.on rfl rfl rfl hb3 (Ev.int rfl rfl rfl rfl trivial) ?_
    refine Run.go (Ev.pickT rfl hb3 rfl rfl) ?_
    refine Run.go (Ev.move rfl rfl) ?_
    refine Run.go (Ev.struct X pl56 rfl rfl rfl rfl rfl rfl rfl rfl) ?_
    refine Run.do_ (Ev.storeBox X rfl rfl rfl rfl rfl rfl rfl) ?_
    refine Run.nil ?_
    refine T.ret ?_
    cases h
    exact Fin.cell X rfl rfl rfl rfl rfl
  · replace h := ifF hb3 h
    refine Run.offT rfl rfl rfl rfl hb3 ?_
    refine Run.offT rfl rfl rfl rfl hb3 ?_
    refine Run.offT rfl rfl rfl rfl hb3 ?_
    refine Run.go (Ev.pickF rfl hb3 rfl rfl) ?_
    refine Run.go (Ev.move rfl rfl) ?_
    refine Run.go (Ev.struct X pl56 rfl rfl rfl rfl rfl rfl rfl rfl) ?_
    refine Run.do_ (Ev.storeBox X rfl rfl rfl rfl rfl rfl rfl) ?_
    refine Run.nil ?_
    refine T.ret ?_
    cases h
    exact Fin.cell X rfl rfl rfl rfl rfl
theorem en103 : Enters Tryz.prog 103 := ⟨_, Tryz.func103, rfl, rfl⟩
theorem k_whole_Of {p0 : Int} {y : D_api_Int} (h : m_whole_Of p0 = some y) : Spec Tryz.prog 103 [(.v (.int .i64) p0)] (.v Y_api_Int y) [] := by
  rw [m_whole_Of] at h
  refine enterN [(.v (.int .i64) p0)] 17 Tryz.func103 rfl rfl rfl ?_
  refine T.seq ?_
  refine T.region ?_
  refine Run.go (Ev.allocN X 1 rfl rfl rfl) ?_
  refine Run.nil ?_
  refine T.seq ?_
  refine T.seq ?_
  refine T.region ?_
  refine Run.go (Ev.move rfl rfl) ?_
  refine Run.go (Ev.int rfl rfl rfl rfl trivial) ?_
  refine Run.nil ?_
  refine T.cond rfl (fun hb1 => ?_) (fun hb1 => ?_)
  · replace h := ifT hb1 h
    refine T.seq ?_
    refine T.region ?_
    refine Run.go (Ev.move rfl rfl) ?_
    refine Run.go (Ev.int rfl rfl rfl rfl trivial) ?_
    refine Run.go (Ev.neg rfl rfl) ?_
    refine Run.go (Ev.conv X rfl rfl rfl rfl) ?_
    obtain ⟨x2, e3, h⟩ := bdS h
    refine Run.go (Ev.callC en115 (k_nat_Of e3) rfl (.cons .v .nil) rfl rfl) ?_
    obtain ⟨x4, e5, h⟩ := bdS h
    refine Run.go (Ev.callC en115 (k_nat_Of e5) rfl (.cons .v .nil) rfl rfl) ?_
    obtain ⟨x6, e7, h⟩ := bdS h
    refine Run.go (Ev.callC en118 (k_nat_Add e7) rfl (.cons .v (.cons .v .nil)) rfl rfl) ?_
    obtain ⟨x8, e9, h⟩ := bdS h
    refine Run.go (Ev.callC en116 (k_whole_Made e9) rfl (.cons .v (.cons .v .nil)) rfl rfl) ?_
    refine Run.do_ (Ev.storeBox X rfl rfl rfl rfl rfl rfl rfl) ?_
    refine Run.nil ?_
    refine T.ret ?_
    cases h
    exact Fin.cell X rfl rfl rfl rfl rfl
  · replace h := ifF hb1 h
    refine T.skip ?_
    refine T.seq ?_
    refine T.region ?_
    refine Run.go (Ev.move rfl rfl) ?_
    refine Run.go (Ev.conv X rfl rfl rfl rfl) ?_
    obtain ⟨x10, e11, h⟩ := bdS h
    refine Run.go (Ev.callC en115 (k_nat_Of e11) rfl (.cons .v .nil) rfl rfl) ?_
    obtain ⟨x12, e13, h⟩ := bdS h
    refine Run.go (Ev.callC en116 (k_whole_Made e13) rfl (.cons .v (.cons .v .nil)) rfl rfl) ?_
    refine Run.do_ (Ev.storeBox X rfl rfl rfl rfl rfl rfl rfl) ?_
    refine Run.nil ?_
    refine T.ret ?_
    cases h
    exact Fin.cell X rfl rfl rfl rfl rfl
theorem en104 : Enters Tryz.prog 104 := ⟨_, Tryz.func104, rfl, rfl⟩
theorem k_rat_one  {y : (List Int)} (h : m_rat_one  = some y) : Spec Tryz.prog 104 [] (.v (.sl (.int .u64)) y) [] := by
  rw [m_rat_one] at h
  refine enterN [] 2 Tryz.func104 rfl rfl rfl ?_
  refine T.seq ?_
  refine T.region ?_
  refine Run.go (Ev.assign rfl rfl) ?_
  refine Run.nil ?_
  refine T.seq ?_
  refine T.region ?_
  obtain ⟨x1, e2, h⟩ := bdS h
  refine Run.go (Ev.callC en115 (k_nat_Of e2) rfl (.cons .v .nil) rfl rfl) ?_
  refine Run.go (Ev.assign rfl rfl) ?_
  refine Run.nil ?_
  refine T.ret ?_
  cases h
  exact Fin.one rfl .v
theorem en78 : Enters Tryz.prog 78 := ⟨_, Tryz.func78, rfl, rfl⟩
theorem k_rat_Of {p0 : Int} {y : D_api_Rat} (h : m_rat_Of p0 = some y) : Spec Tryz.prog 78 [(.v (.int .i64) p0)] (.v Y_api_Rat y) [] := by
  rw [m_rat_Of] at h
  refine enterN [(.v (.int .i64) p0)] 7 Tryz.func78 rfl rfl rfl ?_
  refine T.seq ?_
  refine T.region ?_
  refine Run.go (Ev.allocN X 1 rfl rfl rfl) ?_
  refine Run.nil ?_
  refine T.seq ?_
  refine T.region ?_
  refine Run.go (Ev.move rfl rfl) ?_
  obtain ⟨x1, e2, h⟩ := bdS h
  refine Run.go (Ev.callC en103 (k_whole_Of e2) rfl (.cons .v .nil) rfl rfl) ?_
  obtain ⟨x3, e4, h⟩ := bdS h
  refine Run.go (Ev.callC en104 (k_rat_one e4) rfl .nil rfl rfl) ?_
  refine Run.go (Ev.struct X pl58 rfl rfl rfl rfl rfl rfl rfl rfl) ?_
  refine Run.do_ (Ev.storeBox X rfl rfl rfl rfl rfl rfl rfl) ?_
  refine Run.nil ?_
  refine T.ret ?_
  cases h
  exact Fin.cell X rfl rfl rfl rfl rfl
theorem en102 : Enters Tryz.prog 102 := ⟨_, Tryz.func102, rfl, rfl⟩
theorem k_rat_up {p0 : D_api_Rat} {y : D_api_Int} (h : m_rat_up p0 = some y) : Spec Tryz.prog 102 [(.v Y_api_Rat p0)] (.v Y_api_Int y) [] := by
  rw [m_rat_up] at h
  refine enterN [(.v Y_api_Rat p0)] 6 Tryz.func102 rfl rfl rfl ?_
  refine T.seq ?_
  refine T.region ?_
  refine Run.go (Ev.box 1 rfl rfl rfl rfl) ?_
  refine Run.go (Ev.allocN X 2 rfl rfl rfl) ?_
  refine Run.nil ?_
  refine T.seq ?_
  refine T.region ?_
  refine Run.go (Ev.fieldBox X rfl rfl rfl rfl rfl) ?_
  refine Run.go (Ev.loadCell X rfl rfl rfl rfl rfl rfl) ?_
  obtain ⟨x1, e2, h⟩ := bdS h
  refine Run.go (Ev.callC en116 (k_whole_Made e2) rfl (.cons .v (.cons .v .nil)) rfl rfl) ?_
  refine Run.do_ (Ev.storeBox X rfl rfl rfl rfl rfl rfl rfl) ?_
  refine Run.nil ?_
  refine T.ret ?_
  cases h
  exact Fin.cell X rfl rfl rfl rfl rfl
theorem en138 : Enters Tryz.prog 138 := ⟨_, Tryz.func138, rfl, rfl⟩
theorem k_limb_Mul {p0 : Int} {p1 : Int} {p2 : Int} {p3 : Int} {y : Int × Int} (h : m_limb_Mul p0 p1 p2 p3 = some y) : Spec Tryz.prog 138 [(.v (.int .u64) p0), (.v (.int .u64) p1), (.v (.int .u64) p2), (.v (.int .u64) p3)] (.tup [.v (.int .u64) y.1, .v (.int .u64) y.2]) [] := by
  rw [m_limb_Mul] at h
  refine enterN [(.v (.int .u64) p0), (.v (.int .u64) p1), (.v (.int .u64) p2), (.v (.int .u64) p3)] 26 Tryz.func138 rfl rfl rfl ?_
  refine T.seq ?_
  refine T.region ?_
  refine Run.go (Ev.assign rfl rfl) ?_
  refine Run.go (Ev.assign rfl rfl) ?_
  refine Run.nil ?_
  refine T.seq ?_
  refine T.region ?_
  refine Run.go (Ev.move rfl rfl) ?_
  refine Run.go (Ev.int rfl rfl rfl rfl trivial) ?_
  refine Run.go (Ev.move rfl rfl) ?_
  refine Run.go (Ev.int rfl rfl rfl rfl trivial) ?_
  refine Run.go (Ev.int rfl rfl rfl rfl trivial) ?_
  refine Run.go (Ev.move rfl rfl) ?_
  refine Run.go (Ev.int rfl rfl rfl rfl trivial) ?_
  refine Run.go (Ev.int rfl rfl rfl rfl trivial) ?_
  refine Run.go (Ev.move rfl rfl) ?_
  refine Run.go (Ev.int rfl rfl rfl rfl trivial) ?_
  refine Run.go (Ev.int rfl rfl rfl rfl trivial) ?_
  obtain ⟨x1, e2, h⟩ := ltS h
  refine Run.go (Ev.avs (Ev.assign rfl rfl) e2) ?_
  refine Run.nil ?_
  refine T.seq ?_
  refine T.region ?_
  refine Run.go (Ev.move rfl rfl) ?_
  refine Run.go (Ev.int rfl rfl rfl rfl trivial) ?_
  refine Run.go (Ev.move rfl rfl) ?_
  obtain ⟨x3, e4, h⟩ := bdS h
  refine Run.go (Ev.e_sr e4 rfl rfl rfl) ?_
  refine Run.go (Ev.assign rfl rfl) ?_
  refine Run.go (Ev.assign rfl rfl) ?_
  refine Run.nil ?_
  refine T.ret ?_
  cases h
  exact Fin.many X rfl (.cons (.tmp .v) (.cons (.tmp .v) .nil)) rfl
theorem en139 : Enters Tryz.prog 139 := ⟨_, Tryz.func139, rfl, rfl⟩
theorem k_mul_made {p0 : (List Int)} {y : (List Int)} (h : m_mul_made p0 = some y) : Spec Tryz.prog 139 [(.v (.sl (.int .u64)) p0)] (.v (.sl (.int .u64)) y) [] := by
  rw [m_mul_made] at h
  refine enterN [(.v (.sl (.int .u64)) p0)] 11 Tryz.func139 rfl rfl rfl ?_
  refine T.seq ?_
  refine T.region ?_
  refine Run.go (Ev.assign rfl rfl) ?_
  refine Run.nil ?_
  refine T.seq ?_
  refine T.region ?_
  refine Run.go (Ev.move rfl rfl) ?_
  obtain ⟨x1, e2, h⟩ := bdS h
  refine Run.go (Ev.callC en123 (k_nat_Make e2) rfl (.cons .v .nil) rfl rfl) ?_
  refine Run.go (Ev.move rfl rfl) ?_
  refine Run.go (Ev.extract rfl rfl rfl) ?_
  refine Run.go (Ev.extract rfl rfl rfl) ?_
  refine Run.go (Ev.assign rfl rfl) ?_
  refine Run.go (Ev.assign rfl rfl) ?_
  refine Run.nil ?_
  refine T.seq ?_
  refine T.region ?_
  refine Run.go (Ev.move rfl rfl) ?_
  refine Run.go (Ev.assign rfl rfl) ?_
  refine Run.nil ?_
  refine T.ret ?_
  cases h
  exact Fin.one rfl .v
theorem en131 : Enters Tryz.prog 131 := ⟨_, Tryz.func131, rfl, rfl⟩
theorem k_mul_Long {p0 : (List Int)} {p1 : (List Int)} {y : (List Int)} (h : m_mul_Long p0 p1 = some y) : Spec Tryz.prog 131 [(.v (.sl (.int .u64)) p0), (.v (.sl (.int .u64)) p1)] (.v (.sl (.int .u64)) y) [] := by
  rw [m_mul_Long] at h
  refine enterN [(.v (.sl (.int .u64)) p0), (.v (.sl (.int .u64)) p1)] 60 Tryz.func131 rfl rfl rfl ?_
  refine T.seq ?_
  refine T.region ?_
  refine Run.go (Ev.assign rfl rfl) ?_
  refine Run.nil ?_
  refine T.seq ?_
  refine T.region ?_
  refine Run.go (Ev.move rfl rfl) ?_
  refine Run.go (Ev.len X rfl rfl rfl rfl) ?_
  refine Run.go (Ev.move rfl rfl) ?_
  refine Run.go (Ev.len X rfl rfl rfl rfl) ?_
  refine Run.go (Ev.int rfl rfl rfl rfl trivial) ?_
  obtain ⟨x1, e2, h⟩ := bdS h
  refine Run.go (Ev.e_mk X 1 e2 rfl rfl rfl rfl rfl rfl) ?_
  refine Run.go (Ev.assign rfl rfl) ?_
  refine Run.nil ?_
  obtain ⟨v3, hv, h⟩ := bdS h
  refine T.cut (fun _ : Unit => (⟨[(5, .own 1)], [(1, .arr 81 (.int .u64) v3)], 60⟩ : St)) (fun _ => True) ?_ (fun _ _ => ?_)
  · replace h := hv
    clear hv
    refine T.seq ?_
    refine T.region ?_
    refine Run.go (Ev.move rfl rfl) ?_
    refine Run.go (Ev.len X rfl rfl rfl rfl) ?_
    refine Run.go (Ev.move rfl rfl) ?_
    refine Run.nil ?_
    refine T.block ?_
    refine T.loop (LoopT.ghost (Ghost.only [(1, 1)] [1, 5, 17, 18, 19] rfl) (LoopT.run (fun q : Int × (List Int) => (⟨[(1, .v (.sl (.int .u64)) p1), (5, .own 1), (17, .v (.sl (.int .u64)) p0), (18, .v (.int .i64) ((p0.length : Int) : Int)), (19, .v (.int .i64) q.1)], [(1, .arr 81 (.int .u64) q.2)], 60⟩ : St)) (fun q z1 h hz1 => ?_) h))
    obtain ⟨v4, v5⟩ := q
    dsimp only
    rw [m_mul_Long_l1] at h
    refine T.seq ?_
    refine T.region ?_
    refine Run.go (Ev.int rfl rfl rfl rfl trivial) ?_
    refine Run.nil ?_
    refine T.seq ?_
    refine T.cond rfl (fun hb6 => ?_) (fun hb6 => ?_)
    · replace h := ifT hb6 h
      refine T.skip ?_
      obtain ⟨v7, hv, h⟩ := bdS h
      refine T.cut (fun _ : Unit => (⟨[(1, .v (.sl (.int .u64)) p1), (5, .own 1), (17, .v (.sl (.int .u64)) p0), (18, .v (.int .i64) ((p0.length : Int) : Int)), (19, .v (.int .i64) v4)], [(1, .arr 81 (.int .u64) v7)], 60⟩ : St)) (fun _ => True) ?_ (fun _ _ => ?_)
      · replace h := hv
        clear hv
        refine T.block ?_
        refine T.seq ?_
        refine T.region ?_
        refine Run.go (Ev.move rfl rfl) ?_
        obtain ⟨x8, e9, h⟩ := bdS h
        refine Run.go (Ev.e_rd X e9 rfl rfl rfl rfl) ?_
        refine Run.go (Ev.load X rfl rfl rfl) ?_
        refine Run.go (Ev.assign rfl rfl) ?_
        refine Run.go (Ev.assign rfl rfl) ?_
        refine Run.nil ?_
        refine T.seq ?_
        refine T.region ?_
        refine Run.go (Ev.assign rfl rfl) ?_
        refine Run.nil ?_
        obtain ⟨⟨v10, v11⟩, hv, h⟩ := bdS h
        refine T.cut (fun _ : Unit => (⟨[(1, .v (.sl (.int .u64)) p1), (5, .own 1), (6, .v (.int .i64) v4), (8, .v (.int .u64) v10), (17, .v (.sl (.int .u64)) p0), (18, .v (.int .i64) ((p0.length : Int) : Int)), (19, .v (.int .i64) v4)], [(1, .arr 81 (.int .u64) v11)], 60⟩ : St)) (fun _ => True) ?_ (fun _ _ => ?_)
        · replace h := hv
          clear hv
          refine T.seq ?_
          refine T.region ?_
          refine Run.go (Ev.move rfl rfl) ?_
          refine Run.go (Ev.len X rfl rfl rfl rfl) ?_
          refine Run.go (Ev.move rfl rfl) ?_
          refine Run.nil ?_
          refine T.block ?_
          refine T.loop (LoopT.ghost (Ghost.only [(1, 1)] [1, 5, 6, 7, 8, 17, 18, 19, 24, 25, 26] rfl) (LoopT.run (fun q : Int × Int × (List Int) => (⟨[(1, .v (.sl (.int .u64)) p1), (5, .own 1), (6, .v (.int .i64) v4), (7, .v (.int .u64) x8), (8, .v (.int .u64) q.1), (17, .v (.sl (.int .u64)) p0), (18, .v (.int .i64) ((p0.length : Int) : Int)), (19, .v (.int .i64) v4), (24, .v (.sl (.int .u64)) p1), (25, .v (.int .i64) ((p1.length : Int) : Int)), (26, .v (.int .i64) q.2.1)], [(1, .arr 81 (.int .u64) q.2.2)], 60⟩ : St)) (fun q z2 h hz2 => ?_) h))
          obtain ⟨v12, v13, v14⟩ := q
          dsimp only
          rw [m_mul_Long_l2] at h
          refine T.seq ?_
          refine T.region ?_
          refine Run.go (Ev.int rfl rfl rfl rfl trivial) ?_
          refine Run.nil ?_
          refine T.seq ?_
          refine T.cond rfl (fun hb15 => ?_) (fun hb15 => ?_)
          · replace h := ifT hb15 h
            refine T.skip ?_
            refine T.seq ?_
            refine T.block ?_
            refine T.seq ?_
            refine T.region ?_
            refine Run.go (Ev.move rfl rfl) ?_
            obtain ⟨x16, e17, h⟩ := bdS h
            refine Run.go (Ev.e_rd X e17 rfl rfl rfl rfl) ?_
            refine Run.go (Ev.load X rfl rfl rfl) ?_
            refine Run.go (Ev.assign rfl rfl) ?_
            refine Run.go (Ev.assign rfl rfl) ?_
            refine Run.nil ?_
            refine T.region ?_
            refine Run.go (Ev.move rfl rfl) ?_
            refine Run.go (Ev.move rfl rfl) ?_
            refine Run.go (Ev.move rfl rfl) ?_
            refine Run.go (Ev.int rfl rfl rfl rfl trivial) ?_
            refine Run.go (Ev.move rfl rfl) ?_
            refine Run.go (Ev.move rfl rfl) ?_
            refine Run.go (Ev.move rfl rfl) ?_
            refine Run.go (Ev.move rfl rfl) ?_
            refine Run.go (Ev.move rfl rfl) ?_
            refine Run.go (Ev.int rfl rfl rfl rfl trivial) ?_
            obtain ⟨x18, e19, h⟩ := bdS h
            refine Run.go (Ev.e_rdO X e19 rfl rfl rfl rfl rfl) ?_
            refine Run.go (Ev.e_ldO X (rdS e19).2 rfl rfl rfl rfl) ?_
            refine Run.go (Ev.move rfl rfl) ?_
            obtain ⟨x20, e21, h⟩ := bdS h
            refine Run.go (Ev.callC en138 (k_limb_Mul e21) rfl (.cons .v (.cons .v (.cons .v (.cons .v .nil)))) rfl rfl) ?_
            refine Run.go (Ev.move rfl rfl) ?_
            refine Run.go (Ev.extract rfl rfl rfl) ?_
            refine Run.go (Ev.extract rfl rfl rfl) ?_
            obtain ⟨j22, e23, h⟩ := bdS h
            refine Run.go (Ev.e_ixO X e23 rfl rfl rfl rfl rfl) ?_
            obtain ⟨x24, e25, h⟩ := ltS h
            refine Run.do_ (Ev.asO (Ev.storeEl X rfl rfl rfl rfl rfl) e25) ?_
            refine Run.go (Ev.assign rfl rfl) ?_
            refine Run.nil ?_
            refine T.region ?_
            refine Run.go (Ev.int rfl rfl rfl rfl trivial) ?_
            refine Run.go (Ev.move rfl rfl) ?_
            refine Run.nil ?_
            cases h
            exact LoopT.ghost (Ghost.only [(1, 1)] [1, 5, 6, 7, 8, 17, 18, 19, 24, 25, 26] rfl) hz2
          · replace h := ifF hb15 h
            refine T.exit ?_
            cases h
            cases hz2
            exact ⟨(), trivial, Ghost.only [(1, 1)] [1, 5, 6, 8, 17, 18, 19] rfl⟩
        · refine T.region ?_
          refine Run.go (Ev.move rfl rfl) ?_
          refine Run.go (Ev.move rfl rfl) ?_
          refine Run.go (Ev.move rfl rfl) ?_
          refine Run.go (Ev.len X rfl rfl rfl rfl) ?_
          refine Run.go (Ev.int rfl rfl rfl rfl trivial) ?_
          refine Run.go (Ev.move rfl rfl) ?_
          obtain ⟨j26, e27, h⟩ := bdS h
          refine Run.go (Ev.e_ixO X e27 rfl rfl rfl rfl rfl) ?_
          obtain ⟨x28, e29, h⟩ := ltS h
          refine Run.do_ (Ev.asO (Ev.storeEl X rfl rfl rfl rfl rfl) e29) ?_
          refine Run.nil ?_
          cases h
          exact ⟨(), trivial, Ghost.only [(1, 1)] [1, 5, 17, 18, 19] rfl⟩
      · refine T.region ?_
        refine Run.go (Ev.int rfl rfl rfl rfl trivial) ?_
        refine Run.go (Ev.move rfl rfl) ?_
        refine Run.nil ?_
        cases h
        exact LoopT.ghost (Ghost.only [(1, 1)] [1, 5, 17, 18, 19] rfl) hz1
    · replace h := ifF hb6 h
      refine T.exit ?_
      cases h
      cases hz1
      exact ⟨(), trivial, Ghost.only [(1, 1)] [5] rfl⟩
  · refine T.seq ?_
    refine T.region ?_
    refine Run.go (Ev.move rfl rfl) ?_
    refine Run.ghost (Ghost.firmAll (id := 1) rfl) ?_
    obtain ⟨x30, e31, h⟩ := bdS h
    refine Run.go (Ev.callC en139 (k_mul_made e31) rfl (.cons .v .nil) rfl rfl) ?_
    refine Run.go (Ev.assign rfl rfl) ?_
    refine Run.nil ?_
    refine T.ret ?_
    cases h
    exact Fin.one rfl .v
theorem en132 : Enters Tryz.prog 132 := ⟨_, Tryz.func132, rfl, rfl⟩
theorem k_mul_cut {p0 : (List Int)} {p1 : Int} {y : (List Int) × (List Int)} (h : m_mul_cut p0 p1 = some y) : Spec Tryz.prog 132 [(.v (.sl (.int .u64)) p0), (.v (.int .i64) p1)] (.tup [.v (.sl (.int .u64)) y.1, .v (.sl (.int .u64)) y.2]) [] := by
  rw [m_mul_cut] at h
  refine enterN [(.v (.sl (.int .u64)) p0), (.v (.int .i64) p1)] 18 Tryz.func132 rfl rfl rfl ?_
  refine T.seq ?_
  refine T.region ?_
  refine Run.go (Ev.assign rfl rfl) ?_
  refine Run.go (Ev.assign rfl rfl) ?_
  refine Run.nil ?_
  refine T.seq ?_
  refine T.region ?_
  refine Run.go (Ev.move rfl rfl) ?_
  refine Run.go (Ev.move rfl rfl) ?_
  refine Run.go (Ev.len X rfl rfl rfl rfl) ?_
  refine Run.go (Ev.min rfl rfl rfl) ?_
  refine Run.go (Ev.assign rfl rfl) ?_
  refine Run.nil ?_
  refine T.seq ?_
  refine T.drawM [] [0, 0, 3, 7, 0, 0, 48, 127, 255, 511] (by kernel_rfl) (by kernel_rfl) ?_
  refine RunD.w (fun _ => Ev.move rfl rfl) ?_
  refine RunD.w (fun _ => Ev.move rfl rfl) ?_
  obtain ⟨x1, e2, h⟩ := bdS h
  refine RunD.a rfl rfl (Ev.e_ct X e2 rfl rfl rfl (fun _ h => by cases h) (fun _ => rfl) (fun _ _ => cutAt_of rfl) (fun h => by cases h)) ?_
  obtain ⟨x3, e4, h⟩ := bdS h
  refine RunD.a rfl rfl (Ev.callC en139 (k_mul_made e4) rfl (.cons .v .nil) rfl rfl) ?_
  refine RunD.w (fun _ => Ev.move rfl rfl) ?_
  refine RunD.w (fun _ => Ev.move rfl rfl) ?_
  obtain ⟨x5, e6, h⟩ := bdS h
  refine RunD.a rfl rfl (Ev.e_ct X e6 rfl rfl rfl (fun _ _ => cutAt_of rfl) (fun h => by cases h) (fun _ h => by cases h) (fun _ => rfl)) ?_
  obtain ⟨x7, e8, h⟩ := bdS h
  refine RunD.a rfl rfl (Ev.callC en139 (k_mul_made e8) rfl (.cons .v .nil) rfl rfl) ?_
  refine RunD.w (fun _ => Ev.assign rfl rfl) ?_
  refine RunD.w (fun _ => Ev.assign rfl rfl) ?_
  refine RunD.nil ?_
  refine T.ret ?_
  cases h
  exact Fin.many X rfl (.cons (.tmp .v) (.cons (.tmp .v) .nil)) rfl
theorem en140 : Enters Tryz.prog 140 := ⟨_, Tryz.func140, rfl, rfl⟩
theorem k_limb_Sub {p0 : Int} {p1 : Int} {p2 : Int} {y : Int × Int} (h : m_limb_Sub p0 p1 p2 = some y) : Spec Tryz.prog 140 [(.v (.int .u64) p0), (.v (.int .u64) p1), (.v (.int .u64) p2)] (.tup [.v (.int .u64) y.1, .v (.int .u64) y.2]) [] := by
  rw [m_limb_Sub] at h
  refine enterN [(.v (.int .u64) p0), (.v (.int .u64) p1), (.v (.int .u64) p2)] 33 Tryz.func140 rfl rfl rfl ?_
  refine T.seq ?_
  refine T.region ?_
  refine Run.go (Ev.assign rfl rfl) ?_
  refine Run.go (Ev.assign rfl rfl) ?_
  refine Run.nil ?_
  refine T.seq ?_
  refine T.region ?_
  refine Run.go (Ev.move rfl rfl) ?_
  refine Run.go (Ev.int rfl rfl rfl rfl trivial) ?_
  refine Run.go (Ev.move rfl rfl) ?_
  refine Run.go (Ev.int rfl rfl rfl rfl trivial) ?_
  refine Run.go (Ev.move rfl rfl) ?_
  refine Run.go (Ev.int rfl rfl rfl rfl trivial) ?_
  refine Run.go (Ev.int rfl rfl rfl rfl trivial) ?_
  refine Run.go (Ev.assign rfl rfl) ?_
  obtain ⟨x1, e2, h⟩ := ltS h
  refine Run.go (Ev.avs (Ev.assign rfl rfl) e2) ?_
  refine Run.nil ?_
  refine T.seq ?_
  refine T.region ?_
  refine Run.go (Ev.assign rfl rfl) ?_
  refine Run.nil ?_
  obtain ⟨v3, hv, h⟩ := bdS h
  refine T.cut (fun _ : Unit => (⟨[(8, .v (.int .u64) (Go.bits .and .u64 p0 4294967295 : Int)), (9, .v (.int .u64) x1), (10, .v (.int .u64) v3)], [], 33⟩ : St)) (fun _ => True) ?_ (fun _ _ => ?_)
  · replace h := hv
    clear hv
    refine T.seq ?_
    refine T.region ?_
    refine Run.go (Ev.move rfl rfl) ?_
    refine Run.go (Ev.move rfl rfl) ?_
    refine Run.go (Ev.int rfl rfl rfl rfl trivial) ?_
    refine Run.nil ?_
    refine T.cond rfl (fun hb4 => ?_) (fun hb4 => ?_)
    · replace h := ifT hb4 h
      refine T.region ?_
      refine Run.go (Ev.move rfl rfl) ?_
      refine Run.go (Ev.move rfl rfl) ?_
      refine Run.go (Ev.int rfl rfl rfl rfl trivial) ?_
      refine Run.go (Ev.int rfl rfl rfl rfl trivial) ?_
      obtain ⟨x5, e6, h⟩ := bdS h
      refine Run.go (Ev.e_sr e6 rfl rfl rfl) ?_
      refine Run.go (Ev.assign rfl rfl) ?_
      refine Run.nil ?_
      cases h
      exact ⟨(), trivial, Ghost.only [] [8, 9, 10] rfl⟩
    · replace h := ifF hb4 h
      refine T.skip ?_
      cases h
      exact ⟨(), trivial, Ghost.only [] [8, 9, 10] rfl⟩
  · refine T.seq ?_
    refine T.region ?_
    refine Run.go (Ev.move rfl rfl) ?_
    refine Run.go (Ev.move rfl rfl) ?_
    obtain ⟨x7, e8, h⟩ := bdS h
    refine Run.go (Ev.e_sh e8 rfl rfl rfl) ?_
    refine Run.go (Ev.int rfl rfl rfl rfl trivial) ?_
    refine Run.go (Ev.move rfl rfl) ?_
    refine Run.go (Ev.int rfl rfl rfl rfl trivial) ?_
    refine Run.go (Ev.move rfl rfl) ?_
    obtain ⟨x9, e10, h⟩ := ltS h
    refine Run.go (Ev.avs (Ev.assign rfl rfl) e10) ?_
    refine Run.go (Ev.assign rfl rfl) ?_
    refine Run.nil ?_
    refine T.ret ?_
    cases h
    exact Fin.many X rfl (.cons (.tmp .v) (.cons (.tmp .v) .nil)) rfl
theorem en133 : Enters Tryz.prog 133 := ⟨_, Tryz.func133, rfl, rfl⟩
theorem k_nat_Sub {p0 : (List Int)} {p1 : (List Int)} {y : (List Int) × Int} (h : m_nat_Sub p0 p1 = some y) : Spec Tryz.prog 133 [(.v (.sl (.int .u64)) p0), (.v (.sl (.int .u64)) p1)] (.tup [.v (.sl (.int .u64)) y.1, .v (.int .i64) y.2]) [] := by
  rw [m_nat_Sub] at h
  refine enterN [(.v (.sl (.int .u64)) p0), (.v (.sl (.int .u64)) p1)] 39 Tryz.func133 rfl rfl rfl ?_
  refine T.seq ?_
  refine T.region ?_
  refine Run.go (Ev.assign rfl rfl) ?_
  refine Run.go (Ev.assign rfl rfl) ?_
  refine Run.nil ?_
  refine T.seq ?_
  refine T.seq ?_
  refine T.region ?_
  refine Run.go (Ev.move rfl rfl) ?_
  refine Run.go (Ev.move rfl rfl) ?_
  obtain ⟨x1, e2, h⟩ := bdS h
  refine Run.go (Ev.callC en113 (k_nat_Cmp e2) rfl (.cons .v (.cons .v .nil)) rfl rfl) ?_
  refine Run.go (Ev.int rfl rfl rfl rfl trivial) ?_
  refine Run.nil ?_
  refine T.cond rfl (fun hb3 => ?_) (fun hb3 => ?_)
  · replace h := ifT hb3 h
    refine T.seq ?_
    refine T.region ?_
    refine Run.go (Ev.assign rfl rfl) ?_
    refine Run.go (Ev.assign rfl rfl) ?_
    refine Run.nil ?_
    refine T.ret ?_
    cases h
    exact Fin.many X rfl (.cons (.tmp .nilv) (.cons (.tmp .v) .nil)) rfl
  · replace h := ifF hb3 h
    refine T.skip ?_
    refine T.seq ?_
    refine T.region ?_
    refine Run.go (Ev.move rfl rfl) ?_
    refine Run.go (Ev.len X rfl rfl rfl rfl) ?_
    obtain ⟨x4, e5, h⟩ := bdS h
    refine Run.go (Ev.e_mk X 1 e5 rfl rfl rfl rfl rfl rfl) ?_
    refine Run.go (Ev.assign rfl rfl) ?_
    refine Run.nil ?_
    refine T.seq ?_
    refine T.region ?_
    refine Run.go (Ev.assign rfl rfl) ?_
    refine Run.nil ?_
    obtain ⟨v6, hv, h⟩ := bdS h
    refine T.cut (fun _ : Unit => (⟨[(6, .own 1)], [(1, .arr 81 (.int .u64) v6)], 39⟩ : St)) (fun _ => True) ?_ (fun _ _ => ?_)
    · replace h := hv
      clear hv
      refine T.seq ?_
      refine T.region ?_
      refine Run.go (Ev.move rfl rfl) ?_
      refine Run.go (Ev.e_lenO X rfl rfl rfl rfl) ?_
      refine Run.go (Ev.move rfl rfl) ?_
      refine Run.nil ?_
      refine T.block ?_
      refine T.loop (LoopT.ghost (Ghost.only [(1, 1)] [0, 1, 6, 7, 17, 18] rfl) (LoopT.run (fun q : Int × Int × (List Int) => (⟨[(0, .v (.sl (.int .u64)) p0), (1, .v (.sl (.int .u64)) p1), (6, .own 1), (7, .v (.int .u64) q.1), (17, .v (.int .i64) ((x4.length : Int) : Int)), (18, .v (.int .i64) q.2.1)], [(1, .arr 81 (.int .u64) q.2.2)], 39⟩ : St)) (fun q z1 h hz1 => ?_) h))
      obtain ⟨v7, v8, v9⟩ := q
      dsimp only
      rw [m_nat_Sub_l1] at h
      refine T.seq ?_
      refine T.region ?_
      refine Run.go (Ev.int rfl rfl rfl rfl trivial) ?_
      refine Run.nil ?_
      refine T.seq ?_
      refine T.cond rfl (fun hb10 => ?_) (fun hb10 => ?_)
      · replace h := ifT hb10 h
        refine T.skip ?_
        refine T.seq ?_
        refine T.block ?_
        refine T.seq ?_
        refine T.region ?_
        refine Run.go (Ev.move rfl rfl) ?_
        refine Run.go (Ev.assign rfl rfl) ?_
        refine Run.nil ?_
        refine T.drawM [15] [0, 0, 0, 0, 12, 28, 0, 0, 192, 0, 1020, 2044, 4092, 4092, 8191, 24575, 65535] (by kernel_rfl) (by kernel_rfl) ?_
        refine RunD.w (fun _ => Ev.move rfl rfl) ?_
        refine RunD.w (fun _ => Ev.move rfl rfl) ?_
        refine RunD.w (fun _ => Ev.move rfl rfl) ?_
        refine RunD.w (fun _ => Ev.move rfl rfl) ?_
        obtain ⟨x11, e12, h⟩ := bdS h
        refine RunD.a rfl rfl (Ev.e_rd X e12 rfl rfl rfl rfl) ?_
        refine RunD.a rfl rfl (Ev.load X rfl rfl rfl) ?_
        refine RunD.w (fun _ => Ev.move rfl rfl) ?_
        refine RunD.w (fun _ => Ev.move rfl rfl) ?_
        obtain ⟨x13, e14, h⟩ := bdS h
        refine RunD.a rfl rfl (Ev.callC en128 (k_nat_at e14) rfl (.cons .v (.cons .v .nil)) rfl rfl) ?_
        refine RunD.w (fun _ => Ev.move rfl rfl) ?_
        obtain ⟨x15, e16, h⟩ := bdS h
        refine RunD.a rfl rfl (Ev.callC en140 (k_limb_Sub e16) rfl (.cons .v (.cons .v (.cons .v .nil))) rfl rfl) ?_
        refine RunD.w (fun _ => Ev.move rfl rfl) ?_
        refine RunD.w (fun _ => Ev.extract rfl rfl rfl) ?_
        refine RunD.w (fun _ => Ev.extract rfl rfl rfl) ?_
        obtain ⟨j17, e18, h⟩ := bdS h
        refine RunD.a rfl rfl (Ev.e_ixO X e18 rfl rfl rfl rfl rfl) ?_
        obtain ⟨x19, e20, h⟩ := ltS h
        refine RunD.mN rfl (Ev.asO (Ev.storeEl X rfl rfl rfl rfl rfl) e20) ?_
        refine RunD.w (fun _ => Ev.assign rfl rfl) ?_
        refine RunD.nil ?_
        refine T.region ?_
        refine Run.go (Ev.int rfl rfl rfl rfl trivial) ?_
        refine Run.go (Ev.move rfl rfl) ?_
        refine Run.nil ?_
        cases h
        exact LoopT.ghost (Ghost.only [(1, 1)] [0, 1, 6, 7, 17, 18] rfl) hz1
      · replace h := ifF hb10 h
        refine T.exit ?_
        cases h
        cases hz1
        exact ⟨(), trivial, Ghost.only [(1, 1)] [6] rfl⟩
    · refine T.seq ?_
      refine T.region ?_
      refine Run.go (Ev.move rfl rfl) ?_
      refine Run.ghost (Ghost.firmAll (id := 1) rfl) ?_
      obtain ⟨x21, e22, h⟩ := bdS h
      refine Run.go (Ev.callC en125 (k_nat_trim e22) rfl (.cons .v .nil) rfl rfl) ?_
      refine Run.go (Ev.assign rfl rfl) ?_
      refine Run.go (Ev.assign rfl rfl) ?_
      refine Run.nil ?_
      refine T.ret ?_
      cases h
      exact Fin.many X rfl (.cons (.tmp .v) (.cons (.tmp .v) .nil)) rfl
theorem en135 : Enters Tryz.prog 135 := ⟨_, Tryz.func135, rfl, rfl⟩
theorem k_mul_up {p0 : (List Int)} {p1 : Int} {y : (List Int)} (h : m_mul_up p0 p1 = some y) : Spec Tryz.prog 135 [(.v (.sl (.int .u64)) p0), (.v (.int .i64) p1)] (.v (.sl (.int .u64)) y) [] := by
  rw [m_mul_up] at h
  cases h
theorem en134 : Enters Tryz.prog 134 := ⟨_, Tryz.func134, rfl, rfl⟩
theorem k_nat_Sum {p0 : (List (List Int))} {y : (List Int)} (h : m_nat_Sum p0 = some y) : Spec Tryz.prog 134 [(.v (.sl (.sl (.int .u64))) p0)] (.v (.sl (.int .u64)) y) [] := by
  rw [m_nat_Sum] at h
  refine enterN [(.v (.sl (.sl (.int .u64))) p0)] 17 Tryz.func134 rfl rfl rfl ?_
  refine T.seq ?_
  refine T.region ?_
  refine Run.go (Ev.assign rfl rfl) ?_
  refine Run.nil ?_
  refine T.seq ?_
  refine T.region ?_
  refine Run.go (Ev.assign rfl rfl) ?_
  refine Run.nil ?_
  obtain ⟨v1, hv, h⟩ := bdS h
  refine T.cut (fun _ : Unit => (⟨[(3, .v (.sl (.int .u64)) v1)], [], 17⟩ : St)) (fun _ => True) ?_ (fun _ _ => ?_)
  · replace h := hv
    clear hv
    refine T.seq ?_
    refine T.region ?_
    refine Run.go (Ev.move rfl rfl) ?_
    refine Run.go (Ev.len X rfl rfl rfl rfl) ?_
    refine Run.go (Ev.move rfl rfl) ?_
    refine Run.nil ?_
    refine T.block ?_
    refine T.loop (LoopT.ghost (Ghost.trans (Ghost.nilv (t := 3) (τ := (.int .u64)) rfl) (Ghost.only [] [3, 6, 7, 8] rfl)) (LoopT.run (fun q : (List Int) × Int => (⟨[(3, .v (.sl (.int .u64)) q.1), (6, .v (.sl (.sl (.int .u64))) p0), (7, .v (.int .i64) ((p0.length : Int) : Int)), (8, .v (.int .i64) q.2)], [], 17⟩ : St)) (fun q z1 h hz1 => ?_) h))
    obtain ⟨v2, v3⟩ := q
    dsimp only
    rw [m_nat_Sum_l1] at h
    refine T.seq ?_
    refine T.region ?_
    refine Run.go (Ev.int rfl rfl rfl rfl trivial) ?_
    refine Run.nil ?_
    refine T.seq ?_
    refine T.cond rfl (fun hb4 => ?_) (fun hb4 => ?_)
    · replace h := ifT hb4 h
      refine T.skip ?_
      refine T.seq ?_
      refine T.block ?_
      refine T.seq ?_
      refine T.region ?_
      obtain ⟨x5, e6, h⟩ := bdS h
      refine Run.go (Ev.e_rd X e6 rfl rfl rfl rfl) ?_
      refine Run.go (Ev.load X rfl rfl rfl) ?_
      refine Run.go (Ev.assign rfl rfl) ?_
      refine Run.nil ?_
      refine T.region ?_
      refine Run.go (Ev.move rfl rfl) ?_
      refine Run.go (Ev.move rfl rfl) ?_
      obtain ⟨x7, e8, h⟩ := bdS h
      refine Run.go (Ev.callC en118 (k_nat_Add e8) rfl (.cons .v (.cons .v .nil)) rfl rfl) ?_
      refine Run.go (Ev.assign rfl rfl) ?_
      refine Run.nil ?_
      refine T.region ?_
      refine Run.go (Ev.int rfl rfl rfl rfl trivial) ?_
      refine Run.go (Ev.move rfl rfl) ?_
      refine Run.nil ?_
      cases h
      exact LoopT.ghost (Ghost.only [] [3, 6, 7, 8] rfl) hz1
    · replace h := ifF hb4 h
      refine T.exit ?_
      cases h
      cases hz1
      exact ⟨(), trivial, Ghost.only [] [3] rfl⟩
  · refine T.seq ?_
    refine T.region ?_
    refine Run.go (Ev.move rfl rfl) ?_
    refine Run.go (Ev.assign rfl rfl) ?_
    refine Run.nil ?_
    refine T.ret ?_
    cases h
    exact Fin.one rfl .v
theorem en126 : Enters Tryz.prog 126 := ⟨_, Tryz.func126, rfl, rfl⟩
theorem k_mul_Short_b {rec_ : ((List Int) → (List Int) → Option ((List Int)))} (hrec : ∀ {p0 : (List Int)} {p1 : (List Int)} {y : (List Int)}, rec_ p0 p1 = some y → Spec Tryz.prog 126 [(.v (.sl (.int .u64)) p0), (.v (.sl (.int .u64)) p1)] (.v (.sl (.int .u64)) y) []) {p0 : (List Int)} {p1 : (List Int)} {y : (List Int)} (h : m_mul_Short_b rec_ p0 p1 = some y) : Spec Tryz.prog 126 [(.v (.sl (.int .u64)) p0), (.v (.sl (.int .u64)) p1)] (.v (.sl (.int .u64)) y) [] := by
  rw [m_mul_Short_b] at h
  refine enterN [(.v (.sl (.int .u64)) p0), (.v (.sl (.int .u64)) p1)] 76 Tryz.func126 rfl rfl rfl ?_
  refine T.seq ?_
  refine T.region ?_
  refine Run.go (Ev.assign rfl rfl) ?_
  refine Run.nil ?_
  refine T.seq ?_
  refine T.seq ?_
  refine T.region ?_
  refine Run.go (Ev.move rfl rfl) ?_
  refine Run.go (Ev.len X rfl rfl rfl rfl) ?_
  refine Run.go (Ev.move rfl rfl) ?_
  refine Run.go (Ev.len X rfl rfl rfl rfl) ?_
  refine Run.go (Ev.min rfl rfl rfl) ?_
  refine Run.go (Ev.int rfl rfl rfl rfl trivial) ?_
  refine Run.nil ?_
  refine T.cond rfl (fun hb1 => ?_) (fun hb1 => ?_)
  · replace h := ifT hb1 h
    refine T.seq ?_
    refine T.region ?_
    refine Run.go (Ev.move rfl rfl) ?_
    refine Run.go (Ev.move rfl rfl) ?_
    obtain ⟨x2, e3, h⟩ := bdS h
    refine Run.go (Ev.callC en131 (k_mul_Long e3) rfl (.cons .v (.cons .v .nil)) rfl rfl) ?_
    refine Run.go (Ev.assign rfl rfl) ?_
    refine Run.nil ?_
    refine T.ret ?_
    cases h
    exact Fin.one rfl .v
  · replace h := ifF hb1 h
    refine T.skip ?_
    refine T.seq ?_
    refine T.region ?_
    refine Run.go (Ev.move rfl rfl) ?_
    refine Run.go (Ev.len X rfl rfl rfl rfl) ?_
    refine Run.go (Ev.move rfl rfl) ?_
    refine Run.go (Ev.len X rfl rfl rfl rfl) ?_
    refine Run.go (Ev.max rfl rfl rfl) ?_
    refine Run.go (Ev.int rfl rfl rfl rfl trivial) ?_
    obtain ⟨x4, e5, h⟩ := bdS h
    refine Run.go (Ev.e_qd e5 rfl rfl rfl) ?_
    refine Run.go (Ev.assign rfl rfl) ?_
    refine Run.nil ?_
    refine T.seq ?_
    refine T.region ?_
    refine Run.go (Ev.move rfl rfl) ?_
    refine Run.go (Ev.move rfl rfl) ?_
    obtain ⟨x6, e7, h⟩ := bdS h
    refine Run.go (Ev.callC en132 (k_mul_cut e7) rfl (.cons .v (.cons .v .nil)) rfl rfl) ?_
    refine Run.go (Ev.move rfl rfl) ?_
    refine Run.go (Ev.extract rfl rfl rfl) ?_
    refine Run.go (Ev.extract rfl rfl rfl) ?_
    refine Run.go (Ev.assign rfl rfl) ?_
    refine Run.go (Ev.assign rfl rfl) ?_
    refine Run.nil ?_
    refine T.seq ?_
    refine T.region ?_
    refine Run.go (Ev.move rfl rfl) ?_
    refine Run.go (Ev.move rfl rfl) ?_
    obtain ⟨x8, e9, h⟩ := bdS h
    refine Run.go (Ev.callC en132 (k_mul_cut e9) rfl (.cons .v (.cons .v .nil)) rfl rfl) ?_
    refine Run.go (Ev.move rfl rfl) ?_
    refine Run.go (Ev.extract rfl rfl rfl) ?_
    refine Run.go (Ev.extract rfl rfl rfl) ?_
    refine Run.go (Ev.assign rfl rfl) ?_
    refine Run.go (Ev.assign rfl rfl) ?_
    refine Run.nil ?_
    refine T.seq ?_
    refine T.region ?_
    refine Run.go (Ev.move rfl rfl) ?_
    refine Run.go (Ev.move rfl rfl) ?_
    obtain ⟨x10, e11, h⟩ := bdS h
    refine Run.go (Ev.callC en126 (hrec e11) rfl (.cons .v (.cons .v .nil)) rfl rfl) ?_
    refine Run.go (Ev.move rfl rfl) ?_
    refine Run.go (Ev.move rfl rfl) ?_
    obtain ⟨x12, e13, h⟩ := bdS h
    refine Run.go (Ev.callC en126 (hrec e13) rfl (.cons .v (.cons .v .nil)) rfl rfl) ?_
    refine Run.go (Ev.assign rfl rfl) ?_
    refine Run.go (Ev.assign rfl rfl) ?_
    refine Run.nil ?_
    refine T.seq ?_
    refine T.region ?_
    refine Run.go (Ev.move rfl rfl) ?_
    refine Run.go (Ev.move rfl rfl) ?_
    obtain ⟨x14, e15, h⟩ := bdS h
    refine Run.go (Ev.callC en118 (k_nat_Add e15) rfl (.cons .v (.cons .v .nil)) rfl rfl) ?_
    refine Run.go (Ev.move rfl rfl) ?_
    refine Run.go (Ev.move rfl rfl) ?_
    obtain ⟨x16, e17, h⟩ := bdS h
    refine Run.go (Ev.callC en118 (k_nat_Add e17) rfl (.cons .v (.cons .v .nil)) rfl rfl) ?_
    obtain ⟨x18, e19, h⟩ := bdS h
    refine Run.go (Ev.callC en126 (hrec e19) rfl (.cons .v (.cons .v .nil)) rfl rfl) ?_
    refine Run.go (Ev.assign rfl rfl) ?_
    refine Run.nil ?_
    refine T.seq ?_
    refine T.region ?_
    refine Run.go (Ev.move rfl rfl) ?_
    refine Run.go (Ev.move rfl rfl) ?_
    obtain ⟨x20, e21, h⟩ := bdS h
    refine Run.go (Ev.callC en133 (k_nat_Sub e21) rfl (.cons .v (.cons .v .nil)) rfl rfl) ?_
    refine Run.go (Ev.move rfl rfl) ?_
    refine Run.go (Ev.extract rfl rfl rfl) ?_
    refine Run.go (Ev.extract rfl rfl rfl) ?_
    refine Run.go (Ev.assign rfl rfl) ?_
    refine Run.nil ?_
    refine T.seq ?_
    refine T.region ?_
    refine Run.go (Ev.move rfl rfl) ?_
    refine Run.go (Ev.move rfl rfl) ?_
    obtain ⟨x22, e23, h⟩ := bdS h
    refine Run.go (Ev.callC en133 (k_nat_Sub e23) rfl (.cons .v (.cons .v .nil)) rfl rfl) ?_
    refine Run.go (Ev.move rfl rfl) ?_
    refine Run.go (Ev.extract rfl rfl rfl) ?_
    refine Run.go (Ev.extract rfl rfl rfl) ?_
    refine Run.go (Ev.assign rfl rfl) ?_
    refine Run.nil ?_
    refine T.seq ?_
    refine T.region ?_
    refine Run.go (Ev.move rfl rfl) ?_
    refine Run.go (Ev.move rfl rfl) ?_
    refine Run.go (Ev.move rfl rfl) ?_
    obtain ⟨x24, e25, h⟩ := bdS h
    refine Run.go (Ev.callC en135 (k_mul_up e25) rfl (.cons .v (.cons .v .nil)) rfl rfl) ?_
    refine Run.go (Ev.move rfl rfl) ?_
    refine Run.go (Ev.move rfl rfl) ?_
    refine Run.go (Ev.int rfl rfl rfl rfl trivial) ?_
    obtain ⟨x26, e27, h⟩ := bdS h
    refine Run.go (Ev.callC en135 (k_mul_up e27) rfl (.cons .v (.cons .v .nil)) rfl rfl) ?_
    refine Run.go (Ev.build X 1 rfl rfl rfl rfl rfl rfl rfl rfl) ?_
    refine Run.ghost (Ghost.firmAll (id := 1) rfl) ?_
    obtain ⟨x28, e29, h⟩ := bdS h
    refine Run.go (Ev.callC en134 (k_nat_Sum e29) rfl (.cons .v .nil) rfl rfl) ?_
    refine Run.go (Ev.assign rfl rfl) ?_
    refine Run.nil ?_
    refine T.ret ?_
    cases h
    exact Fin.one rfl .v
theorem k_mul_Short_r : ∀ (n : Nat) {p0 : (List Int)} {p1 : (List Int)} {y : (List Int)}, m_mul_Short_r n p0 p1 = some y → Spec Tryz.prog 126 [(.v (.sl (.int .u64)) p0), (.v (.sl (.int .u64)) p1)] (.v (.sl (.int .u64)) y) []
  | 0 => fun h => by cases h
  | n + 1 => fun h => k_mul_Short_b (fun h => k_mul_Short_r n h) h
theorem k_mul_Short {p0 : (List Int)} {p1 : (List Int)} {y : (List Int)} (h : m_mul_Short p0 p1 = some y) : Spec Tryz.prog 126 [(.v (.sl (.int .u64)) p0), (.v (.sl (.int .u64)) p1)] (.v (.sl (.int .u64)) y) [] := k_mul_Short_r _ h
theorem en117 : Enters Tryz.prog 117 := ⟨_, Tryz.func117, rfl, rfl⟩
theorem k_mul_Mul {p0 : (List Int)} {p1 : (List Int)} {y : (List Int)} (h : m_mul_Mul p0 p1 = some y) : Spec Tryz.prog 117 [(.v (.sl (.int .u64)) p0), (.v (.sl (.int .u64)) p1)] (.v (.sl (.int .u64)) y) [] := by
  rw [m_mul_Mul] at h
  refine enterN [(.v (.sl (.int .u64)) p0), (.v (.sl (.int .u64)) p1)] 8 Tryz.func117 rfl rfl rfl ?_
  refine T.seq ?_
  refine T.region ?_
  refine Run.go (Ev.assign rfl rfl) ?_
  refine Run.nil ?_
  refine T.seq ?_
  refine T.region ?_
  refine Run.go (Ev.move rfl rfl) ?_
  refine Run.go (Ev.move rfl rfl) ?_
  obtain ⟨x1, e2, h⟩ := bdS h
  refine Run.go (Ev.callC en126 (k_mul_Short e2) rfl (.cons .v (.cons .v .nil)) rfl rfl) ?_
  refine Run.go (Ev.assign rfl rfl) ?_
  refine Run.nil ?_
  refine T.ret ?_
  cases h
  exact Fin.one rfl .v
theorem en101 : Enters Tryz.prog 101 := ⟨_, Tryz.func101, rfl, rfl⟩
theorem k_whole_Mul {p0 : D_api_Int} {p1 : D_api_Int} {y : D_api_Int} (h : m_whole_Mul p0 p1 = some y) : Spec Tryz.prog 101 [(.v Y_api_Int p0), (.v Y_api_Int p1)] (.v Y_api_Int y) [] := by
  rw [m_whole_Mul] at h
  refine enterN [(.v Y_api_Int p0), (.v Y_api_Int p1)] 16 Tryz.func101 rfl rfl rfl ?_
  refine T.seq ?_
  refine T.region ?_
  refine Run.go (Ev.box 1 rfl rfl rfl rfl) ?_
  refine Run.go (Ev.box 2 rfl rfl rfl rfl) ?_
  refine Run.go (Ev.allocN X 3 rfl rfl rfl) ?_
  refine Run.nil ?_
  refine T.seq ?_
  refine T.drawM [11] [0, 1, 0, 4, 15, 0, 32, 0, 128, 480, 1023, 2047] (by kernel_rfl) (by kernel_rfl) ?_
  refine RunD.a rfl rfl (Ev.fieldBox X rfl rfl rfl rfl rfl) ?_
  refine RunD.a rfl rfl (Ev.loadCell X rfl rfl rfl rfl rfl rfl) ?_
  refine RunD.a rfl rfl (Ev.fieldBox X rfl rfl rfl rfl rfl) ?_
  refine RunD.a rfl rfl (Ev.loadCell X rfl rfl rfl rfl rfl rfl) ?_
  refine RunD.w (fun _ => Ev.bools X rfl rfl rfl rfl rfl) ?_
  refine RunD.a rfl rfl (Ev.fieldBox X rfl rfl rfl rfl rfl) ?_
  refine RunD.a rfl rfl (Ev.loadCell X rfl rfl rfl rfl rfl rfl) ?_
  refine RunD.a rfl rfl (Ev.fieldBox X rfl rfl rfl rfl rfl) ?_
  refine RunD.a rfl rfl (Ev.loadCell X rfl rfl rfl rfl rfl rfl) ?_
  obtain ⟨x1, e2, h⟩ := bdS h
  refine RunD.a rfl rfl (Ev.callC en117 (k_mul_Mul e2) rfl (.cons .v (.cons .v .nil)) rfl rfl) ?_
  obtain ⟨x3, e4, h⟩ := bdS h
  refine RunD.a rfl rfl (Ev.callC en116 (k_whole_Made e4) rfl (.cons .v (.cons .v .nil)) rfl rfl) ?_
  refine RunD.mN rfl (Ev.storeBox X rfl rfl rfl rfl rfl rfl rfl) ?_
  refine RunD.nil ?_
  refine T.ret ?_
  cases h
  exact Fin.cell X rfl rfl rfl rfl rfl
theorem en100 : Enters Tryz.prog 100 := ⟨_, Tryz.func100, rfl, rfl⟩
theorem k_whole_Cmp {p0 : D_api_Int} {p1 : D_api_Int} {y : Int} (h : m_whole_Cmp p0 p1 = some y) : Spec Tryz.prog 100 [(.v Y_api_Int p0), (.v Y_api_Int p1)] (.v (.int .i64) y) [] := by
  rw [m_whole_Cmp] at h
  refine enterN [(.v Y_api_Int p0), (.v Y_api_Int p1)] 26 Tryz.func100 rfl rfl rfl ?_
  refine T.seq ?_
  refine T.region ?_
  refine Run.go (Ev.box 1 rfl rfl rfl rfl) ?_
  refine Run.go (Ev.box 2 rfl rfl rfl rfl) ?_
  refine Run.go (Ev.assign rfl rfl) ?_
  refine Run.nil ?_
  refine T.seq ?_
  refine T.drawM [] [0, 1, 0, 7, 15, 31] (by kernel_rfl) (by kernel_rfl) ?_
  refine RunD.a rfl rfl (Ev.loadBox X rfl rfl rfl rfl rfl) ?_
  obtain ⟨x1, e2, h⟩ := bdS h
  refine RunD.a rfl rfl (Ev.callC en99 (k_whole_Sign e2) rfl (.cons .v .nil) rfl rfl) ?_
  refine RunD.a rfl rfl (Ev.loadBox X rfl rfl rfl rfl rfl) ?_
  obtain ⟨x3, e4, h⟩ := bdS h
  refine RunD.a rfl rfl (Ev.callC en99 (k_whole_Sign e4) rfl (.cons .v .nil) rfl rfl) ?_
  refine RunD.w (fun _ => Ev.assign rfl rfl) ?_
  refine RunD.w (fun _ => Ev.assign rfl rfl) ?_
  refine RunD.nil ?_
  refine T.seq ?_
  refine T.block ?_
  refine T.seq ?_
  refine T.region ?_
  refine Run.go (Ev.move rfl rfl) ?_
  refine Run.go (Ev.move rfl rfl) ?_
  refine Run.go (Ev.int rfl rfl rfl rfl trivial) ?_
  refine Run.go (Ev.assign rfl rfl) ?_
  refine Run.nil ?_
  refine T.cond rfl (fun hb5 => ?_) (fun hb5 => ?_)
  · replace h := ifT hb5 h
    refine T.seq ?_
    refine T.region ?_
    refine Run.go (Ev.assign rfl rfl) ?_
    refine Run.nil ?_
    refine T.ret ?_
    cases h
    exact Fin.one rfl .v
  · replace h := ifF hb5 h
    refine T.seq ?_
    refine T.region ?_
    refine Run.go (Ev.move rfl rfl) ?_
    refine Run.go (Ev.move rfl rfl) ?_
    refine Run.go (Ev.int rfl rfl rfl rfl trivial) ?_
    refine Run.go (Ev.assign rfl rfl) ?_
    refine Run.nil ?_
    refine T.cond rfl (fun hb6 => ?_) (fun hb6 => ?_)
    · replace h := ifT hb6 h
      refine T.seq ?_
      refine T.region ?_
      refine Run.go (Ev.assign rfl rfl) ?_
      refine Run.nil ?_
      refine T.ret ?_
      cases h
      exact Fin.one rfl .v
    · replace h := ifF hb6 h
      refine T.skip ?_
      refine T.seq ?_
      refine T.region ?_
      refine Run.go (Ev.move rfl rfl) ?_
      refine Run.go (Ev.fieldBox X rfl rfl rfl rfl rfl) ?_
      refine Run.go (Ev.loadCell X rfl rfl rfl rfl rfl rfl) ?_
      refine Run.go (Ev.fieldBox X rfl rfl rfl rfl rfl) ?_
      refine Run.go (Ev.loadCell X rfl rfl rfl rfl rfl rfl) ?_
      obtain ⟨x7, e8, h⟩ := bdS h
      refine Run.go (Ev.callC en113 (k_nat_Cmp e8) rfl (.cons .v (.cons .v .nil)) rfl rfl) ?_
      refine Run.go (Ev.int rfl rfl rfl rfl trivial) ?_
      refine Run.go (Ev.assign rfl rfl) ?_
      refine Run.nil ?_
      refine T.ret ?_
      cases h
      exact Fin.one rfl .v
theorem en77 : Enters Tryz.prog 77 := ⟨_, Tryz.func77, rfl, rfl⟩
theorem k_rat_Cmp {p0 : D_api_Rat} {p1 : D_api_Rat} {y : Int} (h : m_rat_Cmp p0 p1 = some y) : Spec Tryz.prog 77 [(.v Y_api_Rat p0), (.v Y_api_Rat p1)] (.v (.int .i64) y) [] := by
  rw [m_rat_Cmp] at h
  refine enterN [(.v Y_api_Rat p0), (.v Y_api_Rat p1)] 16 Tryz.func77 rfl rfl rfl ?_
  refine T.seq ?_
  refine T.region ?_
  refine Run.go (Ev.box 1 rfl rfl rfl rfl) ?_
  refine Run.go (Ev.box 2 rfl rfl rfl rfl) ?_
  refine Run.go (Ev.assign rfl rfl) ?_
  refine Run.nil ?_
  refine T.seq ?_
  refine T.drawM [] [0, 1, 0, 4, 15, 0, 32, 0, 159, 511, 1023, 2047] (by kernel_rfl) (by kernel_rfl) ?_
  refine RunD.a rfl rfl (Ev.fieldBox X rfl rfl rfl rfl rfl) ?_
  refine RunD.a rfl rfl (Ev.loadBox X rfl rfl rfl rfl rfl) ?_
  refine RunD.a rfl rfl (Ev.loadBox X rfl rfl rfl rfl rfl) ?_
  obtain ⟨x1, e2, h⟩ := bdS h
  refine RunD.a rfl rfl (Ev.callC en102 (k_rat_up e2) rfl (.cons .v .nil) rfl rfl) ?_
  obtain ⟨x3, e4, h⟩ := bdS h
  refine RunD.a rfl rfl (Ev.callC en101 (k_whole_Mul e4) rfl (.cons .v (.cons .v .nil)) rfl rfl) ?_
  refine RunD.a rfl rfl (Ev.fieldBox X rfl rfl rfl rfl rfl) ?_
  refine RunD.a rfl rfl (Ev.loadBox X rfl rfl rfl rfl rfl) ?_
  refine RunD.a rfl rfl (Ev.loadBox X rfl rfl rfl rfl rfl) ?_
  obtain ⟨x5, e6, h⟩ := bdS h
  refine RunD.a rfl rfl (Ev.callC en102 (k_rat_up e6) rfl (.cons .v .nil) rfl rfl) ?_
  obtain ⟨x7, e8, h⟩ := bdS h
  refine RunD.a rfl rfl (Ev.callC en101 (k_whole_Mul e8) rfl (.cons .v (.cons .v .nil)) rfl rfl) ?_
  obtain ⟨x9, e10, h⟩ := bdS h
  refine RunD.a rfl rfl (Ev.callC en100 (k_whole_Cmp e10) rfl (.cons .v (.cons .v .nil)) rfl rfl) ?_
  refine RunD.w (fun _ => Ev.assign rfl rfl) ?_
  refine RunD.nil ?_
  refine T.ret ?_
  cases h
  exact Fin.one rfl .v
theorem en74 : Enters Tryz.prog 74 := ⟨_, Tryz.func74, rfl, rfl⟩
theorem k_formed_partsRight_1 {p0 : D_api_Link} {y : Bool} (h : m_formed_partsRight_1 p0 = some y) : Spec Tryz.prog 74 [(.v Y_api_Link p0)] (.v .bool y) [] := by
  rw [m_formed_partsRight_1] at h
  refine enterN [(.v Y_api_Link p0)] 20 Tryz.func74 rfl rfl rfl ?_
  refine T.seq ?_
  refine T.region ?_
  refine Run.go (Ev.box 1 rfl rfl rfl rfl) ?_
  refine Run.go (Ev.assign rfl rfl) ?_
  refine Run.nil ?_
  refine T.seq ?_
  refine T.drawM [] [0, 1, 3, 7, 15, 31, 63, 127, 255, 511, 1023, 2047, 4095, 2047, 16383, 32767, 65535, 131071] (by kernel_rfl) (by kernel_rfl) ?_
  refine RunD.a rfl rfl (Ev.fieldBox X rfl rfl rfl rfl rfl) ?_
  refine RunD.a rfl rfl (Ev.loadBox X rfl rfl rfl rfl rfl) ?_
  obtain ⟨x1, e2, h⟩ := bdS h
  refine RunD.a rfl rfl (Ev.callC en75 (k_rat_May e2) rfl (.cons .v .nil) rfl rfl) ?_
  refine RunD.w (fun _ => Ev.not rfl rfl) ?_
  refine RunD.w (fun _ => Ev.move rfl rfl) ?_
  rcases boolCases (!x1) with hb3 | hb3
  · replace h := ifT hb3 h
    refine RunD.offT rfl rfl rfl rfl hb3 ?_
    refine RunD.offT rfl rfl rfl rfl hb3 ?_
    refine RunD.offT rfl rfl rfl rfl hb3 ?_
    refine RunD.offT rfl rfl rfl rfl hb3 ?_
    refine RunD.w (fun _ => Ev.pickT rfl hb3 rfl rfl) ?_
    refine RunD.w (fun _ => Ev.move rfl rfl) ?_
    refine RunD.offT rfl rfl rfl rfl rfl ?_
    refine RunD.offT rfl rfl rfl rfl rfl ?_
    refine RunD.offT rfl rfl rfl rfl rfl ?_
    refine RunD.offT rfl rfl rfl rfl rfl ?_
    refine RunD.offT rfl rfl rfl rfl rfl ?_
    refine RunD.w (fun _ => Ev.pickT rfl rfl rfl rfl) ?_
    refine RunD.w (fun _ => Ev.assign rfl rfl) ?_
    refine RunD.nil ?_
    refine T.ret ?_
    cases h
    exact Fin.one rfl .v
  · replace h := ifF hb3 h
    refine RunD.on rfl rfl rfl hb3 rfl (fun ô hô => by obtain rfl := hô.resolve_left (by decide); exact Ev.fieldBox X rfl rfl rfl rfl rfl) ?_
    refine RunD.on rfl rfl rfl hb3 rfl (fun ô hô => by obtain rfl := hô.resolve_left (by decide); exact Ev.loadBox X rfl rfl rfl rfl rfl) ?_
    obtain ⟨x4, e5, h⟩ := bdS h
    refine RunD.on rfl rfl rfl hb3 rfl (fun ô hô => by obtain rfl := hô.resolve_left (by decide); exact Ev.callC en76 (k_rat_Sign e5) rfl (.cons .v .nil) rfl rfl) ?_
    refine RunD.on rfl rfl rfl hb3 rfl (fun _ _ => Ev.int rfl rfl rfl rfl trivial) ?_
    refine RunD.w (fun _ => Ev.pickF rfl hb3 rfl rfl) ?_
    refine RunD.w (fun _ => Ev.move rfl rfl) ?_
    rcases boolCases (decide (x4 < 0)) with hb6 | hb6
    · replace h := ifT hb6 h
      refine RunD.offT rfl rfl rfl rfl hb6 ?_
      refine RunD.offT rfl rfl rfl rfl hb6 ?_
      refine RunD.offT rfl rfl rfl rfl hb6 ?_
      refine RunD.offT rfl rfl rfl rfl hb6 ?_
      refine RunD.offT rfl rfl rfl rfl hb6 ?_
      refine RunD.w (fun _ => Ev.pickT rfl hb6 rfl rfl) ?_
      refine RunD.w (fun _ => Ev.assign rfl rfl) ?_
      refine RunD.nil ?_
      refine T.ret ?_
      cases h
      exact Fin.one rfl .v
    · replace h := ifF hb6 h
      refine RunD.on rfl rfl rfl hb6 rfl (fun ô hô => by obtain rfl := hô.resolve_left (by decide); exact Ev.fieldBox X rfl rfl rfl rfl rfl) ?_
      refine RunD.on rfl rfl rfl hb6 rfl (fun ô hô => by obtain rfl := hô.resolve_left (by decide); exact Ev.loadBox X rfl rfl rfl rfl rfl) ?_
      obtain ⟨x7, e8, h⟩ := bdS h
      refine RunD.on rfl rfl rfl hb6 rfl (fun ô hô => by obtain rfl := hô.resolve_left (by decide); exact Ev.callC en78 (k_rat_Of e8) rfl (.cons .v .nil) rfl rfl) ?_
      obtain ⟨x9, e10, h⟩ := bdS h
      refine RunD.on rfl rfl rfl hb6 rfl (fun ô hô => by obtain rfl := hô.resolve_left (by decide); exact Ev.callC en77 (k_rat_Cmp e10) rfl (.cons .v (.cons .v .nil)) rfl rfl) ?_
      refine RunD.on rfl rfl rfl hb6 rfl (fun _ _ => Ev.int rfl rfl rfl rfl trivial) ?_
      refine RunD.w (fun _ => Ev.pickF rfl hb6 rfl rfl) ?_
      refine RunD.w (fun _ => Ev.assign rfl rfl) ?_
      refine RunD.nil ?_
      refine T.ret ?_
      cases h
      exact Fin.one rfl .v
theorem k_slices_IndexFunc_api_Link_api_Link__formed_partsRight_1 {p0 : (List D_api_Link)} {y : Int} (h : m_slices_IndexFunc_api_Link_api_Link__formed_partsRight_1 p0 = some y) : Spec Tryz.prog 26 [(.v (.sl Y_api_Link) p0), (.fn 74 [])] (.v (.int .i64) y) [] := by
  rw [m_slices_IndexFunc_api_Link_api_Link__formed_partsRight_1] at h
  refine enterN [(.v (.sl Y_api_Link) p0), (.fn 74 [])] 19 Tryz.func26 rfl rfl rfl ?_
  refine T.seq ?_
  refine T.region ?_
  refine Run.go (Ev.assign rfl rfl) ?_
  refine Run.nil ?_
  refine T.seq ?_
  refine T.seq ?_
  refine T.region ?_
  refine Run.go (Ev.move rfl rfl) ?_
  refine Run.go (Ev.len X rfl rfl rfl rfl) ?_
  refine Run.go (Ev.move rfl rfl) ?_
  refine Run.nil ?_
  refine T.block ?_
  refine T.loop (LoopT.ghost (Ghost.only [] [0, 1, 7, 8] rfl) (LoopT.run (fun q : Int => (⟨[(0, .v (.sl Y_api_Link) p0), (1, .fn 74 []), (7, .v (.int .i64) ((p0.length : Int) : Int)), (8, .v (.int .i64) q)], [], 19⟩ : St)) (fun v1 z1 h hz1 => ?_) h))
  rw [m_slices_IndexFunc_api_Link_api_Link__formed_partsRight_1_l1] at h
  refine T.seq ?_
  refine T.region ?_
  refine Run.go (Ev.int rfl rfl rfl rfl trivial) ?_
  refine Run.nil ?_
  refine T.seq ?_
  refine T.cond rfl (fun hb2 => ?_) (fun hb2 => ?_)
  · replace h := ifT hb2 h
    refine T.skip ?_
    refine T.seq ?_
    refine T.block ?_
    refine T.seq ?_
    refine T.region ?_
    refine Run.go (Ev.move rfl rfl) ?_
    refine Run.go (Ev.assign rfl rfl) ?_
    refine Run.nil ?_
    refine T.seq ?_
    refine T.region ?_
    refine Run.go (Ev.move rfl rfl) ?_
    refine Run.go (Ev.move rfl rfl) ?_
    refine Run.go (Ev.move rfl rfl) ?_
    obtain ⟨x3, e4, h⟩ := bdS h
    refine Run.go (Ev.e_rd X e4 rfl rfl rfl rfl) ?_
    refine Run.go (Ev.load X rfl rfl rfl) ?_
    obtain ⟨x5, e6, h⟩ := bdS h
    refine Run.go (Ev.callC en74 (k_formed_partsRight_1 e6) rfl (.cons .v .nil) rfl rfl) ?_
    refine Run.nil ?_
    refine T.cond rfl (fun hb7 => ?_) (fun hb7 => ?_)
    · replace h := ifT hb7 h
      refine T.seq ?_
      refine T.region ?_
      refine Run.go (Ev.move rfl rfl) ?_
      refine Run.go (Ev.assign rfl rfl) ?_
      refine Run.nil ?_
      refine T.ret ?_
      cases h
      cases hz1
      exact Fin.one rfl .v
    · replace h := ifF hb7 h
      refine T.skip ?_
      refine T.region ?_
      refine Run.go (Ev.int rfl rfl rfl rfl trivial) ?_
      refine Run.go (Ev.move rfl rfl) ?_
      refine Run.nil ?_
      cases h
      exact LoopT.ghost (Ghost.only [] [0, 1, 7, 8] rfl) hz1
  · replace h := ifF hb2 h
    refine T.exit ?_
    refine T.seq ?_
    refine T.region ?_
    refine Run.go (Ev.assign rfl rfl) ?_
    refine Run.nil ?_
    refine T.ret ?_
    cases h
    cases hz1
    exact Fin.one rfl .v
end Go.Proofs.YtbmogniipgmkiaaGreat.AE
