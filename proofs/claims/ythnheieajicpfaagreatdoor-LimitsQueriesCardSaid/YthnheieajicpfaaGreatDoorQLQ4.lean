/- Masks and prefixes, plain. -/
import Derived.Test.YthnheieajicpfaaGreatDoorQLQ3
import Derived.Test.YthnheieajicpfaaGreatDoorQLQ1
import Derived.WalkKit
import Derived.ProofKit
import Derived.OpenShut
import Derived.ShutString
import Derived.ChangeOld
import Derived.Lib.SmallJoins
import Derived.Lay
import Derived.Test.YthnheieajicpfaaGreatDoorQLQ2
import Derived.Lib.ItoaLen
import Derived.Laws.BitsAllLaws
/- The code comes to the printed functions (printed by a program of ours). -/
namespace Go.Proofs.YthnheieajicpfaaGreatDoor.AE
open Go Go.RowKit Go.Proofs.YthnheieajicpfaaGreatDoor.AP
set_option linter.unusedVariables false
set_option maxRecDepth 20000
theorem en28 : Enters Tryz.prog 28 := ⟨_, Tryz.func28, rfl, rfl⟩
theorem k_triviumref22_Queries {p0 : (List D_api_Query)} {y : ByteArray} (h : m_triviumref22_Queries p0 = some y) : Spec Tryz.prog 28 [(.v (.sl Y_api_Query) p0)] (.v .str y) [] := by
  rw [m_triviumref22_Queries] at h
  refine enterN [(.v (.sl Y_api_Query) p0)] 20 Tryz.func28 rfl rfl rfl ?_
  refine T.seq ?_
  refine T.region ?_
  refine Run.go (Ev.assign rfl rfl) ?_
  refine Run.nil ?_
  refine T.seq ?_
  refine T.region ?_
  refine Run.go (Ev.assign rfl rfl) ?_
  refine Run.nil ?_
  obtain ⟨v1, hv, h⟩ := bdS h
  refine T.cut (fun _ : Unit => (⟨[(3, .v .str v1)], [], 20⟩ : St)) (fun _ => True) ?_ (fun _ _ => ?_)
  · replace h := hv
    clear hv
    refine T.seq ?_
    refine T.region ?_
    refine Run.go (Ev.assign rfl rfl) ?_
    refine Run.nil ?_
    refine T.block ?_
    refine T.loop (LoopT.ghost (Ghost.only [] [0, 3, 4] rfl) (LoopT.run (fun q : ByteArray × Int => (⟨[(0, .v (.sl Y_api_Query) p0), (3, .v .str q.1), (4, .v (.int .i64) q.2)], [], 20⟩ : St)) (fun q z1 h hz1 => ?_) h))
    obtain ⟨v2, v3⟩ := q
    dsimp only
    rw [m_triviumref22_Queries_l1] at h
    refine T.seq ?_
    refine T.seq ?_
    refine T.region ?_
    refine Run.go (Ev.move rfl rfl) ?_
    refine Run.go (Ev.move rfl rfl) ?_
    refine Run.go (Ev.len X rfl rfl rfl rfl) ?_
    refine Run.go (Ev.int rfl rfl rfl rfl trivial) ?_
    refine Run.nil ?_
    refine T.cond rfl (fun hb4 => ?_) (fun hb4 => ?_)
    · replace h := ifT hb4 h
      refine T.skip ?_
      refine T.seq ?_
      refine T.block ?_
      refine T.region ?_
      refine Run.go (Ev.move rfl rfl) ?_
      refine Run.go (Ev.move rfl rfl) ?_
      refine Run.go (Ev.move rfl rfl) ?_
      obtain ⟨x5, e6, h⟩ := bdS h
      refine Run.go (Ev.e_rd X e6 rfl rfl rfl rfl) ?_
      refine Run.go (Ev.load X rfl rfl rfl) ?_
      obtain ⟨x7, e8, h⟩ := bdS h
      refine Run.go (Ev.callC en51 (k_triviumref22_Query e8) rfl (.cons .v .nil) rfl rfl) ?_
      obtain ⟨x9, e10, h⟩ := bdS h
      refine Run.go (Ev.e_cat e10 rfl rfl rfl) ?_
      obtain ⟨x11, e12, h⟩ := bdS h
      refine Run.go (Ev.e_cat e12 rfl rfl rfl) ?_
      refine Run.go (Ev.assign rfl rfl) ?_
      refine Run.nil ?_
      refine T.region ?_
      refine Run.go (Ev.move rfl rfl) ?_
      refine Run.go (Ev.int rfl rfl rfl rfl trivial) ?_
      refine Run.go (Ev.assign rfl rfl) ?_
      refine Run.nil ?_
      cases h
      exact LoopT.ghost (Ghost.only [] [0, 3, 4] rfl) hz1
    · replace h := ifF hb4 h
      refine T.exit ?_
      cases h
      cases hz1
      exact ⟨(), trivial, Ghost.only [] [3] rfl⟩
  · refine T.seq ?_
    refine T.region ?_
    refine Run.go (Ev.move rfl rfl) ?_
    refine Run.go (Ev.assign rfl rfl) ?_
    refine Run.nil ?_
    refine T.ret ?_
    cases h
    exact Fin.one rfl .v
theorem en16 : Enters Tryz.prog 16 := ⟨_, Tryz.func16, rfl, rfl⟩
theorem k_triviumref24_Queries {p0 : (List D_api_Query)} {y : Bool} (h : m_triviumref24_Queries p0 = some y) : Spec Tryz.prog 16 [(.v (.sl Y_api_Query) p0)] (.v .bool y) [] := by
  rw [m_triviumref24_Queries] at h
  refine enterN [(.v (.sl Y_api_Query) p0)] 25 Tryz.func16 rfl rfl rfl ?_
  refine T.seq ?_
  refine T.region ?_
  refine Run.go (Ev.assign rfl rfl) ?_
  refine Run.nil ?_
  refine T.seq ?_
  refine T.seq ?_
  refine T.region ?_
  refine Run.go (Ev.assign rfl rfl) ?_
  refine Run.nil ?_
  refine T.block ?_
  refine T.loop (LoopT.ghost (Ghost.only [] [0, 3] rfl) (LoopT.run (fun q : Int => (⟨[(0, .v (.sl Y_api_Query) p0), (3, .v (.int .i64) q)], [], 25⟩ : St)) (fun v1 z1 h hz1 => ?_) h))
  rw [m_triviumref24_Queries_l1] at h
  refine T.seq ?_
  refine T.seq ?_
  refine T.region ?_
  refine Run.go (Ev.move rfl rfl) ?_
  refine Run.go (Ev.move rfl rfl) ?_
  refine Run.go (Ev.len X rfl rfl rfl rfl) ?_
  refine Run.go (Ev.int rfl rfl rfl rfl trivial) ?_
  refine Run.nil ?_
  refine T.cond rfl (fun hb2 => ?_) (fun hb2 => ?_)
  · replace h := ifT hb2 h
    refine T.skip ?_
    refine T.seq ?_
    refine T.block ?_
    refine T.seq ?_
    refine T.region ?_
    refine Run.go (Ev.move rfl rfl) ?_
    refine Run.go (Ev.move rfl rfl) ?_
    obtain ⟨x3, e4, h⟩ := bdS h
    refine Run.go (Ev.e_rd X e4 rfl rfl rfl rfl) ?_
    refine Run.go (Ev.fieldAddr X rfl rfl rfl rfl) ?_
    refine Run.go (Ev.load X rfl rfl rfl) ?_
    refine Run.go (Ev.int rfl rfl rfl rfl trivial) ?_
    refine Run.nil ?_
    refine T.cond rfl (fun hb5 => ?_) (fun hb5 => ?_)
    · replace h := ifT hb5 h
      refine T.seq ?_
      refine T.region ?_
      refine Run.go (Ev.assign rfl rfl) ?_
      refine Run.nil ?_
      refine T.ret ?_
      cases h
      cases hz1
      exact Fin.one rfl .v
    · replace h := ifF hb5 h
      refine T.skip ?_
      refine T.region ?_
      refine Run.go (Ev.move rfl rfl) ?_
      refine Run.go (Ev.int rfl rfl rfl rfl trivial) ?_
      refine Run.go (Ev.assign rfl rfl) ?_
      refine Run.nil ?_
      cases h
      exact LoopT.ghost (Ghost.only [] [0, 3] rfl) hz1
  · replace h := ifF hb2 h
    refine T.exit ?_
    refine T.seq ?_
    refine T.region ?_
    refine Run.go (Ev.move rfl rfl) ?_
    refine Run.go (Ev.len X rfl rfl rfl rfl) ?_
    refine Run.go (Ev.int rfl rfl rfl rfl trivial) ?_
    refine Run.go (Ev.move rfl rfl) ?_
    rcases boolCases (decide ((p0.length : Int) ≤ 32)) with hb6 | hb6
    · replace h := ifT hb6 h
      refine Run.on rfl rfl rfl hb6 (Ev.move rfl rfl) ?_
      obtain ⟨x7, e8, h⟩ := bdS h
      refine Run.on rfl rfl rfl hb6 (Ev.callC en28 (k_triviumref22_Queries e8) rfl (.cons .v .nil) rfl rfl) ?_
      refine Run.on rfl rfl rfl hb6 (Ev.len X rfl rfl rfl rfl) ?_
      refine Run.on rfl rfl rfl hb6 (Ev.int rfl rfl rfl rfl trivial) ?_
      refine Run.go (Ev.pickT rfl hb6 rfl rfl) ?_
      refine Run.go (Ev.assign rfl rfl) ?_
      refine Run.nil ?_
      refine T.ret ?_
      cases h
      cases hz1
      exact Fin.one rfl .v
    · replace h := ifF hb6 h
      refine Run.offT rfl rfl rfl rfl hb6 ?_
      refine Run.offT rfl rfl rfl rfl hb6 ?_
      refine Run.offT rfl rfl rfl rfl hb6 ?_
      refine Run.offT rfl rfl rfl rfl hb6 ?_
      refine Run.go (Ev.pickF rfl hb6 rfl rfl) ?_
      refine Run.go (Ev.assign rfl rfl) ?_
      refine Run.nil ?_
      refine T.ret ?_
      cases h
      cases hz1
      exact Fin.one rfl .v
theorem en31 : Enters Tryz.prog 31 := ⟨_, Tryz.func31, rfl, rfl⟩
theorem k_name_Long {p0 : ByteArray} {y : Bool} (h : m_name_Long p0 = some y) : Spec Tryz.prog 31 [(.v .str p0)] (.v .bool y) [] := by
  rw [m_name_Long] at h
  refine enterN [(.v .str p0)] 6 Tryz.func31 rfl rfl rfl ?_
  refine T.seq ?_
  refine T.region ?_
  refine Run.go (Ev.assign rfl rfl) ?_
  refine Run.nil ?_
  refine T.seq ?_
  refine T.region ?_
  refine Run.go (Ev.move rfl rfl) ?_
  refine Run.go (Ev.len X rfl rfl rfl rfl) ?_
  refine Run.go (Ev.int rfl rfl rfl rfl trivial) ?_
  refine Run.go (Ev.assign rfl rfl) ?_
  refine Run.nil ?_
  refine T.ret ?_
  cases h
  exact Fin.one rfl .v
theorem en33 : Enters Tryz.prog 33 := ⟨_, Tryz.func33, rfl, rfl⟩
theorem k_limits_node {p0 : D_api_Node} {y : Bool} (h : m_limits_node p0 = some y) : Spec Tryz.prog 33 [(.v Y_api_Node p0)] (.v .bool y) [] := by
  rw [m_limits_node] at h
  refine enterN [(.v Y_api_Node p0)] 12 Tryz.func33 rfl rfl rfl ?_
  refine T.seq ?_
  refine T.region ?_
  refine Run.go (Ev.box 1 rfl rfl rfl rfl) ?_
  refine Run.go (Ev.assign rfl rfl) ?_
  refine Run.nil ?_
  refine T.seq ?_
  refine T.region ?_
  refine Run.go (Ev.fieldBox X rfl rfl rfl rfl rfl) ?_
  refine Run.go (Ev.loadCell X rfl rfl rfl rfl rfl rfl) ?_
  obtain ⟨x1, e2, h⟩ := bdS h
  refine Run.go (Ev.callC en31 (k_name_Long e2) rfl (.cons .v .nil) rfl rfl) ?_
  refine Run.go (Ev.move rfl rfl) ?_
  rcases boolCases x1 with hb3 | hb3
  · replace h := ifT hb3 h
    refine Run.offT rfl rfl rfl rfl hb3 ?_
    refine Run.offT rfl rfl rfl rfl hb3 ?_
    refine Run.offT rfl rfl rfl rfl hb3 ?_
    refine Run.offT rfl rfl rfl rfl hb3 ?_
    refine Run.go (Ev.pickT rfl hb3 rfl rfl) ?_
    refine Run.go (Ev.assign rfl rfl) ?_
    refine Run.nil ?_
    refine T.ret ?_
    cases h
    exact Fin.one rfl .v
  · replace h := ifF hb3 h
    refine Run.on rfl rfl rfl hb3 (Ev.fieldBox X rfl rfl rfl rfl rfl) ?_
    refine Run.on rfl rfl rfl hb3 (Ev.loadCell X rfl rfl rfl rfl rfl rfl) ?_
    refine Run.on rfl rfl rfl hb3 (Ev.len X rfl rfl rfl rfl) ?_
    refine Run.on rfl rfl rfl hb3 (Ev.int rfl rfl rfl rfl trivial) ?_
    refine Run.go (Ev.pickF rfl hb3 rfl rfl) ?_
    refine Run.go (Ev.assign rfl rfl) ?_
    refine Run.nil ?_
    refine T.ret ?_
    cases h
    exact Fin.one rfl .v
theorem en57 : Enters Tryz.prog 57 := ⟨_, Tryz.func57, rfl, rfl⟩
theorem k_slices_IndexFunc_api_Node_api_Node__limits_node {p0 : (List D_api_Node)} {y : Int} (h : m_slices_IndexFunc_api_Node_api_Node__limits_node p0 = some y) : Spec Tryz.prog 57 [(.v (.sl Y_api_Node) p0), (.fn 33 [])] (.v (.int .i64) y) [] := by
  rw [m_slices_IndexFunc_api_Node_api_Node__limits_node] at h
  refine enterN [(.v (.sl Y_api_Node) p0), (.fn 33 [])] 19 Tryz.func57 rfl rfl rfl ?_
  refine T.seq ?_
  refine T.region ?_
  refine Run.go (Ev.assign rfl rfl) ?_
  refine Run.nil ?_
  refine T.seq ?_
  refine T.seq ?_
  refine T.region ?_
  refine Run.go (Ev.move rfl rfl) ?_
  refine Run.go (Ev.len X rfl rfl rfl rfl) ?_
  refine Run.go (Ev.move rfl rfl) ?_
  refine Run.nil ?_
  refine T.block ?_
  refine T.loop (LoopT.ghost (Ghost.only [] [0, 1, 7, 8] rfl) (LoopT.run (fun q : Int => (⟨[(0, .v (.sl Y_api_Node) p0), (1, .fn 33 []), (7, .v (.int .i64) ((p0.length : Int) : Int)), (8, .v (.int .i64) q)], [], 19⟩ : St)) (fun v1 z1 h hz1 => ?_) h))
  rw [m_slices_IndexFunc_api_Node_api_Node__limits_node_l1] at h
  refine T.seq ?_
  refine T.region ?_
  refine Run.go (Ev.int rfl rfl rfl rfl trivial) ?_
  refine Run.nil ?_
  refine T.seq ?_
  refine T.cond rfl (fun hb2 => ?_) (fun hb2 => ?_)
  · replace h := ifT hb2 h
    refine T.skip ?_
    refine T.seq ?_
    refine T.block ?_
    refine T.seq ?_
    refine T.region ?_
    refine Run.go (Ev.move rfl rfl) ?_
    refine Run.go (Ev.assign rfl rfl) ?_
    refine Run.nil ?_
    refine T.seq ?_
    refine T.region ?_
    refine Run.go (Ev.move rfl rfl) ?_
    refine Run.go (Ev.move rfl rfl) ?_
    refine Run.go (Ev.move rfl rfl) ?_
    obtain ⟨x3, e4, h⟩ := bdS h
    refine Run.go (Ev.e_rd X e4 rfl rfl rfl rfl) ?_
    refine Run.go (Ev.load X rfl rfl rfl) ?_
    obtain ⟨x5, e6, h⟩ := bdS h
    refine Run.go (Ev.callC en33 (k_limits_node e6) rfl (.cons .v .nil) rfl rfl) ?_
    refine Run.nil ?_
    refine T.cond rfl (fun hb7 => ?_) (fun hb7 => ?_)
    · replace h := ifT hb7 h
      refine T.seq ?_
      refine T.region ?_
      refine Run.go (Ev.move rfl rfl) ?_
      refine Run.go (Ev.assign rfl rfl) ?_
      refine Run.nil ?_
      refine T.ret ?_
      cases h
      cases hz1
      exact Fin.one rfl .v
    · replace h := ifF hb7 h
      refine T.skip ?_
      refine T.region ?_
      refine Run.go (Ev.int rfl rfl rfl rfl trivial) ?_
      refine Run.go (Ev.move rfl rfl) ?_
      refine Run.nil ?_
      cases h
      exact LoopT.ghost (Ghost.only [] [0, 1, 7, 8] rfl) hz1
  · replace h := ifF hb2 h
    refine T.exit ?_
    refine T.seq ?_
    refine T.region ?_
    refine Run.go (Ev.assign rfl rfl) ?_
    refine Run.nil ?_
    refine T.ret ?_
    cases h
    cases hz1
    exact Fin.one rfl .v
theorem en32 : Enters Tryz.prog 32 := ⟨_, Tryz.func32, rfl, rfl⟩
theorem k_slices_ContainsFunc_api_Node_api_Node__limits_node {p0 : (List D_api_Node)} {y : Bool} (h : m_slices_ContainsFunc_api_Node_api_Node__limits_node p0 = some y) : Spec Tryz.prog 32 [(.v (.sl Y_api_Node) p0), (.fn 33 [])] (.v .bool y) [] := by
  rw [m_slices_ContainsFunc_api_Node_api_Node__limits_node] at h
  refine enterN [(.v (.sl Y_api_Node) p0), (.fn 33 [])] 9 Tryz.func32 rfl rfl rfl ?_
  refine T.seq ?_
  refine T.region ?_
  refine Run.go (Ev.assign rfl rfl) ?_
  refine Run.nil ?_
  refine T.seq ?_
  refine T.region ?_
  refine Run.go (Ev.move rfl rfl) ?_
  refine Run.go (Ev.move rfl rfl) ?_
  obtain ⟨x1, e2, h⟩ := bdS h
  refine Run.go (Ev.callC en57 (k_slices_IndexFunc_api_Node_api_Node__limits_node e2) rfl (.cons .v (.cons (.fn rfl) .nil)) rfl rfl) ?_
  refine Run.go (Ev.int rfl rfl rfl rfl trivial) ?_
  refine Run.go (Ev.assign rfl rfl) ?_
  refine Run.nil ?_
  refine T.ret ?_
  cases h
  exact Fin.one rfl .v
theorem en121 : Enters Tryz.prog 121 := ⟨_, Tryz.func121, rfl, rfl⟩
theorem k_digits_based {p0 : Int} {y : Int} (h : m_digits_based p0 = some y) : Spec Tryz.prog 121 [(.v (.int .i64) p0)] (.v (.int .i64) y) [] := by
  rw [m_digits_based] at h
  refine enterN [(.v (.int .i64) p0)] 9 Tryz.func121 rfl rfl rfl ?_
  refine T.seq ?_
  refine T.region ?_
  refine Run.go (Ev.assign rfl rfl) ?_
  refine Run.nil ?_
  refine T.seq ?_
  obtain ⟨v1, hv, h⟩ := bdS h
  refine T.cut (fun _ : Unit => (⟨[(8, .v .bool v1)], [], 9⟩ : St)) (fun _ => True) ?_ (fun _ _ => ?_)
  · replace h := hv
    clear hv
    refine T.region ?_
    refine Run.go (Ev.move rfl rfl) ?_
    refine Run.go (Ev.int rfl rfl rfl rfl trivial) ?_
    refine Run.go (Ev.move rfl rfl) ?_
    rcases boolCases (decide (p0 < 2)) with hb2 | hb2
    · replace h := ifT hb2 h
      refine Run.offT rfl rfl rfl rfl hb2 ?_
      refine Run.offT rfl rfl rfl rfl hb2 ?_
      refine Run.go (Ev.pickT rfl hb2 rfl rfl) ?_
      refine Run.nil ?_
      cases h
      exact ⟨(), trivial, Ghost.only [] [8] rfl⟩
    · replace h := ifF hb2 h
      refine Run.on rfl rfl rfl hb2 (Ev.move rfl rfl) ?_
      refine Run.on rfl rfl rfl hb2 (Ev.int rfl rfl rfl rfl trivial) ?_
      refine Run.go (Ev.pickF rfl hb2 rfl rfl) ?_
      refine Run.nil ?_
      cases h
      exact ⟨(), trivial, Ghost.only [] [8] rfl⟩
  · refine T.cond rfl (fun hb3 => ?_) (fun hb3 => ?_)
    · replace h := ifT hb3 h
      refine T.seq ?_
      refine T.region ?_
      refine Run.go (Ev.assign rfl rfl) ?_
      refine Run.nil ?_
      refine T.ret ?_
      cases h
      exact Fin.one rfl .v
    · replace h := ifF hb3 h
      refine T.skip ?_
      refine T.seq ?_
      refine T.region ?_
      refine Run.go (Ev.assign rfl rfl) ?_
      refine Run.nil ?_
      refine T.ret ?_
      cases h
      exact Fin.one rfl .v
theorem en122 : Enters Tryz.prog 122 := ⟨_, Tryz.func122, rfl, rfl⟩
theorem k_digits_chunk {p0 : Int} {y : Int × Int} (h : m_digits_chunk p0 = some y) : Spec Tryz.prog 122 [(.v (.int .i64) p0)] (.tup [.v (.int .u64) y.1, .v (.int .i64) y.2]) [] := by
  rw [m_digits_chunk] at h
  refine enterN [(.v (.int .i64) p0)] 21 Tryz.func122 rfl rfl rfl ?_
  refine T.seq ?_
  refine T.region ?_
  refine Run.go (Ev.assign rfl rfl) ?_
  refine Run.go (Ev.assign rfl rfl) ?_
  refine Run.nil ?_
  refine T.seq ?_
  refine T.region ?_
  refine Run.go (Ev.move rfl rfl) ?_
  refine Run.go (Ev.conv X rfl rfl rfl rfl) ?_
  refine Run.go (Ev.assign rfl rfl) ?_
  refine Run.go (Ev.assign rfl rfl) ?_
  refine Run.nil ?_
  obtain ⟨⟨v1, v2⟩, hv, h⟩ := bdS h
  refine T.cut (fun _ : Unit => (⟨[(4, .v (.int .u64) v1), (5, .v (.int .i64) v2)], [], 21⟩ : St)) (fun _ => True) ?_ (fun _ _ => ?_)
  · replace h := hv
    clear hv
    refine T.block ?_
    refine T.loop (LoopT.ghost (Ghost.only [] [0, 4, 5] rfl) (LoopT.run (fun q : Int × Int => (⟨[(0, .v (.int .i64) p0), (4, .v (.int .u64) q.1), (5, .v (.int .i64) q.2)], [], 21⟩ : St)) (fun q z1 h hz1 => ?_) h))
    obtain ⟨v3, v4⟩ := q
    dsimp only
    rw [m_digits_chunk_l1] at h
    refine T.seq ?_
    refine T.seq ?_
    refine T.region ?_
    refine Run.go (Ev.move rfl rfl) ?_
    refine Run.go (Ev.move rfl rfl) ?_
    refine Run.go (Ev.conv X rfl rfl rfl rfl) ?_
    refine Run.go (Ev.int rfl rfl rfl rfl trivial) ?_
    refine Run.go (Ev.int rfl rfl rfl rfl trivial) ?_
    refine Run.nil ?_
    refine T.cond rfl (fun hb5 => ?_) (fun hb5 => ?_)
    · replace h := ifT hb5 h
      refine T.skip ?_
      refine T.block ?_
      refine T.seq ?_
      refine T.region ?_
      refine Run.go (Ev.move rfl rfl) ?_
      refine Run.go (Ev.move rfl rfl) ?_
      refine Run.go (Ev.conv X rfl rfl rfl rfl) ?_
      refine Run.go (Ev.int rfl rfl rfl rfl trivial) ?_
      refine Run.go (Ev.assign rfl rfl) ?_
      refine Run.nil ?_
      refine T.region ?_
      refine Run.go (Ev.move rfl rfl) ?_
      refine Run.go (Ev.int rfl rfl rfl rfl trivial) ?_
      refine Run.go (Ev.assign rfl rfl) ?_
      refine Run.nil ?_
      cases h
      exact LoopT.ghost (Ghost.only [] [0, 4, 5] rfl) hz1
    · replace h := ifF hb5 h
      refine T.exit ?_
      cases h
      cases hz1
      exact ⟨(), trivial, Ghost.only [] [4, 5] rfl⟩
  · refine T.seq ?_
    refine T.region ?_
    refine Run.go (Ev.move rfl rfl) ?_
    refine Run.go (Ev.move rfl rfl) ?_
    refine Run.go (Ev.assign rfl rfl) ?_
    refine Run.go (Ev.assign rfl rfl) ?_
    refine Run.nil ?_
    refine T.ret ?_
    cases h
    exact Fin.many X rfl (.cons (.tmp .v) (.cons (.tmp .v) .nil)) rfl
theorem en116 : Enters Tryz.prog 116 := ⟨_, Tryz.func116, rfl, rfl⟩
theorem k_nat_trim {p0 : (List Int)} {y : (List Int)} (h : m_nat_trim p0 = some y) : Spec Tryz.prog 116 [(.v (.sl (.int .u64)) p0)] (.v (.sl (.int .u64)) y) [] := by
  rw [m_nat_trim] at h
  refine enterN [(.v (.sl (.int .u64)) p0)] 21 Tryz.func116 rfl rfl rfl ?_
  refine T.seq ?_
  refine T.region ?_
  refine Run.go (Ev.assign rfl rfl) ?_
  refine Run.nil ?_
  refine T.seq ?_
  refine T.region ?_
  refine Run.go (Ev.move rfl rfl) ?_
  refine Run.go (Ev.len X rfl rfl rfl rfl) ?_
  refine Run.go (Ev.assign rfl rfl) ?_
  refine Run.nil ?_
  obtain ⟨v1, hv, h⟩ := bdS h
  refine T.cut (fun _ : Unit => (⟨[(0, .v (.sl (.int .u64)) p0), (3, .v (.int .i64) v1)], [], 21⟩ : St)) (fun _ => True) ?_ (fun _ _ => ?_)
  · replace h := hv
    clear hv
    refine T.block ?_
    refine T.loop (LoopT.ghost (Ghost.only [] [0, 3] rfl) (LoopT.run (fun q : Int => (⟨[(0, .v (.sl (.int .u64)) p0), (3, .v (.int .i64) q)], [], 21⟩ : St)) (fun v2 z1 h hz1 => ?_) h))
    rw [m_nat_trim_l1] at h
    refine T.seq ?_
    obtain ⟨v3, hv, h⟩ := bdS h
    refine T.cut (fun _ : Unit => (⟨[(0, .v (.sl (.int .u64)) p0), (3, .v (.int .i64) v2), (15, .v .bool v3)], [], 21⟩ : St)) (fun _ => True) ?_ (fun _ _ => ?_)
    · replace h := hv
      clear hv
      refine T.region ?_
      refine Run.go (Ev.move rfl rfl) ?_
      refine Run.go (Ev.int rfl rfl rfl rfl trivial) ?_
      refine Run.go (Ev.move rfl rfl) ?_
      rcases boolCases (decide (0 < v2)) with hb4 | hb4
      · replace h := ifT hb4 h
        refine Run.on rfl rfl rfl hb4 (Ev.move rfl rfl) ?_
        refine Run.on rfl rfl rfl hb4 (Ev.move rfl rfl) ?_
        refine Run.on rfl rfl rfl hb4 (Ev.int rfl rfl rfl rfl trivial) ?_
        obtain ⟨x5, e6, h⟩ := bdS h
        refine Run.on rfl rfl rfl hb4 (Ev.e_rd X e6 rfl rfl rfl rfl) ?_
        refine Run.on rfl rfl rfl hb4 (Ev.load X rfl rfl rfl) ?_
        refine Run.on rfl rfl rfl hb4 (Ev.int rfl rfl rfl rfl trivial) ?_
        refine Run.go (Ev.pickT rfl hb4 rfl rfl) ?_
        refine Run.nil ?_
        cases h
        exact ⟨(), trivial, Ghost.only [] [0, 3, 15] rfl⟩
      · replace h := ifF hb4 h
        refine Run.offT rfl rfl rfl rfl hb4 ?_
        refine Run.offT rfl rfl rfl rfl hb4 ?_
        refine Run.offT rfl rfl rfl rfl hb4 ?_
        refine Run.offT rfl rfl rfl rfl hb4 ?_
        refine Run.offT rfl rfl rfl rfl hb4 ?_
        refine Run.offT rfl rfl rfl rfl hb4 ?_
        refine Run.go (Ev.pickF rfl hb4 rfl rfl) ?_
        refine Run.nil ?_
        cases h
        exact ⟨(), trivial, Ghost.only [] [0, 3, 15] rfl⟩
    · refine T.cond rfl (fun hb7 => ?_) (fun hb7 => ?_)
      · replace h := ifT hb7 h
        refine T.skip ?_
        refine T.block ?_
        refine T.region ?_
        refine Run.go (Ev.move rfl rfl) ?_
        refine Run.go (Ev.int rfl rfl rfl rfl trivial) ?_
        refine Run.go (Ev.assign rfl rfl) ?_
        refine Run.nil ?_
        cases h
        exact LoopT.ghost (Ghost.only [] [0, 3] rfl) hz1
      · replace h := ifF hb7 h
        refine T.exit ?_
        cases h
        cases hz1
        exact ⟨(), trivial, Ghost.only [] [0, 3] rfl⟩
  · refine T.seq ?_
    refine T.region ?_
    refine Run.go (Ev.move rfl rfl) ?_
    refine Run.go (Ev.move rfl rfl) ?_
    obtain ⟨x8, e9, h⟩ := bdS h
    refine Run.go (Ev.e_ct X e9 rfl rfl rfl (fun _ h => by cases h) (fun _ => rfl) (fun _ _ => cutAt_of rfl) (fun h => by cases h)) ?_
    refine Run.go (Ev.assign rfl rfl) ?_
    refine Run.nil ?_
    refine T.ret ?_
    cases h
    exact Fin.one rfl .v
theorem en123 : Enters Tryz.prog 123 := ⟨_, Tryz.func123, rfl, rfl⟩
theorem k_nat_Make {p0 : (List Int)} {y : (List Int) × Int} (h : m_nat_Make p0 = some y) : Spec Tryz.prog 123 [(.v (.sl (.int .u64)) p0)] (.tup [.v (.sl (.int .u64)) y.1, .v (.int .i64) y.2]) [] := by
  rw [m_nat_Make] at h
  refine enterN [(.v (.sl (.int .u64)) p0)] 25 Tryz.func123 rfl rfl rfl ?_
  refine T.seq ?_
  refine T.region ?_
  refine Run.go (Ev.assign rfl rfl) ?_
  refine Run.go (Ev.assign rfl rfl) ?_
  refine Run.nil ?_
  refine T.seq ?_
  refine T.region ?_
  refine Run.go (Ev.move rfl rfl) ?_
  refine Run.go (Ev.len X rfl rfl rfl rfl) ?_
  obtain ⟨x1, e2, h⟩ := bdS h
  refine Run.go (Ev.e_mk X 1 e2 rfl rfl rfl rfl rfl rfl) ?_
  refine Run.go (Ev.assign rfl rfl) ?_
  refine Run.nil ?_
  refine T.seq ?_
  refine T.seq ?_
  refine T.region ?_
  refine Run.go (Ev.move rfl rfl) ?_
  refine Run.go (Ev.len X rfl rfl rfl rfl) ?_
  refine Run.go (Ev.move rfl rfl) ?_
  refine Run.nil ?_
  refine T.block ?_
  refine T.loop (LoopT.ghost (Ghost.only [(1, 5)] [4, 10, 11, 12] rfl) (LoopT.run (fun q : Int × (List Int) => (⟨[(4, .own 5), (10, .v (.sl (.int .u64)) p0), (11, .v (.int .i64) ((p0.length : Int) : Int)), (12, .v (.int .i64) q.1)], [(5, .arr 77 (.int .u64) q.2)], 25⟩ : St)) (fun q z1 h hz1 => ?_) h))
  obtain ⟨v3, v4⟩ := q
  dsimp only
  rw [m_nat_Make_l1] at h
  refine T.seq ?_
  refine T.region ?_
  refine Run.go (Ev.int rfl rfl rfl rfl trivial) ?_
  refine Run.nil ?_
  refine T.seq ?_
  refine T.cond rfl (fun hb5 => ?_) (fun hb5 => ?_)
  · replace h := ifT hb5 h
    refine T.skip ?_
    refine T.seq ?_
    refine T.block ?_
    refine T.seq ?_
    refine T.region ?_
    obtain ⟨x6, e7, h⟩ := bdS h
    refine Run.go (Ev.e_rd X e7 rfl rfl rfl rfl) ?_
    refine Run.go (Ev.load X rfl rfl rfl) ?_
    refine Run.go (Ev.assign rfl rfl) ?_
    refine Run.nil ?_
    refine T.seq ?_
    refine T.seq ?_
    refine T.region ?_
    refine Run.go (Ev.move rfl rfl) ?_
    refine Run.go (Ev.int rfl rfl rfl rfl trivial) ?_
    refine Run.nil ?_
    refine T.cond rfl (fun hb8 => ?_) (fun hb8 => ?_)
    · replace h := ifT hb8 h
      refine T.seq ?_
      refine T.region ?_
      refine Run.go (Ev.assign rfl rfl) ?_
      refine Run.go (Ev.assign rfl rfl) ?_
      refine Run.nil ?_
      refine T.ret ?_
      cases h
      cases hz1
      exact Fin.many X rfl (.cons (.tmp .nilv) (.cons (.tmp .v) .nil)) rfl
    · replace h := ifF hb8 h
      refine T.skip ?_
      refine T.region ?_
      refine Run.go (Ev.move rfl rfl) ?_
      refine Run.go (Ev.move rfl rfl) ?_
      refine Run.go (Ev.build X 9 rfl rfl rfl rfl rfl rfl rfl rfl) ?_
      obtain ⟨x9, e10, h⟩ := bdS h
      refine Run.go (Ev.e_ap X 10 e10 rfl rfl rfl (.own rfl) rfl rfl rfl rfl rfl) ?_
      refine Run.go (Ev.assign rfl rfl) ?_
      refine Run.nil ?_
      refine T.region ?_
      refine Run.go (Ev.int rfl rfl rfl rfl trivial) ?_
      refine Run.go (Ev.move rfl rfl) ?_
      refine Run.nil ?_
      cases h
      exact LoopT.ghost (Ghost.only [(10, 5)] [4, 10, 11, 12] rfl) hz1
  · replace h := ifF hb5 h
    refine T.exit ?_
    refine T.seq ?_
    refine T.region ?_
    refine Run.go (Ev.move rfl rfl) ?_
    refine Run.ghost (Ghost.firmAll (id := 5) rfl) ?_
    obtain ⟨x11, e12, h⟩ := bdS h
    refine Run.go (Ev.callC en116 (k_nat_trim e12) rfl (.cons .v .nil) rfl rfl) ?_
    refine Run.go (Ev.assign rfl rfl) ?_
    refine Run.go (Ev.assign rfl rfl) ?_
    refine Run.nil ?_
    refine T.ret ?_
    cases h
    cases hz1
    exact Fin.many X rfl (.cons (.tmp .v) (.cons (.tmp .v) .nil)) rfl
theorem en132 : Enters Tryz.prog 132 := ⟨_, Tryz.func132, rfl, rfl⟩
theorem k_limb_Div {p0 : Int} {p1 : Int} {p2 : Int} {y : Int × Int × Int} (h : m_limb_Div p0 p1 p2 = some y) : Spec Tryz.prog 132 [(.v (.int .u64) p0), (.v (.int .u64) p1), (.v (.int .u64) p2)] (.tup [.v (.int .u64) y.1, .v (.int .u64) y.2.1, .v (.int .i64) y.2.2]) [] := by
  rw [m_limb_Div] at h
  refine enterN [(.v (.int .u64) p0), (.v (.int .u64) p1), (.v (.int .u64) p2)] 33 Tryz.func132 rfl rfl rfl ?_
  refine T.seq ?_
  refine T.region ?_
  refine Run.go (Ev.assign rfl rfl) ?_
  refine Run.go (Ev.assign rfl rfl) ?_
  refine Run.go (Ev.assign rfl rfl) ?_
  refine Run.nil ?_
  refine T.seq ?_
  refine T.region ?_
  refine Run.go (Ev.move rfl rfl) ?_
  refine Run.go (Ev.int rfl rfl rfl rfl trivial) ?_
  refine Run.go (Ev.move rfl rfl) ?_
  refine Run.go (Ev.int rfl rfl rfl rfl trivial) ?_
  refine Run.go (Ev.move rfl rfl) ?_
  refine Run.go (Ev.int rfl rfl rfl rfl trivial) ?_
  refine Run.go (Ev.assign rfl rfl) ?_
  refine Run.go (Ev.assign rfl rfl) ?_
  refine Run.go (Ev.assign rfl rfl) ?_
  refine Run.nil ?_
  refine T.seq ?_
  refine T.block ?_
  refine T.seq ?_
  refine T.region ?_
  refine Run.go (Ev.move rfl rfl) ?_
  refine Run.go (Ev.int rfl rfl rfl rfl trivial) ?_
  obtain ⟨x1, e2, h⟩ := ltS h
  refine Run.go (Ev.avs (Ev.assign rfl rfl) e2) ?_
  refine Run.nil ?_
  refine T.cond rfl (fun hb3 => ?_) (fun hb3 => ?_)
  · replace h := ifT hb3 h
    refine T.seq ?_
    refine T.region ?_
    refine Run.go (Ev.assign rfl rfl) ?_
    refine Run.go (Ev.assign rfl rfl) ?_
    refine Run.go (Ev.assign rfl rfl) ?_
    refine Run.nil ?_
    refine T.ret ?_
    cases h
    exact Fin.many X rfl (.cons (.tmp .v) (.cons (.tmp .v) (.cons (.tmp .v) .nil))) rfl
  · replace h := ifF hb3 h
    refine T.seq ?_
    refine T.region ?_
    refine Run.go (Ev.move rfl rfl) ?_
    refine Run.go (Ev.move rfl rfl) ?_
    refine Run.go (Ev.int rfl rfl rfl rfl trivial) ?_
    obtain ⟨x4, e5, h⟩ := ltS h
    refine Run.go (Ev.avs (Ev.assign rfl rfl) e5) ?_
    refine Run.nil ?_
    refine T.cond rfl (fun hb6 => ?_) (fun hb6 => ?_)
    · replace h := ifT hb6 h
      refine T.seq ?_
      refine T.region ?_
      refine Run.go (Ev.assign rfl rfl) ?_
      refine Run.go (Ev.assign rfl rfl) ?_
      refine Run.go (Ev.assign rfl rfl) ?_
      refine Run.nil ?_
      refine T.ret ?_
      cases h
      exact Fin.many X rfl (.cons (.tmp .v) (.cons (.tmp .v) (.cons (.tmp .v) .nil))) rfl
    · replace h := ifF hb6 h
      refine T.skip ?_
      refine T.seq ?_
      refine T.region ?_
      refine Run.go (Ev.move rfl rfl) ?_
      obtain ⟨x7, e8, h⟩ := bdS h
      refine Run.go (Ev.e_sh e8 rfl rfl rfl) ?_
      refine Run.go (Ev.move rfl rfl) ?_
      refine Run.go (Ev.int rfl rfl rfl rfl trivial) ?_
      obtain ⟨x9, e10, h⟩ := ltS h
      refine Run.go (Ev.avs (Ev.assign rfl rfl) e10) ?_
      refine Run.nil ?_
      refine T.seq ?_
      refine T.drawM [] [0, 0, 3, 0, 0, 24, 7, 127, 255] (by kernel_rfl) (by kernel_rfl) ?_
      refine RunD.w (fun _ => Ev.move rfl rfl) ?_
      refine RunD.w (fun _ => Ev.move rfl rfl) ?_
      obtain ⟨x11, e12, h⟩ := bdS h
      refine RunD.w (fun _ => Ev.e_qd e12 rfl rfl rfl) ?_
      refine RunD.w (fun _ => Ev.move rfl rfl) ?_
      refine RunD.w (fun _ => Ev.move rfl rfl) ?_
      obtain ⟨x13, e14, h⟩ := bdS h
      refine RunD.w (fun _ => Ev.e_rm e14 rfl rfl rfl) ?_
      refine RunD.w (fun _ => Ev.assign rfl rfl) ?_
      refine RunD.w (fun _ => Ev.assign rfl rfl) ?_
      refine RunD.w (fun _ => Ev.assign rfl rfl) ?_
      refine RunD.nil ?_
      refine T.ret ?_
      cases h
      exact Fin.many X rfl (.cons (.tmp .v) (.cons (.tmp .v) (.cons (.tmp .v) .nil))) rfl
theorem en124 : Enters Tryz.prog 124 := ⟨_, Tryz.func124, rfl, rfl⟩
theorem k_divide_Small {p0 : (List Int)} {p1 : Int} {y : (List Int) × Int × Int} (h : m_divide_Small p0 p1 = some y) : Spec Tryz.prog 124 [(.v (.sl (.int .u64)) p0), (.v (.int .u64) p1)] (.tup [.v (.sl (.int .u64)) y.1, .v (.int .u64) y.2.1, .v (.int .i64) y.2.2]) [] := by
  rw [m_divide_Small] at h
  refine enterN [(.v (.sl (.int .u64)) p0), (.v (.int .u64) p1)] 51 Tryz.func124 rfl rfl rfl ?_
  refine T.seq ?_
  refine T.region ?_
  refine Run.go (Ev.assign rfl rfl) ?_
  refine Run.go (Ev.assign rfl rfl) ?_
  refine Run.go (Ev.assign rfl rfl) ?_
  refine Run.nil ?_
  refine T.seq ?_
  refine T.seq ?_
  refine T.region ?_
  refine Run.go (Ev.move rfl rfl) ?_
  obtain ⟨x1, e2, h⟩ := bdS h
  refine Run.go (Ev.e_rm e2 rfl rfl rfl) ?_
  refine Run.go (Ev.int rfl rfl rfl rfl trivial) ?_
  refine Run.nil ?_
  refine T.cond rfl (fun hb3 => ?_) (fun hb3 => ?_)
  · replace h := ifT hb3 h
    refine T.seq ?_
    refine T.region ?_
    refine Run.go (Ev.assign rfl rfl) ?_
    refine Run.go (Ev.assign rfl rfl) ?_
    refine Run.go (Ev.assign rfl rfl) ?_
    refine Run.nil ?_
    refine T.ret ?_
    cases h
    exact Fin.many X rfl (.cons (.tmp .nilv) (.cons (.tmp .v) (.cons (.tmp .v) .nil))) rfl
  · replace h := ifF hb3 h
    refine T.skip ?_
    refine T.seq ?_
    refine T.region ?_
    refine Run.go (Ev.move rfl rfl) ?_
    refine Run.go (Ev.len X rfl rfl rfl rfl) ?_
    obtain ⟨x4, e5, h⟩ := bdS h
    refine Run.go (Ev.e_mk X 1 e5 rfl rfl rfl rfl rfl rfl) ?_
    refine Run.go (Ev.assign rfl rfl) ?_
    refine Run.nil ?_
    refine T.seq ?_
    refine T.region ?_
    refine Run.go (Ev.assign rfl rfl) ?_
    refine Run.nil ?_
    obtain ⟨⟨v6, v7⟩, hv, h⟩ := bdS h
    refine T.cut (fun _ : Unit => (⟨[(7, .own 1), (8, .v (.int .u64) v6)], [(1, .arr 77 (.int .u64) v7)], 51⟩ : St)) (fun _ => True) ?_ (fun _ _ => ?_)
    · replace h := hv
      clear hv
      refine T.seq ?_
      refine T.region ?_
      refine Run.go (Ev.move rfl rfl) ?_
      refine Run.go (Ev.len X rfl rfl rfl rfl) ?_
      refine Run.go (Ev.move rfl rfl) ?_
      refine Run.nil ?_
      refine T.block ?_
      refine T.loop (LoopT.ghost (Ghost.only [(1, 1)] [0, 1, 7, 8, 20, 21] rfl) (LoopT.run (fun q : Int × Int × (List Int) => (⟨[(0, .v (.sl (.int .u64)) p0), (1, .v (.int .u64) p1), (7, .own 1), (8, .v (.int .u64) q.1), (20, .v (.int .i64) ((p0.length : Int) : Int)), (21, .v (.int .i64) q.2.1)], [(1, .arr 77 (.int .u64) q.2.2)], 51⟩ : St)) (fun q z1 h hz1 => ?_) h))
      obtain ⟨v8, v9, v10⟩ := q
      dsimp only
      rw [m_divide_Small_l1] at h
      refine T.seq ?_
      refine T.region ?_
      refine Run.go (Ev.int rfl rfl rfl rfl trivial) ?_
      refine Run.nil ?_
      refine T.seq ?_
      refine T.cond rfl (fun hb11 => ?_) (fun hb11 => ?_)
      · replace h := ifT hb11 h
        refine T.skip ?_
        refine T.seq ?_
        refine T.block ?_
        refine T.seq ?_
        refine T.region ?_
        refine Run.go (Ev.move rfl rfl) ?_
        refine Run.go (Ev.assign rfl rfl) ?_
        refine Run.nil ?_
        refine T.seq ?_
        refine T.region ?_
        refine Run.go (Ev.move rfl rfl) ?_
        refine Run.go (Ev.len X rfl rfl rfl rfl) ?_
        refine Run.go (Ev.int rfl rfl rfl rfl trivial) ?_
        refine Run.go (Ev.move rfl rfl) ?_
        refine Run.go (Ev.int rfl rfl rfl rfl trivial) ?_
        obtain ⟨x12, e13, h⟩ := ltS h
        refine Run.go (Ev.avs (Ev.assign rfl rfl) e13) ?_
        refine Run.nil ?_
        refine T.region ?_
        refine Run.go (Ev.move rfl rfl) ?_
        refine Run.go (Ev.move rfl rfl) ?_
        refine Run.go (Ev.move rfl rfl) ?_
        refine Run.go (Ev.move rfl rfl) ?_
        refine Run.go (Ev.move rfl rfl) ?_
        obtain ⟨x14, e15, h⟩ := bdS h
        refine Run.go (Ev.e_rd X e15 rfl rfl rfl rfl) ?_
        refine Run.go (Ev.load X rfl rfl rfl) ?_
        refine Run.go (Ev.move rfl rfl) ?_
        obtain ⟨x16, e17, h⟩ := bdS h
        refine Run.go (Ev.callC en132 (k_limb_Div e17) rfl (.cons .v (.cons .v (.cons .v .nil))) rfl rfl) ?_
        refine Run.go (Ev.move rfl rfl) ?_
        refine Run.go (Ev.extract rfl rfl rfl) ?_
        refine Run.go (Ev.extract rfl rfl rfl) ?_
        refine Run.go (Ev.extract rfl rfl rfl) ?_
        obtain ⟨j18, e19, h⟩ := bdS h
        refine Run.go (Ev.e_ixO X e19 rfl rfl rfl rfl rfl) ?_
        obtain ⟨x20, e21, h⟩ := ltS h
        refine Run.do_ (Ev.asO (Ev.storeEl X rfl rfl rfl rfl rfl) e21) ?_
        refine Run.go (Ev.assign rfl rfl) ?_
        refine Run.nil ?_
        refine T.region ?_
        refine Run.go (Ev.int rfl rfl rfl rfl trivial) ?_
        refine Run.go (Ev.move rfl rfl) ?_
        refine Run.nil ?_
        cases h
        exact LoopT.ghost (Ghost.only [(1, 1)] [0, 1, 7, 8, 20, 21] rfl) hz1
      · replace h := ifF hb11 h
        refine T.exit ?_
        cases h
        cases hz1
        exact ⟨(), trivial, Ghost.only [(1, 1)] [7, 8] rfl⟩
    · refine T.seq ?_
      refine T.region ?_
      refine Run.go (Ev.move rfl rfl) ?_
      refine Run.ghost (Ghost.firmAll (id := 1) rfl) ?_
      obtain ⟨x22, e23, h⟩ := bdS h
      refine Run.go (Ev.callC en123 (k_nat_Make e23) rfl (.cons .v .nil) rfl rfl) ?_
      refine Run.go (Ev.move rfl rfl) ?_
      refine Run.go (Ev.extract rfl rfl rfl) ?_
      refine Run.go (Ev.extract rfl rfl rfl) ?_
      refine Run.go (Ev.assign rfl rfl) ?_
      refine Run.go (Ev.assign rfl rfl) ?_
      refine Run.nil ?_
      refine T.seq ?_
      refine T.region ?_
      refine Run.go (Ev.move rfl rfl) ?_
      refine Run.go (Ev.move rfl rfl) ?_
      refine Run.go (Ev.assign rfl rfl) ?_
      refine Run.go (Ev.assign rfl rfl) ?_
      refine Run.go (Ev.assign rfl rfl) ?_
      refine Run.nil ?_
      refine T.ret ?_
      cases h
      exact Fin.many X rfl (.cons (.tmp .v) (.cons (.tmp .v) (.cons (.tmp .v) .nil))) rfl
theorem en125 : Enters Tryz.prog 125 := ⟨_, Tryz.func125, rfl, rfl⟩
theorem k_digits_piece {p0 : Int} {p1 : Int} {p2 : Int} {y : ByteArray} (h : m_digits_piece p0 p1 p2 = some y) : Spec Tryz.prog 125 [(.v (.int .u64) p0), (.v (.int .i64) p1), (.v (.int .i64) p2)] (.v .str y) [] := by
  rw [m_digits_piece] at h
  refine enterN [(.v (.int .u64) p0), (.v (.int .i64) p1), (.v (.int .i64) p2)] 33 Tryz.func125 rfl rfl rfl ?_
  refine T.seq ?_
  refine T.region ?_
  refine Run.go (Ev.assign rfl rfl) ?_
  refine Run.nil ?_
  refine T.seq ?_
  refine T.region ?_
  refine Run.go (Ev.move rfl rfl) ?_
  obtain ⟨x1, e2, h⟩ := bdS h
  refine Run.go (Ev.e_mk X 1 e2 rfl rfl rfl rfl rfl rfl) ?_
  refine Run.go (Ev.assign rfl rfl) ?_
  refine Run.nil ?_
  obtain ⟨v3, hv, h⟩ := bdS h
  refine T.cut (fun _ : Unit => (⟨[(7, .own 1)], [(1, .arr 5 (.int .u8) v3)], 33⟩ : St)) (fun _ => True) ?_ (fun _ _ => ?_)
  · replace h := hv
    clear hv
    refine T.seq ?_
    refine T.region ?_
    refine Run.go (Ev.move rfl rfl) ?_
    refine Run.go (Ev.move rfl rfl) ?_
    refine Run.nil ?_
    refine T.block ?_
    refine T.loop (LoopT.ghost (Ghost.only [(1, 1)] [0, 1, 2, 7, 11, 12] rfl) (LoopT.run (fun q : Int × Int × (List Int) => (⟨[(0, .v (.int .u64) q.1), (1, .v (.int .i64) p1), (2, .v (.int .i64) p2), (7, .own 1), (11, .v (.int .i64) p2), (12, .v (.int .i64) q.2.1)], [(1, .arr 5 (.int .u8) q.2.2)], 33⟩ : St)) (fun q z1 h hz1 => ?_) h))
    obtain ⟨v4, v5, v6⟩ := q
    dsimp only
    rw [m_digits_piece_l1] at h
    refine T.seq ?_
    refine T.region ?_
    refine Run.go (Ev.int rfl rfl rfl rfl trivial) ?_
    refine Run.nil ?_
    refine T.seq ?_
    refine T.cond rfl (fun hb7 => ?_) (fun hb7 => ?_)
    · replace h := ifT hb7 h
      refine T.skip ?_
      refine T.seq ?_
      refine T.block ?_
      refine T.seq ?_
      refine T.region ?_
      refine Run.go (Ev.move rfl rfl) ?_
      refine Run.go (Ev.assign rfl rfl) ?_
      refine Run.nil ?_
      refine T.seq ?_
      refine T.region ?_
      refine Run.go (Ev.move rfl rfl) ?_
      refine Run.go (Ev.move rfl rfl) ?_
      refine Run.go (Ev.int rfl rfl rfl rfl trivial) ?_
      refine Run.go (Ev.move rfl rfl) ?_
      refine Run.go (Ev.int rfl rfl rfl rfl trivial) ?_
      refine Run.go (Ev.move rfl rfl) ?_
      refine Run.go (Ev.move rfl rfl) ?_
      refine Run.go (Ev.conv X rfl rfl rfl rfl) ?_
      obtain ⟨x8, e9, h⟩ := bdS h
      refine Run.go (Ev.e_rm e9 rfl rfl rfl) ?_
      obtain ⟨x10, e11, h⟩ := bdS h
      refine Run.go (Ev.e_bt X e11 rfl rfl rfl rfl) ?_
      obtain ⟨j12, e13, h⟩ := bdS h
      refine Run.go (Ev.e_ixO X e13 rfl rfl rfl rfl rfl) ?_
      obtain ⟨x14, e15, h⟩ := ltS h
      refine Run.do_ (Ev.asO (Ev.storeEl X rfl rfl rfl rfl rfl) e15) ?_
      refine Run.nil ?_
      refine T.region ?_
      refine Run.go (Ev.move rfl rfl) ?_
      refine Run.go (Ev.move rfl rfl) ?_
      refine Run.go (Ev.conv X rfl rfl rfl rfl) ?_
      obtain ⟨x16, e17, h⟩ := bdS h
      refine Run.go (Ev.e_qd e17 rfl rfl rfl) ?_
      refine Run.go (Ev.assign rfl rfl) ?_
      refine Run.nil ?_
      refine T.region ?_
      refine Run.go (Ev.int rfl rfl rfl rfl trivial) ?_
      refine Run.go (Ev.move rfl rfl) ?_
      refine Run.nil ?_
      cases h
      exact LoopT.ghost (Ghost.only [(1, 1)] [0, 1, 2, 7, 11, 12] rfl) hz1
    · replace h := ifF hb7 h
      refine T.exit ?_
      cases h
      cases hz1
      exact ⟨(), trivial, Ghost.only [(1, 1)] [7] rfl⟩
  · refine T.seq ?_
    refine T.region ?_
    refine Run.go (Ev.move rfl rfl) ?_
    refine Run.ghost (Ghost.firmAll (id := 1) rfl) ?_
    refine Run.go (Ev.e_b2s (e := 0) X rfl rfl rfl rfl) ?_
    refine Run.go (Ev.assign rfl rfl) ?_
    refine Run.nil ?_
    refine T.ret ?_
    cases h
    exact Fin.one rfl .v
theorem k_strings_Builder_copyCheck_M {o1_0 : Bool} {o2 : (List Int)} {y : Bool} (h : m_strings_Builder_copyCheck_M o1_0 o2 = some y) : SpecM Tryz.prog 94 [(.box 1 0)] [(1, .box [.pn o1_0 1 0 121, .owz 2]), (2, .arr 5 (.int .u8) o2)] (.tup []) [(1, .box [.pn y 1 0 121, .owz 2]), (2, .arr 5 (.int .u8) o2)] := by
  rw [m_strings_Builder_copyCheck_M] at h
  refine SpecM.enter 100000 [(.box 1 0)] 20 Tryz.func94 rfl rfl rfl rfl (fun L => ?_)
  refine T.seq ?_
  refine T.region ?_
  refine Run.go (Ev.move rfl rfl) ?_
  refine Run.go (Ev.e_nc rfl rfl rfl rfl) ?_
  refine Run.go (Ev.fieldBoxN fo121_0 sz118 rfl rfl rfl rfl) ?_
  refine Run.go (Ev.loadOne sz118 rfl rfl rfl rfl) ?_
  refine Run.go (Ev.e_pnil pt118 (.inl ⟨rfl, rfl⟩) rfl (.pn rfl) rfl rfl) ?_
  refine Run.nil ?_
  refine T.cond rfl (fun hb1 => ?_) (fun hb1 => ?_)
  · replace h := ifT hb1 h
    refine T.region ?_
    refine Run.go (Ev.move rfl rfl) ?_
    refine Run.go (Ev.move rfl rfl) ?_
    refine Run.go (Ev.e_toU up118_161 rfl rfl rfl rfl) ?_
    refine Run.go (Ev.e_noesc ne106 rfl rfl rfl) ?_
    refine Run.go (Ev.e_fromU ul161_118_121_2 rfl rfl rfl) ?_
    refine Run.go (Ev.e_nc rfl rfl rfl rfl) ?_
    refine Run.go (Ev.fieldBoxN fo121_0 sz118 rfl rfl rfl rfl) ?_
    refine Run.do_ (Ev.e_stPn sz118 rfl rfl rfl) ?_
    refine Run.nil ?_
    cases h
    exact FinM.of 100000 [(1, 1), (2, 2)] (inlR.many' (X := X) rfl .nil rfl) rfl rfl rfl rfl ⟨(.inl ⟨rfl, _, rfl, .box, fun _ => rfl⟩), (.inl ⟨rfl, _, rfl, .refl, fun _ => rfl⟩), trivial⟩
  · replace h := ifF hb1 h
    refine T.seq ?_
    refine T.region ?_
    refine Run.go (Ev.move rfl rfl) ?_
    refine Run.go (Ev.e_nc rfl rfl rfl rfl) ?_
    refine Run.go (Ev.fieldBoxN fo121_0 sz118 rfl rfl rfl rfl) ?_
    refine Run.go (Ev.loadOne sz118 rfl rfl rfl rfl) ?_
    refine Run.go (Ev.move rfl rfl) ?_
    refine Run.go (Ev.e_pself pt118 (.inr ⟨rfl, rfl⟩) rfl rfl rfl rfl) ?_
    refine Run.nil ?_
    refine T.condF rfl hb1 ?_
    refine T.skip ?_
    cases h
    exact FinM.of 100000 [(1, 1), (2, 2)] (inlR.many' (X := X) rfl .nil rfl) rfl rfl rfl rfl ⟨(.inl ⟨rfl, _, rfl, .box, fun _ => rfl⟩), (.inl ⟨rfl, _, rfl, .refl, fun _ => rfl⟩), trivial⟩
theorem k_strings_Builder_WriteString_M {p1 : ByteArray} {o1_0 : Bool} {o2 : (List Int)} {y : Bool × (List Int)} (h : m_strings_Builder_WriteString_M p1 o1_0 o2 = some y) : SpecM Tryz.prog 66 [(.box 1 0), (.v .str p1)] [(1, .box [.pn o1_0 1 0 121, .owz 2]), (2, .arr 5 (.int .u8) o2)] (.tup [.v (.int .i64) ((p1.size : Int) : Int), .bot]) [(1, .box [.pn y.1 1 0 121, .owz 4]), (2, .dead), (4, .arr 5 (.int .u8) y.2)] := by
  rw [m_strings_Builder_WriteString_M] at h
  refine SpecM.enter 100000 [(.box 1 0), (.v .str p1)] 19 Tryz.func66 rfl rfl rfl rfl (fun L => ?_)
  refine T.seq ?_
  refine T.region ?_
  refine Run.go (Ev.assign rfl rfl) ?_
  refine Run.go (Ev.assign rfl rfl) ?_
  refine Run.nil ?_
  refine T.seq ?_
  refine T.region ?_
  refine Run.go (Ev.move rfl rfl) ?_
  obtain ⟨x2, e1, h⟩ := bdS h
  refine Run.go (Ev.w2 (Ev.lendM [(1, 1), (2, 2)] [(1, 1), (2, 2)] en94 (k_strings_Builder_copyCheck_M e1) rfl (.cons (.ren rfl) .nil) rfl rfl rfl rfl rfl (A := .tup []) rfl (W := [(1, .box [.pn x2 1 0 121, .owz 2]), (2, .arr 5 (.int .u8) o2)]) rfl rfl)) ?_
  refine Run.nil ?_
  refine T.seq ?_
  refine T.region ?_
  refine Run.go (Ev.move rfl rfl) ?_
  refine Run.go (Ev.move rfl rfl) ?_
  refine Run.go (Ev.e_nc rfl rfl rfl rfl) ?_
  refine Run.go (Ev.fieldBoxN fo121_1 sz119 rfl rfl rfl rfl) ?_
  refine Run.go (Ev.loadCell X rfl rfl rfl rfl rfl rfl) ?_
  refine Run.go (Ev.move rfl rfl) ?_
  obtain ⟨x3, e4, h⟩ := bdS h
  refine Run.go (Ev.e_apZ X 6 e4 rfl rfl rfl rfl rfl rfl rfl rfl) ?_
  refine Run.go (Ev.e_nc rfl rfl rfl rfl) ?_
  refine Run.go (Ev.fieldBoxN fo121_1 sz119 rfl rfl rfl rfl) ?_
  refine Run.do_ (Ev.storeC sz119 rfl rfl rfl rfl rfl rfl) ?_
  refine Run.nil ?_
  refine T.seq ?_
  refine T.region ?_
  refine Run.go (Ev.move rfl rfl) ?_
  refine Run.go (Ev.len X rfl rfl rfl rfl) ?_
  refine Run.go (Ev.assign rfl rfl) ?_
  refine Run.go (Ev.assign rfl rfl) ?_
  refine Run.nil ?_
  refine T.ret ?_
  cases h
  exact FinM.of 100000 [(1, 1), (900002, 2), (6, 4)] (inlR.many' (X := X) rfl (.cons (.tmp rfl) (.cons .bot .nil)) rfl) rfl rfl rfl rfl ⟨(.inl ⟨rfl, _, rfl, .box, fun _ => rfl⟩), (.inr rfl), trivial⟩
theorem k_strings_Builder_String_M {o1_0 : Bool} {o2 : (List Int)} {y : ByteArray} (h : m_strings_Builder_String_M o1_0 o2 = some y) : SpecM Tryz.prog 67 [(.box 1 0)] [(1, .box [.pn o1_0 1 0 121, .owz 2]), (2, .arr 5 (.int .u8) o2)] (.v .str y) [(1, .box [.pn o1_0 1 0 121, .bot]), (2, .dead)] := by
  rw [m_strings_Builder_String_M] at h
  refine SpecM.enter 100000 [(.box 1 0)] 14 Tryz.func67 rfl rfl rfl rfl (fun L => ?_)
  refine T.seq ?_
  refine T.region ?_
  refine Run.go (Ev.assign rfl rfl) ?_
  refine Run.nil ?_
  refine T.seq ?_
  refine T.drawE [([1], []), ([1], []), ([1], []), ([1], []), ([2], []), ([1], []), ([1], []), ([1], []), ([1], []), ([2], []), ([2], [2]), ([], [])] [0, 1, 3, 7, 15, 0, 32, 96, 224, 480, 1023, 2047] (by kernel_rfl) (by kernel_rfl) ?_
  refine RunE.go0 [1] (fun ô hô => Ev.move rfl rfl) rfl rfl ?_
  refine RunE.go0 [1] (fun ô hô => Ev.e_nc rfl (one_box (ka hô rfl rfl)) rfl rfl) rfl rfl ?_
  refine RunE.go0 [1] (fun ô hô => Ev.fieldBoxN fo121_1 sz119 rfl (ka hô rfl rfl) rfl rfl) rfl rfl ?_
  refine RunE.go0 [1] (fun ô hô => Ev.loadCell X rfl (ka hô rfl rfl) rfl rfl rfl rfl) rfl rfl ?_
  rcases boolCases (decide (o2.length = 0)) with hb1 | hb1
  · replace h := ifT hb1 h
    refine RunE.go0 [2] (fun ô hô => Ev.e_usd0 X hb1 rfl (ka hô rfl rfl) rfl) rfl rfl ?_
    refine RunE.go0 [1] (fun ô hô => Ev.move rfl rfl) rfl rfl ?_
    refine RunE.go0 [1] (fun ô hô => Ev.e_nc rfl (one_box (ka hô rfl rfl)) rfl rfl) rfl rfl ?_
    refine RunE.go0 [1] (fun ô hô => Ev.fieldBoxN fo121_1 sz119 rfl (ka hô rfl rfl) rfl rfl) rfl rfl ?_
    refine RunE.go0 [1] (fun ô hô => Ev.loadCell X rfl (ka hô rfl rfl) rfl rfl rfl rfl) rfl rfl ?_
    refine RunE.go0 [2] (fun ô hô => Ev.e_lenZ X rfl (ka hô rfl rfl) rfl rfl) rfl rfl ?_
    refine RunE.go1 [2] (fun ô hô => Ev.e_ust0 (id := 2) hb1 rfl rfl rfl) rfl rfl ?_
    refine RunE.go0 [] (fun ô hô => Ev.assign rfl rfl) rfl rfl ?_
    refine RunE.nil ?_
    refine T.ret ?_
    cases h
    exact FinM.of 100000 [(1, 1), (900002, 2)] (inlR.one' (X := X) rfl (.tmp rfl)) rfl rfl rfl rfl ⟨(.inl ⟨rfl, _, rfl, .box, fun _ => rfl⟩), (.inr rfl), trivial⟩
  · replace h := ifF hb1 h
    refine RunE.go0 [2] (fun ô hô => Ev.e_usd X hb1 rfl (ka hô rfl rfl) rfl) rfl rfl ?_
    refine RunE.go0 [1] (fun ô hô => Ev.move rfl rfl) rfl rfl ?_
    refine RunE.go0 [1] (fun ô hô => Ev.e_nc rfl (one_box (ka hô rfl rfl)) rfl rfl) rfl rfl ?_
    refine RunE.go0 [1] (fun ô hô => Ev.fieldBoxN fo121_1 sz119 rfl (ka hô rfl rfl) rfl rfl) rfl rfl ?_
    refine RunE.go0 [1] (fun ô hô => Ev.loadCell X rfl (ka hô rfl rfl) rfl rfl rfl rfl) rfl rfl ?_
    refine RunE.go0 [2] (fun ô hô => Ev.e_lenZ X rfl (ka hô rfl rfl) rfl rfl) rfl rfl ?_
    obtain ⟨x2, e3, h⟩ := bdS h
    refine RunE.go1 [2] (fun ô hô => Ev.e_ust us153_5 e3 rfl (ka hô rfl rfl) rfl rfl rfl) rfl rfl ?_
    refine RunE.go0 [] (fun ô hô => Ev.assign rfl rfl) rfl rfl ?_
    refine RunE.nil ?_
    refine T.ret ?_
    cases h
    exact FinM.of 100000 [(1, 1), (900002, 2)] (inlR.one' (X := X) rfl (.tmp rfl)) rfl rfl rfl rfl ⟨(.inl ⟨rfl, _, rfl, .box, fun _ => rfl⟩), (.inr rfl), trivial⟩
theorem en133 : Enters Tryz.prog 133 := ⟨_, Tryz.func133, rfl, rfl⟩
theorem k_strings_trimLeftByte {p0 : ByteArray} {p1 : Int} {y : ByteArray} (h : m_strings_trimLeftByte p0 p1 = some y) : Spec Tryz.prog 133 [(.v .str p0), (.v (.int .u8) p1)] (.v .str y) [] := by
  rw [m_strings_trimLeftByte] at h
  refine enterN [(.v .str p0), (.v (.int .u8) p1)] 17 Tryz.func133 rfl rfl rfl ?_
  refine T.seq ?_
  refine T.region ?_
  refine Run.go (Ev.assign rfl rfl) ?_
  refine Run.nil ?_
  obtain ⟨v1, hv, h⟩ := bdS h
  refine T.cut (fun _ : Unit => (⟨[(0, .v .str v1)], [], 17⟩ : St)) (fun _ => True) ?_ (fun _ _ => ?_)
  · replace h := hv
    clear hv
    refine T.block ?_
    refine T.loop (LoopT.ghost (Ghost.only [] [0, 1] rfl) (LoopT.run (fun q : ByteArray => (⟨[(0, .v .str q), (1, .v (.int .u8) p1)], [], 17⟩ : St)) (fun v2 z1 h hz1 => ?_) h))
    rw [m_strings_trimLeftByte_l1] at h
    refine T.seq ?_
    obtain ⟨v3, hv, h⟩ := bdS h
    refine T.cut (fun _ : Unit => (⟨[(0, .v .str v2), (1, .v (.int .u8) p1), (13, .v .bool v3)], [], 17⟩ : St)) (fun _ => True) ?_ (fun _ _ => ?_)
    · replace h := hv
      clear hv
      refine T.region ?_
      refine Run.go (Ev.move rfl rfl) ?_
      refine Run.go (Ev.len X rfl rfl rfl rfl) ?_
      refine Run.go (Ev.int rfl rfl rfl rfl trivial) ?_
      refine Run.go (Ev.move rfl rfl) ?_
      rcases boolCases (decide (0 < (v2.size : Int))) with hb4 | hb4
      · replace h := ifT hb4 h
        refine Run.on rfl rfl rfl hb4 (Ev.move rfl rfl) ?_
        obtain ⟨x5, e6, h⟩ := bdS h
        refine Run.on rfl rfl rfl hb4 (Ev.e_bt X e6 rfl rfl rfl rfl) ?_
        refine Run.on rfl rfl rfl hb4 (Ev.move rfl rfl) ?_
        refine Run.on rfl rfl rfl hb4 (Ev.int rfl rfl rfl rfl trivial) ?_
        refine Run.go (Ev.pickT rfl hb4 rfl rfl) ?_
        refine Run.nil ?_
        cases h
        exact ⟨(), trivial, Ghost.only [] [0, 1, 13] rfl⟩
      · replace h := ifF hb4 h
        refine Run.offT rfl rfl rfl rfl hb4 ?_
        refine Run.offT rfl rfl rfl rfl hb4 ?_
        refine Run.offT rfl rfl rfl rfl hb4 ?_
        refine Run.offT rfl rfl rfl rfl hb4 ?_
        refine Run.go (Ev.pickF rfl hb4 rfl rfl) ?_
        refine Run.nil ?_
        cases h
        exact ⟨(), trivial, Ghost.only [] [0, 1, 13] rfl⟩
    · refine T.cond rfl (fun hb7 => ?_) (fun hb7 => ?_)
      · replace h := ifT hb7 h
        refine T.skip ?_
        refine T.block ?_
        refine T.region ?_
        refine Run.go (Ev.move rfl rfl) ?_
        obtain ⟨x8, e9, h⟩ := bdS h
        refine Run.go (Ev.e_cs X e9 rfl rfl rfl (fun _ _ => cutAt_of rfl) (fun h => by cases h) (fun _ h => by cases h) (fun _ => rfl)) ?_
        refine Run.go (Ev.assign rfl rfl) ?_
        refine Run.nil ?_
        cases h
        exact LoopT.ghost (Ghost.only [] [0, 1] rfl) hz1
      · replace h := ifF hb7 h
        refine T.exit ?_
        cases h
        cases hz1
        exact ⟨(), trivial, Ghost.only [] [0] rfl⟩
  · refine T.seq ?_
    refine T.region ?_
    refine Run.go (Ev.move rfl rfl) ?_
    refine Run.go (Ev.assign rfl rfl) ?_
    refine Run.nil ?_
    refine T.ret ?_
    cases h
    exact Fin.one rfl .v
theorem en126 : Enters Tryz.prog 126 := ⟨_, Tryz.func126, rfl, rfl⟩
theorem k_strings_TrimLeft {p0 : ByteArray} {p1 : ByteArray} {y : ByteArray} (h : m_strings_TrimLeft p0 p1 = some y) : Spec Tryz.prog 126 [(.v .str p0), (.v .str p1)] (.v .str y) [] := by
  rw [m_strings_TrimLeft] at h
  refine enterN [(.v .str p0), (.v .str p1)] 37 Tryz.func126 rfl rfl rfl ?_
  refine T.seq ?_
  refine T.region ?_
  refine Run.go (Ev.assign rfl rfl) ?_
  refine Run.nil ?_
  refine T.seq ?_
  obtain ⟨v1, hv, h⟩ := bdS h
  refine T.cut (fun _ : Unit => (⟨[(0, .v .str p0), (1, .v .str p1), (12, .v .bool v1)], [], 37⟩ : St)) (fun _ => True) ?_ (fun _ _ => ?_)
  · replace h := hv
    clear hv
    refine T.region ?_
    refine Run.go (Ev.move rfl rfl) ?_
    refine Run.go (Ev.strs rfl rfl rfl rfl trivial) ?_
    refine Run.go (Ev.move rfl rfl) ?_
    rcases boolCases (sq p0 (bs [])) with hb2 | hb2
    · replace h := ifT hb2 h
      refine Run.offT rfl rfl rfl rfl hb2 ?_
      refine Run.offT rfl rfl rfl rfl hb2 ?_
      refine Run.go (Ev.pickT rfl hb2 rfl rfl) ?_
      refine Run.nil ?_
      cases h
      exact ⟨(), trivial, Ghost.only [] [0, 1, 12] rfl⟩
    · replace h := ifF hb2 h
      refine Run.on rfl rfl rfl hb2 (Ev.move rfl rfl) ?_
      refine Run.on rfl rfl rfl hb2 (Ev.strs rfl rfl rfl rfl trivial) ?_
      refine Run.go (Ev.pickF rfl hb2 rfl rfl) ?_
      refine Run.nil ?_
      cases h
      exact ⟨(), trivial, Ghost.only [] [0, 1, 12] rfl⟩
  · refine T.cond rfl (fun hb3 => ?_) (fun hb3 => ?_)
    · replace h := ifT hb3 h
      refine T.seq ?_
      refine T.region ?_
      refine Run.go (Ev.move rfl rfl) ?_
      refine Run.go (Ev.assign rfl rfl) ?_
      refine Run.nil ?_
      refine T.ret ?_
      cases h
      exact Fin.one rfl .v
    · replace h := ifF hb3 h
      refine T.skip ?_
      refine T.seq ?_
      obtain ⟨v4, hv, h⟩ := bdS h
      refine T.cut (fun _ : Unit => (⟨[(0, .v .str p0), (1, .v .str p1), (21, .v .bool v4)], [], 37⟩ : St)) (fun _ => True) ?_ (fun _ _ => ?_)
      · replace h := hv
        clear hv
        refine T.region ?_
        refine Run.go (Ev.move rfl rfl) ?_
        refine Run.go (Ev.len X rfl rfl rfl rfl) ?_
        refine Run.go (Ev.int rfl rfl rfl rfl trivial) ?_
        refine Run.go (Ev.move rfl rfl) ?_
        rcases boolCases (decide ((p1.size : Int) = 1)) with hb5 | hb5
        · replace h := ifT hb5 h
          refine Run.on rfl rfl rfl hb5 (Ev.move rfl rfl) ?_
          obtain ⟨x6, e7, h⟩ := bdS h
          refine Run.on rfl rfl rfl hb5 (Ev.e_bt X e7 rfl rfl rfl rfl) ?_
          refine Run.on rfl rfl rfl hb5 (Ev.int rfl rfl rfl rfl trivial) ?_
          refine Run.go (Ev.pickT rfl hb5 rfl rfl) ?_
          refine Run.nil ?_
          cases h
          exact ⟨(), trivial, Ghost.only [] [0, 1, 21] rfl⟩
        · replace h := ifF hb5 h
          refine Run.offT rfl rfl rfl rfl hb5 ?_
          refine Run.offT rfl rfl rfl rfl hb5 ?_
          refine Run.offT rfl rfl rfl rfl hb5 ?_
          refine Run.go (Ev.pickF rfl hb5 rfl rfl) ?_
          refine Run.nil ?_
          cases h
          exact ⟨(), trivial, Ghost.only [] [0, 1, 21] rfl⟩
      · refine T.cond rfl (fun hb8 => ?_) (fun hb8 => ?_)
        · replace h := ifT hb8 h
          refine T.seq ?_
          refine T.region ?_
          refine Run.go (Ev.move rfl rfl) ?_
          refine Run.go (Ev.move rfl rfl) ?_
          obtain ⟨x9, e10, h⟩ := bdS h
          refine Run.go (Ev.e_bt X e10 rfl rfl rfl rfl) ?_
          obtain ⟨x11, e12, h⟩ := bdS h
          refine Run.go (Ev.callC en133 (k_strings_trimLeftByte e12) rfl (.cons .v (.cons .v .nil)) rfl rfl) ?_
          refine Run.go (Ev.assign rfl rfl) ?_
          refine Run.nil ?_
          refine T.ret ?_
          cases h
          exact Fin.one rfl .v
        · replace h := ifF hb8 h
          refine T.skip ?_
          refine T.seq ?_
          refine T.seq ?_
          refine T.region ?_
          refine Run.go (Ev.move rfl rfl) ?_
          cases h
end Go.Proofs.YthnheieajicpfaaGreatDoor.AE
/- The code comes to the printed functions (printed by a program of ours). -/
namespace Go.Proofs.YthnheieajicpfaaGreatDoor.AE
open Go Go.RowKit Go.Proofs.YthnheieajicpfaaGreatDoor.AP
set_option linter.unusedVariables false
set_option maxRecDepth 20000
theorem en115 : Enters Tryz.prog 115 := ⟨_, Tryz.func115, rfl, rfl⟩
theorem k_digits_In {p0 : (List Int)} {p1 : Int} {y : ByteArray × Int} (h : m_digits_In p0 p1 = some y) : Spec Tryz.prog 115 [(.v (.sl (.int .u64)) p0), (.v (.int .i64) p1)] (.tup [.v .str y.1, .v (.int .i64) y.2]) [] := by
  rw [m_digits_In] at h
  refine enterN [(.v (.sl (.int .u64)) p0), (.v (.int .i64) p1)] 71 Tryz.func115 rfl rfl rfl ?_
  refine T.seq ?_
  refine T.region ?_
  refine Run.go (Ev.assign rfl rfl) ?_
  refine Run.go (Ev.assign rfl rfl) ?_
  refine Run.nil ?_
  refine T.seq ?_
  refine T.seq ?_
  refine T.region ?_
  refine Run.go (Ev.move rfl rfl) ?_
  obtain ⟨x1, e2, h⟩ := bdS h
  refine Run.go (Ev.callC en121 (k_digits_based e2) rfl (.cons .v .nil) rfl rfl) ?_
  refine Run.go (Ev.assign rfl rfl) ?_
  refine Run.nil ?_
  refine T.seq ?_
  refine T.region ?_
  refine Run.go (Ev.move rfl rfl) ?_
  refine Run.go (Ev.int rfl rfl rfl rfl trivial) ?_
  refine Run.nil ?_
  refine T.cond rfl (fun hb3 => ?_) (fun hb3 => ?_)
  · replace h := ifT hb3 h
    refine T.seq ?_
    refine T.region ?_
    refine Run.go (Ev.move rfl rfl) ?_
    refine Run.go (Ev.assign rfl rfl) ?_
    refine Run.go (Ev.assign rfl rfl) ?_
    refine Run.nil ?_
    refine T.ret ?_
    cases h
    exact Fin.many X rfl (.cons (.tmp .v) (.cons (.tmp .v) .nil)) rfl
  · replace h := ifF hb3 h
    refine T.skip ?_
    refine T.seq ?_
    refine T.region ?_
    refine Run.go (Ev.move rfl rfl) ?_
    obtain ⟨x4, e5, h⟩ := bdS h
    refine Run.go (Ev.callC en122 (k_digits_chunk e5) rfl (.cons .v .nil) rfl rfl) ?_
    refine Run.go (Ev.move rfl rfl) ?_
    refine Run.go (Ev.extract rfl rfl rfl) ?_
    refine Run.go (Ev.extract rfl rfl rfl) ?_
    refine Run.go (Ev.assign rfl rfl) ?_
    refine Run.go (Ev.assign rfl rfl) ?_
    refine Run.nil ?_
    refine T.seq ?_
    refine T.region ?_
    refine Run.go (Ev.assign rfl rfl) ?_
    refine Run.nil ?_
    refine T.seq ?_
    refine T.region ?_
    refine Run.go (Ev.move rfl rfl) ?_
    obtain ⟨x6, e7, h⟩ := bdS h
    refine Run.go (Ev.callC en123 (k_nat_Make e7) rfl (.cons .v .nil) rfl rfl) ?_
    refine Run.go (Ev.move rfl rfl) ?_
    refine Run.go (Ev.extract rfl rfl rfl) ?_
    refine Run.go (Ev.extract rfl rfl rfl) ?_
    refine Run.go (Ev.assign rfl rfl) ?_
    refine Run.go (Ev.assign rfl rfl) ?_
    refine Run.nil ?_
    obtain ⟨v8, hv, h⟩ := bdS h
    refine T.cut (fun _ : Unit => (⟨[(9, .own 2)], [(2, .arr 9 .str v8)], 71⟩ : St)) (fun _ => True) ?_ (fun _ _ => ?_)
    · replace h := hv
      clear hv
      refine T.block ?_
      refine T.loop (LoopT.ghost (Ghost.trans (Ghost.empty 9 19 9 .str rfl rfl) (Ghost.only [(19, 13)] [1, 7, 8, 9, 10] rfl)) (LoopT.run (fun q : (List Int) × (List ByteArray) => (⟨[(1, .v (.int .i64) p1), (7, .v (.int .u64) x4.1), (8, .v (.int .i64) x4.2), (9, .own 13), (10, .v (.sl (.int .u64)) q.1)], [(13, .arr 9 .str q.2)], 71⟩ : St)) (fun q z1 h hz1 => ?_) h))
      obtain ⟨v9, v10⟩ := q
      dsimp only
      rw [m_digits_In_l1] at h
      refine T.seq ?_
      refine T.seq ?_
      refine T.region ?_
      refine Run.go (Ev.move rfl rfl) ?_
      refine Run.go (Ev.len X rfl rfl rfl rfl) ?_
      refine Run.go (Ev.int rfl rfl rfl rfl trivial) ?_
      refine Run.nil ?_
      refine T.cond rfl (fun hb11 => ?_) (fun hb11 => ?_)
      · replace h := ifT hb11 h
        refine T.skip ?_
        refine T.block ?_
        refine T.seq ?_
        refine T.region ?_
        refine Run.go (Ev.move rfl rfl) ?_
        refine Run.go (Ev.move rfl rfl) ?_
        obtain ⟨x12, e13, h⟩ := bdS h
        refine Run.go (Ev.callC en124 (k_divide_Small e13) rfl (.cons .v (.cons .v .nil)) rfl rfl) ?_
        refine Run.go (Ev.move rfl rfl) ?_
        refine Run.go (Ev.extract rfl rfl rfl) ?_
        refine Run.go (Ev.extract rfl rfl rfl) ?_
        refine Run.go (Ev.extract rfl rfl rfl) ?_
        refine Run.go (Ev.assign rfl rfl) ?_
        refine Run.go (Ev.assign rfl rfl) ?_
        refine Run.go (Ev.assign rfl rfl) ?_
        refine Run.nil ?_
        refine T.seq ?_
        refine T.region ?_
        refine Run.go (Ev.move rfl rfl) ?_
        refine Run.go (Ev.move rfl rfl) ?_
        refine Run.go (Ev.move rfl rfl) ?_
        refine Run.go (Ev.move rfl rfl) ?_
        obtain ⟨x14, e15, h⟩ := bdS h
        refine Run.go (Ev.callC en125 (k_digits_piece e15) rfl (.cons .v (.cons .v (.cons .v .nil))) rfl rfl) ?_
        refine Run.go (Ev.build X 20 rfl rfl rfl rfl rfl rfl rfl rfl) ?_
        obtain ⟨x16, e17, h⟩ := bdS h
        refine Run.go (Ev.e_ap X 21 e17 rfl rfl rfl (.own rfl) rfl rfl rfl rfl rfl) ?_
        refine Run.go (Ev.assign rfl rfl) ?_
        refine Run.nil ?_
        refine T.region ?_
        refine Run.go (Ev.move rfl rfl) ?_
        refine Run.go (Ev.assign rfl rfl) ?_
        refine Run.nil ?_
        cases h
        exact LoopT.ghost (Ghost.only [(21, 13)] [1, 7, 8, 9, 10] rfl) hz1
      · replace h := ifF hb11 h
        refine T.exit ?_
        cases h
        cases hz1
        exact ⟨(), trivial, Ghost.only [(13, 2)] [9] rfl⟩
    · refine T.seq ?_
      refine T.region ?_
      refine Run.go (Ev.e_allocB 22 23 5 zs121 rfl rfl rfl) ?_
      refine Run.nil ?_
      obtain ⟨⟨v18, v19⟩, hv, h⟩ := bdS h
      refine T.cut (fun _ : Unit => (⟨[(15, .box 22 0)], [(22, .box [.pn v18 22 0 121, .owz 30]), (30, .arr 5 (.int .u8) v19)], 71⟩ : St)) (fun _ => True) ?_ (fun _ _ => ?_)
      · replace h := hv
        clear hv
        refine T.seq ?_
        refine T.region ?_
        refine Run.go (Ev.move rfl rfl) ?_
        refine Run.go (Ev.e_lenO X rfl rfl rfl rfl) ?_
        refine Run.go (Ev.move rfl rfl) ?_
        refine Run.nil ?_
        refine T.block ?_
        refine T.loop (LoopT.ghost (Ghost.only [(2, 2), (22, 22), (23, 44)] [9, 15, 52, 53] rfl) (LoopT.run (fun q : Int × Bool × (List Int) => (⟨[(9, .own 2), (15, .box 22 0), (52, .v (.int .i64) ((v8.length : Int) : Int)), (53, .v (.int .i64) q.1)], [(2, .arr 9 .str v8), (22, .box [.pn q.2.1 22 0 121, .owz 44]), (44, .arr 5 (.int .u8) q.2.2)], 71⟩ : St)) (fun q z1 h hz1 => ?_) h))
        obtain ⟨v20, v21, v22⟩ := q
        dsimp only
        rw [m_digits_In_l2] at h
        refine T.seq ?_
        refine T.region ?_
        refine Run.go (Ev.int rfl rfl rfl rfl trivial) ?_
        refine Run.nil ?_
        refine T.seq ?_
        refine T.cond rfl (fun hb23 => ?_) (fun hb23 => ?_)
        · replace h := ifT hb23 h
          refine T.skip ?_
          refine T.seq ?_
          refine T.block ?_
          refine T.seq ?_
          refine T.region ?_
          refine Run.go (Ev.move rfl rfl) ?_
          refine Run.go (Ev.assign rfl rfl) ?_
          refine Run.nil ?_
          refine T.region ?_
          refine Run.go (Ev.move rfl rfl) ?_
          refine Run.go (Ev.move rfl rfl) ?_
          refine Run.go (Ev.e_lenO X rfl rfl rfl rfl) ?_
          refine Run.go (Ev.int rfl rfl rfl rfl trivial) ?_
          refine Run.go (Ev.move rfl rfl) ?_
          refine Run.go (Ev.int rfl rfl rfl rfl trivial) ?_
          obtain ⟨x24, e25, h⟩ := bdS h
          refine Run.go (Ev.e_rdO X e25 rfl rfl rfl rfl rfl) ?_
          refine Run.go (Ev.e_ldO X (rdS e25).2 rfl rfl rfl rfl) ?_
          obtain ⟨x27, e26, h⟩ := bdS h
          refine Run.go (Ev.w3 (Ev.lendM [(22, 1), (44, 2)] [(1, 22), (2, 44), (4, 49)] en66 (k_strings_Builder_WriteString_M e26) rfl (.cons (.ren rfl) (.cons (.ren rfl) .nil)) rfl rfl rfl rfl rfl (A := .tup [.v (.int .i64) ((x24.size : Int) : Int), .bot]) rfl (W := [(22, .box [.pn x27.1 22 0 121, .owz 49]), (44, .dead), (49, .arr 5 (.int .u8) x27.2)]) rfl rfl)) ?_
          refine Run.nil ?_
          refine T.region ?_
          refine Run.go (Ev.int rfl rfl rfl rfl trivial) ?_
          refine Run.go (Ev.move rfl rfl) ?_
          refine Run.nil ?_
          cases h
          exact LoopT.ghost (Ghost.only [(2, 2), (22, 22), (49, 44)] [9, 15, 52, 53] rfl) hz1
        · replace h := ifF hb23 h
          refine T.exit ?_
          cases h
          cases hz1
          exact ⟨(), trivial, Ghost.only [(22, 22), (44, 30)] [15] rfl⟩
      · refine T.seq ?_
        refine T.region ?_
        obtain ⟨x29, e28, h⟩ := bdS h
        refine Run.go (Ev.w2 (Ev.lendM [(22, 1), (30, 2)] [(1, 22), (2, 30)] en67 (k_strings_Builder_String_M e28) rfl (.cons (.ren rfl) .nil) rfl rfl rfl rfl rfl (A := .v .str x29) rfl (W := [(22, .box [.pn v18 22 0 121, .bot]), (30, .dead)]) rfl rfl)) ?_
        obtain ⟨x30, e31, h⟩ := bdS h
        refine Run.go (Ev.callC en126 (k_strings_TrimLeft e31) rfl (.cons .v (.cons .v .nil)) rfl rfl) ?_
        refine Run.go (Ev.assign rfl rfl) ?_
        refine Run.nil ?_
        obtain ⟨v32, hv, h⟩ := bdS h
        refine T.cut (fun _ : Unit => (⟨[(17, .v .str v32)], [], 71⟩ : St)) (fun _ => True) ?_ (fun _ _ => ?_)
        · replace h := hv
          clear hv
          refine T.seq ?_
          refine T.region ?_
          refine Run.go (Ev.move rfl rfl) ?_
          refine Run.go (Ev.strs rfl rfl rfl rfl trivial) ?_
          refine Run.nil ?_
          refine T.cond rfl (fun hb33 => ?_) (fun hb33 => ?_)
          · replace h := ifT hb33 h
            refine T.region ?_
            refine Run.go (Ev.assign rfl rfl) ?_
            refine Run.nil ?_
            cases h
            exact ⟨(), trivial, Ghost.only [] [17] rfl⟩
          · replace h := ifF hb33 h
            refine T.skip ?_
            cases h
            exact ⟨(), trivial, Ghost.only [] [17] rfl⟩
        · refine T.seq ?_
          refine T.region ?_
          refine Run.go (Ev.move rfl rfl) ?_
          refine Run.go (Ev.assign rfl rfl) ?_
          refine Run.go (Ev.assign rfl rfl) ?_
          refine Run.nil ?_
          refine T.ret ?_
          cases h
          exact Fin.many X rfl (.cons (.tmp .v) (.cons (.tmp .v) .nil)) rfl
theorem en105 : Enters Tryz.prog 105 := ⟨_, Tryz.func105, rfl, rfl⟩
theorem k_digits_Print {p0 : (List Int)} {y : ByteArray} (h : m_digits_Print p0 = some y) : Spec Tryz.prog 105 [(.v (.sl (.int .u64)) p0)] (.v .str y) [] := by
  rw [m_digits_Print] at h
  refine enterN [(.v (.sl (.int .u64)) p0)] 11 Tryz.func105 rfl rfl rfl ?_
  refine T.seq ?_
  refine T.region ?_
  refine Run.go (Ev.assign rfl rfl) ?_
  refine Run.nil ?_
  refine T.seq ?_
  refine T.region ?_
  refine Run.go (Ev.move rfl rfl) ?_
  obtain ⟨x1, e2, h⟩ := bdS h
  refine Run.go (Ev.callC en115 (k_digits_In e2) rfl (.cons .v (.cons .v .nil)) rfl rfl) ?_
  refine Run.go (Ev.move rfl rfl) ?_
  refine Run.go (Ev.extract rfl rfl rfl) ?_
  refine Run.go (Ev.extract rfl rfl rfl) ?_
  refine Run.go (Ev.assign rfl rfl) ?_
  refine Run.go (Ev.assign rfl rfl) ?_
  refine Run.nil ?_
  refine T.seq ?_
  refine T.region ?_
  refine Run.go (Ev.move rfl rfl) ?_
  refine Run.go (Ev.assign rfl rfl) ?_
  refine Run.nil ?_
  refine T.ret ?_
  cases h
  exact Fin.one rfl .v
theorem en91 : Enters Tryz.prog 91 := ⟨_, Tryz.func91, rfl, rfl⟩
theorem k_digits_Count {p0 : (List Int)} {y : Int} (h : m_digits_Count p0 = some y) : Spec Tryz.prog 91 [(.v (.sl (.int .u64)) p0)] (.v (.int .i64) y) [] := by
  rw [m_digits_Count] at h
  refine enterN [(.v (.sl (.int .u64)) p0)] 6 Tryz.func91 rfl rfl rfl ?_
  refine T.seq ?_
  refine T.region ?_
  refine Run.go (Ev.assign rfl rfl) ?_
  refine Run.nil ?_
  refine T.seq ?_
  refine T.region ?_
  refine Run.go (Ev.move rfl rfl) ?_
  obtain ⟨x1, e2, h⟩ := bdS h
  refine Run.go (Ev.callC en105 (k_digits_Print e2) rfl (.cons .v .nil) rfl rfl) ?_
  refine Run.go (Ev.len X rfl rfl rfl rfl) ?_
  refine Run.go (Ev.assign rfl rfl) ?_
  refine Run.nil ?_
  refine T.ret ?_
  cases h
  exact Fin.one rfl .v
theorem en59 : Enters Tryz.prog 59 := ⟨_, Tryz.func59, rfl, rfl⟩
theorem k_ratio_Digits {p0 : D_api_Rat} {y : Int} (h : m_ratio_Digits p0 = some y) : Spec Tryz.prog 59 [(.v Y_api_Rat p0)] (.v (.int .i64) y) [] := by
  rw [m_ratio_Digits] at h
  refine enterN [(.v Y_api_Rat p0)] 6 Tryz.func59 rfl rfl rfl ?_
  refine T.seq ?_
  refine T.region ?_
  refine Run.go (Ev.box 1 rfl rfl rfl rfl) ?_
  refine Run.go (Ev.assign rfl rfl) ?_
  refine Run.nil ?_
  refine T.seq ?_
  refine T.region ?_
  refine Run.go (Ev.fieldBox X rfl rfl rfl rfl rfl) ?_
  refine Run.go (Ev.loadCell X rfl rfl rfl rfl rfl rfl) ?_
  obtain ⟨x1, e2, h⟩ := bdS h
  refine Run.go (Ev.callC en91 (k_digits_Count e2) rfl (.cons .v .nil) rfl rfl) ?_
  refine Run.go (Ev.assign rfl rfl) ?_
  refine Run.nil ?_
  refine T.ret ?_
  cases h
  exact Fin.one rfl .v
theorem en35 : Enters Tryz.prog 35 := ⟨_, Tryz.func35, rfl, rfl⟩
theorem k_limits_link {p0 : D_api_Link} {y : Bool} (h : m_limits_link p0 = some y) : Spec Tryz.prog 35 [(.v Y_api_Link p0)] (.v .bool y) [] := by
  rw [m_limits_link] at h
  refine enterN [(.v Y_api_Link p0)] 12 Tryz.func35 rfl rfl rfl ?_
  refine T.seq ?_
  refine T.region ?_
  refine Run.go (Ev.box 1 rfl rfl rfl rfl) ?_
  refine Run.go (Ev.assign rfl rfl) ?_
  refine Run.nil ?_
  refine T.seq ?_
  refine T.region ?_
  refine Run.go (Ev.fieldBox X rfl rfl rfl rfl rfl) ?_
  refine Run.go (Ev.loadCell X rfl rfl rfl rfl rfl rfl) ?_
  obtain ⟨x1, e2, h⟩ := bdS h
  refine Run.go (Ev.callC en31 (k_name_Long e2) rfl (.cons .v .nil) rfl rfl) ?_
  refine Run.go (Ev.move rfl rfl) ?_
  rcases boolCases x1 with hb3 | hb3
  · replace h := ifT hb3 h
    refine Run.offT rfl rfl rfl rfl hb3 ?_
    refine Run.offT rfl rfl rfl rfl hb3 ?_
    refine Run.offT rfl rfl rfl rfl hb3 ?_
    refine Run.offT rfl rfl rfl rfl hb3 ?_
    refine Run.go (Ev.pickT rfl hb3 rfl rfl) ?_
    refine Run.go (Ev.assign rfl rfl) ?_
    refine Run.nil ?_
    refine T.ret ?_
    cases h
    exact Fin.one rfl .v
  · replace h := ifF hb3 h
    refine Run.on rfl rfl rfl hb3 (Ev.fieldBox X rfl rfl rfl rfl rfl) ?_
    refine Run.on rfl rfl rfl hb3 (Ev.loadBox X rfl rfl rfl rfl rfl) ?_
    obtain ⟨x4, e5, h⟩ := bdS h
    refine Run.on rfl rfl rfl hb3 (Ev.callC en59 (k_ratio_Digits e5) rfl (.cons .v .nil) rfl rfl) ?_
    refine Run.on rfl rfl rfl hb3 (Ev.int rfl rfl rfl rfl trivial) ?_
    refine Run.go (Ev.pickF rfl hb3 rfl rfl) ?_
    refine Run.go (Ev.assign rfl rfl) ?_
    refine Run.nil ?_
    refine T.ret ?_
    cases h
    exact Fin.one rfl .v
theorem en58 : Enters Tryz.prog 58 := ⟨_, Tryz.func58, rfl, rfl⟩
theorem k_slices_IndexFunc_api_Link_api_Link__limits_link {p0 : (List D_api_Link)} {y : Int} (h : m_slices_IndexFunc_api_Link_api_Link__limits_link p0 = some y) : Spec Tryz.prog 58 [(.v (.sl Y_api_Link) p0), (.fn 35 [])] (.v (.int .i64) y) [] := by
  rw [m_slices_IndexFunc_api_Link_api_Link__limits_link] at h
  refine enterN [(.v (.sl Y_api_Link) p0), (.fn 35 [])] 19 Tryz.func58 rfl rfl rfl ?_
  refine T.seq ?_
  refine T.region ?_
  refine Run.go (Ev.assign rfl rfl) ?_
  refine Run.nil ?_
  refine T.seq ?_
  refine T.seq ?_
  refine T.region ?_
  refine Run.go (Ev.move rfl rfl) ?_
  refine Run.go (Ev.len X rfl rfl rfl rfl) ?_
  refine Run.go (Ev.move rfl rfl) ?_
  refine Run.nil ?_
  refine T.block ?_
  refine T.loop (LoopT.ghost (Ghost.only [] [0, 1, 7, 8] rfl) (LoopT.run (fun q : Int => (⟨[(0, .v (.sl Y_api_Link) p0), (1, .fn 35 []), (7, .v (.int .i64) ((p0.length : Int) : Int)), (8, .v (.int .i64) q)], [], 19⟩ : St)) (fun v1 z1 h hz1 => ?_) h))
  rw [m_slices_IndexFunc_api_Link_api_Link__limits_link_l1] at h
  refine T.seq ?_
  refine T.region ?_
  refine Run.go (Ev.int rfl rfl rfl rfl trivial) ?_
  refine Run.nil ?_
  refine T.seq ?_
  refine T.cond rfl (fun hb2 => ?_) (fun hb2 => ?_)
  · replace h := ifT hb2 h
    refine T.skip ?_
    refine T.seq ?_
    refine T.block ?_
    refine T.seq ?_
    refine T.region ?_
    refine Run.go (Ev.move rfl rfl) ?_
    refine Run.go (Ev.assign rfl rfl) ?_
    refine Run.nil ?_
    refine T.seq ?_
    refine T.region ?_
    refine Run.go (Ev.move rfl rfl) ?_
    refine Run.go (Ev.move rfl rfl) ?_
    refine Run.go (Ev.move rfl rfl) ?_
    obtain ⟨x3, e4, h⟩ := bdS h
    refine Run.go (Ev.e_rd X e4 rfl rfl rfl rfl) ?_
    refine Run.go (Ev.load X rfl rfl rfl) ?_
    obtain ⟨x5, e6, h⟩ := bdS h
    refine Run.go (Ev.callC en35 (k_limits_link e6) rfl (.cons .v .nil) rfl rfl) ?_
    refine Run.nil ?_
    refine T.cond rfl (fun hb7 => ?_) (fun hb7 => ?_)
    · replace h := ifT hb7 h
      refine T.seq ?_
      refine T.region ?_
      refine Run.go (Ev.move rfl rfl) ?_
      refine Run.go (Ev.assign rfl rfl) ?_
      refine Run.nil ?_
      refine T.ret ?_
      cases h
      cases hz1
      exact Fin.one rfl .v
    · replace h := ifF hb7 h
      refine T.skip ?_
      refine T.region ?_
      refine Run.go (Ev.int rfl rfl rfl rfl trivial) ?_
      refine Run.go (Ev.move rfl rfl) ?_
      refine Run.nil ?_
      cases h
      exact LoopT.ghost (Ghost.only [] [0, 1, 7, 8] rfl) hz1
  · replace h := ifF hb2 h
    refine T.exit ?_
    refine T.seq ?_
    refine T.region ?_
    refine Run.go (Ev.assign rfl rfl) ?_
    refine Run.nil ?_
    refine T.ret ?_
    cases h
    cases hz1
    exact Fin.one rfl .v
theorem en34 : Enters Tryz.prog 34 := ⟨_, Tryz.func34, rfl, rfl⟩
theorem k_slices_ContainsFunc_api_Link_api_Link__limits_link {p0 : (List D_api_Link)} {y : Bool} (h : m_slices_ContainsFunc_api_Link_api_Link__limits_link p0 = some y) : Spec Tryz.prog 34 [(.v (.sl Y_api_Link) p0), (.fn 35 [])] (.v .bool y) [] := by
  rw [m_slices_ContainsFunc_api_Link_api_Link__limits_link] at h
  refine enterN [(.v (.sl Y_api_Link) p0), (.fn 35 [])] 9 Tryz.func34 rfl rfl rfl ?_
  refine T.seq ?_
  refine T.region ?_
  refine Run.go (Ev.assign rfl rfl) ?_
  refine Run.nil ?_
  refine T.seq ?_
  refine T.region ?_
  refine Run.go (Ev.move rfl rfl) ?_
  refine Run.go (Ev.move rfl rfl) ?_
  obtain ⟨x1, e2, h⟩ := bdS h
  refine Run.go (Ev.callC en58 (k_slices_IndexFunc_api_Link_api_Link__limits_link e2) rfl (.cons .v (.cons (.fn rfl) .nil)) rfl rfl) ?_
  refine Run.go (Ev.int rfl rfl rfl rfl trivial) ?_
  refine Run.go (Ev.assign rfl rfl) ?_
  refine Run.nil ?_
  refine T.ret ?_
  cases h
  exact Fin.one rfl .v
theorem en11 : Enters Tryz.prog 11 := ⟨_, Tryz.func11, rfl, rfl⟩
theorem k_limits_Out {p0 : D_api_Rule} {y : (List ByteArray)} (h : m_limits_Out p0 = some y) : Spec Tryz.prog 11 [(.v Y_api_Rule p0)] (.v (.sl .str) y) [] := by
  rw [m_limits_Out] at h
  refine enterN [(.v Y_api_Rule p0)] 39 Tryz.func11 rfl rfl rfl ?_
  refine T.seq ?_
  refine T.region ?_
  refine Run.go (Ev.box 1 rfl rfl rfl rfl) ?_
  refine Run.go (Ev.assign rfl rfl) ?_
  refine Run.nil ?_
  refine T.seq ?_
  refine T.region ?_
  refine Run.go (Ev.e_mkmap 2 .str .bool rfl rfl) ?_
  refine Run.go (Ev.assign rfl rfl) ?_
  refine Run.nil ?_
  refine T.seq ?_
  refine T.region ?_
  refine Run.go (Ev.assign rfl rfl) ?_
  refine Run.nil ?_
  obtain ⟨v1, hv, h⟩ := bdS h
  refine T.cut (fun _ : Unit => (⟨[(4, .own 7)], [(7, .arr 9 .str v1)], 39⟩ : St)) (fun _ => True) ?_ (fun _ _ => ?_)
  · replace h := hv
    clear hv
    refine T.seq ?_
    refine T.region ?_
    refine Run.go (Ev.fieldBox X rfl rfl rfl rfl rfl) ?_
    refine Run.go (Ev.loadCell X rfl rfl rfl rfl rfl rfl) ?_
    refine Run.go (Ev.len X rfl rfl rfl rfl) ?_
    refine Run.go (Ev.move rfl rfl) ?_
    refine Run.nil ?_
    refine T.block ?_
    refine T.loop (LoopT.ghost (Ghost.trans (Ghost.empty 4 337 9 .str rfl rfl) (Ghost.only [(2, 2), (337, 206)] [3, 4, 11, 12, 13] rfl)) (LoopT.run (fun q : Int × (List (ByteArray × Bool)) × (List ByteArray) => (⟨[(3, .mp 2), (4, .own 206), (11, .v (.sl (.sl Y_api_Hop)) p0.2.2.2), (12, .v (.int .i64) ((p0.2.2.2.length : Int) : Int)), (13, .v (.int .i64) q.1)], [(2, .map .str .bool q.2.1), (206, .arr 9 .str q.2.2)], 39⟩ : St)) (fun q z1 h hz1 => ?_) h))
    obtain ⟨v2, v3, v4⟩ := q
    dsimp only
    rw [m_limits_Out_l1] at h
    refine T.seq ?_
    refine T.region ?_
    refine Run.go (Ev.int rfl rfl rfl rfl trivial) ?_
    refine Run.nil ?_
    refine T.seq ?_
    refine T.cond rfl (fun hb5 => ?_) (fun hb5 => ?_)
    · replace h := ifT hb5 h
      refine T.skip ?_
      obtain ⟨⟨v6, v7⟩, hv, h⟩ := bdS h
      refine T.cut (fun _ : Unit => (⟨[(3, .mp 2), (4, .own 349), (11, .v (.sl (.sl Y_api_Hop)) p0.2.2.2), (12, .v (.int .i64) ((p0.2.2.2.length : Int) : Int)), (13, .v (.int .i64) v2)], [(2, .map .str .bool v6), (349, .arr 9 .str v7)], 39⟩ : St)) (fun _ => True) ?_ (fun _ _ => ?_)
      · replace h := hv
        clear hv
        refine T.block ?_
        refine T.seq ?_
        refine T.region ?_
        obtain ⟨x8, e9, h⟩ := bdS h
        refine Run.go (Ev.e_rd X e9 rfl rfl rfl rfl) ?_
        refine Run.go (Ev.load X rfl rfl rfl) ?_
        refine Run.go (Ev.assign rfl rfl) ?_
        refine Run.nil ?_
        refine T.seq ?_
        refine T.region ?_
        refine Run.go (Ev.move rfl rfl) ?_
        refine Run.go (Ev.len X rfl rfl rfl rfl) ?_
        refine Run.go (Ev.move rfl rfl) ?_
        refine Run.nil ?_
        refine T.block ?_
        refine T.loop (LoopT.ghost (Ghost.only [(2, 2), (206, 381)] [3, 4, 11, 12, 13, 17, 18, 19] rfl) (LoopT.run (fun q : Int × (List (ByteArray × Bool)) × (List ByteArray) => (⟨[(3, .mp 2), (4, .own 381), (11, .v (.sl (.sl Y_api_Hop)) p0.2.2.2), (12, .v (.int .i64) ((p0.2.2.2.length : Int) : Int)), (13, .v (.int .i64) v2), (17, .v (.sl Y_api_Hop) x8), (18, .v (.int .i64) ((x8.length : Int) : Int)), (19, .v (.int .i64) q.1)], [(2, .map .str .bool q.2.1), (381, .arr 9 .str q.2.2)], 39⟩ : St)) (fun q z2 h hz2 => ?_) h))
        obtain ⟨v10, v11, v12⟩ := q
        dsimp only
        rw [m_limits_Out_l2] at h
        refine T.seq ?_
        refine T.region ?_
        refine Run.go (Ev.int rfl rfl rfl rfl trivial) ?_
        refine Run.nil ?_
        refine T.seq ?_
        refine T.cond rfl (fun hb13 => ?_) (fun hb13 => ?_)
        · replace h := ifT hb13 h
          refine T.skip ?_
          obtain ⟨⟨v14, v15⟩, hv, h⟩ := bdS h
          refine T.cut (fun _ : Unit => (⟨[(3, .mp 2), (4, .own 396), (11, .v (.sl (.sl Y_api_Hop)) p0.2.2.2), (12, .v (.int .i64) ((p0.2.2.2.length : Int) : Int)), (13, .v (.int .i64) v2), (17, .v (.sl Y_api_Hop) x8), (18, .v (.int .i64) ((x8.length : Int) : Int)), (19, .v (.int .i64) v10)], [(2, .map .str .bool v14), (396, .arr 9 .str v15)], 39⟩ : St)) (fun _ => True) ?_ (fun _ _ => ?_)
          · replace h := hv
            clear hv
            refine T.block ?_
            refine T.seq ?_
            refine T.region ?_
            obtain ⟨x16, e17, h⟩ := bdS h
            refine Run.go (Ev.e_rd X e17 rfl rfl rfl rfl) ?_
            refine Run.go (Ev.load X rfl rfl rfl) ?_
            refine Run.go (Ev.allocN X 397 rfl rfl rfl) ?_
            refine Run.do_ (Ev.storeBox X rfl rfl rfl rfl rfl rfl rfl) ?_
            refine Run.nil ?_
            refine T.seq ?_
            refine T.region ?_
            refine Run.go (Ev.move rfl rfl) ?_
            refine Run.go (Ev.fieldBox X rfl rfl rfl rfl rfl) ?_
            refine Run.go (Ev.loadCell X rfl rfl rfl rfl rfl rfl) ?_
            refine Run.go (Ev.e_mget mt72 rfl rfl rfl rfl) ?_
            refine Run.go (Ev.not rfl rfl) ?_
            refine Run.nil ?_
            refine T.cond rfl (fun hb18 => ?_) (fun hb18 => ?_)
            · replace h := ifT hb18 h
              refine T.seq ?_
              refine T.region ?_
              refine Run.go (Ev.move rfl rfl) ?_
              refine Run.go (Ev.fieldBox X rfl rfl rfl rfl rfl) ?_
              refine Run.go (Ev.loadCell X rfl rfl rfl rfl rfl rfl) ?_
              obtain ⟨x19, e20, h⟩ := ltS h
              refine Run.do_ (Ev.asM (Ev.e_mput mt72 rfl rfl rfl rfl rfl) e20) ?_
              refine Run.nil ?_
              refine T.region ?_
              refine Run.go (Ev.move rfl rfl) ?_
              refine Run.go (Ev.fieldBox X rfl rfl rfl rfl rfl) ?_
              refine Run.go (Ev.loadCell X rfl rfl rfl rfl rfl rfl) ?_
              refine Run.go (Ev.build X 398 rfl rfl rfl rfl rfl rfl rfl rfl) ?_
              obtain ⟨x21, e22, h⟩ := bdS h
              refine Run.go (Ev.e_ap X 399 e22 rfl rfl rfl (.own rfl) rfl rfl rfl rfl rfl) ?_
              refine Run.go (Ev.assign rfl rfl) ?_
              refine Run.nil ?_
              cases h
              exact ⟨(), trivial, Ghost.only [(2, 2), (399, 396)] [3, 4, 11, 12, 13, 17, 18, 19] rfl⟩
            · replace h := ifF hb18 h
              refine T.skip ?_
              cases h
              exact ⟨(), trivial, Ghost.only [(2, 2), (381, 396)] [3, 4, 11, 12, 13, 17, 18, 19] rfl⟩
          · refine T.region ?_
            refine Run.go (Ev.int rfl rfl rfl rfl trivial) ?_
            refine Run.go (Ev.move rfl rfl) ?_
            refine Run.nil ?_
            cases h
            exact LoopT.ghost (Ghost.only [(2, 2), (396, 381)] [3, 4, 11, 12, 13, 17, 18, 19] rfl) hz2
        · replace h := ifF hb13 h
          refine T.exit ?_
          cases h
          cases hz2
          exact ⟨(), trivial, Ghost.only [(2, 2), (381, 349)] [3, 4, 11, 12, 13] rfl⟩
      · refine T.region ?_
        refine Run.go (Ev.int rfl rfl rfl rfl trivial) ?_
        refine Run.go (Ev.move rfl rfl) ?_
        refine Run.nil ?_
        cases h
        exact LoopT.ghost (Ghost.only [(2, 2), (349, 206)] [3, 4, 11, 12, 13] rfl) hz1
    · replace h := ifF hb5 h
      refine T.exit ?_
      cases h
      cases hz1
      exact ⟨(), trivial, Ghost.only [(206, 7)] [4] rfl⟩
  · refine T.seq ?_
    refine T.region ?_
    refine Run.go (Ev.move rfl rfl) ?_
    refine Run.go (Ev.assign rfl rfl) ?_
    refine Run.nil ?_
    refine T.ret ?_
    cases h
    exact Fin.one rfl (.own rfl)
theorem en64 : Enters Tryz.prog 64 := ⟨_, Tryz.func64, rfl, rfl⟩
theorem k_limits_rule_1_1 {p0 : D_api_Hop} {y : Bool} (h : m_limits_rule_1_1 p0 = some y) : Spec Tryz.prog 64 [(.v Y_api_Hop p0)] (.v .bool y) [] := by
  rw [m_limits_rule_1_1] at h
  refine enterN [(.v Y_api_Hop p0)] 6 Tryz.func64 rfl rfl rfl ?_
  refine T.seq ?_
  refine T.region ?_
  refine Run.go (Ev.box 1 rfl rfl rfl rfl) ?_
  refine Run.go (Ev.assign rfl rfl) ?_
  refine Run.nil ?_
  refine T.seq ?_
  refine T.region ?_
  refine Run.go (Ev.fieldBox X rfl rfl rfl rfl rfl) ?_
  refine Run.go (Ev.loadCell X rfl rfl rfl rfl rfl rfl) ?_
  refine Run.go (Ev.int rfl rfl rfl rfl trivial) ?_
  refine Run.go (Ev.assign rfl rfl) ?_
  refine Run.nil ?_
  refine T.ret ?_
  cases h
  exact Fin.one rfl .v
theorem en93 : Enters Tryz.prog 93 := ⟨_, Tryz.func93, rfl, rfl⟩
theorem k_slices_IndexFunc_api_Hop_api_Hop__limits_rule_1_1 {p0 : (List D_api_Hop)} {y : Int} (h : m_slices_IndexFunc_api_Hop_api_Hop__limits_rule_1_1 p0 = some y) : Spec Tryz.prog 93 [(.v (.sl Y_api_Hop) p0), (.fn 64 [])] (.v (.int .i64) y) [] := by
  rw [m_slices_IndexFunc_api_Hop_api_Hop__limits_rule_1_1] at h
  refine enterN [(.v (.sl Y_api_Hop) p0), (.fn 64 [])] 19 Tryz.func93 rfl rfl rfl ?_
  refine T.seq ?_
  refine T.region ?_
  refine Run.go (Ev.assign rfl rfl) ?_
  refine Run.nil ?_
  refine T.seq ?_
  refine T.seq ?_
  refine T.region ?_
  refine Run.go (Ev.move rfl rfl) ?_
  refine Run.go (Ev.len X rfl rfl rfl rfl) ?_
  refine Run.go (Ev.move rfl rfl) ?_
  refine Run.nil ?_
  refine T.block ?_
  refine T.loop (LoopT.ghost (Ghost.only [] [0, 1, 7, 8] rfl) (LoopT.run (fun q : Int => (⟨[(0, .v (.sl Y_api_Hop) p0), (1, .fn 64 []), (7, .v (.int .i64) ((p0.length : Int) : Int)), (8, .v (.int .i64) q)], [], 19⟩ : St)) (fun v1 z1 h hz1 => ?_) h))
  rw [m_slices_IndexFunc_api_Hop_api_Hop__limits_rule_1_1_l1] at h
  refine T.seq ?_
  refine T.region ?_
  refine Run.go (Ev.int rfl rfl rfl rfl trivial) ?_
  refine Run.nil ?_
  refine T.seq ?_
  refine T.cond rfl (fun hb2 => ?_) (fun hb2 => ?_)
  · replace h := ifT hb2 h
    refine T.skip ?_
    refine T.seq ?_
    refine T.block ?_
    refine T.seq ?_
    refine T.region ?_
    refine Run.go (Ev.move rfl rfl) ?_
    refine Run.go (Ev.assign rfl rfl) ?_
    refine Run.nil ?_
    refine T.seq ?_
    refine T.region ?_
    refine Run.go (Ev.move rfl rfl) ?_
    refine Run.go (Ev.move rfl rfl) ?_
    refine Run.go (Ev.move rfl rfl) ?_
    obtain ⟨x3, e4, h⟩ := bdS h
    refine Run.go (Ev.e_rd X e4 rfl rfl rfl rfl) ?_
    refine Run.go (Ev.load X rfl rfl rfl) ?_
    obtain ⟨x5, e6, h⟩ := bdS h
    refine Run.go (Ev.callC en64 (k_limits_rule_1_1 e6) rfl (.cons .v .nil) rfl rfl) ?_
    refine Run.nil ?_
    refine T.cond rfl (fun hb7 => ?_) (fun hb7 => ?_)
    · replace h := ifT hb7 h
      refine T.seq ?_
      refine T.region ?_
      refine Run.go (Ev.move rfl rfl) ?_
      refine Run.go (Ev.assign rfl rfl) ?_
      refine Run.nil ?_
      refine T.ret ?_
      cases h
      cases hz1
      exact Fin.one rfl .v
    · replace h := ifF hb7 h
      refine T.skip ?_
      refine T.region ?_
      refine Run.go (Ev.int rfl rfl rfl rfl trivial) ?_
      refine Run.go (Ev.move rfl rfl) ?_
      refine Run.nil ?_
      cases h
      exact LoopT.ghost (Ghost.only [] [0, 1, 7, 8] rfl) hz1
  · replace h := ifF hb2 h
    refine T.exit ?_
    refine T.seq ?_
    refine T.region ?_
    refine Run.go (Ev.assign rfl rfl) ?_
    refine Run.nil ?_
    refine T.ret ?_
    cases h
    cases hz1
    exact Fin.one rfl .v
theorem en63 : Enters Tryz.prog 63 := ⟨_, Tryz.func63, rfl, rfl⟩
theorem k_slices_ContainsFunc_api_Hop_api_Hop__limits_rule_1_1 {p0 : (List D_api_Hop)} {y : Bool} (h : m_slices_ContainsFunc_api_Hop_api_Hop__limits_rule_1_1 p0 = some y) : Spec Tryz.prog 63 [(.v (.sl Y_api_Hop) p0), (.fn 64 [])] (.v .bool y) [] := by
  rw [m_slices_ContainsFunc_api_Hop_api_Hop__limits_rule_1_1] at h
  refine enterN [(.v (.sl Y_api_Hop) p0), (.fn 64 [])] 9 Tryz.func63 rfl rfl rfl ?_
  refine T.seq ?_
  refine T.region ?_
  refine Run.go (Ev.assign rfl rfl) ?_
  refine Run.nil ?_
  refine T.seq ?_
  refine T.region ?_
  refine Run.go (Ev.move rfl rfl) ?_
  refine Run.go (Ev.move rfl rfl) ?_
  obtain ⟨x1, e2, h⟩ := bdS h
  refine Run.go (Ev.callC en93 (k_slices_IndexFunc_api_Hop_api_Hop__limits_rule_1_1 e2) rfl (.cons .v (.cons (.fn rfl) .nil)) rfl rfl) ?_
  refine Run.go (Ev.int rfl rfl rfl rfl trivial) ?_
  refine Run.go (Ev.assign rfl rfl) ?_
  refine Run.nil ?_
  refine T.ret ?_
  cases h
  exact Fin.one rfl .v
theorem en62 : Enters Tryz.prog 62 := ⟨_, Tryz.func62, rfl, rfl⟩
theorem k_limits_rule_1 {p0 : (List D_api_Hop)} {y : Bool} (h : m_limits_rule_1 p0 = some y) : Spec Tryz.prog 62 [(.v (.sl Y_api_Hop) p0)] (.v .bool y) [] := by
  rw [m_limits_rule_1] at h
  refine enterN [(.v (.sl Y_api_Hop) p0)] 5 Tryz.func62 rfl rfl rfl ?_
  refine T.seq ?_
  refine T.region ?_
  refine Run.go (Ev.assign rfl rfl) ?_
  refine Run.nil ?_
  refine T.seq ?_
  refine T.region ?_
  refine Run.go (Ev.move rfl rfl) ?_
  obtain ⟨x1, e2, h⟩ := bdS h
  refine Run.go (Ev.callC en63 (k_slices_ContainsFunc_api_Hop_api_Hop__limits_rule_1_1 e2) rfl (.cons .v (.cons (.fn rfl) .nil)) rfl rfl) ?_
  refine Run.go (Ev.assign rfl rfl) ?_
  refine Run.nil ?_
  refine T.ret ?_
  cases h
  exact Fin.one rfl .v
theorem en92 : Enters Tryz.prog 92 := ⟨_, Tryz.func92, rfl, rfl⟩
theorem k_slices_IndexFunc_api_Hop_api_Hop__limits_rule_1 {p0 : (List (List D_api_Hop))} {y : Int} (h : m_slices_IndexFunc_api_Hop_api_Hop__limits_rule_1 p0 = some y) : Spec Tryz.prog 92 [(.v (.sl (.sl Y_api_Hop)) p0), (.fn 62 [])] (.v (.int .i64) y) [] := by
  rw [m_slices_IndexFunc_api_Hop_api_Hop__limits_rule_1] at h
  refine enterN [(.v (.sl (.sl Y_api_Hop)) p0), (.fn 62 [])] 19 Tryz.func92 rfl rfl rfl ?_
  refine T.seq ?_
  refine T.region ?_
  refine Run.go (Ev.assign rfl rfl) ?_
  refine Run.nil ?_
  refine T.seq ?_
  refine T.seq ?_
  refine T.region ?_
  refine Run.go (Ev.move rfl rfl) ?_
  refine Run.go (Ev.len X rfl rfl rfl rfl) ?_
  refine Run.go (Ev.move rfl rfl) ?_
  refine Run.nil ?_
  refine T.block ?_
  refine T.loop (LoopT.ghost (Ghost.only [] [0, 1, 7, 8] rfl) (LoopT.run (fun q : Int => (⟨[(0, .v (.sl (.sl Y_api_Hop)) p0), (1, .fn 62 []), (7, .v (.int .i64) ((p0.length : Int) : Int)), (8, .v (.int .i64) q)], [], 19⟩ : St)) (fun v1 z1 h hz1 => ?_) h))
  rw [m_slices_IndexFunc_api_Hop_api_Hop__limits_rule_1_l1] at h
  refine T.seq ?_
  refine T.region ?_
  refine Run.go (Ev.int rfl rfl rfl rfl trivial) ?_
  refine Run.nil ?_
  refine T.seq ?_
  refine T.cond rfl (fun hb2 => ?_) (fun hb2 => ?_)
  · replace h := ifT hb2 h
    refine T.skip ?_
    refine T.seq ?_
    refine T.block ?_
    refine T.seq ?_
    refine T.region ?_
    refine Run.go (Ev.move rfl rfl) ?_
    refine Run.go (Ev.assign rfl rfl) ?_
    refine Run.nil ?_
    refine T.seq ?_
    refine T.region ?_
    refine Run.go (Ev.move rfl rfl) ?_
    refine Run.go (Ev.move rfl rfl) ?_
    refine Run.go (Ev.move rfl rfl) ?_
    obtain ⟨x3, e4, h⟩ := bdS h
    refine Run.go (Ev.e_rd X e4 rfl rfl rfl rfl) ?_
    refine Run.go (Ev.load X rfl rfl rfl) ?_
    obtain ⟨x5, e6, h⟩ := bdS h
    refine Run.go (Ev.callC en62 (k_limits_rule_1 e6) rfl (.cons .v .nil) rfl rfl) ?_
    refine Run.nil ?_
    refine T.cond rfl (fun hb7 => ?_) (fun hb7 => ?_)
    · replace h := ifT hb7 h
      refine T.seq ?_
      refine T.region ?_
      refine Run.go (Ev.move rfl rfl) ?_
      refine Run.go (Ev.assign rfl rfl) ?_
      refine Run.nil ?_
      refine T.ret ?_
      cases h
      cases hz1
      exact Fin.one rfl .v
    · replace h := ifF hb7 h
      refine T.skip ?_
      refine T.region ?_
      refine Run.go (Ev.int rfl rfl rfl rfl trivial) ?_
      refine Run.go (Ev.move rfl rfl) ?_
      refine Run.nil ?_
      cases h
      exact LoopT.ghost (Ghost.only [] [0, 1, 7, 8] rfl) hz1
  · replace h := ifF hb2 h
    refine T.exit ?_
    refine T.seq ?_
    refine T.region ?_
    refine Run.go (Ev.assign rfl rfl) ?_
    refine Run.nil ?_
    refine T.ret ?_
    cases h
    cases hz1
    exact Fin.one rfl .v
theorem en61 : Enters Tryz.prog 61 := ⟨_, Tryz.func61, rfl, rfl⟩
theorem k_slices_ContainsFunc_api_Hop_api_Hop__limits_rule_1 {p0 : (List (List D_api_Hop))} {y : Bool} (h : m_slices_ContainsFunc_api_Hop_api_Hop__limits_rule_1 p0 = some y) : Spec Tryz.prog 61 [(.v (.sl (.sl Y_api_Hop)) p0), (.fn 62 [])] (.v .bool y) [] := by
  rw [m_slices_ContainsFunc_api_Hop_api_Hop__limits_rule_1] at h
  refine enterN [(.v (.sl (.sl Y_api_Hop)) p0), (.fn 62 [])] 9 Tryz.func61 rfl rfl rfl ?_
  refine T.seq ?_
  refine T.region ?_
  refine Run.go (Ev.assign rfl rfl) ?_
  refine Run.nil ?_
  refine T.seq ?_
  refine T.region ?_
  refine Run.go (Ev.move rfl rfl) ?_
  refine Run.go (Ev.move rfl rfl) ?_
  obtain ⟨x1, e2, h⟩ := bdS h
  refine Run.go (Ev.callC en92 (k_slices_IndexFunc_api_Hop_api_Hop__limits_rule_1 e2) rfl (.cons .v (.cons (.fn rfl) .nil)) rfl rfl) ?_
  refine Run.go (Ev.int rfl rfl rfl rfl trivial) ?_
  refine Run.go (Ev.assign rfl rfl) ?_
  refine Run.nil ?_
  refine T.ret ?_
  cases h
  exact Fin.one rfl .v
theorem en37 : Enters Tryz.prog 37 := ⟨_, Tryz.func37, rfl, rfl⟩
theorem k_limits_rule {p0 : D_api_Rule} {y : Bool} (h : m_limits_rule p0 = some y) : Spec Tryz.prog 37 [(.v Y_api_Rule p0)] (.v .bool y) [] := by
  rw [m_limits_rule] at h
  refine enterN [(.v Y_api_Rule p0)] 16 Tryz.func37 rfl rfl rfl ?_
  refine T.seq ?_
  refine T.region ?_
  refine Run.go (Ev.box 1 rfl rfl rfl rfl) ?_
  refine Run.go (Ev.assign rfl rfl) ?_
  refine Run.nil ?_
  refine T.seq ?_
  obtain ⟨v1, hv, h⟩ := bdS h
  refine T.cut (fun _ : Unit => (⟨[(1, .box 1 0), (12, .v .bool v1)], [(1, .box [.v .str p0.1, .v (.int .u32) p0.2.1.1, .v (.int .i64) p0.2.1.2, .v .bool p0.2.2.1, .v (.sl (.sl Y_api_Hop)) p0.2.2.2])], 16⟩ : St)) (fun _ => True) ?_ (fun _ _ => ?_)
  · replace h := hv
    clear hv
    refine T.region ?_
    refine Run.go (Ev.fieldBox X rfl rfl rfl rfl rfl) ?_
    refine Run.go (Ev.loadCell X rfl rfl rfl rfl rfl rfl) ?_
    refine Run.go (Ev.len X rfl rfl rfl rfl) ?_
    refine Run.go (Ev.int rfl rfl rfl rfl trivial) ?_
    refine Run.go (Ev.move rfl rfl) ?_
    rcases boolCases (decide (4 < (p0.2.2.2.length : Int))) with hb2 | hb2
    · replace h := ifT hb2 h
      refine Run.offT rfl rfl rfl rfl hb2 ?_
      refine Run.offT rfl rfl rfl rfl hb2 ?_
      refine Run.offT rfl rfl rfl rfl hb2 ?_
      refine Run.offT rfl rfl rfl rfl hb2 ?_
      refine Run.go (Ev.pickT rfl hb2 rfl rfl) ?_
      refine Run.nil ?_
      cases h
      exact ⟨(), trivial, Ghost.only [(1, 1)] [1, 12] rfl⟩
    · replace h := ifF hb2 h
      refine Run.on rfl rfl rfl hb2 (Ev.loadBox X rfl rfl rfl rfl rfl) ?_
      obtain ⟨x3, e4, h⟩ := bdS h
      refine Run.on rfl rfl rfl hb2 (Ev.callC en11 (k_limits_Out e4) rfl (.cons .v .nil) rfl rfl) ?_
      refine Run.on rfl rfl rfl hb2 (Ev.len X rfl rfl rfl rfl) ?_
      refine Run.on rfl rfl rfl hb2 (Ev.int rfl rfl rfl rfl trivial) ?_
      refine Run.go (Ev.pickF rfl hb2 rfl rfl) ?_
      refine Run.nil ?_
      cases h
      exact ⟨(), trivial, Ghost.only [(1, 1)] [1, 12] rfl⟩
  · refine T.cond rfl (fun hb5 => ?_) (fun hb5 => ?_)
    · replace h := ifT hb5 h
      refine T.seq ?_
      refine T.region ?_
      refine Run.go (Ev.assign rfl rfl) ?_
      refine Run.nil ?_
      refine T.ret ?_
      cases h
      exact Fin.one rfl .v
    · replace h := ifF hb5 h
      refine T.skip ?_
      refine T.seq ?_
      refine T.region ?_
      refine Run.go (Ev.fieldBox X rfl rfl rfl rfl rfl) ?_
      refine Run.go (Ev.loadCell X rfl rfl rfl rfl rfl rfl) ?_
      obtain ⟨x6, e7, h⟩ := bdS h
      refine Run.go (Ev.callC en61 (k_slices_ContainsFunc_api_Hop_api_Hop__limits_rule_1 e7) rfl (.cons .v (.cons (.fn rfl) .nil)) rfl rfl) ?_
      refine Run.go (Ev.assign rfl rfl) ?_
      refine Run.nil ?_
      refine T.ret ?_
      cases h
      exact Fin.one rfl .v
theorem en60 : Enters Tryz.prog 60 := ⟨_, Tryz.func60, rfl, rfl⟩
theorem k_slices_IndexFunc_api_Rule_api_Rule__limits_rule {p0 : (List D_api_Rule)} {y : Int} (h : m_slices_IndexFunc_api_Rule_api_Rule__limits_rule p0 = some y) : Spec Tryz.prog 60 [(.v (.sl Y_api_Rule) p0), (.fn 37 [])] (.v (.int .i64) y) [] := by
  rw [m_slices_IndexFunc_api_Rule_api_Rule__limits_rule] at h
  refine enterN [(.v (.sl Y_api_Rule) p0), (.fn 37 [])] 19 Tryz.func60 rfl rfl rfl ?_
  refine T.seq ?_
  refine T.region ?_
  refine Run.go (Ev.assign rfl rfl) ?_
  refine Run.nil ?_
  refine T.seq ?_
  refine T.seq ?_
  refine T.region ?_
  refine Run.go (Ev.move rfl rfl) ?_
  refine Run.go (Ev.len X rfl rfl rfl rfl) ?_
  refine Run.go (Ev.move rfl rfl) ?_
  refine Run.nil ?_
  refine T.block ?_
  refine T.loop (LoopT.ghost (Ghost.only [] [0, 1, 7, 8] rfl) (LoopT.run (fun q : Int => (⟨[(0, .v (.sl Y_api_Rule) p0), (1, .fn 37 []), (7, .v (.int .i64) ((p0.length : Int) : Int)), (8, .v (.int .i64) q)], [], 19⟩ : St)) (fun v1 z1 h hz1 => ?_) h))
  rw [m_slices_IndexFunc_api_Rule_api_Rule__limits_rule_l1] at h
  refine T.seq ?_
  refine T.region ?_
  refine Run.go (Ev.int rfl rfl rfl rfl trivial) ?_
  refine Run.nil ?_
  refine T.seq ?_
  refine T.cond rfl (fun hb2 => ?_) (fun hb2 => ?_)
  · replace h := ifT hb2 h
    refine T.skip ?_
    refine T.seq ?_
    refine T.block ?_
    refine T.seq ?_
    refine T.region ?_
    refine Run.go (Ev.move rfl rfl) ?_
    refine Run.go (Ev.assign rfl rfl) ?_
    refine Run.nil ?_
    refine T.seq ?_
    refine T.region ?_
    refine Run.go (Ev.move rfl rfl) ?_
    refine Run.go (Ev.move rfl rfl) ?_
    refine Run.go (Ev.move rfl rfl) ?_
    obtain ⟨x3, e4, h⟩ := bdS h
    refine Run.go (Ev.e_rd X e4 rfl rfl rfl rfl) ?_
    refine Run.go (Ev.load X rfl rfl rfl) ?_
    obtain ⟨x5, e6, h⟩ := bdS h
    refine Run.go (Ev.callC en37 (k_limits_rule e6) rfl (.cons .v .nil) rfl rfl) ?_
    refine Run.nil ?_
    refine T.cond rfl (fun hb7 => ?_) (fun hb7 => ?_)
    · replace h := ifT hb7 h
      refine T.seq ?_
      refine T.region ?_
      refine Run.go (Ev.move rfl rfl) ?_
      refine Run.go (Ev.assign rfl rfl) ?_
      refine Run.nil ?_
      refine T.ret ?_
      cases h
      cases hz1
      exact Fin.one rfl .v
    · replace h := ifF hb7 h
      refine T.skip ?_
      refine T.region ?_
      refine Run.go (Ev.int rfl rfl rfl rfl trivial) ?_
      refine Run.go (Ev.move rfl rfl) ?_
      refine Run.nil ?_
      cases h
      exact LoopT.ghost (Ghost.only [] [0, 1, 7, 8] rfl) hz1
  · replace h := ifF hb2 h
    refine T.exit ?_
    refine T.seq ?_
    refine T.region ?_
    refine Run.go (Ev.assign rfl rfl) ?_
    refine Run.nil ?_
    refine T.ret ?_
    cases h
    cases hz1
    exact Fin.one rfl .v
theorem en36 : Enters Tryz.prog 36 := ⟨_, Tryz.func36, rfl, rfl⟩
theorem k_slices_ContainsFunc_api_Rule_api_Rule__limits_rule {p0 : (List D_api_Rule)} {y : Bool} (h : m_slices_ContainsFunc_api_Rule_api_Rule__limits_rule p0 = some y) : Spec Tryz.prog 36 [(.v (.sl Y_api_Rule) p0), (.fn 37 [])] (.v .bool y) [] := by
  rw [m_slices_ContainsFunc_api_Rule_api_Rule__limits_rule] at h
  refine enterN [(.v (.sl Y_api_Rule) p0), (.fn 37 [])] 9 Tryz.func36 rfl rfl rfl ?_
  refine T.seq ?_
  refine T.region ?_
  refine Run.go (Ev.assign rfl rfl) ?_
  refine Run.nil ?_
  refine T.seq ?_
  refine T.region ?_
  refine Run.go (Ev.move rfl rfl) ?_
  refine Run.go (Ev.move rfl rfl) ?_
  obtain ⟨x1, e2, h⟩ := bdS h
  refine Run.go (Ev.callC en60 (k_slices_IndexFunc_api_Rule_api_Rule__limits_rule e2) rfl (.cons .v (.cons (.fn rfl) .nil)) rfl rfl) ?_
  refine Run.go (Ev.int rfl rfl rfl rfl trivial) ?_
  refine Run.go (Ev.assign rfl rfl) ?_
  refine Run.nil ?_
  refine T.ret ?_
  cases h
  exact Fin.one rfl .v
theorem en21 : Enters Tryz.prog 21 := ⟨_, Tryz.func21, rfl, rfl⟩
theorem k_limits_net {p0 : D_api_Net} {y : Bool} (h : m_limits_net p0 = some y) : Spec Tryz.prog 21 [(.v Y_api_Net p0)] (.v .bool y) [] := by
  rw [m_limits_net] at h
  refine enterN [(.v Y_api_Net p0)] 37 Tryz.func21 rfl rfl rfl ?_
  refine T.seq ?_
  refine T.region ?_
  refine Run.go (Ev.box 1 rfl rfl rfl rfl) ?_
  refine Run.go (Ev.assign rfl rfl) ?_
  refine Run.nil ?_
  refine T.seq ?_
  obtain ⟨v1, hv, h⟩ := bdS h
  refine T.cut (fun _ : Unit => (⟨[(1, .box 1 0), (23, .v .bool v1)], [(1, .box [.v .str p0.1, .v (.sl Y_api_Node) p0.2.1, .v (.sl Y_api_Link) p0.2.2.1, .v (.sl Y_api_Rule) p0.2.2.2])], 37⟩ : St)) (fun _ => True) ?_ (fun _ _ => ?_)
  · replace h := hv
    clear hv
    refine T.region ?_
    refine Run.go (Ev.fieldBox X rfl rfl rfl rfl rfl) ?_
    refine Run.go (Ev.loadCell X rfl rfl rfl rfl rfl rfl) ?_
    obtain ⟨x2, e3, h⟩ := bdS h
    refine Run.go (Ev.callC en31 (k_name_Long e3) rfl (.cons .v .nil) rfl rfl) ?_
    refine Run.go (Ev.move rfl rfl) ?_
    rcases boolCases x2 with hb4 | hb4
    · replace h := ifT hb4 h
      refine Run.offT rfl rfl rfl rfl hb4 ?_
      refine Run.offT rfl rfl rfl rfl hb4 ?_
      refine Run.offT rfl rfl rfl rfl hb4 ?_
      refine Run.offT rfl rfl rfl rfl hb4 ?_
      refine Run.go (Ev.pickT rfl hb4 rfl rfl) ?_
      refine Run.go (Ev.move rfl rfl) ?_
      refine Run.offT rfl rfl rfl rfl rfl ?_
      refine Run.offT rfl rfl rfl rfl rfl ?_
      refine Run.offT rfl rfl rfl rfl rfl ?_
      refine Run.offT rfl rfl rfl rfl rfl ?_
      refine Run.go (Ev.pickT rfl rfl rfl rfl) ?_
      refine Run.go (Ev.move rfl rfl) ?_
      refine Run.offT rfl rfl rfl rfl rfl ?_
      refine Run.offT rfl rfl rfl rfl rfl ?_
      refine Run.offT rfl rfl rfl rfl rfl ?_
      refine Run.offT rfl rfl rfl rfl rfl ?_
      refine Run.go (Ev.pickT rfl rfl rfl rfl) ?_
      refine Run.nil ?_
      cases h
      exact ⟨(), trivial, Ghost.only [(1, 1)] [1, 23] rfl⟩
    · replace h := ifF hb4 h
      refine Run.on rfl rfl rfl hb4 (Ev.fieldBox X rfl rfl rfl rfl rfl) ?_
      refine Run.on rfl rfl rfl hb4 (Ev.loadCell X rfl rfl rfl rfl rfl rfl) ?_
      refine Run.on rfl rfl rfl hb4 (Ev.len X rfl rfl rfl rfl) ?_
      refine Run.on rfl rfl rfl hb4 (Ev.int rfl rfl rfl rfl trivial) ?_
      refine Run.go (Ev.pickF rfl hb4 rfl rfl) ?_
      refine Run.go (Ev.move rfl rfl) ?_
      rcases boolCases (decide (12 < (p0.2.1.length : Int))) with hb5 | hb5
      · replace h := ifT hb5 h
        refine Run.offT rfl rfl rfl rfl hb5 ?_
        refine Run.offT rfl rfl rfl rfl hb5 ?_
        refine Run.offT rfl rfl rfl rfl hb5 ?_
        refine Run.offT rfl rfl rfl rfl hb5 ?_
        refine Run.go (Ev.pickT rfl hb5 rfl rfl) ?_
        refine Run.go (Ev.move rfl rfl) ?_
        refine Run.offT rfl rfl rfl rfl rfl ?_
        refine Run.offT rfl rfl rfl rfl rfl ?_
        refine Run.offT rfl rfl rfl rfl rfl ?_
        refine Run.offT rfl rfl rfl rfl rfl ?_
        refine Run.go (Ev.pickT rfl rfl rfl rfl) ?_
        refine Run.nil ?_
        cases h
        exact ⟨(), trivial, Ghost.only [(1, 1)] [1, 23] rfl⟩
      · replace h := ifF hb5 h
        refine Run.on rfl rfl rfl hb5 (Ev.fieldBox X rfl rfl rfl rfl rfl) ?_
        refine Run.on rfl rfl rfl hb5 (Ev.loadCell X rfl rfl rfl rfl rfl rfl) ?_
        refine Run.on rfl rfl rfl hb5 (Ev.len X rfl rfl rfl rfl) ?_
        refine Run.on rfl rfl rfl hb5 (Ev.int rfl rfl rfl rfl trivial) ?_
        refine Run.go (Ev.pickF rfl hb5 rfl rfl) ?_
        refine Run.go (Ev.move rfl rfl) ?_
        rcases boolCases (decide (40 < (p0.2.2.1.length : Int))) with hb6 | hb6
        · replace h := ifT hb6 h
          refine Run.offT rfl rfl rfl rfl hb6 ?_
          refine Run.offT rfl rfl rfl rfl hb6 ?_
          refine Run.offT rfl rfl rfl rfl hb6 ?_
          refine Run.offT rfl rfl rfl rfl hb6 ?_
          refine Run.go (Ev.pickT rfl hb6 rfl rfl) ?_
          refine Run.nil ?_
          cases h
          exact ⟨(), trivial, Ghost.only [(1, 1)] [1, 23] rfl⟩
        · replace h := ifF hb6 h
          refine Run.on rfl rfl rfl hb6 (Ev.fieldBox X rfl rfl rfl rfl rfl) ?_
          refine Run.on rfl rfl rfl hb6 (Ev.loadCell X rfl rfl rfl rfl rfl rfl) ?_
          refine Run.on rfl rfl rfl hb6 (Ev.len X rfl rfl rfl rfl) ?_
          refine Run.on rfl rfl rfl hb6 (Ev.int rfl rfl rfl rfl trivial) ?_
          refine Run.go (Ev.pickF rfl hb6 rfl rfl) ?_
          refine Run.nil ?_
          cases h
          exact ⟨(), trivial, Ghost.only [(1, 1)] [1, 23] rfl⟩
  · refine T.cond rfl (fun hb7 => ?_) (fun hb7 => ?_)
    · replace h := ifT hb7 h
      refine T.seq ?_
      refine T.region ?_
      refine Run.go (Ev.assign rfl rfl) ?_
      refine Run.nil ?_
      refine T.ret ?_
      cases h
      exact Fin.one rfl .v
    · replace h := ifF hb7 h
      refine T.skip ?_
      refine T.seq ?_
      refine T.region ?_
      refine Run.go (Ev.fieldBox X rfl rfl rfl rfl rfl) ?_
      refine Run.go (Ev.loadCell X rfl rfl rfl rfl rfl rfl) ?_
      obtain ⟨x8, e9, h⟩ := bdS h
      refine Run.go (Ev.callC en32 (k_slices_ContainsFunc_api_Node_api_Node__limits_node e9) rfl (.cons .v (.cons (.fn rfl) .nil)) rfl rfl) ?_
      refine Run.go (Ev.move rfl rfl) ?_
      rcases boolCases x8 with hb10 | hb10
      · replace h := ifT hb10 h
        refine Run.offT rfl rfl rfl rfl hb10 ?_
        refine Run.offT rfl rfl rfl rfl hb10 ?_
        refine Run.offT rfl rfl rfl rfl hb10 ?_
        refine Run.go (Ev.pickT rfl hb10 rfl rfl) ?_
        refine Run.go (Ev.move rfl rfl) ?_
        refine Run.offT rfl rfl rfl rfl rfl ?_
        refine Run.offT rfl rfl rfl rfl rfl ?_
        refine Run.offT rfl rfl rfl rfl rfl ?_
        refine Run.go (Ev.pickT rfl rfl rfl rfl) ?_
        refine Run.go (Ev.assign rfl rfl) ?_
        refine Run.nil ?_
        refine T.ret ?_
        cases h
        exact Fin.one rfl .v
      · replace h := ifF hb10 h
        refine Run.on rfl rfl rfl hb10 (Ev.fieldBox X rfl rfl rfl rfl rfl) ?_
        refine Run.on rfl rfl rfl hb10 (Ev.loadCell X rfl rfl rfl rfl rfl rfl) ?_
        obtain ⟨x11, e12, h⟩ := bdS h
        refine Run.on rfl rfl rfl hb10 (Ev.callC en34 (k_slices_ContainsFunc_api_Link_api_Link__limits_link e12) rfl (.cons .v (.cons (.fn rfl) .nil)) rfl rfl) ?_
        refine Run.go (Ev.pickF rfl hb10 rfl rfl) ?_
        refine Run.go (Ev.move rfl rfl) ?_
        rcases boolCases x11 with hb13 | hb13
        · replace h := ifT hb13 h
          refine Run.offT rfl rfl rfl rfl hb13 ?_
          refine Run.offT rfl rfl rfl rfl hb13 ?_
          refine Run.offT rfl rfl rfl rfl hb13 ?_
          refine Run.go (Ev.pickT rfl hb13 rfl rfl) ?_
          refine Run.go (Ev.assign rfl rfl) ?_
          refine Run.nil ?_
          refine T.ret ?_
          cases h
          exact Fin.one rfl .v
        · replace h := ifF hb13 h
          refine Run.on rfl rfl rfl hb13 (Ev.fieldBox X rfl rfl rfl rfl rfl) ?_
          refine Run.on rfl rfl rfl hb13 (Ev.loadCell X rfl rfl rfl rfl rfl rfl) ?_
          obtain ⟨x14, e15, h⟩ := bdS h
          refine Run.on rfl rfl rfl hb13 (Ev.callC en36 (k_slices_ContainsFunc_api_Rule_api_Rule__limits_rule e15) rfl (.cons .v (.cons (.fn rfl) .nil)) rfl rfl) ?_
          refine Run.go (Ev.pickF rfl hb13 rfl rfl) ?_
          refine Run.go (Ev.assign rfl rfl) ?_
          refine Run.nil ?_
          refine T.ret ?_
          cases h
          exact Fin.one rfl .v
theorem en30 : Enters Tryz.prog 30 := ⟨_, Tryz.func30, rfl, rfl⟩
theorem k_slices_IndexFunc_api_Net_api_Net__limits_net {p0 : (List D_api_Net)} {y : Int} (h : m_slices_IndexFunc_api_Net_api_Net__limits_net p0 = some y) : Spec Tryz.prog 30 [(.v (.sl Y_api_Net) p0), (.fn 21 [])] (.v (.int .i64) y) [] := by
  rw [m_slices_IndexFunc_api_Net_api_Net__limits_net] at h
  refine enterN [(.v (.sl Y_api_Net) p0), (.fn 21 [])] 19 Tryz.func30 rfl rfl rfl ?_
  refine T.seq ?_
  refine T.region ?_
  refine Run.go (Ev.assign rfl rfl) ?_
  refine Run.nil ?_
  refine T.seq ?_
  refine T.seq ?_
  refine T.region ?_
  refine Run.go (Ev.move rfl rfl) ?_
  refine Run.go (Ev.len X rfl rfl rfl rfl) ?_
  refine Run.go (Ev.move rfl rfl) ?_
  refine Run.nil ?_
  refine T.block ?_
  refine T.loop (LoopT.ghost (Ghost.only [] [0, 1, 7, 8] rfl) (LoopT.run (fun q : Int => (⟨[(0, .v (.sl Y_api_Net) p0), (1, .fn 21 []), (7, .v (.int .i64) ((p0.length : Int) : Int)), (8, .v (.int .i64) q)], [], 19⟩ : St)) (fun v1 z1 h hz1 => ?_) h))
  rw [m_slices_IndexFunc_api_Net_api_Net__limits_net_l1] at h
  refine T.seq ?_
  refine T.region ?_
  refine Run.go (Ev.int rfl rfl rfl rfl trivial) ?_
  refine Run.nil ?_
  refine T.seq ?_
  refine T.cond rfl (fun hb2 => ?_) (fun hb2 => ?_)
  · replace h := ifT hb2 h
    refine T.skip ?_
    refine T.seq ?_
    refine T.block ?_
    refine T.seq ?_
    refine T.region ?_
    refine Run.go (Ev.move rfl rfl) ?_
    refine Run.go (Ev.assign rfl rfl) ?_
    refine Run.nil ?_
    refine T.seq ?_
    refine T.region ?_
    refine Run.go (Ev.move rfl rfl) ?_
    refine Run.go (Ev.move rfl rfl) ?_
    refine Run.go (Ev.move rfl rfl) ?_
    obtain ⟨x3, e4, h⟩ := bdS h
    refine Run.go (Ev.e_rd X e4 rfl rfl rfl rfl) ?_
    refine Run.go (Ev.load X rfl rfl rfl) ?_
    obtain ⟨x5, e6, h⟩ := bdS h
    refine Run.go (Ev.callC en21 (k_limits_net e6) rfl (.cons .v .nil) rfl rfl) ?_
    refine Run.nil ?_
    refine T.cond rfl (fun hb7 => ?_) (fun hb7 => ?_)
    · replace h := ifT hb7 h
      refine T.seq ?_
      refine T.region ?_
      refine Run.go (Ev.move rfl rfl) ?_
      refine Run.go (Ev.assign rfl rfl) ?_
      refine Run.nil ?_
      refine T.ret ?_
      cases h
      cases hz1
      exact Fin.one rfl .v
    · replace h := ifF hb7 h
      refine T.skip ?_
      refine T.region ?_
      refine Run.go (Ev.int rfl rfl rfl rfl trivial) ?_
      refine Run.go (Ev.move rfl rfl) ?_
      refine Run.nil ?_
      cases h
      exact LoopT.ghost (Ghost.only [] [0, 1, 7, 8] rfl) hz1
  · replace h := ifF hb2 h
    refine T.exit ?_
    refine T.seq ?_
    refine T.region ?_
    refine Run.go (Ev.assign rfl rfl) ?_
    refine Run.nil ?_
    refine T.ret ?_
    cases h
    cases hz1
    exact Fin.one rfl .v
theorem en20 : Enters Tryz.prog 20 := ⟨_, Tryz.func20, rfl, rfl⟩
theorem k_slices_ContainsFunc_api_Net_api_Net__limits_net {p0 : (List D_api_Net)} {y : Bool} (h : m_slices_ContainsFunc_api_Net_api_Net__limits_net p0 = some y) : Spec Tryz.prog 20 [(.v (.sl Y_api_Net) p0), (.fn 21 [])] (.v .bool y) [] := by
  rw [m_slices_ContainsFunc_api_Net_api_Net__limits_net] at h
  refine enterN [(.v (.sl Y_api_Net) p0), (.fn 21 [])] 9 Tryz.func20 rfl rfl rfl ?_
  refine T.seq ?_
  refine T.region ?_
  refine Run.go (Ev.assign rfl rfl) ?_
  refine Run.nil ?_
  refine T.seq ?_
  refine T.region ?_
  refine Run.go (Ev.move rfl rfl) ?_
  refine Run.go (Ev.move rfl rfl) ?_
  obtain ⟨x1, e2, h⟩ := bdS h
  refine Run.go (Ev.callC en30 (k_slices_IndexFunc_api_Net_api_Net__limits_net e2) rfl (.cons .v (.cons (.fn rfl) .nil)) rfl rfl) ?_
  refine Run.go (Ev.int rfl rfl rfl rfl trivial) ?_
  refine Run.go (Ev.assign rfl rfl) ?_
  refine Run.nil ?_
  refine T.ret ?_
  cases h
  exact Fin.one rfl .v
theorem en96 : Enters Tryz.prog 96 := ⟨_, Tryz.func96, rfl, rfl⟩
theorem k_canon_each_api_Prefix__addr_Text {p0 : (List D_api_Prefix)} {y : (List ByteArray)} (h : m_canon_each_api_Prefix__addr_Text p0 = some y) : Spec Tryz.prog 96 [(.v (.sl Y_api_Prefix) p0), (.fn 85 [])] (.v (.sl .str) y) [] := by
  rw [m_canon_each_api_Prefix__addr_Text] at h
  refine enterN [(.v (.sl Y_api_Prefix) p0), (.fn 85 [])] 26 Tryz.func96 rfl rfl rfl ?_
  refine T.seq ?_
  refine T.region ?_
  refine Run.go (Ev.assign rfl rfl) ?_
  refine Run.nil ?_
  refine T.seq ?_
  refine T.region ?_
  refine Run.go (Ev.move rfl rfl) ?_
  refine Run.go (Ev.len X rfl rfl rfl rfl) ?_
  obtain ⟨x1, e2, h⟩ := bdS h
  refine Run.go (Ev.e_mk X 1 e2 rfl rfl rfl rfl rfl rfl) ?_
  refine Run.go (Ev.assign rfl rfl) ?_
  refine Run.nil ?_
  obtain ⟨v3, hv, h⟩ := bdS h
  refine T.cut (fun _ : Unit => (⟨[(5, .own 1)], [(1, .arr 9 .str v3)], 26⟩ : St)) (fun _ => True) ?_ (fun _ _ => ?_)
  · replace h := hv
    clear hv
    refine T.seq ?_
    refine T.region ?_
    refine Run.go (Ev.move rfl rfl) ?_
    refine Run.go (Ev.len X rfl rfl rfl rfl) ?_
    refine Run.go (Ev.move rfl rfl) ?_
    refine Run.nil ?_
    refine T.block ?_
    refine T.loop (LoopT.ghost (Ghost.only [(1, 1)] [1, 5, 11, 12, 13] rfl) (LoopT.run (fun q : Int × (List ByteArray) => (⟨[(1, .fn 85 []), (5, .own 1), (11, .v (.sl Y_api_Prefix) p0), (12, .v (.int .i64) ((p0.length : Int) : Int)), (13, .v (.int .i64) q.1)], [(1, .arr 9 .str q.2)], 26⟩ : St)) (fun q z1 h hz1 => ?_) h))
    obtain ⟨v4, v5⟩ := q
    dsimp only
    rw [m_canon_each_api_Prefix__addr_Text_l1] at h
    refine T.seq ?_
    refine T.region ?_
    refine Run.go (Ev.int rfl rfl rfl rfl trivial) ?_
    refine Run.nil ?_
    refine T.seq ?_
    refine T.cond rfl (fun hb6 => ?_) (fun hb6 => ?_)
    · replace h := ifT hb6 h
      refine T.skip ?_
      refine T.seq ?_
      refine T.block ?_
      refine T.seq ?_
      refine T.region ?_
      refine Run.go (Ev.move rfl rfl) ?_
      obtain ⟨x7, e8, h⟩ := bdS h
      refine Run.go (Ev.e_rd X e8 rfl rfl rfl rfl) ?_
      refine Run.go (Ev.load X rfl rfl rfl) ?_
      refine Run.go (Ev.allocN X 14 rfl rfl rfl) ?_
      refine Run.go (Ev.assign rfl rfl) ?_
      refine Run.do_ (Ev.storeBox X rfl rfl rfl rfl rfl rfl rfl) ?_
      refine Run.nil ?_
      refine T.region ?_
      refine Run.go (Ev.move rfl rfl) ?_
      refine Run.go (Ev.move rfl rfl) ?_
      refine Run.go (Ev.move rfl rfl) ?_
      refine Run.go (Ev.loadBox X rfl rfl rfl rfl rfl) ?_
      obtain ⟨x9, e10, h⟩ := bdS h
      refine Run.go (Ev.callC en85 (k_addr_Text e10) rfl (.cons .v .nil) rfl rfl) ?_
      obtain ⟨j11, e12, h⟩ := bdS h
      refine Run.go (Ev.e_ixO X e12 rfl rfl rfl rfl rfl) ?_
      obtain ⟨x13, e14, h⟩ := ltS h
      refine Run.do_ (Ev.asO (Ev.storeEl X rfl rfl rfl rfl rfl) e14) ?_
      refine Run.nil ?_
      refine T.region ?_
      refine Run.go (Ev.int rfl rfl rfl rfl trivial) ?_
      refine Run.go (Ev.move rfl rfl) ?_
      refine Run.nil ?_
      cases h
      exact LoopT.ghost (Ghost.only [(1, 1)] [1, 5, 11, 12, 13] rfl) hz1
    · replace h := ifF hb6 h
      refine T.exit ?_
      cases h
      cases hz1
      exact ⟨(), trivial, Ghost.only [(1, 1)] [5] rfl⟩
  · refine T.seq ?_
    refine T.region ?_
    refine Run.go (Ev.move rfl rfl) ?_
    refine Run.go (Ev.assign rfl rfl) ?_
    refine Run.nil ?_
    refine T.ret ?_
    cases h
    exact Fin.one rfl (.own rfl)
theorem en70 : Enters Tryz.prog 70 := ⟨_, Tryz.func70, rfl, rfl⟩
theorem k_canon_node {p0 : D_api_Node} {y : ByteArray} (h : m_canon_node p0 = some y) : Spec Tryz.prog 70 [(.v Y_api_Node p0)] (.v .str y) [] := by
  rw [m_canon_node] at h
  refine enterN [(.v Y_api_Node p0)] 21 Tryz.func70 rfl rfl rfl ?_
  refine T.seq ?_
  refine T.region ?_
  refine Run.go (Ev.box 1 rfl rfl rfl rfl) ?_
  refine Run.go (Ev.assign rfl rfl) ?_
  refine Run.nil ?_
  refine T.seq ?_
  refine T.region ?_
  refine Run.go (Ev.fieldBox X rfl rfl rfl rfl rfl) ?_
  refine Run.go (Ev.loadCell X rfl rfl rfl rfl rfl rfl) ?_
  refine Run.go (Ev.build X 2 rfl rfl rfl rfl rfl rfl rfl rfl) ?_
  obtain ⟨x1, e2, h⟩ := bdS h
  refine Run.go (Ev.lend rfl (.cons (.own rfl) .nil) en68 (k_canon_words e2) rfl rfl) ?_
  refine Run.go (Ev.assign rfl rfl) ?_
  refine Run.nil ?_
  obtain ⟨v3, hv, h⟩ := bdS h
  refine T.cut (fun _ : Unit => (⟨[(3, .v .str v3)], [], 21⟩ : St)) (fun _ => True) ?_ (fun _ _ => ?_)
  · replace h := hv
    clear hv
    refine T.seq ?_
    refine T.region ?_
    refine Run.go (Ev.fieldBox X rfl rfl rfl rfl rfl) ?_
    refine Run.go (Ev.loadCell X rfl rfl rfl rfl rfl rfl) ?_
    refine Run.go (Ev.len X rfl rfl rfl rfl) ?_
    refine Run.go (Ev.int rfl rfl rfl rfl trivial) ?_
    refine Run.nil ?_
    refine T.cond rfl (fun hb4 => ?_) (fun hb4 => ?_)
    · replace h := ifT hb4 h
      refine T.region ?_
      refine Run.go (Ev.move rfl rfl) ?_
      refine Run.go (Ev.fieldBox X rfl rfl rfl rfl rfl) ?_
      refine Run.go (Ev.loadCell X rfl rfl rfl rfl rfl rfl) ?_
      obtain ⟨x5, e6, h⟩ := bdS h
      refine Run.go (Ev.callC en96 (k_canon_each_api_Prefix__addr_Text e6) rfl (.cons .v (.cons (.fn rfl) .nil)) rfl rfl) ?_
      obtain ⟨x7, e8, h⟩ := bdS h
      refine Run.go (Ev.callC en38 (k_strings_Join e8) rfl (.cons .v (.cons .v .nil)) rfl rfl) ?_
      refine Run.go (Ev.build X 4 rfl rfl rfl rfl rfl rfl rfl rfl) ?_
      obtain ⟨x9, e10, h⟩ := bdS h
      refine Run.go (Ev.lend rfl (.cons (.own rfl) .nil) en68 (k_canon_words e10) rfl rfl) ?_
      refine Run.go (Ev.assign rfl rfl) ?_
      refine Run.nil ?_
      cases h
      exact ⟨(), trivial, Ghost.only [] [3] rfl⟩
    · replace h := ifF hb4 h
      refine T.skip ?_
      cases h
      exact ⟨(), trivial, Ghost.only [] [3] rfl⟩
  · refine T.seq ?_
    refine T.region ?_
    refine Run.go (Ev.move rfl rfl) ?_
    obtain ⟨x11, e12, h⟩ := bdS h
    refine Run.go (Ev.e_cat e12 rfl rfl rfl) ?_
    refine Run.go (Ev.assign rfl rfl) ?_
    refine Run.nil ?_
    refine T.ret ?_
    cases h
    exact Fin.one rfl .v
end Go.Proofs.YthnheieajicpfaaGreatDoor.AE
/- The code comes to the printed functions (printed by a program of ours). -/
namespace Go.Proofs.YthnheieajicpfaaGreatDoor.AE
open Go Go.RowKit Go.Proofs.YthnheieajicpfaaGreatDoor.AP
set_option linter.unusedVariables false
set_option maxRecDepth 20000
theorem en69 : Enters Tryz.prog 69 := ⟨_, Tryz.func69, rfl, rfl⟩
theorem k_canon_each_api_Node__canon_node {p0 : (List D_api_Node)} {y : (List ByteArray)} (h : m_canon_each_api_Node__canon_node p0 = some y) : Spec Tryz.prog 69 [(.v (.sl Y_api_Node) p0), (.fn 70 [])] (.v (.sl .str) y) [] := by
  rw [m_canon_each_api_Node__canon_node] at h
  refine enterN [(.v (.sl Y_api_Node) p0), (.fn 70 [])] 26 Tryz.func69 rfl rfl rfl ?_
  refine T.seq ?_
  refine T.region ?_
  refine Run.go (Ev.assign rfl rfl) ?_
  refine Run.nil ?_
  refine T.seq ?_
  refine T.region ?_
  refine Run.go (Ev.move rfl rfl) ?_
  refine Run.go (Ev.len X rfl rfl rfl rfl) ?_
  obtain ⟨x1, e2, h⟩ := bdS h
  refine Run.go (Ev.e_mk X 1 e2 rfl rfl rfl rfl rfl rfl) ?_
  refine Run.go (Ev.assign rfl rfl) ?_
  refine Run.nil ?_
  obtain ⟨v3, hv, h⟩ := bdS h
  refine T.cut (fun _ : Unit => (⟨[(5, .own 1)], [(1, .arr 9 .str v3)], 26⟩ : St)) (fun _ => True) ?_ (fun _ _ => ?_)
  · replace h := hv
    clear hv
    refine T.seq ?_
    refine T.region ?_
    refine Run.go (Ev.move rfl rfl) ?_
    refine Run.go (Ev.len X rfl rfl rfl rfl) ?_
    refine Run.go (Ev.move rfl rfl) ?_
    refine Run.nil ?_
    refine T.block ?_
    refine T.loop (LoopT.ghost (Ghost.only [(1, 1)] [1, 5, 11, 12, 13] rfl) (LoopT.run (fun q : Int × (List ByteArray) => (⟨[(1, .fn 70 []), (5, .own 1), (11, .v (.sl Y_api_Node) p0), (12, .v (.int .i64) ((p0.length : Int) : Int)), (13, .v (.int .i64) q.1)], [(1, .arr 9 .str q.2)], 26⟩ : St)) (fun q z1 h hz1 => ?_) h))
    obtain ⟨v4, v5⟩ := q
    dsimp only
    rw [m_canon_each_api_Node__canon_node_l1] at h
    refine T.seq ?_
    refine T.region ?_
    refine Run.go (Ev.int rfl rfl rfl rfl trivial) ?_
    refine Run.nil ?_
    refine T.seq ?_
    refine T.cond rfl (fun hb6 => ?_) (fun hb6 => ?_)
    · replace h := ifT hb6 h
      refine T.skip ?_
      refine T.seq ?_
      refine T.block ?_
      refine T.seq ?_
      refine T.region ?_
      refine Run.go (Ev.move rfl rfl) ?_
      obtain ⟨x7, e8, h⟩ := bdS h
      refine Run.go (Ev.e_rd X e8 rfl rfl rfl rfl) ?_
      refine Run.go (Ev.load X rfl rfl rfl) ?_
      refine Run.go (Ev.allocN X 14 rfl rfl rfl) ?_
      refine Run.go (Ev.assign rfl rfl) ?_
      refine Run.do_ (Ev.storeBox X rfl rfl rfl rfl rfl rfl rfl) ?_
      refine Run.nil ?_
      refine T.region ?_
      refine Run.go (Ev.move rfl rfl) ?_
      refine Run.go (Ev.move rfl rfl) ?_
      refine Run.go (Ev.move rfl rfl) ?_
      refine Run.go (Ev.loadBox X rfl rfl rfl rfl rfl) ?_
      obtain ⟨x9, e10, h⟩ := bdS h
      refine Run.go (Ev.callC en70 (k_canon_node e10) rfl (.cons .v .nil) rfl rfl) ?_
      obtain ⟨j11, e12, h⟩ := bdS h
      refine Run.go (Ev.e_ixO X e12 rfl rfl rfl rfl rfl) ?_
      obtain ⟨x13, e14, h⟩ := ltS h
      refine Run.do_ (Ev.asO (Ev.storeEl X rfl rfl rfl rfl rfl) e14) ?_
      refine Run.nil ?_
      refine T.region ?_
      refine Run.go (Ev.int rfl rfl rfl rfl trivial) ?_
      refine Run.go (Ev.move rfl rfl) ?_
      refine Run.nil ?_
      cases h
      exact LoopT.ghost (Ghost.only [(1, 1)] [1, 5, 11, 12, 13] rfl) hz1
    · replace h := ifF hb6 h
      refine T.exit ?_
      cases h
      cases hz1
      exact ⟨(), trivial, Ghost.only [(1, 1)] [5] rfl⟩
  · refine T.seq ?_
    refine T.region ?_
    refine Run.go (Ev.move rfl rfl) ?_
    refine Run.go (Ev.assign rfl rfl) ?_
    refine Run.nil ?_
    refine T.ret ?_
    cases h
    exact Fin.one rfl (.own rfl)
theorem en108 : Enters Tryz.prog 108 := ⟨_, Tryz.func108, rfl, rfl⟩
theorem k_whole_Print {p0 : D_api_Int} {y : ByteArray} (h : m_whole_Print p0 = some y) : Spec Tryz.prog 108 [(.v Y_api_Int p0)] (.v .str y) [] := by
  rw [m_whole_Print] at h
  refine enterN [(.v Y_api_Int p0)] 12 Tryz.func108 rfl rfl rfl ?_
  refine T.seq ?_
  refine T.region ?_
  refine Run.go (Ev.box 1 rfl rfl rfl rfl) ?_
  refine Run.go (Ev.assign rfl rfl) ?_
  refine Run.nil ?_
  refine T.seq ?_
  refine T.seq ?_
  refine T.region ?_
  refine Run.go (Ev.fieldBox X rfl rfl rfl rfl rfl) ?_
  refine Run.go (Ev.loadCell X rfl rfl rfl rfl rfl rfl) ?_
  refine Run.nil ?_
  refine T.cond rfl (fun hb1 => ?_) (fun hb1 => ?_)
  · replace h := ifT hb1 h
    refine T.seq ?_
    refine T.region ?_
    refine Run.go (Ev.fieldBox X rfl rfl rfl rfl rfl) ?_
    refine Run.go (Ev.loadCell X rfl rfl rfl rfl rfl rfl) ?_
    obtain ⟨x2, e3, h⟩ := bdS h
    refine Run.go (Ev.callC en105 (k_digits_Print e3) rfl (.cons .v .nil) rfl rfl) ?_
    obtain ⟨x4, e5, h⟩ := bdS h
    refine Run.go (Ev.e_cat e5 rfl rfl rfl) ?_
    refine Run.go (Ev.assign rfl rfl) ?_
    refine Run.nil ?_
    refine T.ret ?_
    cases h
    exact Fin.one rfl .v
  · replace h := ifF hb1 h
    refine T.skip ?_
    refine T.seq ?_
    refine T.region ?_
    refine Run.go (Ev.fieldBox X rfl rfl rfl rfl rfl) ?_
    refine Run.go (Ev.loadCell X rfl rfl rfl rfl rfl rfl) ?_
    obtain ⟨x6, e7, h⟩ := bdS h
    refine Run.go (Ev.callC en105 (k_digits_Print e7) rfl (.cons .v .nil) rfl rfl) ?_
    refine Run.go (Ev.assign rfl rfl) ?_
    refine Run.nil ?_
    refine T.ret ?_
    cases h
    exact Fin.one rfl .v
theorem en110 : Enters Tryz.prog 110 := ⟨_, Tryz.func110, rfl, rfl⟩
theorem k_nat_Of {p0 : Int} {y : (List Int)} (h : m_nat_Of p0 = some y) : Spec Tryz.prog 110 [(.v (.int .u64) p0)] (.v (.sl (.int .u64)) y) [] := by
  rw [m_nat_Of] at h
  refine enterN [(.v (.int .u64) p0)] 9 Tryz.func110 rfl rfl rfl ?_
  refine T.seq ?_
  refine T.region ?_
  refine Run.go (Ev.assign rfl rfl) ?_
  refine Run.nil ?_
  refine T.seq ?_
  refine T.region ?_
  refine Run.go (Ev.move rfl rfl) ?_
  obtain ⟨x1, e2, h⟩ := bdS h
  refine Run.go (Ev.e_rm e2 rfl rfl rfl) ?_
  refine Run.go (Ev.move rfl rfl) ?_
  obtain ⟨x3, e4, h⟩ := bdS h
  refine Run.go (Ev.e_sr e4 rfl rfl rfl) ?_
  refine Run.go (Ev.build X 1 rfl rfl rfl rfl rfl rfl rfl rfl) ?_
  refine Run.ghost (Ghost.firmAll (id := 1) rfl) ?_
  obtain ⟨x5, e6, h⟩ := bdS h
  refine Run.go (Ev.callC en116 (k_nat_trim e6) rfl (.cons .v .nil) rfl rfl) ?_
  refine Run.go (Ev.assign rfl rfl) ?_
  refine Run.nil ?_
  refine T.ret ?_
  cases h
  exact Fin.one rfl .v
theorem en109 : Enters Tryz.prog 109 := ⟨_, Tryz.func109, rfl, rfl⟩
theorem k_nat_Cmp {p0 : (List Int)} {p1 : (List Int)} {y : Int} (h : m_nat_Cmp p0 p1 = some y) : Spec Tryz.prog 109 [(.v (.sl (.int .u64)) p0), (.v (.sl (.int .u64)) p1)] (.v (.int .i64) y) [] := by
  rw [m_nat_Cmp] at h
  refine enterN [(.v (.sl (.int .u64)) p0), (.v (.sl (.int .u64)) p1)] 45 Tryz.func109 rfl rfl rfl ?_
  refine T.seq ?_
  refine T.region ?_
  refine Run.go (Ev.assign rfl rfl) ?_
  refine Run.nil ?_
  refine T.seq ?_
  refine T.block ?_
  refine T.seq ?_
  refine T.region ?_
  refine Run.go (Ev.move rfl rfl) ?_
  refine Run.go (Ev.len X rfl rfl rfl rfl) ?_
  refine Run.go (Ev.move rfl rfl) ?_
  refine Run.go (Ev.len X rfl rfl rfl rfl) ?_
  refine Run.go (Ev.int rfl rfl rfl rfl trivial) ?_
  obtain ⟨x1, e2, h⟩ := ltS h
  refine Run.go (Ev.avs (Ev.assign rfl rfl) e2) ?_
  refine Run.nil ?_
  refine T.cond rfl (fun hb3 => ?_) (fun hb3 => ?_)
  · replace h := ifT hb3 h
    refine T.seq ?_
    refine T.region ?_
    refine Run.go (Ev.assign rfl rfl) ?_
    refine Run.nil ?_
    refine T.ret ?_
    cases h
    exact Fin.one rfl .v
  · replace h := ifF hb3 h
    refine T.seq ?_
    refine T.region ?_
    refine Run.go (Ev.move rfl rfl) ?_
    refine Run.go (Ev.len X rfl rfl rfl rfl) ?_
    refine Run.go (Ev.move rfl rfl) ?_
    refine Run.go (Ev.len X rfl rfl rfl rfl) ?_
    refine Run.go (Ev.int rfl rfl rfl rfl trivial) ?_
    obtain ⟨x4, e5, h⟩ := ltS h
    refine Run.go (Ev.avs (Ev.assign rfl rfl) e5) ?_
    refine Run.nil ?_
    refine T.cond rfl (fun hb6 => ?_) (fun hb6 => ?_)
    · replace h := ifT hb6 h
      refine T.seq ?_
      refine T.region ?_
      refine Run.go (Ev.assign rfl rfl) ?_
      refine Run.nil ?_
      refine T.ret ?_
      cases h
      exact Fin.one rfl .v
    · replace h := ifF hb6 h
      refine T.skip ?_
      refine T.seq ?_
      refine T.seq ?_
      refine T.region ?_
      refine Run.go (Ev.move rfl rfl) ?_
      refine Run.go (Ev.len X rfl rfl rfl rfl) ?_
      refine Run.go (Ev.int rfl rfl rfl rfl trivial) ?_
      refine Run.go (Ev.assign rfl rfl) ?_
      refine Run.nil ?_
      refine T.block ?_
      refine T.loop (LoopT.ghost (Ghost.only [] [0, 1, 5] rfl) (LoopT.run (fun q : Int => (⟨[(0, .v (.sl (.int .u64)) p0), (1, .v (.sl (.int .u64)) p1), (5, .v (.int .i64) q)], [], 45⟩ : St)) (fun v7 z1 h hz1 => ?_) h))
      rw [m_nat_Cmp_l1] at h
      refine T.seq ?_
      refine T.seq ?_
      refine T.region ?_
      refine Run.go (Ev.move rfl rfl) ?_
      refine Run.go (Ev.int rfl rfl rfl rfl trivial) ?_
      refine Run.nil ?_
      refine T.cond rfl (fun hb8 => ?_) (fun hb8 => ?_)
      · replace h := ifT hb8 h
        refine T.skip ?_
        refine T.seq ?_
        refine T.block ?_
        refine T.block ?_
        refine T.seq ?_
        refine T.drawM [] [0, 0, 3, 7, 0, 0, 48, 112, 255, 511] (by kernel_rfl) (by kernel_rfl) ?_
        refine RunD.w (fun _ => Ev.move rfl rfl) ?_
        refine RunD.w (fun _ => Ev.move rfl rfl) ?_
        obtain ⟨x9, e10, h⟩ := bdS h
        refine RunD.a rfl rfl (Ev.e_rd X e10 rfl rfl rfl rfl) ?_
        refine RunD.a rfl rfl (Ev.load X rfl rfl rfl) ?_
        refine RunD.w (fun _ => Ev.move rfl rfl) ?_
        refine RunD.w (fun _ => Ev.move rfl rfl) ?_
        obtain ⟨x11, e12, h⟩ := bdS h
        refine RunD.a rfl rfl (Ev.e_rd X e12 rfl rfl rfl rfl) ?_
        refine RunD.a rfl rfl (Ev.load X rfl rfl rfl) ?_
        refine RunD.w (fun _ => Ev.int rfl rfl rfl rfl trivial) ?_
        refine RunD.w (fun _ => Ev.assign rfl rfl) ?_
        refine RunD.nil ?_
        refine T.cond rfl (fun hb13 => ?_) (fun hb13 => ?_)
        · replace h := ifT hb13 h
          refine T.seq ?_
          refine T.region ?_
          refine Run.go (Ev.assign rfl rfl) ?_
          refine Run.nil ?_
          refine T.ret ?_
          cases h
          cases hz1
          exact Fin.one rfl .v
        · replace h := ifF hb13 h
          refine T.seq ?_
          refine T.drawM [] [0, 0, 3, 7, 0, 0, 48, 112, 255, 511] (by kernel_rfl) (by kernel_rfl) ?_
          refine RunD.w (fun _ => Ev.move rfl rfl) ?_
          refine RunD.w (fun _ => Ev.move rfl rfl) ?_
          obtain ⟨x14, e15, h⟩ := bdS h
          refine RunD.a rfl rfl (Ev.e_rd X e15 rfl rfl rfl rfl) ?_
          refine RunD.a rfl rfl (Ev.load X rfl rfl rfl) ?_
          refine RunD.w (fun _ => Ev.move rfl rfl) ?_
          refine RunD.w (fun _ => Ev.move rfl rfl) ?_
          obtain ⟨x16, e17, h⟩ := bdS h
          refine RunD.a rfl rfl (Ev.e_rd X e17 rfl rfl rfl rfl) ?_
          refine RunD.a rfl rfl (Ev.load X rfl rfl rfl) ?_
          refine RunD.w (fun _ => Ev.int rfl rfl rfl rfl trivial) ?_
          refine RunD.w (fun _ => Ev.assign rfl rfl) ?_
          refine RunD.nil ?_
          refine T.cond rfl (fun hb18 => ?_) (fun hb18 => ?_)
          · replace h := ifT hb18 h
            refine T.seq ?_
            refine T.region ?_
            refine Run.go (Ev.assign rfl rfl) ?_
            refine Run.nil ?_
            refine T.ret ?_
            cases h
            cases hz1
            exact Fin.one rfl .v
          · replace h := ifF hb18 h
            refine T.skip ?_
            refine T.region ?_
            refine Run.go (Ev.move rfl rfl) ?_
            refine Run.go (Ev.int rfl rfl rfl rfl trivial) ?_
            refine Run.go (Ev.assign rfl rfl) ?_
            refine Run.nil ?_
            cases h
            exact LoopT.ghost (Ghost.only [] [0, 1, 5] rfl) hz1
      · replace h := ifF hb8 h
        refine T.exit ?_
        refine T.seq ?_
        refine T.region ?_
        refine Run.go (Ev.assign rfl rfl) ?_
        refine Run.nil ?_
        refine T.ret ?_
        cases h
        cases hz1
        exact Fin.one rfl .v
theorem en97 : Enters Tryz.prog 97 := ⟨_, Tryz.func97, rfl, rfl⟩
theorem k_ratio_Print {p0 : D_api_Rat} {y : ByteArray} (h : m_ratio_Print p0 = some y) : Spec Tryz.prog 97 [(.v Y_api_Rat p0)] (.v .str y) [] := by
  rw [m_ratio_Print] at h
  refine enterN [(.v Y_api_Rat p0)] 19 Tryz.func97 rfl rfl rfl ?_
  refine T.seq ?_
  refine T.region ?_
  refine Run.go (Ev.box 1 rfl rfl rfl rfl) ?_
  refine Run.go (Ev.assign rfl rfl) ?_
  refine Run.nil ?_
  refine T.seq ?_
  refine T.region ?_
  refine Run.go (Ev.fieldBox X rfl rfl rfl rfl rfl) ?_
  refine Run.go (Ev.loadBox X rfl rfl rfl rfl rfl) ?_
  obtain ⟨x1, e2, h⟩ := bdS h
  refine Run.go (Ev.callC en108 (k_whole_Print e2) rfl (.cons .v .nil) rfl rfl) ?_
  refine Run.go (Ev.assign rfl rfl) ?_
  refine Run.nil ?_
  refine T.seq ?_
  refine T.seq ?_
  refine T.drawM [] [0, 1, 0, 7, 15] (by kernel_rfl) (by kernel_rfl) ?_
  refine RunD.a rfl rfl (Ev.fieldBox X rfl rfl rfl rfl rfl) ?_
  refine RunD.a rfl rfl (Ev.loadCell X rfl rfl rfl rfl rfl rfl) ?_
  obtain ⟨x3, e4, h⟩ := bdS h
  refine RunD.a rfl rfl (Ev.callC en110 (k_nat_Of e4) rfl (.cons .v .nil) rfl rfl) ?_
  obtain ⟨x5, e6, h⟩ := bdS h
  refine RunD.a rfl rfl (Ev.callC en109 (k_nat_Cmp e6) rfl (.cons .v (.cons .v .nil)) rfl rfl) ?_
  refine RunD.w (fun _ => Ev.int rfl rfl rfl rfl trivial) ?_
  refine RunD.nil ?_
  refine T.cond rfl (fun hb7 => ?_) (fun hb7 => ?_)
  · replace h := ifT hb7 h
    refine T.seq ?_
    refine T.region ?_
    refine Run.go (Ev.move rfl rfl) ?_
    refine Run.go (Ev.assign rfl rfl) ?_
    refine Run.nil ?_
    refine T.ret ?_
    cases h
    exact Fin.one rfl .v
  · replace h := ifF hb7 h
    refine T.skip ?_
    refine T.seq ?_
    refine T.region ?_
    refine Run.go (Ev.move rfl rfl) ?_
    obtain ⟨x8, e9, h⟩ := bdS h
    refine Run.go (Ev.e_cat e9 rfl rfl rfl) ?_
    refine Run.go (Ev.fieldBox X rfl rfl rfl rfl rfl) ?_
    refine Run.go (Ev.loadCell X rfl rfl rfl rfl rfl rfl) ?_
    obtain ⟨x10, e11, h⟩ := bdS h
    refine Run.go (Ev.callC en105 (k_digits_Print e11) rfl (.cons .v .nil) rfl rfl) ?_
    obtain ⟨x12, e13, h⟩ := bdS h
    refine Run.go (Ev.e_cat e13 rfl rfl rfl) ?_
    refine Run.go (Ev.assign rfl rfl) ?_
    refine Run.nil ?_
    refine T.ret ?_
    cases h
    exact Fin.one rfl .v
theorem en72 : Enters Tryz.prog 72 := ⟨_, Tryz.func72, rfl, rfl⟩
theorem k_canon_link {p0 : D_api_Link} {y : ByteArray} (h : m_canon_link p0 = some y) : Spec Tryz.prog 72 [(.v Y_api_Link p0)] (.v .str y) [] := by
  rw [m_canon_link] at h
  refine enterN [(.v Y_api_Link p0)] 15 Tryz.func72 rfl rfl rfl ?_
  refine T.seq ?_
  refine T.region ?_
  refine Run.go (Ev.box 1 rfl rfl rfl rfl) ?_
  refine Run.go (Ev.assign rfl rfl) ?_
  refine Run.nil ?_
  refine T.seq ?_
  refine T.drawM [9] [0, 1, 0, 4, 0, 16, 0, 64, 192, 511, 1023, 2047, 4095] (by kernel_rfl) (by kernel_rfl) ?_
  refine RunD.a rfl rfl (Ev.fieldBox X rfl rfl rfl rfl rfl) ?_
  refine RunD.a rfl rfl (Ev.loadCell X rfl rfl rfl rfl rfl rfl) ?_
  refine RunD.a rfl rfl (Ev.fieldBox X rfl rfl rfl rfl rfl) ?_
  refine RunD.a rfl rfl (Ev.loadCell X rfl rfl rfl rfl rfl rfl) ?_
  refine RunD.a rfl rfl (Ev.fieldBox X rfl rfl rfl rfl rfl) ?_
  refine RunD.a rfl rfl (Ev.loadCell X rfl rfl rfl rfl rfl rfl) ?_
  refine RunD.a rfl rfl (Ev.fieldBox X rfl rfl rfl rfl rfl) ?_
  refine RunD.a rfl rfl (Ev.loadBox X rfl rfl rfl rfl rfl) ?_
  obtain ⟨x1, e2, h⟩ := bdS h
  refine RunD.a rfl rfl (Ev.callC en97 (k_ratio_Print e2) rfl (.cons .v .nil) rfl rfl) ?_
  refine RunD.mD rfl (Ev.build X 2 rfl rfl rfl rfl rfl rfl rfl rfl) ?_
  obtain ⟨x3, e4, h⟩ := bdS h
  refine RunD.a rfl rfl (Ev.lend rfl (.cons (.own rfl) .nil) en68 (k_canon_words e4) rfl rfl) ?_
  obtain ⟨x5, e6, h⟩ := bdS h
  refine RunD.w (fun _ => Ev.e_cat e6 rfl rfl rfl) ?_
  refine RunD.w (fun _ => Ev.assign rfl rfl) ?_
  refine RunD.nil ?_
  refine T.ret ?_
  cases h
  exact Fin.one rfl .v
theorem en71 : Enters Tryz.prog 71 := ⟨_, Tryz.func71, rfl, rfl⟩
theorem k_canon_each_api_Link__canon_link {p0 : (List D_api_Link)} {y : (List ByteArray)} (h : m_canon_each_api_Link__canon_link p0 = some y) : Spec Tryz.prog 71 [(.v (.sl Y_api_Link) p0), (.fn 72 [])] (.v (.sl .str) y) [] := by
  rw [m_canon_each_api_Link__canon_link] at h
  refine enterN [(.v (.sl Y_api_Link) p0), (.fn 72 [])] 26 Tryz.func71 rfl rfl rfl ?_
  refine T.seq ?_
  refine T.region ?_
  refine Run.go (Ev.assign rfl rfl) ?_
  refine Run.nil ?_
  refine T.seq ?_
  refine T.region ?_
  refine Run.go (Ev.move rfl rfl) ?_
  refine Run.go (Ev.len X rfl rfl rfl rfl) ?_
  obtain ⟨x1, e2, h⟩ := bdS h
  refine Run.go (Ev.e_mk X 1 e2 rfl rfl rfl rfl rfl rfl) ?_
  refine Run.go (Ev.assign rfl rfl) ?_
  refine Run.nil ?_
  obtain ⟨v3, hv, h⟩ := bdS h
  refine T.cut (fun _ : Unit => (⟨[(5, .own 1)], [(1, .arr 9 .str v3)], 26⟩ : St)) (fun _ => True) ?_ (fun _ _ => ?_)
  · replace h := hv
    clear hv
    refine T.seq ?_
    refine T.region ?_
    refine Run.go (Ev.move rfl rfl) ?_
    refine Run.go (Ev.len X rfl rfl rfl rfl) ?_
    refine Run.go (Ev.move rfl rfl) ?_
    refine Run.nil ?_
    refine T.block ?_
    refine T.loop (LoopT.ghost (Ghost.only [(1, 1)] [1, 5, 11, 12, 13] rfl) (LoopT.run (fun q : Int × (List ByteArray) => (⟨[(1, .fn 72 []), (5, .own 1), (11, .v (.sl Y_api_Link) p0), (12, .v (.int .i64) ((p0.length : Int) : Int)), (13, .v (.int .i64) q.1)], [(1, .arr 9 .str q.2)], 26⟩ : St)) (fun q z1 h hz1 => ?_) h))
    obtain ⟨v4, v5⟩ := q
    dsimp only
    rw [m_canon_each_api_Link__canon_link_l1] at h
    refine T.seq ?_
    refine T.region ?_
    refine Run.go (Ev.int rfl rfl rfl rfl trivial) ?_
    refine Run.nil ?_
    refine T.seq ?_
    refine T.cond rfl (fun hb6 => ?_) (fun hb6 => ?_)
    · replace h := ifT hb6 h
      refine T.skip ?_
      refine T.seq ?_
      refine T.block ?_
      refine T.seq ?_
      refine T.region ?_
      refine Run.go (Ev.move rfl rfl) ?_
      obtain ⟨x7, e8, h⟩ := bdS h
      refine Run.go (Ev.e_rd X e8 rfl rfl rfl rfl) ?_
      refine Run.go (Ev.load X rfl rfl rfl) ?_
      refine Run.go (Ev.allocN X 14 rfl rfl rfl) ?_
      refine Run.go (Ev.assign rfl rfl) ?_
      refine Run.do_ (Ev.storeBox X rfl rfl rfl rfl rfl rfl rfl) ?_
      refine Run.nil ?_
      refine T.region ?_
      refine Run.go (Ev.move rfl rfl) ?_
      refine Run.go (Ev.move rfl rfl) ?_
      refine Run.go (Ev.move rfl rfl) ?_
      refine Run.go (Ev.loadBox X rfl rfl rfl rfl rfl) ?_
      obtain ⟨x9, e10, h⟩ := bdS h
      refine Run.go (Ev.callC en72 (k_canon_link e10) rfl (.cons .v .nil) rfl rfl) ?_
      obtain ⟨j11, e12, h⟩ := bdS h
      refine Run.go (Ev.e_ixO X e12 rfl rfl rfl rfl rfl) ?_
      obtain ⟨x13, e14, h⟩ := ltS h
      refine Run.do_ (Ev.asO (Ev.storeEl X rfl rfl rfl rfl rfl) e14) ?_
      refine Run.nil ?_
      refine T.region ?_
      refine Run.go (Ev.int rfl rfl rfl rfl trivial) ?_
      refine Run.go (Ev.move rfl rfl) ?_
      refine Run.nil ?_
      cases h
      exact LoopT.ghost (Ghost.only [(1, 1)] [1, 5, 11, 12, 13] rfl) hz1
    · replace h := ifF hb6 h
      refine T.exit ?_
      cases h
      cases hz1
      exact ⟨(), trivial, Ghost.only [(1, 1)] [5] rfl⟩
  · refine T.seq ?_
    refine T.region ?_
    refine Run.go (Ev.move rfl rfl) ?_
    refine Run.go (Ev.assign rfl rfl) ?_
    refine Run.nil ?_
    refine T.ret ?_
    cases h
    exact Fin.one rfl (.own rfl)
theorem en112 : Enters Tryz.prog 112 := ⟨_, Tryz.func112, rfl, rfl⟩
theorem k_canon_hop {p0 : D_api_Hop} {y : ByteArray} (h : m_canon_hop p0 = some y) : Spec Tryz.prog 112 [(.v Y_api_Hop p0)] (.v .str y) [] := by
  rw [m_canon_hop] at h
  refine enterN [(.v Y_api_Hop p0)] 15 Tryz.func112 rfl rfl rfl ?_
  refine T.seq ?_
  refine T.region ?_
  refine Run.go (Ev.box 1 rfl rfl rfl rfl) ?_
  refine Run.go (Ev.assign rfl rfl) ?_
  refine Run.nil ?_
  refine T.seq ?_
  refine T.seq ?_
  refine T.region ?_
  refine Run.go (Ev.fieldBox X rfl rfl rfl rfl rfl) ?_
  refine Run.go (Ev.loadCell X rfl rfl rfl rfl rfl rfl) ?_
  refine Run.go (Ev.int rfl rfl rfl rfl trivial) ?_
  refine Run.nil ?_
  refine T.cond rfl (fun hb1 => ?_) (fun hb1 => ?_)
  · replace h := ifT hb1 h
    refine T.seq ?_
    refine T.region ?_
    refine Run.go (Ev.fieldBox X rfl rfl rfl rfl rfl) ?_
    refine Run.go (Ev.loadCell X rfl rfl rfl rfl rfl rfl) ?_
    refine Run.go (Ev.assign rfl rfl) ?_
    refine Run.nil ?_
    refine T.ret ?_
    cases h
    exact Fin.one rfl .v
  · replace h := ifF hb1 h
    refine T.skip ?_
    refine T.seq ?_
    refine T.drawM [] [0, 1, 3, 0, 8, 24, 63, 127] (by kernel_rfl) (by kernel_rfl) ?_
    refine RunD.a rfl rfl (Ev.fieldBox X rfl rfl rfl rfl rfl) ?_
    refine RunD.a rfl rfl (Ev.loadCell X rfl rfl rfl rfl rfl rfl) ?_
    obtain ⟨x2, e3, h⟩ := bdS h
    refine RunD.w (fun _ => Ev.e_cat e3 rfl rfl rfl) ?_
    refine RunD.a rfl rfl (Ev.fieldBox X rfl rfl rfl rfl rfl) ?_
    refine RunD.a rfl rfl (Ev.loadCell X rfl rfl rfl rfl rfl rfl) ?_
    obtain ⟨x4, e5, h⟩ := bdS h
    refine RunD.a rfl rfl (Ev.callC en84 (k_strconv_Itoa e5) rfl (.cons .v .nil) rfl rfl) ?_
    obtain ⟨x6, e7, h⟩ := bdS h
    refine RunD.w (fun _ => Ev.e_cat e7 rfl rfl rfl) ?_
    refine RunD.w (fun _ => Ev.assign rfl rfl) ?_
    refine RunD.nil ?_
    refine T.ret ?_
    cases h
    exact Fin.one rfl .v
theorem en111 : Enters Tryz.prog 111 := ⟨_, Tryz.func111, rfl, rfl⟩
theorem k_canon_each_api_Hop__canon_hop {p0 : (List D_api_Hop)} {y : (List ByteArray)} (h : m_canon_each_api_Hop__canon_hop p0 = some y) : Spec Tryz.prog 111 [(.v (.sl Y_api_Hop) p0), (.fn 112 [])] (.v (.sl .str) y) [] := by
  rw [m_canon_each_api_Hop__canon_hop] at h
  refine enterN [(.v (.sl Y_api_Hop) p0), (.fn 112 [])] 26 Tryz.func111 rfl rfl rfl ?_
  refine T.seq ?_
  refine T.region ?_
  refine Run.go (Ev.assign rfl rfl) ?_
  refine Run.nil ?_
  refine T.seq ?_
  refine T.region ?_
  refine Run.go (Ev.move rfl rfl) ?_
  refine Run.go (Ev.len X rfl rfl rfl rfl) ?_
  obtain ⟨x1, e2, h⟩ := bdS h
  refine Run.go (Ev.e_mk X 1 e2 rfl rfl rfl rfl rfl rfl) ?_
  refine Run.go (Ev.assign rfl rfl) ?_
  refine Run.nil ?_
  obtain ⟨v3, hv, h⟩ := bdS h
  refine T.cut (fun _ : Unit => (⟨[(5, .own 1)], [(1, .arr 9 .str v3)], 26⟩ : St)) (fun _ => True) ?_ (fun _ _ => ?_)
  · replace h := hv
    clear hv
    refine T.seq ?_
    refine T.region ?_
    refine Run.go (Ev.move rfl rfl) ?_
    refine Run.go (Ev.len X rfl rfl rfl rfl) ?_
    refine Run.go (Ev.move rfl rfl) ?_
    refine Run.nil ?_
    refine T.block ?_
    refine T.loop (LoopT.ghost (Ghost.only [(1, 1)] [1, 5, 11, 12, 13] rfl) (LoopT.run (fun q : Int × (List ByteArray) => (⟨[(1, .fn 112 []), (5, .own 1), (11, .v (.sl Y_api_Hop) p0), (12, .v (.int .i64) ((p0.length : Int) : Int)), (13, .v (.int .i64) q.1)], [(1, .arr 9 .str q.2)], 26⟩ : St)) (fun q z1 h hz1 => ?_) h))
    obtain ⟨v4, v5⟩ := q
    dsimp only
    rw [m_canon_each_api_Hop__canon_hop_l1] at h
    refine T.seq ?_
    refine T.region ?_
    refine Run.go (Ev.int rfl rfl rfl rfl trivial) ?_
    refine Run.nil ?_
    refine T.seq ?_
    refine T.cond rfl (fun hb6 => ?_) (fun hb6 => ?_)
    · replace h := ifT hb6 h
      refine T.skip ?_
      refine T.seq ?_
      refine T.block ?_
      refine T.seq ?_
      refine T.region ?_
      refine Run.go (Ev.move rfl rfl) ?_
      obtain ⟨x7, e8, h⟩ := bdS h
      refine Run.go (Ev.e_rd X e8 rfl rfl rfl rfl) ?_
      refine Run.go (Ev.load X rfl rfl rfl) ?_
      refine Run.go (Ev.allocN X 14 rfl rfl rfl) ?_
      refine Run.go (Ev.assign rfl rfl) ?_
      refine Run.do_ (Ev.storeBox X rfl rfl rfl rfl rfl rfl rfl) ?_
      refine Run.nil ?_
      refine T.region ?_
      refine Run.go (Ev.move rfl rfl) ?_
      refine Run.go (Ev.move rfl rfl) ?_
      refine Run.go (Ev.move rfl rfl) ?_
      refine Run.go (Ev.loadBox X rfl rfl rfl rfl rfl) ?_
      obtain ⟨x9, e10, h⟩ := bdS h
      refine Run.go (Ev.callC en112 (k_canon_hop e10) rfl (.cons .v .nil) rfl rfl) ?_
      obtain ⟨j11, e12, h⟩ := bdS h
      refine Run.go (Ev.e_ixO X e12 rfl rfl rfl rfl rfl) ?_
      obtain ⟨x13, e14, h⟩ := ltS h
      refine Run.do_ (Ev.asO (Ev.storeEl X rfl rfl rfl rfl rfl) e14) ?_
      refine Run.nil ?_
      refine T.region ?_
      refine Run.go (Ev.int rfl rfl rfl rfl trivial) ?_
      refine Run.go (Ev.move rfl rfl) ?_
      refine Run.nil ?_
      cases h
      exact LoopT.ghost (Ghost.only [(1, 1)] [1, 5, 11, 12, 13] rfl) hz1
    · replace h := ifF hb6 h
      refine T.exit ?_
      cases h
      cases hz1
      exact ⟨(), trivial, Ghost.only [(1, 1)] [5] rfl⟩
  · refine T.seq ?_
    refine T.region ?_
    refine Run.go (Ev.move rfl rfl) ?_
    refine Run.go (Ev.assign rfl rfl) ?_
    refine Run.nil ?_
    refine T.ret ?_
    cases h
    exact Fin.one rfl (.own rfl)
theorem en99 : Enters Tryz.prog 99 := ⟨_, Tryz.func99, rfl, rfl⟩
theorem k_canon_group {p0 : (List D_api_Hop)} {y : ByteArray} (h : m_canon_group p0 = some y) : Spec Tryz.prog 99 [(.v (.sl Y_api_Hop) p0)] (.v .str y) [] := by
  rw [m_canon_group] at h
  refine enterN [(.v (.sl Y_api_Hop) p0)] 6 Tryz.func99 rfl rfl rfl ?_
  refine T.seq ?_
  refine T.region ?_
  refine Run.go (Ev.assign rfl rfl) ?_
  refine Run.nil ?_
  refine T.seq ?_
  refine T.region ?_
  refine Run.go (Ev.move rfl rfl) ?_
  obtain ⟨x1, e2, h⟩ := bdS h
  refine Run.go (Ev.callC en111 (k_canon_each_api_Hop__canon_hop e2) rfl (.cons .v (.cons (.fn rfl) .nil)) rfl rfl) ?_
  obtain ⟨x3, e4, h⟩ := bdS h
  refine Run.go (Ev.callC en38 (k_strings_Join e4) rfl (.cons .v (.cons .v .nil)) rfl rfl) ?_
  refine Run.go (Ev.assign rfl rfl) ?_
  refine Run.nil ?_
  refine T.ret ?_
  cases h
  exact Fin.one rfl .v
theorem en98 : Enters Tryz.prog 98 := ⟨_, Tryz.func98, rfl, rfl⟩
theorem k_canon_each_api_Hop__canon_group {p0 : (List (List D_api_Hop))} {y : (List ByteArray)} (h : m_canon_each_api_Hop__canon_group p0 = some y) : Spec Tryz.prog 98 [(.v (.sl (.sl Y_api_Hop)) p0), (.fn 99 [])] (.v (.sl .str) y) [] := by
  rw [m_canon_each_api_Hop__canon_group] at h
  refine enterN [(.v (.sl (.sl Y_api_Hop)) p0), (.fn 99 [])] 26 Tryz.func98 rfl rfl rfl ?_
  refine T.seq ?_
  refine T.region ?_
  refine Run.go (Ev.assign rfl rfl) ?_
  refine Run.nil ?_
  refine T.seq ?_
  refine T.region ?_
  refine Run.go (Ev.move rfl rfl) ?_
  refine Run.go (Ev.len X rfl rfl rfl rfl) ?_
  obtain ⟨x1, e2, h⟩ := bdS h
  refine Run.go (Ev.e_mk X 1 e2 rfl rfl rfl rfl rfl rfl) ?_
  refine Run.go (Ev.assign rfl rfl) ?_
  refine Run.nil ?_
  obtain ⟨v3, hv, h⟩ := bdS h
  refine T.cut (fun _ : Unit => (⟨[(5, .own 1)], [(1, .arr 9 .str v3)], 26⟩ : St)) (fun _ => True) ?_ (fun _ _ => ?_)
  · replace h := hv
    clear hv
    refine T.seq ?_
    refine T.region ?_
    refine Run.go (Ev.move rfl rfl) ?_
    refine Run.go (Ev.len X rfl rfl rfl rfl) ?_
    refine Run.go (Ev.move rfl rfl) ?_
    refine Run.nil ?_
    refine T.block ?_
    refine T.loop (LoopT.ghost (Ghost.only [(1, 1)] [1, 5, 11, 12, 13] rfl) (LoopT.run (fun q : Int × (List ByteArray) => (⟨[(1, .fn 99 []), (5, .own 1), (11, .v (.sl (.sl Y_api_Hop)) p0), (12, .v (.int .i64) ((p0.length : Int) : Int)), (13, .v (.int .i64) q.1)], [(1, .arr 9 .str q.2)], 26⟩ : St)) (fun q z1 h hz1 => ?_) h))
    obtain ⟨v4, v5⟩ := q
    dsimp only
    rw [m_canon_each_api_Hop__canon_group_l1] at h
    refine T.seq ?_
    refine T.region ?_
    refine Run.go (Ev.int rfl rfl rfl rfl trivial) ?_
    refine Run.nil ?_
    refine T.seq ?_
    refine T.cond rfl (fun hb6 => ?_) (fun hb6 => ?_)
    · replace h := ifT hb6 h
      refine T.skip ?_
      refine T.seq ?_
      refine T.block ?_
      refine T.seq ?_
      refine T.region ?_
      refine Run.go (Ev.move rfl rfl) ?_
      obtain ⟨x7, e8, h⟩ := bdS h
      refine Run.go (Ev.e_rd X e8 rfl rfl rfl rfl) ?_
      refine Run.go (Ev.load X rfl rfl rfl) ?_
      refine Run.go (Ev.assign rfl rfl) ?_
      refine Run.go (Ev.assign rfl rfl) ?_
      refine Run.nil ?_
      refine T.region ?_
      refine Run.go (Ev.move rfl rfl) ?_
      refine Run.go (Ev.move rfl rfl) ?_
      refine Run.go (Ev.move rfl rfl) ?_
      refine Run.go (Ev.move rfl rfl) ?_
      obtain ⟨x9, e10, h⟩ := bdS h
      refine Run.go (Ev.callC en99 (k_canon_group e10) rfl (.cons .v .nil) rfl rfl) ?_
      obtain ⟨j11, e12, h⟩ := bdS h
      refine Run.go (Ev.e_ixO X e12 rfl rfl rfl rfl rfl) ?_
      obtain ⟨x13, e14, h⟩ := ltS h
      refine Run.do_ (Ev.asO (Ev.storeEl X rfl rfl rfl rfl rfl) e14) ?_
      refine Run.nil ?_
      refine T.region ?_
      refine Run.go (Ev.int rfl rfl rfl rfl trivial) ?_
      refine Run.go (Ev.move rfl rfl) ?_
      refine Run.nil ?_
      cases h
      exact LoopT.ghost (Ghost.only [(1, 1)] [1, 5, 11, 12, 13] rfl) hz1
    · replace h := ifF hb6 h
      refine T.exit ?_
      cases h
      cases hz1
      exact ⟨(), trivial, Ghost.only [(1, 1)] [5] rfl⟩
  · refine T.seq ?_
    refine T.region ?_
    refine Run.go (Ev.move rfl rfl) ?_
    refine Run.go (Ev.assign rfl rfl) ?_
    refine Run.nil ?_
    refine T.ret ?_
    cases h
    exact Fin.one rfl (.own rfl)
theorem en74 : Enters Tryz.prog 74 := ⟨_, Tryz.func74, rfl, rfl⟩
theorem k_canon_Rule {p0 : D_api_Rule} {y : ByteArray} (h : m_canon_Rule p0 = some y) : Spec Tryz.prog 74 [(.v Y_api_Rule p0)] (.v .str y) [] := by
  rw [m_canon_Rule] at h
  refine enterN [(.v Y_api_Rule p0)] 25 Tryz.func74 rfl rfl rfl ?_
  refine T.seq ?_
  refine T.region ?_
  refine Run.go (Ev.box 1 rfl rfl rfl rfl) ?_
  refine Run.go (Ev.assign rfl rfl) ?_
  refine Run.nil ?_
  refine T.seq ?_
  refine T.drawM [5] [0, 1, 0, 4, 12, 31, 63, 127] (by kernel_rfl) (by kernel_rfl) ?_
  refine RunD.a rfl rfl (Ev.fieldBox X rfl rfl rfl rfl rfl) ?_
  refine RunD.a rfl rfl (Ev.loadCell X rfl rfl rfl rfl rfl rfl) ?_
  refine RunD.a rfl rfl (Ev.fieldBox X rfl rfl rfl rfl rfl) ?_
  refine RunD.a rfl rfl (Ev.loadBox X rfl rfl rfl rfl rfl) ?_
  obtain ⟨x1, e2, h⟩ := bdS h
  refine RunD.a rfl rfl (Ev.callC en85 (k_addr_Text e2) rfl (.cons .v .nil) rfl rfl) ?_
  refine RunD.mD rfl (Ev.build X 2 rfl rfl rfl rfl rfl rfl rfl rfl) ?_
  obtain ⟨x3, e4, h⟩ := bdS h
  refine RunD.a rfl rfl (Ev.lend rfl (.cons (.own rfl) .nil) en68 (k_canon_words e4) rfl rfl) ?_
  refine RunD.w (fun _ => Ev.assign rfl rfl) ?_
  refine RunD.nil ?_
  refine T.seq ?_
  refine T.seq ?_
  refine T.region ?_
  refine Run.go (Ev.fieldBox X rfl rfl rfl rfl rfl) ?_
  refine Run.go (Ev.loadCell X rfl rfl rfl rfl rfl rfl) ?_
  refine Run.nil ?_
  refine T.cond rfl (fun hb5 => ?_) (fun hb5 => ?_)
  · replace h := ifT hb5 h
    refine T.seq ?_
    refine T.region ?_
    refine Run.go (Ev.move rfl rfl) ?_
    refine Run.go (Ev.build X 3 rfl rfl rfl rfl rfl rfl rfl rfl) ?_
    obtain ⟨x6, e7, h⟩ := bdS h
    refine Run.go (Ev.lend rfl (.cons (.own rfl) .nil) en68 (k_canon_words e7) rfl rfl) ?_
    obtain ⟨x8, e9, h⟩ := bdS h
    refine Run.go (Ev.e_cat e9 rfl rfl rfl) ?_
    refine Run.go (Ev.assign rfl rfl) ?_
    refine Run.nil ?_
    refine T.ret ?_
    cases h
    exact Fin.one rfl .v
  · replace h := ifF hb5 h
    refine T.skip ?_
    refine T.seq ?_
    refine T.region ?_
    refine Run.go (Ev.move rfl rfl) ?_
    refine Run.go (Ev.fieldBox X rfl rfl rfl rfl rfl) ?_
    refine Run.go (Ev.loadCell X rfl rfl rfl rfl rfl rfl) ?_
    obtain ⟨x10, e11, h⟩ := bdS h
    refine Run.go (Ev.callC en98 (k_canon_each_api_Hop__canon_group e11) rfl (.cons .v (.cons (.fn rfl) .nil)) rfl rfl) ?_
    obtain ⟨x12, e13, h⟩ := bdS h
    refine Run.go (Ev.callC en38 (k_strings_Join e13) rfl (.cons .v (.cons .v .nil)) rfl rfl) ?_
    refine Run.go (Ev.build X 4 rfl rfl rfl rfl rfl rfl rfl rfl) ?_
    obtain ⟨x14, e15, h⟩ := bdS h
    refine Run.go (Ev.lend rfl (.cons (.own rfl) .nil) en68 (k_canon_words e15) rfl rfl) ?_
    obtain ⟨x16, e17, h⟩ := bdS h
    refine Run.go (Ev.e_cat e17 rfl rfl rfl) ?_
    refine Run.go (Ev.assign rfl rfl) ?_
    refine Run.nil ?_
    refine T.ret ?_
    cases h
    exact Fin.one rfl .v
theorem en73 : Enters Tryz.prog 73 := ⟨_, Tryz.func73, rfl, rfl⟩
theorem k_canon_each_api_Rule__canon_Rule {p0 : (List D_api_Rule)} {y : (List ByteArray)} (h : m_canon_each_api_Rule__canon_Rule p0 = some y) : Spec Tryz.prog 73 [(.v (.sl Y_api_Rule) p0), (.fn 74 [])] (.v (.sl .str) y) [] := by
  rw [m_canon_each_api_Rule__canon_Rule] at h
  refine enterN [(.v (.sl Y_api_Rule) p0), (.fn 74 [])] 26 Tryz.func73 rfl rfl rfl ?_
  refine T.seq ?_
  refine T.region ?_
  refine Run.go (Ev.assign rfl rfl) ?_
  refine Run.nil ?_
  refine T.seq ?_
  refine T.region ?_
  refine Run.go (Ev.move rfl rfl) ?_
  refine Run.go (Ev.len X rfl rfl rfl rfl) ?_
  obtain ⟨x1, e2, h⟩ := bdS h
  refine Run.go (Ev.e_mk X 1 e2 rfl rfl rfl rfl rfl rfl) ?_
  refine Run.go (Ev.assign rfl rfl) ?_
  refine Run.nil ?_
  obtain ⟨v3, hv, h⟩ := bdS h
  refine T.cut (fun _ : Unit => (⟨[(5, .own 1)], [(1, .arr 9 .str v3)], 26⟩ : St)) (fun _ => True) ?_ (fun _ _ => ?_)
  · replace h := hv
    clear hv
    refine T.seq ?_
    refine T.region ?_
    refine Run.go (Ev.move rfl rfl) ?_
    refine Run.go (Ev.len X rfl rfl rfl rfl) ?_
    refine Run.go (Ev.move rfl rfl) ?_
    refine Run.nil ?_
    refine T.block ?_
    refine T.loop (LoopT.ghost (Ghost.only [(1, 1)] [1, 5, 11, 12, 13] rfl) (LoopT.run (fun q : Int × (List ByteArray) => (⟨[(1, .fn 74 []), (5, .own 1), (11, .v (.sl Y_api_Rule) p0), (12, .v (.int .i64) ((p0.length : Int) : Int)), (13, .v (.int .i64) q.1)], [(1, .arr 9 .str q.2)], 26⟩ : St)) (fun q z1 h hz1 => ?_) h))
    obtain ⟨v4, v5⟩ := q
    dsimp only
    rw [m_canon_each_api_Rule__canon_Rule_l1] at h
    refine T.seq ?_
    refine T.region ?_
    refine Run.go (Ev.int rfl rfl rfl rfl trivial) ?_
    refine Run.nil ?_
    refine T.seq ?_
    refine T.cond rfl (fun hb6 => ?_) (fun hb6 => ?_)
    · replace h := ifT hb6 h
      refine T.skip ?_
      refine T.seq ?_
      refine T.block ?_
      refine T.seq ?_
      refine T.region ?_
      refine Run.go (Ev.move rfl rfl) ?_
      obtain ⟨x7, e8, h⟩ := bdS h
      refine Run.go (Ev.e_rd X e8 rfl rfl rfl rfl) ?_
      refine Run.go (Ev.load X rfl rfl rfl) ?_
      refine Run.go (Ev.allocN X 14 rfl rfl rfl) ?_
      refine Run.go (Ev.assign rfl rfl) ?_
      refine Run.do_ (Ev.storeBox X rfl rfl rfl rfl rfl rfl rfl) ?_
      refine Run.nil ?_
      refine T.region ?_
      refine Run.go (Ev.move rfl rfl) ?_
      refine Run.go (Ev.move rfl rfl) ?_
      refine Run.go (Ev.move rfl rfl) ?_
      refine Run.go (Ev.loadBox X rfl rfl rfl rfl rfl) ?_
      obtain ⟨x9, e10, h⟩ := bdS h
      refine Run.go (Ev.callC en74 (k_canon_Rule e10) rfl (.cons .v .nil) rfl rfl) ?_
      obtain ⟨j11, e12, h⟩ := bdS h
      refine Run.go (Ev.e_ixO X e12 rfl rfl rfl rfl rfl) ?_
      obtain ⟨x13, e14, h⟩ := ltS h
      refine Run.do_ (Ev.asO (Ev.storeEl X rfl rfl rfl rfl rfl) e14) ?_
      refine Run.nil ?_
      refine T.region ?_
      refine Run.go (Ev.int rfl rfl rfl rfl trivial) ?_
      refine Run.go (Ev.move rfl rfl) ?_
      refine Run.nil ?_
      cases h
      exact LoopT.ghost (Ghost.only [(1, 1)] [1, 5, 11, 12, 13] rfl) hz1
    · replace h := ifF hb6 h
      refine T.exit ?_
      cases h
      cases hz1
      exact ⟨(), trivial, Ghost.only [(1, 1)] [5] rfl⟩
  · refine T.seq ?_
    refine T.region ?_
    refine Run.go (Ev.move rfl rfl) ?_
    refine Run.go (Ev.assign rfl rfl) ?_
    refine Run.nil ?_
    refine T.ret ?_
    cases h
    exact Fin.one rfl (.own rfl)
theorem en40 : Enters Tryz.prog 40 := ⟨_, Tryz.func40, rfl, rfl⟩
theorem k_canon_net {p0 : D_api_Net} {y : ByteArray} (h : m_canon_net p0 = some y) : Spec Tryz.prog 40 [(.v Y_api_Net p0)] (.v .str y) [] := by
  rw [m_canon_net] at h
  refine enterN [(.v Y_api_Net p0)] 43 Tryz.func40 rfl rfl rfl ?_
  refine T.seq ?_
  refine T.region ?_
  refine Run.go (Ev.box 1 rfl rfl rfl rfl) ?_
  refine Run.go (Ev.assign rfl rfl) ?_
  refine Run.nil ?_
  refine T.seq ?_
  refine T.region ?_
  refine Run.go (Ev.e_allocB 2 3 5 zs121 rfl rfl rfl) ?_
  refine Run.nil ?_
  refine T.seq ?_
  refine T.region ?_
  refine Run.go (Ev.fieldBox X rfl rfl rfl rfl rfl) ?_
  refine Run.go (Ev.loadCell X rfl rfl rfl rfl rfl rfl) ?_
  refine Run.go (Ev.build X 4 rfl rfl rfl rfl rfl rfl rfl rfl) ?_
  obtain ⟨x1, e2, h⟩ := bdS h
  refine Run.go (Ev.lend rfl (.cons (.own rfl) .nil) en68 (k_canon_words e2) rfl rfl) ?_
  obtain ⟨x3, e4, h⟩ := bdS h
  refine Run.go (Ev.e_cat e4 rfl rfl rfl) ?_
  obtain ⟨x6, e5, h⟩ := bdS h
  refine Run.go (Ev.w3 (Ev.lendM [(2, 1), (3, 2)] [(1, 2), (2, 3), (4, 5)] en66 (k_strings_Builder_WriteString_M e5) rfl (.cons (.ren rfl) (.cons (.ren rfl) .nil)) rfl rfl rfl rfl rfl (A := .tup [.v (.int .i64) ((x3.size : Int) : Int), .bot]) rfl (W := [(2, .box [.pn x6.1 2 0 121, .owz 5]), (3, .dead), (5, .arr 5 (.int .u8) x6.2)]) rfl rfl)) ?_
  refine Run.nil ?_
  obtain ⟨⟨v7, v8⟩, hv, h⟩ := bdS h
  refine T.cut (fun _ : Unit => (⟨[(3, .box 2 0)], [(2, .box [.pn v7 2 0 121, .owz 39]), (39, .arr 5 (.int .u8) v8)], 43⟩ : St)) (fun _ => True) ?_ (fun _ _ => ?_)
  · replace h := hv
    clear hv
    refine T.seq ?_
    refine T.drawM [9] [0, 1, 3, 0, 8, 31, 0, 64, 255, 511, 1023, 0] (by kernel_rfl) (by kernel_rfl) ?_
    refine RunD.a rfl rfl (Ev.fieldBox X rfl rfl rfl rfl rfl) ?_
    refine RunD.a rfl rfl (Ev.loadCell X rfl rfl rfl rfl rfl rfl) ?_
    obtain ⟨x9, e10, h⟩ := bdS h
    refine RunD.a rfl rfl (Ev.callC en69 (k_canon_each_api_Node__canon_node e10) rfl (.cons .v (.cons (.fn rfl) .nil)) rfl rfl) ?_
    refine RunD.a rfl rfl (Ev.fieldBox X rfl rfl rfl rfl rfl) ?_
    refine RunD.a rfl rfl (Ev.loadCell X rfl rfl rfl rfl rfl rfl) ?_
    obtain ⟨x11, e12, h⟩ := bdS h
    refine RunD.a rfl rfl (Ev.callC en71 (k_canon_each_api_Link__canon_link e12) rfl (.cons .v (.cons (.fn rfl) .nil)) rfl rfl) ?_
    refine RunD.a rfl rfl (Ev.fieldBox X rfl rfl rfl rfl rfl) ?_
    refine RunD.a rfl rfl (Ev.loadCell X rfl rfl rfl rfl rfl rfl) ?_
    obtain ⟨x13, e14, h⟩ := bdS h
    refine RunD.a rfl rfl (Ev.callC en73 (k_canon_each_api_Rule__canon_Rule e14) rfl (.cons .v (.cons (.fn rfl) .nil)) rfl rfl) ?_
    refine RunD.mD rfl (Ev.build X 99 rfl rfl rfl rfl rfl rfl rfl rfl) ?_
    refine RunD.a rfl rfl (Ev.e_lenO X rfl rfl rfl rfl) ?_
    refine RunD.w (fun _ => Ev.move rfl rfl) ?_
    refine RunD.nil ?_
    refine T.block ?_
    refine T.loop (LoopT.ghost (Ghost.only [(2, 2), (99, 99), (5, 132)] [3, 23, 24, 25] rfl) (LoopT.run (fun q : Int × Bool × (List Int) => (⟨[(3, .box 2 0), (23, .own 99), (24, .v (.int .i64) (([x9, x11, x13].length : Int) : Int)), (25, .v (.int .i64) q.1)], [(2, .box [.pn q.2.1 2 0 121, .owz 132]), (99, .arr 34 (.sl .str) ([x9, x11, x13] : List (List ByteArray))), (132, .arr 5 (.int .u8) q.2.2)], 43⟩ : St)) (fun q z1 h hz1 => ?_) h))
    obtain ⟨v15, v16, v17⟩ := q
    dsimp only
    rw [m_canon_net_l1] at h
    refine T.seq ?_
    refine T.region ?_
    refine Run.go (Ev.int rfl rfl rfl rfl trivial) ?_
    refine Run.nil ?_
    refine T.seq ?_
    refine T.cond rfl (fun hb18 => ?_) (fun hb18 => ?_)
    · replace h := ifT hb18 h
      refine T.skip ?_
      obtain ⟨⟨v19, v20⟩, hv, h⟩ := bdS h
      refine T.cut (fun _ : Unit => (⟨[(3, .box 2 0), (23, .own 99), (24, .v (.int .i64) (([x9, x11, x13].length : Int) : Int)), (25, .v (.int .i64) v15)], [(2, .box [.pn v19 2 0 121, .owz 169]), (99, .arr 34 (.sl .str) ([x9, x11, x13] : List (List ByteArray))), (169, .arr 5 (.int .u8) v20)], 43⟩ : St)) (fun _ => True) ?_ (fun _ _ => ?_)
      · replace h := hv
        clear hv
        refine T.block ?_
        refine T.seq ?_
        refine T.region ?_
        obtain ⟨x21, e22, h⟩ := bdS h
        refine Run.go (Ev.e_rdO X e22 rfl rfl rfl rfl rfl) ?_
        refine Run.go (Ev.e_ldO X (rdS e22).2 rfl rfl rfl rfl) ?_
        refine Run.go (Ev.assign rfl rfl) ?_
        refine Run.nil ?_
        refine T.seq ?_
        refine T.region ?_
        refine Run.go (Ev.move rfl rfl) ?_
        refine Run.go (Ev.len X rfl rfl rfl rfl) ?_
        refine Run.go (Ev.move rfl rfl) ?_
        refine Run.nil ?_
        refine T.block ?_
        refine T.loop (LoopT.ghost (Ghost.only [(2, 2), (99, 99), (132, 184)] [3, 23, 24, 25, 29, 30, 31] rfl) (LoopT.run (fun q : Int × Bool × (List Int) => (⟨[(3, .box 2 0), (23, .own 99), (24, .v (.int .i64) (([x9, x11, x13].length : Int) : Int)), (25, .v (.int .i64) v15), (29, .v (.sl .str) x21), (30, .v (.int .i64) ((x21.length : Int) : Int)), (31, .v (.int .i64) q.1)], [(2, .box [.pn q.2.1 2 0 121, .owz 184]), (99, .arr 34 (.sl .str) ([x9, x11, x13] : List (List ByteArray))), (184, .arr 5 (.int .u8) q.2.2)], 43⟩ : St)) (fun q z2 h hz2 => ?_) h))
        obtain ⟨v23, v24, v25⟩ := q
        dsimp only
        rw [m_canon_net_l2] at h
        refine T.seq ?_
        refine T.region ?_
        refine Run.go (Ev.int rfl rfl rfl rfl trivial) ?_
        refine Run.nil ?_
        refine T.seq ?_
        refine T.cond rfl (fun hb26 => ?_) (fun hb26 => ?_)
        · replace h := ifT hb26 h
          refine T.skip ?_
          refine T.seq ?_
          refine T.block ?_
          refine T.seq ?_
          refine T.region ?_
          obtain ⟨x27, e28, h⟩ := bdS h
          refine Run.go (Ev.e_rd X e28 rfl rfl rfl rfl) ?_
          refine Run.go (Ev.load X rfl rfl rfl) ?_
          refine Run.go (Ev.assign rfl rfl) ?_
          refine Run.nil ?_
          refine T.region ?_
          refine Run.go (Ev.move rfl rfl) ?_
          obtain ⟨x29, e30, h⟩ := bdS h
          refine Run.go (Ev.e_cat e30 rfl rfl rfl) ?_
          obtain ⟨x31, e32, h⟩ := bdS h
          refine Run.go (Ev.e_cat e32 rfl rfl rfl) ?_
          obtain ⟨x34, e33, h⟩ := bdS h
          refine Run.go (Ev.w3 (Ev.lendM [(2, 1), (184, 2)] [(1, 2), (2, 184), (4, 189)] en66 (k_strings_Builder_WriteString_M e33) rfl (.cons (.ren rfl) (.cons (.ren rfl) .nil)) rfl rfl rfl rfl rfl (A := .tup [.v (.int .i64) ((x31.size : Int) : Int), .bot]) rfl (W := [(2, .box [.pn x34.1 2 0 121, .owz 189]), (184, .dead), (189, .arr 5 (.int .u8) x34.2)]) rfl rfl)) ?_
          refine Run.nil ?_
          refine T.region ?_
          refine Run.go (Ev.int rfl rfl rfl rfl trivial) ?_
          refine Run.go (Ev.move rfl rfl) ?_
          refine Run.nil ?_
          cases h
          exact LoopT.ghost (Ghost.only [(2, 2), (99, 99), (189, 184)] [3, 23, 24, 25, 29, 30, 31] rfl) hz2
        · replace h := ifF hb26 h
          refine T.exit ?_
          cases h
          cases hz2
          exact ⟨(), trivial, Ghost.only [(2, 2), (99, 99), (184, 169)] [3, 23, 24, 25] rfl⟩
      · refine T.region ?_
        refine Run.go (Ev.int rfl rfl rfl rfl trivial) ?_
        refine Run.go (Ev.move rfl rfl) ?_
        refine Run.nil ?_
        cases h
        exact LoopT.ghost (Ghost.only [(2, 2), (99, 99), (169, 132)] [3, 23, 24, 25] rfl) hz1
    · replace h := ifF hb18 h
      refine T.exit ?_
      cases h
      cases hz1
      exact ⟨(), trivial, Ghost.only [(2, 2), (132, 39)] [3] rfl⟩
  · refine T.seq ?_
    refine T.region ?_
    obtain ⟨x36, e35, h⟩ := bdS h
    refine Run.go (Ev.w3 (Ev.lendM [(2, 1), (39, 2)] [(1, 2), (2, 39), (4, 190)] en66 (k_strings_Builder_WriteString_M e35) rfl (.cons (.ren rfl) (.cons (.ren rfl) .nil)) rfl rfl rfl rfl rfl (A := .tup [.v (.int .i64) (((bs [125, 10]).size : Int) : Int), .bot]) rfl (W := [(2, .box [.pn x36.1 2 0 121, .owz 190]), (39, .dead), (190, .arr 5 (.int .u8) x36.2)]) rfl rfl)) ?_
    refine Run.nil ?_
    refine T.seq ?_
    refine T.region ?_
    obtain ⟨x38, e37, h⟩ := bdS h
    refine Run.go (Ev.w2 (Ev.lendM [(2, 1), (190, 2)] [(1, 2), (2, 190)] en67 (k_strings_Builder_String_M e37) rfl (.cons (.ren rfl) .nil) rfl rfl rfl rfl rfl (A := .v .str x38) rfl (W := [(2, .box [.pn x36.1 2 0 121, .bot]), (190, .dead)]) rfl rfl)) ?_
    refine Run.go (Ev.assign rfl rfl) ?_
    refine Run.nil ?_
    refine T.ret ?_
    cases h
    exact Fin.one rfl .v
theorem en39 : Enters Tryz.prog 39 := ⟨_, Tryz.func39, rfl, rfl⟩
theorem k_canon_each_api_Net__canon_net {p0 : (List D_api_Net)} {y : (List ByteArray)} (h : m_canon_each_api_Net__canon_net p0 = some y) : Spec Tryz.prog 39 [(.v (.sl Y_api_Net) p0), (.fn 40 [])] (.v (.sl .str) y) [] := by
  rw [m_canon_each_api_Net__canon_net] at h
  refine enterN [(.v (.sl Y_api_Net) p0), (.fn 40 [])] 26 Tryz.func39 rfl rfl rfl ?_
  refine T.seq ?_
  refine T.region ?_
  refine Run.go (Ev.assign rfl rfl) ?_
  refine Run.nil ?_
  refine T.seq ?_
  refine T.region ?_
  refine Run.go (Ev.move rfl rfl) ?_
  refine Run.go (Ev.len X rfl rfl rfl rfl) ?_
  obtain ⟨x1, e2, h⟩ := bdS h
  refine Run.go (Ev.e_mk X 1 e2 rfl rfl rfl rfl rfl rfl) ?_
  refine Run.go (Ev.assign rfl rfl) ?_
  refine Run.nil ?_
  obtain ⟨v3, hv, h⟩ := bdS h
  refine T.cut (fun _ : Unit => (⟨[(5, .own 1)], [(1, .arr 9 .str v3)], 26⟩ : St)) (fun _ => True) ?_ (fun _ _ => ?_)
  · replace h := hv
    clear hv
    refine T.seq ?_
    refine T.region ?_
    refine Run.go (Ev.move rfl rfl) ?_
    refine Run.go (Ev.len X rfl rfl rfl rfl) ?_
    refine Run.go (Ev.move rfl rfl) ?_
    refine Run.nil ?_
    refine T.block ?_
    refine T.loop (LoopT.ghost (Ghost.only [(1, 1)] [1, 5, 11, 12, 13] rfl) (LoopT.run (fun q : Int × (List ByteArray) => (⟨[(1, .fn 40 []), (5, .own 1), (11, .v (.sl Y_api_Net) p0), (12, .v (.int .i64) ((p0.length : Int) : Int)), (13, .v (.int .i64) q.1)], [(1, .arr 9 .str q.2)], 26⟩ : St)) (fun q z1 h hz1 => ?_) h))
    obtain ⟨v4, v5⟩ := q
    dsimp only
    rw [m_canon_each_api_Net__canon_net_l1] at h
    refine T.seq ?_
    refine T.region ?_
    refine Run.go (Ev.int rfl rfl rfl rfl trivial) ?_
    refine Run.nil ?_
    refine T.seq ?_
    refine T.cond rfl (fun hb6 => ?_) (fun hb6 => ?_)
    · replace h := ifT hb6 h
      refine T.skip ?_
      refine T.seq ?_
      refine T.block ?_
      refine T.seq ?_
      refine T.region ?_
      refine Run.go (Ev.move rfl rfl) ?_
      obtain ⟨x7, e8, h⟩ := bdS h
      refine Run.go (Ev.e_rd X e8 rfl rfl rfl rfl) ?_
      refine Run.go (Ev.load X rfl rfl rfl) ?_
      refine Run.go (Ev.allocN X 14 rfl rfl rfl) ?_
      refine Run.go (Ev.assign rfl rfl) ?_
      refine Run.do_ (Ev.storeBox X rfl rfl rfl rfl rfl rfl rfl) ?_
      refine Run.nil ?_
      refine T.region ?_
      refine Run.go (Ev.move rfl rfl) ?_
      refine Run.go (Ev.move rfl rfl) ?_
      refine Run.go (Ev.move rfl rfl) ?_
      refine Run.go (Ev.loadBox X rfl rfl rfl rfl rfl) ?_
      obtain ⟨x9, e10, h⟩ := bdS h
      refine Run.go (Ev.callC en40 (k_canon_net e10) rfl (.cons .v .nil) rfl rfl) ?_
      obtain ⟨j11, e12, h⟩ := bdS h
      refine Run.go (Ev.e_ixO X e12 rfl rfl rfl rfl rfl) ?_
      obtain ⟨x13, e14, h⟩ := ltS h
      refine Run.do_ (Ev.asO (Ev.storeEl X rfl rfl rfl rfl rfl) e14) ?_
      refine Run.nil ?_
      refine T.region ?_
      refine Run.go (Ev.int rfl rfl rfl rfl trivial) ?_
      refine Run.go (Ev.move rfl rfl) ?_
      refine Run.nil ?_
      cases h
      exact LoopT.ghost (Ghost.only [(1, 1)] [1, 5, 11, 12, 13] rfl) hz1
    · replace h := ifF hb6 h
      refine T.exit ?_
      cases h
      cases hz1
      exact ⟨(), trivial, Ghost.only [(1, 1)] [5] rfl⟩
  · refine T.seq ?_
    refine T.region ?_
    refine Run.go (Ev.move rfl rfl) ?_
    refine Run.go (Ev.assign rfl rfl) ?_
    refine Run.nil ?_
    refine T.ret ?_
    cases h
    exact Fin.one rfl (.own rfl)
theorem en22 : Enters Tryz.prog 22 := ⟨_, Tryz.func22, rfl, rfl⟩
theorem k_canon_Nets {p0 : (List D_api_Net)} {y : ByteArray} (h : m_canon_Nets p0 = some y) : Spec Tryz.prog 22 [(.v (.sl Y_api_Net) p0)] (.v .str y) [] := by
  rw [m_canon_Nets] at h
  refine enterN [(.v (.sl Y_api_Net) p0)] 6 Tryz.func22 rfl rfl rfl ?_
  refine T.seq ?_
  refine T.region ?_
  refine Run.go (Ev.assign rfl rfl) ?_
  refine Run.nil ?_
  refine T.seq ?_
  refine T.region ?_
  refine Run.go (Ev.move rfl rfl) ?_
  obtain ⟨x1, e2, h⟩ := bdS h
  refine Run.go (Ev.callC en39 (k_canon_each_api_Net__canon_net e2) rfl (.cons .v (.cons (.fn rfl) .nil)) rfl rfl) ?_
  obtain ⟨x3, e4, h⟩ := bdS h
  refine Run.go (Ev.callC en38 (k_strings_Join e4) rfl (.cons .v (.cons .v .nil)) rfl rfl) ?_
  refine Run.go (Ev.assign rfl rfl) ?_
  refine Run.nil ?_
  refine T.ret ?_
  cases h
  exact Fin.one rfl .v
theorem en8 : Enters Tryz.prog 8 := ⟨_, Tryz.func8, rfl, rfl⟩
theorem k_limits_Nets {p0 : (List D_api_Net)} {y : Bool} (h : m_limits_Nets p0 = some y) : Spec Tryz.prog 8 [(.v (.sl Y_api_Net) p0)] (.v .bool y) [] := by
  rw [m_limits_Nets] at h
  refine enterN [(.v (.sl Y_api_Net) p0)] 17 Tryz.func8 rfl rfl rfl ?_
  refine T.seq ?_
  refine T.region ?_
  refine Run.go (Ev.assign rfl rfl) ?_
  refine Run.nil ?_
  refine T.seq ?_
  refine T.region ?_
  refine Run.go (Ev.move rfl rfl) ?_
  refine Run.go (Ev.len X rfl rfl rfl rfl) ?_
  refine Run.go (Ev.int rfl rfl rfl rfl trivial) ?_
  refine Run.go (Ev.move rfl rfl) ?_
  rcases boolCases (decide ((p0.length : Int) ≤ 4)) with hb1 | hb1
  · replace h := ifT hb1 h
    refine Run.on rfl rfl rfl hb1 (Ev.move rfl rfl) ?_
    obtain ⟨x2, e3, h⟩ := bdS h
    refine Run.on rfl rfl rfl hb1 (Ev.callC en20 (k_slices_ContainsFunc_api_Net_api_Net__limits_net e3) rfl (.cons .v (.cons (.fn rfl) .nil)) rfl rfl) ?_
    refine Run.on rfl rfl rfl hb1 (Ev.not rfl rfl) ?_
    refine Run.go (Ev.pickT rfl hb1 rfl rfl) ?_
    refine Run.go (Ev.move rfl rfl) ?_
    rcases boolCases (!x2) with hb4 | hb4
    · replace h := ifT hb4 h
      refine Run.on rfl rfl rfl hb4 (Ev.move rfl rfl) ?_
      obtain ⟨x5, e6, h⟩ := bdS h
      refine Run.on rfl rfl rfl hb4 (Ev.callC en22 (k_canon_Nets e6) rfl (.cons .v .nil) rfl rfl) ?_
      refine Run.on rfl rfl rfl hb4 (Ev.len X rfl rfl rfl rfl) ?_
      refine Run.on rfl rfl rfl hb4 (Ev.int rfl rfl rfl rfl trivial) ?_
      refine Run.go (Ev.pickT rfl hb4 rfl rfl) ?_
      refine Run.go (Ev.assign rfl rfl) ?_
      refine Run.nil ?_
      refine T.ret ?_
      cases h
      exact Fin.one rfl .v
    · replace h := ifF hb4 h
      refine Run.offT rfl rfl rfl rfl hb4 ?_
      refine Run.offT rfl rfl rfl rfl hb4 ?_
      refine Run.offT rfl rfl rfl rfl hb4 ?_
      refine Run.offT rfl rfl rfl rfl hb4 ?_
      refine Run.go (Ev.pickF rfl hb4 rfl rfl) ?_
      refine Run.go (Ev.assign rfl rfl) ?_
      refine Run.nil ?_
      refine T.ret ?_
      cases h
      exact Fin.one rfl .v
  · replace h := ifF hb1 h
    refine Run.offT rfl rfl rfl rfl hb1 ?_
    refine Run.offT rfl rfl rfl rfl hb1 ?_
    refine Run.offT rfl rfl rfl rfl hb1 ?_
    refine Run.go (Ev.pickF rfl hb1 rfl rfl) ?_
    refine Run.go (Ev.move rfl rfl) ?_
    refine Run.offT rfl rfl rfl rfl rfl ?_
    refine Run.offT rfl rfl rfl rfl rfl ?_
    refine Run.offT rfl rfl rfl rfl rfl ?_
    refine Run.offT rfl rfl rfl rfl rfl ?_
    refine Run.go (Ev.pickF rfl rfl rfl rfl) ?_
    refine Run.go (Ev.assign rfl rfl) ?_
    refine Run.nil ?_
    refine T.ret ?_
    cases h
    exact Fin.one rfl .v
theorem en13 : Enters Tryz.prog 13 := ⟨_, Tryz.func13, rfl, rfl⟩
theorem k_triviumlaw24_works  {y : Bool} (h : m_triviumlaw24_works  = some y) : Spec Tryz.prog 13 [] (.v .bool y) [] := by
  rw [m_triviumlaw24_works] at h
  refine enterN [] 20 Tryz.func13 rfl rfl rfl ?_
  refine T.seq ?_
  refine T.region ?_
  refine Run.go (Ev.assign rfl rfl) ?_
  refine Run.nil ?_
  refine T.seq ?_
  refine T.region ?_
  refine Run.go (Ev.structC pl52 zs52 rfl rfl rfl) ?_
  refine Run.go (Ev.structC pl52 zs52 rfl rfl rfl) ?_
  refine Run.go (Ev.structC pl52 zs52 rfl rfl rfl) ?_
  refine Run.go (Ev.structC pl52 zs52 rfl rfl rfl) ?_
  refine Run.ghost (Ghost.stv (t := 2) (τ := Y_api_Net) (y := (((bs [97]), [], [], []) : D_api_Net)) rfl rfl rfl) ?_
  refine Run.ghost (Ghost.stv (t := 3) (τ := Y_api_Net) (y := (((bs [98]), [], [], []) : D_api_Net)) rfl rfl rfl) ?_
  refine Run.ghost (Ghost.stv (t := 4) (τ := Y_api_Net) (y := (((bs [99]), [], [], []) : D_api_Net)) rfl rfl rfl) ?_
  refine Run.ghost (Ghost.stv (t := 5) (τ := Y_api_Net) (y := (((bs [100]), [], [], []) : D_api_Net)) rfl rfl rfl) ?_
  refine Run.go (Ev.build X 1 rfl rfl rfl rfl rfl rfl rfl rfl) ?_
  refine Run.go (Ev.assign rfl rfl) ?_
  refine Run.nil ?_
  refine T.seq ?_
  refine T.region ?_
  refine Run.go (Ev.move rfl rfl) ?_
  obtain ⟨x1, e2, h⟩ := bdS h
  refine Run.go (Ev.lend rfl (.cons (.own rfl) .nil) en8 (k_limits_Nets e2) rfl rfl) ?_
  refine Run.go (Ev.move rfl rfl) ?_
  rcases boolCases x1 with hb3 | hb3
  · replace h := ifT hb3 h
    refine Run.on rfl rfl rfl hb3 (Ev.move rfl rfl) ?_
    refine Run.on rfl rfl rfl hb3 (Ev.structC pl52 zs52 rfl rfl rfl) ?_
    refine Run.ghost (Ghost.stv (t := 11) (τ := Y_api_Net) (y := (((bs [101]), [], [], []) : D_api_Net)) rfl rfl rfl) ?_
    refine Run.on rfl rfl rfl hb3 (Ev.build X 2 rfl rfl rfl rfl rfl rfl rfl rfl) ?_
    obtain ⟨x4, e5, h⟩ := bdS h
    refine Run.on rfl rfl rfl hb3 (Ev.e_ap X 3 e5 rfl rfl rfl (.own rfl) rfl rfl rfl rfl rfl) ?_
    obtain ⟨x6, e7, h⟩ := bdS h
    refine Run.on rfl rfl rfl hb3 (Ev.lend rfl (.cons (.own rfl) .nil) en8 (k_limits_Nets e7) rfl rfl) ?_
    refine Run.on rfl rfl rfl hb3 (Ev.not rfl rfl) ?_
    refine Run.go (Ev.pickT rfl hb3 rfl rfl) ?_
    refine Run.go (Ev.move rfl rfl) ?_
    rcases boolCases (!x6) with hb8 | hb8
    · replace h := ifT hb8 h
      obtain ⟨x9, e10, h⟩ := bdS h
      refine Run.on rfl rfl rfl hb8 (Ev.callC en15 (k_limits_Queries e10) rfl (.cons .nilv .nil) rfl rfl) ?_
      refine Run.go (Ev.pickT rfl hb8 rfl rfl) ?_
      refine Run.go (Ev.assign rfl rfl) ?_
      refine Run.nil ?_
      refine T.ret ?_
      cases h
      exact Fin.one rfl .v
    · replace h := ifF hb8 h
      refine Run.offT rfl rfl rfl rfl hb8 ?_
      refine Run.go (Ev.pickF rfl hb8 rfl rfl) ?_
      refine Run.go (Ev.assign rfl rfl) ?_
      refine Run.nil ?_
      refine T.ret ?_
      cases h
      exact Fin.one rfl .v
  · replace h := ifF hb3 h
    refine Run.offT rfl rfl rfl rfl hb3 ?_
    refine Run.offT rfl rfl rfl rfl hb3 ?_
    refine Run.offT rfl rfl rfl rfl hb3 ?_
    refine Run.offT rfl rfl rfl rfl hb3 ?_
    refine Run.offT rfl rfl rfl rfl hb3 ?_
    refine Run.offT rfl rfl rfl rfl hb3 ?_
    refine Run.go (Ev.pickF rfl hb3 rfl rfl) ?_
    refine Run.go (Ev.move rfl rfl) ?_
    refine Run.offT rfl rfl rfl rfl rfl ?_
    refine Run.go (Ev.pickF rfl rfl rfl rfl) ?_
    refine Run.go (Ev.assign rfl rfl) ?_
    refine Run.nil ?_
    refine T.ret ?_
    cases h
    exact Fin.one rfl .v
end Go.Proofs.YthnheieajicpfaaGreatDoor.AE
/- The code comes to the printed functions (printed by a program of ours). -/
namespace Go.Proofs.YthnheieajicpfaaGreatDoor.AE
open Go Go.RowKit Go.Proofs.YthnheieajicpfaaGreatDoor.AP
set_option linter.unusedVariables false
set_option maxRecDepth 20000
theorem en4 : Enters Tryz.prog 4 := ⟨_, Tryz.func4, rfl, rfl⟩
theorem k_triviumlaw24_LimitsQueries {p0 : (List D_api_Query)} {p1 : Int} {y : Bool} (h : m_triviumlaw24_LimitsQueries p0 p1 = some y) : Spec Tryz.prog 4 [(.v (.sl Y_api_Query) p0), (.v (.int .i64) p1)] (.v .bool y) [] := by
  rw [m_triviumlaw24_LimitsQueries] at h
  refine enterN [(.v (.sl Y_api_Query) p0), (.v (.int .i64) p1)] 57 Tryz.func4 rfl rfl rfl ?_
  refine T.seq ?_
  refine T.region ?_
  refine Run.go (Ev.assign rfl rfl) ?_
  refine Run.nil ?_
  refine T.seq ?_
  refine T.region ?_
  refine Run.go (Ev.build X 1 rfl rfl rfl rfl rfl rfl rfl rfl) ?_
  refine Run.go (Ev.assign rfl rfl) ?_
  refine Run.nil ?_
  obtain ⟨v1, hv, h⟩ := bdS h
  refine T.cut (fun _ : Unit => (⟨[(1, .v (.int .i64) p1), (5, .own 6)], [(6, .arr 40 Y_api_Query v1)], 57⟩ : St)) (fun _ => True) ?_ (fun _ _ => ?_)
  · replace h := hv
    clear hv
    refine T.seq ?_
    refine T.region ?_
    refine Run.go (Ev.assign rfl rfl) ?_
    refine Run.nil ?_
    refine T.block ?_
    refine T.loop (LoopT.ghost (Ghost.only [(1, 19)] [0, 1, 5, 6] rfl) (LoopT.run (fun q : Int × (List D_api_Query) => (⟨[(0, .v (.sl Y_api_Query) p0), (1, .v (.int .i64) p1), (5, .own 19), (6, .v (.int .i64) q.1)], [(19, .arr 40 Y_api_Query q.2)], 57⟩ : St)) (fun q z1 h hz1 => ?_) h))
    obtain ⟨v2, v3⟩ := q
    dsimp only
    rw [m_triviumlaw24_LimitsQueries_l1] at h
    refine T.seq ?_
    obtain ⟨v4, hv, h⟩ := bdS h
    refine T.cut (fun _ : Unit => (⟨[(0, .v (.sl Y_api_Query) p0), (1, .v (.int .i64) p1), (5, .own 19), (6, .v (.int .i64) v2), (16, .v .bool v4)], [(19, .arr 40 Y_api_Query v3)], 57⟩ : St)) (fun _ => True) ?_ (fun _ _ => ?_)
    · replace h := hv
      clear hv
      refine T.region ?_
      refine Run.go (Ev.move rfl rfl) ?_
      refine Run.go (Ev.move rfl rfl) ?_
      refine Run.go (Ev.len X rfl rfl rfl rfl) ?_
      refine Run.go (Ev.int rfl rfl rfl rfl trivial) ?_
      refine Run.go (Ev.move rfl rfl) ?_
      rcases boolCases (decide (v2 < (p0.length : Int))) with hb5 | hb5
      · replace h := ifT hb5 h
        refine Run.on rfl rfl rfl hb5 (Ev.move rfl rfl) ?_
        refine Run.on rfl rfl rfl hb5 (Ev.int rfl rfl rfl rfl trivial) ?_
        refine Run.go (Ev.pickT rfl hb5 rfl rfl) ?_
        refine Run.nil ?_
        cases h
        exact ⟨(), trivial, Ghost.only [(19, 19)] [0, 1, 5, 6, 16] rfl⟩
      · replace h := ifF hb5 h
        refine Run.offT rfl rfl rfl rfl hb5 ?_
        refine Run.offT rfl rfl rfl rfl hb5 ?_
        refine Run.go (Ev.pickF rfl hb5 rfl rfl) ?_
        refine Run.nil ?_
        cases h
        exact ⟨(), trivial, Ghost.only [(19, 19)] [0, 1, 5, 6, 16] rfl⟩
    · refine T.cond rfl (fun hb6 => ?_) (fun hb6 => ?_)
      · replace h := ifT hb6 h
        refine T.skip ?_
        refine T.seq ?_
        refine T.block ?_
        refine T.region ?_
        refine Run.go (Ev.move rfl rfl) ?_
        refine Run.go (Ev.move rfl rfl) ?_
        refine Run.go (Ev.move rfl rfl) ?_
        obtain ⟨x7, e8, h⟩ := bdS h
        refine Run.go (Ev.e_rd X e8 rfl rfl rfl rfl) ?_
        refine Run.go (Ev.load X rfl rfl rfl) ?_
        obtain ⟨x9, e10, h⟩ := bdS h
        refine Run.go (Ev.callC en14 (k_triviumref22_CleanQuery e10) rfl (.cons .v .nil) rfl rfl) ?_
        refine Run.go (Ev.build X 25 rfl rfl rfl rfl rfl rfl rfl rfl) ?_
        obtain ⟨x11, e12, h⟩ := bdS h
        refine Run.go (Ev.e_ap X 26 e12 rfl rfl rfl (.own rfl) rfl rfl rfl rfl rfl) ?_
        refine Run.go (Ev.assign rfl rfl) ?_
        refine Run.nil ?_
        refine T.region ?_
        refine Run.go (Ev.move rfl rfl) ?_
        refine Run.go (Ev.int rfl rfl rfl rfl trivial) ?_
        refine Run.go (Ev.assign rfl rfl) ?_
        refine Run.nil ?_
        cases h
        exact LoopT.ghost (Ghost.only [(26, 19)] [0, 1, 5, 6] rfl) hz1
      · replace h := ifF hb6 h
        refine T.exit ?_
        cases h
        cases hz1
        exact ⟨(), trivial, Ghost.only [(19, 6)] [1, 5] rfl⟩
  · obtain ⟨v13, hv, h⟩ := bdS h
    refine T.cut (fun _ : Unit => (⟨[(5, .own 31)], [(31, .arr 40 Y_api_Query v13)], 57⟩ : St)) (fun _ => True) ?_ (fun _ _ => ?_)
    · replace h := hv
      clear hv
      refine T.seq ?_
      refine T.region ?_
      refine Run.go (Ev.assign rfl rfl) ?_
      refine Run.nil ?_
      refine T.block ?_
      refine T.loop (LoopT.ghost (Ghost.only [(6, 44)] [1, 5, 7] rfl) (LoopT.run (fun q : Int × (List D_api_Query) => (⟨[(1, .v (.int .i64) p1), (5, .own 44), (7, .v (.int .i64) q.1)], [(44, .arr 40 Y_api_Query q.2)], 57⟩ : St)) (fun q z1 h hz1 => ?_) h))
      obtain ⟨v14, v15⟩ := q
      dsimp only
      rw [m_triviumlaw24_LimitsQueries_l2] at h
      refine T.seq ?_
      obtain ⟨v16, hv, h⟩ := bdS h
      refine T.cut (fun _ : Unit => (⟨[(1, .v (.int .i64) p1), (5, .own 44), (7, .v (.int .i64) v14), (38, .v .bool v16)], [(44, .arr 40 Y_api_Query v15)], 57⟩ : St)) (fun _ => True) ?_ (fun _ _ => ?_)
      · replace h := hv
        clear hv
        refine T.region ?_
        refine Run.go (Ev.move rfl rfl) ?_
        refine Run.go (Ev.move rfl rfl) ?_
        refine Run.go (Ev.int rfl rfl rfl rfl trivial) ?_
        refine Run.go (Ev.move rfl rfl) ?_
        rcases boolCases (decide (v14 < p1)) with hb17 | hb17
        · replace h := ifT hb17 h
          refine Run.on rfl rfl rfl hb17 (Ev.move rfl rfl) ?_
          refine Run.on rfl rfl rfl hb17 (Ev.int rfl rfl rfl rfl trivial) ?_
          refine Run.go (Ev.pickT rfl hb17 rfl rfl) ?_
          refine Run.go (Ev.move rfl rfl) ?_
          rcases boolCases (decide (v14 < 40)) with hb18 | hb18
          · replace h := ifT hb18 h
            refine Run.on rfl rfl rfl hb18 (Ev.move rfl rfl) ?_
            refine Run.on rfl rfl rfl hb18 (Ev.e_lenO X rfl rfl rfl rfl) ?_
            refine Run.on rfl rfl rfl hb18 (Ev.int rfl rfl rfl rfl trivial) ?_
            refine Run.go (Ev.pickT rfl hb18 rfl rfl) ?_
            refine Run.nil ?_
            cases h
            exact ⟨(), trivial, Ghost.only [(44, 44)] [1, 5, 7, 38] rfl⟩
          · replace h := ifF hb18 h
            refine Run.offT rfl rfl rfl rfl hb18 ?_
            refine Run.offT rfl rfl rfl rfl hb18 ?_
            refine Run.offT rfl rfl rfl rfl hb18 ?_
            refine Run.go (Ev.pickF rfl hb18 rfl rfl) ?_
            refine Run.nil ?_
            cases h
            exact ⟨(), trivial, Ghost.only [(44, 44)] [1, 5, 7, 38] rfl⟩
        · replace h := ifF hb17 h
          refine Run.offT rfl rfl rfl rfl hb17 ?_
          refine Run.offT rfl rfl rfl rfl hb17 ?_
          refine Run.go (Ev.pickF rfl hb17 rfl rfl) ?_
          refine Run.go (Ev.move rfl rfl) ?_
          refine Run.offT rfl rfl rfl rfl rfl ?_
          refine Run.offT rfl rfl rfl rfl rfl ?_
          refine Run.offT rfl rfl rfl rfl rfl ?_
          refine Run.go (Ev.pickF rfl rfl rfl rfl) ?_
          refine Run.nil ?_
          cases h
          exact ⟨(), trivial, Ghost.only [(44, 44)] [1, 5, 7, 38] rfl⟩
      · refine T.cond rfl (fun hb19 => ?_) (fun hb19 => ?_)
        · replace h := ifT hb19 h
          refine T.skip ?_
          refine T.seq ?_
          refine T.block ?_
          refine T.region ?_
          refine Run.go (Ev.move rfl rfl) ?_
          refine Run.go (Ev.move rfl rfl) ?_
          obtain ⟨x20, e21, h⟩ := bdS h
          refine Run.go (Ev.e_rdO X e21 rfl rfl rfl rfl rfl) ?_
          refine Run.go (Ev.e_ldO X (rdS e21).2 rfl rfl rfl rfl) ?_
          refine Run.go (Ev.build X 50 rfl rfl rfl rfl rfl rfl rfl rfl) ?_
          obtain ⟨x22, e23, h⟩ := bdS h
          refine Run.go (Ev.e_ap X 51 e23 rfl rfl rfl (.own rfl) rfl rfl rfl rfl rfl) ?_
          refine Run.go (Ev.assign rfl rfl) ?_
          refine Run.nil ?_
          refine T.region ?_
          refine Run.go (Ev.move rfl rfl) ?_
          refine Run.go (Ev.int rfl rfl rfl rfl trivial) ?_
          refine Run.go (Ev.assign rfl rfl) ?_
          refine Run.nil ?_
          cases h
          exact LoopT.ghost (Ghost.only [(51, 44)] [1, 5, 7] rfl) hz1
        · replace h := ifF hb19 h
          refine T.exit ?_
          cases h
          cases hz1
          exact ⟨(), trivial, Ghost.only [(44, 31)] [5] rfl⟩
    · refine T.seq ?_
      refine T.region ?_
      refine Run.go (Ev.build X 52 rfl rfl rfl rfl rfl rfl rfl rfl) ?_
      refine Run.go (Ev.move rfl rfl) ?_
      obtain ⟨x24, e25, h⟩ := bdS h
      refine Run.go (Ev.e_ap X 53 e25 rfl rfl rfl (.own rfl) rfl rfl rfl rfl rfl) ?_
      obtain ⟨x26, e27, h⟩ := bdS h
      refine Run.go (Ev.lend rfl (.cons (.own rfl) .nil) en15 (k_limits_Queries e27) rfl rfl) ?_
      refine Run.go (Ev.move rfl rfl) ?_
      obtain ⟨x28, e29, h⟩ := bdS h
      refine Run.go (Ev.lend rfl (.cons (.own rfl) .nil) en16 (k_triviumref24_Queries e29) rfl rfl) ?_
      refine Run.go (Ev.bools X rfl rfl rfl rfl rfl) ?_
      refine Run.go (Ev.move rfl rfl) ?_
      rcases boolCases (x26 == x28) with hb30 | hb30
      · replace h := ifT hb30 h
        obtain ⟨x31, e32, h⟩ := bdS h
        refine Run.on rfl rfl rfl hb30 (Ev.callC en13 (k_triviumlaw24_works e32) rfl .nil rfl rfl) ?_
        refine Run.go (Ev.pickT rfl hb30 rfl rfl) ?_
        refine Run.go (Ev.assign rfl rfl) ?_
        refine Run.nil ?_
        refine T.ret ?_
        cases h
        exact Fin.one rfl .v
      · replace h := ifF hb30 h
        refine Run.offT rfl rfl rfl rfl hb30 ?_
        refine Run.go (Ev.pickF rfl hb30 rfl rfl) ?_
        refine Run.go (Ev.assign rfl rfl) ?_
        refine Run.nil ?_
        refine T.ret ?_
        cases h
        exact Fin.one rfl .v
end Go.Proofs.YthnheieajicpfaaGreatDoor.AE
/- From a law's contract to its row: how what is handed in reads. -/
namespace Go.Proofs.YthnheieajicpfaaGreatDoor.AE
open Go Go.RowKit Go.WideShapes Go.ChangeAt Go.ChangeShapes

/-- values as a program has them -/
def Ty.ok : (t : Ty) → t.den → Prop
  | .int k, n => (Lit.int k n).wf = true
  | .bool, _ => True
  | .str, s => ByteArray.size s ≤ 9223372036854775807
  | .sl t, l => List.length (α := t.den) l ≤ 9223372036854775807 ∧ ∀ (i : Nat) (x : t.den), at? (α := t.den) l i = some x → t.ok x
  | .wrap t, x => t.ok x
  | .pair a b, x => a.ok x.1 ∧ b.ok x.2

theorem listed {α : Type} {Q : Nat → α → Prop} : ∀ n : Nat, (∀ i, i < n → ∃ y, Q i y) → ∃ l : List α, l.length = n ∧ ∀ (i : Nat) (x : α), at? l i = some x → Q i x
  | 0, _ => ⟨[], rfl, fun i x h => by cases h⟩
  | n + 1, h => by
    obtain ⟨l, h1, h2⟩ := listed n fun i hi => h i (by omega)
    obtain ⟨y, hy⟩ := h n (by omega)
    refine ⟨l ++ [y], by simp [h1], fun i x hx => ?_⟩
    unfold at? at hx
    by_cases hi : i < n
    · rw [List.getElem?_append_left (by omega)] at hx; exact h2 i x hx
    · have : i < (l ++ [y]).length := (List.getElem?_eq_some_iff.1 hx).1
      simp at this
      obtain rfl : i = n := by omega
      rw [List.getElem?_append_right (by omega)] at hx
      simp [h1] at hx
      exact hx ▸ hy

section
variable {H : Type} {enc : TypeId × Value → H} {P : Program} {w : World}
abbrev N0 : Nat → Prop := fun _ => False

def OpenT (enc : TypeId × Value → H) (P : Program) (w : World) (t : Ty) : Prop := ∀ (n : Nat) (i : TypeId) (fuel : Nat) (cs : List Value) (x : DataW H × List MemPlace),
  chk P n t i = true → DataW.trod enc P w 0 (fun _ => true) true fuel i cs = some x → ∃ y : t.den, t.relc w N0 y cs ∧ t.ok y
def OpenR (enc : TypeId × Value → H) (P : Program) (w : World) (t : Ty) : Prop := ∀ (n : Nat) (fs : List Field) (off : Nat) (m : Nat) (cs : List Value),
  chkR (chk P n) t fs off = true → cs.length = off + t.sz → (∀ (j : Nat) f, fs[j]? = some f → ∃ z, DataW.trod enc P w 0 (fun _ => true) true m f.type ((cs.drop f.offset).take (P.cellsOf f.type)) = some z) →
    ∃ y : t.den, t.relc w N0 y (cs.drop off) ∧ t.ok y
theorem chk_cells {n : Nat} {t : Ty} {i : TypeId} (h : chk P n t i = true) : P.cellsOf i = t.sz := by
  obtain ⟨f, z, h1, h2, _⟩ := Is.info ⟨n, h⟩
  simp [Program.cellsOf, h1, h2]
theorem openR_one {t : Ty} (ht : OpenT enc P w t) {n : Nat} {f : Field} {off m : Nat} {cs : List Value} (h : (f.offset == off && chk P n t f.type) = true) (hl : cs.length = off + t.sz)
    (hz : ∃ z, DataW.trod enc P w 0 (fun _ => true) true m f.type ((cs.drop f.offset).take (P.cellsOf f.type)) = some z) : ∃ y : t.den, t.relc w N0 y (cs.drop off) ∧ t.ok y := by
  rw [Bool.and_eq_true, beq_iff_eq] at h
  obtain ⟨rfl, hc⟩ := h
  obtain ⟨z, hz⟩ := hz
  rw [chk_cells hc, List.take_of_length_le (by rw [List.length_drop]; omega)] at hz
  exact ht n _ _ _ _ hc hz
theorem open_all (t : Ty) : OpenT enc P w t ∧ OpenR enc P w t := by
  have base : ∀ t : Ty, (∀ a b, t ≠ .pair a b) → OpenT enc P w t → OpenR enc P w t := by
    intro t hn ht n fs off m cs h hl hz
    cases fs with
    | nil => simp [chkR] at h
    | cons f r =>
      cases r with
      | nil => exact openR_one ht (by cases t <;> simpa [chkR] using h) hl (hz 0 f rfl)
      | cons g r => cases t <;> first | exact absurd rfl (hn _ _) | simp [chkR] at h
  induction t with
  | int k =>
    refine (fun h => ⟨h, base _ (fun _ _ h => by cases h) h⟩) ?_
    intro n i fuel cs x hc hx
    obtain ⟨z, h1, _, h2⟩ := DataW.trod_int (Is.desc ⟨n, hc⟩) hx
    exact ⟨z, h1, h2⟩
  | bool =>
    refine (fun h => ⟨h, base _ (fun _ _ h => by cases h) h⟩) ?_
    intro n i fuel cs x hc hx
    obtain ⟨z, h1, _⟩ := DataW.trod_bool (Is.desc ⟨n, hc⟩) hx
    exact ⟨z, h1, trivial⟩
  | str =>
    refine (fun h => ⟨h, base _ (fun _ _ h => by cases h) h⟩) ?_
    intro n i fuel cs x hc hx
    obtain ⟨z, h1, _, h2⟩ := DataW.trod_string (Is.desc ⟨n, hc⟩) hx
    exact ⟨z, h1, h2⟩
  | sl t ih =>
    refine (fun h => ⟨h, base _ (fun _ _ h => by cases h) h⟩) ?_
    intro n i fuel cs x hc hx
    obtain ⟨e, h1, h2⟩ := Is.desc ⟨n, hc⟩
    obtain ⟨k, h2⟩ := h2
    rcases DataW.trod_slice h1 hx with ⟨rfl, _⟩ | ⟨a, len, cap, elems, rest, m, _, rfl, _, _, hl, hm, hel, hcell, _⟩
    · exact ⟨([] : List t.den), ⟨none, 0, rfl, Nat.le_refl _, Nat.zero_le _, fun h => absurd h (Nat.lt_irrefl _)⟩, Nat.zero_le _, fun i x h => by cases h⟩
    · rw [chk_cells h2] at hcell
      obtain ⟨l, hll, hlq⟩ := listed (Q := fun j (y : t.den) => ∃ ds, t.relc w N0 y ds ∧ t.ok y ∧ ∀ (q : Nat) u, ds[q]? = some u → w.cell? (a.add (j * t.sz + q)) = some u) len (by
        intro j hj
        have hb := hcell j hj
        obtain ⟨el, hel'⟩ : ∃ z, elems[j]? = some z := ⟨_, List.getElem?_eq_getElem (by omega)⟩
        rw [hel'] at hb
        obtain ⟨ds, hd1, hd2⟩ := Option.bind_eq_some_iff.1 hb
        obtain ⟨_, hlen, hcs⟩ := World.cells?_some hd1
        obtain ⟨y, hy1, hy2⟩ := ih.1 k e m ds el h2 hd2
        refine ⟨y, ds, hy1, hy2, fun q u hu => ?_⟩
        have hq : q < t.sz := by have := (List.getElem?_eq_some_iff.1 hu).1; omega
        have := hcs q hq
        rw [Addr.add_add] at this
        rw [this, hu])
      refine ⟨l, ⟨some a, cap, by show _ = [Value.slice (some a) (List.length l) cap]; rw [hll], by show List.length l ≤ cap; omega, hm, fun _ => ⟨a, rfl, fun h => h, fun i x hx => ?_⟩⟩, by show List.length l ≤ _; have : maxLen = 9223372036854775807 := rfl; omega, fun i x hx => ?_⟩
      · obtain ⟨ds, h3, _, h4⟩ := hlq i x hx; exact ⟨ds, h3, h4⟩
      · obtain ⟨ds, _, h3, _⟩ := hlq i x hx; exact h3
  | wrap t ih =>
    refine (fun h => ⟨h, base _ (fun _ _ h => by cases h) h⟩) ?_
    intro n i fuel cs x hc hx
    obtain ⟨f, h1, h2, k, h3⟩ := Is.desc ⟨n, hc⟩
    obtain ⟨xs, m, _, _, hl, hlen, hf⟩ := DataW.trod_struct h1 hx
    rw [chk_cells hc] at hl
    have h4 := hf 0 f rfl
    rw [h2, chk_cells h3, List.drop_zero, List.take_of_length_le (by rw [hl]; exact Nat.le_refl _)] at h4
    obtain ⟨z, hz⟩ : ∃ z, xs[0]? = some z := ⟨_, List.getElem?_eq_getElem (by rw [hlen]; exact Nat.one_pos)⟩
    rw [hz] at h4
    exact ih.1 k _ _ _ _ h3 h4
  | pair a b iha ihb =>
    have hT : OpenT enc P w (.pair a b) := by
      intro n i fuel cs x hc hx
      obtain ⟨f, g, r, h1, h2, k, h3, h4⟩ := Is.desc ⟨n, hc⟩
      obtain ⟨xs, m, _, _, hl, hlen, hf⟩ := DataW.trod_struct h1 hx
      rw [chk_cells hc] at hl
      have hl : cs.length = a.sz + b.sz := hl
      have hsome : ∀ (j : Nat) f', (f :: g :: r)[j]? = some f' → ∃ z, DataW.trod enc P w 0 (fun _ => true) true m f'.type ((cs.drop f'.offset).take (P.cellsOf f'.type)) = some z := by
        intro j f' hj
        have h5 := hf j f' (by simpa using hj)
        have hj' : j < xs.length := by rw [hlen]; simpa using (List.getElem?_eq_some_iff.1 hj).1
        exact ⟨xs[j], by rw [h5, List.getElem?_eq_getElem hj']⟩
      obtain ⟨z, hz⟩ := hsome 0 f rfl
      rw [h2, chk_cells h3, List.drop_zero] at hz
      obtain ⟨y1, r1, o1⟩ := iha.1 k _ _ _ _ h3 hz
      obtain ⟨y2, r2, o2⟩ := ihb.2 k (g :: r) a.sz m cs h4 hl (fun j f' hj => hsome (j + 1) f' (by simpa using hj))
      exact ⟨(y1, y2), ⟨_, _, (List.take_append_drop a.sz cs).symm, r1, r2⟩, o1, o2⟩
    refine ⟨hT, ?_⟩
    intro n fs off m cs h hl hz
    cases fs with
    | nil => simp [chkR] at h
    | cons f r =>
      cases r with
      | nil => exact openR_one hT (by simpa [chkR] using h) hl (hz 0 f rfl)
      | cons g r =>
        simp only [chkR, Bool.and_eq_true, beq_iff_eq] at h
        obtain ⟨⟨rfl, hc⟩, hr⟩ := h
        have hl : cs.length = f.offset + (a.sz + b.sz) := hl
        obtain ⟨z, hz0⟩ := hz 0 f rfl
        rw [chk_cells hc] at hz0
        obtain ⟨y1, r1, o1⟩ := iha.1 n _ _ _ _ hc hz0
        obtain ⟨y2, r2, o2⟩ := ihb.2 n (g :: r) (f.offset + a.sz) m cs hr (by omega) (fun j f' hj => hz (j + 1) f' (by simpa using hj))
        refine ⟨(y1, y2), ⟨_, _, ?_, r1, r2⟩, o1, o2⟩
        rw [← List.drop_drop, List.take_append_drop]

/-- What is handed in is a value. -/
theorem open_v {t : Ty} {i : TypeId} {b0 : Nat} {r : Reach} {v : Value} {d : DataW H} {p : List MemPlace} (hi : Is P t i) (hv : Value.okWide P w r b0 i v) (h : DataW.Trod enc P w 0 (fun _ => true) true i v d p) :
    ∃ y : t.den, t.ok y ∧ t.rel w N0 y v := by
  obtain ⟨fuel, hf⟩ := h
  obtain ⟨n, hn⟩ := hi
  obtain ⟨y, h1, h2⟩ := (open_all (enc := enc) (P := P) (w := w) t).1 n i fuel _ _ hn hf
  refine ⟨y, h2, _, h1, ?_⟩
  have hd := Is.desc ⟨n, hn⟩
  have flat : t.agg = false → v.cells = #[v] → v = t.val v.cells.toList := by
    intro ha hc
    rw [hc]
    unfold Ty.val
    rw [ha]
    rfl
  have aggr : t.agg = true → (∃ cs, v = .agg cs) → v = t.val v.cells.toList := by
    rintro ha ⟨cs, rfl⟩
    unfold Ty.val
    rw [ha]
    rfl
  cases t with
  | int k => obtain ⟨z, rfl⟩ := okWide_int hd hv; exact flat rfl rfl
  | bool => obtain ⟨z, rfl⟩ := okWide_bool hd hv; exact flat rfl rfl
  | str => obtain ⟨z, rfl⟩ := okWide_string hd hv; exact flat rfl rfl
  | sl t => obtain ⟨e, hd, _⟩ := hd; obtain ⟨a, l, c, rfl⟩ := okWide_slice hd hv; exact flat rfl rfl
  | wrap t => obtain ⟨f, hd, _⟩ := hd; obtain ⟨cs, rfl, _⟩ := okWide_struct hd hv; exact aggr rfl ⟨_, rfl⟩
  | pair a b => obtain ⟨f, g, r, hd, _⟩ := hd; obtain ⟨cs, rfl, _⟩ := okWide_struct hd hv; exact aggr rfl ⟨_, rfl⟩
end

/-- a law holds of all arguments -/
def LawArgs : List Ty → (List AV → Prop) → Prop
  | [], Q => Q []
  | t :: r, Q => ∀ y : t.den, t.ok y → LawArgs r (fun l => Q (.v t y :: l))
theorem law_calls {P : Program} {f : Nat} {avs : List AV} {W : World} {args : List Value} (hG : Glo W) (h : Spec P f avs (.v .bool true) []) (hr : AV.rels W N0 (fun _ => (0, 0)) [] avs args) :
    Calls P f args.toArray W fun e W' => e = .returned (.bool true) ∧ Below W.heap.size W W' := by
  refine (h N0 W args hG (fun _ h => h.elim) hr).mono fun e W' ⟨u, loc, he, _, hu, hb⟩ => ?_
  obtain ⟨cs, hc, rfl⟩ := hu
  have hc : cs = [.bool true] := hc
  subst hc
  exact ⟨he, hb⟩
end Go.Proofs.YthnheieajicpfaaGreatDoor.AE
/- Plain facts on numbers by digits of any base, and on lists: no program in sight. -/
namespace Go.Proofs.YthnheieajicpfaaGreatDoor.Tri

def dv (B : Int) : List Int → Int
  | [] => 0
  | x :: xs => x + B * dv B xs

def Dig (B : Int) (l : List Int) : Prop := ∀ x, x ∈ l → 0 ≤ x ∧ x < B

/-- no nought at the end -/
def Top (l : List Int) : Prop := l.getLast? ≠ some 0

def Can (B : Int) (l : List Int) : Prop := Dig B l ∧ Top l

theorem dv_nil (B : Int) : dv B [] = 0 := rfl
theorem dv_cons (B x : Int) (xs : List Int) : dv B (x :: xs) = x + B * dv B xs := rfl
theorem dv_one (B x : Int) : dv B [x] = x := by simp [dv]

theorem dv_append (B : Int) (a b : List Int) : dv B (a ++ b) = dv B a + B ^ a.length * dv B b := by
  induction a with
  | nil => simp [dv]
  | cons x xs ih =>
    simp only [List.cons_append, dv, ih, List.length_cons, Int.pow_succ]
    grind

theorem dv_snoc (B : Int) (a : List Int) (x : Int) : dv B (a ++ [x]) = dv B a + B ^ a.length * x := by
  rw [dv_append, dv_one]

theorem Dig.nil (B : Int) : Dig B [] := fun _ h => by simp at h
theorem Dig.cons {B x : Int} {l : List Int} (h : 0 ≤ x ∧ x < B) (hl : Dig B l) : Dig B (x :: l) := by
  intro y hy
  rcases List.mem_cons.1 hy with rfl | hy
  · exact h
  · exact hl y hy
theorem Dig.head {B x : Int} {l : List Int} (h : Dig B (x :: l)) : 0 ≤ x ∧ x < B := h x (by simp)
theorem Dig.tail {B x : Int} {l : List Int} (h : Dig B (x :: l)) : Dig B l := fun y hy => h y (by simp [hy])
theorem Dig.append {B : Int} {a b : List Int} (ha : Dig B a) (hb : Dig B b) : Dig B (a ++ b) := by
  intro y hy
  rcases List.mem_append.1 hy with hy | hy
  · exact ha y hy
  · exact hb y hy
theorem Dig.snoc {B x : Int} {l : List Int} (hl : Dig B l) (h : 0 ≤ x ∧ x < B) : Dig B (l ++ [x]) :=
  hl.append (Dig.cons h (Dig.nil B))
theorem Dig.left {B : Int} {a b : List Int} (h : Dig B (a ++ b)) : Dig B a := fun y hy => h y (by simp [hy])
theorem Dig.right {B : Int} {a b : List Int} (h : Dig B (a ++ b)) : Dig B b := fun y hy => h y (by simp [hy])
theorem Dig.take {B : Int} {a : List Int} (h : Dig B a) (n : Nat) : Dig B (a.take n) := fun y hy => h y (List.mem_of_mem_take hy)
theorem Dig.drop {B : Int} {a : List Int} (h : Dig B a) (n : Nat) : Dig B (a.drop n) := fun y hy => h y (List.mem_of_mem_drop hy)
theorem Dig.set {B : Int} {a : List Int} (h : Dig B a) (n : Nat) {v : Int} (hv : 0 ≤ v ∧ v < B) : Dig B (a.set n v) := by
  intro y hy
  rcases List.mem_or_eq_of_mem_set hy with hy | rfl
  · exact h y hy
  · exact hv
theorem Dig.replicate {B : Int} (hB : 0 < B) (n : Nat) : Dig B (List.replicate n 0) := by
  intro y hy
  have := (List.mem_replicate.1 hy).2
  subst this; omega

theorem dv_nonneg {B : Int} (hB : 0 < B) {l : List Int} (h : Dig B l) : 0 ≤ dv B l := by
  induction l with
  | nil => simp [dv]
  | cons x xs ih =>
    have h1 := h.head
    have h2 := ih h.tail
    have := Int.mul_nonneg (Int.le_of_lt hB) h2
    simp only [dv]; omega

theorem pow_pos' {B : Int} (hB : 0 < B) (n : Nat) : 0 < B ^ n := Int.pow_pos hB

theorem dv_lt {B : Int} (hB : 0 < B) {l : List Int} (h : Dig B l) : dv B l < B ^ l.length := by
  induction l with
  | nil => simp [dv]
  | cons x xs ih =>
    have h1 := h.head
    have h2 := ih h.tail
    have : B * (dv B xs + 1) ≤ B * B ^ xs.length := Int.mul_le_mul_of_nonneg_left (by omega) (Int.le_of_lt hB)
    simp only [dv, List.length_cons, Int.pow_succ]
    grind

theorem dv_replicate (B : Int) (n : Nat) : dv B (List.replicate n 0) = 0 := by
  induction n with
  | zero => rfl
  | succ n ih => simp [List.replicate_succ, dv, ih]

theorem dv_append_zeros (B : Int) (a : List Int) (n : Nat) : dv B (a ++ List.replicate n 0) = dv B a := by
  rw [dv_append, dv_replicate]; simp

/-- two lists of digits of one length and one value are the same -/
theorem dv_inj_len {B : Int} (hB : 0 < B) : ∀ {a b : List Int}, Dig B a → Dig B b → a.length = b.length → dv B a = dv B b → a = b
  | [], [], _, _, _, _ => rfl
  | [], _ :: _, _, _, h, _ => by simp at h
  | _ :: _, [], _, _, h, _ => by simp at h
  | x :: xs, y :: ys, ha, hb, hl, hv => by
    have h1 := ha.head
    have h2 := hb.head
    simp only [dv] at hv
    have e1 : (x + B * dv B xs) % B = x := by rw [Int.add_mul_emod_self_left, Int.emod_eq_of_lt h1.1 h1.2]
    have e2 : (y + B * dv B ys) % B = y := by rw [Int.add_mul_emod_self_left, Int.emod_eq_of_lt h2.1 h2.2]
    have hxy : x = y := by rw [← e1, ← e2, hv]
    subst hxy
    have h3 : B * dv B xs = B * dv B ys := by omega
    have h4 : dv B xs = dv B ys := Int.eq_of_mul_eq_mul_left (by omega) h3
    rw [dv_inj_len hB ha.tail hb.tail (by simpa using hl) h4]

theorem Top.nil : Top [] := by simp [Top]
theorem Top.snoc {l : List Int} {x : Int} : Top (l ++ [x]) ↔ x ≠ 0 := by simp [Top]
theorem Can.nil (B : Int) : Can B [] := ⟨Dig.nil B, Top.nil⟩

theorem eq_snoc {α : Type} {l : List α} (h : l ≠ []) : ∃ a x, l = a ++ [x] :=
  ⟨l.dropLast, l.getLast h, (List.dropLast_concat_getLast h).symm⟩

theorem Can.ge {B : Int} (hB : 0 < B) {l : List Int} (h : Can B l) (hl : l ≠ []) : B ^ (l.length - 1) ≤ dv B l := by
  obtain ⟨a, x, rfl⟩ := eq_snoc hl
  have hx := Top.snoc.1 h.2
  have hd := h.1.right.head
  have ha := dv_nonneg hB h.1.left
  rw [dv_snoc]
  have : B ^ a.length * 1 ≤ B ^ a.length * x := Int.mul_le_mul_of_nonneg_left (by omega) (Int.le_of_lt (pow_pos' hB _))
  simp only [List.length_append, List.length_cons, List.length_nil, Nat.add_sub_cancel, Nat.zero_add]
  omega

theorem Can.pos {B : Int} (hB : 0 < B) {l : List Int} (h : Can B l) (hl : l ≠ []) : 0 < dv B l := by
  have := h.ge hB hl
  have := pow_pos' hB (l.length - 1)
  omega

theorem Can.eq_nil {B : Int} (hB : 0 < B) {l : List Int} (h : Can B l) : l = [] ↔ dv B l = 0 := by
  constructor
  · rintro rfl; rfl
  · intro hv
    apply Classical.byContradiction
    intro hl
    have := h.pos hB hl
    omega

theorem pow_mono {B : Int} (hB : 0 < B) {m n : Nat} (h : m ≤ n) : B ^ m ≤ B ^ n := by
  obtain ⟨d, rfl⟩ := Nat.exists_eq_add_of_le h
  rw [Int.pow_add]
  have h1 := pow_pos' hB m
  have h2 := pow_pos' hB d
  have : B ^ m * 1 ≤ B ^ m * B ^ d := Int.mul_le_mul_of_nonneg_left (by omega) (Int.le_of_lt h1)
  omega

/-- of two canonical lists the longer one is the greater -/
theorem Can.lt_of_length {B : Int} (hB : 0 < B) {a b : List Int} (ha : Dig B a) (hb : Can B b) (h : a.length < b.length) : dv B a < dv B b := by
  have h1 := dv_lt hB ha
  have hne : b ≠ [] := by rintro rfl; simp at h
  have h2 := hb.ge hB hne
  have h3 := pow_mono hB (show a.length ≤ b.length - 1 by omega)
  omega

theorem Can.inj {B : Int} (hB : 0 < B) {a b : List Int} (ha : Can B a) (hb : Can B b) (hv : dv B a = dv B b) : a = b := by
  rcases Nat.lt_trichotomy a.length b.length with h | h | h
  · have := Can.lt_of_length hB ha.1 hb h; omega
  · exact dv_inj_len hB ha.1 hb.1 h hv
  · have := Can.lt_of_length hB hb.1 ha h; omega

/-- without noughts at the end -/
def trimz : List Int → List Int
  | [] => []
  | x :: xs => if trimz xs = [] ∧ x = 0 then [] else x :: trimz xs

theorem trimz_dig {B : Int} {l : List Int} (h : Dig B l) : Dig B (trimz l) := by
  induction l with
  | nil => exact h
  | cons x xs ih =>
    simp only [trimz]; split
    · exact Dig.nil B
    · exact Dig.cons h.head (ih h.tail)

theorem trimz_top (l : List Int) : Top (trimz l) := by
  induction l with
  | nil => exact Top.nil
  | cons x xs ih =>
    simp only [trimz]; split
    · exact Top.nil
    · rename_i hn
      by_cases he : trimz xs = []
      · rw [he]; simp [Top]; intro hx; exact hn ⟨he, hx⟩
      · unfold Top; rw [List.getLast?_cons_of_ne_nil he]; exact ih

theorem trimz_dv (B : Int) (l : List Int) : dv B (trimz l) = dv B l := by
  induction l with
  | nil => rfl
  | cons x xs ih =>
    simp only [trimz]; split
    · rename_i h
      rw [h.1] at ih; simp only [dv] at *; rw [← ih, h.2]; simp
    · simp only [dv, ih]

theorem trimz_can {B : Int} {l : List Int} (h : Dig B l) : Can B (trimz l) := ⟨trimz_dig h, trimz_top l⟩

theorem trimz_snoc_zero (l : List Int) : trimz (l ++ [0]) = trimz l := by
  induction l with
  | nil => simp [trimz]
  | cons x xs ih => simp only [List.cons_append, trimz, ih]

theorem trimz_of_top {l : List Int} (h : Top l) : trimz l = l := by
  induction l with
  | nil => rfl
  | cons x xs ih =>
    simp only [trimz]
    by_cases he : xs = []
    · subst he
      have : x ≠ 0 := by simpa [Top] using h
      simp [trimz, this]
    · have ht : Top xs := by unfold Top at *; rwa [List.getLast?_cons_of_ne_nil he] at h
      rw [ih ht, if_neg (by simp [he])]

theorem trimz_length (l : List Int) : (trimz l).length ≤ l.length := by
  induction l with
  | nil => simp [trimz]
  | cons x xs ih => simp only [trimz]; split <;> simp <;> omega

end Go.Proofs.YthnheieajicpfaaGreatDoor.Tri
/- Plain facts for printed functions: numbers by digits, loops, reads. -/
namespace Go.Proofs.YthnheieajicpfaaGreatDoor.AP
open Go Go.Proofs.YthnheieajicpfaaGreatDoor.Tri
set_option linter.unusedVariables false

/-! loops, round by round -/
def go_ {S X : Type} : Option (S ⊕ X) → (S → Option X) → Option X
  | none, _ => none
  | some (.inl s), k => k s
  | some (.inr x), _ => some x
@[simp] theorem go_inl {S X : Type} (s : S) (k : S → Option X) : go_ (some (.inl s)) k = k s := rfl
@[simp] theorem go_inr {S X : Type} (x : X) (k : S → Option X) : go_ (some (.inr x)) k = some x := rfl
theorem lp_go {S X : Type} (f : S → Option (S ⊕ X)) (s : S) : lp f s = go_ (f s) (lp f) := by
  rw [lp_eq]
  cases f s with
  | none => rfl
  | some z => cases z <;> rfl
/-- a loop over an index -/
theorem lp_upto {S X : Type} {f : S → Option (S ⊕ X)} (n : Nat) (T : Nat → S → Prop) (Q : X → Prop)
    (h : ∀ i s, i < n → T i s → (∃ s', f s = some (.inl s') ∧ T (i + 1) s') ∨ (∃ x, f s = some (.inr x) ∧ Q x))
    (he : ∀ s, T n s → ∃ x, f s = some (.inr x) ∧ Q x) {s : S} (h0 : T 0 s) : ∃ x, lp f s = some x ∧ Q x := by
  have key : ∀ k i s, i + k = n → T i s → ∃ x, lp f s = some x ∧ Q x := by
    intro k
    induction k with
    | zero =>
      intro i s hk hs
      obtain rfl : i = n := by omega
      obtain ⟨x, h1, h2⟩ := he s hs
      exact ⟨x, lp_done h1, h2⟩
    | succ k ih =>
      intro i s hk hs
      rcases h i s (by omega) hs with ⟨s', h1, h2⟩ | ⟨x, h1, h2⟩
      · rw [lp_more h1]; exact ih (i + 1) s' (by omega) h2
      · exact ⟨x, lp_done h1, h2⟩
  exact key n 0 s (by omega) h0
/-- the place of the first one that has p; the length where there is none -/
def fst_ {α : Type} (p : α → Bool) : List α → Nat
  | [] => 0
  | x :: l => if p x then 0 else fst_ p l + 1
theorem fst_le {α : Type} (p : α → Bool) : ∀ l : List α, fst_ p l ≤ l.length
  | [] => Nat.le_refl _
  | x :: l => by have := fst_le p l; unfold fst_; split <;> simp <;> omega
theorem fst_lt {α : Type} (p : α → Bool) : ∀ {l : List α}, fst_ p l < l.length → ∃ x, l[fst_ p l]? = some x ∧ p x = true
  | [], h => by simp at h
  | x :: l, h => by
    unfold fst_ at h ⊢
    by_cases hp : p x = true
    · simp only [hp, if_true]; exact ⟨x, rfl, hp⟩
    · simp only [hp] at h ⊢
      obtain ⟨y, h1, h2⟩ := fst_lt p (l := l) (by simpa using h)
      exact ⟨y, by simpa using h1, h2⟩
theorem fst_before {α : Type} (p : α → Bool) : ∀ {l : List α} {i : Nat} {x : α}, i < fst_ p l → l[i]? = some x → p x = false
  | [], i, x, h, h2 => by simp at h2
  | y :: l, i, x, h, h2 => by
    unfold fst_ at h
    by_cases hp : p y = true
    · simp [hp] at h
    · cases i with
      | zero => simp at h2; subst h2; simpa using hp
      | succ i => exact fst_before p (l := l) (i := i) (by simp [hp] at h; omega) (by simpa using h2)
theorem fst_any {α : Type} (p : α → Bool) : ∀ l : List α, decide (fst_ p l < l.length) = l.any p
  | [] => rfl
  | x :: l => by
    unfold fst_
    by_cases hp : p x = true
    · simp [hp]
    · have := fst_any p l
      simp only [hp, List.any_cons, List.length_cons]
      rw [← this]; simp
/-- where the first one is, -1: nowhere -/
def idx {α : Type} (p : α → Bool) (l : List α) : Int := if fst_ p l < l.length then (fst_ p l : Int) else -1
theorem idx_le {α : Type} (p : α → Bool) (l : List α) : -1 ≤ idx p l ∧ idx p l < l.length := by unfold idx; split <;> omega
theorem idx_any {α : Type} (p : α → Bool) (l : List α) : decide (0 ≤ idx p l) = l.any p := by
  rw [← fst_any]; unfold idx; by_cases h : fst_ p l < l.length <;> simp [h]
theorem idx_rd {α : Type} {p : α → Bool} {l : List α} (h : 0 ≤ idx p l) : ∃ x, rd l (idx p l) = some x ∧ p x = true := by
  unfold idx at h ⊢
  by_cases hl : fst_ p l < l.length
  · rw [if_pos hl, rd_nat]; exact fst_lt p hl
  · rw [if_neg hl] at h; omega
/-- a loop that looks for the first one -/
theorem lp_first {α X : Type} {f : Int → Option (Int ⊕ X)} (l : List α) (p : α → Bool) (r : Nat → X) (e : Option X)
    (h : ∀ (i : Nat) x, l[i]? = some x → f (i : Int) = some (if p x then .inr (r i) else .inl ((i : Int) + 1)))
    (he : lp f (l.length : Int) = e) : lp f 0 = if fst_ p l < l.length then some (r (fst_ p l)) else e := by
  have key : ∀ (k i : Nat), i + k = l.length → (∀ j, j < i → ∀ x, l[j]? = some x → p x = false) → lp f (i : Int) = if fst_ p l < l.length then some (r (fst_ p l)) else e := by
    intro k
    induction k with
    | zero =>
      intro i hk hb
      obtain rfl : i = l.length := by omega
      rw [if_neg, he]
      intro hlt
      obtain ⟨x, h1, h2⟩ := fst_lt p hlt
      rw [hb _ hlt x h1] at h2; cases h2
    | succ k ih =>
      intro i hk hb
      have hi : l[i]? = some l[i] := List.getElem?_eq_getElem (by omega)
      cases hp : p l[i] with
      | true =>
        have e : fst_ p l = i := by
          apply Nat.le_antisymm
          · apply Nat.le_of_not_lt; intro hlt; have := fst_before p hlt hi; rw [hp] at this; cases this
          · apply Nat.le_of_not_lt; intro hlt
            obtain ⟨x, h1, h2⟩ := fst_lt p (show fst_ p l < l.length by omega)
            rw [hb _ hlt x h1] at h2; cases h2
        rw [lp_done (by rw [h i _ hi, hp]; rfl), if_pos (by omega), e]
      | false =>
        rw [lp_more (by rw [h i _ hi, hp]; rfl)]
        have := ih (i + 1) (by omega) (fun j hj x hx => by
          by_cases hji : j = i
          · subst hji; rw [hi] at hx; cases hx; exact hp
          · exact hb j (by omega) x hx)
        simpa using this
  simpa using key l.length 0 (by omega) (by intro j hj; omega)

/-! reads of numbers -/
def gI (l : List Int) (i : Int) : Int := l.getD i.toNat 0
theorem rd_I {l : List Int} {i : Int} (h0 : 0 ≤ i) (h1 : i < l.length) : rd l i = some (gI l i) := rd_getD 0 h0 h1
theorem gI_dig {B : Int} {l : List Int} (h : Dig B l) (hB : 0 < B) (i : Int) : 0 ≤ gI l i ∧ gI l i < B := by
  unfold gI
  rw [List.getD_eq_getElem?_getD]
  cases hx : l[i.toNat]? with
  | none => exact ⟨Int.le_refl _, hB⟩
  | some x => exact h x (List.mem_of_getElem? hx)
theorem gI_nat (l : List Int) (i : Nat) : gI l (i : Int) = l.getD i 0 := rfl
theorem take_gI (B : Int) : ∀ (l : List Int) (i : Nat), i < l.length → dv B (l.take (i + 1)) = dv B (l.take i) + B ^ i * gI l (i : Int) := by
  intro l i h
  rw [List.take_add_one, List.getElem?_eq_getElem h]
  simp only [Option.toList]
  rw [dv_snoc, List.length_take, Nat.min_eq_left (Nat.le_of_lt h)]
  simp [gI, h]
theorem drop_gI (l : List Int) (q : Nat) (h : q < l.length) : l.drop q = gI l (q : Int) :: l.drop (q + 1) := by
  rw [List.drop_eq_getElem_cons h]; simp [gI, h]
theorem gI_last (a : List Int) (x : Int) : gI (a ++ [x]) (a.length : Int) = x := by simp [gI]

/-! numbers of a value -/
def num (B : Nat) (x : Nat) : List Int := if h : 1 < B ∧ 0 < x then ((x % B : Nat) : Int) :: num B (x / B) else []
termination_by x
decreasing_by exact Nat.div_lt_self h.2 h.1
theorem num_dv {B : Nat} (hB : 1 < B) : ∀ x : Nat, dv (B : Int) (num B x) = x := by
  intro x
  induction x using Nat.strongRecOn with
  | _ x ih =>
    rw [num]
    by_cases h : 0 < x
    · rw [dif_pos ⟨hB, h⟩, dv, ih _ (Nat.div_lt_self h hB)]
      have := Nat.mod_add_div x B
      have e : ((x % B : Nat) : Int) + (B : Int) * ((x / B : Nat) : Int) = ((x % B + B * (x / B) : Nat) : Int) := by push_cast; rfl
      rw [e, this]
    · rw [dif_neg (by omega)]
      have : x = 0 := by omega
      rw [this]; rfl
theorem num_can {B : Nat} (hB : 1 < B) : ∀ x : Nat, Tri.Can (B : Int) (num B x) := by
  intro x
  induction x using Nat.strongRecOn with
  | _ x ih =>
    rw [num]
    by_cases h : 0 < x
    · rw [dif_pos ⟨hB, h⟩]
      have hc := ih _ (Nat.div_lt_self h hB)
      have hm := Nat.mod_lt x (show 0 < B by omega)
      refine ⟨Dig.cons ⟨by omega, by omega⟩ hc.1, ?_⟩
      by_cases he : num B (x / B) = []
      · rw [he]
        have h0 : x / B = 0 := by
          have := num_dv hB (x / B)
          rw [he] at this
          have h2 : ((x / B : Nat) : Int) = 0 := this.symm
          omega
        have h1 : x % B = x := by have := Nat.mod_add_div x B; rw [h0, Nat.mul_zero] at this; omega
        rw [h1]
        simp [Top]
        omega
      · unfold Top
        rw [List.getLast?_cons_of_ne_nil he]
        exact hc.2
    · rw [dif_neg (by omega)]
      exact Tri.Can.nil _
theorem can_num {B : Nat} (hB : 1 < B) {l : List Int} (h : Tri.Can (B : Int) l) : l = num B (dv (B : Int) l).toNat := by
  refine Tri.Can.inj (by omega) h (num_can hB _) ?_
  rw [num_dv hB]
  have := dv_nonneg (B := (B : Int)) (by omega) h.1
  omega
def nl (x : Int) : List Int := num 4294967296 x.toNat
def zl (x : Int) : List Int := num 10000 x.toNat
theorem nl_can (x : Int) : Tri.Can (4294967296 : Int) (nl x) := num_can (by decide) _
theorem zl_can (x : Int) : Tri.Can (10000 : Int) (zl x) := num_can (by decide) _
theorem nl_dv {x : Int} (h : 0 ≤ x) : dv (4294967296 : Int) (nl x) = x := by
  have := num_dv (B := 4294967296) (by decide) x.toNat
  have e : ((4294967296 : Nat) : Int) = (4294967296 : Int) := rfl
  rw [e] at this
  unfold nl
  rw [this]; omega
theorem zl_dv {x : Int} (h : 0 ≤ x) : dv (10000 : Int) (zl x) = x := by
  have := num_dv (B := 10000) (by decide) x.toNat
  have e : ((10000 : Nat) : Int) = (10000 : Int) := rfl
  rw [e] at this
  unfold zl
  rw [this]; omega
theorem can_nl {d : List Int} (h : Tri.Can (4294967296 : Int) d) {x : Int} (hx : dv (4294967296 : Int) d = x) : d = nl x := by
  have h2 := can_num (B := 4294967296) (by decide) h
  rw [h2]; unfold nl; congr 2
theorem can_zl {d : List Int} (h : Tri.Can (10000 : Int) d) {x : Int} (hx : dv (10000 : Int) d = x) : d = zl x := by
  have h2 := can_num (B := 10000) (by decide) h
  rw [h2]; unfold zl; congr 2
theorem trimz_nl {d : List Int} (h : Dig (4294967296 : Int) d) {x : Int} (hx : dv (4294967296 : Int) d = x) : trimz d = nl x := can_nl (trimz_can h) (by rw [trimz_dv, hx])
theorem trimz_zl {d : List Int} (h : Dig (10000 : Int) d) {x : Int} (hx : dv (10000 : Int) d = x) : trimz d = zl x := can_zl (trimz_can h) (by rw [trimz_dv, hx])
theorem nl_zero : nl 0 = [] := by unfold nl; rw [num]; simp
theorem zl_zero : zl 0 = [] := by unfold zl; rw [num]; simp
theorem nl_nil {x : Int} (h : 0 ≤ x) : nl x = [] ↔ x = 0 := by
  rw [Can.eq_nil (by decide) (nl_can x), nl_dv h]
theorem zl_nil {x : Int} (h : 0 ≤ x) : zl x = [] ↔ x = 0 := by
  rw [Can.eq_nil (by decide) (zl_can x), zl_dv h]
theorem nl_inj {x y : Int} (hx : 0 ≤ x) (hy : 0 ≤ y) (h : nl x = nl y) : x = y := by rw [← nl_dv hx, ← nl_dv hy, h]
theorem zl_inj {x y : Int} (hx : 0 ≤ x) (hy : 0 ≤ y) (h : zl x = zl y) : x = y := by rw [← zl_dv hx, ← zl_dv hy, h]
theorem can_len {B : Int} (hB : 1 < B) {l : List Int} (h : Tri.Can B l) {n : Nat} (hx : dv B l < B ^ n) : l.length ≤ n := by
  apply Nat.le_of_not_lt
  intro hlt
  have hne : l ≠ [] := by rintro rfl; simp at hlt
  have h1 := h.ge (by omega) hne
  have h2 := pow_mono (B := B) (by omega) (show n ≤ l.length - 1 by omega)
  omega
theorem zl_len {x : Int} (h0 : 0 ≤ x) {n : Nat} (hx : x < (10000 : Int) ^ n) : (zl x).length ≤ n := can_len (by decide) (zl_can x) (by rw [zl_dv h0]; exact hx)
theorem nl_len {x : Int} (h0 : 0 ≤ x) {n : Nat} (hx : x < (4294967296 : Int) ^ n) : (nl x).length ≤ n := can_len (by decide) (nl_can x) (by rw [nl_dv h0]; exact hx)
theorem zl_mono {x y : Int} (h0 : 0 ≤ x) (h : x ≤ y) : (zl x).length ≤ (zl y).length := by
  apply Nat.le_of_not_lt
  intro hlt
  have := Can.lt_of_length (by decide) (zl_can y).1 (zl_can x) hlt
  rw [zl_dv h0, zl_dv (by omega)] at this; omega
theorem nl_mono {x y : Int} (h0 : 0 ≤ x) (h : x ≤ y) : (nl x).length ≤ (nl y).length := by
  apply Nat.le_of_not_lt
  intro hlt
  have := Can.lt_of_length (by decide) (nl_can y).1 (nl_can x) hlt
  rw [nl_dv h0, nl_dv (by omega)] at this; omega
theorem pow_le {a b : Int} (ha : 0 ≤ a) (h : a ≤ b) : ∀ n : Nat, a ^ n ≤ b ^ n
  | 0 => by simp
  | n + 1 => by
    rw [Int.pow_succ, Int.pow_succ]
    exact Int.mul_le_mul (pow_le ha h n) h ha (Int.pow_nonneg (by omega))
theorem lb_zb (n : Nat) : (4294967296 : Int) ^ n ≤ (10000 : Int) ^ (3 * n) := by
  rw [Int.pow_mul]; exact pow_le (by decide) (by decide) n
theorem zb_lb (n : Nat) : (10000 : Int) ^ n ≤ (4294967296 : Int) ^ n := pow_le (by decide) (by decide) n
/-- sign -/
def sg (x : Int) : Int := if x < 0 then -1 else if 0 < x then 1 else 0
end Go.Proofs.YthnheieajicpfaaGreatDoor.AP
/- Texts: put together, joined, printed numbers. -/
namespace Go.Proofs.YthnheieajicpfaaGreatDoor.AP
open Go
set_option linter.unusedVariables false
set_option linter.unusedSimpArgs false
theorem data_bs (l : List UInt8) : (bs l).data.toList = l := rfl
theorem bs_data (s : ByteArray) : bs s.data.toList = s := rfl
theorem bs_size (l : List UInt8) : (bs l).size = l.length := rfl
theorem size_data (s : ByteArray) : s.size = s.data.toList.length := rfl
theorem bs_append (a b : List UInt8) : bs a ++ bs b = bs (a ++ b) := by
  apply ByteArray.ext
  apply Array.toList_inj.1
  rw [ByteArray.data_append]
  simp [bs]
theorem bs_inj {a b : List UInt8} (h : bs a = bs b) : a = b := by rw [← data_bs a, h, data_bs]
/-- The same text. -/
theorem sq_self (a : ByteArray) : sq a a = true := by unfold sq; simp
theorem sq_bs {a b : List UInt8} : sq (bs a) (bs b) = decide (a = b) := by
  unfold sq
  rw [toList_data, toList_data, data_bs, data_bs]
  by_cases h : a = b
  · subst h; simp
  · rw [decide_eq_false h]; simp [h]
theorem cat_bs {a b : List UInt8} (h : a.length + b.length ≤ 9223372036854775807) : cat (bs a) (bs b) = some (bs (a ++ b)) := by
  unfold cat
  rw [if_pos (by rw [bs_size, bs_size]; exact h), bs_append]
theorem join2 (s x y : List UInt8) (l : List (List UInt8)) : Lib.join (x :: y :: l) s = x ++ (s ++ Lib.join (y :: l) s) := by
  rw [Lib.join_cons, Lib.join_cons]
  simp [Lib.joinTail, List.append_assoc]
theorem join_bs (l : List (List UInt8)) (s : List UInt8) (h1 : l.length ≤ 140737488355328) (h2 : (Lib.join l s).length ≤ 140737488355328) : m_strings_Join (l.map bs) (bs s) = some (bs (Lib.join l s)) := by
  have e : (l.map bs).map (fun x : ByteArray => x.data.toList) = l := by
    rw [List.map_map]
    have : (fun x : ByteArray => x.data.toList) ∘ bs = id := rfl
    rw [this, List.map_id]
  unfold m_strings_Join
  rw [e, data_bs, if_pos ⟨by rw [List.length_map]; exact h1, h2⟩]
  rfl
/-- a bound of a join's length -/
theorem join_len (s : List UInt8) (c : Nat) : ∀ l : List (List UInt8), (∀ x ∈ l, x.length ≤ c) → (Lib.join l s).length ≤ l.length * (c + s.length)
  | [], _ => by rw [Lib.join_nil]; simp
  | [x], h => by
    rw [Lib.join_one]
    have := h x (by simp)
    simp; omega
  | x :: y :: l, h => by
    have h1 := h x (by simp)
    have h2 := join_len s c (y :: l) (fun z hz => h z (by simp [hz]))
    rw [join2]
    simp only [List.length_append, List.length_cons] at h2 ⊢
    rw [Nat.succ_mul]
    omega
theorem itoa_bs (n : Int) (h0 : -9223372036854775808 ≤ n) (h1 : n ≤ 9223372036854775807) : m_strconv_Itoa n = some (bs (Lib.itoa n)) := by
  unfold m_strconv_Itoa
  rw [if_pos ⟨h0, h1⟩]
  rfl
theorem nd_le (n : Nat) (h : n ≤ 9223372036854775808) : Lib.nDigits n ≤ 19 := by
  have hd : ∀ (j n : Nat), n < 10 ^ (j + 1) → Lib.nDigits n ≤ j + 1 := by
    intro j
    induction j with
    | zero => intro n hn; rw [Lib.nDigits_small (by simpa using hn)]; omega
    | succ j ih =>
      intro n hn
      by_cases h : n < 10
      · rw [Lib.nDigits_small h]; omega
      · rw [Lib.nDigits_big h]
        have := ih (n / 10) (by rw [Nat.pow_succ] at hn; omega)
        omega
  exact hd 18 n (by omega)
theorem itoa_len (n : Int) (h0 : -9223372036854775808 ≤ n) (h1 : n ≤ 9223372036854775807) : (Lib.itoa n).length ≤ 20 := by
  unfold Lib.itoa
  split
  · rw [List.length_cons, Lib.decDigits_length]
    have := nd_le n.natAbs (by omega)
    omega
  · rw [Lib.decDigits_length]
    have := nd_le n.toNat (by omega)
    omega
/-- a loop that fills a row with what is made of each -/
theorem lp_fill {α β : Type} {f : (Int × List β) → Option ((Int × List β) ⊕ (List β))} (l : List α) (g : α → β)
    (h : ∀ (i : Nat) x v, l[i]? = some x → v.length = l.length → f ((i : Int), v) = some (.inl ((i : Int) + 1, v.set i (g x)))) (he : ∀ v, f ((l.length : Int), v) = some (.inr v)) (v0 : List β) (hv : v0.length = l.length) : lp f (0, v0) = some (l.map g) := by
  have key : ∀ (k i : Nat) (v : List β), i + k = l.length → v.length = l.length → v.take i = (l.take i).map g → lp f ((i : Int), v) = some (l.map g) := by
    intro k
    induction k with
    | zero =>
      intro i v hk hv ht
      obtain rfl : i = l.length := by omega
      rw [lp_done (he v)]
      rw [List.take_of_length_le (by omega), List.take_of_length_le (Nat.le_refl _)] at ht
      rw [ht]
    | succ k ih =>
      intro i v hk hv ht
      have hi : l[i]? = some l[i] := List.getElem?_eq_getElem (by omega)
      rw [lp_more (h i _ v hi hv)]
      have := ih (i + 1) (v.set i (g l[i])) (by omega) (by rw [List.length_set]; exact hv) (by
        rw [List.take_add_one, List.take_add_one, hi, List.take_set_of_le (Nat.le_refl i), ht, List.map_append]
        congr 1
        rw [List.getElem?_set_self (by omega)]
        rfl)
      simpa using this
  exact key l.length 0 v0 (by omega) hv (by simp)
theorem mk16 (n : Nat) (h : n ≤ 4294967296) : AP.mk 16 (bs []) (n : Int) (n : Int) = some (List.replicate n (bs [])) := by
  rw [mk_of (by omega)]
  simp

/-! numbers by ten, the document's way -/
theorem tx_one (d : Nat) (h : d < 10) : tx [wu8 (wi64 (48 + (d : Int)))] = bs [UInt8.ofNat (48 + d)] := by
  rw [wi64_eq (by omega) (by omega), wu8_eq (by omega) (by omega)]
  unfold tx bs
  have : (48 + (d : Int)).toNat = 48 + d := by omega
  simp [this]
theorem baseItoa_loop (σ : Int) (hσ : σ = 1 ∨ σ = -1) (m : Nat) : ∀ acc : List UInt8, 0 < m → m ≤ 9223372036854775807 → acc.length + Lib.nDigits m ≤ 100 → lp m_triviumbase_Itoa_l1 (bs acc, σ * (m : Int)) = some (bs (Lib.decDigits m ++ acc)) := by
  induction m using Nat.strongRecOn with
  | _ m ih =>
    intro acc hm hmax hl
    have hnd := Lib.nDigits_pos m
    have e0 : (!decide (σ * (m : Int) = 0)) = true := by
      rw [decide_eq_false]; rfl
      rcases hσ with rfl | rfl <;> omega
    have e1 : rm .i64 (σ * (m : Int)) 10 = some (σ * ((m % 10 : Nat) : Int)) := by
      unfold rm
      rw [if_neg (by decide)]
      congr 1
      rcases hσ with rfl | rfl
      · rw [Int.one_mul, Int.one_mul, Int.tmod_eq_emod_of_nonneg (by omega)]; omega
      · rw [show (-1 : Int) * (m : Int) = -(m : Int) by omega, Int.neg_tmod, Int.tmod_eq_emod_of_nonneg (by omega)]; omega
    have e2 : qd .i64 (σ * (m : Int)) 10 = some (σ * ((m / 10 : Nat) : Int)) := by
      unfold qd
      rw [if_neg (by decide)]
      have : (σ * (m : Int)).tdiv 10 = σ * ((m / 10 : Nat) : Int) := by
        rcases hσ with rfl | rfl
        · rw [Int.one_mul, Int.one_mul, Int.tdiv_eq_ediv_of_nonneg (by omega)]; omega
        · rw [show (-1 : Int) * (m : Int) = -(m : Int) by omega, Int.neg_tdiv, Int.tdiv_eq_ediv_of_nonneg (by omega)]; omega
      rw [this]
      congr 1
      exact wi64_eq (by rcases hσ with rfl | rfl <;> omega) (by rcases hσ with rfl | rfl <;> omega)
    have e3 : (if decide (σ * ((m % 10 : Nat) : Int) < 0) = true then some (wi64 (0 - σ * ((m % 10 : Nat) : Int))) else some (σ * ((m % 10 : Nat) : Int))) = some ((m % 10 : Nat) : Int) := by
      rcases hσ with rfl | rfl
      · rw [if_neg (by simp; omega), Int.one_mul]
      · by_cases h : 0 < m % 10
        · rw [if_pos (by simp; omega), wi64_eq (by omega) (by omega)]
          congr 1; omega
        · rw [if_neg (by simp; omega)]
          congr 1; omega
    have e4 : cat (tx [wu8 (wi64 (48 + ((m % 10 : Nat) : Int)))]) (bs acc) = some (bs (UInt8.ofNat (48 + m % 10) :: acc)) := by
      rw [tx_one _ (Nat.mod_lt _ (by decide)), cat_bs (by simp; omega)]
      rfl
    have hs : m_triviumbase_Itoa_l1 (bs acc, σ * (m : Int)) = some (.inl (bs (UInt8.ofNat (48 + m % 10) :: acc), σ * ((m / 10 : Nat) : Int))) := by
      simp only [m_triviumbase_Itoa_l1, e0, if_true, e1, bd_some, e3, e4, e2]
    rw [lp_more hs]
    by_cases h : m < 10
    · have h1 : m / 10 = 0 := by omega
      have h2 : m % 10 = m := by omega
      rw [h1, h2, lp_done (x := bs (UInt8.ofNat (48 + m) :: acc))]
      · rw [Lib.decDigits, dif_pos h]; rfl
      · simp [m_triviumbase_Itoa_l1]
    · have h4 := Lib.nDigits_big h
      rw [ih (m / 10) (by omega) _ (by omega) (by omega) (by simp; omega)]
      conv => rhs; rw [Lib.decDigits, dif_neg h]
      simp
theorem baseItoa (n : Int) (h0 : -9223372036854775807 ≤ n) (h1 : n ≤ 9223372036854775807) : m_triviumbase_Itoa n = some (bs (Lib.itoa n)) := by
  unfold m_triviumbase_Itoa
  by_cases hz : n = 0
  · subst hz
    rw [if_pos (by decide)]
    have : Lib.itoa 0 = [48] := by unfold Lib.itoa; rw [if_neg (by decide), Lib.decDigits, dif_pos (by decide)]; rfl
    rw [this]
  · rw [if_neg (by simpa using hz)]
    by_cases hn : n < 0
    · have e : n = -1 * ((n.natAbs : Nat) : Int) := by omega
      have hd := nd_le n.natAbs (by omega)
      have := baseItoa_loop (-1) (.inr rfl) n.natAbs [] (by omega) (by omega) (by simp; omega)
      rw [← e] at this
      have hl := Lib.decDigits_length n.natAbs
      rw [this, List.append_nil]
      have c := cat_bs (a := [45]) (b := Lib.decDigits n.natAbs) (by rw [hl]; simp; omega)
      simp only [bd_some, decide_eq_true hn, if_true, c]
      unfold Lib.itoa
      rw [if_pos hn]
      rfl
    · have e : n = 1 * ((n.toNat : Nat) : Int) := by omega
      have hd := nd_le n.toNat (by omega)
      have := baseItoa_loop 1 (.inl rfl) n.toNat [] (by omega) (by omega) (by simp; omega)
      rw [← e] at this
      rw [this, List.append_nil]
      simp only [bd_some, decide_eq_false hn]
      unfold Lib.itoa
      rw [if_neg hn]
      rfl
/-! parts behind one another -/
def catI {α : Type} (g : Nat → α → List UInt8) : Nat → List α → List UInt8
  | _, [] => []
  | i, x :: l => g i x ++ catI g (i + 1) l
theorem catI_snoc {α : Type} (g : Nat → α → List UInt8) : ∀ (l : List α) (i : Nat) (x : α), catI g i (l ++ [x]) = catI g i l ++ g (i + l.length) x
  | [], i, x => by simp [catI]
  | y :: l, i, x => by
    show g i y ++ catI g (i + 1) (l ++ [x]) = (g i y ++ catI g (i + 1) l) ++ _
    rw [catI_snoc g l (i + 1) x, List.append_assoc, List.length_cons, show i + 1 + l.length = i + (l.length + 1) by omega]
theorem catI_flat {α : Type} (g : α → List UInt8) : ∀ (l : List α) (i : Nat), catI (fun _ => g) i l = (l.map g).flatten
  | [], _ => rfl
  | x :: l, i => by
    show g x ++ catI (fun _ => g) (i + 1) l = _
    rw [catI_flat g l (i + 1)]
    rfl
theorem catI_congr {α : Type} {g h : Nat → α → List UInt8} : ∀ (l : List α) (i : Nat), (∀ j x, i ≤ j → g j x = h j x) → catI g i l = catI h i l
  | [], _, _ => rfl
  | x :: l, i, e => by
    show g i x ++ _ = h i x ++ _
    rw [e i x (Nat.le_refl _), catI_congr l (i + 1) (fun j x hj => e j x (by omega))]
/-- with a sign between: a join -/
theorem catI_join {α : Type} (s : List UInt8) (g : α → List UInt8) (x : α) (l : List α) : catI (fun i y => if i = 0 then g y else s ++ g y) 0 (x :: l) = Lib.join ((x :: l).map g) s := by
  show g x ++ catI _ 1 l = _
  rw [catI_congr (h := fun _ y => s ++ g y) l 1 (fun j y hj => by rw [if_neg (by omega)]), catI_flat, List.map_cons, Lib.join_cons]
  congr 1
  unfold Lib.joinTail
  rw [List.map_map]
  rfl
theorem catI_len {α : Type} (g : Nat → α → List UInt8) (c : Nat) : ∀ (l : List α) (i : Nat), (∀ j x, l[j]? = some x → (g (i + j) x).length ≤ c) → (catI g i l).length ≤ l.length * c
  | [], _, _ => by simp [catI]
  | x :: l, i, h => by
    have h1 := h 0 x rfl
    have h2 := catI_len g c l (i + 1) (fun j y hj => by have := h (j + 1) y hj; rwa [show i + (j + 1) = i + 1 + j by omega] at this)
    show (g i x ++ catI g (i + 1) l).length ≤ _
    rw [List.length_append, List.length_cons, Nat.succ_mul]
    have h1 : (g i x).length ≤ c := h1
    omega
theorem catI_take {α : Type} (g : Nat → α → List UInt8) (l : List α) (i : Nat) (x : α) (h : l[i]? = some x) : catI g 0 (l.take (i + 1)) = catI g 0 (l.take i) ++ g i x := by
  have hi := (List.getElem?_eq_some_iff.1 h).1
  rw [List.take_add_one, h]
  show catI g 0 (l.take i ++ [x]) = _
  rw [catI_snoc, List.length_take, Nat.min_eq_left (Nat.le_of_lt hi), Nat.zero_add]
/-- a loop that puts more behind a text -/
theorem lp_acc {α X : Type} (l : List α) (g : Nat → α → List UInt8) (c : Nat) (a0 : List UInt8) {f : (ByteArray × Int) → Option ((ByteArray × Int) ⊕ X)} {r : Option X}
    (hg : ∀ i x, l[i]? = some x → (g i x).length ≤ c)
    (h : ∀ (i : Nat) (x : α) (acc : List UInt8), l[i]? = some x → acc.length ≤ a0.length + l.length * c → f (bs acc, (i : Int)) = some (.inl (bs (acc ++ g i x), (i : Int) + 1)))
    (he : lp f (bs (a0 ++ catI g 0 l), (l.length : Int)) = r) : lp f (bs a0, 0) = r := by
  have key : ∀ (k i : Nat), i + k = l.length → lp f (bs (a0 ++ catI g 0 (l.take i)), (i : Int)) = r := by
    intro k
    induction k with
    | zero =>
      intro i hk
      obtain rfl : i = l.length := by omega
      rw [List.take_of_length_le (Nat.le_refl _)]
      exact he
    | succ k ih =>
      intro i hk
      have hi : l[i]? = some l[i] := List.getElem?_eq_getElem (by omega)
      have hlen : (catI g 0 (l.take i)).length ≤ l.length * c := by
        have := catI_len g c (l.take i) 0 (fun j x hj => by
          rw [Nat.zero_add]
          refine hg j x ?_
          rw [List.getElem?_take] at hj
          split at hj
          · exact hj
          · cases hj)
        rw [List.length_take, Nat.min_eq_left (by omega)] at this
        exact Nat.le_trans this (Nat.mul_le_mul_right _ (by omega))
      rw [lp_more (h i _ (a0 ++ catI g 0 (l.take i)) hi (by rw [List.length_append]; omega)), List.append_assoc, ← catI_take g l i _ hi]
      have := ih (i + 1) (by omega)
      simpa using this
  simpa [catI] using key l.length 0 (by omega)
/-! bytes in a builder -/
def i8 (l : List UInt8) : List Int := l.map fun b => (b.toNat : Int)
theorem apS_i8 (a b : List UInt8) (h : a.length + b.length ≤ 140737488355328) : apS_ (i8 a) (bs b) = some (i8 (a ++ b)) := by
  unfold apS_ i8
  rw [if_pos (by rw [List.length_map, bs_size]; exact h), List.map_append]
  rfl
theorem nem_i8 (l : List UInt8) (h : l ≠ []) : nem (i8 l) = some () := by
  cases l with
  | nil => exact absurd rfl h
  | cons x l => rfl
theorem ust_i8 (l : List UInt8) (h : l ≠ []) : ust (i8 l) = some (bs l) := by
  unfold ust
  rw [if_pos]
  · congr 1
    unfold tx bs i8
    rw [List.map_map]
    congr 1
    apply Array.toList_inj.1
    simp only [List.toList_toArray]
    have : ∀ l : List UInt8, l.map ((fun n : Int => UInt8.ofNat n.toNat) ∘ fun b => (b.toNat : Int)) = l := by
      intro l
      induction l with
      | nil => rfl
      | cons x l ih => rw [List.map_cons, ih]; congr 1; simp
    exact this l
  · refine ⟨by cases l with | nil => exact absurd rfl h | cons x l => exact List.cons_ne_nil _ _, ?_⟩
    apply List.all_eq_true.2
    intro z hz
    unfold i8 at hz
    obtain ⟨b, _, rfl⟩ := List.mem_map.1 hz
    have := b.toNat_lt
    rw [Bool.and_eq_true]
    exact ⟨decide_eq_true (by omega), decide_eq_true (by omega)⟩
end Go.Proofs.YthnheieajicpfaaGreatDoor.AP
/- Masks and prefixes, plain. -/
namespace Go.Proofs.YthnheieajicpfaaGreatDoor.AP
open Go
set_option linter.unusedVariables false
set_option linter.unusedSimpArgs false
/-- how many addresses begin with the same n bits -/
def S32 (n : Int) : Int := 2 ^ (32 - n).toNat

theorem S32_pos (n : Int) : 0 < S32 n := Int.pow_pos (by decide)
theorem S32_le (n : Int) (h : 0 ≤ n) : S32 n ≤ 4294967296 := by
  have h1 : (32 - n).toNat ≤ 32 := by omega
  obtain ⟨d, hd⟩ := Nat.exists_eq_add_of_le h1
  have h2 : (4294967296 : Int) = 2 ^ (32 - n).toNat * 2 ^ d := by rw [← Int.pow_add, ← hd]; decide
  have h3 : (1 : Int) ≤ 2 ^ d := by have : (0 : Int) < 2 ^ d := Int.pow_pos (by decide); omega
  have h4 : (0 : Int) < 2 ^ (32 - n).toNat := Int.pow_pos (by decide)
  unfold S32
  rw [h2]
  have := Int.mul_le_mul_of_nonneg_left h3 (Int.le_of_lt h4)
  omega
theorem S32_dvd {m n : Int} (h : n ≤ m) : ∃ c, 0 < c ∧ S32 n = S32 m * c := by
  have h1 : (32 - m).toNat ≤ (32 - n).toNat := by omega
  obtain ⟨d, hd⟩ := Nat.exists_eq_add_of_le h1
  refine ⟨2 ^ d, Int.pow_pos (by decide), ?_⟩
  unfold S32
  rw [hd, Int.pow_add]
theorem S32_nat (n : Int) : S32 n = ((2 ^ (32 - n).toNat : Nat) : Int) := by unfold S32; simp

/-- the highest bits of a, by a mask -/
theorem and_mask (a k : Nat) (ha : a < 2 ^ 32) (hk : k ≤ 32) : a &&& (2 ^ 32 - 2 ^ k) = a / 2 ^ k * 2 ^ k := by
  apply Nat.eq_of_testBit_eq
  intro i
  have hp : 0 < 2 ^ k := Nat.two_pow_pos k
  have hlt : 2 ^ k - 1 < 2 ^ 32 := by have := Nat.pow_le_pow_right (show 0 < 2 by omega) hk; omega
  have e : 2 ^ 32 - 2 ^ k = 2 ^ 32 - ((2 ^ k - 1) + 1) := by congr 1; omega
  rw [Nat.testBit_and, e, Nat.testBit_two_pow_sub_succ hlt, Nat.testBit_two_pow_sub_one, Nat.mul_comm, Nat.testBit_two_pow_mul]
  by_cases hi : i < k
  · have h1 : ¬ (i ≥ k) := by omega
    simp [hi, h1]
  · have h1 : i ≥ k := by omega
    rw [Nat.testBit_div_two_pow, show i - k + k = i by omega]
    by_cases h32 : i < 32
    · simp [hi, h1, h32]
    · have : a.testBit i = false := Nat.testBit_lt_two_pow (Nat.lt_of_lt_of_le ha (Nat.pow_le_pow_right (by omega) (by omega)))
      simp [this]

theorem bits_and_mask (a n : Int) (ha0 : 0 ≤ a) (ha : a < 4294967296) (h0 : 0 ≤ n) (h1 : n ≤ 32) : Go.bits .and .u32 a (4294967296 - S32 n) = a / S32 n * S32 n := by
  have hS := S32_le n h0
  have hp := S32_pos n
  rw [u32_and a _ ha0 ha (by omega) (by omega)]
  obtain ⟨x, rfl⟩ := Int.eq_ofNat_of_zero_le ha0
  have e2 : (4294967296 - S32 n).toNat = 2 ^ 32 - 2 ^ (32 - n).toNat := by
    rw [S32_nat] at hS hp ⊢; omega
  rw [e2, Int.toNat_natCast, and_mask x _ (by omega) (by omega), S32_nat]
  simp
theorem bits_andNot_mask (a n : Int) (ha0 : 0 ≤ a) (ha : a < 4294967296) (h0 : 0 ≤ n) : Go.bits .andNot .u32 a (4294967296 - S32 n) = a % S32 n := by
  have hS := S32_le n h0
  have hp := S32_pos n
  rw [u32_andNot a _ ha0 ha (by omega) (by omega)]
  obtain ⟨x, rfl⟩ := Int.eq_ofNat_of_zero_le ha0
  have e2 : 4294967295 - (4294967296 - S32 n).toNat = 2 ^ (32 - n).toNat - 1 := by
    rw [S32_nat] at hS hp ⊢; omega
  rw [e2, Int.toNat_natCast, Nat.and_two_pow_sub_one_eq_mod, S32_nat]
  simp

theorem mask_eq (n : Int) (h0 : 0 ≤ n) (h1 : n ≤ 32) : m_addr_Mask n = some (4294967296 - S32 n) := by
  have key : ∀ m : Int, 0 ≤ m → m ≤ 32 → (IntKind.u64.wrap (4294967295 * 2 ^ (min (32 - m).toNat IntKind.u64.bits))) % 4294967296 = 4294967296 - S32 m := by
    intro m h0 h1
    have h2 : m = 0 ∨ m = 1 ∨ m = 2 ∨ m = 3 ∨ m = 4 ∨ m = 5 ∨ m = 6 ∨ m = 7 ∨ m = 8 ∨ m = 9 ∨ m = 10 ∨ m = 11 ∨ m = 12 ∨ m = 13 ∨ m = 14 ∨ m = 15 ∨ m = 16 ∨ m = 17 ∨ m = 18 ∨ m = 19 ∨ m = 20 ∨ m = 21 ∨ m = 22 ∨ m = 23 ∨ m = 24 ∨ m = 25 ∨ m = 26 ∨ m = 27 ∨ m = 28 ∨ m = 29 ∨ m = 30 ∨ m = 31 ∨ m = 32 := by omega
    unfold S32
    rcases h2 with rfl | rfl | rfl | rfl | rfl | rfl | rfl | rfl | rfl | rfl | rfl | rfl | rfl | rfl | rfl | rfl | rfl | rfl | rfl | rfl | rfl | rfl | rfl | rfl | rfl | rfl | rfl | rfl | rfl | rfl | rfl | rfl | rfl <;> decide
  unfold m_addr_Mask
  rw [Int.max_eq_left h0, Int.min_eq_left h1, wi64_eq (by omega) (by omega)]
  unfold sh
  rw [if_pos (by omega), bd_some, wu32_mod, key n h0 h1]
/-- may a prefix be? -/
def mayP (p : D_api_Prefix) : Bool := decide (0 ≤ p.2) && decide (p.2 ≤ 32) && decide (p.1 % S32 p.2 = 0)
theorem may_eq (p : D_api_Prefix) (h0 : 0 ≤ p.1) (h1 : p.1 < 4294967296) : m_addr_May p = some (mayP p) := by
  unfold m_addr_May mayP
  by_cases a : 0 ≤ p.2
  · by_cases b : p.2 ≤ 32
    · rw [if_pos (decide_eq_true a), if_pos (decide_eq_true b), mask_eq _ a b, bd_some, lt_eq, bits_andNot_mask p.1 p.2 h0 h1 a]
      simp [a, b]
    · rw [if_pos (decide_eq_true a), if_neg (by simpa using b)]
      simp [a, b]
  · rw [if_neg (by simpa using a)]
    simp [a]
theorem size_loop : ∀ (n j : Nat), n + j ≤ 32 → lp m_triviumref18_Size_l1 ((2 : Int) ^ j, 32 - (n : Int)) = some ((2 : Int) ^ (j + n))
  | 0, j, h => lp_done (by simp [m_triviumref18_Size_l1])
  | n + 1, j, h => by
    have hp : (2 : Int) ^ (j + 1) ≤ 2 ^ 32 := Tri.pow_mono (by decide) (by omega)
    have h0 : (0 : Int) < 2 ^ (j + 1) := Int.pow_pos (by decide)
    have e1 : wu64 (2 * 2 ^ j) = 2 ^ (j + 1) := by rw [Int.pow_succ, Int.mul_comm] at *; exact wu64_eq (by omega) (by omega)
    have e2 : wi64 (32 - ((n + 1 : Nat) : Int) + 1) = 32 - (n : Int) := by rw [wi64_eq (by omega) (by omega)]; omega
    rw [lp_more (s' := ((2 : Int) ^ (j + 1), 32 - (n : Int))) (by
      simp only [m_triviumref18_Size_l1, decide_eq_true (show 32 - ((n + 1 : Nat) : Int) < 32 by omega), if_true, e1, e2])]
    rw [size_loop n (j + 1) (by omega)]
    congr 2; omega
theorem size_eq (n : Int) (h0 : 0 ≤ n) (h1 : n ≤ 32) : m_triviumref18_Size n = some (S32 n) := by
  have := size_loop (32 - n).toNat 0 (by omega)
  unfold m_triviumref18_Size
  rw [show (1 : Int) = 2 ^ 0 from rfl, show n = 32 - ((32 - n).toNat : Int) by omega, this, bd_some]
  unfold S32
  congr 2; omega
theorem refMay_eq (p : D_api_Prefix) (h0 : 0 ≤ p.1) (h1 : p.1 < 4294967296) : m_triviumref18_May p = some (mayP p) := by
  unfold m_triviumref18_May mayP
  by_cases a : 0 ≤ p.2
  · by_cases b : p.2 ≤ 32
    · have := S32_pos p.2
      rw [if_pos (decide_eq_true a), if_pos (decide_eq_true b), size_eq _ a b, bd_some, wu64_eq h0 (by omega), rm_of h0 this, bd_some]
      simp [a, b]
    · rw [if_pos (decide_eq_true a), if_neg (by simpa using b)]
      simp [a, b]
  · rw [if_neg (by simpa using a)]
    simp [a]
end Go.Proofs.YthnheieajicpfaaGreatDoor.AP
