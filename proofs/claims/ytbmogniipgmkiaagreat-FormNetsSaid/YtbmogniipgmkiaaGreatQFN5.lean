/- From a law's contract to its row: how what is handed in reads. -/
import Derived.Test.YtbmogniipgmkiaaGreatQFN4
import Derived.Test.YtbmogniipgmkiaaGreatQFN1
import Derived.WalkKit
import Derived.ProofKit
import Derived.OpenShut
import Derived.ShutString
import Derived.ChangeOld
import Derived.Lib.SmallJoins
import Derived.Lay
/- The code comes to the printed functions (printed by a program of ours). -/
namespace Go.Proofs.YtbmogniipgmkiaaGreat.AE
open Go Go.RowKit Go.Proofs.YtbmogniipgmkiaaGreat.AP
set_option linter.unusedVariables false
set_option maxRecDepth 20000
theorem k_slices_ContainsFunc_api_Link_api_Link__formed_partsRight_1 {p0 : (List D_api_Link)} {y : Bool} (h : m_slices_ContainsFunc_api_Link_api_Link__formed_partsRight_1 p0 = some y) : Spec Tryz.prog 72 [(.v (.sl Y_api_Link) p0), (.fn 74 [])] (.v .bool y) [] := by
  rw [m_slices_ContainsFunc_api_Link_api_Link__formed_partsRight_1] at h
  refine enterN [(.v (.sl Y_api_Link) p0), (.fn 74 [])] 9 Tryz.func72 rfl rfl rfl ?_
  refine T.seq ?_
  refine T.region ?_
  refine Run.go (Ev.assign rfl rfl) ?_
  refine Run.nil ?_
  refine T.seq ?_
  refine T.region ?_
  refine Run.go (Ev.move rfl rfl) ?_
  refine Run.go (Ev.move rfl rfl) ?_
  obtain ⟨x1, e2, h⟩ := bdS h
  refine Run.go (Ev.callC en26 (k_slices_IndexFunc_api_Link_api_Link__formed_partsRight_1 e2) rfl (.cons .v (.cons (.fn rfl) .nil)) rfl rfl) ?_
  refine Run.go (Ev.int rfl rfl rfl rfl trivial) ?_
  refine Run.go (Ev.assign rfl rfl) ?_
  refine Run.nil ?_
  refine T.ret ?_
  cases h
  exact Fin.one rfl .v
theorem en49 : Enters Tryz.prog 49 := ⟨_, Tryz.func49, rfl, rfl⟩
theorem k_formed_partsRight {p0 : D_api_Net} {y : Bool} (h : m_formed_partsRight p0 = some y) : Spec Tryz.prog 49 [(.v Y_api_Net p0)] (.v .bool y) [] := by
  rw [m_formed_partsRight] at h
  refine enterN [(.v Y_api_Net p0)] 7 Tryz.func49 rfl rfl rfl ?_
  refine T.seq ?_
  refine T.region ?_
  refine Run.go (Ev.box 1 rfl rfl rfl rfl) ?_
  refine Run.go (Ev.assign rfl rfl) ?_
  refine Run.nil ?_
  refine T.seq ?_
  refine T.region ?_
  refine Run.go (Ev.fieldBox X rfl rfl rfl rfl rfl) ?_
  refine Run.go (Ev.loadCell X rfl rfl rfl rfl rfl rfl) ?_
  obtain ⟨x1, e2, h⟩ := bdS h
  refine Run.go (Ev.callC en72 (k_slices_ContainsFunc_api_Link_api_Link__formed_partsRight_1 e2) rfl (.cons .v (.cons (.fn rfl) .nil)) rfl rfl) ?_
  refine Run.go (Ev.not rfl rfl) ?_
  refine Run.go (Ev.assign rfl rfl) ?_
  refine Run.nil ?_
  refine T.ret ?_
  cases h
  exact Fin.one rfl .v
theorem en50 : Enters Tryz.prog 50 := ⟨_, Tryz.func50, rfl, rfl⟩
theorem k_formed_rulesRight {p0 : D_api_Net} {y : Bool} (h : m_formed_rulesRight p0 = some y) : Spec Tryz.prog 50 [(.v Y_api_Net p0)] (.v .bool y) [] := by
  rw [m_formed_rulesRight] at h
  refine enterN [(.v Y_api_Net p0)] 45 Tryz.func50 rfl rfl rfl ?_
  refine T.seq ?_
  refine T.region ?_
  refine Run.go (Ev.box 1 rfl rfl rfl rfl) ?_
  refine Run.go (Ev.assign rfl rfl) ?_
  refine Run.nil ?_
  refine T.seq ?_
  refine T.region ?_
  refine Run.go (Ev.e_mkmap 2 Y_formed_key .bool rfl rfl) ?_
  refine Run.go (Ev.assign rfl rfl) ?_
  refine Run.nil ?_
  refine T.seq ?_
  refine T.seq ?_
  refine T.region ?_
  refine Run.go (Ev.fieldBox X rfl rfl rfl rfl rfl) ?_
  refine Run.go (Ev.loadCell X rfl rfl rfl rfl rfl rfl) ?_
  refine Run.go (Ev.len X rfl rfl rfl rfl) ?_
  refine Run.go (Ev.move rfl rfl) ?_
  refine Run.nil ?_
  refine T.block ?_
  refine T.loop (LoopT.ghost (Ghost.only [(1, 1), (2, 2)] [1, 3, 11, 12, 13] rfl) (LoopT.run (fun q : Int × (List (D_formed_key × Bool)) => (⟨[(1, .box 1 0), (3, .mp 2), (11, .v (.sl Y_api_Rule) p0.2.2.2), (12, .v (.int .i64) ((p0.2.2.2.length : Int) : Int)), (13, .v (.int .i64) q.1)], [(1, .box [.v .str p0.1, .v (.sl Y_api_Node) p0.2.1, .v (.sl Y_api_Link) p0.2.2.1, .v (.sl Y_api_Rule) p0.2.2.2]), (2, .map Y_formed_key .bool q.2)], 45⟩ : St)) (fun q z1 h hz1 => ?_) h))
  obtain ⟨v1, v2⟩ := q
  dsimp only
  rw [m_formed_rulesRight_l1] at h
  refine T.seq ?_
  refine T.region ?_
  refine Run.go (Ev.int rfl rfl rfl rfl trivial) ?_
  refine Run.nil ?_
  refine T.seq ?_
  refine T.cond rfl (fun hb3 => ?_) (fun hb3 => ?_)
  · replace h := ifT hb3 h
    refine T.skip ?_
    refine T.seq ?_
    refine T.block ?_
    refine T.seq ?_
    refine T.region ?_
    obtain ⟨x4, e5, h⟩ := bdS h
    refine Run.go (Ev.e_rd X e5 rfl rfl rfl rfl) ?_
    refine Run.go (Ev.load X rfl rfl rfl) ?_
    refine Run.go (Ev.allocN X 19 rfl rfl rfl) ?_
    refine Run.do_ (Ev.storeBox X rfl rfl rfl rfl rfl rfl rfl) ?_
    refine Run.nil ?_
    refine T.seq ?_
    refine T.region ?_
    refine Run.go (Ev.fieldBox X rfl rfl rfl rfl rfl) ?_
    refine Run.go (Ev.loadCell X rfl rfl rfl rfl rfl rfl) ?_
    refine Run.go (Ev.fieldBox X rfl rfl rfl rfl rfl) ?_
    refine Run.go (Ev.loadBox X rfl rfl rfl rfl rfl) ?_
    refine Run.go (Ev.struct X pl123 rfl rfl rfl rfl rfl rfl rfl rfl) ?_
    refine Run.go (Ev.allocN X 20 rfl rfl rfl) ?_
    refine Run.do_ (Ev.storeBox X rfl rfl rfl rfl rfl rfl rfl) ?_
    refine Run.nil ?_
    refine T.seq ?_
    refine T.seq ?_
    refine T.region ?_
    refine Run.go (Ev.loadBox X rfl rfl rfl rfl rfl) ?_
    refine Run.go (Ev.fieldBox X rfl rfl rfl rfl rfl) ?_
    refine Run.go (Ev.loadCell X rfl rfl rfl rfl rfl rfl) ?_
    obtain ⟨x6, e7, h⟩ := bdS h
    refine Run.go (Ev.callC en8 (k_formed_Node e7) rfl (.cons .v (.cons .v .nil)) rfl rfl) ?_
    refine Run.go (Ev.move rfl rfl) ?_
    refine Run.go (Ev.extract rfl rfl rfl) ?_
    refine Run.go (Ev.extract rfl rfl rfl) ?_
    refine Run.go (Ev.assign rfl rfl) ?_
    refine Run.go (Ev.assign rfl rfl) ?_
    refine Run.nil ?_
    obtain ⟨v8, hv, h⟩ := bdS h
    refine T.cut (fun _ : Unit => (⟨[(1, .box 1 0), (3, .mp 2), (6, .box 20 0), (11, .v (.sl Y_api_Rule) p0.2.2.2), (12, .v (.int .i64) ((p0.2.2.2.length : Int) : Int)), (13, .v (.int .i64) v1), (41, .v .bool v8)], [(1, .box [.v .str p0.1, .v (.sl Y_api_Node) p0.2.1, .v (.sl Y_api_Link) p0.2.2.1, .v (.sl Y_api_Rule) p0.2.2.2]), (2, .map Y_formed_key .bool v2), (20, .box [.v .str x4.1, .v (.int .u32) x4.2.1.1, .v (.int .i64) x4.2.1.2])], 45⟩ : St)) (fun _ => True) ?_ (fun _ _ => ?_)
    · replace h := hv
      clear hv
      refine T.region ?_
      refine Run.go (Ev.move rfl rfl) ?_
      refine Run.go (Ev.not rfl rfl) ?_
      refine Run.go (Ev.move rfl rfl) ?_
      rcases boolCases (!x6.2) with hb9 | hb9
      · replace h := ifT hb9 h
        refine Run.offT rfl rfl rfl rfl hb9 ?_
        refine Run.offT rfl rfl rfl rfl hb9 ?_
        refine Run.offT rfl rfl rfl rfl hb9 ?_
        refine Run.offT rfl rfl rfl rfl hb9 ?_
        refine Run.go (Ev.pickT rfl hb9 rfl rfl) ?_
        refine Run.go (Ev.move rfl rfl) ?_
        refine Run.offT rfl rfl rfl rfl rfl ?_
        refine Run.offT rfl rfl rfl rfl rfl ?_
        refine Run.offT rfl rfl rfl rfl rfl ?_
        refine Run.go (Ev.pickT rfl rfl rfl rfl) ?_
        refine Run.nil ?_
        cases h
        exact ⟨(), trivial, Ghost.only [(1, 1), (2, 2), (20, 20)] [1, 3, 6, 11, 12, 13, 41] rfl⟩
      · replace h := ifF hb9 h
        refine Run.on rfl rfl rfl hb9 (Ev.fieldBox X rfl rfl rfl rfl rfl) ?_
        refine Run.on rfl rfl rfl hb9 (Ev.loadBox X rfl rfl rfl rfl rfl) ?_
        obtain ⟨x10, e11, h⟩ := bdS h
        refine Run.on rfl rfl rfl hb9 (Ev.callC en34 (k_addr_May e11) rfl (.cons .v .nil) rfl rfl) ?_
        refine Run.on rfl rfl rfl hb9 (Ev.not rfl rfl) ?_
        refine Run.go (Ev.pickF rfl hb9 rfl rfl) ?_
        refine Run.go (Ev.move rfl rfl) ?_
        rcases boolCases (!x10) with hb12 | hb12
        · replace h := ifT hb12 h
          refine Run.offT rfl rfl rfl rfl hb12 ?_
          refine Run.offT rfl rfl rfl rfl hb12 ?_
          refine Run.offT rfl rfl rfl rfl hb12 ?_
          refine Run.go (Ev.pickT rfl hb12 rfl rfl) ?_
          refine Run.nil ?_
          cases h
          exact ⟨(), trivial, Ghost.only [(1, 1), (2, 2), (20, 20)] [1, 3, 6, 11, 12, 13, 41] rfl⟩
        · replace h := ifF hb12 h
          refine Run.on rfl rfl rfl hb12 (Ev.move rfl rfl) ?_
          refine Run.on rfl rfl rfl hb12 (Ev.loadBox X rfl rfl rfl rfl rfl) ?_
          refine Run.on rfl rfl rfl hb12 (Ev.e_mget mt121 rfl rfl rfl rfl) ?_
          refine Run.go (Ev.pickF rfl hb12 rfl rfl) ?_
          refine Run.nil ?_
          cases h
          exact ⟨(), trivial, Ghost.only [(1, 1), (2, 2), (20, 20)] [1, 3, 6, 11, 12, 13, 41] rfl⟩
    · refine T.cond rfl (fun hb13 => ?_) (fun hb13 => ?_)
      · replace h := ifT hb13 h
        refine T.seq ?_
        refine T.region ?_
        refine Run.go (Ev.assign rfl rfl) ?_
        refine Run.nil ?_
        refine T.ret ?_
        cases h
        cases hz1
        exact Fin.one rfl .v
      · replace h := ifF hb13 h
        refine T.skip ?_
        refine T.region ?_
        refine Run.go (Ev.move rfl rfl) ?_
        refine Run.go (Ev.loadBox X rfl rfl rfl rfl rfl) ?_
        obtain ⟨x14, e15, h⟩ := ltS h
        refine Run.do_ (Ev.asM (Ev.e_mput mt121 rfl rfl rfl rfl rfl) e15) ?_
        refine Run.nil ?_
        refine T.region ?_
        refine Run.go (Ev.int rfl rfl rfl rfl trivial) ?_
        refine Run.go (Ev.move rfl rfl) ?_
        refine Run.nil ?_
        cases h
        exact LoopT.ghost (Ghost.only [(1, 1), (2, 2)] [1, 3, 11, 12, 13] rfl) hz1
  · replace h := ifF hb3 h
    refine T.exit ?_
    refine T.seq ?_
    refine T.region ?_
    refine Run.go (Ev.assign rfl rfl) ?_
    refine Run.nil ?_
    refine T.ret ?_
    cases h
    cases hz1
    exact Fin.one rfl .v
theorem en80 : Enters Tryz.prog 80 := ⟨_, Tryz.func80, rfl, rfl⟩
theorem k_formed_groupsRight_1 {p0 : (List D_api_Hop)} {y : Bool} (h : m_formed_groupsRight_1 p0 = some y) : Spec Tryz.prog 80 [(.v (.sl Y_api_Hop) p0)] (.v .bool y) [] := by
  rw [m_formed_groupsRight_1] at h
  refine enterN [(.v (.sl Y_api_Hop) p0)] 6 Tryz.func80 rfl rfl rfl ?_
  refine T.seq ?_
  refine T.region ?_
  refine Run.go (Ev.assign rfl rfl) ?_
  refine Run.nil ?_
  refine T.seq ?_
  refine T.region ?_
  refine Run.go (Ev.move rfl rfl) ?_
  refine Run.go (Ev.len X rfl rfl rfl rfl) ?_
  refine Run.go (Ev.int rfl rfl rfl rfl trivial) ?_
  refine Run.go (Ev.assign rfl rfl) ?_
  refine Run.nil ?_
  refine T.ret ?_
  cases h
  exact Fin.one rfl .v
theorem en105 : Enters Tryz.prog 105 := ⟨_, Tryz.func105, rfl, rfl⟩
theorem k_slices_IndexFunc_api_Hop_api_Hop__formed_groupsRight_1 {p0 : (List (List D_api_Hop))} {y : Int} (h : m_slices_IndexFunc_api_Hop_api_Hop__formed_groupsRight_1 p0 = some y) : Spec Tryz.prog 105 [(.v (.sl (.sl Y_api_Hop)) p0), (.fn 80 [])] (.v (.int .i64) y) [] := by
  rw [m_slices_IndexFunc_api_Hop_api_Hop__formed_groupsRight_1] at h
  refine enterN [(.v (.sl (.sl Y_api_Hop)) p0), (.fn 80 [])] 19 Tryz.func105 rfl rfl rfl ?_
  refine T.seq ?_
  refine T.region ?_
  refine Run.go (Ev.assign rfl rfl) ?_
  refine Run.nil ?_
  refine T.seq ?_
  refine T.seq ?_
  refine T.region ?_
  refine Run.go (Ev.move rfl rfl) ?_
  refine Run.go (Ev.len X rfl rfl rfl rfl) ?_
  refine Run.go (Ev.move rfl rfl) ?_
  refine Run.nil ?_
  refine T.block ?_
  refine T.loop (LoopT.ghost (Ghost.only [] [0, 1, 7, 8] rfl) (LoopT.run (fun q : Int => (⟨[(0, .v (.sl (.sl Y_api_Hop)) p0), (1, .fn 80 []), (7, .v (.int .i64) ((p0.length : Int) : Int)), (8, .v (.int .i64) q)], [], 19⟩ : St)) (fun v1 z1 h hz1 => ?_) h))
  rw [m_slices_IndexFunc_api_Hop_api_Hop__formed_groupsRight_1_l1] at h
  refine T.seq ?_
  refine T.region ?_
  refine Run.go (Ev.int rfl rfl rfl rfl trivial) ?_
  refine Run.nil ?_
  refine T.seq ?_
  refine T.cond rfl (fun hb2 => ?_) (fun hb2 => ?_)
  · replace h := ifT hb2 h
    refine T.skip ?_
    refine T.seq ?_
    refine T.block ?_
    refine T.seq ?_
    refine T.region ?_
    refine Run.go (Ev.move rfl rfl) ?_
    refine Run.go (Ev.assign rfl rfl) ?_
    refine Run.nil ?_
    refine T.seq ?_
    refine T.region ?_
    refine Run.go (Ev.move rfl rfl) ?_
    refine Run.go (Ev.move rfl rfl) ?_
    refine Run.go (Ev.move rfl rfl) ?_
    obtain ⟨x3, e4, h⟩ := bdS h
    refine Run.go (Ev.e_rd X e4 rfl rfl rfl rfl) ?_
    refine Run.go (Ev.load X rfl rfl rfl) ?_
    obtain ⟨x5, e6, h⟩ := bdS h
    refine Run.go (Ev.callC en80 (k_formed_groupsRight_1 e6) rfl (.cons .v .nil) rfl rfl) ?_
    refine Run.nil ?_
    refine T.cond rfl (fun hb7 => ?_) (fun hb7 => ?_)
    · replace h := ifT hb7 h
      refine T.seq ?_
      refine T.region ?_
      refine Run.go (Ev.move rfl rfl) ?_
      refine Run.go (Ev.assign rfl rfl) ?_
      refine Run.nil ?_
      refine T.ret ?_
      cases h
      cases hz1
      exact Fin.one rfl .v
    · replace h := ifF hb7 h
      refine T.skip ?_
      refine T.region ?_
      refine Run.go (Ev.int rfl rfl rfl rfl trivial) ?_
      refine Run.go (Ev.move rfl rfl) ?_
      refine Run.nil ?_
      cases h
      exact LoopT.ghost (Ghost.only [] [0, 1, 7, 8] rfl) hz1
  · replace h := ifF hb2 h
    refine T.exit ?_
    refine T.seq ?_
    refine T.region ?_
    refine Run.go (Ev.assign rfl rfl) ?_
    refine Run.nil ?_
    refine T.ret ?_
    cases h
    cases hz1
    exact Fin.one rfl .v
theorem en79 : Enters Tryz.prog 79 := ⟨_, Tryz.func79, rfl, rfl⟩
theorem k_slices_ContainsFunc_api_Hop_api_Hop__formed_groupsRight_1 {p0 : (List (List D_api_Hop))} {y : Bool} (h : m_slices_ContainsFunc_api_Hop_api_Hop__formed_groupsRight_1 p0 = some y) : Spec Tryz.prog 79 [(.v (.sl (.sl Y_api_Hop)) p0), (.fn 80 [])] (.v .bool y) [] := by
  rw [m_slices_ContainsFunc_api_Hop_api_Hop__formed_groupsRight_1] at h
  refine enterN [(.v (.sl (.sl Y_api_Hop)) p0), (.fn 80 [])] 9 Tryz.func79 rfl rfl rfl ?_
  refine T.seq ?_
  refine T.region ?_
  refine Run.go (Ev.assign rfl rfl) ?_
  refine Run.nil ?_
  refine T.seq ?_
  refine T.region ?_
  refine Run.go (Ev.move rfl rfl) ?_
  refine Run.go (Ev.move rfl rfl) ?_
  obtain ⟨x1, e2, h⟩ := bdS h
  refine Run.go (Ev.callC en105 (k_slices_IndexFunc_api_Hop_api_Hop__formed_groupsRight_1 e2) rfl (.cons .v (.cons (.fn rfl) .nil)) rfl rfl) ?_
  refine Run.go (Ev.int rfl rfl rfl rfl trivial) ?_
  refine Run.go (Ev.assign rfl rfl) ?_
  refine Run.nil ?_
  refine T.ret ?_
  cases h
  exact Fin.one rfl .v
theorem en51 : Enters Tryz.prog 51 := ⟨_, Tryz.func51, rfl, rfl⟩
theorem k_formed_groupsRight {p0 : D_api_Net} {y : Bool} (h : m_formed_groupsRight p0 = some y) : Spec Tryz.prog 51 [(.v Y_api_Net p0)] (.v .bool y) [] := by
  rw [m_formed_groupsRight] at h
  refine enterN [(.v Y_api_Net p0)] 25 Tryz.func51 rfl rfl rfl ?_
  refine T.seq ?_
  refine T.region ?_
  refine Run.go (Ev.box 1 rfl rfl rfl rfl) ?_
  refine Run.go (Ev.assign rfl rfl) ?_
  refine Run.nil ?_
  refine T.seq ?_
  refine T.seq ?_
  refine T.region ?_
  refine Run.go (Ev.fieldBox X rfl rfl rfl rfl rfl) ?_
  refine Run.go (Ev.loadCell X rfl rfl rfl rfl rfl rfl) ?_
  refine Run.go (Ev.len X rfl rfl rfl rfl) ?_
  refine Run.go (Ev.move rfl rfl) ?_
  refine Run.nil ?_
  refine T.block ?_
  refine T.loop (LoopT.ghost (Ghost.only [] [6, 7, 8] rfl) (LoopT.run (fun q : Int => (⟨[(6, .v (.sl Y_api_Rule) p0.2.2.2), (7, .v (.int .i64) ((p0.2.2.2.length : Int) : Int)), (8, .v (.int .i64) q)], [], 25⟩ : St)) (fun v1 z1 h hz1 => ?_) h))
  rw [m_formed_groupsRight_l1] at h
  refine T.seq ?_
  refine T.region ?_
  refine Run.go (Ev.int rfl rfl rfl rfl trivial) ?_
  refine Run.nil ?_
  refine T.seq ?_
  refine T.cond rfl (fun hb2 => ?_) (fun hb2 => ?_)
  · replace h := ifT hb2 h
    refine T.skip ?_
    refine T.seq ?_
    refine T.block ?_
    refine T.seq ?_
    refine T.region ?_
    obtain ⟨x3, e4, h⟩ := bdS h
    refine Run.go (Ev.e_rd X e4 rfl rfl rfl rfl) ?_
    refine Run.go (Ev.load X rfl rfl rfl) ?_
    refine Run.go (Ev.allocN X 4 rfl rfl rfl) ?_
    refine Run.do_ (Ev.storeBox X rfl rfl rfl rfl rfl rfl rfl) ?_
    refine Run.nil ?_
    obtain ⟨v5, hv, h⟩ := bdS h
    refine T.cut (fun _ : Unit => (⟨[(6, .v (.sl Y_api_Rule) p0.2.2.2), (7, .v (.int .i64) ((p0.2.2.2.length : Int) : Int)), (8, .v (.int .i64) v1), (23, .v .bool v5)], [], 25⟩ : St)) (fun _ => True) ?_ (fun _ _ => ?_)
    · replace h := hv
      clear hv
      refine T.region ?_
      refine Run.go (Ev.fieldBox X rfl rfl rfl rfl rfl) ?_
      refine Run.go (Ev.loadCell X rfl rfl rfl rfl rfl rfl) ?_
      refine Run.go (Ev.fieldBox X rfl rfl rfl rfl rfl) ?_
      refine Run.go (Ev.loadCell X rfl rfl rfl rfl rfl rfl) ?_
      refine Run.go (Ev.len X rfl rfl rfl rfl) ?_
      refine Run.go (Ev.int rfl rfl rfl rfl trivial) ?_
      refine Run.go (Ev.bools X rfl rfl rfl rfl rfl) ?_
      refine Run.go (Ev.move rfl rfl) ?_
      rcases boolCases (!(x3.2.2.1 == (decide ((x3.2.2.2.length : Int) = 0)))) with hb6 | hb6
      · replace h := ifT hb6 h
        refine Run.offT rfl rfl rfl rfl hb6 ?_
        refine Run.offT rfl rfl rfl rfl hb6 ?_
        refine Run.offT rfl rfl rfl rfl hb6 ?_
        refine Run.go (Ev.pickT rfl hb6 rfl rfl) ?_
        refine Run.nil ?_
        cases h
        exact ⟨(), trivial, Ghost.only [] [6, 7, 8, 23] rfl⟩
      · replace h := ifF hb6 h
        refine Run.on rfl rfl rfl hb6 (Ev.fieldBox X rfl rfl rfl rfl rfl) ?_
        refine Run.on rfl rfl rfl hb6 (Ev.loadCell X rfl rfl rfl rfl rfl rfl) ?_
        obtain ⟨x7, e8, h⟩ := bdS h
        refine Run.on rfl rfl rfl hb6 (Ev.callC en79 (k_slices_ContainsFunc_api_Hop_api_Hop__formed_groupsRight_1 e8) rfl (.cons .v (.cons (.fn rfl) .nil)) rfl rfl) ?_
        refine Run.go (Ev.pickF rfl hb6 rfl rfl) ?_
        refine Run.nil ?_
        cases h
        exact ⟨(), trivial, Ghost.only [] [6, 7, 8, 23] rfl⟩
    · refine T.cond rfl (fun hb9 => ?_) (fun hb9 => ?_)
      · replace h := ifT hb9 h
        refine T.seq ?_
        refine T.region ?_
        refine Run.go (Ev.assign rfl rfl) ?_
        refine Run.nil ?_
        refine T.ret ?_
        cases h
        cases hz1
        exact Fin.one rfl .v
      · replace h := ifF hb9 h
        refine T.skip ?_
        refine T.region ?_
        refine Run.go (Ev.int rfl rfl rfl rfl trivial) ?_
        refine Run.go (Ev.move rfl rfl) ?_
        refine Run.nil ?_
        cases h
        exact LoopT.ghost (Ghost.only [] [6, 7, 8] rfl) hz1
  · replace h := ifF hb2 h
    refine T.exit ?_
    refine T.seq ?_
    refine T.region ?_
    refine Run.go (Ev.assign rfl rfl) ?_
    refine Run.nil ?_
    refine T.ret ?_
    cases h
    cases hz1
    exact Fin.one rfl .v
theorem en52 : Enters Tryz.prog 52 := ⟨_, Tryz.func52, rfl, rfl⟩
theorem k_formed_hopsRight {p0 : D_api_Net} {y : Bool} (h : m_formed_hopsRight p0 = some y) : Spec Tryz.prog 52 [(.v Y_api_Net p0)] (.v .bool y) [] := by
  rw [m_formed_hopsRight] at h
  refine enterN [(.v Y_api_Net p0)] 73 Tryz.func52 rfl rfl rfl ?_
  refine T.seq ?_
  refine T.region ?_
  refine Run.go (Ev.box 1 rfl rfl rfl rfl) ?_
  refine Run.go (Ev.assign rfl rfl) ?_
  refine Run.nil ?_
  refine T.seq ?_
  refine T.seq ?_
  refine T.region ?_
  refine Run.go (Ev.fieldBox X rfl rfl rfl rfl rfl) ?_
  refine Run.go (Ev.loadCell X rfl rfl rfl rfl rfl rfl) ?_
  refine Run.go (Ev.len X rfl rfl rfl rfl) ?_
  refine Run.go (Ev.move rfl rfl) ?_
  refine Run.nil ?_
  refine T.block ?_
  refine T.loop (LoopT.ghost (Ghost.only [(1, 1)] [1, 15, 16, 17] rfl) (LoopT.run (fun q : Int => (⟨[(1, .box 1 0), (15, .v (.sl Y_api_Rule) p0.2.2.2), (16, .v (.int .i64) ((p0.2.2.2.length : Int) : Int)), (17, .v (.int .i64) q)], [(1, .box [.v .str p0.1, .v (.sl Y_api_Node) p0.2.1, .v (.sl Y_api_Link) p0.2.2.1, .v (.sl Y_api_Rule) p0.2.2.2])], 73⟩ : St)) (fun v1 z1 h hz1 => ?_) h))
  rw [m_formed_hopsRight_l1] at h
  refine T.seq ?_
  refine T.region ?_
  refine Run.go (Ev.int rfl rfl rfl rfl trivial) ?_
  refine Run.nil ?_
  refine T.seq ?_
  refine T.cond rfl (fun hb2 => ?_) (fun hb2 => ?_)
  · replace h := ifT hb2 h
    refine T.skip ?_
    refine T.seq ?_
    refine T.block ?_
    refine T.seq ?_
    refine T.region ?_
    obtain ⟨x3, e4, h⟩ := bdS h
    refine Run.go (Ev.e_rd X e4 rfl rfl rfl rfl) ?_
    refine Run.go (Ev.load X rfl rfl rfl) ?_
    refine Run.go (Ev.allocN X 199 rfl rfl rfl) ?_
    refine Run.do_ (Ev.storeBox X rfl rfl rfl rfl rfl rfl rfl) ?_
    refine Run.nil ?_
    refine T.seq ?_
    refine T.region ?_
    refine Run.go (Ev.fieldBox X rfl rfl rfl rfl rfl) ?_
    refine Run.go (Ev.loadCell X rfl rfl rfl rfl rfl rfl) ?_
    refine Run.go (Ev.len X rfl rfl rfl rfl) ?_
    refine Run.go (Ev.move rfl rfl) ?_
    refine Run.nil ?_
    refine T.block ?_
    refine T.loop (LoopT.ghost (Ghost.only [(1, 1), (199, 199)] [1, 4, 15, 16, 17, 22, 23, 24] rfl) (LoopT.run (fun q : Int => (⟨[(1, .box 1 0), (4, .box 199 0), (15, .v (.sl Y_api_Rule) p0.2.2.2), (16, .v (.int .i64) ((p0.2.2.2.length : Int) : Int)), (17, .v (.int .i64) v1), (22, .v (.sl (.sl Y_api_Hop)) x3.2.2.2), (23, .v (.int .i64) ((x3.2.2.2.length : Int) : Int)), (24, .v (.int .i64) q)], [(1, .box [.v .str p0.1, .v (.sl Y_api_Node) p0.2.1, .v (.sl Y_api_Link) p0.2.2.1, .v (.sl Y_api_Rule) p0.2.2.2]), (199, .box [.v .str x3.1, .v (.int .u32) x3.2.1.1, .v (.int .i64) x3.2.1.2, .v .bool x3.2.2.1, .v (.sl (.sl Y_api_Hop)) x3.2.2.2])], 73⟩ : St)) (fun v5 z2 h hz2 => ?_) h))
    rw [m_formed_hopsRight_l2] at h
    refine T.seq ?_
    refine T.region ?_
    refine Run.go (Ev.int rfl rfl rfl rfl trivial) ?_
    refine Run.nil ?_
    refine T.seq ?_
    refine T.cond rfl (fun hb6 => ?_) (fun hb6 => ?_)
    · replace h := ifT hb6 h
      refine T.skip ?_
      refine T.seq ?_
      refine T.block ?_
      refine T.seq ?_
      refine T.region ?_
      obtain ⟨x7, e8, h⟩ := bdS h
      refine Run.go (Ev.e_rd X e8 rfl rfl rfl rfl) ?_
      refine Run.go (Ev.load X rfl rfl rfl) ?_
      refine Run.go (Ev.assign rfl rfl) ?_
      refine Run.nil ?_
      refine T.seq ?_
      refine T.region ?_
      refine Run.go (Ev.assign rfl rfl) ?_
      refine Run.nil ?_
      refine T.seq ?_
      refine T.seq ?_
      refine T.region ?_
      refine Run.go (Ev.move rfl rfl) ?_
      refine Run.go (Ev.len X rfl rfl rfl rfl) ?_
      refine Run.go (Ev.move rfl rfl) ?_
      refine Run.nil ?_
      refine T.block ?_
      refine T.loop (LoopT.ghost (Ghost.trans (Ghost.empty 7 288 9 .str rfl rfl) (Ghost.only [(1, 1), (199, 199), (288, 273)] [1, 4, 7, 15, 16, 17, 22, 23, 24, 28, 29, 30] rfl)) (LoopT.run (fun q : Int × (List ByteArray) => (⟨[(1, .box 1 0), (4, .box 199 0), (7, .own 273), (15, .v (.sl Y_api_Rule) p0.2.2.2), (16, .v (.int .i64) ((p0.2.2.2.length : Int) : Int)), (17, .v (.int .i64) v1), (22, .v (.sl (.sl Y_api_Hop)) x3.2.2.2), (23, .v (.int .i64) ((x3.2.2.2.length : Int) : Int)), (24, .v (.int .i64) v5), (28, .v (.sl Y_api_Hop) x7), (29, .v (.int .i64) ((x7.length : Int) : Int)), (30, .v (.int .i64) q.1)], [(1, .box [.v .str p0.1, .v (.sl Y_api_Node) p0.2.1, .v (.sl Y_api_Link) p0.2.2.1, .v (.sl Y_api_Rule) p0.2.2.2]), (199, .box [.v .str x3.1, .v (.int .u32) x3.2.1.1, .v (.int .i64) x3.2.1.2, .v .bool x3.2.2.1, .v (.sl (.sl Y_api_Hop)) x3.2.2.2]), (273, .arr 9 .str q.2)], 73⟩ : St)) (fun q z3 h hz3 => ?_) h))
      obtain ⟨v9, v10⟩ := q
      dsimp only
      rw [m_formed_hopsRight_l3] at h
      refine T.seq ?_
      refine T.region ?_
      refine Run.go (Ev.int rfl rfl rfl rfl trivial) ?_
      refine Run.nil ?_
      refine T.seq ?_
      refine T.cond rfl (fun hb11 => ?_) (fun hb11 => ?_)
      · replace h := ifT hb11 h
        refine T.skip ?_
        refine T.seq ?_
        refine T.block ?_
        refine T.seq ?_
        refine T.region ?_
        obtain ⟨x12, e13, h⟩ := bdS h
        refine Run.go (Ev.e_rd X e13 rfl rfl rfl rfl) ?_
        refine Run.go (Ev.load X rfl rfl rfl) ?_
        refine Run.go (Ev.allocN X 289 rfl rfl rfl) ?_
        refine Run.do_ (Ev.storeBox X rfl rfl rfl rfl rfl rfl rfl) ?_
        refine Run.nil ?_
        refine T.seq ?_
        refine T.region ?_
        refine Run.go (Ev.loadBox X rfl rfl rfl rfl rfl) ?_
        refine Run.go (Ev.fieldBox X rfl rfl rfl rfl rfl) ?_
        refine Run.go (Ev.loadCell X rfl rfl rfl rfl rfl rfl) ?_
        obtain ⟨x14, e15, h⟩ := bdS h
        refine Run.go (Ev.callC en9 (k_formed_Link e15) rfl (.cons .v (.cons .v .nil)) rfl rfl) ?_
        refine Run.go (Ev.move rfl rfl) ?_
        refine Run.go (Ev.extract rfl rfl rfl) ?_
        refine Run.go (Ev.extract rfl rfl rfl) ?_
        refine Run.go (Ev.assign rfl rfl) ?_
        refine Run.go (Ev.assign rfl rfl) ?_
        refine Run.nil ?_
        refine T.seq ?_
        obtain ⟨v16, hv, h⟩ := bdS h
        refine T.cut (fun _ : Unit => (⟨[(1, .box 1 0), (4, .box 199 0), (7, .own 273), (9, .box 289 0), (15, .v (.sl Y_api_Rule) p0.2.2.2), (16, .v (.int .i64) ((p0.2.2.2.length : Int) : Int)), (17, .v (.int .i64) v1), (22, .v (.sl (.sl Y_api_Hop)) x3.2.2.2), (23, .v (.int .i64) ((x3.2.2.2.length : Int) : Int)), (24, .v (.int .i64) v5), (28, .v (.sl Y_api_Hop) x7), (29, .v (.int .i64) ((x7.length : Int) : Int)), (30, .v (.int .i64) v9), (58, .v .bool v16)], [(1, .box [.v .str p0.1, .v (.sl Y_api_Node) p0.2.1, .v (.sl Y_api_Link) p0.2.2.1, .v (.sl Y_api_Rule) p0.2.2.2]), (199, .box [.v .str x3.1, .v (.int .u32) x3.2.1.1, .v (.int .i64) x3.2.1.2, .v .bool x3.2.2.1, .v (.sl (.sl Y_api_Hop)) x3.2.2.2]), (273, .arr 9 .str v10), (289, .box [.v .str x12.1, .v (.int .i64) x12.2])], 73⟩ : St)) (fun _ => True) ?_ (fun _ _ => ?_)
        · replace h := hv
          clear hv
          refine T.drawM [] [0, 1, 3, 7, 15, 7, 63, 127, 255, 7, 519, 2047, 4095, 8191, 16383, 32767, 65535, 131071] (by kernel_rfl) (by kernel_rfl) ?_
          refine RunD.w (fun _ => Ev.move rfl rfl) ?_
          refine RunD.w (fun _ => Ev.not rfl rfl) ?_
          refine RunD.w (fun _ => Ev.move rfl rfl) ?_
          rcases boolCases (!x14.2) with hb17 | hb17
          · replace h := ifT hb17 h
            refine RunD.offT rfl rfl rfl rfl hb17 ?_
            refine RunD.offT rfl rfl rfl rfl hb17 ?_
            refine RunD.offT rfl rfl rfl rfl hb17 ?_
            refine RunD.offT rfl rfl rfl rfl hb17 ?_
            refine RunD.offT rfl rfl rfl rfl hb17 ?_
            refine RunD.offT rfl rfl rfl rfl hb17 ?_
            refine RunD.offT rfl rfl rfl rfl hb17 ?_
            refine RunD.offT rfl rfl rfl rfl hb17 ?_
            refine RunD.offT rfl rfl rfl rfl hb17 ?_
            refine RunD.w (fun _ => Ev.pickT rfl hb17 rfl rfl) ?_
            refine RunD.w (fun _ => Ev.move rfl rfl) ?_
            refine RunD.offT rfl rfl rfl rfl rfl ?_
            refine RunD.offT rfl rfl rfl rfl rfl ?_
            refine RunD.offT rfl rfl rfl rfl rfl ?_
            refine RunD.w (fun _ => Ev.pickT rfl rfl rfl rfl) ?_
            refine RunD.nil ?_
            cases h
            exact ⟨(), trivial, Ghost.only [(1, 1), (199, 199), (273, 273), (289, 289)] [1, 4, 7, 9, 15, 16, 17, 22, 23, 24, 28, 29, 30, 58] rfl⟩
          · replace h := ifF hb17 h
            refine RunD.on rfl rfl rfl hb17 rfl (fun ô hô => by obtain rfl := hô.resolve_left (by decide); exact Ev.fieldBox X rfl rfl rfl rfl rfl) ?_
            refine RunD.on rfl rfl rfl hb17 rfl (fun ô hô => by obtain rfl := hô.resolve_left (by decide); exact Ev.loadCell X rfl rfl rfl rfl rfl rfl) ?_
            refine RunD.on rfl rfl rfl hb17 rfl (fun _ _ => Ev.move rfl rfl) ?_
            obtain ⟨x18, e19, h⟩ := bdS h
            refine RunD.on rfl rfl rfl hb17 rfl (fun ô hô => by obtain rfl := hô.resolve_left (by decide); exact Ev.e_rd X e19 rfl rfl rfl rfl) ?_
            refine RunD.on rfl rfl rfl hb17 rfl (fun ô hô => by obtain rfl := hô.resolve_left (by decide); exact Ev.fieldAddr X rfl rfl rfl rfl) ?_
            refine RunD.on rfl rfl rfl hb17 rfl (fun ô hô => by obtain rfl := hô.resolve_left (by decide); exact Ev.load X rfl rfl rfl) ?_
            refine RunD.on rfl rfl rfl hb17 rfl (fun ô hô => by obtain rfl := hô.resolve_left (by decide); exact Ev.fieldBox X rfl rfl rfl rfl rfl) ?_
            refine RunD.on rfl rfl rfl hb17 rfl (fun ô hô => by obtain rfl := hô.resolve_left (by decide); exact Ev.loadCell X rfl rfl rfl rfl rfl rfl) ?_
            refine RunD.on rfl rfl rfl hb17 rfl (fun _ _ => Ev.strs rfl rfl rfl rfl trivial) ?_
            refine RunD.w (fun _ => Ev.pickF rfl hb17 rfl rfl) ?_
            refine RunD.w (fun _ => Ev.move rfl rfl) ?_
            rcases boolCases (!sq x18.2.1 x3.1) with hb20 | hb20
            · replace h := ifT hb20 h
              refine RunD.offT rfl rfl rfl rfl hb20 ?_
              refine RunD.offT rfl rfl rfl rfl hb20 ?_
              refine RunD.offT rfl rfl rfl rfl hb20 ?_
              refine RunD.w (fun _ => Ev.pickT rfl hb20 rfl rfl) ?_
              refine RunD.nil ?_
              cases h
              exact ⟨(), trivial, Ghost.only [(1, 1), (199, 199), (273, 273), (289, 289)] [1, 4, 7, 9, 15, 16, 17, 22, 23, 24, 28, 29, 30, 58] rfl⟩
            · replace h := ifF hb20 h
              refine RunD.on rfl rfl rfl hb20 rfl (fun ô hô => by obtain rfl := hô.resolve_left (by decide); exact Ev.fieldBox X rfl rfl rfl rfl rfl) ?_
              refine RunD.on rfl rfl rfl hb20 rfl (fun ô hô => by obtain rfl := hô.resolve_left (by decide); exact Ev.loadCell X rfl rfl rfl rfl rfl rfl) ?_
              refine RunD.on rfl rfl rfl hb20 rfl (fun _ _ => Ev.int rfl rfl rfl rfl trivial) ?_
              refine RunD.w (fun _ => Ev.pickF rfl hb20 rfl rfl) ?_
              refine RunD.nil ?_
              cases h
              exact ⟨(), trivial, Ghost.only [(1, 1), (199, 199), (273, 273), (289, 289)] [1, 4, 7, 9, 15, 16, 17, 22, 23, 24, 28, 29, 30, 58] rfl⟩
        · refine T.cond rfl (fun hb21 => ?_) (fun hb21 => ?_)
          · replace h := ifT hb21 h
            refine T.seq ?_
            refine T.region ?_
            refine Run.go (Ev.assign rfl rfl) ?_
            refine Run.nil ?_
            refine T.ret ?_
            cases h
            cases hz3
            cases hz2
            cases hz1
            exact Fin.one rfl .v
          · replace h := ifF hb21 h
            refine T.skip ?_
            refine T.region ?_
            refine Run.go (Ev.move rfl rfl) ?_
            refine Run.go (Ev.fieldBox X rfl rfl rfl rfl rfl) ?_
            refine Run.go (Ev.loadCell X rfl rfl rfl rfl rfl rfl) ?_
            refine Run.go (Ev.build X 294 rfl rfl rfl rfl rfl rfl rfl rfl) ?_
            obtain ⟨x22, e23, h⟩ := bdS h
            refine Run.go (Ev.e_ap X 295 e23 rfl rfl rfl (.own rfl) rfl rfl rfl rfl rfl) ?_
            refine Run.go (Ev.assign rfl rfl) ?_
            refine Run.nil ?_
            refine T.region ?_
            refine Run.go (Ev.int rfl rfl rfl rfl trivial) ?_
            refine Run.go (Ev.move rfl rfl) ?_
            refine Run.nil ?_
            cases h
            exact LoopT.ghost (Ghost.only [(1, 1), (199, 199), (295, 273)] [1, 4, 7, 15, 16, 17, 22, 23, 24, 28, 29, 30] rfl) hz3
      · replace h := ifF hb11 h
        refine T.exit ?_
        refine T.seq ?_
        refine T.region ?_
        refine Run.go (Ev.move rfl rfl) ?_
        obtain ⟨x24, e25, h⟩ := bdS h
        refine Run.go (Ev.lend rfl (.cons (.own rfl) .nil) en44 (k_name_Twice e25) rfl rfl) ?_
        refine Run.go (Ev.move rfl rfl) ?_
        refine Run.go (Ev.extract rfl rfl rfl) ?_
        refine Run.go (Ev.extract rfl rfl rfl) ?_
        refine Run.go (Ev.assign rfl rfl) ?_
        refine Run.go (Ev.assign rfl rfl) ?_
        refine Run.nil ?_
        refine T.seq ?_
        refine T.region ?_
        refine Run.go (Ev.move rfl rfl) ?_
        refine Run.nil ?_
        refine T.cond rfl (fun hb26 => ?_) (fun hb26 => ?_)
        · replace h := ifT hb26 h
          refine T.seq ?_
          refine T.region ?_
          refine Run.go (Ev.assign rfl rfl) ?_
          refine Run.nil ?_
          refine T.ret ?_
          cases h
          cases hz3
          cases hz2
          cases hz1
          exact Fin.one rfl .v
        · replace h := ifF hb26 h
          refine T.skip ?_
          refine T.region ?_
          refine Run.go (Ev.int rfl rfl rfl rfl trivial) ?_
          refine Run.go (Ev.move rfl rfl) ?_
          refine Run.nil ?_
          cases h
          cases hz3
          exact LoopT.ghost (Ghost.only [(1, 1), (199, 199)] [1, 4, 15, 16, 17, 22, 23, 24] rfl) hz2
    · replace h := ifF hb6 h
      refine T.exit ?_
      refine T.region ?_
      refine Run.go (Ev.int rfl rfl rfl rfl trivial) ?_
      refine Run.go (Ev.move rfl rfl) ?_
      refine Run.nil ?_
      cases h
      cases hz2
      exact LoopT.ghost (Ghost.only [(1, 1)] [1, 15, 16, 17] rfl) hz1
  · replace h := ifF hb2 h
    refine T.exit ?_
    refine T.seq ?_
    refine T.region ?_
    refine Run.go (Ev.assign rfl rfl) ?_
    refine Run.nil ?_
    refine T.ret ?_
    cases h
    cases hz1
    exact Fin.one rfl .v
theorem en29 : Enters Tryz.prog 29 := ⟨_, Tryz.func29, rfl, rfl⟩
theorem k_formed_net {p0 : D_api_Net} {y : Int} (h : m_formed_net p0 = some y) : Spec Tryz.prog 29 [(.v Y_api_Net p0)] (.v (.int .i64) y) [] := by
  rw [m_formed_net] at h
  refine enterN [(.v Y_api_Net p0)] 35 Tryz.func29 rfl rfl rfl ?_
  refine T.seq ?_
  refine T.region ?_
  refine Run.go (Ev.box 1 rfl rfl rfl rfl) ?_
  refine Run.go (Ev.assign rfl rfl) ?_
  refine Run.nil ?_
  refine T.seq ?_
  refine T.block ?_
  refine T.seq ?_
  refine T.region ?_
  refine Run.go (Ev.loadBox X rfl rfl rfl rfl rfl) ?_
  obtain ⟨x1, e2, h⟩ := bdS h
  refine Run.go (Ev.callC en45 (k_formed_nodesRight e2) rfl (.cons .v .nil) rfl rfl) ?_
  refine Run.go (Ev.not rfl rfl) ?_
  refine Run.go (Ev.assign rfl rfl) ?_
  refine Run.nil ?_
  refine T.cond rfl (fun hb3 => ?_) (fun hb3 => ?_)
  · replace h := ifT hb3 h
    refine T.seq ?_
    refine T.region ?_
    refine Run.go (Ev.assign rfl rfl) ?_
    refine Run.nil ?_
    refine T.ret ?_
    cases h
    exact Fin.one rfl .v
  · replace h := ifF hb3 h
    refine T.seq ?_
    refine T.region ?_
    refine Run.go (Ev.loadBox X rfl rfl rfl rfl rfl) ?_
    obtain ⟨x4, e5, h⟩ := bdS h
    refine Run.go (Ev.callC en46 (k_formed_homesRight e5) rfl (.cons .v .nil) rfl rfl) ?_
    refine Run.go (Ev.not rfl rfl) ?_
    refine Run.go (Ev.assign rfl rfl) ?_
    refine Run.nil ?_
    refine T.cond rfl (fun hb6 => ?_) (fun hb6 => ?_)
    · replace h := ifT hb6 h
      refine T.seq ?_
      refine T.region ?_
      refine Run.go (Ev.assign rfl rfl) ?_
      refine Run.nil ?_
      refine T.ret ?_
      cases h
      exact Fin.one rfl .v
    · replace h := ifF hb6 h
      refine T.seq ?_
      refine T.region ?_
      refine Run.go (Ev.loadBox X rfl rfl rfl rfl rfl) ?_
      obtain ⟨x7, e8, h⟩ := bdS h
      refine Run.go (Ev.callC en47 (k_formed_linksRight e8) rfl (.cons .v .nil) rfl rfl) ?_
      refine Run.go (Ev.not rfl rfl) ?_
      refine Run.go (Ev.assign rfl rfl) ?_
      refine Run.nil ?_
      refine T.cond rfl (fun hb9 => ?_) (fun hb9 => ?_)
      · replace h := ifT hb9 h
        refine T.seq ?_
        refine T.region ?_
        refine Run.go (Ev.assign rfl rfl) ?_
        refine Run.nil ?_
        refine T.ret ?_
        cases h
        exact Fin.one rfl .v
      · replace h := ifF hb9 h
        refine T.seq ?_
        refine T.region ?_
        refine Run.go (Ev.loadBox X rfl rfl rfl rfl rfl) ?_
        obtain ⟨x10, e11, h⟩ := bdS h
        refine Run.go (Ev.callC en48 (k_formed_endsRight e11) rfl (.cons .v .nil) rfl rfl) ?_
        refine Run.go (Ev.not rfl rfl) ?_
        refine Run.go (Ev.assign rfl rfl) ?_
        refine Run.nil ?_
        refine T.cond rfl (fun hb12 => ?_) (fun hb12 => ?_)
        · replace h := ifT hb12 h
          refine T.seq ?_
          refine T.region ?_
          refine Run.go (Ev.assign rfl rfl) ?_
          refine Run.nil ?_
          refine T.ret ?_
          cases h
          exact Fin.one rfl .v
        · replace h := ifF hb12 h
          refine T.seq ?_
          refine T.region ?_
          refine Run.go (Ev.loadBox X rfl rfl rfl rfl rfl) ?_
          obtain ⟨x13, e14, h⟩ := bdS h
          refine Run.go (Ev.callC en49 (k_formed_partsRight e14) rfl (.cons .v .nil) rfl rfl) ?_
          refine Run.go (Ev.not rfl rfl) ?_
          refine Run.go (Ev.assign rfl rfl) ?_
          refine Run.nil ?_
          refine T.cond rfl (fun hb15 => ?_) (fun hb15 => ?_)
          · replace h := ifT hb15 h
            refine T.seq ?_
            refine T.region ?_
            refine Run.go (Ev.assign rfl rfl) ?_
            refine Run.nil ?_
            refine T.ret ?_
            cases h
            exact Fin.one rfl .v
          · replace h := ifF hb15 h
            refine T.seq ?_
            refine T.region ?_
            refine Run.go (Ev.loadBox X rfl rfl rfl rfl rfl) ?_
            obtain ⟨x16, e17, h⟩ := bdS h
            refine Run.go (Ev.callC en50 (k_formed_rulesRight e17) rfl (.cons .v .nil) rfl rfl) ?_
            refine Run.go (Ev.not rfl rfl) ?_
            refine Run.go (Ev.assign rfl rfl) ?_
            refine Run.nil ?_
            refine T.cond rfl (fun hb18 => ?_) (fun hb18 => ?_)
            · replace h := ifT hb18 h
              refine T.seq ?_
              refine T.region ?_
              refine Run.go (Ev.assign rfl rfl) ?_
              refine Run.nil ?_
              refine T.ret ?_
              cases h
              exact Fin.one rfl .v
            · replace h := ifF hb18 h
              refine T.seq ?_
              refine T.region ?_
              refine Run.go (Ev.loadBox X rfl rfl rfl rfl rfl) ?_
              obtain ⟨x19, e20, h⟩ := bdS h
              refine Run.go (Ev.callC en51 (k_formed_groupsRight e20) rfl (.cons .v .nil) rfl rfl) ?_
              refine Run.go (Ev.not rfl rfl) ?_
              refine Run.go (Ev.assign rfl rfl) ?_
              refine Run.nil ?_
              refine T.cond rfl (fun hb21 => ?_) (fun hb21 => ?_)
              · replace h := ifT hb21 h
                refine T.seq ?_
                refine T.region ?_
                refine Run.go (Ev.assign rfl rfl) ?_
                refine Run.nil ?_
                refine T.ret ?_
                cases h
                exact Fin.one rfl .v
              · replace h := ifF hb21 h
                refine T.seq ?_
                refine T.region ?_
                refine Run.go (Ev.loadBox X rfl rfl rfl rfl rfl) ?_
                obtain ⟨x22, e23, h⟩ := bdS h
                refine Run.go (Ev.callC en52 (k_formed_hopsRight e23) rfl (.cons .v .nil) rfl rfl) ?_
                refine Run.go (Ev.not rfl rfl) ?_
                refine Run.go (Ev.assign rfl rfl) ?_
                refine Run.nil ?_
                refine T.cond rfl (fun hb24 => ?_) (fun hb24 => ?_)
                · replace h := ifT hb24 h
                  refine T.seq ?_
                  refine T.region ?_
                  refine Run.go (Ev.assign rfl rfl) ?_
                  refine Run.nil ?_
                  refine T.ret ?_
                  cases h
                  exact Fin.one rfl .v
                · replace h := ifF hb24 h
                  refine T.skip ?_
                  refine T.seq ?_
                  refine T.region ?_
                  refine Run.go (Ev.assign rfl rfl) ?_
                  refine Run.nil ?_
                  refine T.ret ?_
                  cases h
                  exact Fin.one rfl .v
theorem en12 : Enters Tryz.prog 12 := ⟨_, Tryz.func12, rfl, rfl⟩
theorem k_formed_Nets {p0 : (List D_api_Net)} {y : Int} (h : m_formed_Nets p0 = some y) : Spec Tryz.prog 12 [(.v (.sl Y_api_Net) p0)] (.v (.int .i64) y) [] := by
  rw [m_formed_Nets] at h
  refine enterN [(.v (.sl Y_api_Net) p0)] 36 Tryz.func12 rfl rfl rfl ?_
  refine T.seq ?_
  refine T.region ?_
  refine Run.go (Ev.assign rfl rfl) ?_
  refine Run.nil ?_
  refine T.seq ?_
  refine T.region ?_
  refine Run.go (Ev.assign rfl rfl) ?_
  refine Run.nil ?_
  obtain ⟨v1, hv, h⟩ := bdS h
  refine T.cut (fun _ : Unit => (⟨[(0, .v (.sl Y_api_Net) p0), (3, .own 3)], [(3, .arr 9 .str v1)], 36⟩ : St)) (fun _ => True) ?_ (fun _ _ => ?_)
  · replace h := hv
    clear hv
    refine T.seq ?_
    refine T.region ?_
    refine Run.go (Ev.move rfl rfl) ?_
    refine Run.go (Ev.len X rfl rfl rfl rfl) ?_
    refine Run.go (Ev.move rfl rfl) ?_
    refine Run.nil ?_
    refine T.block ?_
    refine T.loop (LoopT.ghost (Ghost.trans (Ghost.empty 3 24 9 .str rfl rfl) (Ghost.only [(24, 17)] [0, 3, 9, 10, 11] rfl)) (LoopT.run (fun q : Int × (List ByteArray) => (⟨[(0, .v (.sl Y_api_Net) p0), (3, .own 17), (9, .v (.sl Y_api_Net) p0), (10, .v (.int .i64) ((p0.length : Int) : Int)), (11, .v (.int .i64) q.1)], [(17, .arr 9 .str q.2)], 36⟩ : St)) (fun q z1 h hz1 => ?_) h))
    obtain ⟨v2, v3⟩ := q
    dsimp only
    rw [m_formed_Nets_l1] at h
    refine T.seq ?_
    refine T.region ?_
    refine Run.go (Ev.int rfl rfl rfl rfl trivial) ?_
    refine Run.nil ?_
    refine T.seq ?_
    refine T.cond rfl (fun hb4 => ?_) (fun hb4 => ?_)
    · replace h := ifT hb4 h
      refine T.skip ?_
      refine T.seq ?_
      refine T.block ?_
      refine T.seq ?_
      refine T.region ?_
      obtain ⟨x5, e6, h⟩ := bdS h
      refine Run.go (Ev.e_rd X e6 rfl rfl rfl rfl) ?_
      refine Run.go (Ev.load X rfl rfl rfl) ?_
      refine Run.go (Ev.allocN X 25 rfl rfl rfl) ?_
      refine Run.do_ (Ev.storeBox X rfl rfl rfl rfl rfl rfl rfl) ?_
      refine Run.nil ?_
      refine T.region ?_
      refine Run.go (Ev.move rfl rfl) ?_
      refine Run.go (Ev.fieldBox X rfl rfl rfl rfl rfl) ?_
      refine Run.go (Ev.loadCell X rfl rfl rfl rfl rfl rfl) ?_
      refine Run.go (Ev.build X 26 rfl rfl rfl rfl rfl rfl rfl rfl) ?_
      obtain ⟨x7, e8, h⟩ := bdS h
      refine Run.go (Ev.e_ap X 27 e8 rfl rfl rfl (.own rfl) rfl rfl rfl rfl rfl) ?_
      refine Run.go (Ev.assign rfl rfl) ?_
      refine Run.nil ?_
      refine T.region ?_
      refine Run.go (Ev.int rfl rfl rfl rfl trivial) ?_
      refine Run.go (Ev.move rfl rfl) ?_
      refine Run.nil ?_
      cases h
      exact LoopT.ghost (Ghost.only [(27, 17)] [0, 3, 9, 10, 11] rfl) hz1
    · replace h := ifF hb4 h
      refine T.exit ?_
      cases h
      cases hz1
      exact ⟨(), trivial, Ghost.only [(17, 3)] [0, 3] rfl⟩
  · refine T.seq ?_
    refine T.seq ?_
    refine T.region ?_
    refine Run.go (Ev.move rfl rfl) ?_
    obtain ⟨x9, e10, h⟩ := bdS h
    refine Run.go (Ev.lend rfl (.cons (.own rfl) .nil) en28 (k_formed_named e10) rfl rfl) ?_
    refine Run.go (Ev.not rfl rfl) ?_
    refine Run.nil ?_
    refine T.cond rfl (fun hb11 => ?_) (fun hb11 => ?_)
    · replace h := ifT hb11 h
      refine T.seq ?_
      refine T.region ?_
      refine Run.go (Ev.assign rfl rfl) ?_
      refine Run.nil ?_
      refine T.ret ?_
      cases h
      exact Fin.one rfl .v
    · replace h := ifF hb11 h
      refine T.skip ?_
      refine T.seq ?_
      refine T.seq ?_
      refine T.region ?_
      refine Run.go (Ev.move rfl rfl) ?_
      refine Run.go (Ev.len X rfl rfl rfl rfl) ?_
      refine Run.go (Ev.move rfl rfl) ?_
      refine Run.nil ?_
      refine T.block ?_
      refine T.loop (LoopT.ghost (Ghost.only [] [24, 25, 26] rfl) (LoopT.run (fun q : Int => (⟨[(24, .v (.sl Y_api_Net) p0), (25, .v (.int .i64) ((p0.length : Int) : Int)), (26, .v (.int .i64) q)], [], 36⟩ : St)) (fun v12 z1 h hz1 => ?_) h))
      rw [m_formed_Nets_l2] at h
      refine T.seq ?_
      refine T.region ?_
      refine Run.go (Ev.int rfl rfl rfl rfl trivial) ?_
      refine Run.nil ?_
      refine T.seq ?_
      refine T.cond rfl (fun hb13 => ?_) (fun hb13 => ?_)
      · replace h := ifT hb13 h
        refine T.skip ?_
        refine T.seq ?_
        refine T.block ?_
        refine T.seq ?_
        refine T.region ?_
        obtain ⟨x14, e15, h⟩ := bdS h
        refine Run.go (Ev.e_rd X e15 rfl rfl rfl rfl) ?_
        refine Run.go (Ev.load X rfl rfl rfl) ?_
        refine Run.go (Ev.allocN X 30 rfl rfl rfl) ?_
        refine Run.do_ (Ev.storeBox X rfl rfl rfl rfl rfl rfl rfl) ?_
        refine Run.nil ?_
        refine T.seq ?_
        refine T.region ?_
        refine Run.go (Ev.loadBox X rfl rfl rfl rfl rfl) ?_
        obtain ⟨x16, e17, h⟩ := bdS h
        refine Run.go (Ev.callC en29 (k_formed_net e17) rfl (.cons .v .nil) rfl rfl) ?_
        refine Run.go (Ev.assign rfl rfl) ?_
        refine Run.nil ?_
        refine T.seq ?_
        refine T.region ?_
        refine Run.go (Ev.move rfl rfl) ?_
        refine Run.go (Ev.int rfl rfl rfl rfl trivial) ?_
        refine Run.nil ?_
        refine T.cond rfl (fun hb18 => ?_) (fun hb18 => ?_)
        · replace h := ifT hb18 h
          refine T.seq ?_
          refine T.region ?_
          refine Run.go (Ev.move rfl rfl) ?_
          refine Run.go (Ev.assign rfl rfl) ?_
          refine Run.nil ?_
          refine T.ret ?_
          cases h
          cases hz1
          exact Fin.one rfl .v
        · replace h := ifF hb18 h
          refine T.skip ?_
          refine T.region ?_
          refine Run.go (Ev.int rfl rfl rfl rfl trivial) ?_
          refine Run.go (Ev.move rfl rfl) ?_
          refine Run.nil ?_
          cases h
          exact LoopT.ghost (Ghost.only [] [24, 25, 26] rfl) hz1
      · replace h := ifF hb13 h
        refine T.exit ?_
        refine T.seq ?_
        refine T.region ?_
        refine Run.go (Ev.assign rfl rfl) ?_
        refine Run.nil ?_
        refine T.ret ?_
        cases h
        cases hz1
        exact Fin.one rfl .v
theorem en81 : Enters Tryz.prog 81 := ⟨_, Tryz.func81, rfl, rfl⟩
theorem k_triviumref17_Word {p0 : ByteArray} {y : Bool} (h : m_triviumref17_Word p0 = some y) : Spec Tryz.prog 81 [(.v .str p0)] (.v .bool y) [] := by
  rw [m_triviumref17_Word] at h
  refine enterN [(.v .str p0)] 49 Tryz.func81 rfl rfl rfl ?_
  refine T.seq ?_
  refine T.region ?_
  refine Run.go (Ev.assign rfl rfl) ?_
  refine Run.nil ?_
  refine T.seq ?_
  refine T.seq ?_
  refine T.region ?_
  refine Run.go (Ev.assign rfl rfl) ?_
  refine Run.nil ?_
  refine T.block ?_
  refine T.loop (LoopT.ghost (Ghost.only [] [0, 3] rfl) (LoopT.run (fun q : Int => (⟨[(0, .v .str p0), (3, .v (.int .i64) q)], [], 49⟩ : St)) (fun v1 z1 h hz1 => ?_) h))
  rw [m_triviumref17_Word_l1] at h
  refine T.seq ?_
  refine T.seq ?_
  refine T.region ?_
  refine Run.go (Ev.move rfl rfl) ?_
  refine Run.go (Ev.move rfl rfl) ?_
  refine Run.go (Ev.len X rfl rfl rfl rfl) ?_
  refine Run.go (Ev.int rfl rfl rfl rfl trivial) ?_
  refine Run.nil ?_
  refine T.cond rfl (fun hb2 => ?_) (fun hb2 => ?_)
  · replace h := ifT hb2 h
    refine T.skip ?_
    refine T.seq ?_
    refine T.block ?_
    refine T.seq ?_
    refine T.region ?_
    refine Run.go (Ev.move rfl rfl) ?_
    refine Run.go (Ev.move rfl rfl) ?_
    obtain ⟨x3, e4, h⟩ := bdS h
    refine Run.go (Ev.e_bt X e4 rfl rfl rfl rfl) ?_
    refine Run.go (Ev.assign rfl rfl) ?_
    refine Run.nil ?_
    obtain ⟨v5, hv, h⟩ := bdS h
    refine T.cut (fun _ : Unit => (⟨[(0, .v .str p0), (3, .v (.int .i64) v1), (4, .v (.int .u8) x3), (5, .v .bool v5)], [], 49⟩ : St)) (fun _ => True) ?_ (fun _ _ => ?_)
    · replace h := hv
      clear hv
      refine T.region ?_
      refine Run.go (Ev.move rfl rfl) ?_
      refine Run.go (Ev.int rfl rfl rfl rfl trivial) ?_
      refine Run.go (Ev.move rfl rfl) ?_
      rcases boolCases (decide (97 ≤ x3)) with hb6 | hb6
      · replace h := ifT hb6 h
        refine Run.on rfl rfl rfl hb6 (Ev.move rfl rfl) ?_
        refine Run.on rfl rfl rfl hb6 (Ev.int rfl rfl rfl rfl trivial) ?_
        refine Run.go (Ev.pickT rfl hb6 rfl rfl) ?_
        refine Run.go (Ev.assign rfl rfl) ?_
        refine Run.nil ?_
        cases h
        exact ⟨(), trivial, Ghost.only [] [0, 3, 4, 5] rfl⟩
      · replace h := ifF hb6 h
        refine Run.offT rfl rfl rfl rfl hb6 ?_
        refine Run.offT rfl rfl rfl rfl hb6 ?_
        refine Run.go (Ev.pickF rfl hb6 rfl rfl) ?_
        refine Run.go (Ev.assign rfl rfl) ?_
        refine Run.nil ?_
        cases h
        exact ⟨(), trivial, Ghost.only [] [0, 3, 4, 5] rfl⟩
    · obtain ⟨v7, hv, h⟩ := bdS h
      refine T.cut (fun _ : Unit => (⟨[(0, .v .str p0), (3, .v (.int .i64) v1), (5, .v .bool v5), (6, .v .bool v7)], [], 49⟩ : St)) (fun _ => True) ?_ (fun _ _ => ?_)
      · replace h := hv
        clear hv
        refine T.region ?_
        refine Run.go (Ev.move rfl rfl) ?_
        refine Run.go (Ev.int rfl rfl rfl rfl trivial) ?_
        refine Run.go (Ev.move rfl rfl) ?_
        rcases boolCases (decide (48 ≤ x3)) with hb8 | hb8
        · replace h := ifT hb8 h
          refine Run.on rfl rfl rfl hb8 (Ev.move rfl rfl) ?_
          refine Run.on rfl rfl rfl hb8 (Ev.int rfl rfl rfl rfl trivial) ?_
          refine Run.go (Ev.pickT rfl hb8 rfl rfl) ?_
          refine Run.go (Ev.move rfl rfl) ?_
          rcases boolCases (decide (x3 ≤ 57)) with hb9 | hb9
          · replace h := ifT hb9 h
            refine Run.offT rfl rfl rfl rfl hb9 ?_
            refine Run.offT rfl rfl rfl rfl hb9 ?_
            refine Run.go (Ev.pickT rfl hb9 rfl rfl) ?_
            refine Run.go (Ev.move rfl rfl) ?_
            refine Run.offT rfl rfl rfl rfl rfl ?_
            refine Run.offT rfl rfl rfl rfl rfl ?_
            refine Run.go (Ev.pickT rfl rfl rfl rfl) ?_
            refine Run.go (Ev.assign rfl rfl) ?_
            refine Run.nil ?_
            cases h
            exact ⟨(), trivial, Ghost.only [] [0, 3, 5, 6] rfl⟩
          · replace h := ifF hb9 h
            refine Run.on rfl rfl rfl hb9 (Ev.move rfl rfl) ?_
            refine Run.on rfl rfl rfl hb9 (Ev.int rfl rfl rfl rfl trivial) ?_
            refine Run.go (Ev.pickF rfl hb9 rfl rfl) ?_
            refine Run.go (Ev.move rfl rfl) ?_
            rcases boolCases (decide (x3 = 45)) with hb10 | hb10
            · replace h := ifT hb10 h
              refine Run.offT rfl rfl rfl rfl hb10 ?_
              refine Run.offT rfl rfl rfl rfl hb10 ?_
              refine Run.go (Ev.pickT rfl hb10 rfl rfl) ?_
              refine Run.go (Ev.assign rfl rfl) ?_
              refine Run.nil ?_
              cases h
              exact ⟨(), trivial, Ghost.only [] [0, 3, 5, 6] rfl⟩
            · replace h := ifF hb10 h
              refine Run.on rfl rfl rfl hb10 (Ev.move rfl rfl) ?_
              refine Run.on rfl rfl rfl hb10 (Ev.int rfl rfl rfl rfl trivial) ?_
              refine Run.go (Ev.pickF rfl hb10 rfl rfl) ?_
              refine Run.go (Ev.assign rfl rfl) ?_
              refine Run.nil ?_
              cases h
              exact ⟨(), trivial, Ghost.only [] [0, 3, 5, 6] rfl⟩
        · replace h := ifF hb8 h
          refine Run.offT rfl rfl rfl rfl hb8 ?_
          refine Run.offT rfl rfl rfl rfl hb8 ?_
          refine Run.go (Ev.pickF rfl hb8 rfl rfl) ?_
          refine Run.go (Ev.move rfl rfl) ?_
          refine Run.on rfl rfl rfl rfl (Ev.move rfl rfl) ?_
          refine Run.on rfl rfl rfl rfl (Ev.int rfl rfl rfl rfl trivial) ?_
          refine Run.go (Ev.pickF rfl rfl rfl rfl) ?_
          refine Run.go (Ev.move rfl rfl) ?_
          rcases boolCases (decide (x3 = 45)) with hb11 | hb11
          · replace h := ifT hb11 h
            refine Run.offT rfl rfl rfl rfl hb11 ?_
            refine Run.offT rfl rfl rfl rfl hb11 ?_
            refine Run.go (Ev.pickT rfl hb11 rfl rfl) ?_
            refine Run.go (Ev.assign rfl rfl) ?_
            refine Run.nil ?_
            cases h
            exact ⟨(), trivial, Ghost.only [] [0, 3, 5, 6] rfl⟩
          · replace h := ifF hb11 h
            refine Run.on rfl rfl rfl hb11 (Ev.move rfl rfl) ?_
            refine Run.on rfl rfl rfl hb11 (Ev.int rfl rfl rfl rfl trivial) ?_
            refine Run.go (Ev.pickF rfl hb11 rfl rfl) ?_
            refine Run.go (Ev.assign rfl rfl) ?_
            refine Run.nil ?_
            cases h
            exact ⟨(), trivial, Ghost.only [] [0, 3, 5, 6] rfl⟩
      · obtain ⟨v12, hv, h⟩ := bdS h
        refine T.cut (fun _ : Unit => (⟨[(0, .v .str p0), (3, .v (.int .i64) v1), (45, .v .bool v12)], [], 49⟩ : St)) (fun _ => True) ?_ (fun _ _ => ?_)
        · replace h := hv
          clear hv
          refine T.region ?_
          refine Run.go (Ev.move rfl rfl) ?_
          refine Run.go (Ev.not rfl rfl) ?_
          refine Run.go (Ev.move rfl rfl) ?_
          rcases boolCases (!v5) with hb13 | hb13
          · replace h := ifT hb13 h
            refine Run.on rfl rfl rfl hb13 (Ev.move rfl rfl) ?_
            refine Run.on rfl rfl rfl hb13 (Ev.int rfl rfl rfl rfl trivial) ?_
            refine Run.on rfl rfl rfl hb13 (Ev.move rfl rfl) ?_
            rcases boolCases (decide (v1 = 0)) with hb14 | hb14
            · replace h := ifT hb14 h
              refine Run.offT rfl rfl rfl rfl hb14 ?_
              refine Run.offT rfl rfl rfl rfl hb14 ?_
              refine Run.on rfl rfl rfl hb13 (Ev.pickT rfl hb14 rfl rfl) ?_
              refine Run.go (Ev.pickT rfl hb13 rfl rfl) ?_
              refine Run.nil ?_
              cases h
              exact ⟨(), trivial, Ghost.only [] [0, 3, 45] rfl⟩
            · replace h := ifF hb14 h
              refine Run.on rfl rfl rfl hb14 (Ev.move rfl rfl) ?_
              refine Run.on rfl rfl rfl hb14 (Ev.not rfl rfl) ?_
              refine Run.on rfl rfl rfl hb13 (Ev.pickF rfl hb14 rfl rfl) ?_
              refine Run.go (Ev.pickT rfl hb13 rfl rfl) ?_
              refine Run.nil ?_
              cases h
              exact ⟨(), trivial, Ghost.only [] [0, 3, 45] rfl⟩
          · replace h := ifF hb13 h
            refine Run.offT rfl rfl rfl rfl hb13 ?_
            refine Run.offT rfl rfl rfl rfl hb13 ?_
            refine Run.offT rfl rfl rfl rfl hb13 ?_
            refine Run.un rfl rfl rfl ?_
            refine Run.un rfl rfl rfl ?_
            refine Run.offT rfl rfl rfl rfl hb13 ?_
            refine Run.go (Ev.pickF rfl hb13 rfl rfl) ?_
            refine Run.nil ?_
            cases h
            exact ⟨(), trivial, Ghost.only [] [0, 3, 45] rfl⟩
        · refine T.cond rfl (fun hb15 => ?_) (fun hb15 => ?_)
          · replace h := ifT hb15 h
            refine T.seq ?_
            refine T.region ?_
            refine Run.go (Ev.assign rfl rfl) ?_
            refine Run.nil ?_
            refine T.ret ?_
            cases h
            cases hz1
            exact Fin.one rfl .v
          · replace h := ifF hb15 h
            refine T.skip ?_
            refine T.region ?_
            refine Run.go (Ev.move rfl rfl) ?_
            refine Run.go (Ev.int rfl rfl rfl rfl trivial) ?_
            refine Run.go (Ev.assign rfl rfl) ?_
            refine Run.nil ?_
            cases h
            exact LoopT.ghost (Ghost.only [] [0, 3] rfl) hz1
  · replace h := ifF hb2 h
    refine T.exit ?_
    refine T.seq ?_
    refine T.region ?_
    refine Run.go (Ev.move rfl rfl) ?_
    refine Run.go (Ev.len X rfl rfl rfl rfl) ?_
    refine Run.go (Ev.int rfl rfl rfl rfl trivial) ?_
    refine Run.go (Ev.assign rfl rfl) ?_
    refine Run.nil ?_
    refine T.ret ?_
    cases h
    cases hz1
    exact Fin.one rfl .v
theorem en106 : Enters Tryz.prog 106 := ⟨_, Tryz.func106, rfl, rfl⟩
theorem k_triviumref17_Keywords  {y : (List ByteArray)} (h : m_triviumref17_Keywords  = some y) : Spec Tryz.prog 106 [] (.v (.sl .str) y) [] := by
  rw [m_triviumref17_Keywords] at h
  refine enterN [] 2 Tryz.func106 rfl rfl rfl ?_
  refine T.seq ?_
  refine T.region ?_
  refine Run.go (Ev.assign rfl rfl) ?_
  refine Run.nil ?_
  refine T.seq ?_
  refine T.region ?_
  refine Run.go (Ev.build X 1 rfl rfl rfl rfl rfl rfl rfl rfl) ?_
  refine Run.go (Ev.assign rfl rfl) ?_
  refine Run.nil ?_
  refine T.ret ?_
  cases h
  exact Fin.one rfl (.own rfl)
theorem en82 : Enters Tryz.prog 82 := ⟨_, Tryz.func82, rfl, rfl⟩
theorem k_triviumref17_Keyword {p0 : ByteArray} {y : Bool} (h : m_triviumref17_Keyword p0 = some y) : Spec Tryz.prog 82 [(.v .str p0)] (.v .bool y) [] := by
  rw [m_triviumref17_Keyword] at h
  refine enterN [(.v .str p0)] 18 Tryz.func82 rfl rfl rfl ?_
  refine T.seq ?_
  refine T.region ?_
  refine Run.go (Ev.assign rfl rfl) ?_
  refine Run.nil ?_
  refine T.seq ?_
  refine T.region ?_
  obtain ⟨x1, e2, h⟩ := bdS h
  refine Run.go (Ev.callC en106 (k_triviumref17_Keywords e2) rfl .nil rfl rfl) ?_
  refine Run.go (Ev.assign rfl rfl) ?_
  refine Run.nil ?_
  refine T.seq ?_
  refine T.seq ?_
  refine T.region ?_
  refine Run.go (Ev.assign rfl rfl) ?_
  refine Run.nil ?_
  refine T.block ?_
  refine T.loop (LoopT.ghost (Ghost.only [] [0, 3, 4] rfl) (LoopT.run (fun q : Int => (⟨[(0, .v .str p0), (3, .v (.sl .str) x1), (4, .v (.int .i64) q)], [], 18⟩ : St)) (fun v3 z1 h hz1 => ?_) h))
  rw [m_triviumref17_Keyword_l1] at h
  refine T.seq ?_
  refine T.seq ?_
  refine T.region ?_
  refine Run.go (Ev.move rfl rfl) ?_
  refine Run.go (Ev.move rfl rfl) ?_
  refine Run.go (Ev.len X rfl rfl rfl rfl) ?_
  refine Run.go (Ev.int rfl rfl rfl rfl trivial) ?_
  refine Run.nil ?_
  refine T.cond rfl (fun hb4 => ?_) (fun hb4 => ?_)
  · replace h := ifT hb4 h
    refine T.skip ?_
    refine T.seq ?_
    refine T.block ?_
    refine T.seq ?_
    refine T.region ?_
    refine Run.go (Ev.move rfl rfl) ?_
    refine Run.go (Ev.move rfl rfl) ?_
    obtain ⟨x5, e6, h⟩ := bdS h
    refine Run.go (Ev.e_rd X e6 rfl rfl rfl rfl) ?_
    refine Run.go (Ev.load X rfl rfl rfl) ?_
    refine Run.go (Ev.move rfl rfl) ?_
    refine Run.go (Ev.strs rfl rfl rfl rfl trivial) ?_
    refine Run.nil ?_
    refine T.cond rfl (fun hb7 => ?_) (fun hb7 => ?_)
    · replace h := ifT hb7 h
      refine T.seq ?_
      refine T.region ?_
      refine Run.go (Ev.assign rfl rfl) ?_
      refine Run.nil ?_
      refine T.ret ?_
      cases h
      cases hz1
      exact Fin.one rfl .v
    · replace h := ifF hb7 h
      refine T.skip ?_
      refine T.region ?_
      refine Run.go (Ev.move rfl rfl) ?_
      refine Run.go (Ev.int rfl rfl rfl rfl trivial) ?_
      refine Run.go (Ev.assign rfl rfl) ?_
      refine Run.nil ?_
      cases h
      exact LoopT.ghost (Ghost.only [] [0, 3, 4] rfl) hz1
  · replace h := ifF hb4 h
    refine T.exit ?_
    refine T.seq ?_
    refine T.region ?_
    refine Run.go (Ev.assign rfl rfl) ?_
    refine Run.nil ?_
    refine T.ret ?_
    cases h
    cases hz1
    exact Fin.one rfl .v
theorem en53 : Enters Tryz.prog 53 := ⟨_, Tryz.func53, rfl, rfl⟩
theorem k_triviumref17_Name {p0 : ByteArray} {y : Bool} (h : m_triviumref17_Name p0 = some y) : Spec Tryz.prog 53 [(.v .str p0)] (.v .bool y) [] := by
  rw [m_triviumref17_Name] at h
  refine enterN [(.v .str p0)] 10 Tryz.func53 rfl rfl rfl ?_
  refine T.seq ?_
  refine T.region ?_
  refine Run.go (Ev.assign rfl rfl) ?_
  refine Run.nil ?_
  refine T.seq ?_
  refine T.region ?_
  refine Run.go (Ev.move rfl rfl) ?_
  obtain ⟨x1, e2, h⟩ := bdS h
  refine Run.go (Ev.callC en81 (k_triviumref17_Word e2) rfl (.cons .v .nil) rfl rfl) ?_
  refine Run.go (Ev.move rfl rfl) ?_
  rcases boolCases x1 with hb3 | hb3
  · replace h := ifT hb3 h
    refine Run.on rfl rfl rfl hb3 (Ev.move rfl rfl) ?_
    obtain ⟨x4, e5, h⟩ := bdS h
    refine Run.on rfl rfl rfl hb3 (Ev.callC en82 (k_triviumref17_Keyword e5) rfl (.cons .v .nil) rfl rfl) ?_
    refine Run.on rfl rfl rfl hb3 (Ev.not rfl rfl) ?_
    refine Run.go (Ev.pickT rfl hb3 rfl rfl) ?_
    refine Run.go (Ev.assign rfl rfl) ?_
    refine Run.nil ?_
    refine T.ret ?_
    cases h
    exact Fin.one rfl .v
  · replace h := ifF hb3 h
    refine Run.offT rfl rfl rfl rfl hb3 ?_
    refine Run.offT rfl rfl rfl rfl hb3 ?_
    refine Run.offT rfl rfl rfl rfl hb3 ?_
    refine Run.go (Ev.pickF rfl hb3 rfl rfl) ?_
    refine Run.go (Ev.assign rfl rfl) ?_
    refine Run.nil ?_
    refine T.ret ?_
    cases h
    exact Fin.one rfl .v
end Go.Proofs.YtbmogniipgmkiaaGreat.AE
/- The code comes to the printed functions (printed by a program of ours). -/
namespace Go.Proofs.YtbmogniipgmkiaaGreat.AE
open Go Go.RowKit Go.Proofs.YtbmogniipgmkiaaGreat.AP
set_option linter.unusedVariables false
set_option maxRecDepth 20000
theorem en54 : Enters Tryz.prog 54 := ⟨_, Tryz.func54, rfl, rfl⟩
theorem k_triviumref17_Twice {p0 : (List ByteArray)} {y : ByteArray × Bool} (h : m_triviumref17_Twice p0 = some y) : Spec Tryz.prog 54 [(.v (.sl .str) p0)] (.tup [.v .str y.1, .v .bool y.2]) [] := by
  rw [m_triviumref17_Twice] at h
  refine enterN [(.v (.sl .str) p0)] 30 Tryz.func54 rfl rfl rfl ?_
  refine T.seq ?_
  refine T.region ?_
  refine Run.go (Ev.assign rfl rfl) ?_
  refine Run.go (Ev.assign rfl rfl) ?_
  refine Run.nil ?_
  refine T.seq ?_
  refine T.seq ?_
  refine T.region ?_
  refine Run.go (Ev.assign rfl rfl) ?_
  refine Run.nil ?_
  refine T.block ?_
  refine T.loop (LoopT.ghost (Ghost.only [] [0, 4] rfl) (LoopT.run (fun q : Int => (⟨[(0, .v (.sl .str) p0), (4, .v (.int .i64) q)], [], 30⟩ : St)) (fun v1 z1 h hz1 => ?_) h))
  rw [m_triviumref17_Twice_l1] at h
  refine T.seq ?_
  refine T.seq ?_
  refine T.region ?_
  refine Run.go (Ev.move rfl rfl) ?_
  refine Run.go (Ev.move rfl rfl) ?_
  refine Run.go (Ev.len X rfl rfl rfl rfl) ?_
  refine Run.go (Ev.int rfl rfl rfl rfl trivial) ?_
  refine Run.nil ?_
  refine T.cond rfl (fun hb2 => ?_) (fun hb2 => ?_)
  · replace h := ifT hb2 h
    refine T.skip ?_
    refine T.seq ?_
    refine T.block ?_
    refine T.seq ?_
    refine T.region ?_
    refine Run.go (Ev.assign rfl rfl) ?_
    refine Run.nil ?_
    refine T.block ?_
    refine T.loop (LoopT.ghost (Ghost.only [] [0, 4, 5] rfl) (LoopT.run (fun q : Int => (⟨[(0, .v (.sl .str) p0), (4, .v (.int .i64) v1), (5, .v (.int .i64) q)], [], 30⟩ : St)) (fun v3 z2 h hz2 => ?_) h))
    rw [m_triviumref17_Twice_l2] at h
    refine T.seq ?_
    refine T.seq ?_
    refine T.region ?_
    refine Run.go (Ev.move rfl rfl) ?_
    refine Run.go (Ev.move rfl rfl) ?_
    refine Run.go (Ev.int rfl rfl rfl rfl trivial) ?_
    refine Run.nil ?_
    refine T.cond rfl (fun hb4 => ?_) (fun hb4 => ?_)
    · replace h := ifT hb4 h
      refine T.skip ?_
      refine T.seq ?_
      refine T.block ?_
      refine T.seq ?_
      refine T.drawM [] [0, 0, 3, 7, 0, 0, 48, 112, 255] (by kernel_rfl) (by kernel_rfl) ?_
      refine RunD.w (fun _ => Ev.move rfl rfl) ?_
      refine RunD.w (fun _ => Ev.move rfl rfl) ?_
      obtain ⟨x5, e6, h⟩ := bdS h
      refine RunD.a rfl rfl (Ev.e_rd X e6 rfl rfl rfl rfl) ?_
      refine RunD.a rfl rfl (Ev.load X rfl rfl rfl) ?_
      refine RunD.w (fun _ => Ev.move rfl rfl) ?_
      refine RunD.w (fun _ => Ev.move rfl rfl) ?_
      obtain ⟨x7, e8, h⟩ := bdS h
      refine RunD.a rfl rfl (Ev.e_rd X e8 rfl rfl rfl rfl) ?_
      refine RunD.a rfl rfl (Ev.load X rfl rfl rfl) ?_
      refine RunD.w (fun _ => Ev.strs rfl rfl rfl rfl trivial) ?_
      refine RunD.nil ?_
      refine T.cond rfl (fun hb9 => ?_) (fun hb9 => ?_)
      · replace h := ifT hb9 h
        refine T.seq ?_
        refine T.region ?_
        refine Run.go (Ev.move rfl rfl) ?_
        refine Run.go (Ev.move rfl rfl) ?_
        obtain ⟨x10, e11, h⟩ := bdS h
        refine Run.go (Ev.e_rd X e11 rfl rfl rfl rfl) ?_
        refine Run.go (Ev.load X rfl rfl rfl) ?_
        refine Run.go (Ev.assign rfl rfl) ?_
        refine Run.go (Ev.assign rfl rfl) ?_
        refine Run.nil ?_
        refine T.ret ?_
        cases h
        cases hz2
        cases hz1
        exact Fin.many X rfl (.cons (.tmp .v) (.cons (.tmp .v) .nil)) rfl
      · replace h := ifF hb9 h
        refine T.skip ?_
        refine T.region ?_
        refine Run.go (Ev.move rfl rfl) ?_
        refine Run.go (Ev.int rfl rfl rfl rfl trivial) ?_
        refine Run.go (Ev.assign rfl rfl) ?_
        refine Run.nil ?_
        cases h
        exact LoopT.ghost (Ghost.only [] [0, 4, 5] rfl) hz2
    · replace h := ifF hb4 h
      refine T.exit ?_
      refine T.region ?_
      refine Run.go (Ev.move rfl rfl) ?_
      refine Run.go (Ev.int rfl rfl rfl rfl trivial) ?_
      refine Run.go (Ev.assign rfl rfl) ?_
      refine Run.nil ?_
      cases h
      cases hz2
      exact LoopT.ghost (Ghost.only [] [0, 4] rfl) hz1
  · replace h := ifF hb2 h
    refine T.exit ?_
    refine T.seq ?_
    refine T.region ?_
    refine Run.go (Ev.assign rfl rfl) ?_
    refine Run.go (Ev.assign rfl rfl) ?_
    refine Run.nil ?_
    refine T.ret ?_
    cases h
    cases hz1
    exact Fin.many X rfl (.cons (.tmp .v) (.cons (.tmp .v) .nil)) rfl
theorem en30 : Enters Tryz.prog 30 := ⟨_, Tryz.func30, rfl, rfl⟩
theorem k_triviumref23_names {p0 : (List ByteArray)} {y : Bool} (h : m_triviumref23_names p0 = some y) : Spec Tryz.prog 30 [(.v (.sl .str) p0)] (.v .bool y) [] := by
  rw [m_triviumref23_names] at h
  refine enterN [(.v (.sl .str) p0)] 25 Tryz.func30 rfl rfl rfl ?_
  refine T.seq ?_
  refine T.region ?_
  refine Run.go (Ev.assign rfl rfl) ?_
  refine Run.nil ?_
  refine T.seq ?_
  refine T.seq ?_
  refine T.region ?_
  refine Run.go (Ev.assign rfl rfl) ?_
  refine Run.nil ?_
  refine T.block ?_
  refine T.loop (LoopT.ghost (Ghost.only [] [0, 3] rfl) (LoopT.run (fun q : Int => (⟨[(0, .v (.sl .str) p0), (3, .v (.int .i64) q)], [], 25⟩ : St)) (fun v1 z1 h hz1 => ?_) h))
  rw [m_triviumref23_names_l1] at h
  refine T.seq ?_
  refine T.seq ?_
  refine T.region ?_
  refine Run.go (Ev.move rfl rfl) ?_
  refine Run.go (Ev.move rfl rfl) ?_
  refine Run.go (Ev.len X rfl rfl rfl rfl) ?_
  refine Run.go (Ev.int rfl rfl rfl rfl trivial) ?_
  refine Run.nil ?_
  refine T.cond rfl (fun hb2 => ?_) (fun hb2 => ?_)
  · replace h := ifT hb2 h
    refine T.skip ?_
    refine T.seq ?_
    refine T.block ?_
    refine T.seq ?_
    refine T.region ?_
    refine Run.go (Ev.move rfl rfl) ?_
    refine Run.go (Ev.move rfl rfl) ?_
    obtain ⟨x3, e4, h⟩ := bdS h
    refine Run.go (Ev.e_rd X e4 rfl rfl rfl rfl) ?_
    refine Run.go (Ev.load X rfl rfl rfl) ?_
    obtain ⟨x5, e6, h⟩ := bdS h
    refine Run.go (Ev.callC en53 (k_triviumref17_Name e6) rfl (.cons .v .nil) rfl rfl) ?_
    refine Run.go (Ev.not rfl rfl) ?_
    refine Run.nil ?_
    refine T.cond rfl (fun hb7 => ?_) (fun hb7 => ?_)
    · replace h := ifT hb7 h
      refine T.seq ?_
      refine T.region ?_
      refine Run.go (Ev.assign rfl rfl) ?_
      refine Run.nil ?_
      refine T.ret ?_
      cases h
      cases hz1
      exact Fin.one rfl .v
    · replace h := ifF hb7 h
      refine T.skip ?_
      refine T.region ?_
      refine Run.go (Ev.move rfl rfl) ?_
      refine Run.go (Ev.int rfl rfl rfl rfl trivial) ?_
      refine Run.go (Ev.assign rfl rfl) ?_
      refine Run.nil ?_
      cases h
      exact LoopT.ghost (Ghost.only [] [0, 3] rfl) hz1
  · replace h := ifF hb2 h
    refine T.exit ?_
    refine T.seq ?_
    refine T.region ?_
    refine Run.go (Ev.move rfl rfl) ?_
    obtain ⟨x8, e9, h⟩ := bdS h
    refine Run.go (Ev.callC en54 (k_triviumref17_Twice e9) rfl (.cons .v .nil) rfl rfl) ?_
    refine Run.go (Ev.move rfl rfl) ?_
    refine Run.go (Ev.extract rfl rfl rfl) ?_
    refine Run.go (Ev.extract rfl rfl rfl) ?_
    refine Run.go (Ev.assign rfl rfl) ?_
    refine Run.go (Ev.assign rfl rfl) ?_
    refine Run.nil ?_
    refine T.seq ?_
    refine T.region ?_
    refine Run.go (Ev.move rfl rfl) ?_
    refine Run.go (Ev.not rfl rfl) ?_
    refine Run.go (Ev.assign rfl rfl) ?_
    refine Run.nil ?_
    refine T.ret ?_
    cases h
    cases hz1
    exact Fin.one rfl .v
theorem en61 : Enters Tryz.prog 61 := ⟨_, Tryz.func61, rfl, rfl⟩
theorem k_triviumref18_Size {p0 : Int} {y : Int} (h : m_triviumref18_Size p0 = some y) : Spec Tryz.prog 61 [(.v (.int .i64) p0)] (.v (.int .u64) y) [] := by
  rw [m_triviumref18_Size] at h
  refine enterN [(.v (.int .i64) p0)] 13 Tryz.func61 rfl rfl rfl ?_
  refine T.seq ?_
  refine T.region ?_
  refine Run.go (Ev.assign rfl rfl) ?_
  refine Run.nil ?_
  refine T.seq ?_
  refine T.region ?_
  refine Run.go (Ev.assign rfl rfl) ?_
  refine Run.nil ?_
  obtain ⟨v1, hv, h⟩ := bdS h
  refine T.cut (fun _ : Unit => (⟨[(3, .v (.int .u64) v1)], [], 13⟩ : St)) (fun _ => True) ?_ (fun _ _ => ?_)
  · replace h := hv
    clear hv
    refine T.seq ?_
    refine T.region ?_
    refine Run.go (Ev.move rfl rfl) ?_
    refine Run.go (Ev.assign rfl rfl) ?_
    refine Run.nil ?_
    refine T.block ?_
    refine T.loop (LoopT.ghost (Ghost.only [] [3, 4] rfl) (LoopT.run (fun q : Int × Int => (⟨[(3, .v (.int .u64) q.1), (4, .v (.int .i64) q.2)], [], 13⟩ : St)) (fun q z1 h hz1 => ?_) h))
    obtain ⟨v2, v3⟩ := q
    dsimp only
    rw [m_triviumref18_Size_l1] at h
    refine T.seq ?_
    refine T.seq ?_
    refine T.region ?_
    refine Run.go (Ev.move rfl rfl) ?_
    refine Run.go (Ev.int rfl rfl rfl rfl trivial) ?_
    refine Run.nil ?_
    refine T.cond rfl (fun hb4 => ?_) (fun hb4 => ?_)
    · replace h := ifT hb4 h
      refine T.skip ?_
      refine T.seq ?_
      refine T.block ?_
      refine T.region ?_
      refine Run.go (Ev.move rfl rfl) ?_
      refine Run.go (Ev.int rfl rfl rfl rfl trivial) ?_
      refine Run.go (Ev.assign rfl rfl) ?_
      refine Run.nil ?_
      refine T.region ?_
      refine Run.go (Ev.move rfl rfl) ?_
      refine Run.go (Ev.int rfl rfl rfl rfl trivial) ?_
      refine Run.go (Ev.assign rfl rfl) ?_
      refine Run.nil ?_
      cases h
      exact LoopT.ghost (Ghost.only [] [3, 4] rfl) hz1
    · replace h := ifF hb4 h
      refine T.exit ?_
      cases h
      cases hz1
      exact ⟨(), trivial, Ghost.only [] [3] rfl⟩
  · refine T.seq ?_
    refine T.region ?_
    refine Run.go (Ev.move rfl rfl) ?_
    refine Run.go (Ev.assign rfl rfl) ?_
    refine Run.nil ?_
    refine T.ret ?_
    cases h
    exact Fin.one rfl .v
theorem en32 : Enters Tryz.prog 32 := ⟨_, Tryz.func32, rfl, rfl⟩
theorem k_triviumref18_May {p0 : D_api_Prefix} {y : Bool} (h : m_triviumref18_May p0 = some y) : Spec Tryz.prog 32 [(.v Y_api_Prefix p0)] (.v .bool y) [] := by
  rw [m_triviumref18_May] at h
  refine enterN [(.v Y_api_Prefix p0)] 21 Tryz.func32 rfl rfl rfl ?_
  refine T.seq ?_
  refine T.region ?_
  refine Run.go (Ev.box 1 rfl rfl rfl rfl) ?_
  refine Run.go (Ev.assign rfl rfl) ?_
  refine Run.nil ?_
  refine T.seq ?_
  refine T.drawM [] [0, 1, 3, 7, 15, 31, 63, 127, 255, 511, 1023, 2047, 511, 4607, 12799, 32767, 65535, 131071, 262143] (by kernel_rfl) (by kernel_rfl) ?_
  refine RunD.a rfl rfl (Ev.fieldBox X rfl rfl rfl rfl rfl) ?_
  refine RunD.a rfl rfl (Ev.loadCell X rfl rfl rfl rfl rfl rfl) ?_
  refine RunD.w (fun _ => Ev.int rfl rfl rfl rfl trivial) ?_
  refine RunD.w (fun _ => Ev.move rfl rfl) ?_
  rcases boolCases (decide (0 ≤ p0.2)) with hb1 | hb1
  · replace h := ifT hb1 h
    refine RunD.on rfl rfl rfl hb1 rfl (fun ô hô => by obtain rfl := hô.resolve_left (by decide); exact Ev.fieldBox X rfl rfl rfl rfl rfl) ?_
    refine RunD.on rfl rfl rfl hb1 rfl (fun ô hô => by obtain rfl := hô.resolve_left (by decide); exact Ev.loadCell X rfl rfl rfl rfl rfl rfl) ?_
    refine RunD.on rfl rfl rfl hb1 rfl (fun _ _ => Ev.int rfl rfl rfl rfl trivial) ?_
    refine RunD.w (fun _ => Ev.pickT rfl hb1 rfl rfl) ?_
    refine RunD.w (fun _ => Ev.move rfl rfl) ?_
    rcases boolCases (decide (p0.2 ≤ 32)) with hb2 | hb2
    · replace h := ifT hb2 h
      refine RunD.on rfl rfl rfl hb2 rfl (fun ô hô => by obtain rfl := hô.resolve_left (by decide); exact Ev.fieldBox X rfl rfl rfl rfl rfl) ?_
      refine RunD.on rfl rfl rfl hb2 rfl (fun ô hô => by obtain rfl := hô.resolve_left (by decide); exact Ev.loadCell X rfl rfl rfl rfl rfl rfl) ?_
      refine RunD.on rfl rfl rfl hb2 rfl (fun ô hô => by obtain rfl := hô.resolve_left (by decide); exact Ev.conv X rfl rfl rfl rfl) ?_
      refine RunD.on rfl rfl rfl hb2 rfl (fun ô hô => by obtain rfl := hô.resolve_left (by decide); exact Ev.fieldBox X rfl rfl rfl rfl rfl) ?_
      refine RunD.on rfl rfl rfl hb2 rfl (fun ô hô => by obtain rfl := hô.resolve_left (by decide); exact Ev.loadCell X rfl rfl rfl rfl rfl rfl) ?_
      obtain ⟨x3, e4, h⟩ := bdS h
      refine RunD.on rfl rfl rfl hb2 rfl (fun ô hô => by obtain rfl := hô.resolve_left (by decide); exact Ev.callC en61 (k_triviumref18_Size e4) rfl (.cons .v .nil) rfl rfl) ?_
      obtain ⟨x5, e6, h⟩ := bdS h
      refine RunD.on rfl rfl rfl hb2 rfl (fun _ _ => Ev.e_rm e6 rfl rfl rfl) ?_
      refine RunD.on rfl rfl rfl hb2 rfl (fun _ _ => Ev.int rfl rfl rfl rfl trivial) ?_
      refine RunD.w (fun _ => Ev.pickT rfl hb2 rfl rfl) ?_
      refine RunD.w (fun _ => Ev.assign rfl rfl) ?_
      refine RunD.nil ?_
      refine T.ret ?_
      cases h
      exact Fin.one rfl .v
    · replace h := ifF hb2 h
      refine RunD.offT rfl rfl rfl rfl hb2 ?_
      refine RunD.offT rfl rfl rfl rfl hb2 ?_
      refine RunD.offT rfl rfl rfl rfl hb2 ?_
      refine RunD.offT rfl rfl rfl rfl hb2 ?_
      refine RunD.offT rfl rfl rfl rfl hb2 ?_
      refine RunD.offT rfl rfl rfl rfl hb2 ?_
      refine RunD.offT rfl rfl rfl rfl hb2 ?_
      refine RunD.offT rfl rfl rfl rfl hb2 ?_
      refine RunD.w (fun _ => Ev.pickF rfl hb2 rfl rfl) ?_
      refine RunD.w (fun _ => Ev.assign rfl rfl) ?_
      refine RunD.nil ?_
      refine T.ret ?_
      cases h
      exact Fin.one rfl .v
  · replace h := ifF hb1 h
    refine RunD.offT rfl rfl rfl rfl hb1 ?_
    refine RunD.offT rfl rfl rfl rfl hb1 ?_
    refine RunD.offT rfl rfl rfl rfl hb1 ?_
    refine RunD.w (fun _ => Ev.pickF rfl hb1 rfl rfl) ?_
    refine RunD.w (fun _ => Ev.move rfl rfl) ?_
    refine RunD.offT rfl rfl rfl rfl rfl ?_
    refine RunD.offT rfl rfl rfl rfl rfl ?_
    refine RunD.offT rfl rfl rfl rfl rfl ?_
    refine RunD.offT rfl rfl rfl rfl rfl ?_
    refine RunD.offT rfl rfl rfl rfl rfl ?_
    refine RunD.offT rfl rfl rfl rfl rfl ?_
    refine RunD.offT rfl rfl rfl rfl rfl ?_
    refine RunD.offT rfl rfl rfl rfl rfl ?_
    refine RunD.w (fun _ => Ev.pickF rfl rfl rfl rfl) ?_
    refine RunD.w (fun _ => Ev.assign rfl rfl) ?_
    refine RunD.nil ?_
    refine T.ret ?_
    cases h
    exact Fin.one rfl .v
theorem en55 : Enters Tryz.prog 55 := ⟨_, Tryz.func55, rfl, rfl⟩
theorem k_triviumref23_homes {p0 : D_api_Net} {y : Bool} (h : m_triviumref23_homes p0 = some y) : Spec Tryz.prog 55 [(.v Y_api_Net p0)] (.v .bool y) [] := by
  rw [m_triviumref23_homes] at h
  refine enterN [(.v Y_api_Net p0)] 46 Tryz.func55 rfl rfl rfl ?_
  refine T.seq ?_
  refine T.region ?_
  refine Run.go (Ev.box 1 rfl rfl rfl rfl) ?_
  refine Run.go (Ev.assign rfl rfl) ?_
  refine Run.nil ?_
  refine T.seq ?_
  refine T.seq ?_
  refine T.region ?_
  refine Run.go (Ev.assign rfl rfl) ?_
  refine Run.nil ?_
  refine T.block ?_
  refine T.loop (LoopT.ghost (Ghost.only [(1, 1)] [1, 3] rfl) (LoopT.run (fun q : Int => (⟨[(1, .box 1 0), (3, .v (.int .i64) q)], [(1, .box [.v .str p0.1, .v (.sl Y_api_Node) p0.2.1, .v (.sl Y_api_Link) p0.2.2.1, .v (.sl Y_api_Rule) p0.2.2.2])], 46⟩ : St)) (fun v1 z1 h hz1 => ?_) h))
  rw [m_triviumref23_homes_l1] at h
  refine T.seq ?_
  refine T.seq ?_
  refine T.region ?_
  refine Run.go (Ev.move rfl rfl) ?_
  refine Run.go (Ev.fieldBox X rfl rfl rfl rfl rfl) ?_
  refine Run.go (Ev.loadCell X rfl rfl rfl rfl rfl rfl) ?_
  refine Run.go (Ev.len X rfl rfl rfl rfl) ?_
  refine Run.go (Ev.int rfl rfl rfl rfl trivial) ?_
  refine Run.nil ?_
  refine T.cond rfl (fun hb2 => ?_) (fun hb2 => ?_)
  · replace h := ifT hb2 h
    refine T.skip ?_
    refine T.seq ?_
    refine T.block ?_
    refine T.seq ?_
    refine T.region ?_
    refine Run.go (Ev.fieldBox X rfl rfl rfl rfl rfl) ?_
    refine Run.go (Ev.loadCell X rfl rfl rfl rfl rfl rfl) ?_
    refine Run.go (Ev.move rfl rfl) ?_
    obtain ⟨x3, e4, h⟩ := bdS h
    refine Run.go (Ev.e_rd X e4 rfl rfl rfl rfl) ?_
    refine Run.go (Ev.fieldAddr X rfl rfl rfl rfl) ?_
    refine Run.go (Ev.load X rfl rfl rfl) ?_
    refine Run.go (Ev.assign rfl rfl) ?_
    refine Run.nil ?_
    refine T.seq ?_
    refine T.region ?_
    refine Run.go (Ev.assign rfl rfl) ?_
    refine Run.nil ?_
    refine T.block ?_
    refine T.loop (LoopT.ghost (Ghost.only [(1, 1)] [1, 3, 4, 5] rfl) (LoopT.run (fun q : Int => (⟨[(1, .box 1 0), (3, .v (.int .i64) v1), (4, .v (.sl Y_api_Prefix) x3.2), (5, .v (.int .i64) q)], [(1, .box [.v .str p0.1, .v (.sl Y_api_Node) p0.2.1, .v (.sl Y_api_Link) p0.2.2.1, .v (.sl Y_api_Rule) p0.2.2.2])], 46⟩ : St)) (fun v5 z2 h hz2 => ?_) h))
    rw [m_triviumref23_homes_l2] at h
    refine T.seq ?_
    refine T.seq ?_
    refine T.region ?_
    refine Run.go (Ev.move rfl rfl) ?_
    refine Run.go (Ev.move rfl rfl) ?_
    refine Run.go (Ev.len X rfl rfl rfl rfl) ?_
    refine Run.go (Ev.int rfl rfl rfl rfl trivial) ?_
    refine Run.nil ?_
    refine T.cond rfl (fun hb6 => ?_) (fun hb6 => ?_)
    · replace h := ifT hb6 h
      refine T.skip ?_
      refine T.seq ?_
      refine T.block ?_
      refine T.seq ?_
      refine T.seq ?_
      refine T.region ?_
      refine Run.go (Ev.move rfl rfl) ?_
      refine Run.go (Ev.move rfl rfl) ?_
      obtain ⟨x7, e8, h⟩ := bdS h
      refine Run.go (Ev.e_rd X e8 rfl rfl rfl rfl) ?_
      refine Run.go (Ev.load X rfl rfl rfl) ?_
      obtain ⟨x9, e10, h⟩ := bdS h
      refine Run.go (Ev.callC en32 (k_triviumref18_May e10) rfl (.cons .v .nil) rfl rfl) ?_
      refine Run.go (Ev.not rfl rfl) ?_
      refine Run.nil ?_
      refine T.cond rfl (fun hb11 => ?_) (fun hb11 => ?_)
      · replace h := ifT hb11 h
        refine T.seq ?_
        refine T.region ?_
        refine Run.go (Ev.assign rfl rfl) ?_
        refine Run.nil ?_
        refine T.ret ?_
        cases h
        cases hz2
        cases hz1
        exact Fin.one rfl .v
      · replace h := ifF hb11 h
        refine T.skip ?_
        refine T.seq ?_
        refine T.region ?_
        refine Run.go (Ev.assign rfl rfl) ?_
        refine Run.nil ?_
        refine T.block ?_
        refine T.loop (LoopT.ghost (Ghost.only [(1, 1)] [1, 3, 4, 5, 6] rfl) (LoopT.run (fun q : Int => (⟨[(1, .box 1 0), (3, .v (.int .i64) v1), (4, .v (.sl Y_api_Prefix) x3.2), (5, .v (.int .i64) v5), (6, .v (.int .i64) q)], [(1, .box [.v .str p0.1, .v (.sl Y_api_Node) p0.2.1, .v (.sl Y_api_Link) p0.2.2.1, .v (.sl Y_api_Rule) p0.2.2.2])], 46⟩ : St)) (fun v12 z3 h hz3 => ?_) h))
        rw [m_triviumref23_homes_l3] at h
        refine T.seq ?_
        refine T.seq ?_
        refine T.region ?_
        refine Run.go (Ev.move rfl rfl) ?_
        refine Run.go (Ev.move rfl rfl) ?_
        refine Run.go (Ev.int rfl rfl rfl rfl trivial) ?_
        refine Run.nil ?_
        refine T.cond rfl (fun hb13 => ?_) (fun hb13 => ?_)
        · replace h := ifT hb13 h
          refine T.skip ?_
          refine T.seq ?_
          refine T.block ?_
          refine T.seq ?_
          refine T.drawM [] [0, 0, 3, 7, 0, 0, 48, 112, 255] (by kernel_rfl) (by kernel_rfl) ?_
          refine RunD.w (fun _ => Ev.move rfl rfl) ?_
          refine RunD.w (fun _ => Ev.move rfl rfl) ?_
          obtain ⟨x14, e15, h⟩ := bdS h
          refine RunD.a rfl rfl (Ev.e_rd X e15 rfl rfl rfl rfl) ?_
          refine RunD.a rfl rfl (Ev.load X rfl rfl rfl) ?_
          refine RunD.w (fun _ => Ev.move rfl rfl) ?_
          refine RunD.w (fun _ => Ev.move rfl rfl) ?_
          obtain ⟨x16, e17, h⟩ := bdS h
          refine RunD.a rfl rfl (Ev.e_rd X e17 rfl rfl rfl rfl) ?_
          refine RunD.a rfl rfl (Ev.load X rfl rfl rfl) ?_
          refine RunD.w (fun _ => Ev.e_eq (τ := Y_api_Prefix) (p := (x14 : D_api_Prefix)) (q := (x16 : D_api_Prefix)) eq42 rfl (.inl ⟨rfl, rfl⟩) rfl rfl rfl) ?_
          refine RunD.nil ?_
          refine T.cond rfl (fun hb18 => ?_) (fun hb18 => ?_)
          · replace h := ifT hb18 h
            refine T.seq ?_
            refine T.region ?_
            refine Run.go (Ev.assign rfl rfl) ?_
            refine Run.nil ?_
            refine T.ret ?_
            cases h
            cases hz3
            cases hz2
            cases hz1
            exact Fin.one rfl .v
          · replace h := ifF hb18 h
            refine T.skip ?_
            refine T.region ?_
            refine Run.go (Ev.move rfl rfl) ?_
            refine Run.go (Ev.int rfl rfl rfl rfl trivial) ?_
            refine Run.go (Ev.assign rfl rfl) ?_
            refine Run.nil ?_
            cases h
            exact LoopT.ghost (Ghost.only [(1, 1)] [1, 3, 4, 5, 6] rfl) hz3
        · replace h := ifF hb13 h
          refine T.exit ?_
          refine T.region ?_
          refine Run.go (Ev.move rfl rfl) ?_
          refine Run.go (Ev.int rfl rfl rfl rfl trivial) ?_
          refine Run.go (Ev.assign rfl rfl) ?_
          refine Run.nil ?_
          cases h
          cases hz3
          exact LoopT.ghost (Ghost.only [(1, 1)] [1, 3, 4, 5] rfl) hz2
    · replace h := ifF hb6 h
      refine T.exit ?_
      refine T.region ?_
      refine Run.go (Ev.move rfl rfl) ?_
      refine Run.go (Ev.int rfl rfl rfl rfl trivial) ?_
      refine Run.go (Ev.assign rfl rfl) ?_
      refine Run.nil ?_
      cases h
      cases hz2
      exact LoopT.ghost (Ghost.only [(1, 1)] [1, 3] rfl) hz1
  · replace h := ifF hb2 h
    refine T.exit ?_
    refine T.seq ?_
    refine T.region ?_
    refine Run.go (Ev.assign rfl rfl) ?_
    refine Run.nil ?_
    refine T.ret ?_
    cases h
    cases hz1
    exact Fin.one rfl .v
theorem en83 : Enters Tryz.prog 83 := ⟨_, Tryz.func83, rfl, rfl⟩
theorem k_triviumref02_May {p0 : (List Int)} {y : Bool} (h : m_triviumref02_May p0 = some y) : Spec Tryz.prog 83 [(.v (.sl (.int .u64)) p0)] (.v .bool y) [] := by
  rw [m_triviumref02_May] at h
  refine enterN [(.v (.sl (.int .u64)) p0)] 27 Tryz.func83 rfl rfl rfl ?_
  refine T.seq ?_
  refine T.region ?_
  refine Run.go (Ev.assign rfl rfl) ?_
  refine Run.nil ?_
  refine T.seq ?_
  refine T.seq ?_
  refine T.region ?_
  refine Run.go (Ev.assign rfl rfl) ?_
  refine Run.nil ?_
  refine T.block ?_
  refine T.loop (LoopT.ghost (Ghost.only [] [0, 3] rfl) (LoopT.run (fun q : Int => (⟨[(0, .v (.sl (.int .u64)) p0), (3, .v (.int .i64) q)], [], 27⟩ : St)) (fun v1 z1 h hz1 => ?_) h))
  rw [m_triviumref02_May_l1] at h
  refine T.seq ?_
  refine T.seq ?_
  refine T.region ?_
  refine Run.go (Ev.move rfl rfl) ?_
  refine Run.go (Ev.move rfl rfl) ?_
  refine Run.go (Ev.len X rfl rfl rfl rfl) ?_
  refine Run.go (Ev.int rfl rfl rfl rfl trivial) ?_
  refine Run.nil ?_
  refine T.cond rfl (fun hb2 => ?_) (fun hb2 => ?_)
  · replace h := ifT hb2 h
    refine T.skip ?_
    refine T.seq ?_
    refine T.block ?_
    refine T.seq ?_
    refine T.region ?_
    refine Run.go (Ev.move rfl rfl) ?_
    refine Run.go (Ev.move rfl rfl) ?_
    obtain ⟨x3, e4, h⟩ := bdS h
    refine Run.go (Ev.e_rd X e4 rfl rfl rfl rfl) ?_
    refine Run.go (Ev.load X rfl rfl rfl) ?_
    refine Run.go (Ev.int rfl rfl rfl rfl trivial) ?_
    refine Run.nil ?_
    refine T.cond rfl (fun hb5 => ?_) (fun hb5 => ?_)
    · replace h := ifT hb5 h
      refine T.seq ?_
      refine T.region ?_
      refine Run.go (Ev.assign rfl rfl) ?_
      refine Run.nil ?_
      refine T.ret ?_
      cases h
      cases hz1
      exact Fin.one rfl .v
    · replace h := ifF hb5 h
      refine T.skip ?_
      refine T.region ?_
      refine Run.go (Ev.move rfl rfl) ?_
      refine Run.go (Ev.int rfl rfl rfl rfl trivial) ?_
      refine Run.go (Ev.assign rfl rfl) ?_
      refine Run.nil ?_
      cases h
      exact LoopT.ghost (Ghost.only [] [0, 3] rfl) hz1
  · replace h := ifF hb2 h
    refine T.exit ?_
    refine T.seq ?_
    refine T.region ?_
    refine Run.go (Ev.move rfl rfl) ?_
    refine Run.go (Ev.len X rfl rfl rfl rfl) ?_
    refine Run.go (Ev.int rfl rfl rfl rfl trivial) ?_
    refine Run.go (Ev.move rfl rfl) ?_
    rcases boolCases (decide ((p0.length : Int) = 0)) with hb6 | hb6
    · replace h := ifT hb6 h
      refine Run.offT rfl rfl rfl rfl hb6 ?_
      refine Run.offT rfl rfl rfl rfl hb6 ?_
      refine Run.offT rfl rfl rfl rfl hb6 ?_
      refine Run.offT rfl rfl rfl rfl hb6 ?_
      refine Run.offT rfl rfl rfl rfl hb6 ?_
      refine Run.offT rfl rfl rfl rfl hb6 ?_
      refine Run.offT rfl rfl rfl rfl hb6 ?_
      refine Run.go (Ev.pickT rfl hb6 rfl rfl) ?_
      refine Run.go (Ev.assign rfl rfl) ?_
      refine Run.nil ?_
      refine T.ret ?_
      cases h
      cases hz1
      exact Fin.one rfl .v
    · replace h := ifF hb6 h
      refine Run.on rfl rfl rfl hb6 (Ev.move rfl rfl) ?_
      refine Run.on rfl rfl rfl hb6 (Ev.move rfl rfl) ?_
      refine Run.on rfl rfl rfl hb6 (Ev.len X rfl rfl rfl rfl) ?_
      refine Run.on rfl rfl rfl hb6 (Ev.int rfl rfl rfl rfl trivial) ?_
      obtain ⟨x7, e8, h⟩ := bdS h
      refine Run.on rfl rfl rfl hb6 (Ev.e_rd X e8 rfl rfl rfl rfl) ?_
      refine Run.on rfl rfl rfl hb6 (Ev.load X rfl rfl rfl) ?_
      refine Run.on rfl rfl rfl hb6 (Ev.int rfl rfl rfl rfl trivial) ?_
      refine Run.go (Ev.pickF rfl hb6 rfl rfl) ?_
      refine Run.go (Ev.assign rfl rfl) ?_
      refine Run.nil ?_
      refine T.ret ?_
      cases h
      cases hz1
      exact Fin.one rfl .v
theorem en108 : Enters Tryz.prog 108 := ⟨_, Tryz.func108, rfl, rfl⟩
theorem k_triviumref02_Same {p0 : (List Int)} {p1 : (List Int)} {y : Bool} (h : m_triviumref02_Same p0 p1 = some y) : Spec Tryz.prog 108 [(.v (.sl (.int .u64)) p0), (.v (.sl (.int .u64)) p1)] (.v .bool y) [] := by
  rw [m_triviumref02_Same] at h
  refine enterN [(.v (.sl (.int .u64)) p0), (.v (.sl (.int .u64)) p1)] 26 Tryz.func108 rfl rfl rfl ?_
  refine T.seq ?_
  refine T.region ?_
  refine Run.go (Ev.assign rfl rfl) ?_
  refine Run.nil ?_
  refine T.seq ?_
  refine T.seq ?_
  refine T.region ?_
  refine Run.go (Ev.move rfl rfl) ?_
  refine Run.go (Ev.len X rfl rfl rfl rfl) ?_
  refine Run.go (Ev.move rfl rfl) ?_
  refine Run.go (Ev.len X rfl rfl rfl rfl) ?_
  refine Run.go (Ev.int rfl rfl rfl rfl trivial) ?_
  refine Run.nil ?_
  refine T.cond rfl (fun hb1 => ?_) (fun hb1 => ?_)
  · replace h := ifT hb1 h
    refine T.seq ?_
    refine T.region ?_
    refine Run.go (Ev.assign rfl rfl) ?_
    refine Run.nil ?_
    refine T.ret ?_
    cases h
    exact Fin.one rfl .v
  · replace h := ifF hb1 h
    refine T.skip ?_
    refine T.seq ?_
    refine T.seq ?_
    refine T.region ?_
    refine Run.go (Ev.assign rfl rfl) ?_
    refine Run.nil ?_
    refine T.block ?_
    refine T.loop (LoopT.ghost (Ghost.only [] [0, 1, 5] rfl) (LoopT.run (fun q : Int => (⟨[(0, .v (.sl (.int .u64)) p0), (1, .v (.sl (.int .u64)) p1), (5, .v (.int .i64) q)], [], 26⟩ : St)) (fun v2 z1 h hz1 => ?_) h))
    rw [m_triviumref02_Same_l1] at h
    refine T.seq ?_
    refine T.seq ?_
    refine T.region ?_
    refine Run.go (Ev.move rfl rfl) ?_
    refine Run.go (Ev.move rfl rfl) ?_
    refine Run.go (Ev.len X rfl rfl rfl rfl) ?_
    refine Run.go (Ev.int rfl rfl rfl rfl trivial) ?_
    refine Run.nil ?_
    refine T.cond rfl (fun hb3 => ?_) (fun hb3 => ?_)
    · replace h := ifT hb3 h
      refine T.skip ?_
      refine T.seq ?_
      refine T.block ?_
      refine T.seq ?_
      refine T.drawM [] [0, 0, 3, 7, 0, 0, 48, 112, 255] (by kernel_rfl) (by kernel_rfl) ?_
      refine RunD.w (fun _ => Ev.move rfl rfl) ?_
      refine RunD.w (fun _ => Ev.move rfl rfl) ?_
      obtain ⟨x4, e5, h⟩ := bdS h
      refine RunD.a rfl rfl (Ev.e_rd X e5 rfl rfl rfl rfl) ?_
      refine RunD.a rfl rfl (Ev.load X rfl rfl rfl) ?_
      refine RunD.w (fun _ => Ev.move rfl rfl) ?_
      refine RunD.w (fun _ => Ev.move rfl rfl) ?_
      obtain ⟨x6, e7, h⟩ := bdS h
      refine RunD.a rfl rfl (Ev.e_rd X e7 rfl rfl rfl rfl) ?_
      refine RunD.a rfl rfl (Ev.load X rfl rfl rfl) ?_
      refine RunD.w (fun _ => Ev.int rfl rfl rfl rfl trivial) ?_
      refine RunD.nil ?_
      refine T.cond rfl (fun hb8 => ?_) (fun hb8 => ?_)
      · replace h := ifT hb8 h
        refine T.seq ?_
        refine T.region ?_
        refine Run.go (Ev.assign rfl rfl) ?_
        refine Run.nil ?_
        refine T.ret ?_
        cases h
        cases hz1
        exact Fin.one rfl .v
      · replace h := ifF hb8 h
        refine T.skip ?_
        refine T.region ?_
        refine Run.go (Ev.move rfl rfl) ?_
        refine Run.go (Ev.int rfl rfl rfl rfl trivial) ?_
        refine Run.go (Ev.assign rfl rfl) ?_
        refine Run.nil ?_
        cases h
        exact LoopT.ghost (Ghost.only [] [0, 1, 5] rfl) hz1
    · replace h := ifF hb3 h
      refine T.exit ?_
      refine T.seq ?_
      refine T.region ?_
      refine Run.go (Ev.assign rfl rfl) ?_
      refine Run.nil ?_
      refine T.ret ?_
      cases h
      cases hz1
      exact Fin.one rfl .v
theorem en107 : Enters Tryz.prog 107 := ⟨_, Tryz.func107, rfl, rfl⟩
theorem k_triviumref07_Same {p0 : D_api_Int} {p1 : D_api_Int} {y : Bool} (h : m_triviumref07_Same p0 p1 = some y) : Spec Tryz.prog 107 [(.v Y_api_Int p0), (.v Y_api_Int p1)] (.v .bool y) [] := by
  rw [m_triviumref07_Same] at h
  refine enterN [(.v Y_api_Int p0), (.v Y_api_Int p1)] 17 Tryz.func107 rfl rfl rfl ?_
  refine T.seq ?_
  refine T.region ?_
  refine Run.go (Ev.box 1 rfl rfl rfl rfl) ?_
  refine Run.go (Ev.box 2 rfl rfl rfl rfl) ?_
  refine Run.go (Ev.assign rfl rfl) ?_
  refine Run.nil ?_
  refine T.seq ?_
  refine T.region ?_
  refine Run.go (Ev.fieldBox X rfl rfl rfl rfl rfl) ?_
  refine Run.go (Ev.loadCell X rfl rfl rfl rfl rfl rfl) ?_
  refine Run.go (Ev.fieldBox X rfl rfl rfl rfl rfl) ?_
  refine Run.go (Ev.loadCell X rfl rfl rfl rfl rfl rfl) ?_
  refine Run.go (Ev.bools X rfl rfl rfl rfl rfl) ?_
  refine Run.go (Ev.move rfl rfl) ?_
  rcases boolCases (p0.1 == p1.1) with hb1 | hb1
  · replace h := ifT hb1 h
    refine Run.on rfl rfl rfl hb1 (Ev.fieldBox X rfl rfl rfl rfl rfl) ?_
    refine Run.on rfl rfl rfl hb1 (Ev.loadCell X rfl rfl rfl rfl rfl rfl) ?_
    refine Run.on rfl rfl rfl hb1 (Ev.fieldBox X rfl rfl rfl rfl rfl) ?_
    refine Run.on rfl rfl rfl hb1 (Ev.loadCell X rfl rfl rfl rfl rfl rfl) ?_
    obtain ⟨x2, e3, h⟩ := bdS h
    refine Run.on rfl rfl rfl hb1 (Ev.callC en108 (k_triviumref02_Same e3) rfl (.cons .v (.cons .v .nil)) rfl rfl) ?_
    refine Run.go (Ev.pickT rfl hb1 rfl rfl) ?_
    refine Run.go (Ev.assign rfl rfl) ?_
    refine Run.nil ?_
    refine T.ret ?_
    cases h
    exact Fin.one rfl .v
  · replace h := ifF hb1 h
    refine Run.offT rfl rfl rfl rfl hb1 ?_
    refine Run.offT rfl rfl rfl rfl hb1 ?_
    refine Run.offT rfl rfl rfl rfl hb1 ?_
    refine Run.offT rfl rfl rfl rfl hb1 ?_
    refine Run.offT rfl rfl rfl rfl hb1 ?_
    refine Run.go (Ev.pickF rfl hb1 rfl rfl) ?_
    refine Run.go (Ev.assign rfl rfl) ?_
    refine Run.nil ?_
    refine T.ret ?_
    cases h
    exact Fin.one rfl .v
theorem en84 : Enters Tryz.prog 84 := ⟨_, Tryz.func84, rfl, rfl⟩
theorem k_triviumref08_Same {p0 : D_api_Rat} {p1 : D_api_Rat} {y : Bool} (h : m_triviumref08_Same p0 p1 = some y) : Spec Tryz.prog 84 [(.v Y_api_Rat p0), (.v Y_api_Rat p1)] (.v .bool y) [] := by
  rw [m_triviumref08_Same] at h
  refine enterN [(.v Y_api_Rat p0), (.v Y_api_Rat p1)] 17 Tryz.func84 rfl rfl rfl ?_
  refine T.seq ?_
  refine T.region ?_
  refine Run.go (Ev.box 1 rfl rfl rfl rfl) ?_
  refine Run.go (Ev.box 2 rfl rfl rfl rfl) ?_
  refine Run.go (Ev.assign rfl rfl) ?_
  refine Run.nil ?_
  refine T.seq ?_
  refine T.region ?_
  refine Run.go (Ev.fieldBox X rfl rfl rfl rfl rfl) ?_
  refine Run.go (Ev.loadBox X rfl rfl rfl rfl rfl) ?_
  refine Run.go (Ev.fieldBox X rfl rfl rfl rfl rfl) ?_
  refine Run.go (Ev.loadBox X rfl rfl rfl rfl rfl) ?_
  obtain ⟨x1, e2, h⟩ := bdS h
  refine Run.go (Ev.callC en107 (k_triviumref07_Same e2) rfl (.cons .v (.cons .v .nil)) rfl rfl) ?_
  refine Run.go (Ev.move rfl rfl) ?_
  rcases boolCases x1 with hb3 | hb3
  · replace h := ifT hb3 h
    refine Run.on rfl rfl rfl hb3 (Ev.fieldBox X rfl rfl rfl rfl rfl) ?_
    refine Run.on rfl rfl rfl hb3 (Ev.loadCell X rfl rfl rfl rfl rfl rfl) ?_
    refine Run.on rfl rfl rfl hb3 (Ev.fieldBox X rfl rfl rfl rfl rfl) ?_
    refine Run.on rfl rfl rfl hb3 (Ev.loadCell X rfl rfl rfl rfl rfl rfl) ?_
    obtain ⟨x4, e5, h⟩ := bdS h
    refine Run.on rfl rfl rfl hb3 (Ev.callC en108 (k_triviumref02_Same e5) rfl (.cons .v (.cons .v .nil)) rfl rfl) ?_
    refine Run.go (Ev.pickT rfl hb3 rfl rfl) ?_
    refine Run.go (Ev.assign rfl rfl) ?_
    refine Run.nil ?_
    refine T.ret ?_
    cases h
    exact Fin.one rfl .v
  · replace h := ifF hb3 h
    refine Run.offT rfl rfl rfl rfl hb3 ?_
    refine Run.offT rfl rfl rfl rfl hb3 ?_
    refine Run.offT rfl rfl rfl rfl hb3 ?_
    refine Run.offT rfl rfl rfl rfl hb3 ?_
    refine Run.offT rfl rfl rfl rfl hb3 ?_
    refine Run.go (Ev.pickF rfl hb3 rfl rfl) ?_
    refine Run.go (Ev.assign rfl rfl) ?_
    refine Run.nil ?_
    refine T.ret ?_
    cases h
    exact Fin.one rfl .v
theorem en56 : Enters Tryz.prog 56 := ⟨_, Tryz.func56, rfl, rfl⟩
theorem k_triviumref08_May {p0 : D_api_Rat} {y : Bool} (h : m_triviumref08_May p0 = some y) : Spec Tryz.prog 56 [(.v Y_api_Rat p0)] (.v .bool y) [] := by
  rw [m_triviumref08_May] at h
  refine enterN [(.v Y_api_Rat p0)] 42 Tryz.func56 rfl rfl rfl ?_
  refine T.seq ?_
  refine T.region ?_
  refine Run.go (Ev.box 1 rfl rfl rfl rfl) ?_
  refine Run.go (Ev.assign rfl rfl) ?_
  refine Run.nil ?_
  refine T.seq ?_
  obtain ⟨v1, hv, h⟩ := bdS h
  refine T.cut (fun _ : Unit => (⟨[(1, .box 1 0), (31, .v .bool v1)], [(1, .box [.v .bool p0.1.1, .v (.sl (.int .u64)) p0.1.2, .v (.sl (.int .u64)) p0.2])], 42⟩ : St)) (fun _ => True) ?_ (fun _ _ => ?_)
  · replace h := hv
    clear hv
    refine T.region ?_
    refine Run.go (Ev.fieldBox X rfl rfl rfl rfl rfl) ?_
    refine Run.go (Ev.fieldBox X rfl rfl rfl rfl rfl) ?_
    refine Run.go (Ev.loadCell X rfl rfl rfl rfl rfl rfl) ?_
    obtain ⟨x2, e3, h⟩ := bdS h
    refine Run.go (Ev.callC en83 (k_triviumref02_May e3) rfl (.cons .v .nil) rfl rfl) ?_
    refine Run.go (Ev.not rfl rfl) ?_
    refine Run.go (Ev.move rfl rfl) ?_
    rcases boolCases (!x2) with hb4 | hb4
    · replace h := ifT hb4 h
      refine Run.offT rfl rfl rfl rfl hb4 ?_
      refine Run.offT rfl rfl rfl rfl hb4 ?_
      refine Run.offT rfl rfl rfl rfl hb4 ?_
      refine Run.offT rfl rfl rfl rfl hb4 ?_
      refine Run.go (Ev.pickT rfl hb4 rfl rfl) ?_
      refine Run.go (Ev.move rfl rfl) ?_
      refine Run.offT rfl rfl rfl rfl rfl ?_
      refine Run.offT rfl rfl rfl rfl rfl ?_
      refine Run.offT rfl rfl rfl rfl rfl ?_
      refine Run.offT rfl rfl rfl rfl rfl ?_
      refine Run.go (Ev.pickT rfl rfl rfl rfl) ?_
      refine Run.go (Ev.move rfl rfl) ?_
      refine Run.offT rfl rfl rfl rfl rfl ?_
      refine Run.offT rfl rfl rfl rfl rfl ?_
      refine Run.offT rfl rfl rfl rfl rfl ?_
      refine Run.offT rfl rfl rfl rfl rfl ?_
      refine Run.un rfl rfl rfl ?_
      refine Run.un rfl rfl rfl ?_
      refine Run.un rfl rfl rfl ?_
      refine Run.un rfl rfl rfl ?_
      refine Run.un rfl rfl rfl ?_
      refine Run.offT rfl rfl rfl rfl rfl ?_
      refine Run.go (Ev.pickT rfl rfl rfl rfl) ?_
      refine Run.nil ?_
      cases h
      exact ⟨(), trivial, Ghost.only [(1, 1)] [1, 31] rfl⟩
    · replace h := ifF hb4 h
      refine Run.on rfl rfl rfl hb4 (Ev.fieldBox X rfl rfl rfl rfl rfl) ?_
      refine Run.on rfl rfl rfl hb4 (Ev.loadCell X rfl rfl rfl rfl rfl rfl) ?_
      obtain ⟨x5, e6, h⟩ := bdS h
      refine Run.on rfl rfl rfl hb4 (Ev.callC en83 (k_triviumref02_May e6) rfl (.cons .v .nil) rfl rfl) ?_
      refine Run.on rfl rfl rfl hb4 (Ev.not rfl rfl) ?_
      refine Run.go (Ev.pickF rfl hb4 rfl rfl) ?_
      refine Run.go (Ev.move rfl rfl) ?_
      rcases boolCases (!x5) with hb7 | hb7
      · replace h := ifT hb7 h
        refine Run.offT rfl rfl rfl rfl hb7 ?_
        refine Run.offT rfl rfl rfl rfl hb7 ?_
        refine Run.offT rfl rfl rfl rfl hb7 ?_
        refine Run.offT rfl rfl rfl rfl hb7 ?_
        refine Run.go (Ev.pickT rfl hb7 rfl rfl) ?_
        refine Run.go (Ev.move rfl rfl) ?_
        refine Run.offT rfl rfl rfl rfl rfl ?_
        refine Run.offT rfl rfl rfl rfl rfl ?_
        refine Run.offT rfl rfl rfl rfl rfl ?_
        refine Run.offT rfl rfl rfl rfl rfl ?_
        refine Run.un rfl rfl rfl ?_
        refine Run.un rfl rfl rfl ?_
        refine Run.un rfl rfl rfl ?_
        refine Run.un rfl rfl rfl ?_
        refine Run.un rfl rfl rfl ?_
        refine Run.offT rfl rfl rfl rfl rfl ?_
        refine Run.go (Ev.pickT rfl rfl rfl rfl) ?_
        refine Run.nil ?_
        cases h
        exact ⟨(), trivial, Ghost.only [(1, 1)] [1, 31] rfl⟩
      · replace h := ifF hb7 h
        refine Run.on rfl rfl rfl hb7 (Ev.fieldBox X rfl rfl rfl rfl rfl) ?_
        refine Run.on rfl rfl rfl hb7 (Ev.loadCell X rfl rfl rfl rfl rfl rfl) ?_
        refine Run.on rfl rfl rfl hb7 (Ev.len X rfl rfl rfl rfl) ?_
        refine Run.on rfl rfl rfl hb7 (Ev.int rfl rfl rfl rfl trivial) ?_
        refine Run.go (Ev.pickF rfl hb7 rfl rfl) ?_
        refine Run.go (Ev.move rfl rfl) ?_
        rcases boolCases (decide ((p0.2.length : Int) = 0)) with hb8 | hb8
        · replace h := ifT hb8 h
          refine Run.offT rfl rfl rfl rfl hb8 ?_
          refine Run.offT rfl rfl rfl rfl hb8 ?_
          refine Run.offT rfl rfl rfl rfl hb8 ?_
          refine Run.offT rfl rfl rfl rfl hb8 ?_
          refine Run.un rfl rfl rfl ?_
          refine Run.un rfl rfl rfl ?_
          refine Run.un rfl rfl rfl ?_
          refine Run.un rfl rfl rfl ?_
          refine Run.un rfl rfl rfl ?_
          refine Run.offT rfl rfl rfl rfl hb8 ?_
          refine Run.go (Ev.pickT rfl hb8 rfl rfl) ?_
          refine Run.nil ?_
          cases h
          exact ⟨(), trivial, Ghost.only [(1, 1)] [1, 31] rfl⟩
        · replace h := ifF hb8 h
          refine Run.on rfl rfl rfl hb8 (Ev.fieldBox X rfl rfl rfl rfl rfl) ?_
          refine Run.on rfl rfl rfl hb8 (Ev.fieldBox X rfl rfl rfl rfl rfl) ?_
          refine Run.on rfl rfl rfl hb8 (Ev.loadCell X rfl rfl rfl rfl rfl rfl) ?_
          refine Run.on rfl rfl rfl hb8 (Ev.move rfl rfl) ?_
          rcases boolCases p0.1.1 with hb9 | hb9
          · replace h := ifT hb9 h
            refine Run.on rfl rfl rfl hb9 (Ev.fieldBox X rfl rfl rfl rfl rfl) ?_
            refine Run.on rfl rfl rfl hb9 (Ev.fieldBox X rfl rfl rfl rfl rfl) ?_
            refine Run.on rfl rfl rfl hb9 (Ev.loadCell X rfl rfl rfl rfl rfl rfl) ?_
            refine Run.on rfl rfl rfl hb9 (Ev.len X rfl rfl rfl rfl) ?_
            refine Run.on rfl rfl rfl hb9 (Ev.int rfl rfl rfl rfl trivial) ?_
            refine Run.on rfl rfl rfl hb8 (Ev.pickT rfl hb9 rfl rfl) ?_
            refine Run.go (Ev.pickF rfl hb8 rfl rfl) ?_
            refine Run.nil ?_
            cases h
            exact ⟨(), trivial, Ghost.only [(1, 1)] [1, 31] rfl⟩
          · replace h := ifF hb9 h
            refine Run.offT rfl rfl rfl rfl hb9 ?_
            refine Run.offT rfl rfl rfl rfl hb9 ?_
            refine Run.offT rfl rfl rfl rfl hb9 ?_
            refine Run.offT rfl rfl rfl rfl hb9 ?_
            refine Run.offT rfl rfl rfl rfl hb9 ?_
            refine Run.on rfl rfl rfl hb8 (Ev.pickF rfl hb9 rfl rfl) ?_
            refine Run.go (Ev.pickF rfl hb8 rfl rfl) ?_
            refine Run.nil ?_
            cases h
            exact ⟨(), trivial, Ghost.only [(1, 1)] [1, 31] rfl⟩
  · refine T.cond rfl (fun hb10 => ?_) (fun hb10 => ?_)
    · replace h := ifT hb10 h
      refine T.seq ?_
      refine T.region ?_
      refine Run.go (Ev.assign rfl rfl) ?_
      refine Run.nil ?_
      refine T.ret ?_
      cases h
      exact Fin.one rfl .v
    · replace h := ifF hb10 h
      refine T.skip ?_
      refine T.seq ?_
      refine T.drawM [] [0, 1, 3, 0, 8, 31, 63, 127, 0, 511, 1023] (by kernel_rfl) (by kernel_rfl) ?_
      refine RunD.a rfl rfl (Ev.fieldBox X rfl rfl rfl rfl rfl) ?_
      refine RunD.a rfl rfl (Ev.loadBox X rfl rfl rfl rfl rfl) ?_
      obtain ⟨x11, e12, h⟩ := bdS h
      refine RunD.a rfl rfl (Ev.callC en40 (k_triviumref07_Of e12) rfl (.cons .v .nil) rfl rfl) ?_
      refine RunD.a rfl rfl (Ev.fieldBox X rfl rfl rfl rfl rfl) ?_
      refine RunD.a rfl rfl (Ev.loadCell X rfl rfl rfl rfl rfl rfl) ?_
      obtain ⟨x13, e14, h⟩ := bdS h
      refine RunD.a rfl rfl (Ev.callC en42 (k_triviumref02_Of e14) rfl (.cons .v .nil) rfl rfl) ?_
      obtain ⟨x15, e16, h⟩ := bdS h
      refine RunD.a rfl rfl (Ev.callC en39 (k_triviumref08_Low e16) rfl (.cons .v (.cons .v .nil)) rfl rfl) ?_
      obtain ⟨x17, e18, h⟩ := bdS h
      refine RunD.a rfl rfl (Ev.callC en38 (k_triviumref08_Back e18) rfl (.cons .v .nil) rfl rfl) ?_
      refine RunD.a rfl rfl (Ev.loadBox X rfl rfl rfl rfl rfl) ?_
      obtain ⟨x19, e20, h⟩ := bdS h
      refine RunD.a rfl rfl (Ev.callC en84 (k_triviumref08_Same e20) rfl (.cons .v (.cons .v .nil)) rfl rfl) ?_
      refine RunD.w (fun _ => Ev.assign rfl rfl) ?_
      refine RunD.nil ?_
      refine T.ret ?_
      cases h
      exact Fin.one rfl .v
theorem en58 : Enters Tryz.prog 58 := ⟨_, Tryz.func58, rfl, rfl⟩
theorem k_triviumref08_Of {p0 : D_api_Rat} {y : D_triviumref08_Q} (h : m_triviumref08_Of p0 = some y) : Spec Tryz.prog 58 [(.v Y_api_Rat p0)] (.v Y_triviumref08_Q y) [] := by
  rw [m_triviumref08_Of] at h
  refine enterN [(.v Y_api_Rat p0)] 10 Tryz.func58 rfl rfl rfl ?_
  refine T.seq ?_
  refine T.region ?_
  refine Run.go (Ev.box 1 rfl rfl rfl rfl) ?_
  refine Run.go (Ev.allocN X 2 rfl rfl rfl) ?_
  refine Run.nil ?_
  refine T.seq ?_
  refine T.drawM [7] [0, 1, 3, 0, 8, 31, 63, 127] (by kernel_rfl) (by kernel_rfl) ?_
  refine RunD.a rfl rfl (Ev.fieldBox X rfl rfl rfl rfl rfl) ?_
  refine RunD.a rfl rfl (Ev.loadBox X rfl rfl rfl rfl rfl) ?_
  obtain ⟨x1, e2, h⟩ := bdS h
  refine RunD.a rfl rfl (Ev.callC en40 (k_triviumref07_Of e2) rfl (.cons .v .nil) rfl rfl) ?_
  refine RunD.a rfl rfl (Ev.fieldBox X rfl rfl rfl rfl rfl) ?_
  refine RunD.a rfl rfl (Ev.loadCell X rfl rfl rfl rfl rfl rfl) ?_
  obtain ⟨x3, e4, h⟩ := bdS h
  refine RunD.a rfl rfl (Ev.callC en42 (k_triviumref02_Of e4) rfl (.cons .v .nil) rfl rfl) ?_
  refine RunD.w (fun _ => Ev.struct X pl88 rfl rfl rfl rfl rfl rfl rfl rfl) ?_
  refine RunD.mN rfl (Ev.storeBox X rfl rfl rfl rfl rfl rfl rfl) ?_
  refine RunD.nil ?_
  refine T.ret ?_
  cases h
  exact Fin.cell X rfl rfl rfl rfl rfl
theorem en88 : Enters Tryz.prog 88 := ⟨_, Tryz.func88, rfl, rfl⟩
theorem k_triviumref02_Num {p0 : Int} {y : (List Int)} (h : m_triviumref02_Num p0 = some y) : Spec Tryz.prog 88 [(.v (.int .i64) p0)] (.v (.sl (.int .i64)) y) [] := by
  rw [m_triviumref02_Num] at h
  refine enterN [(.v (.int .i64) p0)] 6 Tryz.func88 rfl rfl rfl ?_
  refine T.seq ?_
  refine T.region ?_
  refine Run.go (Ev.assign rfl rfl) ?_
  refine Run.nil ?_
  refine T.seq ?_
  refine T.region ?_
  refine Run.go (Ev.build X 1 rfl rfl rfl rfl rfl rfl rfl rfl) ?_
  refine Run.go (Ev.move rfl rfl) ?_
  refine Run.ghost (Ghost.firmAll (id := 1) rfl) ?_
  obtain ⟨x1, e2, h⟩ := bdS h
  refine Run.go (Ev.callC en69 (k_triviumref02_MulAdd e2) rfl (.cons .v (.cons .v (.cons .v .nil))) rfl rfl) ?_
  refine Run.go (Ev.assign rfl rfl) ?_
  refine Run.nil ?_
  refine T.ret ?_
  cases h
  exact Fin.one rfl .v
theorem en87 : Enters Tryz.prog 87 := ⟨_, Tryz.func87, rfl, rfl⟩
theorem k_triviumref07_Num {p0 : Int} {y : D_triviumref07_Z} (h : m_triviumref07_Num p0 = some y) : Spec Tryz.prog 87 [(.v (.int .i64) p0)] (.v Y_triviumref07_Z y) [] := by
  rw [m_triviumref07_Num] at h
  refine enterN [(.v (.int .i64) p0)] 12 Tryz.func87 rfl rfl rfl ?_
  refine T.seq ?_
  refine T.region ?_
  refine Run.go (Ev.allocN X 1 rfl rfl rfl) ?_
  refine Run.nil ?_
  refine T.seq ?_
  refine T.seq ?_
  refine T.region ?_
  refine Run.go (Ev.move rfl rfl) ?_
  refine Run.go (Ev.int rfl rfl rfl rfl trivial) ?_
  refine Run.nil ?_
  refine T.cond rfl (fun hb1 => ?_) (fun hb1 => ?_)
  · replace h := ifT hb1 h
    refine T.seq ?_
    refine T.region ?_
    refine Run.go (Ev.move rfl rfl) ?_
    refine Run.go (Ev.neg rfl rfl) ?_
    obtain ⟨x2, e3, h⟩ := bdS h
    refine Run.go (Ev.callC en88 (k_triviumref02_Num e3) rfl (.cons .v .nil) rfl rfl) ?_
    obtain ⟨x4, e5, h⟩ := bdS h
    refine Run.go (Ev.callC en68 (k_triviumref07_made e5) rfl (.cons .v (.cons .v .nil)) rfl rfl) ?_
    refine Run.do_ (Ev.storeBox X rfl rfl rfl rfl rfl rfl rfl) ?_
    refine Run.nil ?_
    refine T.ret ?_
    cases h
    exact Fin.cell X rfl rfl rfl rfl rfl
  · replace h := ifF hb1 h
    refine T.skip ?_
    refine T.seq ?_
    refine T.region ?_
    refine Run.go (Ev.move rfl rfl) ?_
    obtain ⟨x6, e7, h⟩ := bdS h
    refine Run.go (Ev.callC en88 (k_triviumref02_Num e7) rfl (.cons .v .nil) rfl rfl) ?_
    obtain ⟨x8, e9, h⟩ := bdS h
    refine Run.go (Ev.callC en68 (k_triviumref07_made e9) rfl (.cons .v (.cons .v .nil)) rfl rfl) ?_
    refine Run.do_ (Ev.storeBox X rfl rfl rfl rfl rfl rfl rfl) ?_
    refine Run.nil ?_
    refine T.ret ?_
    cases h
    exact Fin.cell X rfl rfl rfl rfl rfl
theorem en59 : Enters Tryz.prog 59 := ⟨_, Tryz.func59, rfl, rfl⟩
theorem k_triviumref08_Num {p0 : Int} {p1 : Int} {y : D_triviumref08_Q} (h : m_triviumref08_Num p0 p1 = some y) : Spec Tryz.prog 59 [(.v (.int .i64) p0), (.v (.int .i64) p1)] (.v Y_triviumref08_Q y) [] := by
  rw [m_triviumref08_Num] at h
  refine enterN [(.v (.int .i64) p0), (.v (.int .i64) p1)] 10 Tryz.func59 rfl rfl rfl ?_
  refine T.seq ?_
  refine T.region ?_
  refine Run.go (Ev.allocN X 1 rfl rfl rfl) ?_
  refine Run.nil ?_
  refine T.seq ?_
  refine T.region ?_
  refine Run.go (Ev.move rfl rfl) ?_
  obtain ⟨x1, e2, h⟩ := bdS h
  refine Run.go (Ev.callC en87 (k_triviumref07_Num e2) rfl (.cons .v .nil) rfl rfl) ?_
  refine Run.go (Ev.move rfl rfl) ?_
  obtain ⟨x3, e4, h⟩ := bdS h
  refine Run.go (Ev.callC en88 (k_triviumref02_Num e4) rfl (.cons .v .nil) rfl rfl) ?_
  obtain ⟨x5, e6, h⟩ := bdS h
  refine Run.go (Ev.callC en39 (k_triviumref08_Low e6) rfl (.cons .v (.cons .v .nil)) rfl rfl) ?_
  refine Run.do_ (Ev.storeBox X rfl rfl rfl rfl rfl rfl rfl) ?_
  refine Run.nil ?_
  refine T.ret ?_
  cases h
  exact Fin.cell X rfl rfl rfl rfl rfl
theorem en122 : Enters Tryz.prog 122 := ⟨_, Tryz.func122, rfl, rfl⟩
theorem k_triviumref07_Neg {p0 : D_triviumref07_Z} {y : D_triviumref07_Z} (h : m_triviumref07_Neg p0 = some y) : Spec Tryz.prog 122 [(.v Y_triviumref07_Z p0)] (.v Y_triviumref07_Z y) [] := by
  rw [m_triviumref07_Neg] at h
  refine enterN [(.v Y_triviumref07_Z p0)] 9 Tryz.func122 rfl rfl rfl ?_
  refine T.seq ?_
  refine T.region ?_
  refine Run.go (Ev.box 1 rfl rfl rfl rfl) ?_
  refine Run.go (Ev.allocN X 2 rfl rfl rfl) ?_
  refine Run.nil ?_
  refine T.seq ?_
  refine T.region ?_
  refine Run.go (Ev.fieldBox X rfl rfl rfl rfl rfl) ?_
  refine Run.go (Ev.loadCell X rfl rfl rfl rfl rfl rfl) ?_
  refine Run.go (Ev.not rfl rfl) ?_
  refine Run.go (Ev.fieldBox X rfl rfl rfl rfl rfl) ?_
  refine Run.go (Ev.loadCell X rfl rfl rfl rfl rfl rfl) ?_
  obtain ⟨x1, e2, h⟩ := bdS h
  refine Run.go (Ev.callC en68 (k_triviumref07_made e2) rfl (.cons .v (.cons .v .nil)) rfl rfl) ?_
  refine Run.do_ (Ev.storeBox X rfl rfl rfl rfl rfl rfl rfl) ?_
  refine Run.nil ?_
  refine T.ret ?_
  cases h
  exact Fin.cell X rfl rfl rfl rfl rfl
theorem en111 : Enters Tryz.prog 111 := ⟨_, Tryz.func111, rfl, rfl⟩
theorem k_triviumref08_Neg {p0 : D_triviumref08_Q} {y : D_triviumref08_Q} (h : m_triviumref08_Neg p0 = some y) : Spec Tryz.prog 111 [(.v Y_triviumref08_Q p0)] (.v Y_triviumref08_Q y) [] := by
  rw [m_triviumref08_Neg] at h
  refine enterN [(.v Y_triviumref08_Q p0)] 9 Tryz.func111 rfl rfl rfl ?_
  refine T.seq ?_
  refine T.region ?_
  refine Run.go (Ev.box 1 rfl rfl rfl rfl) ?_
  refine Run.go (Ev.allocN X 2 rfl rfl rfl) ?_
  refine Run.nil ?_
  refine T.seq ?_
  refine T.drawM [6] [0, 1, 3, 0, 8, 31, 63] (by kernel_rfl) (by kernel_rfl) ?_
  refine RunD.a rfl rfl (Ev.fieldBox X rfl rfl rfl rfl rfl) ?_
  refine RunD.a rfl rfl (Ev.loadBox X rfl rfl rfl rfl rfl) ?_
  obtain ⟨x1, e2, h⟩ := bdS h
  refine RunD.a rfl rfl (Ev.callC en122 (k_triviumref07_Neg e2) rfl (.cons .v .nil) rfl rfl) ?_
  refine RunD.a rfl rfl (Ev.fieldBox X rfl rfl rfl rfl rfl) ?_
  refine RunD.a rfl rfl (Ev.loadCell X rfl rfl rfl rfl rfl rfl) ?_
  refine RunD.w (fun _ => Ev.struct X pl88 rfl rfl rfl rfl rfl rfl rfl rfl) ?_
  refine RunD.mN rfl (Ev.storeBox X rfl rfl rfl rfl rfl rfl rfl) ?_
  refine RunD.nil ?_
  refine T.ret ?_
  cases h
  exact Fin.cell X rfl rfl rfl rfl rfl
theorem en121 : Enters Tryz.prog 121 := ⟨_, Tryz.func121, rfl, rfl⟩
theorem k_triviumref02_Mul {p0 : (List Int)} {p1 : (List Int)} {y : (List Int)} (h : m_triviumref02_Mul p0 p1 = some y) : Spec Tryz.prog 121 [(.v (.sl (.int .i64)) p0), (.v (.sl (.int .i64)) p1)] (.v (.sl (.int .i64)) y) [] := by
  rw [m_triviumref02_Mul] at h
  refine enterN [(.v (.sl (.int .i64)) p0), (.v (.sl (.int .i64)) p1)] 79 Tryz.func121 rfl rfl rfl ?_
  refine T.seq ?_
  refine T.region ?_
  refine Run.go (Ev.assign rfl rfl) ?_
  refine Run.nil ?_
  refine T.seq ?_
  refine T.region ?_
  refine Run.go (Ev.move rfl rfl) ?_
  refine Run.go (Ev.len X rfl rfl rfl rfl) ?_
  refine Run.go (Ev.move rfl rfl) ?_
  refine Run.go (Ev.len X rfl rfl rfl rfl) ?_
  refine Run.go (Ev.int rfl rfl rfl rfl trivial) ?_
  refine Run.go (Ev.int rfl rfl rfl rfl trivial) ?_
  obtain ⟨x1, e2, h⟩ := bdS h
  refine Run.go (Ev.e_mk X 1 e2 rfl rfl rfl rfl rfl rfl) ?_
  refine Run.go (Ev.assign rfl rfl) ?_
  refine Run.nil ?_
  obtain ⟨v3, hv, h⟩ := bdS h
  refine T.cut (fun _ : Unit => (⟨[(5, .own 1)], [(1, .arr 3 (.int .i64) v3)], 79⟩ : St)) (fun _ => True) ?_ (fun _ _ => ?_)
  · replace h := hv
    clear hv
    refine T.seq ?_
    refine T.region ?_
    refine Run.go (Ev.assign rfl rfl) ?_
    refine Run.nil ?_
    refine T.block ?_
    refine T.loop (LoopT.ghost (Ghost.only [(1, 1)] [0, 1, 5, 6] rfl) (LoopT.run (fun q : Int × (List Int) => (⟨[(0, .v (.sl (.int .i64)) p0), (1, .v (.sl (.int .i64)) p1), (5, .own 1), (6, .v (.int .i64) q.1)], [(1, .arr 3 (.int .i64) q.2)], 79⟩ : St)) (fun q z1 h hz1 => ?_) h))
    obtain ⟨v4, v5⟩ := q
    dsimp only
    rw [m_triviumref02_Mul_l1] at h
    refine T.seq ?_
    refine T.seq ?_
    refine T.region ?_
    refine Run.go (Ev.move rfl rfl) ?_
    refine Run.go (Ev.move rfl rfl) ?_
    refine Run.go (Ev.len X rfl rfl rfl rfl) ?_
    refine Run.go (Ev.int rfl rfl rfl rfl trivial) ?_
    refine Run.nil ?_
    refine T.cond rfl (fun hb6 => ?_) (fun hb6 => ?_)
    · replace h := ifT hb6 h
      refine T.skip ?_
      obtain ⟨v7, hv, h⟩ := bdS h
      refine T.cut (fun _ : Unit => (⟨[(0, .v (.sl (.int .i64)) p0), (1, .v (.sl (.int .i64)) p1), (5, .own 1), (6, .v (.int .i64) v4)], [(1, .arr 3 (.int .i64) v7)], 79⟩ : St)) (fun _ => True) ?_ (fun _ _ => ?_)
      · replace h := hv
        clear hv
        refine T.block ?_
        refine T.seq ?_
        refine T.region ?_
        refine Run.go (Ev.assign rfl rfl) ?_
        refine Run.nil ?_
        obtain ⟨⟨v8, v9⟩, hv, h⟩ := bdS h
        refine T.cut (fun _ : Unit => (⟨[(0, .v (.sl (.int .i64)) p0), (1, .v (.sl (.int .i64)) p1), (5, .own 1), (6, .v (.int .i64) v4), (7, .v (.int .i64) v8)], [(1, .arr 3 (.int .i64) v9)], 79⟩ : St)) (fun _ => True) ?_ (fun _ _ => ?_)
        · replace h := hv
          clear hv
          refine T.seq ?_
          refine T.region ?_
          refine Run.go (Ev.assign rfl rfl) ?_
          refine Run.nil ?_
          refine T.block ?_
          refine T.loop (LoopT.ghost (Ghost.only [(1, 1)] [0, 1, 5, 6, 7, 8] rfl) (LoopT.run (fun q : Int × Int × (List Int) => (⟨[(0, .v (.sl (.int .i64)) p0), (1, .v (.sl (.int .i64)) p1), (5, .own 1), (6, .v (.int .i64) v4), (7, .v (.int .i64) q.1), (8, .v (.int .i64) q.2.1)], [(1, .arr 3 (.int .i64) q.2.2)], 79⟩ : St)) (fun q z2 h hz2 => ?_) h))
          obtain ⟨v10, v11, v12⟩ := q
          dsimp only
          rw [m_triviumref02_Mul_l2] at h
          refine T.seq ?_
          refine T.seq ?_
          refine T.region ?_
          refine Run.go (Ev.move rfl rfl) ?_
          refine Run.go (Ev.move rfl rfl) ?_
          refine Run.go (Ev.len X rfl rfl rfl rfl) ?_
          refine Run.go (Ev.int rfl rfl rfl rfl trivial) ?_
          refine Run.nil ?_
          refine T.cond rfl (fun hb13 => ?_) (fun hb13 => ?_)
          · replace h := ifT hb13 h
            refine T.skip ?_
            refine T.seq ?_
            refine T.block ?_
            refine T.seq ?_
            refine T.drawM [] [0, 0, 0, 0, 12, 30, 62, 127, 0, 0, 768, 1792, 0, 0, 12288, 28672, 65280, 131071, 262143] (by kernel_rfl) (by kernel_rfl) ?_
            refine RunD.w (fun _ => Ev.move rfl rfl) ?_
            refine RunD.w (fun _ => Ev.move rfl rfl) ?_
            refine RunD.w (fun _ => Ev.move rfl rfl) ?_
            refine RunD.w (fun _ => Ev.move rfl rfl) ?_
            refine RunD.w (fun _ => Ev.int rfl rfl rfl rfl trivial) ?_
            obtain ⟨x14, e15, h⟩ := bdS h
            refine RunD.a rfl rfl (Ev.e_rdO X e15 rfl rfl rfl rfl rfl) ?_
            refine RunD.a rfl rfl (Ev.e_ldO X (rdS e15).2 rfl rfl rfl rfl) ?_
            refine RunD.w (fun _ => Ev.int rfl rfl rfl rfl trivial) ?_
            refine RunD.w (fun _ => Ev.move rfl rfl) ?_
            refine RunD.w (fun _ => Ev.move rfl rfl) ?_
            obtain ⟨x16, e17, h⟩ := bdS h
            refine RunD.a rfl rfl (Ev.e_rd X e17 rfl rfl rfl rfl) ?_
            refine RunD.a rfl rfl (Ev.load X rfl rfl rfl) ?_
            refine RunD.w (fun _ => Ev.move rfl rfl) ?_
            refine RunD.w (fun _ => Ev.move rfl rfl) ?_
            obtain ⟨x18, e19, h⟩ := bdS h
            refine RunD.a rfl rfl (Ev.e_rd X e19 rfl rfl rfl rfl) ?_
            refine RunD.a rfl rfl (Ev.load X rfl rfl rfl) ?_
            refine RunD.w (fun _ => Ev.int rfl rfl rfl rfl trivial) ?_
            refine RunD.w (fun _ => Ev.int rfl rfl rfl rfl trivial) ?_
            obtain ⟨x20, e21, h⟩ := ltS h
            refine RunD.w (fun _ => Ev.avs (Ev.assign rfl rfl) e21) ?_
            refine RunD.nil ?_
            refine T.seq ?_
            refine T.region ?_
            refine Run.go (Ev.move rfl rfl) ?_
            refine Run.go (Ev.move rfl rfl) ?_
            refine Run.go (Ev.move rfl rfl) ?_
            refine Run.go (Ev.int rfl rfl rfl rfl trivial) ?_
            refine Run.go (Ev.move rfl rfl) ?_
            obtain ⟨x22, e23, h⟩ := bdS h
            refine Run.go (Ev.e_rm e23 rfl rfl rfl) ?_
            obtain ⟨j24, e25, h⟩ := bdS h
            refine Run.go (Ev.e_ixO X e25 rfl rfl rfl rfl rfl) ?_
            obtain ⟨x26, e27, h⟩ := ltS h
            refine Run.do_ (Ev.asO (Ev.storeEl X rfl rfl rfl rfl rfl) e27) ?_
            refine Run.nil ?_
            refine T.region ?_
            refine Run.go (Ev.move rfl rfl) ?_
            obtain ⟨x28, e29, h⟩ := bdS h
            refine Run.go (Ev.e_qd e29 rfl rfl rfl) ?_
            refine Run.go (Ev.assign rfl rfl) ?_
            refine Run.nil ?_
            refine T.region ?_
            refine Run.go (Ev.move rfl rfl) ?_
            refine Run.go (Ev.int rfl rfl rfl rfl trivial) ?_
            refine Run.go (Ev.assign rfl rfl) ?_
            refine Run.nil ?_
            cases h
            exact LoopT.ghost (Ghost.only [(1, 1)] [0, 1, 5, 6, 7, 8] rfl) hz2
          · replace h := ifF hb13 h
            refine T.exit ?_
            cases h
            cases hz2
            exact ⟨(), trivial, Ghost.only [(1, 1)] [0, 1, 5, 6, 7] rfl⟩
        · refine T.seq ?_
          refine T.region ?_
          refine Run.go (Ev.move rfl rfl) ?_
          refine Run.go (Ev.move rfl rfl) ?_
          refine Run.go (Ev.len X rfl rfl rfl rfl) ?_
          refine Run.go (Ev.int rfl rfl rfl rfl trivial) ?_
          refine Run.go (Ev.assign rfl rfl) ?_
          refine Run.nil ?_
          refine T.block ?_
          refine T.loop (LoopT.ghost (Ghost.only [(1, 1)] [0, 1, 5, 6, 7, 9] rfl) (LoopT.run (fun q : Int × Int × (List Int) => (⟨[(0, .v (.sl (.int .i64)) p0), (1, .v (.sl (.int .i64)) p1), (5, .own 1), (6, .v (.int .i64) v4), (7, .v (.int .i64) q.1), (9, .v (.int .i64) q.2.1)], [(1, .arr 3 (.int .i64) q.2.2)], 79⟩ : St)) (fun q z2 h hz2 => ?_) h))
          obtain ⟨v30, v31, v32⟩ := q
          dsimp only
          rw [m_triviumref02_Mul_l3] at h
          refine T.seq ?_
          refine T.seq ?_
          refine T.region ?_
          refine Run.go (Ev.move rfl rfl) ?_
          refine Run.go (Ev.int rfl rfl rfl rfl trivial) ?_
          refine Run.nil ?_
          refine T.cond rfl (fun hb33 => ?_) (fun hb33 => ?_)
          · replace h := ifT hb33 h
            refine T.skip ?_
            refine T.seq ?_
            refine T.block ?_
            refine T.seq ?_
            refine T.region ?_
            refine Run.go (Ev.move rfl rfl) ?_
            refine Run.go (Ev.move rfl rfl) ?_
            refine Run.go (Ev.move rfl rfl) ?_
            obtain ⟨x34, e35, h⟩ := bdS h
            refine Run.go (Ev.e_rdO X e35 rfl rfl rfl rfl rfl) ?_
            refine Run.go (Ev.e_ldO X (rdS e35).2 rfl rfl rfl rfl) ?_
            refine Run.go (Ev.int rfl rfl rfl rfl trivial) ?_
            refine Run.go (Ev.assign rfl rfl) ?_
            refine Run.nil ?_
            refine T.seq ?_
            refine T.region ?_
            refine Run.go (Ev.move rfl rfl) ?_
            refine Run.go (Ev.move rfl rfl) ?_
            refine Run.go (Ev.move rfl rfl) ?_
            obtain ⟨x36, e37, h⟩ := bdS h
            refine Run.go (Ev.e_rm e37 rfl rfl rfl) ?_
            obtain ⟨j38, e39, h⟩ := bdS h
            refine Run.go (Ev.e_ixO X e39 rfl rfl rfl rfl rfl) ?_
            obtain ⟨x40, e41, h⟩ := ltS h
            refine Run.do_ (Ev.asO (Ev.storeEl X rfl rfl rfl rfl rfl) e41) ?_
            refine Run.nil ?_
            refine T.region ?_
            refine Run.go (Ev.move rfl rfl) ?_
            obtain ⟨x42, e43, h⟩ := bdS h
            refine Run.go (Ev.e_qd e43 rfl rfl rfl) ?_
            refine Run.go (Ev.assign rfl rfl) ?_
            refine Run.nil ?_
            refine T.region ?_
            refine Run.go (Ev.move rfl rfl) ?_
            refine Run.go (Ev.int rfl rfl rfl rfl trivial) ?_
            refine Run.go (Ev.assign rfl rfl) ?_
            refine Run.nil ?_
            cases h
            exact LoopT.ghost (Ghost.only [(1, 1)] [0, 1, 5, 6, 7, 9] rfl) hz2
          · replace h := ifF hb33 h
            refine T.exit ?_
            cases h
            cases hz2
            exact ⟨(), trivial, Ghost.only [(1, 1)] [0, 1, 5, 6] rfl⟩
      · refine T.region ?_
        refine Run.go (Ev.move rfl rfl) ?_
        refine Run.go (Ev.int rfl rfl rfl rfl trivial) ?_
        refine Run.go (Ev.assign rfl rfl) ?_
        refine Run.nil ?_
        cases h
        exact LoopT.ghost (Ghost.only [(1, 1)] [0, 1, 5, 6] rfl) hz1
    · replace h := ifF hb6 h
      refine T.exit ?_
      cases h
      cases hz1
      exact ⟨(), trivial, Ghost.only [(1, 1)] [5] rfl⟩
  · refine T.seq ?_
    refine T.region ?_
    refine Run.go (Ev.move rfl rfl) ?_
    refine Run.ghost (Ghost.firmAll (id := 1) rfl) ?_
    obtain ⟨x44, e45, h⟩ := bdS h
    refine Run.go (Ev.callC en90 (k_triviumref02_Trim e45) rfl (.cons .v .nil) rfl rfl) ?_
    refine Run.go (Ev.assign rfl rfl) ?_
    refine Run.nil ?_
    refine T.ret ?_
    cases h
    exact Fin.one rfl .v
theorem en119 : Enters Tryz.prog 119 := ⟨_, Tryz.func119, rfl, rfl⟩
theorem k_triviumref07_Mul {p0 : D_triviumref07_Z} {p1 : D_triviumref07_Z} {y : D_triviumref07_Z} (h : m_triviumref07_Mul p0 p1 = some y) : Spec Tryz.prog 119 [(.v Y_triviumref07_Z p0), (.v Y_triviumref07_Z p1)] (.v Y_triviumref07_Z y) [] := by
  rw [m_triviumref07_Mul] at h
  refine enterN [(.v Y_triviumref07_Z p0), (.v Y_triviumref07_Z p1)] 16 Tryz.func119 rfl rfl rfl ?_
  refine T.seq ?_
  refine T.region ?_
  refine Run.go (Ev.box 1 rfl rfl rfl rfl) ?_
  refine Run.go (Ev.box 2 rfl rfl rfl rfl) ?_
  refine Run.go (Ev.allocN X 3 rfl rfl rfl) ?_
  refine Run.nil ?_
  refine T.seq ?_
  refine T.drawM [11] [0, 1, 0, 4, 15, 0, 32, 0, 128, 480, 1023, 2047] (by kernel_rfl) (by kernel_rfl) ?_
  refine RunD.a rfl rfl (Ev.fieldBox X rfl rfl rfl rfl rfl) ?_
  refine RunD.a rfl rfl (Ev.loadCell X rfl rfl rfl rfl rfl rfl) ?_
  refine RunD.a rfl rfl (Ev.fieldBox X rfl rfl rfl rfl rfl) ?_
  refine RunD.a rfl rfl (Ev.loadCell X rfl rfl rfl rfl rfl rfl) ?_
  refine RunD.w (fun _ => Ev.bools X rfl rfl rfl rfl rfl) ?_
  refine RunD.a rfl rfl (Ev.fieldBox X rfl rfl rfl rfl rfl) ?_
  refine RunD.a rfl rfl (Ev.loadCell X rfl rfl rfl rfl rfl rfl) ?_
  refine RunD.a rfl rfl (Ev.fieldBox X rfl rfl rfl rfl rfl) ?_
  refine RunD.a rfl rfl (Ev.loadCell X rfl rfl rfl rfl rfl rfl) ?_
  obtain ⟨x1, e2, h⟩ := bdS h
  refine RunD.a rfl rfl (Ev.callC en121 (k_triviumref02_Mul e2) rfl (.cons .v (.cons .v .nil)) rfl rfl) ?_
  obtain ⟨x3, e4, h⟩ := bdS h
  refine RunD.a rfl rfl (Ev.callC en68 (k_triviumref07_made e4) rfl (.cons .v (.cons .v .nil)) rfl rfl) ?_
  refine RunD.mN rfl (Ev.storeBox X rfl rfl rfl rfl rfl rfl rfl) ?_
  refine RunD.nil ?_
  refine T.ret ?_
  cases h
  exact Fin.cell X rfl rfl rfl rfl rfl
end Go.Proofs.YtbmogniipgmkiaaGreat.AE
/- The code comes to the printed functions (printed by a program of ours). -/
namespace Go.Proofs.YtbmogniipgmkiaaGreat.AE
open Go Go.RowKit Go.Proofs.YtbmogniipgmkiaaGreat.AP
set_option linter.unusedVariables false
set_option maxRecDepth 20000
theorem en129 : Enters Tryz.prog 129 := ⟨_, Tryz.func129, rfl, rfl⟩
theorem k_triviumref02_Add {p0 : (List Int)} {p1 : (List Int)} {y : (List Int)} (h : m_triviumref02_Add p0 p1 = some y) : Spec Tryz.prog 129 [(.v (.sl (.int .i64)) p0), (.v (.sl (.int .i64)) p1)] (.v (.sl (.int .i64)) y) [] := by
  rw [m_triviumref02_Add] at h
  refine enterN [(.v (.sl (.int .i64)) p0), (.v (.sl (.int .i64)) p1)] 50 Tryz.func129 rfl rfl rfl ?_
  refine T.seq ?_
  refine T.region ?_
  refine Run.go (Ev.assign rfl rfl) ?_
  refine Run.nil ?_
  refine T.seq ?_
  refine T.region ?_
  refine Run.go (Ev.build X 1 rfl rfl rfl rfl rfl rfl rfl rfl) ?_
  refine Run.go (Ev.assign rfl rfl) ?_
  refine Run.go (Ev.assign rfl rfl) ?_
  refine Run.nil ?_
  obtain ⟨⟨v1, v2⟩, hv, h⟩ := bdS h
  refine T.cut (fun _ : Unit => (⟨[(5, .own 7), (6, .v (.int .i64) v1)], [(7, .arr 3 (.int .i64) v2)], 50⟩ : St)) (fun _ => True) ?_ (fun _ _ => ?_)
  · replace h := hv
    clear hv
    refine T.seq ?_
    refine T.region ?_
    refine Run.go (Ev.assign rfl rfl) ?_
    refine Run.nil ?_
    refine T.block ?_
    refine T.loop (LoopT.ghost (Ghost.only [(1, 23)] [0, 1, 5, 6, 7] rfl) (LoopT.run (fun q : Int × Int × (List Int) => (⟨[(0, .v (.sl (.int .i64)) p0), (1, .v (.sl (.int .i64)) p1), (5, .own 23), (6, .v (.int .i64) q.1), (7, .v (.int .i64) q.2.1)], [(23, .arr 3 (.int .i64) q.2.2)], 50⟩ : St)) (fun q z1 h hz1 => ?_) h))
    obtain ⟨v3, v4, v5⟩ := q
    dsimp only
    rw [m_triviumref02_Add_l1] at h
    refine T.seq ?_
    refine T.seq ?_
    refine T.region ?_
    refine Run.go (Ev.move rfl rfl) ?_
    refine Run.go (Ev.move rfl rfl) ?_
    refine Run.go (Ev.len X rfl rfl rfl rfl) ?_
    refine Run.go (Ev.move rfl rfl) ?_
    refine Run.go (Ev.len X rfl rfl rfl rfl) ?_
    refine Run.go (Ev.max rfl rfl rfl) ?_
    refine Run.go (Ev.int rfl rfl rfl rfl trivial) ?_
    refine Run.nil ?_
    refine T.cond rfl (fun hb6 => ?_) (fun hb6 => ?_)
    · replace h := ifT hb6 h
      refine T.skip ?_
      refine T.seq ?_
      refine T.block ?_
      obtain ⟨v7, hv, h⟩ := bdS h
      refine T.cut (fun _ : Unit => (⟨[(0, .v (.sl (.int .i64)) p0), (1, .v (.sl (.int .i64)) p1), (5, .own 23), (6, .v (.int .i64) v7), (7, .v (.int .i64) v4)], [(23, .arr 3 (.int .i64) v5)], 50⟩ : St)) (fun _ => True) ?_ (fun _ _ => ?_)
      · replace h := hv
        clear hv
        refine T.seq ?_
        refine T.region ?_
        refine Run.go (Ev.move rfl rfl) ?_
        refine Run.go (Ev.move rfl rfl) ?_
        refine Run.go (Ev.len X rfl rfl rfl rfl) ?_
        refine Run.go (Ev.int rfl rfl rfl rfl trivial) ?_
        refine Run.nil ?_
        refine T.cond rfl (fun hb8 => ?_) (fun hb8 => ?_)
        · replace h := ifT hb8 h
          refine T.region ?_
          refine Run.go (Ev.move rfl rfl) ?_
          refine Run.go (Ev.move rfl rfl) ?_
          refine Run.go (Ev.move rfl rfl) ?_
          obtain ⟨x9, e10, h⟩ := bdS h
          refine Run.go (Ev.e_rd X e10 rfl rfl rfl rfl) ?_
          refine Run.go (Ev.load X rfl rfl rfl) ?_
          refine Run.go (Ev.int rfl rfl rfl rfl trivial) ?_
          refine Run.go (Ev.assign rfl rfl) ?_
          refine Run.nil ?_
          cases h
          exact ⟨(), trivial, Ghost.only [(23, 23)] [0, 1, 5, 6, 7] rfl⟩
        · replace h := ifF hb8 h
          refine T.skip ?_
          cases h
          exact ⟨(), trivial, Ghost.only [(23, 23)] [0, 1, 5, 6, 7] rfl⟩
      · obtain ⟨v11, hv, h⟩ := bdS h
        refine T.cut (fun _ : Unit => (⟨[(0, .v (.sl (.int .i64)) p0), (1, .v (.sl (.int .i64)) p1), (5, .own 23), (6, .v (.int .i64) v11), (7, .v (.int .i64) v4)], [(23, .arr 3 (.int .i64) v5)], 50⟩ : St)) (fun _ => True) ?_ (fun _ _ => ?_)
        · replace h := hv
          clear hv
          refine T.seq ?_
          refine T.region ?_
          refine Run.go (Ev.move rfl rfl) ?_
          refine Run.go (Ev.move rfl rfl) ?_
          refine Run.go (Ev.len X rfl rfl rfl rfl) ?_
          refine Run.go (Ev.int rfl rfl rfl rfl trivial) ?_
          refine Run.nil ?_
          refine T.cond rfl (fun hb12 => ?_) (fun hb12 => ?_)
          · replace h := ifT hb12 h
            refine T.region ?_
            refine Run.go (Ev.move rfl rfl) ?_
            refine Run.go (Ev.move rfl rfl) ?_
            refine Run.go (Ev.move rfl rfl) ?_
            obtain ⟨x13, e14, h⟩ := bdS h
            refine Run.go (Ev.e_rd X e14 rfl rfl rfl rfl) ?_
            refine Run.go (Ev.load X rfl rfl rfl) ?_
            refine Run.go (Ev.int rfl rfl rfl rfl trivial) ?_
            refine Run.go (Ev.assign rfl rfl) ?_
            refine Run.nil ?_
            cases h
            exact ⟨(), trivial, Ghost.only [(23, 23)] [0, 1, 5, 6, 7] rfl⟩
          · replace h := ifF hb12 h
            refine T.skip ?_
            cases h
            exact ⟨(), trivial, Ghost.only [(23, 23)] [0, 1, 5, 6, 7] rfl⟩
        · refine T.seq ?_
          refine T.region ?_
          refine Run.go (Ev.move rfl rfl) ?_
          refine Run.go (Ev.move rfl rfl) ?_
          obtain ⟨x15, e16, h⟩ := bdS h
          refine Run.go (Ev.e_rm e16 rfl rfl rfl) ?_
          refine Run.go (Ev.build X 31 rfl rfl rfl rfl rfl rfl rfl rfl) ?_
          obtain ⟨x17, e18, h⟩ := bdS h
          refine Run.go (Ev.e_ap X 32 e18 rfl rfl rfl (.own rfl) rfl rfl rfl rfl rfl) ?_
          refine Run.go (Ev.assign rfl rfl) ?_
          refine Run.nil ?_
          refine T.region ?_
          refine Run.go (Ev.move rfl rfl) ?_
          obtain ⟨x19, e20, h⟩ := bdS h
          refine Run.go (Ev.e_qd e20 rfl rfl rfl) ?_
          refine Run.go (Ev.assign rfl rfl) ?_
          refine Run.nil ?_
          refine T.region ?_
          refine Run.go (Ev.move rfl rfl) ?_
          refine Run.go (Ev.int rfl rfl rfl rfl trivial) ?_
          refine Run.go (Ev.assign rfl rfl) ?_
          refine Run.nil ?_
          cases h
          exact LoopT.ghost (Ghost.only [(32, 23)] [0, 1, 5, 6, 7] rfl) hz1
    · replace h := ifF hb6 h
      refine T.exit ?_
      cases h
      cases hz1
      exact ⟨(), trivial, Ghost.only [(23, 7)] [5, 6] rfl⟩
  · refine T.seq ?_
    refine T.region ?_
    refine Run.go (Ev.move rfl rfl) ?_
    refine Run.go (Ev.move rfl rfl) ?_
    refine Run.go (Ev.build X 33 rfl rfl rfl rfl rfl rfl rfl rfl) ?_
    obtain ⟨x21, e22, h⟩ := bdS h
    refine Run.go (Ev.e_ap X 34 e22 rfl rfl rfl (.own rfl) rfl rfl rfl rfl rfl) ?_
    refine Run.ghost (Ghost.firmAll (id := 34) rfl) ?_
    obtain ⟨x23, e24, h⟩ := bdS h
    refine Run.go (Ev.callC en90 (k_triviumref02_Trim e24) rfl (.cons .v .nil) rfl rfl) ?_
    refine Run.go (Ev.assign rfl rfl) ?_
    refine Run.nil ?_
    refine T.ret ?_
    cases h
    exact Fin.one rfl .v
theorem en120 : Enters Tryz.prog 120 := ⟨_, Tryz.func120, rfl, rfl⟩
theorem k_triviumref07_Add {p0 : D_triviumref07_Z} {p1 : D_triviumref07_Z} {y : D_triviumref07_Z} (h : m_triviumref07_Add p0 p1 = some y) : Spec Tryz.prog 120 [(.v Y_triviumref07_Z p0), (.v Y_triviumref07_Z p1)] (.v Y_triviumref07_Z y) [] := by
  rw [m_triviumref07_Add] at h
  refine enterN [(.v Y_triviumref07_Z p0), (.v Y_triviumref07_Z p1)] 40 Tryz.func120 rfl rfl rfl ?_
  refine T.seq ?_
  refine T.region ?_
  refine Run.go (Ev.box 1 rfl rfl rfl rfl) ?_
  refine Run.go (Ev.box 2 rfl rfl rfl rfl) ?_
  refine Run.go (Ev.allocN X 3 rfl rfl rfl) ?_
  refine Run.nil ?_
  refine T.seq ?_
  refine T.seq ?_
  refine T.region ?_
  refine Run.go (Ev.fieldBox X rfl rfl rfl rfl rfl) ?_
  refine Run.go (Ev.loadCell X rfl rfl rfl rfl rfl rfl) ?_
  refine Run.go (Ev.fieldBox X rfl rfl rfl rfl rfl) ?_
  refine Run.go (Ev.loadCell X rfl rfl rfl rfl rfl rfl) ?_
  refine Run.go (Ev.bools X rfl rfl rfl rfl rfl) ?_
  refine Run.nil ?_
  refine T.cond rfl (fun hb1 => ?_) (fun hb1 => ?_)
  · replace h := ifT hb1 h
    refine T.seq ?_
    refine T.drawM [8] [0, 1, 0, 4, 0, 16, 60, 127, 255] (by kernel_rfl) (by kernel_rfl) ?_
    refine RunD.a rfl rfl (Ev.fieldBox X rfl rfl rfl rfl rfl) ?_
    refine RunD.a rfl rfl (Ev.loadCell X rfl rfl rfl rfl rfl rfl) ?_
    refine RunD.a rfl rfl (Ev.fieldBox X rfl rfl rfl rfl rfl) ?_
    refine RunD.a rfl rfl (Ev.loadCell X rfl rfl rfl rfl rfl rfl) ?_
    refine RunD.a rfl rfl (Ev.fieldBox X rfl rfl rfl rfl rfl) ?_
    refine RunD.a rfl rfl (Ev.loadCell X rfl rfl rfl rfl rfl rfl) ?_
    obtain ⟨x2, e3, h⟩ := bdS h
    refine RunD.a rfl rfl (Ev.callC en129 (k_triviumref02_Add e3) rfl (.cons .v (.cons .v .nil)) rfl rfl) ?_
    obtain ⟨x4, e5, h⟩ := bdS h
    refine RunD.a rfl rfl (Ev.callC en68 (k_triviumref07_made e5) rfl (.cons .v (.cons .v .nil)) rfl rfl) ?_
    refine RunD.mN rfl (Ev.storeBox X rfl rfl rfl rfl rfl rfl rfl) ?_
    refine RunD.nil ?_
    refine T.ret ?_
    cases h
    exact Fin.cell X rfl rfl rfl rfl rfl
  · replace h := ifF hb1 h
    refine T.skip ?_
    refine T.seq ?_
    refine T.seq ?_
    refine T.region ?_
    refine Run.go (Ev.fieldBox X rfl rfl rfl rfl rfl) ?_
    refine Run.go (Ev.loadCell X rfl rfl rfl rfl rfl rfl) ?_
    refine Run.go (Ev.fieldBox X rfl rfl rfl rfl rfl) ?_
    refine Run.go (Ev.loadCell X rfl rfl rfl rfl rfl rfl) ?_
    obtain ⟨x6, e7, h⟩ := bdS h
    refine Run.go (Ev.callC en91 (k_triviumref02_Cmp e7) rfl (.cons .v (.cons .v .nil)) rfl rfl) ?_
    refine Run.go (Ev.int rfl rfl rfl rfl trivial) ?_
    refine Run.nil ?_
    refine T.cond rfl (fun hb8 => ?_) (fun hb8 => ?_)
    · replace h := ifT hb8 h
      refine T.seq ?_
      refine T.drawM [8] [0, 1, 0, 4, 0, 16, 60, 127, 255] (by kernel_rfl) (by kernel_rfl) ?_
      refine RunD.a rfl rfl (Ev.fieldBox X rfl rfl rfl rfl rfl) ?_
      refine RunD.a rfl rfl (Ev.loadCell X rfl rfl rfl rfl rfl rfl) ?_
      refine RunD.a rfl rfl (Ev.fieldBox X rfl rfl rfl rfl rfl) ?_
      refine RunD.a rfl rfl (Ev.loadCell X rfl rfl rfl rfl rfl rfl) ?_
      refine RunD.a rfl rfl (Ev.fieldBox X rfl rfl rfl rfl rfl) ?_
      refine RunD.a rfl rfl (Ev.loadCell X rfl rfl rfl rfl rfl rfl) ?_
      obtain ⟨x9, e10, h⟩ := bdS h
      refine RunD.a rfl rfl (Ev.callC en92 (k_triviumref02_Sub e10) rfl (.cons .v (.cons .v .nil)) rfl rfl) ?_
      obtain ⟨x11, e12, h⟩ := bdS h
      refine RunD.a rfl rfl (Ev.callC en68 (k_triviumref07_made e12) rfl (.cons .v (.cons .v .nil)) rfl rfl) ?_
      refine RunD.mN rfl (Ev.storeBox X rfl rfl rfl rfl rfl rfl rfl) ?_
      refine RunD.nil ?_
      refine T.ret ?_
      cases h
      exact Fin.cell X rfl rfl rfl rfl rfl
    · replace h := ifF hb8 h
      refine T.skip ?_
      refine T.seq ?_
      refine T.drawM [8] [0, 1, 0, 4, 0, 16, 60, 127, 255] (by kernel_rfl) (by kernel_rfl) ?_
      refine RunD.a rfl rfl (Ev.fieldBox X rfl rfl rfl rfl rfl) ?_
      refine RunD.a rfl rfl (Ev.loadCell X rfl rfl rfl rfl rfl rfl) ?_
      refine RunD.a rfl rfl (Ev.fieldBox X rfl rfl rfl rfl rfl) ?_
      refine RunD.a rfl rfl (Ev.loadCell X rfl rfl rfl rfl rfl rfl) ?_
      refine RunD.a rfl rfl (Ev.fieldBox X rfl rfl rfl rfl rfl) ?_
      refine RunD.a rfl rfl (Ev.loadCell X rfl rfl rfl rfl rfl rfl) ?_
      obtain ⟨x13, e14, h⟩ := bdS h
      refine RunD.a rfl rfl (Ev.callC en92 (k_triviumref02_Sub e14) rfl (.cons .v (.cons .v .nil)) rfl rfl) ?_
      obtain ⟨x15, e16, h⟩ := bdS h
      refine RunD.a rfl rfl (Ev.callC en68 (k_triviumref07_made e16) rfl (.cons .v (.cons .v .nil)) rfl rfl) ?_
      refine RunD.mN rfl (Ev.storeBox X rfl rfl rfl rfl rfl rfl rfl) ?_
      refine RunD.nil ?_
      refine T.ret ?_
      cases h
      exact Fin.cell X rfl rfl rfl rfl rfl
theorem en110 : Enters Tryz.prog 110 := ⟨_, Tryz.func110, rfl, rfl⟩
theorem k_triviumref08_Add {p0 : D_triviumref08_Q} {p1 : D_triviumref08_Q} {y : D_triviumref08_Q} (h : m_triviumref08_Add p0 p1 = some y) : Spec Tryz.prog 110 [(.v Y_triviumref08_Q p0), (.v Y_triviumref08_Q p1)] (.v Y_triviumref08_Q y) [] := by
  rw [m_triviumref08_Add] at h
  refine enterN [(.v Y_triviumref08_Q p0), (.v Y_triviumref08_Q p1)] 28 Tryz.func110 rfl rfl rfl ?_
  refine T.seq ?_
  refine T.region ?_
  refine Run.go (Ev.box 1 rfl rfl rfl rfl) ?_
  refine Run.go (Ev.box 2 rfl rfl rfl rfl) ?_
  refine Run.go (Ev.allocN X 3 rfl rfl rfl) ?_
  refine Run.nil ?_
  refine T.seq ?_
  refine T.drawE [([1], []), ([1], []), ([2], []), ([2], []), ([], []), ([], []), ([2], []), ([2], []), ([1], []), ([1], []), ([], []), ([], []), ([6], [6]), ([7], [7]), ([6], [6]), ([7], [7])] [0, 1, 0, 4, 12, 31, 0, 64, 0, 256, 768, 2047, 0, 0, 16383, 32767] (by kernel_rfl) (by kernel_rfl) ?_
  refine RunE.go0 [1] (fun ô hô => Ev.fieldBox X rfl (ka hô rfl rfl) rfl rfl rfl) rfl rfl ?_
  refine RunE.go0 [1] (fun ô hô => Ev.loadBox X rfl (ka hô rfl rfl) rfl rfl rfl) rfl rfl ?_
  refine RunE.go0 [2] (fun ô hô => Ev.fieldBox X rfl (ka hô rfl rfl) rfl rfl rfl) rfl rfl ?_
  refine RunE.go0 [2] (fun ô hô => Ev.loadCell X rfl (ka hô rfl rfl) rfl rfl rfl rfl) rfl rfl ?_
  refine RunE.go0 [] (fun ô hô => Ev.structC pl86 zs86 rfl rfl rfl) rfl rfl ?_
  obtain ⟨x1, e2, h⟩ := bdS h
  refine RunE.go0 [] (fun ô hô => Ev.callC en119 (k_triviumref07_Mul e2) rfl (.cons .v (.cons (.st rfl rfl) .nil)) rfl rfl) rfl rfl ?_
  refine RunE.go0 [2] (fun ô hô => Ev.fieldBox X rfl (ka hô rfl rfl) rfl rfl rfl) rfl rfl ?_
  refine RunE.go0 [2] (fun ô hô => Ev.loadBox X rfl (ka hô rfl rfl) rfl rfl rfl) rfl rfl ?_
  refine RunE.go0 [1] (fun ô hô => Ev.fieldBox X rfl (ka hô rfl rfl) rfl rfl rfl) rfl rfl ?_
  refine RunE.go0 [1] (fun ô hô => Ev.loadCell X rfl (ka hô rfl rfl) rfl rfl rfl rfl) rfl rfl ?_
  refine RunE.go0 [] (fun ô hô => Ev.structC pl86 zs86 rfl rfl rfl) rfl rfl ?_
  obtain ⟨x3, e4, h⟩ := bdS h
  refine RunE.go0 [] (fun ô hô => Ev.callC en119 (k_triviumref07_Mul e4) rfl (.cons .v (.cons (.st rfl rfl) .nil)) rfl rfl) rfl rfl ?_
  refine RunE.go1 [6] (fun ô hô => Ev.allocN X 6 rfl (ka hô rfl rfl) rfl) rfl rfl ?_
  refine RunE.go1 [7] (fun ô hô => Ev.allocN X 7 rfl (ka hô rfl rfl) rfl) rfl rfl ?_
  refine RunE.do1 [6] (fun ô hô => Ev.storeBox X rfl (ka hô rfl rfl) rfl rfl rfl rfl rfl) rfl rfl ?_
  refine RunE.do1 [7] (fun ô hô => Ev.storeBox X rfl (ka hô rfl rfl) rfl rfl rfl rfl rfl) rfl rfl ?_
  refine RunE.nil ?_
  refine T.seq ?_
  refine T.drawM [9] [0, 0, 3, 0, 8, 0, 32, 127, 255, 511] (by kernel_rfl) (by kernel_rfl) ?_
  refine RunD.a rfl rfl (Ev.loadBox X rfl rfl rfl rfl rfl) ?_
  refine RunD.a rfl rfl (Ev.loadBox X rfl rfl rfl rfl rfl) ?_
  obtain ⟨x5, e6, h⟩ := bdS h
  refine RunD.a rfl rfl (Ev.callC en120 (k_triviumref07_Add e6) rfl (.cons .v (.cons .v .nil)) rfl rfl) ?_
  refine RunD.a rfl rfl (Ev.fieldBox X rfl rfl rfl rfl rfl) ?_
  refine RunD.a rfl rfl (Ev.loadCell X rfl rfl rfl rfl rfl rfl) ?_
  refine RunD.a rfl rfl (Ev.fieldBox X rfl rfl rfl rfl rfl) ?_
  refine RunD.a rfl rfl (Ev.loadCell X rfl rfl rfl rfl rfl rfl) ?_
  obtain ⟨x7, e8, h⟩ := bdS h
  refine RunD.a rfl rfl (Ev.callC en121 (k_triviumref02_Mul e8) rfl (.cons .v (.cons .v .nil)) rfl rfl) ?_
  obtain ⟨x9, e10, h⟩ := bdS h
  refine RunD.a rfl rfl (Ev.callC en39 (k_triviumref08_Low e10) rfl (.cons .v (.cons .v .nil)) rfl rfl) ?_
  refine RunD.mN rfl (Ev.storeBox X rfl rfl rfl rfl rfl rfl rfl) ?_
  refine RunD.nil ?_
  refine T.ret ?_
  cases h
  exact Fin.cell X rfl rfl rfl rfl rfl
theorem en86 : Enters Tryz.prog 86 := ⟨_, Tryz.func86, rfl, rfl⟩
theorem k_triviumref08_Sub {p0 : D_triviumref08_Q} {p1 : D_triviumref08_Q} {y : D_triviumref08_Q} (h : m_triviumref08_Sub p0 p1 = some y) : Spec Tryz.prog 86 [(.v Y_triviumref08_Q p0), (.v Y_triviumref08_Q p1)] (.v Y_triviumref08_Q y) [] := by
  rw [m_triviumref08_Sub] at h
  refine enterN [(.v Y_triviumref08_Q p0), (.v Y_triviumref08_Q p1)] 9 Tryz.func86 rfl rfl rfl ?_
  refine T.seq ?_
  refine T.region ?_
  refine Run.go (Ev.box 1 rfl rfl rfl rfl) ?_
  refine Run.go (Ev.box 2 rfl rfl rfl rfl) ?_
  refine Run.go (Ev.allocN X 3 rfl rfl rfl) ?_
  refine Run.nil ?_
  refine T.seq ?_
  refine T.drawM [4] [0, 0, 2, 7, 15] (by kernel_rfl) (by kernel_rfl) ?_
  refine RunD.a rfl rfl (Ev.loadBox X rfl rfl rfl rfl rfl) ?_
  refine RunD.a rfl rfl (Ev.loadBox X rfl rfl rfl rfl rfl) ?_
  obtain ⟨x1, e2, h⟩ := bdS h
  refine RunD.a rfl rfl (Ev.callC en111 (k_triviumref08_Neg e2) rfl (.cons .v .nil) rfl rfl) ?_
  obtain ⟨x3, e4, h⟩ := bdS h
  refine RunD.a rfl rfl (Ev.callC en110 (k_triviumref08_Add e4) rfl (.cons .v (.cons .v .nil)) rfl rfl) ?_
  refine RunD.mN rfl (Ev.storeBox X rfl rfl rfl rfl rfl rfl rfl) ?_
  refine RunD.nil ?_
  refine T.ret ?_
  cases h
  exact Fin.cell X rfl rfl rfl rfl rfl
theorem en109 : Enters Tryz.prog 109 := ⟨_, Tryz.func109, rfl, rfl⟩
theorem k_triviumref07_Sign {p0 : D_triviumref07_Z} {y : Int} (h : m_triviumref07_Sign p0 = some y) : Spec Tryz.prog 109 [(.v Y_triviumref07_Z p0)] (.v (.int .i64) y) [] := by
  rw [m_triviumref07_Sign] at h
  refine enterN [(.v Y_triviumref07_Z p0)] 9 Tryz.func109 rfl rfl rfl ?_
  refine T.seq ?_
  refine T.region ?_
  refine Run.go (Ev.box 1 rfl rfl rfl rfl) ?_
  refine Run.go (Ev.assign rfl rfl) ?_
  refine Run.nil ?_
  refine T.seq ?_
  refine T.seq ?_
  refine T.region ?_
  refine Run.go (Ev.fieldBox X rfl rfl rfl rfl rfl) ?_
  refine Run.go (Ev.loadCell X rfl rfl rfl rfl rfl rfl) ?_
  refine Run.go (Ev.len X rfl rfl rfl rfl) ?_
  refine Run.go (Ev.int rfl rfl rfl rfl trivial) ?_
  refine Run.nil ?_
  refine T.cond rfl (fun hb1 => ?_) (fun hb1 => ?_)
  · replace h := ifT hb1 h
    refine T.seq ?_
    refine T.region ?_
    refine Run.go (Ev.assign rfl rfl) ?_
    refine Run.nil ?_
    refine T.ret ?_
    cases h
    exact Fin.one rfl .v
  · replace h := ifF hb1 h
    refine T.skip ?_
    refine T.seq ?_
    refine T.seq ?_
    refine T.region ?_
    refine Run.go (Ev.fieldBox X rfl rfl rfl rfl rfl) ?_
    refine Run.go (Ev.loadCell X rfl rfl rfl rfl rfl rfl) ?_
    refine Run.nil ?_
    refine T.cond rfl (fun hb2 => ?_) (fun hb2 => ?_)
    · replace h := ifT hb2 h
      refine T.seq ?_
      refine T.region ?_
      refine Run.go (Ev.assign rfl rfl) ?_
      refine Run.nil ?_
      refine T.ret ?_
      cases h
      exact Fin.one rfl .v
    · replace h := ifF hb2 h
      refine T.skip ?_
      refine T.seq ?_
      refine T.region ?_
      refine Run.go (Ev.assign rfl rfl) ?_
      refine Run.nil ?_
      refine T.ret ?_
      cases h
      exact Fin.one rfl .v
theorem en85 : Enters Tryz.prog 85 := ⟨_, Tryz.func85, rfl, rfl⟩
theorem k_triviumref08_Sign {p0 : D_triviumref08_Q} {y : Int} (h : m_triviumref08_Sign p0 = some y) : Spec Tryz.prog 85 [(.v Y_triviumref08_Q p0)] (.v (.int .i64) y) [] := by
  rw [m_triviumref08_Sign] at h
  refine enterN [(.v Y_triviumref08_Q p0)] 6 Tryz.func85 rfl rfl rfl ?_
  refine T.seq ?_
  refine T.region ?_
  refine Run.go (Ev.box 1 rfl rfl rfl rfl) ?_
  refine Run.go (Ev.assign rfl rfl) ?_
  refine Run.nil ?_
  refine T.seq ?_
  refine T.region ?_
  refine Run.go (Ev.fieldBox X rfl rfl rfl rfl rfl) ?_
  refine Run.go (Ev.loadBox X rfl rfl rfl rfl rfl) ?_
  obtain ⟨x1, e2, h⟩ := bdS h
  refine Run.go (Ev.callC en109 (k_triviumref07_Sign e2) rfl (.cons .v .nil) rfl rfl) ?_
  refine Run.go (Ev.assign rfl rfl) ?_
  refine Run.nil ?_
  refine T.ret ?_
  cases h
  exact Fin.one rfl .v
theorem en57 : Enters Tryz.prog 57 := ⟨_, Tryz.func57, rfl, rfl⟩
theorem k_triviumref08_Cmp {p0 : D_triviumref08_Q} {p1 : D_triviumref08_Q} {y : Int} (h : m_triviumref08_Cmp p0 p1 = some y) : Spec Tryz.prog 57 [(.v Y_triviumref08_Q p0), (.v Y_triviumref08_Q p1)] (.v (.int .i64) y) [] := by
  rw [m_triviumref08_Cmp] at h
  refine enterN [(.v Y_triviumref08_Q p0), (.v Y_triviumref08_Q p1)] 9 Tryz.func57 rfl rfl rfl ?_
  refine T.seq ?_
  refine T.region ?_
  refine Run.go (Ev.box 1 rfl rfl rfl rfl) ?_
  refine Run.go (Ev.box 2 rfl rfl rfl rfl) ?_
  refine Run.go (Ev.assign rfl rfl) ?_
  refine Run.nil ?_
  refine T.seq ?_
  refine T.region ?_
  refine Run.go (Ev.loadBox X rfl rfl rfl rfl rfl) ?_
  refine Run.go (Ev.loadBox X rfl rfl rfl rfl rfl) ?_
  obtain ⟨x1, e2, h⟩ := bdS h
  refine Run.go (Ev.callC en86 (k_triviumref08_Sub e2) rfl (.cons .v (.cons .v .nil)) rfl rfl) ?_
  obtain ⟨x3, e4, h⟩ := bdS h
  refine Run.go (Ev.callC en85 (k_triviumref08_Sign e4) rfl (.cons .v .nil) rfl rfl) ?_
  refine Run.go (Ev.assign rfl rfl) ?_
  refine Run.nil ?_
  refine T.ret ?_
  cases h
  exact Fin.one rfl .v
theorem en60 : Enters Tryz.prog 60 := ⟨_, Tryz.func60, rfl, rfl⟩
theorem k_triviumref23_group {p0 : D_api_Net} {p1 : D_api_Rule} {p2 : (List D_api_Hop)} {y : Bool} (h : m_triviumref23_group p0 p1 p2 = some y) : Spec Tryz.prog 60 [(.v Y_api_Net p0), (.v Y_api_Rule p1), (.v (.sl Y_api_Hop) p2)] (.v .bool y) [] := by
  rw [m_triviumref23_group] at h
  refine enterN [(.v Y_api_Net p0), (.v Y_api_Rule p1), (.v (.sl Y_api_Hop) p2)] 60 Tryz.func60 rfl rfl rfl ?_
  refine T.seq ?_
  refine T.region ?_
  refine Run.go (Ev.box 1 rfl rfl rfl rfl) ?_
  refine Run.go (Ev.box 2 rfl rfl rfl rfl) ?_
  refine Run.go (Ev.assign rfl rfl) ?_
  refine Run.nil ?_
  refine T.seq ?_
  refine T.seq ?_
  refine T.region ?_
  refine Run.go (Ev.assign rfl rfl) ?_
  refine Run.nil ?_
  refine T.block ?_
  refine T.loop (LoopT.ghost (Ghost.only [(1, 1), (2, 2)] [2, 3, 4, 7] rfl) (LoopT.run (fun q : Int => (⟨[(2, .v (.sl Y_api_Hop) p2), (3, .box 1 0), (4, .box 2 0), (7, .v (.int .i64) q)], [(1, .box [.v .str p0.1, .v (.sl Y_api_Node) p0.2.1, .v (.sl Y_api_Link) p0.2.2.1, .v (.sl Y_api_Rule) p0.2.2.2]), (2, .box [.v .str p1.1, .v (.int .u32) p1.2.1.1, .v (.int .i64) p1.2.1.2, .v .bool p1.2.2.1, .v (.sl (.sl Y_api_Hop)) p1.2.2.2])], 60⟩ : St)) (fun v1 z1 h hz1 => ?_) h))
  rw [m_triviumref23_group_l1] at h
  refine T.seq ?_
  refine T.seq ?_
  refine T.region ?_
  refine Run.go (Ev.move rfl rfl) ?_
  refine Run.go (Ev.move rfl rfl) ?_
  refine Run.go (Ev.len X rfl rfl rfl rfl) ?_
  refine Run.go (Ev.int rfl rfl rfl rfl trivial) ?_
  refine Run.nil ?_
  refine T.cond rfl (fun hb2 => ?_) (fun hb2 => ?_)
  · replace h := ifT hb2 h
    refine T.skip ?_
    refine T.seq ?_
    refine T.block ?_
    refine T.seq ?_
    refine T.drawM [] [0, 0, 0, 6, 14, 30, 63, 127] (by kernel_rfl) (by kernel_rfl) ?_
    refine RunD.a rfl rfl (Ev.loadBox X rfl rfl rfl rfl rfl) ?_
    refine RunD.w (fun _ => Ev.move rfl rfl) ?_
    refine RunD.w (fun _ => Ev.move rfl rfl) ?_
    obtain ⟨x3, e4, h⟩ := bdS h
    refine RunD.a rfl rfl (Ev.e_rd X e4 rfl rfl rfl rfl) ?_
    refine RunD.a rfl rfl (Ev.fieldAddr X rfl rfl rfl rfl) ?_
    refine RunD.a rfl rfl (Ev.load X rfl rfl rfl) ?_
    obtain ⟨x5, e6, h⟩ := bdS h
    refine RunD.a rfl rfl (Ev.callC en11 (k_triviumref23_Link e6) rfl (.cons .v (.cons .v .nil)) rfl rfl) ?_
    refine RunD.w (fun _ => Ev.assign rfl rfl) ?_
    refine RunD.nil ?_
    refine T.seq ?_
    obtain ⟨v7, hv, h⟩ := bdS h
    refine T.cut (fun _ : Unit => (⟨[(2, .v (.sl Y_api_Hop) p2), (3, .box 1 0), (4, .box 2 0), (7, .v (.int .i64) v1), (43, .v .bool v7)], [(1, .box [.v .str p0.1, .v (.sl Y_api_Node) p0.2.1, .v (.sl Y_api_Link) p0.2.2.1, .v (.sl Y_api_Rule) p0.2.2.2]), (2, .box [.v .str p1.1, .v (.int .u32) p1.2.1.1, .v (.int .i64) p1.2.1.2, .v .bool p1.2.2.1, .v (.sl (.sl Y_api_Hop)) p1.2.2.2])], 60⟩ : St)) (fun _ => True) ?_ (fun _ _ => ?_)
    · replace h := hv
      clear hv
      refine T.drawM [] [0, 1, 3, 7, 15, 7, 63, 127, 255, 7, 519, 2047, 4095, 8191, 16383, 16383, 65535, 131071, 262143, 524287, 1048575] (by kernel_rfl) (by kernel_rfl) ?_
      refine RunD.w (fun _ => Ev.move rfl rfl) ?_
      refine RunD.w (fun _ => Ev.int rfl rfl rfl rfl trivial) ?_
      refine RunD.w (fun _ => Ev.move rfl rfl) ?_
      rcases boolCases (decide (x5 < 0)) with hb8 | hb8
      · replace h := ifT hb8 h
        refine RunD.offT rfl rfl rfl rfl hb8 ?_
        refine RunD.offT rfl rfl rfl rfl hb8 ?_
        refine RunD.offT rfl rfl rfl rfl hb8 ?_
        refine RunD.offT rfl rfl rfl rfl hb8 ?_
        refine RunD.offT rfl rfl rfl rfl hb8 ?_
        refine RunD.offT rfl rfl rfl rfl hb8 ?_
        refine RunD.offT rfl rfl rfl rfl hb8 ?_
        refine RunD.offT rfl rfl rfl rfl hb8 ?_
        refine RunD.offT rfl rfl rfl rfl hb8 ?_
        refine RunD.w (fun _ => Ev.pickT rfl hb8 rfl rfl) ?_
        refine RunD.w (fun _ => Ev.move rfl rfl) ?_
        refine RunD.offT rfl rfl rfl rfl rfl ?_
        refine RunD.offT rfl rfl rfl rfl rfl ?_
        refine RunD.offT rfl rfl rfl rfl rfl ?_
        refine RunD.offT rfl rfl rfl rfl rfl ?_
        refine RunD.offT rfl rfl rfl rfl rfl ?_
        refine RunD.offT rfl rfl rfl rfl rfl ?_
        refine RunD.w (fun _ => Ev.pickT rfl rfl rfl rfl) ?_
        refine RunD.nil ?_
        cases h
        exact ⟨(), trivial, Ghost.only [(1, 1), (2, 2)] [2, 3, 4, 7, 43] rfl⟩
      · replace h := ifF hb8 h
        refine RunD.on rfl rfl rfl hb8 rfl (fun ô hô => by obtain rfl := hô.resolve_left (by decide); exact Ev.fieldBox X rfl rfl rfl rfl rfl) ?_
        refine RunD.on rfl rfl rfl hb8 rfl (fun ô hô => by obtain rfl := hô.resolve_left (by decide); exact Ev.loadCell X rfl rfl rfl rfl rfl rfl) ?_
        refine RunD.on rfl rfl rfl hb8 rfl (fun _ _ => Ev.move rfl rfl) ?_
        obtain ⟨x9, e10, h⟩ := bdS h
        refine RunD.on rfl rfl rfl hb8 rfl (fun ô hô => by obtain rfl := hô.resolve_left (by decide); exact Ev.e_rd X e10 rfl rfl rfl rfl) ?_
        refine RunD.on rfl rfl rfl hb8 rfl (fun ô hô => by obtain rfl := hô.resolve_left (by decide); exact Ev.fieldAddr X rfl rfl rfl rfl) ?_
        refine RunD.on rfl rfl rfl hb8 rfl (fun ô hô => by obtain rfl := hô.resolve_left (by decide); exact Ev.load X rfl rfl rfl) ?_
        refine RunD.on rfl rfl rfl hb8 rfl (fun ô hô => by obtain rfl := hô.resolve_left (by decide); exact Ev.fieldBox X rfl rfl rfl rfl rfl) ?_
        refine RunD.on rfl rfl rfl hb8 rfl (fun ô hô => by obtain rfl := hô.resolve_left (by decide); exact Ev.loadCell X rfl rfl rfl rfl rfl rfl) ?_
        refine RunD.on rfl rfl rfl hb8 rfl (fun _ _ => Ev.strs rfl rfl rfl rfl trivial) ?_
        refine RunD.w (fun _ => Ev.pickF rfl hb8 rfl rfl) ?_
        refine RunD.w (fun _ => Ev.move rfl rfl) ?_
        rcases boolCases (!sq x9.2.1 p1.1) with hb11 | hb11
        · replace h := ifT hb11 h
          refine RunD.offT rfl rfl rfl rfl hb11 ?_
          refine RunD.offT rfl rfl rfl rfl hb11 ?_
          refine RunD.offT rfl rfl rfl rfl hb11 ?_
          refine RunD.offT rfl rfl rfl rfl hb11 ?_
          refine RunD.offT rfl rfl rfl rfl hb11 ?_
          refine RunD.offT rfl rfl rfl rfl hb11 ?_
          refine RunD.w (fun _ => Ev.pickT rfl hb11 rfl rfl) ?_
          refine RunD.nil ?_
          cases h
          exact ⟨(), trivial, Ghost.only [(1, 1), (2, 2)] [2, 3, 4, 7, 43] rfl⟩
        · replace h := ifF hb11 h
          refine RunD.on rfl rfl rfl hb11 rfl (fun _ _ => Ev.move rfl rfl) ?_
          refine RunD.on rfl rfl rfl hb11 rfl (fun _ _ => Ev.move rfl rfl) ?_
          obtain ⟨x12, e13, h⟩ := bdS h
          refine RunD.on rfl rfl rfl hb11 rfl (fun ô hô => by obtain rfl := hô.resolve_left (by decide); exact Ev.e_rd X e13 rfl rfl rfl rfl) ?_
          refine RunD.on rfl rfl rfl hb11 rfl (fun ô hô => by obtain rfl := hô.resolve_left (by decide); exact Ev.fieldAddr X rfl rfl rfl rfl) ?_
          refine RunD.on rfl rfl rfl hb11 rfl (fun ô hô => by obtain rfl := hô.resolve_left (by decide); exact Ev.load X rfl rfl rfl) ?_
          refine RunD.on rfl rfl rfl hb11 rfl (fun _ _ => Ev.int rfl rfl rfl rfl trivial) ?_
          refine RunD.w (fun _ => Ev.pickF rfl hb11 rfl rfl) ?_
          refine RunD.nil ?_
          cases h
          exact ⟨(), trivial, Ghost.only [(1, 1), (2, 2)] [2, 3, 4, 7, 43] rfl⟩
    · refine T.cond rfl (fun hb14 => ?_) (fun hb14 => ?_)
      · replace h := ifT hb14 h
        refine T.seq ?_
        refine T.region ?_
        refine Run.go (Ev.assign rfl rfl) ?_
        refine Run.nil ?_
        refine T.ret ?_
        cases h
        cases hz1
        exact Fin.one rfl .v
      · replace h := ifF hb14 h
        refine T.skip ?_
        refine T.seq ?_
        refine T.region ?_
        refine Run.go (Ev.assign rfl rfl) ?_
        refine Run.nil ?_
        refine T.block ?_
        refine T.loop (LoopT.ghost (Ghost.only [(1, 1), (2, 2)] [2, 3, 4, 7, 9] rfl) (LoopT.run (fun q : Int => (⟨[(2, .v (.sl Y_api_Hop) p2), (3, .box 1 0), (4, .box 2 0), (7, .v (.int .i64) v1), (9, .v (.int .i64) q)], [(1, .box [.v .str p0.1, .v (.sl Y_api_Node) p0.2.1, .v (.sl Y_api_Link) p0.2.2.1, .v (.sl Y_api_Rule) p0.2.2.2]), (2, .box [.v .str p1.1, .v (.int .u32) p1.2.1.1, .v (.int .i64) p1.2.1.2, .v .bool p1.2.2.1, .v (.sl (.sl Y_api_Hop)) p1.2.2.2])], 60⟩ : St)) (fun v15 z2 h hz2 => ?_) h))
        rw [m_triviumref23_group_l2] at h
        refine T.seq ?_
        refine T.seq ?_
        refine T.region ?_
        refine Run.go (Ev.move rfl rfl) ?_
        refine Run.go (Ev.move rfl rfl) ?_
        refine Run.go (Ev.int rfl rfl rfl rfl trivial) ?_
        refine Run.nil ?_
        refine T.cond rfl (fun hb16 => ?_) (fun hb16 => ?_)
        · replace h := ifT hb16 h
          refine T.skip ?_
          refine T.seq ?_
          refine T.block ?_
          refine T.seq ?_
          refine T.drawM [] [0, 0, 3, 7, 15, 0, 0, 96, 224, 480, 1023] (by kernel_rfl) (by kernel_rfl) ?_
          refine RunD.w (fun _ => Ev.move rfl rfl) ?_
          refine RunD.w (fun _ => Ev.move rfl rfl) ?_
          obtain ⟨x17, e18, h⟩ := bdS h
          refine RunD.a rfl rfl (Ev.e_rd X e18 rfl rfl rfl rfl) ?_
          refine RunD.a rfl rfl (Ev.fieldAddr X rfl rfl rfl rfl) ?_
          refine RunD.a rfl rfl (Ev.load X rfl rfl rfl) ?_
          refine RunD.w (fun _ => Ev.move rfl rfl) ?_
          refine RunD.w (fun _ => Ev.move rfl rfl) ?_
          obtain ⟨x19, e20, h⟩ := bdS h
          refine RunD.a rfl rfl (Ev.e_rd X e20 rfl rfl rfl rfl) ?_
          refine RunD.a rfl rfl (Ev.fieldAddr X rfl rfl rfl rfl) ?_
          refine RunD.a rfl rfl (Ev.load X rfl rfl rfl) ?_
          refine RunD.w (fun _ => Ev.strs rfl rfl rfl rfl trivial) ?_
          refine RunD.nil ?_
          refine T.cond rfl (fun hb21 => ?_) (fun hb21 => ?_)
          · replace h := ifT hb21 h
            refine T.seq ?_
            refine T.region ?_
            refine Run.go (Ev.assign rfl rfl) ?_
            refine Run.nil ?_
            refine T.ret ?_
            cases h
            cases hz2
            cases hz1
            exact Fin.one rfl .v
          · replace h := ifF hb21 h
            refine T.skip ?_
            refine T.region ?_
            refine Run.go (Ev.move rfl rfl) ?_
            refine Run.go (Ev.int rfl rfl rfl rfl trivial) ?_
            refine Run.go (Ev.assign rfl rfl) ?_
            refine Run.nil ?_
            cases h
            exact LoopT.ghost (Ghost.only [(1, 1), (2, 2)] [2, 3, 4, 7, 9] rfl) hz2
        · replace h := ifF hb16 h
          refine T.exit ?_
          refine T.region ?_
          refine Run.go (Ev.move rfl rfl) ?_
          refine Run.go (Ev.int rfl rfl rfl rfl trivial) ?_
          refine Run.go (Ev.assign rfl rfl) ?_
          refine Run.nil ?_
          cases h
          cases hz2
          exact LoopT.ghost (Ghost.only [(1, 1), (2, 2)] [2, 3, 4, 7] rfl) hz1
  · replace h := ifF hb2 h
    refine T.exit ?_
    refine T.seq ?_
    refine T.region ?_
    refine Run.go (Ev.assign rfl rfl) ?_
    refine Run.nil ?_
    refine T.ret ?_
    cases h
    cases hz1
    exact Fin.one rfl .v
end Go.Proofs.YtbmogniipgmkiaaGreat.AE
/- The code comes to the printed functions (printed by a program of ours). -/
namespace Go.Proofs.YtbmogniipgmkiaaGreat.AE
open Go Go.RowKit Go.Proofs.YtbmogniipgmkiaaGreat.AP
set_option linter.unusedVariables false
set_option maxRecDepth 20000
theorem en31 : Enters Tryz.prog 31 := ⟨_, Tryz.func31, rfl, rfl⟩
theorem k_triviumref23_net {p0 : D_api_Net} {y : Int} (h : m_triviumref23_net p0 = some y) : Spec Tryz.prog 31 [(.v Y_api_Net p0)] (.v (.int .i64) y) [] := by
  rw [m_triviumref23_net] at h
  refine enterN [(.v Y_api_Net p0)] 232 Tryz.func31 rfl rfl rfl ?_
  refine T.seq ?_
  refine T.region ?_
  refine Run.go (Ev.box 1 rfl rfl rfl rfl) ?_
  refine Run.go (Ev.assign rfl rfl) ?_
  refine Run.nil ?_
  refine T.seq ?_
  refine T.region ?_
  refine Run.go (Ev.build X 2 rfl rfl rfl rfl rfl rfl rfl rfl) ?_
  refine Run.go (Ev.build X 3 rfl rfl rfl rfl rfl rfl rfl rfl) ?_
  refine Run.go (Ev.assign rfl rfl) ?_
  refine Run.go (Ev.assign rfl rfl) ?_
  refine Run.nil ?_
  obtain ⟨v1, hv, h⟩ := bdS h
  refine T.cut (fun _ : Unit => (⟨[(1, .box 1 0), (3, .own 10), (4, .own 3)], [(1, .box [.v .str p0.1, .v (.sl Y_api_Node) p0.2.1, .v (.sl Y_api_Link) p0.2.2.1, .v (.sl Y_api_Rule) p0.2.2.2]), (10, .arr 9 .str v1), (3, .arr 9 .str ([] : List ByteArray))], 232⟩ : St)) (fun _ => True) ?_ (fun _ _ => ?_)
  · replace h := hv
    clear hv
    refine T.seq ?_
    refine T.region ?_
    refine Run.go (Ev.assign rfl rfl) ?_
    refine Run.nil ?_
    refine T.block ?_
    refine T.loop (LoopT.ghost (Ghost.only [(1, 1), (2, 33), (3, 3)] [1, 3, 4, 5] rfl) (LoopT.run (fun q : Int × (List ByteArray) => (⟨[(1, .box 1 0), (3, .own 33), (4, .own 3), (5, .v (.int .i64) q.1)], [(1, .box [.v .str p0.1, .v (.sl Y_api_Node) p0.2.1, .v (.sl Y_api_Link) p0.2.2.1, .v (.sl Y_api_Rule) p0.2.2.2]), (33, .arr 9 .str q.2), (3, .arr 9 .str ([] : List ByteArray))], 232⟩ : St)) (fun q z1 h hz1 => ?_) h))
    obtain ⟨v2, v3⟩ := q
    dsimp only
    rw [m_triviumref23_net_l1] at h
    refine T.seq ?_
    refine T.seq ?_
    refine T.region ?_
    refine Run.go (Ev.move rfl rfl) ?_
    refine Run.go (Ev.fieldBox X rfl rfl rfl rfl rfl) ?_
    refine Run.go (Ev.loadCell X rfl rfl rfl rfl rfl rfl) ?_
    refine Run.go (Ev.len X rfl rfl rfl rfl) ?_
    refine Run.go (Ev.int rfl rfl rfl rfl trivial) ?_
    refine Run.nil ?_
    refine T.cond rfl (fun hb4 => ?_) (fun hb4 => ?_)
    · replace h := ifT hb4 h
      refine T.skip ?_
      refine T.seq ?_
      refine T.block ?_
      refine T.region ?_
      refine Run.go (Ev.move rfl rfl) ?_
      refine Run.go (Ev.fieldBox X rfl rfl rfl rfl rfl) ?_
      refine Run.go (Ev.loadCell X rfl rfl rfl rfl rfl rfl) ?_
      refine Run.go (Ev.move rfl rfl) ?_
      obtain ⟨x5, e6, h⟩ := bdS h
      refine Run.go (Ev.e_rd X e6 rfl rfl rfl rfl) ?_
      refine Run.go (Ev.fieldAddr X rfl rfl rfl rfl) ?_
      refine Run.go (Ev.load X rfl rfl rfl) ?_
      refine Run.go (Ev.build X 40 rfl rfl rfl rfl rfl rfl rfl rfl) ?_
      obtain ⟨x7, e8, h⟩ := bdS h
      refine Run.go (Ev.e_ap X 41 e8 rfl rfl rfl (.own rfl) rfl rfl rfl rfl rfl) ?_
      refine Run.go (Ev.assign rfl rfl) ?_
      refine Run.nil ?_
      refine T.region ?_
      refine Run.go (Ev.move rfl rfl) ?_
      refine Run.go (Ev.int rfl rfl rfl rfl trivial) ?_
      refine Run.go (Ev.assign rfl rfl) ?_
      refine Run.nil ?_
      cases h
      exact LoopT.ghost (Ghost.only [(1, 1), (41, 33), (3, 3)] [1, 3, 4, 5] rfl) hz1
    · replace h := ifF hb4 h
      refine T.exit ?_
      cases h
      cases hz1
      exact ⟨(), trivial, Ghost.only [(1, 1), (33, 10), (3, 3)] [1, 3, 4] rfl⟩
  · obtain ⟨v9, hv, h⟩ := bdS h
    refine T.cut (fun _ : Unit => (⟨[(1, .box 1 0), (3, .own 10), (4, .own 49)], [(1, .box [.v .str p0.1, .v (.sl Y_api_Node) p0.2.1, .v (.sl Y_api_Link) p0.2.2.1, .v (.sl Y_api_Rule) p0.2.2.2]), (10, .arr 9 .str v1), (49, .arr 9 .str v9)], 232⟩ : St)) (fun _ => True) ?_ (fun _ _ => ?_)
    · replace h := hv
      clear hv
      refine T.seq ?_
      refine T.region ?_
      refine Run.go (Ev.assign rfl rfl) ?_
      refine Run.nil ?_
      refine T.block ?_
      refine T.loop (LoopT.ghost (Ghost.only [(1, 1), (10, 10), (3, 67)] [1, 3, 4, 6] rfl) (LoopT.run (fun q : Int × (List ByteArray) => (⟨[(1, .box 1 0), (3, .own 10), (4, .own 67), (6, .v (.int .i64) q.1)], [(1, .box [.v .str p0.1, .v (.sl Y_api_Node) p0.2.1, .v (.sl Y_api_Link) p0.2.2.1, .v (.sl Y_api_Rule) p0.2.2.2]), (10, .arr 9 .str v1), (67, .arr 9 .str q.2)], 232⟩ : St)) (fun q z1 h hz1 => ?_) h))
      obtain ⟨v10, v11⟩ := q
      dsimp only
      rw [m_triviumref23_net_l2] at h
      refine T.seq ?_
      refine T.seq ?_
      refine T.region ?_
      refine Run.go (Ev.move rfl rfl) ?_
      refine Run.go (Ev.fieldBox X rfl rfl rfl rfl rfl) ?_
      refine Run.go (Ev.loadCell X rfl rfl rfl rfl rfl rfl) ?_
      refine Run.go (Ev.len X rfl rfl rfl rfl) ?_
      refine Run.go (Ev.int rfl rfl rfl rfl trivial) ?_
      refine Run.nil ?_
      refine T.cond rfl (fun hb12 => ?_) (fun hb12 => ?_)
      · replace h := ifT hb12 h
        refine T.skip ?_
        refine T.seq ?_
        refine T.block ?_
        refine T.region ?_
        refine Run.go (Ev.move rfl rfl) ?_
        refine Run.go (Ev.fieldBox X rfl rfl rfl rfl rfl) ?_
        refine Run.go (Ev.loadCell X rfl rfl rfl rfl rfl rfl) ?_
        refine Run.go (Ev.move rfl rfl) ?_
        obtain ⟨x13, e14, h⟩ := bdS h
        refine Run.go (Ev.e_rd X e14 rfl rfl rfl rfl) ?_
        refine Run.go (Ev.fieldAddr X rfl rfl rfl rfl) ?_
        refine Run.go (Ev.load X rfl rfl rfl) ?_
        refine Run.go (Ev.build X 73 rfl rfl rfl rfl rfl rfl rfl rfl) ?_
        obtain ⟨x15, e16, h⟩ := bdS h
        refine Run.go (Ev.e_ap X 74 e16 rfl rfl rfl (.own rfl) rfl rfl rfl rfl rfl) ?_
        refine Run.go (Ev.assign rfl rfl) ?_
        refine Run.nil ?_
        refine T.region ?_
        refine Run.go (Ev.move rfl rfl) ?_
        refine Run.go (Ev.int rfl rfl rfl rfl trivial) ?_
        refine Run.go (Ev.assign rfl rfl) ?_
        refine Run.nil ?_
        cases h
        exact LoopT.ghost (Ghost.only [(1, 1), (10, 10), (74, 67)] [1, 3, 4, 6] rfl) hz1
      · replace h := ifF hb12 h
        refine T.exit ?_
        cases h
        cases hz1
        exact ⟨(), trivial, Ghost.only [(1, 1), (10, 10), (67, 49)] [1, 3, 4] rfl⟩
    · refine T.seq ?_
      refine T.seq ?_
      refine T.region ?_
      refine Run.go (Ev.move rfl rfl) ?_
      obtain ⟨x17, e18, h⟩ := bdS h
      refine Run.go (Ev.lend rfl (.cons (.own rfl) .nil) en30 (k_triviumref23_names e18) rfl rfl) ?_
      refine Run.go (Ev.not rfl rfl) ?_
      refine Run.nil ?_
      refine T.cond rfl (fun hb19 => ?_) (fun hb19 => ?_)
      · replace h := ifT hb19 h
        refine T.seq ?_
        refine T.region ?_
        refine Run.go (Ev.assign rfl rfl) ?_
        refine Run.nil ?_
        refine T.ret ?_
        cases h
        exact Fin.one rfl .v
      · replace h := ifF hb19 h
        refine T.skip ?_
        refine T.seq ?_
        refine T.seq ?_
        refine T.region ?_
        refine Run.go (Ev.loadBox X rfl rfl rfl rfl rfl) ?_
        obtain ⟨x20, e21, h⟩ := bdS h
        refine Run.go (Ev.callC en55 (k_triviumref23_homes e21) rfl (.cons .v .nil) rfl rfl) ?_
        refine Run.go (Ev.not rfl rfl) ?_
        refine Run.nil ?_
        refine T.cond rfl (fun hb22 => ?_) (fun hb22 => ?_)
        · replace h := ifT hb22 h
          refine T.seq ?_
          refine T.region ?_
          refine Run.go (Ev.assign rfl rfl) ?_
          refine Run.nil ?_
          refine T.ret ?_
          cases h
          exact Fin.one rfl .v
        · replace h := ifF hb22 h
          refine T.skip ?_
          refine T.seq ?_
          refine T.seq ?_
          refine T.region ?_
          refine Run.go (Ev.move rfl rfl) ?_
          obtain ⟨x23, e24, h⟩ := bdS h
          refine Run.go (Ev.lend rfl (.cons (.own rfl) .nil) en30 (k_triviumref23_names e24) rfl rfl) ?_
          refine Run.go (Ev.not rfl rfl) ?_
          refine Run.nil ?_
          refine T.cond rfl (fun hb25 => ?_) (fun hb25 => ?_)
          · replace h := ifT hb25 h
            refine T.seq ?_
            refine T.region ?_
            refine Run.go (Ev.assign rfl rfl) ?_
            refine Run.nil ?_
            refine T.ret ?_
            cases h
            exact Fin.one rfl .v
          · replace h := ifF hb25 h
            refine T.skip ?_
            refine T.cut (fun i : Unit => (⟨[(1, .box 1 0)], [(1, .box [.v .str p0.1, .v (.sl Y_api_Node) p0.2.1, .v (.sl Y_api_Link) p0.2.2.1, .v (.sl Y_api_Rule) p0.2.2.2])], 232⟩ : St)) (fun i => m_triviumref23_net_k1 p0 = some y) ?_ ?_
            · refine T.seq ?_
              refine T.region ?_
              refine Run.go (Ev.assign rfl rfl) ?_
              refine Run.nil ?_
              refine T.block ?_
              refine T.loop (LoopT.ghost (Ghost.only [(1, 1)] [1, 7] rfl) (LoopT.run (fun q : Int => (⟨[(1, .box 1 0), (7, .v (.int .i64) q)], [(1, .box [.v .str p0.1, .v (.sl Y_api_Node) p0.2.1, .v (.sl Y_api_Link) p0.2.2.1, .v (.sl Y_api_Rule) p0.2.2.2])], 232⟩ : St)) (fun v90 z1 h hz1 => ?_) h))
              rw [m_triviumref23_net_l10] at h
              refine T.seq ?_
              refine T.seq ?_
              refine T.region ?_
              refine Run.go (Ev.move rfl rfl) ?_
              refine Run.go (Ev.fieldBox X rfl rfl rfl rfl rfl) ?_
              refine Run.go (Ev.loadCell X rfl rfl rfl rfl rfl rfl) ?_
              refine Run.go (Ev.len X rfl rfl rfl rfl) ?_
              refine Run.go (Ev.int rfl rfl rfl rfl trivial) ?_
              refine Run.nil ?_
              refine T.cond rfl (fun hb91 => ?_) (fun hb91 => ?_)
              · replace h := ifT hb91 h
                refine T.skip ?_
                refine T.seq ?_
                refine T.block ?_
                obtain ⟨v92, hv, h⟩ := bdS h
                refine T.cut (fun _ : Unit => (⟨[(1, .box 1 0), (7, .v (.int .i64) v90), (87, .v .bool v92)], [(1, .box [.v .str p0.1, .v (.sl Y_api_Node) p0.2.1, .v (.sl Y_api_Link) p0.2.2.1, .v (.sl Y_api_Rule) p0.2.2.2])], 232⟩ : St)) (fun _ => True) ?_ (fun _ _ => ?_)
                · replace h := hv
                  clear hv
                  refine T.drawM [] [0, 0, 2, 0, 14, 30, 62, 127, 255, 511, 1023, 1023, 3071, 1023, 15359, 31743, 64511, 131071, 262143, 524287] (by kernel_rfl) (by kernel_rfl) ?_
                  refine RunD.a rfl rfl (Ev.loadBox X rfl rfl rfl rfl rfl) ?_
                  refine RunD.a rfl rfl (Ev.fieldBox X rfl rfl rfl rfl rfl) ?_
                  refine RunD.a rfl rfl (Ev.loadCell X rfl rfl rfl rfl rfl rfl) ?_
                  refine RunD.w (fun _ => Ev.move rfl rfl) ?_
                  obtain ⟨x93, e94, h⟩ := bdS h
                  refine RunD.a rfl rfl (Ev.e_rd X e94 rfl rfl rfl rfl) ?_
                  refine RunD.a rfl rfl (Ev.fieldAddr X rfl rfl rfl rfl) ?_
                  refine RunD.a rfl rfl (Ev.load X rfl rfl rfl) ?_
                  obtain ⟨x95, e96, h⟩ := bdS h
                  refine RunD.a rfl rfl (Ev.callC en10 (k_triviumref23_Node e96) rfl (.cons .v (.cons .v .nil)) rfl rfl) ?_
                  refine RunD.w (fun _ => Ev.int rfl rfl rfl rfl trivial) ?_
                  refine RunD.w (fun _ => Ev.move rfl rfl) ?_
                  rcases boolCases (decide (x95 < 0)) with hb97 | hb97
                  · replace h := ifT hb97 h
                    refine RunD.offT rfl rfl rfl rfl hb97 ?_
                    refine RunD.offT rfl rfl rfl rfl hb97 ?_
                    refine RunD.offT rfl rfl rfl rfl hb97 ?_
                    refine RunD.offT rfl rfl rfl rfl hb97 ?_
                    refine RunD.offT rfl rfl rfl rfl hb97 ?_
                    refine RunD.offT rfl rfl rfl rfl hb97 ?_
                    refine RunD.offT rfl rfl rfl rfl hb97 ?_
                    refine RunD.offT rfl rfl rfl rfl hb97 ?_
                    refine RunD.offT rfl rfl rfl rfl hb97 ?_
                    refine RunD.w (fun _ => Ev.pickT rfl hb97 rfl rfl) ?_
                    refine RunD.nil ?_
                    cases h
                    exact ⟨(), trivial, Ghost.only [(1, 1)] [1, 7, 87] rfl⟩
                  · replace h := ifF hb97 h
                    refine RunD.on rfl rfl rfl hb97 rfl (fun ô hô => by obtain rfl := hô.resolve_left (by decide); exact Ev.loadBox X rfl rfl rfl rfl rfl) ?_
                    refine RunD.on rfl rfl rfl hb97 rfl (fun ô hô => by obtain rfl := hô.resolve_left (by decide); exact Ev.fieldBox X rfl rfl rfl rfl rfl) ?_
                    refine RunD.on rfl rfl rfl hb97 rfl (fun ô hô => by obtain rfl := hô.resolve_left (by decide); exact Ev.loadCell X rfl rfl rfl rfl rfl rfl) ?_
                    refine RunD.on rfl rfl rfl hb97 rfl (fun _ _ => Ev.move rfl rfl) ?_
                    obtain ⟨x98, e99, h⟩ := bdS h
                    refine RunD.on rfl rfl rfl hb97 rfl (fun ô hô => by obtain rfl := hô.resolve_left (by decide); exact Ev.e_rd X e99 rfl rfl rfl rfl) ?_
                    refine RunD.on rfl rfl rfl hb97 rfl (fun ô hô => by obtain rfl := hô.resolve_left (by decide); exact Ev.fieldAddr X rfl rfl rfl rfl) ?_
                    refine RunD.on rfl rfl rfl hb97 rfl (fun ô hô => by obtain rfl := hô.resolve_left (by decide); exact Ev.load X rfl rfl rfl) ?_
                    obtain ⟨x100, e101, h⟩ := bdS h
                    refine RunD.on rfl rfl rfl hb97 rfl (fun ô hô => by obtain rfl := hô.resolve_left (by decide); exact Ev.callC en10 (k_triviumref23_Node e101) rfl (.cons .v (.cons .v .nil)) rfl rfl) ?_
                    refine RunD.on rfl rfl rfl hb97 rfl (fun _ _ => Ev.int rfl rfl rfl rfl trivial) ?_
                    refine RunD.w (fun _ => Ev.pickF rfl hb97 rfl rfl) ?_
                    refine RunD.nil ?_
                    cases h
                    exact ⟨(), trivial, Ghost.only [(1, 1)] [1, 7, 87] rfl⟩
                · refine T.cond rfl (fun hb102 => ?_) (fun hb102 => ?_)
                  · replace h := ifT hb102 h
                    refine T.seq ?_
                    refine T.region ?_
                    refine Run.go (Ev.assign rfl rfl) ?_
                    refine Run.nil ?_
                    refine T.ret ?_
                    cases h
                    cases hz1
                    exact Fin.one rfl .v
                  · replace h := ifF hb102 h
                    refine T.skip ?_
                    refine T.region ?_
                    refine Run.go (Ev.move rfl rfl) ?_
                    refine Run.go (Ev.int rfl rfl rfl rfl trivial) ?_
                    refine Run.go (Ev.assign rfl rfl) ?_
                    refine Run.nil ?_
                    cases h
                    exact LoopT.ghost (Ghost.only [(1, 1)] [1, 7] rfl) hz1
              · replace h := ifF hb91 h
                refine T.exit ?_
                replace h := upS h
                obtain ⟨u103, h, rfl⟩ := h
                cases hz1
                exact ⟨(), h, Ghost.only [(1, 1)] [1] rfl⟩
            · rintro _ h
              rw [m_triviumref23_net_k1] at h
              refine T.cut (fun i : Unit => (⟨[(1, .box 1 0)], [(1, .box [.v .str p0.1, .v (.sl Y_api_Node) p0.2.1, .v (.sl Y_api_Link) p0.2.2.1, .v (.sl Y_api_Rule) p0.2.2.2])], 232⟩ : St)) (fun i => m_triviumref23_net_k2 p0 = some y) ?_ ?_
              · refine T.seq ?_
                refine T.region ?_
                refine Run.go (Ev.assign rfl rfl) ?_
                refine Run.nil ?_
                refine T.block ?_
                refine T.loop (LoopT.ghost (Ghost.only [(1, 1)] [1, 8] rfl) (LoopT.run (fun q : Int => (⟨[(1, .box 1 0), (8, .v (.int .i64) q)], [(1, .box [.v .str p0.1, .v (.sl Y_api_Node) p0.2.1, .v (.sl Y_api_Link) p0.2.2.1, .v (.sl Y_api_Rule) p0.2.2.2])], 232⟩ : St)) (fun v73 z1 h hz1 => ?_) h))
                rw [m_triviumref23_net_l9] at h
                refine T.seq ?_
                refine T.seq ?_
                refine T.region ?_
                refine Run.go (Ev.move rfl rfl) ?_
                refine Run.go (Ev.fieldBox X rfl rfl rfl rfl rfl) ?_
                refine Run.go (Ev.loadCell X rfl rfl rfl rfl rfl rfl) ?_
                refine Run.go (Ev.len X rfl rfl rfl rfl) ?_
                refine Run.go (Ev.int rfl rfl rfl rfl trivial) ?_
                refine Run.nil ?_
                refine T.cond rfl (fun hb74 => ?_) (fun hb74 => ?_)
                · replace h := ifT hb74 h
                  refine T.skip ?_
                  refine T.seq ?_
                  refine T.block ?_
                  refine T.seq ?_
                  refine T.region ?_
                  refine Run.go (Ev.fieldBox X rfl rfl rfl rfl rfl) ?_
                  refine Run.go (Ev.loadCell X rfl rfl rfl rfl rfl rfl) ?_
                  refine Run.go (Ev.move rfl rfl) ?_
                  obtain ⟨x75, e76, h⟩ := bdS h
                  refine Run.go (Ev.e_rd X e76 rfl rfl rfl rfl) ?_
                  refine Run.go (Ev.fieldAddr X rfl rfl rfl rfl) ?_
                  refine Run.go (Ev.load X rfl rfl rfl) ?_
                  refine Run.go (Ev.allocN X 257 rfl rfl rfl) ?_
                  refine Run.do_ (Ev.storeBox X rfl rfl rfl rfl rfl rfl rfl) ?_
                  refine Run.nil ?_
                  obtain ⟨v77, hv, h⟩ := bdS h
                  refine T.cut (fun _ : Unit => (⟨[(1, .box 1 0), (8, .v (.int .i64) v73), (115, .v .bool v77)], [(1, .box [.v .str p0.1, .v (.sl Y_api_Node) p0.2.1, .v (.sl Y_api_Link) p0.2.2.1, .v (.sl Y_api_Rule) p0.2.2.2])], 232⟩ : St)) (fun _ => True) ?_ (fun _ _ => ?_)
                  · replace h := hv
                    clear hv
                    refine T.region ?_
                    refine Run.go (Ev.loadBox X rfl rfl rfl rfl rfl) ?_
                    obtain ⟨x78, e79, h⟩ := bdS h
                    refine Run.go (Ev.callC en56 (k_triviumref08_May e79) rfl (.cons .v .nil) rfl rfl) ?_
                    refine Run.go (Ev.not rfl rfl) ?_
                    refine Run.go (Ev.move rfl rfl) ?_
                    rcases boolCases (!x78) with hb80 | hb80
                    · replace h := ifT hb80 h
                      refine Run.offT rfl rfl rfl rfl hb80 ?_
                      refine Run.offT rfl rfl rfl rfl hb80 ?_
                      refine Run.offT rfl rfl rfl rfl hb80 ?_
                      refine Run.go (Ev.pickT rfl hb80 rfl rfl) ?_
                      refine Run.go (Ev.move rfl rfl) ?_
                      refine Run.offT rfl rfl rfl rfl rfl ?_
                      refine Run.offT rfl rfl rfl rfl rfl ?_
                      refine Run.offT rfl rfl rfl rfl rfl ?_
                      refine Run.offT rfl rfl rfl rfl rfl ?_
                      refine Run.offT rfl rfl rfl rfl rfl ?_
                      refine Run.go (Ev.pickT rfl rfl rfl rfl) ?_
                      refine Run.nil ?_
                      cases h
                      exact ⟨(), trivial, Ghost.only [(1, 1)] [1, 8, 115] rfl⟩
                    · replace h := ifF hb80 h
                      refine Run.on rfl rfl rfl hb80 (Ev.fieldBox X rfl rfl rfl rfl rfl) ?_
                      refine Run.on rfl rfl rfl hb80 (Ev.fieldBox X rfl rfl rfl rfl rfl) ?_
                      refine Run.on rfl rfl rfl hb80 (Ev.loadCell X rfl rfl rfl rfl rfl rfl) ?_
                      refine Run.go (Ev.pickF rfl hb80 rfl rfl) ?_
                      refine Run.go (Ev.move rfl rfl) ?_
                      rcases boolCases x75.2.2.2.1.1 with hb81 | hb81
                      · replace h := ifT hb81 h
                        refine Run.offT rfl rfl rfl rfl hb81 ?_
                        refine Run.offT rfl rfl rfl rfl hb81 ?_
                        refine Run.offT rfl rfl rfl rfl hb81 ?_
                        refine Run.offT rfl rfl rfl rfl hb81 ?_
                        refine Run.offT rfl rfl rfl rfl hb81 ?_
                        refine Run.go (Ev.pickT rfl hb81 rfl rfl) ?_
                        refine Run.nil ?_
                        cases h
                        exact ⟨(), trivial, Ghost.only [(1, 1)] [1, 8, 115] rfl⟩
                      · replace h := ifF hb81 h
                        refine Run.on rfl rfl rfl hb81 (Ev.loadBox X rfl rfl rfl rfl rfl) ?_
                        obtain ⟨x82, e83, h⟩ := bdS h
                        refine Run.on rfl rfl rfl hb81 (Ev.callC en58 (k_triviumref08_Of e83) rfl (.cons .v .nil) rfl rfl) ?_
                        obtain ⟨x84, e85, h⟩ := bdS h
                        refine Run.on rfl rfl rfl hb81 (Ev.callC en59 (k_triviumref08_Num e85) rfl (.cons .v (.cons .v .nil)) rfl rfl) ?_
                        obtain ⟨x86, e87, h⟩ := bdS h
                        refine Run.on rfl rfl rfl hb81 (Ev.callC en57 (k_triviumref08_Cmp e87) rfl (.cons .v (.cons .v .nil)) rfl rfl) ?_
                        refine Run.on rfl rfl rfl hb81 (Ev.int rfl rfl rfl rfl trivial) ?_
                        refine Run.go (Ev.pickF rfl hb81 rfl rfl) ?_
                        refine Run.nil ?_
                        cases h
                        exact ⟨(), trivial, Ghost.only [(1, 1)] [1, 8, 115] rfl⟩
                  · refine T.cond rfl (fun hb88 => ?_) (fun hb88 => ?_)
                    · replace h := ifT hb88 h
                      refine T.seq ?_
                      refine T.region ?_
                      refine Run.go (Ev.assign rfl rfl) ?_
                      refine Run.nil ?_
                      refine T.ret ?_
                      cases h
                      cases hz1
                      exact Fin.one rfl .v
                    · replace h := ifF hb88 h
                      refine T.skip ?_
                      refine T.region ?_
                      refine Run.go (Ev.move rfl rfl) ?_
                      refine Run.go (Ev.int rfl rfl rfl rfl trivial) ?_
                      refine Run.go (Ev.assign rfl rfl) ?_
                      refine Run.nil ?_
                      cases h
                      exact LoopT.ghost (Ghost.only [(1, 1)] [1, 8] rfl) hz1
                · replace h := ifF hb74 h
                  refine T.exit ?_
                  replace h := upS h
                  obtain ⟨u89, h, rfl⟩ := h
                  cases hz1
                  exact ⟨(), h, Ghost.only [(1, 1)] [1] rfl⟩
              · rintro _ h
                rw [m_triviumref23_net_k2] at h
                refine T.cut (fun i : Unit => (⟨[(1, .box 1 0)], [(1, .box [.v .str p0.1, .v (.sl Y_api_Node) p0.2.1, .v (.sl Y_api_Link) p0.2.2.1, .v (.sl Y_api_Rule) p0.2.2.2])], 232⟩ : St)) (fun i => m_triviumref23_net_k3 p0 = some y) ?_ ?_
                · refine T.seq ?_
                  refine T.region ?_
                  refine Run.go (Ev.assign rfl rfl) ?_
                  refine Run.nil ?_
                  refine T.block ?_
                  refine T.loop (LoopT.ghost (Ghost.only [(1, 1)] [1, 10] rfl) (LoopT.run (fun q : Int => (⟨[(1, .box 1 0), (10, .v (.int .i64) q)], [(1, .box [.v .str p0.1, .v (.sl Y_api_Node) p0.2.1, .v (.sl Y_api_Link) p0.2.2.1, .v (.sl Y_api_Rule) p0.2.2.2])], 232⟩ : St)) (fun v52 z1 h hz1 => ?_) h))
                  rw [m_triviumref23_net_l7] at h
                  refine T.seq ?_
                  refine T.seq ?_
                  refine T.region ?_
                  refine Run.go (Ev.move rfl rfl) ?_
                  refine Run.go (Ev.fieldBox X rfl rfl rfl rfl rfl) ?_
                  refine Run.go (Ev.loadCell X rfl rfl rfl rfl rfl rfl) ?_
                  refine Run.go (Ev.len X rfl rfl rfl rfl) ?_
                  refine Run.go (Ev.int rfl rfl rfl rfl trivial) ?_
                  refine Run.nil ?_
                  refine T.cond rfl (fun hb53 => ?_) (fun hb53 => ?_)
                  · replace h := ifT hb53 h
                    refine T.skip ?_
                    refine T.seq ?_
                    refine T.block ?_
                    refine T.seq ?_
                    refine T.region ?_
                    refine Run.go (Ev.fieldBox X rfl rfl rfl rfl rfl) ?_
                    refine Run.go (Ev.loadCell X rfl rfl rfl rfl rfl rfl) ?_
                    refine Run.go (Ev.move rfl rfl) ?_
                    obtain ⟨x54, e55, h⟩ := bdS h
                    refine Run.go (Ev.e_rd X e55 rfl rfl rfl rfl) ?_
                    refine Run.go (Ev.load X rfl rfl rfl) ?_
                    refine Run.go (Ev.allocN X 235 rfl rfl rfl) ?_
                    refine Run.do_ (Ev.storeBox X rfl rfl rfl rfl rfl rfl rfl) ?_
                    refine Run.nil ?_
                    refine T.seq ?_
                    obtain ⟨v56, hv, h⟩ := bdS h
                    refine T.cut (fun _ : Unit => (⟨[(1, .box 1 0), (10, .v (.int .i64) v52), (11, .box 235 0), (138, .v .bool v56)], [(1, .box [.v .str p0.1, .v (.sl Y_api_Node) p0.2.1, .v (.sl Y_api_Link) p0.2.2.1, .v (.sl Y_api_Rule) p0.2.2.2]), (235, .box [.v .str x54.1, .v (.int .u32) x54.2.1.1, .v (.int .i64) x54.2.1.2, .v .bool x54.2.2.1, .v (.sl (.sl Y_api_Hop)) x54.2.2.2])], 232⟩ : St)) (fun _ => True) ?_ (fun _ _ => ?_)
                    · replace h := hv
                      clear hv
                      refine T.region ?_
                      refine Run.go (Ev.loadBox X rfl rfl rfl rfl rfl) ?_
                      refine Run.go (Ev.fieldBox X rfl rfl rfl rfl rfl) ?_
                      refine Run.go (Ev.loadCell X rfl rfl rfl rfl rfl rfl) ?_
                      obtain ⟨x57, e58, h⟩ := bdS h
                      refine Run.go (Ev.callC en10 (k_triviumref23_Node e58) rfl (.cons .v (.cons .v .nil)) rfl rfl) ?_
                      refine Run.go (Ev.int rfl rfl rfl rfl trivial) ?_
                      refine Run.go (Ev.move rfl rfl) ?_
                      rcases boolCases (decide (x57 < 0)) with hb59 | hb59
                      · replace h := ifT hb59 h
                        refine Run.offT rfl rfl rfl rfl hb59 ?_
                        refine Run.offT rfl rfl rfl rfl hb59 ?_
                        refine Run.offT rfl rfl rfl rfl hb59 ?_
                        refine Run.offT rfl rfl rfl rfl hb59 ?_
                        refine Run.go (Ev.pickT rfl hb59 rfl rfl) ?_
                        refine Run.nil ?_
                        cases h
                        exact ⟨(), trivial, Ghost.only [(1, 1), (235, 235)] [1, 10, 11, 138] rfl⟩
                      · replace h := ifF hb59 h
                        refine Run.on rfl rfl rfl hb59 (Ev.fieldBox X rfl rfl rfl rfl rfl) ?_
                        refine Run.on rfl rfl rfl hb59 (Ev.loadBox X rfl rfl rfl rfl rfl) ?_
                        obtain ⟨x60, e61, h⟩ := bdS h
                        refine Run.on rfl rfl rfl hb59 (Ev.callC en32 (k_triviumref18_May e61) rfl (.cons .v .nil) rfl rfl) ?_
                        refine Run.on rfl rfl rfl hb59 (Ev.not rfl rfl) ?_
                        refine Run.go (Ev.pickF rfl hb59 rfl rfl) ?_
                        refine Run.nil ?_
                        cases h
                        exact ⟨(), trivial, Ghost.only [(1, 1), (235, 235)] [1, 10, 11, 138] rfl⟩
                    · refine T.cond rfl (fun hb62 => ?_) (fun hb62 => ?_)
                      · replace h := ifT hb62 h
                        refine T.seq ?_
                        refine T.region ?_
                        refine Run.go (Ev.assign rfl rfl) ?_
                        refine Run.nil ?_
                        refine T.ret ?_
                        cases h
                        cases hz1
                        exact Fin.one rfl .v
                      · replace h := ifF hb62 h
                        refine T.skip ?_
                        refine T.seq ?_
                        refine T.region ?_
                        refine Run.go (Ev.assign rfl rfl) ?_
                        refine Run.nil ?_
                        refine T.block ?_
                        refine T.loop (LoopT.ghost (Ghost.only [(1, 1), (235, 235)] [1, 10, 11, 12] rfl) (LoopT.run (fun q : Int => (⟨[(1, .box 1 0), (10, .v (.int .i64) v52), (11, .box 235 0), (12, .v (.int .i64) q)], [(1, .box [.v .str p0.1, .v (.sl Y_api_Node) p0.2.1, .v (.sl Y_api_Link) p0.2.2.1, .v (.sl Y_api_Rule) p0.2.2.2]), (235, .box [.v .str x54.1, .v (.int .u32) x54.2.1.1, .v (.int .i64) x54.2.1.2, .v .bool x54.2.2.1, .v (.sl (.sl Y_api_Hop)) x54.2.2.2])], 232⟩ : St)) (fun v63 z2 h hz2 => ?_) h))
                        rw [m_triviumref23_net_l8] at h
                        refine T.seq ?_
                        refine T.seq ?_
                        refine T.region ?_
                        refine Run.go (Ev.move rfl rfl) ?_
                        refine Run.go (Ev.move rfl rfl) ?_
                        refine Run.go (Ev.int rfl rfl rfl rfl trivial) ?_
                        refine Run.nil ?_
                        refine T.cond rfl (fun hb64 => ?_) (fun hb64 => ?_)
                        · replace h := ifT hb64 h
                          refine T.skip ?_
                          refine T.seq ?_
                          refine T.block ?_
                          obtain ⟨v65, hv, h⟩ := bdS h
                          refine T.cut (fun _ : Unit => (⟨[(1, .box 1 0), (10, .v (.int .i64) v52), (11, .box 235 0), (12, .v (.int .i64) v63), (163, .v .bool v65)], [(1, .box [.v .str p0.1, .v (.sl Y_api_Node) p0.2.1, .v (.sl Y_api_Link) p0.2.2.1, .v (.sl Y_api_Rule) p0.2.2.2]), (235, .box [.v .str x54.1, .v (.int .u32) x54.2.1.1, .v (.int .i64) x54.2.1.2, .v .bool x54.2.2.1, .v (.sl (.sl Y_api_Hop)) x54.2.2.2])], 232⟩ : St)) (fun _ => True) ?_ (fun _ _ => ?_)
                          · replace h := hv
                            clear hv
                            refine T.drawM [] [0, 1, 0, 7, 15, 31, 0, 64, 255, 511, 1023, 2047, 1023, 8191, 16383, 32767, 1023, 66559, 262143, 524287] (by kernel_rfl) (by kernel_rfl) ?_
                            refine RunD.a rfl rfl (Ev.fieldBox X rfl rfl rfl rfl rfl) ?_
                            refine RunD.a rfl rfl (Ev.loadCell X rfl rfl rfl rfl rfl rfl) ?_
                            refine RunD.w (fun _ => Ev.move rfl rfl) ?_
                            obtain ⟨x66, e67, h⟩ := bdS h
                            refine RunD.a rfl rfl (Ev.e_rd X e67 rfl rfl rfl rfl) ?_
                            refine RunD.a rfl rfl (Ev.fieldAddr X rfl rfl rfl rfl) ?_
                            refine RunD.a rfl rfl (Ev.load X rfl rfl rfl) ?_
                            refine RunD.a rfl rfl (Ev.fieldBox X rfl rfl rfl rfl rfl) ?_
                            refine RunD.a rfl rfl (Ev.loadCell X rfl rfl rfl rfl rfl rfl) ?_
                            refine RunD.w (fun _ => Ev.strs rfl rfl rfl rfl trivial) ?_
                            refine RunD.w (fun _ => Ev.move rfl rfl) ?_
                            rcases boolCases (sq x66.1 x54.1) with hb68 | hb68
                            · replace h := ifT hb68 h
                              refine RunD.on rfl rfl rfl hb68 rfl (fun ô hô => by obtain rfl := hô.resolve_left (by decide); exact Ev.fieldBox X rfl rfl rfl rfl rfl) ?_
                              refine RunD.on rfl rfl rfl hb68 rfl (fun ô hô => by obtain rfl := hô.resolve_left (by decide); exact Ev.loadCell X rfl rfl rfl rfl rfl rfl) ?_
                              refine RunD.on rfl rfl rfl hb68 rfl (fun _ _ => Ev.move rfl rfl) ?_
                              obtain ⟨x69, e70, h⟩ := bdS h
                              refine RunD.on rfl rfl rfl hb68 rfl (fun ô hô => by obtain rfl := hô.resolve_left (by decide); exact Ev.e_rd X e70 rfl rfl rfl rfl) ?_
                              refine RunD.on rfl rfl rfl hb68 rfl (fun ô hô => by obtain rfl := hô.resolve_left (by decide); exact Ev.fieldAddr X rfl rfl rfl rfl) ?_
                              refine RunD.on rfl rfl rfl hb68 rfl (fun ô hô => by obtain rfl := hô.resolve_left (by decide); exact Ev.load X rfl rfl rfl) ?_
                              refine RunD.on rfl rfl rfl hb68 rfl (fun ô hô => by obtain rfl := hô.resolve_left (by decide); exact Ev.fieldBox X rfl rfl rfl rfl rfl) ?_
                              refine RunD.on rfl rfl rfl hb68 rfl (fun ô hô => by obtain rfl := hô.resolve_left (by decide); exact Ev.loadBox X rfl rfl rfl rfl rfl) ?_
                              refine RunD.on rfl rfl rfl hb68 rfl (fun _ _ => Ev.e_eq (τ := Y_api_Prefix) (p := (x69.2.1 : D_api_Prefix)) (q := ((x54.2.1.1, x54.2.1.2) : D_api_Prefix)) eq42 rfl (.inl ⟨rfl, rfl⟩) rfl rfl rfl) ?_
                              refine RunD.w (fun _ => Ev.pickT rfl hb68 rfl rfl) ?_
                              refine RunD.nil ?_
                              cases h
                              exact ⟨(), trivial, Ghost.only [(1, 1), (235, 235)] [1, 10, 11, 12, 163] rfl⟩
                            · replace h := ifF hb68 h
                              refine RunD.offT rfl rfl rfl rfl hb68 ?_
                              refine RunD.offT rfl rfl rfl rfl hb68 ?_
                              refine RunD.offT rfl rfl rfl rfl hb68 ?_
                              refine RunD.offT rfl rfl rfl rfl hb68 ?_
                              refine RunD.offT rfl rfl rfl rfl hb68 ?_
                              refine RunD.offT rfl rfl rfl rfl hb68 ?_
                              refine RunD.offT rfl rfl rfl rfl hb68 ?_
                              refine RunD.offT rfl rfl rfl rfl hb68 ?_
                              refine RunD.offT rfl rfl rfl rfl hb68 ?_
                              refine RunD.w (fun _ => Ev.pickF rfl hb68 rfl rfl) ?_
                              refine RunD.nil ?_
                              cases h
                              exact ⟨(), trivial, Ghost.only [(1, 1), (235, 235)] [1, 10, 11, 12, 163] rfl⟩
                          · refine T.cond rfl (fun hb71 => ?_) (fun hb71 => ?_)
                            · replace h := ifT hb71 h
                              refine T.seq ?_
                              refine T.region ?_
                              refine Run.go (Ev.assign rfl rfl) ?_
                              refine Run.nil ?_
                              refine T.ret ?_
                              cases h
                              cases hz2
                              cases hz1
                              exact Fin.one rfl .v
                            · replace h := ifF hb71 h
                              refine T.skip ?_
                              refine T.region ?_
                              refine Run.go (Ev.move rfl rfl) ?_
                              refine Run.go (Ev.int rfl rfl rfl rfl trivial) ?_
                              refine Run.go (Ev.assign rfl rfl) ?_
                              refine Run.nil ?_
                              cases h
                              exact LoopT.ghost (Ghost.only [(1, 1), (235, 235)] [1, 10, 11, 12] rfl) hz2
                        · replace h := ifF hb64 h
                          refine T.exit ?_
                          refine T.region ?_
                          refine Run.go (Ev.move rfl rfl) ?_
                          refine Run.go (Ev.int rfl rfl rfl rfl trivial) ?_
                          refine Run.go (Ev.assign rfl rfl) ?_
                          refine Run.nil ?_
                          cases h
                          cases hz2
                          exact LoopT.ghost (Ghost.only [(1, 1)] [1, 10] rfl) hz1
                  · replace h := ifF hb53 h
                    refine T.exit ?_
                    replace h := upS h
                    obtain ⟨u72, h, rfl⟩ := h
                    cases hz1
                    exact ⟨(), h, Ghost.only [(1, 1)] [1] rfl⟩
                · rintro _ h
                  rw [m_triviumref23_net_k3] at h
                  refine T.cut (fun i : Unit => (⟨[(1, .box 1 0)], [(1, .box [.v .str p0.1, .v (.sl Y_api_Node) p0.2.1, .v (.sl Y_api_Link) p0.2.2.1, .v (.sl Y_api_Rule) p0.2.2.2])], 232⟩ : St)) (fun i => m_triviumref23_net_k4 p0 = some y) ?_ ?_
                  · refine T.seq ?_
                    refine T.region ?_
                    refine Run.go (Ev.assign rfl rfl) ?_
                    refine Run.nil ?_
                    refine T.block ?_
                    refine T.loop (LoopT.ghost (Ghost.only [(1, 1)] [1, 13] rfl) (LoopT.run (fun q : Int => (⟨[(1, .box 1 0), (13, .v (.int .i64) q)], [(1, .box [.v .str p0.1, .v (.sl Y_api_Node) p0.2.1, .v (.sl Y_api_Link) p0.2.2.1, .v (.sl Y_api_Rule) p0.2.2.2])], 232⟩ : St)) (fun v41 z1 h hz1 => ?_) h))
                    rw [m_triviumref23_net_l5] at h
                    refine T.seq ?_
                    refine T.seq ?_
                    refine T.region ?_
                    refine Run.go (Ev.move rfl rfl) ?_
                    refine Run.go (Ev.fieldBox X rfl rfl rfl rfl rfl) ?_
                    refine Run.go (Ev.loadCell X rfl rfl rfl rfl rfl rfl) ?_
                    refine Run.go (Ev.len X rfl rfl rfl rfl) ?_
                    refine Run.go (Ev.int rfl rfl rfl rfl trivial) ?_
                    refine Run.nil ?_
                    refine T.cond rfl (fun hb42 => ?_) (fun hb42 => ?_)
                    · replace h := ifT hb42 h
                      refine T.skip ?_
                      refine T.seq ?_
                      refine T.block ?_
                      refine T.seq ?_
                      refine T.region ?_
                      refine Run.go (Ev.fieldBox X rfl rfl rfl rfl rfl) ?_
                      refine Run.go (Ev.loadCell X rfl rfl rfl rfl rfl rfl) ?_
                      refine Run.go (Ev.move rfl rfl) ?_
                      obtain ⟨x43, e44, h⟩ := bdS h
                      refine Run.go (Ev.e_rd X e44 rfl rfl rfl rfl) ?_
                      refine Run.go (Ev.load X rfl rfl rfl) ?_
                      refine Run.go (Ev.allocN X 195 rfl rfl rfl) ?_
                      refine Run.do_ (Ev.storeBox X rfl rfl rfl rfl rfl rfl rfl) ?_
                      refine Run.nil ?_
                      refine T.seq ?_
                      refine T.seq ?_
                      refine T.region ?_
                      refine Run.go (Ev.fieldBox X rfl rfl rfl rfl rfl) ?_
                      refine Run.go (Ev.loadCell X rfl rfl rfl rfl rfl rfl) ?_
                      refine Run.go (Ev.fieldBox X rfl rfl rfl rfl rfl) ?_
                      refine Run.go (Ev.loadCell X rfl rfl rfl rfl rfl rfl) ?_
                      refine Run.go (Ev.len X rfl rfl rfl rfl) ?_
                      refine Run.go (Ev.int rfl rfl rfl rfl trivial) ?_
                      refine Run.go (Ev.bools X rfl rfl rfl rfl rfl) ?_
                      refine Run.nil ?_
                      refine T.cond rfl (fun hb45 => ?_) (fun hb45 => ?_)
                      · replace h := ifT hb45 h
                        refine T.seq ?_
                        refine T.region ?_
                        refine Run.go (Ev.assign rfl rfl) ?_
                        refine Run.nil ?_
                        refine T.ret ?_
                        cases h
                        cases hz1
                        exact Fin.one rfl .v
                      · replace h := ifF hb45 h
                        refine T.skip ?_
                        refine T.seq ?_
                        refine T.region ?_
                        refine Run.go (Ev.assign rfl rfl) ?_
                        refine Run.nil ?_
                        refine T.block ?_
                        refine T.loop (LoopT.ghost (Ghost.only [(1, 1), (195, 195)] [1, 13, 14, 15] rfl) (LoopT.run (fun q : Int => (⟨[(1, .box 1 0), (13, .v (.int .i64) v41), (14, .box 195 0), (15, .v (.int .i64) q)], [(1, .box [.v .str p0.1, .v (.sl Y_api_Node) p0.2.1, .v (.sl Y_api_Link) p0.2.2.1, .v (.sl Y_api_Rule) p0.2.2.2]), (195, .box [.v .str x43.1, .v (.int .u32) x43.2.1.1, .v (.int .i64) x43.2.1.2, .v .bool x43.2.2.1, .v (.sl (.sl Y_api_Hop)) x43.2.2.2])], 232⟩ : St)) (fun v46 z2 h hz2 => ?_) h))
                        rw [m_triviumref23_net_l6] at h
                        refine T.seq ?_
                        refine T.seq ?_
                        refine T.region ?_
                        refine Run.go (Ev.move rfl rfl) ?_
                        refine Run.go (Ev.fieldBox X rfl rfl rfl rfl rfl) ?_
                        refine Run.go (Ev.loadCell X rfl rfl rfl rfl rfl rfl) ?_
                        refine Run.go (Ev.len X rfl rfl rfl rfl) ?_
                        refine Run.go (Ev.int rfl rfl rfl rfl trivial) ?_
                        refine Run.nil ?_
                        refine T.cond rfl (fun hb47 => ?_) (fun hb47 => ?_)
                        · replace h := ifT hb47 h
                          refine T.skip ?_
                          refine T.seq ?_
                          refine T.block ?_
                          refine T.seq ?_
                          refine T.region ?_
                          refine Run.go (Ev.fieldBox X rfl rfl rfl rfl rfl) ?_
                          refine Run.go (Ev.loadCell X rfl rfl rfl rfl rfl rfl) ?_
                          refine Run.go (Ev.move rfl rfl) ?_
                          obtain ⟨x48, e49, h⟩ := bdS h
                          refine Run.go (Ev.e_rd X e49 rfl rfl rfl rfl) ?_
                          refine Run.go (Ev.load X rfl rfl rfl) ?_
                          refine Run.go (Ev.len X rfl rfl rfl rfl) ?_
                          refine Run.go (Ev.int rfl rfl rfl rfl trivial) ?_
                          refine Run.nil ?_
                          refine T.cond rfl (fun hb50 => ?_) (fun hb50 => ?_)
                          · replace h := ifT hb50 h
                            refine T.seq ?_
                            refine T.region ?_
                            refine Run.go (Ev.assign rfl rfl) ?_
                            refine Run.nil ?_
                            refine T.ret ?_
                            cases h
                            cases hz2
                            cases hz1
                            exact Fin.one rfl .v
                          · replace h := ifF hb50 h
                            refine T.skip ?_
                            refine T.region ?_
                            refine Run.go (Ev.move rfl rfl) ?_
                            refine Run.go (Ev.int rfl rfl rfl rfl trivial) ?_
                            refine Run.go (Ev.assign rfl rfl) ?_
                            refine Run.nil ?_
                            cases h
                            exact LoopT.ghost (Ghost.only [(1, 1), (195, 195)] [1, 13, 14, 15] rfl) hz2
                        · replace h := ifF hb47 h
                          refine T.exit ?_
                          refine T.region ?_
                          refine Run.go (Ev.move rfl rfl) ?_
                          refine Run.go (Ev.int rfl rfl rfl rfl trivial) ?_
                          refine Run.go (Ev.assign rfl rfl) ?_
                          refine Run.nil ?_
                          cases h
                          cases hz2
                          exact LoopT.ghost (Ghost.only [(1, 1)] [1, 13] rfl) hz1
                    · replace h := ifF hb42 h
                      refine T.exit ?_
                      replace h := upS h
                      obtain ⟨u51, h, rfl⟩ := h
                      cases hz1
                      exact ⟨(), h, Ghost.only [(1, 1)] [1] rfl⟩
                  · rintro _ h
                    rw [m_triviumref23_net_k4] at h
                    refine T.seq ?_
                    refine T.seq ?_
                    refine T.region ?_
                    refine Run.go (Ev.assign rfl rfl) ?_
                    refine Run.nil ?_
                    refine T.block ?_
                    refine T.loop (LoopT.ghost (Ghost.only [(1, 1)] [1, 16] rfl) (LoopT.run (fun q : Int => (⟨[(1, .box 1 0), (16, .v (.int .i64) q)], [(1, .box [.v .str p0.1, .v (.sl Y_api_Node) p0.2.1, .v (.sl Y_api_Link) p0.2.2.1, .v (.sl Y_api_Rule) p0.2.2.2])], 232⟩ : St)) (fun v26 z1 h hz1 => ?_) h))
                    rw [m_triviumref23_net_l3] at h
                    refine T.seq ?_
                    refine T.seq ?_
                    refine T.region ?_
                    refine Run.go (Ev.move rfl rfl) ?_
                    refine Run.go (Ev.fieldBox X rfl rfl rfl rfl rfl) ?_
                    refine Run.go (Ev.loadCell X rfl rfl rfl rfl rfl rfl) ?_
                    refine Run.go (Ev.len X rfl rfl rfl rfl) ?_
                    refine Run.go (Ev.int rfl rfl rfl rfl trivial) ?_
                    refine Run.nil ?_
                    refine T.cond rfl (fun hb27 => ?_) (fun hb27 => ?_)
                    · replace h := ifT hb27 h
                      refine T.skip ?_
                      refine T.seq ?_
                      refine T.block ?_
                      refine T.seq ?_
                      refine T.region ?_
                      refine Run.go (Ev.assign rfl rfl) ?_
                      refine Run.nil ?_
                      refine T.block ?_
                      refine T.loop (LoopT.ghost (Ghost.only [(1, 1)] [1, 16, 17] rfl) (LoopT.run (fun q : Int => (⟨[(1, .box 1 0), (16, .v (.int .i64) v26), (17, .v (.int .i64) q)], [(1, .box [.v .str p0.1, .v (.sl Y_api_Node) p0.2.1, .v (.sl Y_api_Link) p0.2.2.1, .v (.sl Y_api_Rule) p0.2.2.2])], 232⟩ : St)) (fun v28 z2 h hz2 => ?_) h))
                      rw [m_triviumref23_net_l4] at h
                      refine T.seq ?_
                      refine T.seq ?_
                      refine T.region ?_
                      refine Run.go (Ev.move rfl rfl) ?_
                      refine Run.go (Ev.fieldBox X rfl rfl rfl rfl rfl) ?_
                      refine Run.go (Ev.loadCell X rfl rfl rfl rfl rfl rfl) ?_
                      refine Run.go (Ev.move rfl rfl) ?_
                      obtain ⟨x29, e30, h⟩ := bdS h
                      refine Run.go (Ev.e_rd X e30 rfl rfl rfl rfl) ?_
                      refine Run.go (Ev.fieldAddr X rfl rfl rfl rfl) ?_
                      refine Run.go (Ev.load X rfl rfl rfl) ?_
                      refine Run.go (Ev.len X rfl rfl rfl rfl) ?_
                      refine Run.go (Ev.int rfl rfl rfl rfl trivial) ?_
                      refine Run.nil ?_
                      refine T.cond rfl (fun hb31 => ?_) (fun hb31 => ?_)
                      · replace h := ifT hb31 h
                        refine T.skip ?_
                        refine T.seq ?_
                        refine T.block ?_
                        refine T.seq ?_
                        refine T.drawM [] [0, 0, 2, 0, 14, 30, 0, 64, 0, 448, 960, 1984, 0, 8128, 16320, 32767, 65535] (by kernel_rfl) (by kernel_rfl) ?_
                        refine RunD.a rfl rfl (Ev.loadBox X rfl rfl rfl rfl rfl) ?_
                        refine RunD.a rfl rfl (Ev.fieldBox X rfl rfl rfl rfl rfl) ?_
                        refine RunD.a rfl rfl (Ev.loadCell X rfl rfl rfl rfl rfl rfl) ?_
                        refine RunD.w (fun _ => Ev.move rfl rfl) ?_
                        obtain ⟨x32, e33, h⟩ := bdS h
                        refine RunD.a rfl rfl (Ev.e_rd X e33 rfl rfl rfl rfl) ?_
                        refine RunD.a rfl rfl (Ev.load X rfl rfl rfl) ?_
                        refine RunD.a rfl rfl (Ev.fieldBox X rfl rfl rfl rfl rfl) ?_
                        refine RunD.a rfl rfl (Ev.loadCell X rfl rfl rfl rfl rfl rfl) ?_
                        refine RunD.w (fun _ => Ev.move rfl rfl) ?_
                        obtain ⟨x34, e35, h⟩ := bdS h
                        refine RunD.a rfl rfl (Ev.e_rd X e35 rfl rfl rfl rfl) ?_
                        refine RunD.a rfl rfl (Ev.fieldAddr X rfl rfl rfl rfl) ?_
                        refine RunD.a rfl rfl (Ev.load X rfl rfl rfl) ?_
                        refine RunD.w (fun _ => Ev.move rfl rfl) ?_
                        obtain ⟨x36, e37, h⟩ := bdS h
                        refine RunD.a rfl rfl (Ev.e_rd X e37 rfl rfl rfl rfl) ?_
                        refine RunD.a rfl rfl (Ev.load X rfl rfl rfl) ?_
                        obtain ⟨x38, e39, h⟩ := bdS h
                        refine RunD.a rfl rfl (Ev.callC en60 (k_triviumref23_group e39) rfl (.cons .v (.cons .v (.cons .v .nil))) rfl rfl) ?_
                        refine RunD.w (fun _ => Ev.not rfl rfl) ?_
                        refine RunD.nil ?_
                        refine T.cond rfl (fun hb40 => ?_) (fun hb40 => ?_)
                        · replace h := ifT hb40 h
                          refine T.seq ?_
                          refine T.region ?_
                          refine Run.go (Ev.assign rfl rfl) ?_
                          refine Run.nil ?_
                          refine T.ret ?_
                          cases h
                          cases hz2
                          cases hz1
                          exact Fin.one rfl .v
                        · replace h := ifF hb40 h
                          refine T.skip ?_
                          refine T.region ?_
                          refine Run.go (Ev.move rfl rfl) ?_
                          refine Run.go (Ev.int rfl rfl rfl rfl trivial) ?_
                          refine Run.go (Ev.assign rfl rfl) ?_
                          refine Run.nil ?_
                          cases h
                          exact LoopT.ghost (Ghost.only [(1, 1)] [1, 16, 17] rfl) hz2
                      · replace h := ifF hb31 h
                        refine T.exit ?_
                        refine T.region ?_
                        refine Run.go (Ev.move rfl rfl) ?_
                        refine Run.go (Ev.int rfl rfl rfl rfl trivial) ?_
                        refine Run.go (Ev.assign rfl rfl) ?_
                        refine Run.nil ?_
                        cases h
                        cases hz2
                        exact LoopT.ghost (Ghost.only [(1, 1)] [1, 16] rfl) hz1
                    · replace h := ifF hb27 h
                      refine T.exit ?_
                      refine T.seq ?_
                      refine T.region ?_
                      refine Run.go (Ev.assign rfl rfl) ?_
                      refine Run.nil ?_
                      refine T.ret ?_
                      cases h
                      cases hz1
                      exact Fin.one rfl .v
theorem en13 : Enters Tryz.prog 13 := ⟨_, Tryz.func13, rfl, rfl⟩
theorem k_triviumref23_Nets {p0 : (List D_api_Net)} {y : Int} (h : m_triviumref23_Nets p0 = some y) : Spec Tryz.prog 13 [(.v (.sl Y_api_Net) p0)] (.v (.int .i64) y) [] := by
  rw [m_triviumref23_Nets] at h
  refine enterN [(.v (.sl Y_api_Net) p0)] 39 Tryz.func13 rfl rfl rfl ?_
  refine T.seq ?_
  refine T.region ?_
  refine Run.go (Ev.assign rfl rfl) ?_
  refine Run.nil ?_
  refine T.seq ?_
  refine T.region ?_
  refine Run.go (Ev.build X 1 rfl rfl rfl rfl rfl rfl rfl rfl) ?_
  refine Run.go (Ev.assign rfl rfl) ?_
  refine Run.nil ?_
  obtain ⟨v1, hv, h⟩ := bdS h
  refine T.cut (fun _ : Unit => (⟨[(0, .v (.sl Y_api_Net) p0), (3, .own 5)], [(5, .arr 9 .str v1)], 39⟩ : St)) (fun _ => True) ?_ (fun _ _ => ?_)
  · replace h := hv
    clear hv
    refine T.seq ?_
    refine T.region ?_
    refine Run.go (Ev.assign rfl rfl) ?_
    refine Run.nil ?_
    refine T.block ?_
    refine T.loop (LoopT.ghost (Ghost.only [(1, 15)] [0, 3, 4] rfl) (LoopT.run (fun q : Int × (List ByteArray) => (⟨[(0, .v (.sl Y_api_Net) p0), (3, .own 15), (4, .v (.int .i64) q.1)], [(15, .arr 9 .str q.2)], 39⟩ : St)) (fun q z1 h hz1 => ?_) h))
    obtain ⟨v2, v3⟩ := q
    dsimp only
    rw [m_triviumref23_Nets_l1] at h
    refine T.seq ?_
    refine T.seq ?_
    refine T.region ?_
    refine Run.go (Ev.move rfl rfl) ?_
    refine Run.go (Ev.move rfl rfl) ?_
    refine Run.go (Ev.len X rfl rfl rfl rfl) ?_
    refine Run.go (Ev.int rfl rfl rfl rfl trivial) ?_
    refine Run.nil ?_
    refine T.cond rfl (fun hb4 => ?_) (fun hb4 => ?_)
    · replace h := ifT hb4 h
      refine T.skip ?_
      refine T.seq ?_
      refine T.block ?_
      refine T.region ?_
      refine Run.go (Ev.move rfl rfl) ?_
      refine Run.go (Ev.move rfl rfl) ?_
      refine Run.go (Ev.move rfl rfl) ?_
      obtain ⟨x5, e6, h⟩ := bdS h
      refine Run.go (Ev.e_rd X e6 rfl rfl rfl rfl) ?_
      refine Run.go (Ev.fieldAddr X rfl rfl rfl rfl) ?_
      refine Run.go (Ev.load X rfl rfl rfl) ?_
      refine Run.go (Ev.build X 19 rfl rfl rfl rfl rfl rfl rfl rfl) ?_
      obtain ⟨x7, e8, h⟩ := bdS h
      refine Run.go (Ev.e_ap X 20 e8 rfl rfl rfl (.own rfl) rfl rfl rfl rfl rfl) ?_
      refine Run.go (Ev.assign rfl rfl) ?_
      refine Run.nil ?_
      refine T.region ?_
      refine Run.go (Ev.move rfl rfl) ?_
      refine Run.go (Ev.int rfl rfl rfl rfl trivial) ?_
      refine Run.go (Ev.assign rfl rfl) ?_
      refine Run.nil ?_
      cases h
      exact LoopT.ghost (Ghost.only [(20, 15)] [0, 3, 4] rfl) hz1
    · replace h := ifF hb4 h
      refine T.exit ?_
      cases h
      cases hz1
      exact ⟨(), trivial, Ghost.only [(15, 5)] [0, 3] rfl⟩
  · refine T.seq ?_
    refine T.seq ?_
    refine T.region ?_
    refine Run.go (Ev.move rfl rfl) ?_
    obtain ⟨x9, e10, h⟩ := bdS h
    refine Run.go (Ev.lend rfl (.cons (.own rfl) .nil) en30 (k_triviumref23_names e10) rfl rfl) ?_
    refine Run.go (Ev.not rfl rfl) ?_
    refine Run.nil ?_
    refine T.cond rfl (fun hb11 => ?_) (fun hb11 => ?_)
    · replace h := ifT hb11 h
      refine T.seq ?_
      refine T.region ?_
      refine Run.go (Ev.assign rfl rfl) ?_
      refine Run.nil ?_
      refine T.ret ?_
      cases h
      exact Fin.one rfl .v
    · replace h := ifF hb11 h
      refine T.skip ?_
      refine T.seq ?_
      refine T.seq ?_
      refine T.region ?_
      refine Run.go (Ev.assign rfl rfl) ?_
      refine Run.nil ?_
      refine T.block ?_
      refine T.loop (LoopT.ghost (Ghost.only [] [0, 5] rfl) (LoopT.run (fun q : Int => (⟨[(0, .v (.sl Y_api_Net) p0), (5, .v (.int .i64) q)], [], 39⟩ : St)) (fun v12 z1 h hz1 => ?_) h))
      rw [m_triviumref23_Nets_l2] at h
      refine T.seq ?_
      refine T.seq ?_
      refine T.region ?_
      refine Run.go (Ev.move rfl rfl) ?_
      refine Run.go (Ev.move rfl rfl) ?_
      refine Run.go (Ev.len X rfl rfl rfl rfl) ?_
      refine Run.go (Ev.int rfl rfl rfl rfl trivial) ?_
      refine Run.nil ?_
      refine T.cond rfl (fun hb13 => ?_) (fun hb13 => ?_)
      · replace h := ifT hb13 h
        refine T.skip ?_
        refine T.seq ?_
        refine T.block ?_
        refine T.seq ?_
        refine T.region ?_
        refine Run.go (Ev.move rfl rfl) ?_
        refine Run.go (Ev.move rfl rfl) ?_
        obtain ⟨x14, e15, h⟩ := bdS h
        refine Run.go (Ev.e_rd X e15 rfl rfl rfl rfl) ?_
        refine Run.go (Ev.load X rfl rfl rfl) ?_
        obtain ⟨x16, e17, h⟩ := bdS h
        refine Run.go (Ev.callC en31 (k_triviumref23_net e17) rfl (.cons .v .nil) rfl rfl) ?_
        refine Run.go (Ev.assign rfl rfl) ?_
        refine Run.nil ?_
        refine T.seq ?_
        refine T.region ?_
        refine Run.go (Ev.move rfl rfl) ?_
        refine Run.go (Ev.int rfl rfl rfl rfl trivial) ?_
        refine Run.nil ?_
        refine T.cond rfl (fun hb18 => ?_) (fun hb18 => ?_)
        · replace h := ifT hb18 h
          refine T.seq ?_
          refine T.region ?_
          refine Run.go (Ev.move rfl rfl) ?_
          refine Run.go (Ev.assign rfl rfl) ?_
          refine Run.nil ?_
          refine T.ret ?_
          cases h
          cases hz1
          exact Fin.one rfl .v
        · replace h := ifF hb18 h
          refine T.skip ?_
          refine T.region ?_
          refine Run.go (Ev.move rfl rfl) ?_
          refine Run.go (Ev.int rfl rfl rfl rfl trivial) ?_
          refine Run.go (Ev.assign rfl rfl) ?_
          refine Run.nil ?_
          cases h
          exact LoopT.ghost (Ghost.only [] [0, 5] rfl) hz1
      · replace h := ifF hb13 h
        refine T.exit ?_
        refine T.seq ?_
        refine T.region ?_
        refine Run.go (Ev.assign rfl rfl) ?_
        refine Run.nil ?_
        refine T.ret ?_
        cases h
        cases hz1
        exact Fin.one rfl .v
theorem en14 : Enters Tryz.prog 14 := ⟨_, Tryz.func14, rfl, rfl⟩
theorem k_triviumlaw23_works  {y : Bool} (h : m_triviumlaw23_works  = some y) : Spec Tryz.prog 14 [] (.v .bool y) [] := by
  rw [m_triviumlaw23_works] at h
  refine enterN [] 12 Tryz.func14 rfl rfl rfl ?_
  refine T.seq ?_
  refine T.region ?_
  refine Run.go (Ev.assign rfl rfl) ?_
  refine Run.nil ?_
  refine T.seq ?_
  refine T.region ?_
  refine Run.go (Ev.structC pl28 zs28 rfl rfl rfl) ?_
  refine Run.go (Ev.structC pl28 zs28 rfl rfl rfl) ?_
  refine Run.ghost (Ghost.stv (t := 1) (τ := Y_api_Net) (y := (((bs [97]), [], [], []) : D_api_Net)) rfl rfl rfl) ?_
  refine Run.ghost (Ghost.stv (t := 2) (τ := Y_api_Net) (y := (((bs [97]), [], [], []) : D_api_Net)) rfl rfl rfl) ?_
  refine Run.go (Ev.build X 1 rfl rfl rfl rfl rfl rfl rfl rfl) ?_
  obtain ⟨x1, e2, h⟩ := bdS h
  refine Run.go (Ev.lend rfl (.cons (.own rfl) .nil) en12 (k_formed_Nets e2) rfl rfl) ?_
  refine Run.go (Ev.int rfl rfl rfl rfl trivial) ?_
  refine Run.go (Ev.move rfl rfl) ?_
  rcases boolCases (decide (x1 = 1)) with hb3 | hb3
  · replace h := ifT hb3 h
    refine Run.on rfl rfl rfl hb3 (Ev.structC pl28 zs28 rfl rfl rfl) ?_
    refine Run.ghost (Ghost.stv (t := 7) (τ := Y_api_Net) (y := (((bs [97]), [], [], []) : D_api_Net)) rfl rfl rfl) ?_
    refine Run.on rfl rfl rfl hb3 (Ev.build X 2 rfl rfl rfl rfl rfl rfl rfl rfl) ?_
    obtain ⟨x4, e5, h⟩ := bdS h
    refine Run.on rfl rfl rfl hb3 (Ev.lend rfl (.cons (.own rfl) .nil) en12 (k_formed_Nets e5) rfl rfl) ?_
    refine Run.on rfl rfl rfl hb3 (Ev.int rfl rfl rfl rfl trivial) ?_
    refine Run.go (Ev.pickT rfl hb3 rfl rfl) ?_
    refine Run.go (Ev.assign rfl rfl) ?_
    refine Run.nil ?_
    refine T.ret ?_
    cases h
    exact Fin.one rfl .v
  · replace h := ifF hb3 h
    refine Run.offT rfl rfl rfl rfl hb3 ?_
    refine Run.offT rfl rfl rfl rfl hb3 ?_
    refine Run.offT rfl rfl rfl rfl hb3 ?_
    refine Run.offT rfl rfl rfl rfl hb3 ?_
    refine Run.go (Ev.pickF rfl hb3 rfl rfl) ?_
    refine Run.go (Ev.assign rfl rfl) ?_
    refine Run.nil ?_
    refine T.ret ?_
    cases h
    exact Fin.one rfl .v
end Go.Proofs.YtbmogniipgmkiaaGreat.AE
/- The code comes to the printed functions (printed by a program of ours). -/
namespace Go.Proofs.YtbmogniipgmkiaaGreat.AE
open Go Go.RowKit Go.Proofs.YtbmogniipgmkiaaGreat.AP
set_option linter.unusedVariables false
set_option maxRecDepth 20000
theorem en3 : Enters Tryz.prog 3 := ⟨_, Tryz.func3, rfl, rfl⟩
theorem k_triviumlaw23_FormNets {p0 : (List D_api_Net)} {p1 : ByteArray} {y : Bool} (h : m_triviumlaw23_FormNets p0 p1 = some y) : Spec Tryz.prog 3 [(.v (.sl Y_api_Net) p0), (.v .str p1)] (.v .bool y) [] := by
  rw [m_triviumlaw23_FormNets] at h
  refine enterN [(.v (.sl Y_api_Net) p0), (.v .str p1)] 113 Tryz.func3 rfl rfl rfl ?_
  refine T.seq ?_
  refine T.region ?_
  refine Run.go (Ev.assign rfl rfl) ?_
  refine Run.nil ?_
  refine T.seq ?_
  refine T.region ?_
  refine Run.go (Ev.move rfl rfl) ?_
  obtain ⟨x1, e2, h⟩ := bdS h
  refine Run.go (Ev.callC en5 (k_triviumref22_Clean e2) rfl (.cons .v .nil) rfl rfl) ?_
  refine Run.go (Ev.assign rfl rfl) ?_
  refine Run.nil ?_
  refine T.seq ?_
  refine T.region ?_
  refine Run.go (Ev.move rfl rfl) ?_
  obtain ⟨x3, e4, h⟩ := bdS h
  refine Run.go (Ev.callC en5 (k_triviumref22_Clean e4) rfl (.cons .v .nil) rfl rfl) ?_
  refine Run.go (Ev.move rfl rfl) ?_
  obtain ⟨x5, e6, h⟩ := bdS h
  refine Run.go (Ev.callC en6 (k_formed_Find e6) rfl (.cons .v (.cons .v .nil)) rfl rfl) ?_
  refine Run.go (Ev.move rfl rfl) ?_
  refine Run.go (Ev.extract rfl rfl rfl) ?_
  refine Run.go (Ev.extract rfl rfl rfl) ?_
  refine Run.go (Ev.allocN X 1 rfl rfl rfl) ?_
  refine Run.do_ (Ev.storeBox X rfl rfl rfl rfl rfl rfl rfl) ?_
  refine Run.go (Ev.assign rfl rfl) ?_
  refine Run.nil ?_
  refine T.seq ?_
  refine T.region ?_
  refine Run.go (Ev.move rfl rfl) ?_
  refine Run.go (Ev.move rfl rfl) ?_
  obtain ⟨x7, e8, h⟩ := bdS h
  refine Run.go (Ev.callC en7 (k_triviumref23_Find e8) rfl (.cons .v (.cons .v .nil)) rfl rfl) ?_
  refine Run.go (Ev.assign rfl rfl) ?_
  refine Run.nil ?_
  refine T.seq ?_
  obtain ⟨v9, hv, h⟩ := bdS h
  refine T.cut (fun _ : Unit => (⟨[(0, .v (.sl Y_api_Net) x1), (1, .v .str p1), (37, .v .bool v9)], [], 113⟩ : St)) (fun _ => True) ?_ (fun _ _ => ?_)
  · replace h := hv
    clear hv
    refine T.region ?_
    refine Run.go (Ev.move rfl rfl) ?_
    refine Run.go (Ev.move rfl rfl) ?_
    refine Run.go (Ev.int rfl rfl rfl rfl trivial) ?_
    refine Run.go (Ev.bools X rfl rfl rfl rfl rfl) ?_
    refine Run.go (Ev.move rfl rfl) ?_
    rcases boolCases (!(x5.2 == (decide (0 ≤ x7)))) with hb10 | hb10
    · replace h := ifT hb10 h
      refine Run.offT rfl rfl rfl rfl hb10 ?_
      refine Run.offT rfl rfl rfl rfl hb10 ?_
      refine Run.un rfl rfl rfl ?_
      refine Run.un rfl rfl rfl ?_
      refine Run.un rfl rfl rfl ?_
      refine Run.un rfl rfl rfl ?_
      refine Run.offT rfl rfl rfl rfl hb10 ?_
      refine Run.go (Ev.pickT rfl hb10 rfl rfl) ?_
      refine Run.nil ?_
      cases h
      exact ⟨(), trivial, Ghost.only [] [0, 1, 37] rfl⟩
    · replace h := ifF hb10 h
      refine Run.on rfl rfl rfl hb10 (Ev.move rfl rfl) ?_
      refine Run.on rfl rfl rfl hb10 (Ev.move rfl rfl) ?_
      rcases boolCases x5.2 with hb11 | hb11
      · replace h := ifT hb11 h
        refine Run.on rfl rfl rfl hb11 (Ev.fieldBox X rfl rfl rfl rfl rfl) ?_
        refine Run.on rfl rfl rfl hb11 (Ev.loadCell X rfl rfl rfl rfl rfl rfl) ?_
        refine Run.on rfl rfl rfl hb11 (Ev.move rfl rfl) ?_
        refine Run.on rfl rfl rfl hb11 (Ev.strs rfl rfl rfl rfl trivial) ?_
        refine Run.on rfl rfl rfl hb10 (Ev.pickT rfl hb11 rfl rfl) ?_
        refine Run.go (Ev.pickF rfl hb10 rfl rfl) ?_
        refine Run.nil ?_
        cases h
        exact ⟨(), trivial, Ghost.only [] [0, 1, 37] rfl⟩
      · replace h := ifF hb11 h
        refine Run.offT rfl rfl rfl rfl hb11 ?_
        refine Run.offT rfl rfl rfl rfl hb11 ?_
        refine Run.offT rfl rfl rfl rfl hb11 ?_
        refine Run.offT rfl rfl rfl rfl hb11 ?_
        refine Run.on rfl rfl rfl hb10 (Ev.pickF rfl hb11 rfl rfl) ?_
        refine Run.go (Ev.pickF rfl hb10 rfl rfl) ?_
        refine Run.nil ?_
        cases h
        exact ⟨(), trivial, Ghost.only [] [0, 1, 37] rfl⟩
  · refine T.cond rfl (fun hb12 => ?_) (fun hb12 => ?_)
    · replace h := ifT hb12 h
      refine T.seq ?_
      refine T.region ?_
      refine Run.go (Ev.assign rfl rfl) ?_
      refine Run.nil ?_
      refine T.ret ?_
      cases h
      exact Fin.one rfl .v
    · replace h := ifF hb12 h
      refine T.skip ?_
      refine T.seq ?_
      refine T.seq ?_
      refine T.region ?_
      refine Run.go (Ev.assign rfl rfl) ?_
      refine Run.nil ?_
      refine T.block ?_
      refine T.loop (LoopT.ghost (Ghost.only [] [0, 1, 8] rfl) (LoopT.run (fun q : Int => (⟨[(0, .v (.sl Y_api_Net) x1), (1, .v .str p1), (8, .v (.int .i64) q)], [], 113⟩ : St)) (fun v13 z1 h hz1 => ?_) h))
      rw [m_triviumlaw23_FormNets_l1] at h
      refine T.seq ?_
      refine T.seq ?_
      refine T.region ?_
      refine Run.go (Ev.move rfl rfl) ?_
      refine Run.go (Ev.move rfl rfl) ?_
      refine Run.go (Ev.len X rfl rfl rfl rfl) ?_
      refine Run.go (Ev.int rfl rfl rfl rfl trivial) ?_
      refine Run.nil ?_
      refine T.cond rfl (fun hb14 => ?_) (fun hb14 => ?_)
      · replace h := ifT hb14 h
        refine T.skip ?_
        refine T.seq ?_
        refine T.block ?_
        refine T.seq ?_
        refine T.region ?_
        refine Run.go (Ev.move rfl rfl) ?_
        refine Run.go (Ev.move rfl rfl) ?_
        obtain ⟨x15, e16, h⟩ := bdS h
        refine Run.go (Ev.e_rd X e16 rfl rfl rfl rfl) ?_
        refine Run.go (Ev.load X rfl rfl rfl) ?_
        refine Run.go (Ev.move rfl rfl) ?_
        obtain ⟨x17, e18, h⟩ := bdS h
        refine Run.go (Ev.callC en8 (k_formed_Node e18) rfl (.cons .v (.cons .v .nil)) rfl rfl) ?_
        refine Run.go (Ev.move rfl rfl) ?_
        refine Run.go (Ev.extract rfl rfl rfl) ?_
        refine Run.go (Ev.extract rfl rfl rfl) ?_
        refine Run.go (Ev.assign rfl rfl) ?_
        refine Run.go (Ev.assign rfl rfl) ?_
        refine Run.nil ?_
        refine T.seq ?_
        refine T.region ?_
        refine Run.go (Ev.move rfl rfl) ?_
        refine Run.go (Ev.move rfl rfl) ?_
        obtain ⟨x19, e20, h⟩ := bdS h
        refine Run.go (Ev.e_rd X e20 rfl rfl rfl rfl) ?_
        refine Run.go (Ev.load X rfl rfl rfl) ?_
        refine Run.go (Ev.move rfl rfl) ?_
        obtain ⟨x21, e22, h⟩ := bdS h
        refine Run.go (Ev.callC en9 (k_formed_Link e22) rfl (.cons .v (.cons .v .nil)) rfl rfl) ?_
        refine Run.go (Ev.move rfl rfl) ?_
        refine Run.go (Ev.extract rfl rfl rfl) ?_
        refine Run.go (Ev.extract rfl rfl rfl) ?_
        refine Run.go (Ev.assign rfl rfl) ?_
        refine Run.go (Ev.assign rfl rfl) ?_
        refine Run.nil ?_
        obtain ⟨v23, hv, h⟩ := bdS h
        refine T.cut (fun _ : Unit => (⟨[(0, .v (.sl Y_api_Net) x1), (1, .v .str p1), (8, .v (.int .i64) v13), (103, .v .bool v23)], [], 113⟩ : St)) (fun _ => True) ?_ (fun _ _ => ?_)
        · replace h := hv
          clear hv
          refine T.region ?_
          refine Run.go (Ev.move rfl rfl) ?_
          refine Run.go (Ev.move rfl rfl) ?_
          refine Run.go (Ev.move rfl rfl) ?_
          obtain ⟨x24, e25, h⟩ := bdS h
          refine Run.go (Ev.e_rd X e25 rfl rfl rfl rfl) ?_
          refine Run.go (Ev.load X rfl rfl rfl) ?_
          refine Run.go (Ev.move rfl rfl) ?_
          obtain ⟨x26, e27, h⟩ := bdS h
          refine Run.go (Ev.callC en10 (k_triviumref23_Node e27) rfl (.cons .v (.cons .v .nil)) rfl rfl) ?_
          refine Run.go (Ev.int rfl rfl rfl rfl trivial) ?_
          refine Run.go (Ev.bools X rfl rfl rfl rfl rfl) ?_
          refine Run.go (Ev.move rfl rfl) ?_
          rcases boolCases (!(x17.2 == (decide (0 ≤ x26)))) with hb28 | hb28
          · replace h := ifT hb28 h
            refine Run.offT rfl rfl rfl rfl hb28 ?_
            refine Run.offT rfl rfl rfl rfl hb28 ?_
            refine Run.offT rfl rfl rfl rfl hb28 ?_
            refine Run.offT rfl rfl rfl rfl hb28 ?_
            refine Run.offT rfl rfl rfl rfl hb28 ?_
            refine Run.offT rfl rfl rfl rfl hb28 ?_
            refine Run.offT rfl rfl rfl rfl hb28 ?_
            refine Run.offT rfl rfl rfl rfl hb28 ?_
            refine Run.offT rfl rfl rfl rfl hb28 ?_
            refine Run.go (Ev.pickT rfl hb28 rfl rfl) ?_
            refine Run.go (Ev.move rfl rfl) ?_
            refine Run.offT rfl rfl rfl rfl rfl ?_
            refine Run.offT rfl rfl rfl rfl rfl ?_
            refine Run.offT rfl rfl rfl rfl rfl ?_
            refine Run.offT rfl rfl rfl rfl rfl ?_
            refine Run.offT rfl rfl rfl rfl rfl ?_
            refine Run.offT rfl rfl rfl rfl rfl ?_
            refine Run.offT rfl rfl rfl rfl rfl ?_
            refine Run.offT rfl rfl rfl rfl rfl ?_
            refine Run.offT rfl rfl rfl rfl rfl ?_
            refine Run.go (Ev.pickT rfl rfl rfl rfl) ?_
            refine Run.go (Ev.move rfl rfl) ?_
            refine Run.offT rfl rfl rfl rfl rfl ?_
            refine Run.offT rfl rfl rfl rfl rfl ?_
            refine Run.offT rfl rfl rfl rfl rfl ?_
            refine Run.offT rfl rfl rfl rfl rfl ?_
            refine Run.offT rfl rfl rfl rfl rfl ?_
            refine Run.offT rfl rfl rfl rfl rfl ?_
            refine Run.offT rfl rfl rfl rfl rfl ?_
            refine Run.offT rfl rfl rfl rfl rfl ?_
            refine Run.offT rfl rfl rfl rfl rfl ?_
            refine Run.go (Ev.pickT rfl rfl rfl rfl) ?_
            refine Run.nil ?_
            cases h
            exact ⟨(), trivial, Ghost.only [] [0, 1, 8, 103] rfl⟩
          · replace h := ifF hb28 h
            refine Run.on rfl rfl rfl hb28 (Ev.move rfl rfl) ?_
            refine Run.on rfl rfl rfl hb28 (Ev.move rfl rfl) ?_
            refine Run.on rfl rfl rfl hb28 (Ev.move rfl rfl) ?_
            obtain ⟨x29, e30, h⟩ := bdS h
            refine Run.on rfl rfl rfl hb28 (Ev.e_rd X e30 rfl rfl rfl rfl) ?_
            refine Run.on rfl rfl rfl hb28 (Ev.load X rfl rfl rfl) ?_
            refine Run.on rfl rfl rfl hb28 (Ev.move rfl rfl) ?_
            obtain ⟨x31, e32, h⟩ := bdS h
            refine Run.on rfl rfl rfl hb28 (Ev.callC en10 (k_triviumref23_Node e32) rfl (.cons .v (.cons .v .nil)) rfl rfl) ?_
            refine Run.on rfl rfl rfl hb28 (Ev.max rfl rfl rfl) ?_
            refine Run.on rfl rfl rfl hb28 (Ev.int rfl rfl rfl rfl trivial) ?_
            refine Run.go (Ev.pickF rfl hb28 rfl rfl) ?_
            refine Run.go (Ev.move rfl rfl) ?_
            rcases boolCases (!decide (x17.1 = (max x31 0))) with hb33 | hb33
            · replace h := ifT hb33 h
              refine Run.offT rfl rfl rfl rfl hb33 ?_
              refine Run.offT rfl rfl rfl rfl hb33 ?_
              refine Run.offT rfl rfl rfl rfl hb33 ?_
              refine Run.offT rfl rfl rfl rfl hb33 ?_
              refine Run.offT rfl rfl rfl rfl hb33 ?_
              refine Run.offT rfl rfl rfl rfl hb33 ?_
              refine Run.offT rfl rfl rfl rfl hb33 ?_
              refine Run.offT rfl rfl rfl rfl hb33 ?_
              refine Run.offT rfl rfl rfl rfl hb33 ?_
              refine Run.go (Ev.pickT rfl hb33 rfl rfl) ?_
              refine Run.go (Ev.move rfl rfl) ?_
              refine Run.offT rfl rfl rfl rfl rfl ?_
              refine Run.offT rfl rfl rfl rfl rfl ?_
              refine Run.offT rfl rfl rfl rfl rfl ?_
              refine Run.offT rfl rfl rfl rfl rfl ?_
              refine Run.offT rfl rfl rfl rfl rfl ?_
              refine Run.offT rfl rfl rfl rfl rfl ?_
              refine Run.offT rfl rfl rfl rfl rfl ?_
              refine Run.offT rfl rfl rfl rfl rfl ?_
              refine Run.offT rfl rfl rfl rfl rfl ?_
              refine Run.go (Ev.pickT rfl rfl rfl rfl) ?_
              refine Run.nil ?_
              cases h
              exact ⟨(), trivial, Ghost.only [] [0, 1, 8, 103] rfl⟩
            · replace h := ifF hb33 h
              refine Run.on rfl rfl rfl hb33 (Ev.move rfl rfl) ?_
              refine Run.on rfl rfl rfl hb33 (Ev.move rfl rfl) ?_
              refine Run.on rfl rfl rfl hb33 (Ev.move rfl rfl) ?_
              obtain ⟨x34, e35, h⟩ := bdS h
              refine Run.on rfl rfl rfl hb33 (Ev.e_rd X e35 rfl rfl rfl rfl) ?_
              refine Run.on rfl rfl rfl hb33 (Ev.load X rfl rfl rfl) ?_
              refine Run.on rfl rfl rfl hb33 (Ev.move rfl rfl) ?_
              obtain ⟨x36, e37, h⟩ := bdS h
              refine Run.on rfl rfl rfl hb33 (Ev.callC en11 (k_triviumref23_Link e37) rfl (.cons .v (.cons .v .nil)) rfl rfl) ?_
              refine Run.on rfl rfl rfl hb33 (Ev.int rfl rfl rfl rfl trivial) ?_
              refine Run.on rfl rfl rfl hb33 (Ev.bools X rfl rfl rfl rfl rfl) ?_
              refine Run.go (Ev.pickF rfl hb33 rfl rfl) ?_
              refine Run.go (Ev.move rfl rfl) ?_
              rcases boolCases (!(x21.2 == (decide (0 ≤ x36)))) with hb38 | hb38
              · replace h := ifT hb38 h
                refine Run.offT rfl rfl rfl rfl hb38 ?_
                refine Run.offT rfl rfl rfl rfl hb38 ?_
                refine Run.offT rfl rfl rfl rfl hb38 ?_
                refine Run.offT rfl rfl rfl rfl hb38 ?_
                refine Run.offT rfl rfl rfl rfl hb38 ?_
                refine Run.offT rfl rfl rfl rfl hb38 ?_
                refine Run.offT rfl rfl rfl rfl hb38 ?_
                refine Run.offT rfl rfl rfl rfl hb38 ?_
                refine Run.offT rfl rfl rfl rfl hb38 ?_
                refine Run.go (Ev.pickT rfl hb38 rfl rfl) ?_
                refine Run.nil ?_
                cases h
                exact ⟨(), trivial, Ghost.only [] [0, 1, 8, 103] rfl⟩
              · replace h := ifF hb38 h
                refine Run.on rfl rfl rfl hb38 (Ev.move rfl rfl) ?_
                refine Run.on rfl rfl rfl hb38 (Ev.move rfl rfl) ?_
                refine Run.on rfl rfl rfl hb38 (Ev.move rfl rfl) ?_
                obtain ⟨x39, e40, h⟩ := bdS h
                refine Run.on rfl rfl rfl hb38 (Ev.e_rd X e40 rfl rfl rfl rfl) ?_
                refine Run.on rfl rfl rfl hb38 (Ev.load X rfl rfl rfl) ?_
                refine Run.on rfl rfl rfl hb38 (Ev.move rfl rfl) ?_
                obtain ⟨x41, e42, h⟩ := bdS h
                refine Run.on rfl rfl rfl hb38 (Ev.callC en11 (k_triviumref23_Link e42) rfl (.cons .v (.cons .v .nil)) rfl rfl) ?_
                refine Run.on rfl rfl rfl hb38 (Ev.max rfl rfl rfl) ?_
                refine Run.on rfl rfl rfl hb38 (Ev.int rfl rfl rfl rfl trivial) ?_
                refine Run.go (Ev.pickF rfl hb38 rfl rfl) ?_
                refine Run.nil ?_
                cases h
                exact ⟨(), trivial, Ghost.only [] [0, 1, 8, 103] rfl⟩
        · refine T.cond rfl (fun hb43 => ?_) (fun hb43 => ?_)
          · replace h := ifT hb43 h
            refine T.seq ?_
            refine T.region ?_
            refine Run.go (Ev.assign rfl rfl) ?_
            refine Run.nil ?_
            refine T.ret ?_
            cases h
            cases hz1
            exact Fin.one rfl .v
          · replace h := ifF hb43 h
            refine T.skip ?_
            refine T.region ?_
            refine Run.go (Ev.move rfl rfl) ?_
            refine Run.go (Ev.int rfl rfl rfl rfl trivial) ?_
            refine Run.go (Ev.assign rfl rfl) ?_
            refine Run.nil ?_
            cases h
            exact LoopT.ghost (Ghost.only [] [0, 1, 8] rfl) hz1
      · replace h := ifF hb14 h
        refine T.exit ?_
        refine T.seq ?_
        refine T.region ?_
        refine Run.go (Ev.move rfl rfl) ?_
        obtain ⟨x44, e45, h⟩ := bdS h
        refine Run.go (Ev.callC en5 (k_triviumref22_Clean e45) rfl (.cons .v .nil) rfl rfl) ?_
        obtain ⟨x46, e47, h⟩ := bdS h
        refine Run.go (Ev.callC en12 (k_formed_Nets e47) rfl (.cons .v .nil) rfl rfl) ?_
        refine Run.go (Ev.move rfl rfl) ?_
        obtain ⟨x48, e49, h⟩ := bdS h
        refine Run.go (Ev.callC en13 (k_triviumref23_Nets e49) rfl (.cons .v .nil) rfl rfl) ?_
        refine Run.go (Ev.int rfl rfl rfl rfl trivial) ?_
        refine Run.go (Ev.move rfl rfl) ?_
        rcases boolCases (decide (x46 = x48)) with hb50 | hb50
        · replace h := ifT hb50 h
          obtain ⟨x51, e52, h⟩ := bdS h
          refine Run.on rfl rfl rfl hb50 (Ev.callC en14 (k_triviumlaw23_works e52) rfl .nil rfl rfl) ?_
          refine Run.go (Ev.pickT rfl hb50 rfl rfl) ?_
          refine Run.go (Ev.assign rfl rfl) ?_
          refine Run.nil ?_
          refine T.ret ?_
          cases h
          cases hz1
          exact Fin.one rfl .v
        · replace h := ifF hb50 h
          refine Run.offT rfl rfl rfl rfl hb50 ?_
          refine Run.go (Ev.pickF rfl hb50 rfl rfl) ?_
          refine Run.go (Ev.assign rfl rfl) ?_
          refine Run.nil ?_
          refine T.ret ?_
          cases h
          cases hz1
          exact Fin.one rfl .v
end Go.Proofs.YtbmogniipgmkiaaGreat.AE
/- From a law's contract to its row: how what is handed in reads. -/
namespace Go.Proofs.YtbmogniipgmkiaaGreat.AE
open Go Go.RowKit Go.WideShapes Go.ChangeAt Go.ChangeShapes

/-- values as a program has them -/
def Ty.ok : (t : Ty) → t.den → Prop
  | .int k, n => (Lit.int k n).wf = true
  | .bool, _ => True
  | .str, s => ByteArray.size s ≤ 9223372036854775807
  | .sl t, l => List.length (α := t.den) l ≤ 9223372036854775807 ∧ ∀ (i : Nat) (x : t.den), at? (α := t.den) l i = some x → t.ok x
  | .wrap t, x => t.ok x
  | .pair a b, x => a.ok x.1 ∧ b.ok x.2

theorem listed {α : Type} {Q : Nat → α → Prop} : ∀ n : Nat, (∀ i, i < n → ∃ y, Q i y) → ∃ l : List α, l.length = n ∧ ∀ (i : Nat) (x : α), at? l i = some x → Q i x
  | 0, _ => ⟨[], rfl, fun i x h => by cases h⟩
  | n + 1, h => by
    obtain ⟨l, h1, h2⟩ := listed n fun i hi => h i (by omega)
    obtain ⟨y, hy⟩ := h n (by omega)
    refine ⟨l ++ [y], by simp [h1], fun i x hx => ?_⟩
    unfold at? at hx
    by_cases hi : i < n
    · rw [List.getElem?_append_left (by omega)] at hx; exact h2 i x hx
    · have : i < (l ++ [y]).length := (List.getElem?_eq_some_iff.1 hx).1
      simp at this
      obtain rfl : i = n := by omega
      rw [List.getElem?_append_right (by omega)] at hx
      simp [h1] at hx
      exact hx ▸ hy

section
variable {H : Type} {enc : TypeId × Value → H} {P : Program} {w : World}
abbrev N0 : Nat → Prop := fun _ => False

def OpenT (enc : TypeId × Value → H) (P : Program) (w : World) (t : Ty) : Prop := ∀ (n : Nat) (i : TypeId) (fuel : Nat) (cs : List Value) (x : DataW H × List MemPlace),
  chk P n t i = true → DataW.trod enc P w 0 (fun _ => true) true fuel i cs = some x → ∃ y : t.den, t.relc w N0 y cs ∧ t.ok y
def OpenR (enc : TypeId × Value → H) (P : Program) (w : World) (t : Ty) : Prop := ∀ (n : Nat) (fs : List Field) (off : Nat) (m : Nat) (cs : List Value),
  chkR (chk P n) t fs off = true → cs.length = off + t.sz → (∀ (j : Nat) f, fs[j]? = some f → ∃ z, DataW.trod enc P w 0 (fun _ => true) true m f.type ((cs.drop f.offset).take (P.cellsOf f.type)) = some z) →
    ∃ y : t.den, t.relc w N0 y (cs.drop off) ∧ t.ok y
theorem chk_cells {n : Nat} {t : Ty} {i : TypeId} (h : chk P n t i = true) : P.cellsOf i = t.sz := by
  obtain ⟨f, z, h1, h2, _⟩ := Is.info ⟨n, h⟩
  simp [Program.cellsOf, h1, h2]
theorem openR_one {t : Ty} (ht : OpenT enc P w t) {n : Nat} {f : Field} {off m : Nat} {cs : List Value} (h : (f.offset == off && chk P n t f.type) = true) (hl : cs.length = off + t.sz)
    (hz : ∃ z, DataW.trod enc P w 0 (fun _ => true) true m f.type ((cs.drop f.offset).take (P.cellsOf f.type)) = some z) : ∃ y : t.den, t.relc w N0 y (cs.drop off) ∧ t.ok y := by
  rw [Bool.and_eq_true, beq_iff_eq] at h
  obtain ⟨rfl, hc⟩ := h
  obtain ⟨z, hz⟩ := hz
  rw [chk_cells hc, List.take_of_length_le (by rw [List.length_drop]; omega)] at hz
  exact ht n _ _ _ _ hc hz
theorem open_all (t : Ty) : OpenT enc P w t ∧ OpenR enc P w t := by
  have base : ∀ t : Ty, (∀ a b, t ≠ .pair a b) → OpenT enc P w t → OpenR enc P w t := by
    intro t hn ht n fs off m cs h hl hz
    cases fs with
    | nil => simp [chkR] at h
    | cons f r =>
      cases r with
      | nil => exact openR_one ht (by cases t <;> simpa [chkR] using h) hl (hz 0 f rfl)
      | cons g r => cases t <;> first | exact absurd rfl (hn _ _) | simp [chkR] at h
  induction t with
  | int k =>
    refine (fun h => ⟨h, base _ (fun _ _ h => by cases h) h⟩) ?_
    intro n i fuel cs x hc hx
    obtain ⟨z, h1, _, h2⟩ := DataW.trod_int (Is.desc ⟨n, hc⟩) hx
    exact ⟨z, h1, h2⟩
  | bool =>
    refine (fun h => ⟨h, base _ (fun _ _ h => by cases h) h⟩) ?_
    intro n i fuel cs x hc hx
    obtain ⟨z, h1, _⟩ := DataW.trod_bool (Is.desc ⟨n, hc⟩) hx
    exact ⟨z, h1, trivial⟩
  | str =>
    refine (fun h => ⟨h, base _ (fun _ _ h => by cases h) h⟩) ?_
    intro n i fuel cs x hc hx
    obtain ⟨z, h1, _, h2⟩ := DataW.trod_string (Is.desc ⟨n, hc⟩) hx
    exact ⟨z, h1, h2⟩
  | sl t ih =>
    refine (fun h => ⟨h, base _ (fun _ _ h => by cases h) h⟩) ?_
    intro n i fuel cs x hc hx
    obtain ⟨e, h1, h2⟩ := Is.desc ⟨n, hc⟩
    obtain ⟨k, h2⟩ := h2
    rcases DataW.trod_slice h1 hx with ⟨rfl, _⟩ | ⟨a, len, cap, elems, rest, m, _, rfl, _, _, hl, hm, hel, hcell, _⟩
    · exact ⟨([] : List t.den), ⟨none, 0, rfl, Nat.le_refl _, Nat.zero_le _, fun h => absurd h (Nat.lt_irrefl _)⟩, Nat.zero_le _, fun i x h => by cases h⟩
    · rw [chk_cells h2] at hcell
      obtain ⟨l, hll, hlq⟩ := listed (Q := fun j (y : t.den) => ∃ ds, t.relc w N0 y ds ∧ t.ok y ∧ ∀ (q : Nat) u, ds[q]? = some u → w.cell? (a.add (j * t.sz + q)) = some u) len (by
        intro j hj
        have hb := hcell j hj
        obtain ⟨el, hel'⟩ : ∃ z, elems[j]? = some z := ⟨_, List.getElem?_eq_getElem (by omega)⟩
        rw [hel'] at hb
        obtain ⟨ds, hd1, hd2⟩ := Option.bind_eq_some_iff.1 hb
        obtain ⟨_, hlen, hcs⟩ := World.cells?_some hd1
        obtain ⟨y, hy1, hy2⟩ := ih.1 k e m ds el h2 hd2
        refine ⟨y, ds, hy1, hy2, fun q u hu => ?_⟩
        have hq : q < t.sz := by have := (List.getElem?_eq_some_iff.1 hu).1; omega
        have := hcs q hq
        rw [Addr.add_add] at this
        rw [this, hu])
      refine ⟨l, ⟨some a, cap, by show _ = [Value.slice (some a) (List.length l) cap]; rw [hll], by show List.length l ≤ cap; omega, hm, fun _ => ⟨a, rfl, fun h => h, fun i x hx => ?_⟩⟩, by show List.length l ≤ _; have : maxLen = 9223372036854775807 := rfl; omega, fun i x hx => ?_⟩
      · obtain ⟨ds, h3, _, h4⟩ := hlq i x hx; exact ⟨ds, h3, h4⟩
      · obtain ⟨ds, _, h3, _⟩ := hlq i x hx; exact h3
  | wrap t ih =>
    refine (fun h => ⟨h, base _ (fun _ _ h => by cases h) h⟩) ?_
    intro n i fuel cs x hc hx
    obtain ⟨f, h1, h2, k, h3⟩ := Is.desc ⟨n, hc⟩
    obtain ⟨xs, m, _, _, hl, hlen, hf⟩ := DataW.trod_struct h1 hx
    rw [chk_cells hc] at hl
    have h4 := hf 0 f rfl
    rw [h2, chk_cells h3, List.drop_zero, List.take_of_length_le (by rw [hl]; exact Nat.le_refl _)] at h4
    obtain ⟨z, hz⟩ : ∃ z, xs[0]? = some z := ⟨_, List.getElem?_eq_getElem (by rw [hlen]; exact Nat.one_pos)⟩
    rw [hz] at h4
    exact ih.1 k _ _ _ _ h3 h4
  | pair a b iha ihb =>
    have hT : OpenT enc P w (.pair a b) := by
      intro n i fuel cs x hc hx
      obtain ⟨f, g, r, h1, h2, k, h3, h4⟩ := Is.desc ⟨n, hc⟩
      obtain ⟨xs, m, _, _, hl, hlen, hf⟩ := DataW.trod_struct h1 hx
      rw [chk_cells hc] at hl
      have hl : cs.length = a.sz + b.sz := hl
      have hsome : ∀ (j : Nat) f', (f :: g :: r)[j]? = some f' → ∃ z, DataW.trod enc P w 0 (fun _ => true) true m f'.type ((cs.drop f'.offset).take (P.cellsOf f'.type)) = some z := by
        intro j f' hj
        have h5 := hf j f' (by simpa using hj)
        have hj' : j < xs.length := by rw [hlen]; simpa using (List.getElem?_eq_some_iff.1 hj).1
        exact ⟨xs[j], by rw [h5, List.getElem?_eq_getElem hj']⟩
      obtain ⟨z, hz⟩ := hsome 0 f rfl
      rw [h2, chk_cells h3, List.drop_zero] at hz
      obtain ⟨y1, r1, o1⟩ := iha.1 k _ _ _ _ h3 hz
      obtain ⟨y2, r2, o2⟩ := ihb.2 k (g :: r) a.sz m cs h4 hl (fun j f' hj => hsome (j + 1) f' (by simpa using hj))
      exact ⟨(y1, y2), ⟨_, _, (List.take_append_drop a.sz cs).symm, r1, r2⟩, o1, o2⟩
    refine ⟨hT, ?_⟩
    intro n fs off m cs h hl hz
    cases fs with
    | nil => simp [chkR] at h
    | cons f r =>
      cases r with
      | nil => exact openR_one hT (by simpa [chkR] using h) hl (hz 0 f rfl)
      | cons g r =>
        simp only [chkR, Bool.and_eq_true, beq_iff_eq] at h
        obtain ⟨⟨rfl, hc⟩, hr⟩ := h
        have hl : cs.length = f.offset + (a.sz + b.sz) := hl
        obtain ⟨z, hz0⟩ := hz 0 f rfl
        rw [chk_cells hc] at hz0
        obtain ⟨y1, r1, o1⟩ := iha.1 n _ _ _ _ hc hz0
        obtain ⟨y2, r2, o2⟩ := ihb.2 n (g :: r) (f.offset + a.sz) m cs hr (by omega) (fun j f' hj => hz (j + 1) f' (by simpa using hj))
        refine ⟨(y1, y2), ⟨_, _, ?_, r1, r2⟩, o1, o2⟩
        rw [← List.drop_drop, List.take_append_drop]

/-- What is handed in is a value. -/
theorem open_v {t : Ty} {i : TypeId} {b0 : Nat} {r : Reach} {v : Value} {d : DataW H} {p : List MemPlace} (hi : Is P t i) (hv : Value.okWide P w r b0 i v) (h : DataW.Trod enc P w 0 (fun _ => true) true i v d p) :
    ∃ y : t.den, t.ok y ∧ t.rel w N0 y v := by
  obtain ⟨fuel, hf⟩ := h
  obtain ⟨n, hn⟩ := hi
  obtain ⟨y, h1, h2⟩ := (open_all (enc := enc) (P := P) (w := w) t).1 n i fuel _ _ hn hf
  refine ⟨y, h2, _, h1, ?_⟩
  have hd := Is.desc ⟨n, hn⟩
  have flat : t.agg = false → v.cells = #[v] → v = t.val v.cells.toList := by
    intro ha hc
    rw [hc]
    unfold Ty.val
    rw [ha]
    rfl
  have aggr : t.agg = true → (∃ cs, v = .agg cs) → v = t.val v.cells.toList := by
    rintro ha ⟨cs, rfl⟩
    unfold Ty.val
    rw [ha]
    rfl
  cases t with
  | int k => obtain ⟨z, rfl⟩ := okWide_int hd hv; exact flat rfl rfl
  | bool => obtain ⟨z, rfl⟩ := okWide_bool hd hv; exact flat rfl rfl
  | str => obtain ⟨z, rfl⟩ := okWide_string hd hv; exact flat rfl rfl
  | sl t => obtain ⟨e, hd, _⟩ := hd; obtain ⟨a, l, c, rfl⟩ := okWide_slice hd hv; exact flat rfl rfl
  | wrap t => obtain ⟨f, hd, _⟩ := hd; obtain ⟨cs, rfl, _⟩ := okWide_struct hd hv; exact aggr rfl ⟨_, rfl⟩
  | pair a b => obtain ⟨f, g, r, hd, _⟩ := hd; obtain ⟨cs, rfl, _⟩ := okWide_struct hd hv; exact aggr rfl ⟨_, rfl⟩
end

/-- a law holds of all arguments -/
def LawArgs : List Ty → (List AV → Prop) → Prop
  | [], Q => Q []
  | t :: r, Q => ∀ y : t.den, t.ok y → LawArgs r (fun l => Q (.v t y :: l))
theorem law_calls {P : Program} {f : Nat} {avs : List AV} {W : World} {args : List Value} (h : Spec P f avs (.v .bool true) []) (hr : AV.rels W N0 (fun _ => (0, 0)) [] avs args) :
    Calls P f args.toArray W fun e W' => e = .returned (.bool true) ∧ Below W.heap.size W W' := by
  refine (h N0 W args (fun _ h => h.elim) hr).mono fun e W' ⟨u, loc, he, _, hu, hb⟩ => ?_
  obtain ⟨cs, hc, rfl⟩ := hu
  have hc : cs = [.bool true] := hc
  subst hc
  exact ⟨he, hb⟩
end Go.Proofs.YtbmogniipgmkiaaGreat.AE
