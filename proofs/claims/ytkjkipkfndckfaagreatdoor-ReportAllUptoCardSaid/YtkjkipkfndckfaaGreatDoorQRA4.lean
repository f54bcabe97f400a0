/- The code comes to the printed functions (printed by a program of ours). -/
import Derived.Test.YtkjkipkfndckfaaGreatDoorQRA3
/- The code comes to the printed functions (printed by a program of ours). -/
namespace Go.Proofs.YtkjkipkfndckfaaGreatDoor.AE
open Go Go.RowKit Go.Proofs.YtkjkipkfndckfaaGreatDoor.AP
set_option linter.unusedVariables false
set_option maxRecDepth 20000
theorem en34 : Enters Tryz.prog 34 := ⟨_, Tryz.func34, rfl, rfl⟩
theorem k_triviumref08_Back {p0 : D_triviumref08_Q} {y : D_api_Rat} (h : m_triviumref08_Back p0 = some y) : Spec Tryz.prog 34 [(.v Y_triviumref08_Q p0)] (.v Y_api_Rat y) [] := by
  rw [m_triviumref08_Back] at h
  refine enterN [(.v Y_triviumref08_Q p0)] 10 Tryz.func34 rfl rfl rfl ?_
  refine T.seq ?_
  refine T.region ?_
  refine Run.go (Ev.box 1 rfl rfl rfl rfl) ?_
  refine Run.go (Ev.allocN X 2 rfl rfl rfl) ?_
  refine Run.nil ?_
  refine T.seq ?_
  refine T.drawM [7] [0, 1, 3, 0, 8, 31, 63, 127] (by kernel_rfl) (by kernel_rfl) ?_
  refine RunD.a rfl rfl (Ev.fieldBox X rfl rfl rfl rfl rfl) ?_
  refine RunD.a rfl rfl (Ev.loadBox X rfl rfl rfl rfl rfl) ?_
  obtain ⟨x1, e2, h⟩ := bdS h
  refine RunD.a rfl rfl (Ev.callC en59 (k_triviumref07_Back e2) rfl (.cons .v .nil) rfl rfl) ?_
  refine RunD.a rfl rfl (Ev.fieldBox X rfl rfl rfl rfl rfl) ?_
  refine RunD.a rfl rfl (Ev.loadCell X rfl rfl rfl rfl rfl rfl) ?_
  obtain ⟨x3, e4, h⟩ := bdS h
  refine RunD.a rfl rfl (Ev.callC en60 (k_triviumref02_Back e4) rfl (.cons .v .nil) rfl rfl) ?_
  refine RunD.w (fun _ => Ev.struct X pl32 rfl rfl rfl rfl rfl rfl rfl rfl) ?_
  refine RunD.mN rfl (Ev.storeBox X rfl rfl rfl rfl rfl rfl rfl) ?_
  refine RunD.nil ?_
  refine T.ret ?_
  cases h
  exact Fin.cell X rfl rfl rfl rfl rfl
theorem en17 : Enters Tryz.prog 17 := ⟨_, Tryz.func17, rfl, rfl⟩
theorem k_triviumref08_Clean {p0 : D_api_Rat} {p1 : Int} {y : D_api_Rat} (h : m_triviumref08_Clean p0 p1 = some y) : Spec Tryz.prog 17 [(.v Y_api_Rat p0), (.v (.int .i64) p1)] (.v Y_api_Rat y) [] := by
  rw [m_triviumref08_Clean] at h
  refine enterN [(.v Y_api_Rat p0), (.v (.int .i64) p1)] 23 Tryz.func17 rfl rfl rfl ?_
  refine T.seq ?_
  refine T.region ?_
  refine Run.go (Ev.box 1 rfl rfl rfl rfl) ?_
  refine Run.go (Ev.allocN X 2 rfl rfl rfl) ?_
  refine Run.nil ?_
  refine T.seq ?_
  refine T.region ?_
  refine Run.go (Ev.fieldBox X rfl rfl rfl rfl rfl) ?_
  refine Run.go (Ev.loadCell X rfl rfl rfl rfl rfl rfl) ?_
  refine Run.go (Ev.move rfl rfl) ?_
  obtain ⟨x1, e2, h⟩ := bdS h
  refine Run.go (Ev.callC en33 (k_triviumref02_Clean e2) rfl (.cons .v (.cons .v .nil)) rfl rfl) ?_
  refine Run.go (Ev.assign rfl rfl) ?_
  refine Run.nil ?_
  obtain ⟨v3, hv, h⟩ := bdS h
  refine T.cut (fun _ : Unit => (⟨[(1, .v (.int .i64) p1), (2, .box 1 0), (4, .box 2 0), (5, .v (.sl (.int .u64)) v3)], [(1, .box [.v .bool p0.1.1, .v (.sl (.int .u64)) p0.1.2, .v (.sl (.int .u64)) p0.2]), (2, .box [.v .bool false, .nil, .nil])], 23⟩ : St)) (fun _ => True) ?_ (fun _ _ => ?_)
  · replace h := hv
    clear hv
    refine T.seq ?_
    refine T.region ?_
    refine Run.go (Ev.move rfl rfl) ?_
    refine Run.go (Ev.len X rfl rfl rfl rfl) ?_
    refine Run.go (Ev.int rfl rfl rfl rfl trivial) ?_
    refine Run.nil ?_
    refine T.cond rfl (fun hb4 => ?_) (fun hb4 => ?_)
    · replace h := ifT hb4 h
      refine T.region ?_
      refine Run.go (Ev.build X 6 rfl rfl rfl rfl rfl rfl rfl rfl) ?_
      refine Run.go (Ev.assign rfl rfl) ?_
      refine Run.nil ?_
      cases h
      exact ⟨(), trivial, Ghost.trans (Ghost.firmAll (id := 6) rfl) (Ghost.only [(1, 1), (2, 2)] [1, 2, 4, 5] rfl)⟩
    · replace h := ifF hb4 h
      refine T.skip ?_
      cases h
      exact ⟨(), trivial, Ghost.only [(1, 1), (2, 2)] [1, 2, 4, 5] rfl⟩
  · refine T.seq ?_
    refine T.region ?_
    refine Run.go (Ev.fieldBox X rfl rfl rfl rfl rfl) ?_
    refine Run.go (Ev.loadBox X rfl rfl rfl rfl rfl) ?_
    refine Run.go (Ev.move rfl rfl) ?_
    obtain ⟨x5, e6, h⟩ := bdS h
    refine Run.go (Ev.callC en37 (k_triviumref07_Clean e6) rfl (.cons .v (.cons .v .nil)) rfl rfl) ?_
    obtain ⟨x7, e8, h⟩ := bdS h
    refine Run.go (Ev.callC en36 (k_triviumref07_Of e8) rfl (.cons .v .nil) rfl rfl) ?_
    refine Run.go (Ev.move rfl rfl) ?_
    obtain ⟨x9, e10, h⟩ := bdS h
    refine Run.go (Ev.callC en38 (k_triviumref02_Of e10) rfl (.cons .v .nil) rfl rfl) ?_
    obtain ⟨x11, e12, h⟩ := bdS h
    refine Run.go (Ev.callC en35 (k_triviumref08_Low e12) rfl (.cons .v (.cons .v .nil)) rfl rfl) ?_
    obtain ⟨x13, e14, h⟩ := bdS h
    refine Run.go (Ev.callC en34 (k_triviumref08_Back e14) rfl (.cons .v .nil) rfl rfl) ?_
    refine Run.do_ (Ev.storeBox X rfl rfl rfl rfl rfl rfl rfl) ?_
    refine Run.nil ?_
    refine T.ret ?_
    cases h
    exact Fin.cell X rfl rfl rfl rfl rfl
theorem en18 : Enters Tryz.prog 18 := ⟨_, Tryz.func18, rfl, rfl⟩
theorem k_triviumref08_Of {p0 : D_api_Rat} {y : D_triviumref08_Q} (h : m_triviumref08_Of p0 = some y) : Spec Tryz.prog 18 [(.v Y_api_Rat p0)] (.v Y_triviumref08_Q y) [] := by
  rw [m_triviumref08_Of] at h
  refine enterN [(.v Y_api_Rat p0)] 10 Tryz.func18 rfl rfl rfl ?_
  refine T.seq ?_
  refine T.region ?_
  refine Run.go (Ev.box 1 rfl rfl rfl rfl) ?_
  refine Run.go (Ev.allocN X 2 rfl rfl rfl) ?_
  refine Run.nil ?_
  refine T.seq ?_
  refine T.drawM [7] [0, 1, 3, 0, 8, 31, 63, 127] (by kernel_rfl) (by kernel_rfl) ?_
  refine RunD.a rfl rfl (Ev.fieldBox X rfl rfl rfl rfl rfl) ?_
  refine RunD.a rfl rfl (Ev.loadBox X rfl rfl rfl rfl rfl) ?_
  obtain ⟨x1, e2, h⟩ := bdS h
  refine RunD.a rfl rfl (Ev.callC en36 (k_triviumref07_Of e2) rfl (.cons .v .nil) rfl rfl) ?_
  refine RunD.a rfl rfl (Ev.fieldBox X rfl rfl rfl rfl rfl) ?_
  refine RunD.a rfl rfl (Ev.loadCell X rfl rfl rfl rfl rfl rfl) ?_
  obtain ⟨x3, e4, h⟩ := bdS h
  refine RunD.a rfl rfl (Ev.callC en38 (k_triviumref02_Of e4) rfl (.cons .v .nil) rfl rfl) ?_
  refine RunD.w (fun _ => Ev.struct X pl51 rfl rfl rfl rfl rfl rfl rfl rfl) ?_
  refine RunD.mN rfl (Ev.storeBox X rfl rfl rfl rfl rfl rfl rfl) ?_
  refine RunD.nil ?_
  refine T.ret ?_
  cases h
  exact Fin.cell X rfl rfl rfl rfl rfl
theorem en6 : Enters Tryz.prog 6 := ⟨_, Tryz.func6, rfl, rfl⟩
set_option maxHeartbeats 1000000 in
theorem k_triviumlaw38_both {p0 : D_triviumlaw38_Told} {y : D_engine_Answer × D_triviumref37_Answer} (h : m_triviumlaw38_both p0 = some y) : Spec Tryz.prog 6 [(.v Y_triviumlaw38_Told p0)] (.tup [.v Y_engine_Answer y.1, .v Y_triviumref37_Answer y.2]) [] := by
  rw [m_triviumlaw38_both] at h
  refine enterN [(.v Y_triviumlaw38_Told p0)] 93 Tryz.func6 rfl rfl rfl ?_
  refine T.seq ?_
  refine T.region ?_
  refine Run.go (Ev.box 1 rfl rfl rfl rfl) ?_
  refine Run.go (Ev.allocN X 2 rfl rfl rfl) ?_
  refine Run.go (Ev.allocN X 3 rfl rfl rfl) ?_
  refine Run.nil ?_
  refine T.seq ?_
  refine T.drawE [([1], []), ([1], []), ([], []), ([1], []), ([1], []), ([], []), ([1], []), ([1], []), ([], []), ([7], [7]), ([8], [8]), ([9], [9]), ([7], [7]), ([8], [8]), ([9], [9])] [0, 1, 3, 0, 8, 31, 0, 64, 255, 0, 0, 0, 4095, 8191, 16383] (by kernel_rfl) (by kernel_rfl) ?_
  refine RunE.go0 [1] (fun ô hô => Ev.fieldBox X rfl (ka hô rfl rfl) rfl rfl rfl) rfl rfl ?_
  refine RunE.go0 [1] (fun ô hô => Ev.loadBox X rfl (ka hô rfl rfl) rfl rfl rfl) rfl rfl ?_
  obtain ⟨x1, e2, h⟩ := bdS h
  refine RunE.go0 [] (fun ô hô => Ev.callC en17 (k_triviumref08_Clean e2) rfl (.cons .v (.cons .v .nil)) rfl rfl) rfl rfl ?_
  refine RunE.go0 [1] (fun ô hô => Ev.fieldBox X rfl (ka hô rfl rfl) rfl rfl rfl) rfl rfl ?_
  refine RunE.go0 [1] (fun ô hô => Ev.loadBox X rfl (ka hô rfl rfl) rfl rfl rfl) rfl rfl ?_
  obtain ⟨x3, e4, h⟩ := bdS h
  refine RunE.go0 [] (fun ô hô => Ev.callC en17 (k_triviumref08_Clean e4) rfl (.cons .v (.cons .v .nil)) rfl rfl) rfl rfl ?_
  refine RunE.go0 [1] (fun ô hô => Ev.fieldBox X rfl (ka hô rfl rfl) rfl rfl rfl) rfl rfl ?_
  refine RunE.go0 [1] (fun ô hô => Ev.loadBox X rfl (ka hô rfl rfl) rfl rfl rfl) rfl rfl ?_
  obtain ⟨x5, e6, h⟩ := bdS h
  refine RunE.go0 [] (fun ô hô => Ev.callC en17 (k_triviumref08_Clean e6) rfl (.cons .v (.cons .v .nil)) rfl rfl) rfl rfl ?_
  refine RunE.go1 [7] (fun ô hô => Ev.allocN X 7 rfl (ka hô rfl rfl) rfl) rfl rfl ?_
  refine RunE.go1 [8] (fun ô hô => Ev.allocN X 8 rfl (ka hô rfl rfl) rfl) rfl rfl ?_
  refine RunE.go1 [9] (fun ô hô => Ev.allocN X 9 rfl (ka hô rfl rfl) rfl) rfl rfl ?_
  refine RunE.do1 [7] (fun ô hô => Ev.storeBox X rfl (ka hô rfl rfl) rfl rfl rfl rfl rfl) rfl rfl ?_
  refine RunE.do1 [8] (fun ô hô => Ev.storeBox X rfl (ka hô rfl rfl) rfl rfl rfl rfl rfl) rfl rfl ?_
  refine RunE.do1 [9] (fun ô hô => Ev.storeBox X rfl (ka hô rfl rfl) rfl rfl rfl rfl rfl) rfl rfl ?_
  refine RunE.nil ?_
  refine T.seq ?_
  refine T.drawE [([7], []), ([], []), ([8], []), ([], []), ([9], []), ([], []), ([13], [13]), ([14], [14]), ([15], [15]), ([13], [13]), ([14], [14]), ([15], [15])] [0, 1, 0, 7, 0, 31, 0, 0, 0, 511, 1023, 2047] (by kernel_rfl) (by kernel_rfl) ?_
  refine RunE.go0 [7] (fun ô hô => Ev.loadBox X rfl (ka hô rfl rfl) rfl rfl rfl) rfl rfl ?_
  obtain ⟨x7, e8, h⟩ := bdS h
  refine RunE.go0 [] (fun ô hô => Ev.callC en18 (k_triviumref08_Of e8) rfl (.cons .v .nil) rfl rfl) rfl rfl ?_
  refine RunE.go0 [8] (fun ô hô => Ev.loadBox X rfl (ka hô rfl rfl) rfl rfl rfl) rfl rfl ?_
  obtain ⟨x9, e10, h⟩ := bdS h
  refine RunE.go0 [] (fun ô hô => Ev.callC en18 (k_triviumref08_Of e10) rfl (.cons .v .nil) rfl rfl) rfl rfl ?_
  refine RunE.go0 [9] (fun ô hô => Ev.loadBox X rfl (ka hô rfl rfl) rfl rfl rfl) rfl rfl ?_
  obtain ⟨x11, e12, h⟩ := bdS h
  refine RunE.go0 [] (fun ô hô => Ev.callC en18 (k_triviumref08_Of e12) rfl (.cons .v .nil) rfl rfl) rfl rfl ?_
  refine RunE.go1 [13] (fun ô hô => Ev.allocN X 13 rfl (ka hô rfl rfl) rfl) rfl rfl ?_
  refine RunE.go1 [14] (fun ô hô => Ev.allocN X 14 rfl (ka hô rfl rfl) rfl) rfl rfl ?_
  refine RunE.go1 [15] (fun ô hô => Ev.allocN X 15 rfl (ka hô rfl rfl) rfl) rfl rfl ?_
  refine RunE.do1 [13] (fun ô hô => Ev.storeBox X rfl (ka hô rfl rfl) rfl rfl rfl rfl rfl) rfl rfl ?_
  refine RunE.do1 [14] (fun ô hô => Ev.storeBox X rfl (ka hô rfl rfl) rfl rfl rfl rfl rfl) rfl rfl ?_
  refine RunE.do1 [15] (fun ô hô => Ev.storeBox X rfl (ka hô rfl rfl) rfl rfl rfl rfl rfl) rfl rfl ?_
  refine RunE.nil ?_
  refine T.seq ?_
  refine T.region ?_
  refine Run.go (Ev.fieldBox X rfl rfl rfl rfl rfl) ?_
  refine Run.go (Ev.loadCell X rfl rfl rfl rfl rfl rfl) ?_
  refine Run.go (Ev.loadBox X rfl rfl rfl rfl rfl) ?_
  refine Run.go (Ev.loadBox X rfl rfl rfl rfl rfl) ?_
  refine Run.go (Ev.loadBox X rfl rfl rfl rfl rfl) ?_
  refine Run.go (Ev.struct X pl37 rfl rfl rfl rfl rfl rfl rfl rfl) ?_
  refine Run.go (Ev.fieldBox X rfl rfl rfl rfl rfl) ?_
  refine Run.go (Ev.loadCell X rfl rfl rfl rfl rfl rfl) ?_
  refine Run.go (Ev.loadBox X rfl rfl rfl rfl rfl) ?_
  refine Run.go (Ev.struct X pl39 rfl rfl rfl rfl rfl rfl rfl rfl) ?_
  refine Run.go (Ev.loadBox X rfl rfl rfl rfl rfl) ?_
  refine Run.go (Ev.fieldBox X rfl rfl rfl rfl rfl) ?_
  refine Run.go (Ev.loadCell X rfl rfl rfl rfl rfl rfl) ?_
  refine Run.go (Ev.structC pl43 zs43 rfl rfl rfl) ?_
  refine Run.go (Ev.structC pl45 zs45 rfl rfl rfl) ?_
  refine Run.go (Ev.allocN X 16 rfl rfl rfl) ?_
  refine Run.do_ (Ev.storeC sz45 rfl rfl rfl rfl (by kernel_rfl) (by kernel_rfl)) ?_
  refine Run.nil ?_
  refine T.seq ?_
  refine T.region ?_
  refine Run.go (Ev.fieldBox X rfl rfl rfl rfl rfl) ?_
  refine Run.go (Ev.loadCell X rfl rfl rfl rfl rfl rfl) ?_
  refine Run.go (Ev.loadBox X rfl rfl rfl rfl rfl) ?_
  refine Run.go (Ev.loadBox X rfl rfl rfl rfl rfl) ?_
  refine Run.go (Ev.loadBox X rfl rfl rfl rfl rfl) ?_
  refine Run.go (Ev.struct X pl53 rfl rfl rfl rfl rfl rfl rfl rfl) ?_
  refine Run.go (Ev.fieldBox X rfl rfl rfl rfl rfl) ?_
  refine Run.go (Ev.loadCell X rfl rfl rfl rfl rfl rfl) ?_
  refine Run.go (Ev.loadBox X rfl rfl rfl rfl rfl) ?_
  refine Run.go (Ev.struct X pl55 rfl rfl rfl rfl rfl rfl rfl rfl) ?_
  refine Run.go (Ev.loadBox X rfl rfl rfl rfl rfl) ?_
  refine Run.go (Ev.fieldBox X rfl rfl rfl rfl rfl) ?_
  refine Run.go (Ev.loadCell X rfl rfl rfl rfl rfl rfl) ?_
  refine Run.go (Ev.structC pl59 zs59 rfl rfl rfl) ?_
  refine Run.go (Ev.structC pl61 zs61 rfl rfl rfl) ?_
  refine Run.go (Ev.allocN X 17 rfl rfl rfl) ?_
  refine Run.do_ (Ev.storeC sz61 rfl rfl rfl rfl (by kernel_rfl) (by kernel_rfl)) ?_
  refine Run.nil ?_
  obtain ⟨⟨v13, v14, v15, v16, v17, v18, v19, v20, v21, v22, v23, v24, v25, v26, v27, v28⟩, hv, h⟩ := bdS h
  refine T.cut (fun _ : Unit => (⟨[(1, .box 1 0), (2, .box 2 0), (3, .box 3 0), (5, .box 8 0), (6, .box 9 0), (8, .box 14 0), (9, .box 15 0), (10, .box 16 0), (11, .box 17 0)], [(1, .box [.v (.int .i64) p0.1, .v (.int .i64) p0.2.1, .v .bool p0.2.2.1, .v .bool p0.2.2.2.1, .v .bool p0.2.2.2.2.1, .v (.int .u32) p0.2.2.2.2.2.1, .v .bool p0.2.2.2.2.2.2.1.1.1, .v (.sl (.int .u64)) p0.2.2.2.2.2.2.1.1.2, .v (.sl (.int .u64)) p0.2.2.2.2.2.2.1.2, .v .bool p0.2.2.2.2.2.2.2.1.1.1, .v (.sl (.int .u64)) p0.2.2.2.2.2.2.2.1.1.2, .v (.sl (.int .u64)) p0.2.2.2.2.2.2.2.1.2, .v .bool p0.2.2.2.2.2.2.2.2.1.1, .v (.sl (.int .u64)) p0.2.2.2.2.2.2.2.2.1.2, .v (.sl (.int .u64)) p0.2.2.2.2.2.2.2.2.2]), (2, .box [.v (.int .i64) (0 : Int), .v .bool false, .nil, .nil, .v .bool false, .nil, .nil, .v .bool false, .nil, .nil, .v .bool false, .v .bool false, .nil, .nil, .v .bool false, .nil, .nil, .v (.int .i64) (0 : Int), .v .bool false, .v (.int .u32) (0 : Int), .v .bool false, .nil, .nil, .v .bool false, .nil, .nil, .v .bool false, .v (.int .u32) (0 : Int), .v .bool false, .nil, .nil, .v .bool false, .nil, .nil]), (3, .box [.v (.int .i64) (0 : Int), .v .bool false, .nil, .nil, .v .bool false, .nil, .nil, .v .bool false, .nil, .nil, .v .bool false, .v .bool false, .nil, .nil, .v .bool false, .nil, .nil, .v (.int .i64) (0 : Int), .v .bool false, .v (.int .u32) (0 : Int), .v .bool false, .nil, .nil, .v .bool false, .nil, .nil, .v .bool false, .v (.int .u32) (0 : Int), .v .bool false, .nil, .nil, .v .bool false, .nil, .nil]), (8, .box [.v .bool x3.1.1, .v (.sl (.int .u64)) x3.1.2, .v (.sl (.int .u64)) x3.2]), (9, .box [.v .bool x5.1.1, .v (.sl (.int .u64)) x5.1.2, .v (.sl (.int .u64)) x5.2]), (14, .box [.v .bool x9.1.1, .v (.sl (.int .i64)) x9.1.2, .v (.sl (.int .i64)) x9.2]), (15, .box [.v .bool x11.1.1, .v (.sl (.int .i64)) x11.1.2, .v (.sl (.int .i64)) x11.2]), (16, .box [.v (.int .i64) p0.1, .v .bool x1.1.1, .v (.sl (.int .u64)) x1.1.2, .v (.sl (.int .u64)) x1.2, .v .bool x3.1.1, .v (.sl (.int .u64)) x3.1.2, .v (.sl (.int .u64)) x3.2, .v .bool x5.1.1, .v (.sl (.int .u64)) x5.1.2, .v (.sl (.int .u64)) x5.2, .v .bool p0.2.2.1, .v .bool x1.1.1, .v (.sl (.int .u64)) x1.1.2, .v (.sl (.int .u64)) x1.2, .v .bool x3.1.1, .v (.sl (.int .u64)) x3.1.2, .v (.sl (.int .u64)) x3.2, .v (.int .i64) p0.2.1, .v .bool v13, .v (.int .u32) v14, .v .bool v15, .v (.sl (.int .u64)) v16, .v (.sl (.int .u64)) v17, .v .bool v18, .v (.sl (.int .u64)) v19, .v (.sl (.int .u64)) v20, .v .bool false, .v (.int .u32) (0 : Int), .v .bool false, .nil, .nil, .v .bool false, .nil, .nil]), (17, .box [.v (.int .i64) p0.1, .v .bool x7.1.1, .v (.sl (.int .i64)) x7.1.2, .v (.sl (.int .i64)) x7.2, .v .bool x9.1.1, .v (.sl (.int .i64)) x9.1.2, .v (.sl (.int .i64)) x9.2, .v .bool x11.1.1, .v (.sl (.int .i64)) x11.1.2, .v (.sl (.int .i64)) x11.2, .v .bool p0.2.2.1, .v .bool x7.1.1, .v (.sl (.int .i64)) x7.1.2, .v (.sl (.int .i64)) x7.2, .v .bool x9.1.1, .v (.sl (.int .i64)) x9.1.2, .v (.sl (.int .i64)) x9.2, .v (.int .i64) p0.2.1, .v .bool v21, .v (.int .u32) v22, .v .bool v23, .v (.sl (.int .i64)) v24, .v (.sl (.int .i64)) v25, .v .bool v26, .v (.sl (.int .i64)) v27, .v (.sl (.int .i64)) v28, .v .bool false, .v (.int .u32) (0 : Int), .v .bool false, .nil, .nil, .v .bool false, .nil, .nil])], 93⟩ : St)) (fun _ => True) ?_ (fun _ _ => ?_)
  · replace h := hv
    clear hv
    refine T.seq ?_
    refine T.region ?_
    refine Run.go (Ev.fieldBox X rfl rfl rfl rfl rfl) ?_
    refine Run.go (Ev.loadCell X rfl rfl rfl rfl rfl rfl) ?_
    refine Run.nil ?_
    refine T.cond rfl (fun hb29 => ?_) (fun hb29 => ?_)
    · replace h := ifT hb29 h
      refine T.seq ?_
      refine T.region ?_
      refine Run.go (Ev.fieldBox X rfl rfl rfl rfl rfl) ?_
      refine Run.go (Ev.loadCell X rfl rfl rfl rfl rfl rfl) ?_
      refine Run.go (Ev.loadBox X rfl rfl rfl rfl rfl) ?_
      refine Run.go (Ev.loadBox X rfl rfl rfl rfl rfl) ?_
      refine Run.go (Ev.struct X pl41 rfl rfl rfl rfl rfl rfl rfl rfl) ?_
      refine Run.go (Ev.fieldBox X rfl rfl rfl rfl rfl) ?_
      refine Run.go (Ev.fieldBox X rfl rfl rfl rfl rfl) ?_
      refine Run.do_ (Ev.storeBox X rfl rfl rfl rfl rfl rfl rfl) ?_
      refine Run.nil ?_
      refine T.region ?_
      refine Run.go (Ev.fieldBox X rfl rfl rfl rfl rfl) ?_
      refine Run.go (Ev.loadCell X rfl rfl rfl rfl rfl rfl) ?_
      refine Run.go (Ev.loadBox X rfl rfl rfl rfl rfl) ?_
      refine Run.go (Ev.loadBox X rfl rfl rfl rfl rfl) ?_
      refine Run.go (Ev.struct X pl57 rfl rfl rfl rfl rfl rfl rfl rfl) ?_
      refine Run.go (Ev.fieldBox X rfl rfl rfl rfl rfl) ?_
      refine Run.go (Ev.fieldBox X rfl rfl rfl rfl rfl) ?_
      refine Run.do_ (Ev.storeBox X rfl rfl rfl rfl rfl rfl rfl) ?_
      refine Run.nil ?_
      cases h
      exact ⟨(), trivial, Ghost.onlyK [(1, 1), (2, 2), (3, 3), (8, 8), (9, 9), (14, 14), (15, 15), (16, 16), (17, 17)] [1, 2, 3, 5, 6, 8, 9, 10, 11] rfl (by kernel_rfl)⟩
    · replace h := ifF hb29 h
      refine T.skip ?_
      cases h
      exact ⟨(), trivial, Ghost.trans (Ghost.nilvC (id := 17) (j := 21) (τ := (.int .i64)) rfl (by kernel_rfl)) (Ghost.trans (Ghost.nilvC (id := 17) (j := 22) (τ := (.int .i64)) rfl (by kernel_rfl)) (Ghost.trans (Ghost.nilvC (id := 17) (j := 24) (τ := (.int .i64)) rfl (by kernel_rfl)) (Ghost.trans (Ghost.nilvC (id := 17) (j := 25) (τ := (.int .i64)) rfl (by kernel_rfl)) (Ghost.trans (Ghost.nilvC (id := 16) (j := 21) (τ := (.int .u64)) rfl (by kernel_rfl)) (Ghost.trans (Ghost.nilvC (id := 16) (j := 22) (τ := (.int .u64)) rfl (by kernel_rfl)) (Ghost.trans (Ghost.nilvC (id := 16) (j := 24) (τ := (.int .u64)) rfl (by kernel_rfl)) (Ghost.trans (Ghost.nilvC (id := 16) (j := 25) (τ := (.int .u64)) rfl (by kernel_rfl)) (Ghost.onlyK [(1, 1), (2, 2), (3, 3), (8, 8), (9, 9), (14, 14), (15, 15), (16, 16), (17, 17)] [1, 2, 3, 5, 6, 8, 9, 10, 11] rfl (by kernel_rfl)))))))))⟩
  · obtain ⟨⟨v30, v31, v32, v33, v34, v35, v36, v37, v38, v39, v40, v41, v42, v43, v44, v45⟩, hv, h⟩ := bdS h
    refine T.cut (fun _ : Unit => (⟨[(2, .box 2 0), (3, .box 3 0), (10, .box 16 0), (11, .box 17 0)], [(2, .box [.v (.int .i64) (0 : Int), .v .bool false, .nil, .nil, .v .bool false, .nil, .nil, .v .bool false, .nil, .nil, .v .bool false, .v .bool false, .nil, .nil, .v .bool false, .nil, .nil, .v (.int .i64) (0 : Int), .v .bool false, .v (.int .u32) (0 : Int), .v .bool false, .nil, .nil, .v .bool false, .nil, .nil, .v .bool false, .v (.int .u32) (0 : Int), .v .bool false, .nil, .nil, .v .bool false, .nil, .nil]), (3, .box [.v (.int .i64) (0 : Int), .v .bool false, .nil, .nil, .v .bool false, .nil, .nil, .v .bool false, .nil, .nil, .v .bool false, .v .bool false, .nil, .nil, .v .bool false, .nil, .nil, .v (.int .i64) (0 : Int), .v .bool false, .v (.int .u32) (0 : Int), .v .bool false, .nil, .nil, .v .bool false, .nil, .nil, .v .bool false, .v (.int .u32) (0 : Int), .v .bool false, .nil, .nil, .v .bool false, .nil, .nil]), (16, .box [.v (.int .i64) p0.1, .v .bool x1.1.1, .v (.sl (.int .u64)) x1.1.2, .v (.sl (.int .u64)) x1.2, .v .bool x3.1.1, .v (.sl (.int .u64)) x3.1.2, .v (.sl (.int .u64)) x3.2, .v .bool x5.1.1, .v (.sl (.int .u64)) x5.1.2, .v (.sl (.int .u64)) x5.2, .v .bool p0.2.2.1, .v .bool x1.1.1, .v (.sl (.int .u64)) x1.1.2, .v (.sl (.int .u64)) x1.2, .v .bool x3.1.1, .v (.sl (.int .u64)) x3.1.2, .v (.sl (.int .u64)) x3.2, .v (.int .i64) p0.2.1, .v .bool v13, .v (.int .u32) v14, .v .bool v15, .v (.sl (.int .u64)) v16, .v (.sl (.int .u64)) v17, .v .bool v18, .v (.sl (.int .u64)) v19, .v (.sl (.int .u64)) v20, .v .bool v30, .v (.int .u32) v31, .v .bool v32, .v (.sl (.int .u64)) v33, .v (.sl (.int .u64)) v34, .v .bool v35, .v (.sl (.int .u64)) v36, .v (.sl (.int .u64)) v37]), (17, .box [.v (.int .i64) p0.1, .v .bool x7.1.1, .v (.sl (.int .i64)) x7.1.2, .v (.sl (.int .i64)) x7.2, .v .bool x9.1.1, .v (.sl (.int .i64)) x9.1.2, .v (.sl (.int .i64)) x9.2, .v .bool x11.1.1, .v (.sl (.int .i64)) x11.1.2, .v (.sl (.int .i64)) x11.2, .v .bool p0.2.2.1, .v .bool x7.1.1, .v (.sl (.int .i64)) x7.1.2, .v (.sl (.int .i64)) x7.2, .v .bool x9.1.1, .v (.sl (.int .i64)) x9.1.2, .v (.sl (.int .i64)) x9.2, .v (.int .i64) p0.2.1, .v .bool v21, .v (.int .u32) v22, .v .bool v23, .v (.sl (.int .i64)) v24, .v (.sl (.int .i64)) v25, .v .bool v26, .v (.sl (.int .i64)) v27, .v (.sl (.int .i64)) v28, .v .bool v38, .v (.int .u32) v39, .v .bool v40, .v (.sl (.int .i64)) v41, .v (.sl (.int .i64)) v42, .v .bool v43, .v (.sl (.int .i64)) v44, .v (.sl (.int .i64)) v45])], 93⟩ : St)) (fun _ => True) ?_ (fun _ _ => ?_)
    · replace h := hv
      clear hv
      refine T.seq ?_
      refine T.region ?_
      refine Run.go (Ev.fieldBox X rfl rfl rfl rfl rfl) ?_
      refine Run.go (Ev.loadCell X rfl rfl rfl rfl rfl rfl) ?_
      refine Run.nil ?_
      refine T.cond rfl (fun hb46 => ?_) (fun hb46 => ?_)
      · replace h := ifT hb46 h
        refine T.seq ?_
        refine T.region ?_
        refine Run.go (Ev.fieldBox X rfl rfl rfl rfl rfl) ?_
        refine Run.go (Ev.loadCell X rfl rfl rfl rfl rfl rfl) ?_
        obtain ⟨x47, e48, h⟩ := bdS h
        refine Run.go (Ev.e_qd e48 rfl rfl rfl) ?_
        refine Run.go (Ev.loadBox X rfl rfl rfl rfl rfl) ?_
        refine Run.go (Ev.loadBox X rfl rfl rfl rfl rfl) ?_
        refine Run.go (Ev.struct X pl41 rfl rfl rfl rfl rfl rfl rfl rfl) ?_
        refine Run.go (Ev.fieldBox X rfl rfl rfl rfl rfl) ?_
        refine Run.go (Ev.fieldBox X rfl rfl rfl rfl rfl) ?_
        refine Run.do_ (Ev.storeBox X rfl rfl rfl rfl rfl rfl rfl) ?_
        refine Run.nil ?_
        refine T.region ?_
        refine Run.go (Ev.fieldBox X rfl rfl rfl rfl rfl) ?_
        refine Run.go (Ev.loadCell X rfl rfl rfl rfl rfl rfl) ?_
        obtain ⟨x49, e50, h⟩ := bdS h
        refine Run.go (Ev.e_qd e50 rfl rfl rfl) ?_
        refine Run.go (Ev.loadBox X rfl rfl rfl rfl rfl) ?_
        refine Run.go (Ev.loadBox X rfl rfl rfl rfl rfl) ?_
        refine Run.go (Ev.struct X pl57 rfl rfl rfl rfl rfl rfl rfl rfl) ?_
        refine Run.go (Ev.fieldBox X rfl rfl rfl rfl rfl) ?_
        refine Run.go (Ev.fieldBox X rfl rfl rfl rfl rfl) ?_
        refine Run.do_ (Ev.storeBox X rfl rfl rfl rfl rfl rfl rfl) ?_
        refine Run.nil ?_
        cases h
        exact ⟨(), trivial, Ghost.onlyK [(2, 2), (3, 3), (16, 16), (17, 17)] [2, 3, 10, 11] rfl (by kernel_rfl)⟩
      · replace h := ifF hb46 h
        refine T.skip ?_
        cases h
        exact ⟨(), trivial, Ghost.trans (Ghost.nilvC (id := 17) (j := 29) (τ := (.int .i64)) rfl (by kernel_rfl)) (Ghost.trans (Ghost.nilvC (id := 17) (j := 30) (τ := (.int .i64)) rfl (by kernel_rfl)) (Ghost.trans (Ghost.nilvC (id := 17) (j := 32) (τ := (.int .i64)) rfl (by kernel_rfl)) (Ghost.trans (Ghost.nilvC (id := 17) (j := 33) (τ := (.int .i64)) rfl (by kernel_rfl)) (Ghost.trans (Ghost.nilvC (id := 16) (j := 29) (τ := (.int .u64)) rfl (by kernel_rfl)) (Ghost.trans (Ghost.nilvC (id := 16) (j := 30) (τ := (.int .u64)) rfl (by kernel_rfl)) (Ghost.trans (Ghost.nilvC (id := 16) (j := 32) (τ := (.int .u64)) rfl (by kernel_rfl)) (Ghost.trans (Ghost.nilvC (id := 16) (j := 33) (τ := (.int .u64)) rfl (by kernel_rfl)) (Ghost.onlyK [(2, 2), (3, 3), (16, 16), (17, 17)] [2, 3, 10, 11] rfl (by kernel_rfl)))))))))⟩
    · refine T.seq ?_
      refine T.drawE [([16], []), ([17], []), ([2], [2]), ([3], [3])] [0, 0, 1, 7] (by kernel_rfl) (by kernel_rfl) ?_
      refine RunE.go0 [16] (fun ô hô => Ev.loadBox X rfl (ka hô rfl rfl) rfl rfl rfl) rfl rfl ?_
      refine RunE.go0 [17] (fun ô hô => Ev.loadBox X rfl (ka hô rfl rfl) rfl rfl rfl) rfl rfl ?_
      refine RunE.do1 [2] (fun ô hô => Ev.storeBox X rfl (ka hô rfl rfl) rfl rfl rfl rfl rfl) rfl rfl ?_
      refine RunE.do1 [3] (fun ô hô => Ev.storeBox X rfl (ka hô rfl rfl) rfl rfl rfl rfl rfl) rfl rfl ?_
      refine RunE.nil ?_
      refine T.ret ?_
      cases h
      exact Fin.many X rfl (.cons (.cell rfl rfl rfl rfl) (.cons (.cell rfl rfl rfl rfl) .nil)) rfl
theorem en16 : Enters Tryz.prog 16 := ⟨_, Tryz.func16, rfl, rfl⟩
theorem k_triviumref22_short {p0 : ByteArray} {y : ByteArray} (h : m_triviumref22_short p0 = some y) : Spec Tryz.prog 16 [(.v .str p0)] (.v .str y) [] := by
  rw [m_triviumref22_short] at h
  refine enterN [(.v .str p0)] 8 Tryz.func16 rfl rfl rfl ?_
  refine T.seq ?_
  refine T.region ?_
  refine Run.go (Ev.assign rfl rfl) ?_
  refine Run.nil ?_
  refine T.seq ?_
  refine T.region ?_
  refine Run.go (Ev.move rfl rfl) ?_
  refine Run.go (Ev.move rfl rfl) ?_
  refine Run.go (Ev.len X rfl rfl rfl rfl) ?_
  refine Run.go (Ev.min rfl rfl rfl) ?_
  obtain ⟨x1, e2, h⟩ := bdS h
  refine Run.go (Ev.e_cs X e2 rfl rfl rfl (fun _ h => by cases h) (fun _ => rfl) (fun _ _ => cutAt_of rfl) (fun h => by cases h)) ?_
  refine Run.go (Ev.assign rfl rfl) ?_
  refine Run.nil ?_
  refine T.ret ?_
  cases h
  exact Fin.one rfl .v
theorem en5 : Enters Tryz.prog 5 := ⟨_, Tryz.func5, rfl, rfl⟩
set_option maxHeartbeats 1000000 in
theorem k_triviumref22_CleanQuery {p0 : D_api_Query} {y : D_api_Query} (h : m_triviumref22_CleanQuery p0 = some y) : Spec Tryz.prog 5 [(.v Y_api_Query p0)] (.v Y_api_Query y) [] := by
  rw [m_triviumref22_CleanQuery] at h
  refine enterN [(.v Y_api_Query p0)] 25 Tryz.func5 rfl rfl rfl ?_
  refine T.seq ?_
  refine T.region ?_
  refine Run.go (Ev.box 1 rfl rfl rfl rfl) ?_
  refine Run.go (Ev.allocN X 2 rfl rfl rfl) ?_
  refine Run.nil ?_
  refine T.seq ?_
  refine T.drawM [10, 12, 14] [0, 1, 3, 0, 8, 31, 0, 64, 255, 223, 1023, 2047, 4095, 8191, 16383] (by kernel_rfl) (by kernel_rfl) ?_
  refine RunD.a rfl rfl (Ev.fieldBox X rfl rfl rfl rfl rfl) ?_
  refine RunD.a rfl rfl (Ev.loadCell X rfl rfl rfl rfl rfl rfl) ?_
  obtain ⟨x1, e2, h⟩ := bdS h
  refine RunD.a rfl rfl (Ev.callC en16 (k_triviumref22_short e2) rfl (.cons .v .nil) rfl rfl) ?_
  refine RunD.a rfl rfl (Ev.fieldBox X rfl rfl rfl rfl rfl) ?_
  refine RunD.a rfl rfl (Ev.loadCell X rfl rfl rfl rfl rfl rfl) ?_
  obtain ⟨x3, e4, h⟩ := bdS h
  refine RunD.a rfl rfl (Ev.callC en16 (k_triviumref22_short e4) rfl (.cons .v .nil) rfl rfl) ?_
  refine RunD.a rfl rfl (Ev.fieldBox X rfl rfl rfl rfl rfl) ?_
  refine RunD.a rfl rfl (Ev.loadCell X rfl rfl rfl rfl rfl rfl) ?_
  obtain ⟨x5, e6, h⟩ := bdS h
  refine RunD.a rfl rfl (Ev.callC en16 (k_triviumref22_short e6) rfl (.cons .v .nil) rfl rfl) ?_
  refine RunD.a rfl rfl (Ev.fieldBox X rfl rfl rfl rfl rfl) ?_
  refine RunD.mN rfl (Ev.storeBox X rfl rfl rfl rfl rfl rfl rfl) ?_
  refine RunD.a rfl rfl (Ev.fieldBox X rfl rfl rfl rfl rfl) ?_
  refine RunD.mN rfl (Ev.storeBox X rfl rfl rfl rfl rfl rfl rfl) ?_
  refine RunD.a rfl rfl (Ev.fieldBox X rfl rfl rfl rfl rfl) ?_
  refine RunD.mN rfl (Ev.storeBox X rfl rfl rfl rfl rfl rfl rfl) ?_
  refine RunD.nil ?_
  obtain ⟨v7, hv, h⟩ := bdS h
  refine T.cut (fun _ : Unit => (⟨[(1, .box 1 0), (2, .box 2 0)], [(1, .box [.v (.int .i64) p0.1, .v .str x1, .v .str x3, .v .str x5, .v (.int .u32) p0.2.2.2.2.1, .v (.int .u32) p0.2.2.2.2.2.1.1, .v (.int .i64) p0.2.2.2.2.2.1.2, .v (.int .i64) v7]), (2, .box [.v (.int .i64) (0 : Int), .v .str ((bs []) : ByteArray), .v .str ((bs []) : ByteArray), .v .str ((bs []) : ByteArray), .v (.int .u32) (0 : Int), .v (.int .u32) (0 : Int), .v (.int .i64) (0 : Int), .v (.int .i64) (0 : Int)])], 25⟩ : St)) (fun _ => True) ?_ (fun _ _ => ?_)
  · replace h := hv
    clear hv
    obtain ⟨v8, hv, h⟩ := bdS h
    refine T.cut (fun _ : Unit => (⟨[(1, .box 1 0), (2, .box 2 0), (22, .v .bool v8)], [(1, .box [.v (.int .i64) p0.1, .v .str x1, .v .str x3, .v .str x5, .v (.int .u32) p0.2.2.2.2.1, .v (.int .u32) p0.2.2.2.2.2.1.1, .v (.int .i64) p0.2.2.2.2.2.1.2, .v (.int .i64) p0.2.2.2.2.2.2]), (2, .box [.v (.int .i64) (0 : Int), .v .str ((bs []) : ByteArray), .v .str ((bs []) : ByteArray), .v .str ((bs []) : ByteArray), .v (.int .u32) (0 : Int), .v (.int .u32) (0 : Int), .v (.int .i64) (0 : Int), .v (.int .i64) (0 : Int)])], 25⟩ : St)) (fun _ => True) ?_ (fun _ _ => ?_)
    · replace h := hv
      clear hv
      refine T.region ?_
      refine Run.go (Ev.fieldBox X rfl rfl rfl rfl rfl) ?_
      refine Run.go (Ev.loadCell X rfl rfl rfl rfl rfl rfl) ?_
      refine Run.go (Ev.int rfl rfl rfl rfl trivial) ?_
      refine Run.go (Ev.move rfl rfl) ?_
      rcases boolCases (decide (p0.2.2.2.2.2.2 < (-1000000))) with hb9 | hb9
      · replace h := ifT hb9 h
        refine Run.offT rfl rfl rfl rfl hb9 ?_
        refine Run.offT rfl rfl rfl rfl hb9 ?_
        refine Run.offT rfl rfl rfl rfl hb9 ?_
        refine Run.go (Ev.pickT rfl hb9 rfl rfl) ?_
        refine Run.nil ?_
        cases h
        exact ⟨(), trivial, Ghost.only [(1, 1), (2, 2)] [1, 2, 22] rfl⟩
      · replace h := ifF hb9 h
        refine Run.on rfl rfl rfl hb9 (Ev.fieldBox X rfl rfl rfl rfl rfl) ?_
        refine Run.on rfl rfl rfl hb9 (Ev.loadCell X rfl rfl rfl rfl rfl rfl) ?_
        refine Run.on rfl rfl rfl hb9 (Ev.int rfl rfl rfl rfl trivial) ?_
        refine Run.go (Ev.pickF rfl hb9 rfl rfl) ?_
        refine Run.nil ?_
        cases h
        exact ⟨(), trivial, Ghost.only [(1, 1), (2, 2)] [1, 2, 22] rfl⟩
    · refine T.cond rfl (fun hb10 => ?_) (fun hb10 => ?_)
      · replace h := ifT hb10 h
        refine T.region ?_
        refine Run.go (Ev.fieldBox X rfl rfl rfl rfl rfl) ?_
        refine Run.do_ (Ev.storeBox X rfl rfl rfl rfl rfl rfl rfl) ?_
        refine Run.nil ?_
        cases h
        exact ⟨(), trivial, Ghost.only [(1, 1), (2, 2)] [1, 2] rfl⟩
      · replace h := ifF hb10 h
        refine T.skip ?_
        cases h
        exact ⟨(), trivial, Ghost.only [(1, 1), (2, 2)] [1, 2] rfl⟩
  · refine T.seq ?_
    refine T.region ?_
    refine Run.go (Ev.loadBox X rfl rfl rfl rfl rfl) ?_
    refine Run.do_ (Ev.storeBox X rfl rfl rfl rfl rfl rfl rfl) ?_
    refine Run.nil ?_
    refine T.ret ?_
    cases h
    exact Fin.cell X rfl rfl rfl rfl rfl
theorem en47 : Enters Tryz.prog 47 := ⟨_, Tryz.func47, rfl, rfl⟩
set_option maxHeartbeats 1000000 in
theorem k_triviumbase_Itoa {p0 : Int} {y : ByteArray} (h : m_triviumbase_Itoa p0 = some y) : Spec Tryz.prog 47 [(.v (.int .i64) p0)] (.v .str y) [] := by
  rw [m_triviumbase_Itoa] at h
  refine enterN [(.v (.int .i64) p0)] 31 Tryz.func47 rfl rfl rfl ?_
  refine T.seq ?_
  refine T.region ?_
  refine Run.go (Ev.assign rfl rfl) ?_
  refine Run.nil ?_
  refine T.seq ?_
  refine T.seq ?_
  refine T.region ?_
  refine Run.go (Ev.move rfl rfl) ?_
  refine Run.go (Ev.int rfl rfl rfl rfl trivial) ?_
  refine Run.nil ?_
  refine T.cond rfl (fun hb1 => ?_) (fun hb1 => ?_)
  · replace h := ifT hb1 h
    refine T.seq ?_
    refine T.region ?_
    refine Run.go (Ev.assign rfl rfl) ?_
    refine Run.nil ?_
    refine T.ret ?_
    cases h
    exact Fin.one rfl .v
  · replace h := ifF hb1 h
    refine T.skip ?_
    refine T.seq ?_
    refine T.region ?_
    refine Run.go (Ev.move rfl rfl) ?_
    refine Run.go (Ev.assign rfl rfl) ?_
    refine Run.go (Ev.assign rfl rfl) ?_
    refine Run.nil ?_
    obtain ⟨v2, hv, h⟩ := bdS h
    refine T.cut (fun _ : Unit => (⟨[(0, .v (.int .i64) p0), (3, .v .str v2)], [], 31⟩ : St)) (fun _ => True) ?_ (fun _ _ => ?_)
    · replace h := hv
      clear hv
      refine T.block ?_
      refine T.loop (LoopT.ghost (Ghost.only [] [0, 3, 4] rfl) (LoopT.run (fun q : ByteArray × Int => (⟨[(0, .v (.int .i64) p0), (3, .v .str q.1), (4, .v (.int .i64) q.2)], [], 31⟩ : St)) (fun q z1 h hz1 => ?_) h))
      obtain ⟨v3, v4⟩ := q
      dsimp only
      rw [m_triviumbase_Itoa_l1] at h
      refine T.seq ?_
      refine T.seq ?_
      refine T.region ?_
      refine Run.go (Ev.move rfl rfl) ?_
      refine Run.go (Ev.int rfl rfl rfl rfl trivial) ?_
      refine Run.nil ?_
      refine T.cond rfl (fun hb5 => ?_) (fun hb5 => ?_)
      · replace h := ifT hb5 h
        refine T.skip ?_
        refine T.block ?_
        refine T.seq ?_
        refine T.region ?_
        refine Run.go (Ev.move rfl rfl) ?_
        obtain ⟨x6, e7, h⟩ := bdS h
        refine Run.go (Ev.e_rm e7 rfl rfl rfl) ?_
        refine Run.go (Ev.assign rfl rfl) ?_
        refine Run.nil ?_
        obtain ⟨v8, hv, h⟩ := bdS h
        refine T.cut (fun _ : Unit => (⟨[(0, .v (.int .i64) p0), (3, .v .str v3), (4, .v (.int .i64) v4), (5, .v (.int .i64) v8)], [], 31⟩ : St)) (fun _ => True) ?_ (fun _ _ => ?_)
        · replace h := hv
          clear hv
          refine T.seq ?_
          refine T.region ?_
          refine Run.go (Ev.move rfl rfl) ?_
          refine Run.go (Ev.int rfl rfl rfl rfl trivial) ?_
          refine Run.nil ?_
          refine T.cond rfl (fun hb9 => ?_) (fun hb9 => ?_)
          · replace h := ifT hb9 h
            refine T.region ?_
            refine Run.go (Ev.move rfl rfl) ?_
            refine Run.go (Ev.neg rfl rfl) ?_
            refine Run.go (Ev.assign rfl rfl) ?_
            refine Run.nil ?_
            cases h
            exact ⟨(), trivial, Ghost.only [] [0, 3, 4, 5] rfl⟩
          · replace h := ifF hb9 h
            refine T.skip ?_
            cases h
            exact ⟨(), trivial, Ghost.only [] [0, 3, 4, 5] rfl⟩
        · refine T.seq ?_
          refine T.region ?_
          refine Run.go (Ev.move rfl rfl) ?_
          refine Run.go (Ev.int rfl rfl rfl rfl trivial) ?_
          refine Run.go (Ev.conv X rfl rfl rfl rfl) ?_
          refine Run.go (Ev.build X 6 rfl rfl rfl rfl rfl rfl rfl rfl) ?_
          refine Run.ghost (Ghost.firmAll (id := 6) rfl) ?_
          refine Run.go (Ev.e_b2s (e := 0) X rfl rfl rfl rfl) ?_
          refine Run.go (Ev.move rfl rfl) ?_
          obtain ⟨x10, e11, h⟩ := bdS h
          refine Run.go (Ev.e_cat e11 rfl rfl rfl) ?_
          refine Run.go (Ev.assign rfl rfl) ?_
          refine Run.nil ?_
          refine T.region ?_
          refine Run.go (Ev.move rfl rfl) ?_
          obtain ⟨x12, e13, h⟩ := bdS h
          refine Run.go (Ev.e_qd e13 rfl rfl rfl) ?_
          refine Run.go (Ev.assign rfl rfl) ?_
          refine Run.nil ?_
          cases h
          exact LoopT.ghost (Ghost.only [] [0, 3, 4] rfl) hz1
      · replace h := ifF hb5 h
        refine T.exit ?_
        cases h
        cases hz1
        exact ⟨(), trivial, Ghost.only [] [0, 3] rfl⟩
    · obtain ⟨v14, hv, h⟩ := bdS h
      refine T.cut (fun _ : Unit => (⟨[(3, .v .str v14)], [], 31⟩ : St)) (fun _ => True) ?_ (fun _ _ => ?_)
      · replace h := hv
        clear hv
        refine T.seq ?_
        refine T.region ?_
        refine Run.go (Ev.move rfl rfl) ?_
        refine Run.go (Ev.int rfl rfl rfl rfl trivial) ?_
        refine Run.nil ?_
        refine T.cond rfl (fun hb15 => ?_) (fun hb15 => ?_)
        · replace h := ifT hb15 h
          refine T.region ?_
          refine Run.go (Ev.move rfl rfl) ?_
          obtain ⟨x16, e17, h⟩ := bdS h
          refine Run.go (Ev.e_cat e17 rfl rfl rfl) ?_
          refine Run.go (Ev.assign rfl rfl) ?_
          refine Run.nil ?_
          cases h
          exact ⟨(), trivial, Ghost.only [] [3] rfl⟩
        · replace h := ifF hb15 h
          refine T.skip ?_
          cases h
          exact ⟨(), trivial, Ghost.only [] [3] rfl⟩
      · refine T.seq ?_
        refine T.region ?_
        refine Run.go (Ev.move rfl rfl) ?_
        refine Run.go (Ev.assign rfl rfl) ?_
        refine Run.nil ?_
        refine T.ret ?_
        cases h
        exact Fin.one rfl .v
theorem en46 : Enters Tryz.prog 46 := ⟨_, Tryz.func46, rfl, rfl⟩
theorem k_triviumref18_Print {p0 : Int} {y : ByteArray} (h : m_triviumref18_Print p0 = some y) : Spec Tryz.prog 46 [(.v (.int .u32) p0)] (.v .str y) [] := by
  rw [m_triviumref18_Print] at h
  refine enterN [(.v (.int .u32) p0)] 27 Tryz.func46 rfl rfl rfl ?_
  refine T.seq ?_
  refine T.region ?_
  refine Run.go (Ev.assign rfl rfl) ?_
  refine Run.nil ?_
  refine T.seq ?_
  refine T.region ?_
  refine Run.go (Ev.move rfl rfl) ?_
  obtain ⟨x1, e2, h⟩ := bdS h
  refine Run.go (Ev.e_qd e2 rfl rfl rfl) ?_
  refine Run.go (Ev.conv X rfl rfl rfl rfl) ?_
  obtain ⟨x3, e4, h⟩ := bdS h
  refine Run.go (Ev.callC en47 (k_triviumbase_Itoa e4) rfl (.cons .v .nil) rfl rfl) ?_
  obtain ⟨x5, e6, h⟩ := bdS h
  refine Run.go (Ev.e_cat e6 rfl rfl rfl) ?_
  refine Run.go (Ev.move rfl rfl) ?_
  obtain ⟨x7, e8, h⟩ := bdS h
  refine Run.go (Ev.e_qd e8 rfl rfl rfl) ?_
  obtain ⟨x9, e10, h⟩ := bdS h
  refine Run.go (Ev.e_rm e10 rfl rfl rfl) ?_
  refine Run.go (Ev.conv X rfl rfl rfl rfl) ?_
  obtain ⟨x11, e12, h⟩ := bdS h
  refine Run.go (Ev.callC en47 (k_triviumbase_Itoa e12) rfl (.cons .v .nil) rfl rfl) ?_
  obtain ⟨x13, e14, h⟩ := bdS h
  refine Run.go (Ev.e_cat e14 rfl rfl rfl) ?_
  obtain ⟨x15, e16, h⟩ := bdS h
  refine Run.go (Ev.e_cat e16 rfl rfl rfl) ?_
  refine Run.go (Ev.move rfl rfl) ?_
  obtain ⟨x17, e18, h⟩ := bdS h
  refine Run.go (Ev.e_qd e18 rfl rfl rfl) ?_
  obtain ⟨x19, e20, h⟩ := bdS h
  refine Run.go (Ev.e_rm e20 rfl rfl rfl) ?_
  refine Run.go (Ev.conv X rfl rfl rfl rfl) ?_
  obtain ⟨x21, e22, h⟩ := bdS h
  refine Run.go (Ev.callC en47 (k_triviumbase_Itoa e22) rfl (.cons .v .nil) rfl rfl) ?_
  obtain ⟨x23, e24, h⟩ := bdS h
  refine Run.go (Ev.e_cat e24 rfl rfl rfl) ?_
  obtain ⟨x25, e26, h⟩ := bdS h
  refine Run.go (Ev.e_cat e26 rfl rfl rfl) ?_
  refine Run.go (Ev.move rfl rfl) ?_
  obtain ⟨x27, e28, h⟩ := bdS h
  refine Run.go (Ev.e_rm e28 rfl rfl rfl) ?_
  refine Run.go (Ev.conv X rfl rfl rfl rfl) ?_
  obtain ⟨x29, e30, h⟩ := bdS h
  refine Run.go (Ev.callC en47 (k_triviumbase_Itoa e30) rfl (.cons .v .nil) rfl rfl) ?_
  obtain ⟨x31, e32, h⟩ := bdS h
  refine Run.go (Ev.e_cat e32 rfl rfl rfl) ?_
  refine Run.go (Ev.assign rfl rfl) ?_
  refine Run.nil ?_
  refine T.ret ?_
  cases h
  exact Fin.one rfl .v
theorem en90 : Enters Tryz.prog 90 := ⟨_, Tryz.func90, rfl, rfl⟩
theorem k_triviumref18_Size {p0 : Int} {y : Int} (h : m_triviumref18_Size p0 = some y) : Spec Tryz.prog 90 [(.v (.int .i64) p0)] (.v (.int .u64) y) [] := by
  rw [m_triviumref18_Size] at h
  refine enterN [(.v (.int .i64) p0)] 13 Tryz.func90 rfl rfl rfl ?_
  refine T.seq ?_
  refine T.region ?_
  refine Run.go (Ev.assign rfl rfl) ?_
  refine Run.nil ?_
  refine T.seq ?_
  refine T.region ?_
  refine Run.go (Ev.assign rfl rfl) ?_
  refine Run.nil ?_
  obtain ⟨v1, hv, h⟩ := bdS h
  refine T.cut (fun _ : Unit => (⟨[(3, .v (.int .u64) v1)], [], 13⟩ : St)) (fun _ => True) ?_ (fun _ _ => ?_)
  · replace h := hv
    clear hv
    refine T.seq ?_
    refine T.region ?_
    refine Run.go (Ev.move rfl rfl) ?_
    refine Run.go (Ev.assign rfl rfl) ?_
    refine Run.nil ?_
    refine T.block ?_
    refine T.loop (LoopT.ghost (Ghost.only [] [3, 4] rfl) (LoopT.run (fun q : Int × Int => (⟨[(3, .v (.int .u64) q.1), (4, .v (.int .i64) q.2)], [], 13⟩ : St)) (fun q z1 h hz1 => ?_) h))
    obtain ⟨v2, v3⟩ := q
    dsimp only
    rw [m_triviumref18_Size_l1] at h
    refine T.seq ?_
    refine T.seq ?_
    refine T.region ?_
    refine Run.go (Ev.move rfl rfl) ?_
    refine Run.go (Ev.int rfl rfl rfl rfl trivial) ?_
    refine Run.nil ?_
    refine T.cond rfl (fun hb4 => ?_) (fun hb4 => ?_)
    · replace h := ifT hb4 h
      refine T.skip ?_
      refine T.seq ?_
      refine T.block ?_
      refine T.region ?_
      refine Run.go (Ev.move rfl rfl) ?_
      refine Run.go (Ev.int rfl rfl rfl rfl trivial) ?_
      refine Run.go (Ev.assign rfl rfl) ?_
      refine Run.nil ?_
      refine T.region ?_
      refine Run.go (Ev.move rfl rfl) ?_
      refine Run.go (Ev.int rfl rfl rfl rfl trivial) ?_
      refine Run.go (Ev.assign rfl rfl) ?_
      refine Run.nil ?_
      cases h
      exact LoopT.ghost (Ghost.only [] [3, 4] rfl) hz1
    · replace h := ifF hb4 h
      refine T.exit ?_
      cases h
      cases hz1
      exact ⟨(), trivial, Ghost.only [] [3] rfl⟩
  · refine T.seq ?_
    refine T.region ?_
    refine Run.go (Ev.move rfl rfl) ?_
    refine Run.go (Ev.assign rfl rfl) ?_
    refine Run.nil ?_
    refine T.ret ?_
    cases h
    exact Fin.one rfl .v
theorem en72 : Enters Tryz.prog 72 := ⟨_, Tryz.func72, rfl, rfl⟩
theorem k_triviumref18_May {p0 : D_api_Prefix} {y : Bool} (h : m_triviumref18_May p0 = some y) : Spec Tryz.prog 72 [(.v Y_api_Prefix p0)] (.v .bool y) [] := by
  rw [m_triviumref18_May] at h
  refine enterN [(.v Y_api_Prefix p0)] 21 Tryz.func72 rfl rfl rfl ?_
  refine T.seq ?_
  refine T.region ?_
  refine Run.go (Ev.box 1 rfl rfl rfl rfl) ?_
  refine Run.go (Ev.assign rfl rfl) ?_
  refine Run.nil ?_
  refine T.seq ?_
  refine T.drawM [] [0, 1, 3, 7, 15, 31, 63, 127, 255, 511, 1023, 2047, 511, 4607, 12799, 32767, 65535, 131071, 262143] (by kernel_rfl) (by kernel_rfl) ?_
  refine RunD.a rfl rfl (Ev.fieldBox X rfl rfl rfl rfl rfl) ?_
  refine RunD.a rfl rfl (Ev.loadCell X rfl rfl rfl rfl rfl rfl) ?_
  refine RunD.w (fun _ => Ev.int rfl rfl rfl rfl trivial) ?_
  refine RunD.w (fun _ => Ev.move rfl rfl) ?_
  rcases boolCases (decide (0 ≤ p0.2)) with hb1 | hb1
  · replace h := ifT hb1 h
    refine RunD.on rfl rfl rfl hb1 rfl (fun ô hô => by obtain rfl := hô.resolve_left (by decide); exact Ev.fieldBox X rfl rfl rfl rfl rfl) ?_
    refine RunD.on rfl rfl rfl hb1 rfl (fun ô hô => by obtain rfl := hô.resolve_left (by decide); exact Ev.loadCell X rfl rfl rfl rfl rfl rfl) ?_
    refine RunD.on rfl rfl rfl hb1 rfl (fun _ _ => Ev.int rfl rfl rfl rfl trivial) ?_
    refine RunD.w (fun _ => Ev.pickT rfl hb1 rfl rfl) ?_
    refine RunD.w (fun _ => Ev.move rfl rfl) ?_
    rcases boolCases (decide (p0.2 ≤ 32)) with hb2 | hb2
    · replace h := ifT hb2 h
      refine RunD.on rfl rfl rfl hb2 rfl (fun ô hô => by obtain rfl := hô.resolve_left (by decide); exact Ev.fieldBox X rfl rfl rfl rfl rfl) ?_
      refine RunD.on rfl rfl rfl hb2 rfl (fun ô hô => by obtain rfl := hô.resolve_left (by decide); exact Ev.loadCell X rfl rfl rfl rfl rfl rfl) ?_
      refine RunD.on rfl rfl rfl hb2 rfl (fun ô hô => by obtain rfl := hô.resolve_left (by decide); exact Ev.conv X rfl rfl rfl rfl) ?_
      refine RunD.on rfl rfl rfl hb2 rfl (fun ô hô => by obtain rfl := hô.resolve_left (by decide); exact Ev.fieldBox X rfl rfl rfl rfl rfl) ?_
      refine RunD.on rfl rfl rfl hb2 rfl (fun ô hô => by obtain rfl := hô.resolve_left (by decide); exact Ev.loadCell X rfl rfl rfl rfl rfl rfl) ?_
      obtain ⟨x3, e4, h⟩ := bdS h
      refine RunD.on rfl rfl rfl hb2 rfl (fun ô hô => by obtain rfl := hô.resolve_left (by decide); exact Ev.callC en90 (k_triviumref18_Size e4) rfl (.cons .v .nil) rfl rfl) ?_
      obtain ⟨x5, e6, h⟩ := bdS h
      refine RunD.on rfl rfl rfl hb2 rfl (fun _ _ => Ev.e_rm e6 rfl rfl rfl) ?_
      refine RunD.on rfl rfl rfl hb2 rfl (fun _ _ => Ev.int rfl rfl rfl rfl trivial) ?_
      refine RunD.w (fun _ => Ev.pickT rfl hb2 rfl rfl) ?_
      refine RunD.w (fun _ => Ev.assign rfl rfl) ?_
      refine RunD.nil ?_
      refine T.ret ?_
      cases h
      exact Fin.one rfl .v
    · replace h := ifF hb2 h
      refine RunD.offT rfl rfl rfl rfl hb2 ?_
      refine RunD.offT rfl rfl rfl rfl hb2 ?_
      refine RunD.offT rfl rfl rfl rfl hb2 ?_
      refine RunD.offT rfl rfl rfl rfl hb2 ?_
      refine RunD.offT rfl rfl rfl rfl hb2 ?_
      refine RunD.offT rfl rfl rfl rfl hb2 ?_
      refine RunD.offT rfl rfl rfl rfl hb2 ?_
      refine RunD.offT rfl rfl rfl rfl hb2 ?_
      refine RunD.w (fun _ => Ev.pickF rfl hb2 rfl rfl) ?_
      refine RunD.w (fun _ => Ev.assign rfl rfl) ?_
      refine RunD.nil ?_
      refine T.ret ?_
      cases h
      exact Fin.one rfl .v
  · replace h := ifF hb1 h
    refine RunD.offT rfl rfl rfl rfl hb1 ?_
    refine RunD.offT rfl rfl rfl rfl hb1 ?_
    refine RunD.offT rfl rfl rfl rfl hb1 ?_
    refine RunD.w (fun _ => Ev.pickF rfl hb1 rfl rfl) ?_
    refine RunD.w (fun _ => Ev.move rfl rfl) ?_
    refine RunD.offT rfl rfl rfl rfl rfl ?_
    refine RunD.offT rfl rfl rfl rfl rfl ?_
    refine RunD.offT rfl rfl rfl rfl rfl ?_
    refine RunD.offT rfl rfl rfl rfl rfl ?_
    refine RunD.offT rfl rfl rfl rfl rfl ?_
    refine RunD.offT rfl rfl rfl rfl rfl ?_
    refine RunD.offT rfl rfl rfl rfl rfl ?_
    refine RunD.offT rfl rfl rfl rfl rfl ?_
    refine RunD.w (fun _ => Ev.pickF rfl rfl rfl rfl) ?_
    refine RunD.w (fun _ => Ev.assign rfl rfl) ?_
    refine RunD.nil ?_
    refine T.ret ?_
    cases h
    exact Fin.one rfl .v
theorem en48 : Enters Tryz.prog 48 := ⟨_, Tryz.func48, rfl, rfl⟩
theorem k_triviumref18_Text {p0 : D_api_Prefix} {y : ByteArray} (h : m_triviumref18_Text p0 = some y) : Spec Tryz.prog 48 [(.v Y_api_Prefix p0)] (.v .str y) [] := by
  rw [m_triviumref18_Text] at h
  refine enterN [(.v Y_api_Prefix p0)] 14 Tryz.func48 rfl rfl rfl ?_
  refine T.seq ?_
  refine T.region ?_
  refine Run.go (Ev.box 1 rfl rfl rfl rfl) ?_
  refine Run.go (Ev.assign rfl rfl) ?_
  refine Run.nil ?_
  refine T.seq ?_
  refine T.seq ?_
  refine T.region ?_
  refine Run.go (Ev.loadBox X rfl rfl rfl rfl rfl) ?_
  obtain ⟨x1, e2, h⟩ := bdS h
  refine Run.go (Ev.callC en72 (k_triviumref18_May e2) rfl (.cons .v .nil) rfl rfl) ?_
  refine Run.go (Ev.not rfl rfl) ?_
  refine Run.nil ?_
  refine T.cond rfl (fun hb3 => ?_) (fun hb3 => ?_)
  · replace h := ifT hb3 h
    refine T.seq ?_
    refine T.region ?_
    refine Run.go (Ev.assign rfl rfl) ?_
    refine Run.nil ?_
    refine T.ret ?_
    cases h
    exact Fin.one rfl .v
  · replace h := ifF hb3 h
    refine T.skip ?_
    refine T.seq ?_
    refine T.drawM [] [0, 1, 3, 7, 0, 16, 55, 127, 255] (by kernel_rfl) (by kernel_rfl) ?_
    refine RunD.a rfl rfl (Ev.fieldBox X rfl rfl rfl rfl rfl) ?_
    refine RunD.a rfl rfl (Ev.loadCell X rfl rfl rfl rfl rfl rfl) ?_
    obtain ⟨x4, e5, h⟩ := bdS h
    refine RunD.a rfl rfl (Ev.callC en46 (k_triviumref18_Print e5) rfl (.cons .v .nil) rfl rfl) ?_
    obtain ⟨x6, e7, h⟩ := bdS h
    refine RunD.w (fun _ => Ev.e_cat e7 rfl rfl rfl) ?_
    refine RunD.a rfl rfl (Ev.fieldBox X rfl rfl rfl rfl rfl) ?_
    refine RunD.a rfl rfl (Ev.loadCell X rfl rfl rfl rfl rfl rfl) ?_
    obtain ⟨x8, e9, h⟩ := bdS h
    refine RunD.a rfl rfl (Ev.callC en47 (k_triviumbase_Itoa e9) rfl (.cons .v .nil) rfl rfl) ?_
    obtain ⟨x10, e11, h⟩ := bdS h
    refine RunD.w (fun _ => Ev.e_cat e11 rfl rfl rfl) ?_
    refine RunD.w (fun _ => Ev.assign rfl rfl) ?_
    refine RunD.nil ?_
    refine T.ret ?_
    cases h
    exact Fin.one rfl .v
theorem en22 : Enters Tryz.prog 22 := ⟨_, Tryz.func22, rfl, rfl⟩
set_option maxHeartbeats 1000000 in
theorem k_triviumref22_Query {p0 : D_api_Query} {y : ByteArray} (h : m_triviumref22_Query p0 = some y) : Spec Tryz.prog 22 [(.v Y_api_Query p0)] (.v .str y) [] := by
  rw [m_triviumref22_Query] at h
  refine enterN [(.v Y_api_Query p0)] 76 Tryz.func22 rfl rfl rfl ?_
  refine T.seq ?_
  refine T.region ?_
  refine Run.go (Ev.box 1 rfl rfl rfl rfl) ?_
  refine Run.go (Ev.assign rfl rfl) ?_
  refine Run.nil ?_
  refine T.seq ?_
  refine T.seq ?_
  refine T.region ?_
  refine Run.go (Ev.fieldBox X rfl rfl rfl rfl rfl) ?_
  refine Run.go (Ev.loadCell X rfl rfl rfl rfl rfl rfl) ?_
  refine Run.go (Ev.int rfl rfl rfl rfl trivial) ?_
  refine Run.nil ?_
  refine T.cond rfl (fun hb1 => ?_) (fun hb1 => ?_)
  · replace h := ifT hb1 h
    refine T.seq ?_
    refine T.drawM [] [0, 1, 3, 7, 0, 16, 63, 127, 0, 256, 768, 2047, 4095, 8191] (by kernel_rfl) (by kernel_rfl) ?_
    refine RunD.a rfl rfl (Ev.fieldBox X rfl rfl rfl rfl rfl) ?_
    refine RunD.a rfl rfl (Ev.loadCell X rfl rfl rfl rfl rfl rfl) ?_
    obtain ⟨x2, e3, h⟩ := bdS h
    refine RunD.w (fun _ => Ev.e_cat e3 rfl rfl rfl) ?_
    obtain ⟨x4, e5, h⟩ := bdS h
    refine RunD.w (fun _ => Ev.e_cat e5 rfl rfl rfl) ?_
    refine RunD.a rfl rfl (Ev.fieldBox X rfl rfl rfl rfl rfl) ?_
    refine RunD.a rfl rfl (Ev.loadCell X rfl rfl rfl rfl rfl rfl) ?_
    obtain ⟨x6, e7, h⟩ := bdS h
    refine RunD.w (fun _ => Ev.e_cat e7 rfl rfl rfl) ?_
    obtain ⟨x8, e9, h⟩ := bdS h
    refine RunD.w (fun _ => Ev.e_cat e9 rfl rfl rfl) ?_
    refine RunD.a rfl rfl (Ev.fieldBox X rfl rfl rfl rfl rfl) ?_
    refine RunD.a rfl rfl (Ev.loadCell X rfl rfl rfl rfl rfl rfl) ?_
    obtain ⟨x10, e11, h⟩ := bdS h
    refine RunD.a rfl rfl (Ev.callC en46 (k_triviumref18_Print e11) rfl (.cons .v .nil) rfl rfl) ?_
    obtain ⟨x12, e13, h⟩ := bdS h
    refine RunD.w (fun _ => Ev.e_cat e13 rfl rfl rfl) ?_
    obtain ⟨x14, e15, h⟩ := bdS h
    refine RunD.w (fun _ => Ev.e_cat e15 rfl rfl rfl) ?_
    refine RunD.w (fun _ => Ev.assign rfl rfl) ?_
    refine RunD.nil ?_
    refine T.ret ?_
    cases h
    exact Fin.one rfl .v
  · replace h := ifF hb1 h
    refine T.skip ?_
    refine T.seq ?_
    refine T.seq ?_
    refine T.region ?_
    refine Run.go (Ev.fieldBox X rfl rfl rfl rfl rfl) ?_
    refine Run.go (Ev.loadCell X rfl rfl rfl rfl rfl rfl) ?_
    refine Run.go (Ev.int rfl rfl rfl rfl trivial) ?_
    refine Run.nil ?_
    refine T.cond rfl (fun hb16 => ?_) (fun hb16 => ?_)
    · replace h := ifT hb16 h
      refine T.seq ?_
      refine T.drawM [] [0, 1, 3, 7, 0, 16, 63, 127, 0, 256, 768, 2047, 4095, 8191] (by kernel_rfl) (by kernel_rfl) ?_
      refine RunD.a rfl rfl (Ev.fieldBox X rfl rfl rfl rfl rfl) ?_
      refine RunD.a rfl rfl (Ev.loadCell X rfl rfl rfl rfl rfl rfl) ?_
      obtain ⟨x17, e18, h⟩ := bdS h
      refine RunD.w (fun _ => Ev.e_cat e18 rfl rfl rfl) ?_
      obtain ⟨x19, e20, h⟩ := bdS h
      refine RunD.w (fun _ => Ev.e_cat e20 rfl rfl rfl) ?_
      refine RunD.a rfl rfl (Ev.fieldBox X rfl rfl rfl rfl rfl) ?_
      refine RunD.a rfl rfl (Ev.loadCell X rfl rfl rfl rfl rfl rfl) ?_
      obtain ⟨x21, e22, h⟩ := bdS h
      refine RunD.w (fun _ => Ev.e_cat e22 rfl rfl rfl) ?_
      obtain ⟨x23, e24, h⟩ := bdS h
      refine RunD.w (fun _ => Ev.e_cat e24 rfl rfl rfl) ?_
      refine RunD.a rfl rfl (Ev.fieldBox X rfl rfl rfl rfl rfl) ?_
      refine RunD.a rfl rfl (Ev.loadCell X rfl rfl rfl rfl rfl rfl) ?_
      obtain ⟨x25, e26, h⟩ := bdS h
      refine RunD.a rfl rfl (Ev.callC en46 (k_triviumref18_Print e26) rfl (.cons .v .nil) rfl rfl) ?_
      obtain ⟨x27, e28, h⟩ := bdS h
      refine RunD.w (fun _ => Ev.e_cat e28 rfl rfl rfl) ?_
      obtain ⟨x29, e30, h⟩ := bdS h
      refine RunD.w (fun _ => Ev.e_cat e30 rfl rfl rfl) ?_
      refine RunD.w (fun _ => Ev.assign rfl rfl) ?_
      refine RunD.nil ?_
      refine T.ret ?_
      cases h
      exact Fin.one rfl .v
    · replace h := ifF hb16 h
      refine T.skip ?_
      refine T.seq ?_
      refine T.seq ?_
      refine T.region ?_
      refine Run.go (Ev.fieldBox X rfl rfl rfl rfl rfl) ?_
      refine Run.go (Ev.loadCell X rfl rfl rfl rfl rfl rfl) ?_
      refine Run.go (Ev.int rfl rfl rfl rfl trivial) ?_
      refine Run.nil ?_
      refine T.cond rfl (fun hb31 => ?_) (fun hb31 => ?_)
      · replace h := ifT hb31 h
        refine T.seq ?_
        refine T.drawM [] [0, 1, 3, 7, 0, 16, 63, 127, 0, 256, 768, 2047, 4095, 0, 8192, 26368, 65535, 131071, 262143] (by kernel_rfl) (by kernel_rfl) ?_
        refine RunD.a rfl rfl (Ev.fieldBox X rfl rfl rfl rfl rfl) ?_
        refine RunD.a rfl rfl (Ev.loadCell X rfl rfl rfl rfl rfl rfl) ?_
        obtain ⟨x32, e33, h⟩ := bdS h
        refine RunD.w (fun _ => Ev.e_cat e33 rfl rfl rfl) ?_
        obtain ⟨x34, e35, h⟩ := bdS h
        refine RunD.w (fun _ => Ev.e_cat e35 rfl rfl rfl) ?_
        refine RunD.a rfl rfl (Ev.fieldBox X rfl rfl rfl rfl rfl) ?_
        refine RunD.a rfl rfl (Ev.loadCell X rfl rfl rfl rfl rfl rfl) ?_
        obtain ⟨x36, e37, h⟩ := bdS h
        refine RunD.w (fun _ => Ev.e_cat e37 rfl rfl rfl) ?_
        obtain ⟨x38, e39, h⟩ := bdS h
        refine RunD.w (fun _ => Ev.e_cat e39 rfl rfl rfl) ?_
        refine RunD.a rfl rfl (Ev.fieldBox X rfl rfl rfl rfl rfl) ?_
        refine RunD.a rfl rfl (Ev.loadCell X rfl rfl rfl rfl rfl rfl) ?_
        obtain ⟨x40, e41, h⟩ := bdS h
        refine RunD.a rfl rfl (Ev.callC en46 (k_triviumref18_Print e41) rfl (.cons .v .nil) rfl rfl) ?_
        obtain ⟨x42, e43, h⟩ := bdS h
        refine RunD.w (fun _ => Ev.e_cat e43 rfl rfl rfl) ?_
        obtain ⟨x44, e45, h⟩ := bdS h
        refine RunD.w (fun _ => Ev.e_cat e45 rfl rfl rfl) ?_
        refine RunD.a rfl rfl (Ev.fieldBox X rfl rfl rfl rfl rfl) ?_
        refine RunD.a rfl rfl (Ev.loadCell X rfl rfl rfl rfl rfl rfl) ?_
        obtain ⟨x46, e47, h⟩ := bdS h
        refine RunD.a rfl rfl (Ev.callC en47 (k_triviumbase_Itoa e47) rfl (.cons .v .nil) rfl rfl) ?_
        obtain ⟨x48, e49, h⟩ := bdS h
        refine RunD.w (fun _ => Ev.e_cat e49 rfl rfl rfl) ?_
        obtain ⟨x50, e51, h⟩ := bdS h
        refine RunD.w (fun _ => Ev.e_cat e51 rfl rfl rfl) ?_
        refine RunD.w (fun _ => Ev.assign rfl rfl) ?_
        refine RunD.nil ?_
        refine T.ret ?_
        cases h
        exact Fin.one rfl .v
      · replace h := ifF hb31 h
        refine T.skip ?_
        refine T.seq ?_
        refine T.seq ?_
        refine T.region ?_
        refine Run.go (Ev.fieldBox X rfl rfl rfl rfl rfl) ?_
        refine Run.go (Ev.loadCell X rfl rfl rfl rfl rfl rfl) ?_
        refine Run.go (Ev.int rfl rfl rfl rfl trivial) ?_
        refine Run.nil ?_
        refine T.cond rfl (fun hb52 => ?_) (fun hb52 => ?_)
        · replace h := ifT hb52 h
          refine T.seq ?_
          refine T.drawM [] [0, 1, 3, 7, 0, 16, 63, 127, 0, 256, 1023, 2047, 0, 4096, 12288, 32767, 65535, 131071] (by kernel_rfl) (by kernel_rfl) ?_
          refine RunD.a rfl rfl (Ev.fieldBox X rfl rfl rfl rfl rfl) ?_
          refine RunD.a rfl rfl (Ev.loadCell X rfl rfl rfl rfl rfl rfl) ?_
          obtain ⟨x53, e54, h⟩ := bdS h
          refine RunD.w (fun _ => Ev.e_cat e54 rfl rfl rfl) ?_
          obtain ⟨x55, e56, h⟩ := bdS h
          refine RunD.w (fun _ => Ev.e_cat e56 rfl rfl rfl) ?_
          refine RunD.a rfl rfl (Ev.fieldBox X rfl rfl rfl rfl rfl) ?_
          refine RunD.a rfl rfl (Ev.loadCell X rfl rfl rfl rfl rfl rfl) ?_
          obtain ⟨x57, e58, h⟩ := bdS h
          refine RunD.w (fun _ => Ev.e_cat e58 rfl rfl rfl) ?_
          obtain ⟨x59, e60, h⟩ := bdS h
          refine RunD.w (fun _ => Ev.e_cat e60 rfl rfl rfl) ?_
          refine RunD.a rfl rfl (Ev.fieldBox X rfl rfl rfl rfl rfl) ?_
          refine RunD.a rfl rfl (Ev.loadCell X rfl rfl rfl rfl rfl rfl) ?_
          obtain ⟨x61, e62, h⟩ := bdS h
          refine RunD.w (fun _ => Ev.e_cat e62 rfl rfl rfl) ?_
          obtain ⟨x63, e64, h⟩ := bdS h
          refine RunD.w (fun _ => Ev.e_cat e64 rfl rfl rfl) ?_
          refine RunD.a rfl rfl (Ev.fieldBox X rfl rfl rfl rfl rfl) ?_
          refine RunD.a rfl rfl (Ev.loadBox X rfl rfl rfl rfl rfl) ?_
          obtain ⟨x65, e66, h⟩ := bdS h
          refine RunD.a rfl rfl (Ev.callC en48 (k_triviumref18_Text e66) rfl (.cons .v .nil) rfl rfl) ?_
          obtain ⟨x67, e68, h⟩ := bdS h
          refine RunD.w (fun _ => Ev.e_cat e68 rfl rfl rfl) ?_
          obtain ⟨x69, e70, h⟩ := bdS h
          refine RunD.w (fun _ => Ev.e_cat e70 rfl rfl rfl) ?_
          refine RunD.w (fun _ => Ev.assign rfl rfl) ?_
          refine RunD.nil ?_
          refine T.ret ?_
          cases h
          exact Fin.one rfl .v
        · replace h := ifF hb52 h
          refine T.skip ?_
          refine T.seq ?_
          refine T.region ?_
          refine Run.go (Ev.assign rfl rfl) ?_
          refine Run.nil ?_
          refine T.ret ?_
          cases h
          exact Fin.one rfl .v
theorem en50 : Enters Tryz.prog 50 := ⟨_, Tryz.func50, rfl, rfl⟩
theorem k_triviumref02_Num {p0 : Int} {y : (List Int)} (h : m_triviumref02_Num p0 = some y) : Spec Tryz.prog 50 [(.v (.int .i64) p0)] (.v (.sl (.int .i64)) y) [] := by
  rw [m_triviumref02_Num] at h
  refine enterN [(.v (.int .i64) p0)] 6 Tryz.func50 rfl rfl rfl ?_
  refine T.seq ?_
  refine T.region ?_
  refine Run.go (Ev.assign rfl rfl) ?_
  refine Run.nil ?_
  refine T.seq ?_
  refine T.region ?_
  refine Run.go (Ev.build X 1 rfl rfl rfl rfl rfl rfl rfl rfl) ?_
  refine Run.go (Ev.move rfl rfl) ?_
  refine Run.ghost (Ghost.firmAll (id := 1) rfl) ?_
  obtain ⟨x1, e2, h⟩ := bdS h
  refine Run.go (Ev.callC en64 (k_triviumref02_MulAdd e2) rfl (.cons .v (.cons .v (.cons .v .nil))) rfl rfl) ?_
  refine Run.go (Ev.assign rfl rfl) ?_
  refine Run.nil ?_
  refine T.ret ?_
  cases h
  exact Fin.one rfl .v
theorem en52 : Enters Tryz.prog 52 := ⟨_, Tryz.func52, rfl, rfl⟩
theorem k_triviumref02_Text {p0 : (List Int)} {y : ByteArray} (h : m_triviumref02_Text p0 = some y) : Spec Tryz.prog 52 [(.v (.sl (.int .i64)) p0)] (.v .str y) [] := by
  rw [m_triviumref02_Text] at h
  refine enterN [(.v (.sl (.int .i64)) p0)] 27 Tryz.func52 rfl rfl rfl ?_
  refine T.seq ?_
  refine T.region ?_
  refine Run.go (Ev.assign rfl rfl) ?_
  refine Run.nil ?_
  refine T.seq ?_
  refine T.seq ?_
  refine T.region ?_
  refine Run.go (Ev.move rfl rfl) ?_
  refine Run.go (Ev.len X rfl rfl rfl rfl) ?_
  refine Run.go (Ev.int rfl rfl rfl rfl trivial) ?_
  refine Run.nil ?_
  refine T.cond rfl (fun hb1 => ?_) (fun hb1 => ?_)
  · replace h := ifT hb1 h
    refine T.seq ?_
    refine T.region ?_
    refine Run.go (Ev.assign rfl rfl) ?_
    refine Run.nil ?_
    refine T.ret ?_
    cases h
    exact Fin.one rfl .v
  · replace h := ifF hb1 h
    refine T.skip ?_
    refine T.seq ?_
    refine T.region ?_
    refine Run.go (Ev.build X 1 rfl rfl rfl rfl rfl rfl rfl rfl) ?_
    refine Run.go (Ev.assign rfl rfl) ?_
    refine Run.nil ?_
    obtain ⟨v2, hv, h⟩ := bdS h
    refine T.cut (fun _ : Unit => (⟨[(3, .own 5)], [(5, .arr 5 (.int .u8) v2)], 27⟩ : St)) (fun _ => True) ?_ (fun _ _ => ?_)
    · replace h := hv
      clear hv
      refine T.block ?_
      refine T.loop (LoopT.ghost (Ghost.only [(1, 15)] [0, 3] rfl) (LoopT.run (fun q : (List Int) × (List Int) => (⟨[(0, .v (.sl (.int .i64)) q.1), (3, .own 15)], [(15, .arr 5 (.int .u8) q.2)], 27⟩ : St)) (fun q z1 h hz1 => ?_) h))
      obtain ⟨v3, v4⟩ := q
      dsimp only
      rw [m_triviumref02_Text_l1] at h
      refine T.seq ?_
      refine T.seq ?_
      refine T.region ?_
      refine Run.go (Ev.move rfl rfl) ?_
      refine Run.go (Ev.len X rfl rfl rfl rfl) ?_
      refine Run.go (Ev.int rfl rfl rfl rfl trivial) ?_
      refine Run.nil ?_
      refine T.cond rfl (fun hb5 => ?_) (fun hb5 => ?_)
      · replace h := ifT hb5 h
        refine T.skip ?_
        refine T.block ?_
        refine T.seq ?_
        refine T.region ?_
        refine Run.go (Ev.move rfl rfl) ?_
        obtain ⟨x6, e7, h⟩ := bdS h
        refine Run.go (Ev.callC en73 (k_triviumref02_DivSmall e7) rfl (.cons .v (.cons .v .nil)) rfl rfl) ?_
        refine Run.go (Ev.move rfl rfl) ?_
        refine Run.go (Ev.extract rfl rfl rfl) ?_
        refine Run.go (Ev.extract rfl rfl rfl) ?_
        refine Run.go (Ev.assign rfl rfl) ?_
        refine Run.go (Ev.assign rfl rfl) ?_
        refine Run.nil ?_
        refine T.seq ?_
        refine T.region ?_
        refine Run.go (Ev.move rfl rfl) ?_
        refine Run.go (Ev.int rfl rfl rfl rfl trivial) ?_
        refine Run.go (Ev.conv X rfl rfl rfl rfl) ?_
        refine Run.go (Ev.build X 19 rfl rfl rfl rfl rfl rfl rfl rfl) ?_
        refine Run.go (Ev.move rfl rfl) ?_
        obtain ⟨x8, e9, h⟩ := bdS h
        refine Run.go (Ev.e_ap X 20 e9 rfl rfl rfl (.own rfl) rfl rfl rfl rfl rfl) ?_
        refine Run.go (Ev.assign rfl rfl) ?_
        refine Run.nil ?_
        refine T.region ?_
        refine Run.go (Ev.move rfl rfl) ?_
        refine Run.go (Ev.assign rfl rfl) ?_
        refine Run.nil ?_
        cases h
        exact LoopT.ghost (Ghost.only [(20, 15)] [0, 3] rfl) hz1
      · replace h := ifF hb5 h
        refine T.exit ?_
        cases h
        cases hz1
        exact ⟨(), trivial, Ghost.only [(15, 5)] [3] rfl⟩
    · refine T.seq ?_
      refine T.region ?_
      refine Run.go (Ev.move rfl rfl) ?_
      refine Run.ghost (Ghost.firmAll (id := 5) rfl) ?_
      refine Run.go (Ev.e_b2s (e := 0) X rfl rfl rfl rfl) ?_
      refine Run.go (Ev.assign rfl rfl) ?_
      refine Run.nil ?_
      refine T.ret ?_
      cases h
      exact Fin.one rfl .v
end Go.Proofs.YtkjkipkfndckfaaGreatDoor.AE
/- The code comes to the printed functions (printed by a program of ours). -/
namespace Go.Proofs.YtkjkipkfndckfaaGreatDoor.AE
open Go Go.RowKit Go.Proofs.YtkjkipkfndckfaaGreatDoor.AP
set_option linter.unusedVariables false
set_option maxRecDepth 20000
theorem en51 : Enters Tryz.prog 51 := ⟨_, Tryz.func51, rfl, rfl⟩
theorem k_triviumref07_Print {p0 : D_triviumref07_Z} {y : ByteArray} (h : m_triviumref07_Print p0 = some y) : Spec Tryz.prog 51 [(.v Y_triviumref07_Z p0)] (.v .str y) [] := by
  rw [m_triviumref07_Print] at h
  refine enterN [(.v Y_triviumref07_Z p0)] 12 Tryz.func51 rfl rfl rfl ?_
  refine T.seq ?_
  refine T.region ?_
  refine Run.go (Ev.box 1 rfl rfl rfl rfl) ?_
  refine Run.go (Ev.assign rfl rfl) ?_
  refine Run.nil ?_
  refine T.seq ?_
  refine T.seq ?_
  refine T.region ?_
  refine Run.go (Ev.fieldBox X rfl rfl rfl rfl rfl) ?_
  refine Run.go (Ev.loadCell X rfl rfl rfl rfl rfl rfl) ?_
  refine Run.nil ?_
  refine T.cond rfl (fun hb1 => ?_) (fun hb1 => ?_)
  · replace h := ifT hb1 h
    refine T.seq ?_
    refine T.region ?_
    refine Run.go (Ev.fieldBox X rfl rfl rfl rfl rfl) ?_
    refine Run.go (Ev.loadCell X rfl rfl rfl rfl rfl rfl) ?_
    obtain ⟨x2, e3, h⟩ := bdS h
    refine Run.go (Ev.callC en52 (k_triviumref02_Text e3) rfl (.cons .v .nil) rfl rfl) ?_
    obtain ⟨x4, e5, h⟩ := bdS h
    refine Run.go (Ev.e_cat e5 rfl rfl rfl) ?_
    refine Run.go (Ev.assign rfl rfl) ?_
    refine Run.nil ?_
    refine T.ret ?_
    cases h
    exact Fin.one rfl .v
  · replace h := ifF hb1 h
    refine T.skip ?_
    refine T.seq ?_
    refine T.region ?_
    refine Run.go (Ev.fieldBox X rfl rfl rfl rfl rfl) ?_
    refine Run.go (Ev.loadCell X rfl rfl rfl rfl rfl rfl) ?_
    obtain ⟨x6, e7, h⟩ := bdS h
    refine Run.go (Ev.callC en52 (k_triviumref02_Text e7) rfl (.cons .v .nil) rfl rfl) ?_
    refine Run.go (Ev.assign rfl rfl) ?_
    refine Run.nil ?_
    refine T.ret ?_
    cases h
    exact Fin.one rfl .v
theorem en23 : Enters Tryz.prog 23 := ⟨_, Tryz.func23, rfl, rfl⟩
theorem k_triviumref09_Print {p0 : D_triviumref08_Q} {y : ByteArray} (h : m_triviumref09_Print p0 = some y) : Spec Tryz.prog 23 [(.v Y_triviumref08_Q p0)] (.v .str y) [] := by
  rw [m_triviumref09_Print] at h
  refine enterN [(.v Y_triviumref08_Q p0)] 19 Tryz.func23 rfl rfl rfl ?_
  refine T.seq ?_
  refine T.region ?_
  refine Run.go (Ev.box 1 rfl rfl rfl rfl) ?_
  refine Run.go (Ev.assign rfl rfl) ?_
  refine Run.nil ?_
  refine T.seq ?_
  refine T.seq ?_
  refine T.drawM [] [0, 1, 0, 7, 15] (by kernel_rfl) (by kernel_rfl) ?_
  refine RunD.a rfl rfl (Ev.fieldBox X rfl rfl rfl rfl rfl) ?_
  refine RunD.a rfl rfl (Ev.loadCell X rfl rfl rfl rfl rfl rfl) ?_
  obtain ⟨x1, e2, h⟩ := bdS h
  refine RunD.a rfl rfl (Ev.callC en50 (k_triviumref02_Num e2) rfl (.cons .v .nil) rfl rfl) ?_
  obtain ⟨x3, e4, h⟩ := bdS h
  refine RunD.a rfl rfl (Ev.callC en49 (k_triviumref02_Cmp e4) rfl (.cons .v (.cons .v .nil)) rfl rfl) ?_
  refine RunD.w (fun _ => Ev.int rfl rfl rfl rfl trivial) ?_
  refine RunD.nil ?_
  refine T.cond rfl (fun hb5 => ?_) (fun hb5 => ?_)
  · replace h := ifT hb5 h
    refine T.seq ?_
    refine T.region ?_
    refine Run.go (Ev.fieldBox X rfl rfl rfl rfl rfl) ?_
    refine Run.go (Ev.loadBox X rfl rfl rfl rfl rfl) ?_
    obtain ⟨x6, e7, h⟩ := bdS h
    refine Run.go (Ev.callC en51 (k_triviumref07_Print e7) rfl (.cons .v .nil) rfl rfl) ?_
    refine Run.go (Ev.assign rfl rfl) ?_
    refine Run.nil ?_
    refine T.ret ?_
    cases h
    exact Fin.one rfl .v
  · replace h := ifF hb5 h
    refine T.skip ?_
    refine T.seq ?_
    refine T.drawM [] [0, 1, 3, 7, 0, 16, 55, 127, 255] (by kernel_rfl) (by kernel_rfl) ?_
    refine RunD.a rfl rfl (Ev.fieldBox X rfl rfl rfl rfl rfl) ?_
    refine RunD.a rfl rfl (Ev.loadBox X rfl rfl rfl rfl rfl) ?_
    obtain ⟨x8, e9, h⟩ := bdS h
    refine RunD.a rfl rfl (Ev.callC en51 (k_triviumref07_Print e9) rfl (.cons .v .nil) rfl rfl) ?_
    obtain ⟨x10, e11, h⟩ := bdS h
    refine RunD.w (fun _ => Ev.e_cat e11 rfl rfl rfl) ?_
    refine RunD.a rfl rfl (Ev.fieldBox X rfl rfl rfl rfl rfl) ?_
    refine RunD.a rfl rfl (Ev.loadCell X rfl rfl rfl rfl rfl rfl) ?_
    obtain ⟨x12, e13, h⟩ := bdS h
    refine RunD.a rfl rfl (Ev.callC en52 (k_triviumref02_Text e13) rfl (.cons .v .nil) rfl rfl) ?_
    obtain ⟨x14, e15, h⟩ := bdS h
    refine RunD.w (fun _ => Ev.e_cat e15 rfl rfl rfl) ?_
    refine RunD.w (fun _ => Ev.assign rfl rfl) ?_
    refine RunD.nil ?_
    refine T.ret ?_
    cases h
    exact Fin.one rfl .v
theorem en10 : Enters Tryz.prog 10 := ⟨_, Tryz.func10, rfl, rfl⟩
theorem k_triviumref38_Verdict {p0 : Int} {y : ByteArray} (h : m_triviumref38_Verdict p0 = some y) : Spec Tryz.prog 10 [(.v (.int .i64) p0)] (.v .str y) [] := by
  rw [m_triviumref38_Verdict] at h
  refine enterN [(.v (.int .i64) p0)] 15 Tryz.func10 rfl rfl rfl ?_
  refine T.seq ?_
  refine T.region ?_
  refine Run.go (Ev.assign rfl rfl) ?_
  refine Run.nil ?_
  refine T.seq ?_
  refine T.region ?_
  refine Run.go (Ev.build X 1 rfl rfl rfl rfl rfl rfl rfl rfl) ?_
  refine Run.go (Ev.assign rfl rfl) ?_
  refine Run.nil ?_
  refine T.seq ?_
  obtain ⟨v1, hv, h⟩ := bdS h
  refine T.cut (fun _ : Unit => (⟨[(0, .v (.int .i64) p0), (3, .own 1), (10, .v .bool v1)], [(1, .arr 9 .str ([(bs []), (bs [101, 113, 117, 97, 108]), (bs [65, 32, 100, 111, 109, 105, 110, 97, 116, 101, 115]), (bs [66, 32, 100, 111, 109, 105, 110, 97, 116, 101, 115]), (bs [105, 110, 99, 111, 109, 112, 97, 114, 97, 98, 108, 101])] : List ByteArray))], 15⟩ : St)) (fun _ => True) ?_ (fun _ _ => ?_)
  · replace h := hv
    clear hv
    refine T.region ?_
    refine Run.go (Ev.move rfl rfl) ?_
    refine Run.go (Ev.int rfl rfl rfl rfl trivial) ?_
    refine Run.go (Ev.move rfl rfl) ?_
    rcases boolCases (decide (p0 < 0)) with hb2 | hb2
    · replace h := ifT hb2 h
      refine Run.offT rfl rfl rfl rfl hb2 ?_
      refine Run.offT rfl rfl rfl rfl hb2 ?_
      refine Run.go (Ev.pickT rfl hb2 rfl rfl) ?_
      refine Run.nil ?_
      cases h
      exact ⟨(), trivial, Ghost.only [(1, 1)] [0, 3, 10] rfl⟩
    · replace h := ifF hb2 h
      refine Run.on rfl rfl rfl hb2 (Ev.move rfl rfl) ?_
      refine Run.on rfl rfl rfl hb2 (Ev.int rfl rfl rfl rfl trivial) ?_
      refine Run.go (Ev.pickF rfl hb2 rfl rfl) ?_
      refine Run.nil ?_
      cases h
      exact ⟨(), trivial, Ghost.only [(1, 1)] [0, 3, 10] rfl⟩
  · refine T.cond rfl (fun hb3 => ?_) (fun hb3 => ?_)
    · replace h := ifT hb3 h
      refine T.seq ?_
      refine T.region ?_
      refine Run.go (Ev.assign rfl rfl) ?_
      refine Run.nil ?_
      refine T.ret ?_
      cases h
      exact Fin.one rfl .v
    · replace h := ifF hb3 h
      refine T.skip ?_
      refine T.seq ?_
      refine T.region ?_
      refine Run.go (Ev.move rfl rfl) ?_
      refine Run.go (Ev.move rfl rfl) ?_
      obtain ⟨x4, e5, h⟩ := bdS h
      refine Run.go (Ev.e_rdO X e5 rfl rfl rfl rfl rfl) ?_
      refine Run.go (Ev.e_ldO X (rdS e5).2 rfl rfl rfl rfl) ?_
      refine Run.go (Ev.assign rfl rfl) ?_
      refine Run.nil ?_
      refine T.ret ?_
      cases h
      exact Fin.one rfl .v
theorem en24 : Enters Tryz.prog 24 := ⟨_, Tryz.func24, rfl, rfl⟩
theorem k_triviumref38_at {p0 : D_triviumref36_Witness} {y : ByteArray} (h : m_triviumref38_at p0 = some y) : Spec Tryz.prog 24 [(.v Y_triviumref36_Witness p0)] (.v .str y) [] := by
  rw [m_triviumref38_at] at h
  refine enterN [(.v Y_triviumref36_Witness p0)] 20 Tryz.func24 rfl rfl rfl ?_
  refine T.seq ?_
  refine T.region ?_
  refine Run.go (Ev.box 1 rfl rfl rfl rfl) ?_
  refine Run.go (Ev.assign rfl rfl) ?_
  refine Run.nil ?_
  refine T.seq ?_
  refine T.seq ?_
  refine T.region ?_
  refine Run.go (Ev.fieldBox X rfl rfl rfl rfl rfl) ?_
  refine Run.go (Ev.loadCell X rfl rfl rfl rfl rfl rfl) ?_
  refine Run.go (Ev.not rfl rfl) ?_
  refine Run.nil ?_
  refine T.cond rfl (fun hb1 => ?_) (fun hb1 => ?_)
  · replace h := ifT hb1 h
    refine T.seq ?_
    refine T.region ?_
    refine Run.go (Ev.assign rfl rfl) ?_
    refine Run.nil ?_
    refine T.ret ?_
    cases h
    exact Fin.one rfl .v
  · replace h := ifF hb1 h
    refine T.skip ?_
    refine T.seq ?_
    refine T.drawM [] [0, 1, 3, 7, 15, 0, 32, 103, 255, 511, 0, 1024, 3303, 8191, 16383] (by kernel_rfl) (by kernel_rfl) ?_
    refine RunD.a rfl rfl (Ev.fieldBox X rfl rfl rfl rfl rfl) ?_
    refine RunD.a rfl rfl (Ev.loadCell X rfl rfl rfl rfl rfl rfl) ?_
    obtain ⟨x2, e3, h⟩ := bdS h
    refine RunD.a rfl rfl (Ev.callC en46 (k_triviumref18_Print e3) rfl (.cons .v .nil) rfl rfl) ?_
    obtain ⟨x4, e5, h⟩ := bdS h
    refine RunD.w (fun _ => Ev.e_cat e5 rfl rfl rfl) ?_
    obtain ⟨x6, e7, h⟩ := bdS h
    refine RunD.w (fun _ => Ev.e_cat e7 rfl rfl rfl) ?_
    refine RunD.a rfl rfl (Ev.fieldBox X rfl rfl rfl rfl rfl) ?_
    refine RunD.a rfl rfl (Ev.loadBox X rfl rfl rfl rfl rfl) ?_
    obtain ⟨x8, e9, h⟩ := bdS h
    refine RunD.a rfl rfl (Ev.callC en23 (k_triviumref09_Print e9) rfl (.cons .v .nil) rfl rfl) ?_
    obtain ⟨x10, e11, h⟩ := bdS h
    refine RunD.w (fun _ => Ev.e_cat e11 rfl rfl rfl) ?_
    obtain ⟨x12, e13, h⟩ := bdS h
    refine RunD.w (fun _ => Ev.e_cat e13 rfl rfl rfl) ?_
    refine RunD.a rfl rfl (Ev.fieldBox X rfl rfl rfl rfl rfl) ?_
    refine RunD.a rfl rfl (Ev.loadBox X rfl rfl rfl rfl rfl) ?_
    obtain ⟨x14, e15, h⟩ := bdS h
    refine RunD.a rfl rfl (Ev.callC en23 (k_triviumref09_Print e15) rfl (.cons .v .nil) rfl rfl) ?_
    obtain ⟨x16, e17, h⟩ := bdS h
    refine RunD.w (fun _ => Ev.e_cat e17 rfl rfl rfl) ?_
    refine RunD.w (fun _ => Ev.assign rfl rfl) ?_
    refine RunD.nil ?_
    refine T.ret ?_
    cases h
    exact Fin.one rfl .v
theorem en8 : Enters Tryz.prog 8 := ⟨_, Tryz.func8, rfl, rfl⟩
set_option maxHeartbeats 1000000 in
theorem k_triviumref38_Line {p0 : D_api_Query} {p1 : D_triviumref37_Answer} {y : ByteArray} (h : m_triviumref38_Line p0 p1 = some y) : Spec Tryz.prog 8 [(.v Y_api_Query p0), (.v Y_triviumref37_Answer p1)] (.v .str y) [] := by
  rw [m_triviumref38_Line] at h
  refine enterN [(.v Y_api_Query p0), (.v Y_triviumref37_Answer p1)] 87 Tryz.func8 rfl rfl rfl ?_
  refine T.seq ?_
  refine T.region ?_
  refine Run.go (Ev.box 1 rfl rfl rfl rfl) ?_
  refine Run.go (Ev.box 2 rfl rfl rfl rfl) ?_
  refine Run.go (Ev.assign rfl rfl) ?_
  refine Run.nil ?_
  refine T.seq ?_
  refine T.region ?_
  refine Run.go (Ev.loadBox X rfl rfl rfl rfl rfl) ?_
  obtain ⟨x1, e2, h⟩ := bdS h
  refine Run.go (Ev.callC en22 (k_triviumref22_Query e2) rfl (.cons .v .nil) rfl rfl) ?_
  refine Run.go (Ev.assign rfl rfl) ?_
  refine Run.nil ?_
  obtain ⟨v3, hv, h⟩ := bdS h
  refine T.cut (fun _ : Unit => (⟨[(3, .box 2 0), (5, .v .str v3)], [(2, .box [.v (.int .i64) p1.1, .v .bool p1.2.1.1.1.1, .v (.sl (.int .i64)) p1.2.1.1.1.2, .v (.sl (.int .i64)) p1.2.1.1.2, .v .bool p1.2.1.2.1.1.1, .v (.sl (.int .i64)) p1.2.1.2.1.1.2, .v (.sl (.int .i64)) p1.2.1.2.1.2, .v .bool p1.2.1.2.2.1.1, .v (.sl (.int .i64)) p1.2.1.2.2.1.2, .v (.sl (.int .i64)) p1.2.1.2.2.2, .v .bool p1.2.2.1.1, .v .bool p1.2.2.1.2.1.1, .v (.sl (.int .i64)) p1.2.2.1.2.1.2, .v (.sl (.int .i64)) p1.2.2.1.2.2, .v .bool p1.2.2.2.1.1.1, .v (.sl (.int .i64)) p1.2.2.2.1.1.2, .v (.sl (.int .i64)) p1.2.2.2.1.2, .v (.int .i64) p1.2.2.2.2.1, .v .bool p1.2.2.2.2.2.1.1, .v (.int .u32) p1.2.2.2.2.2.1.2.1, .v .bool p1.2.2.2.2.2.1.2.2.1.1.1, .v (.sl (.int .i64)) p1.2.2.2.2.2.1.2.2.1.1.2, .v (.sl (.int .i64)) p1.2.2.2.2.2.1.2.2.1.2, .v .bool p1.2.2.2.2.2.1.2.2.2.1.1, .v (.sl (.int .i64)) p1.2.2.2.2.2.1.2.2.2.1.2, .v (.sl (.int .i64)) p1.2.2.2.2.2.1.2.2.2.2, .v .bool p1.2.2.2.2.2.2.1, .v (.int .u32) p1.2.2.2.2.2.2.2.1, .v .bool p1.2.2.2.2.2.2.2.2.1.1.1, .v (.sl (.int .i64)) p1.2.2.2.2.2.2.2.2.1.1.2, .v (.sl (.int .i64)) p1.2.2.2.2.2.2.2.2.1.2, .v .bool p1.2.2.2.2.2.2.2.2.2.1.1, .v (.sl (.int .i64)) p1.2.2.2.2.2.2.2.2.2.1.2, .v (.sl (.int .i64)) p1.2.2.2.2.2.2.2.2.2.2])], 87⟩ : St)) (fun _ => True) ?_ (fun _ _ => ?_)
  · replace h := hv
    clear hv
    refine T.seq ?_
    refine T.region ?_
    refine Run.go (Ev.move rfl rfl) ?_
    refine Run.go (Ev.len X rfl rfl rfl rfl) ?_
    refine Run.go (Ev.int rfl rfl rfl rfl trivial) ?_
    refine Run.nil ?_
    refine T.cond rfl (fun hb4 => ?_) (fun hb4 => ?_)
    · replace h := ifT hb4 h
      refine T.region ?_
      refine Run.go (Ev.move rfl rfl) ?_
      refine Run.go (Ev.move rfl rfl) ?_
      refine Run.go (Ev.len X rfl rfl rfl rfl) ?_
      refine Run.go (Ev.int rfl rfl rfl rfl trivial) ?_
      obtain ⟨x5, e6, h⟩ := bdS h
      refine Run.go (Ev.e_cs X e6 rfl rfl rfl (fun _ h => by cases h) (fun _ => rfl) (fun _ _ => cutAt_of rfl) (fun h => by cases h)) ?_
      refine Run.go (Ev.assign rfl rfl) ?_
      refine Run.nil ?_
      cases h
      exact ⟨(), trivial, Ghost.onlyK [(2, 2)] [3, 5] rfl (by kernel_rfl)⟩
    · replace h := ifF hb4 h
      refine T.skip ?_
      cases h
      exact ⟨(), trivial, Ghost.onlyK [(2, 2)] [3, 5] rfl (by kernel_rfl)⟩
  · refine T.seq ?_
    refine T.region ?_
    refine Run.go (Ev.move rfl rfl) ?_
    obtain ⟨x7, e8, h⟩ := bdS h
    refine Run.go (Ev.e_cat e8 rfl rfl rfl) ?_
    refine Run.go (Ev.assign rfl rfl) ?_
    refine Run.nil ?_
    refine T.seq ?_
    refine T.seq ?_
    refine T.region ?_
    refine Run.go (Ev.fieldBox X rfl rfl rfl rfl rfl) ?_
    refine Run.go (Ev.loadCell X rfl rfl rfl rfl rfl rfl) ?_
    refine Run.go (Ev.int rfl rfl rfl rfl trivial) ?_
    refine Run.nil ?_
    refine T.cond rfl (fun hb9 => ?_) (fun hb9 => ?_)
    · replace h := ifT hb9 h
      refine T.seq ?_
      refine T.drawM [] [0, 1, 0, 4, 12, 28, 63, 127, 0, 256, 768, 1852, 4095, 8191, 0, 16384, 49152, 118588, 262143, 524287] (by kernel_rfl) (by kernel_rfl) ?_
      refine RunD.w (fun _ => Ev.move rfl rfl) ?_
      obtain ⟨x10, e11, h⟩ := bdS h
      refine RunD.w (fun _ => Ev.e_cat e11 rfl rfl rfl) ?_
      refine RunD.a rfl rfl (Ev.fieldBox X rfl rfl rfl rfl rfl) ?_
      refine RunD.a rfl rfl (Ev.fieldBox X rfl rfl rfl rfl rfl) ?_
      refine RunD.a rfl rfl (Ev.loadBox X rfl rfl rfl rfl rfl) ?_
      obtain ⟨x12, e13, h⟩ := bdS h
      refine RunD.a rfl rfl (Ev.callC en23 (k_triviumref09_Print e13) rfl (.cons .v .nil) rfl rfl) ?_
      obtain ⟨x14, e15, h⟩ := bdS h
      refine RunD.w (fun _ => Ev.e_cat e15 rfl rfl rfl) ?_
      obtain ⟨x16, e17, h⟩ := bdS h
      refine RunD.w (fun _ => Ev.e_cat e17 rfl rfl rfl) ?_
      refine RunD.a rfl rfl (Ev.fieldBox X rfl rfl rfl rfl rfl) ?_
      refine RunD.a rfl rfl (Ev.fieldBox X rfl rfl rfl rfl rfl) ?_
      refine RunD.a rfl rfl (Ev.loadBox X rfl rfl rfl rfl rfl) ?_
      obtain ⟨x18, e19, h⟩ := bdS h
      refine RunD.a rfl rfl (Ev.callC en23 (k_triviumref09_Print e19) rfl (.cons .v .nil) rfl rfl) ?_
      obtain ⟨x20, e21, h⟩ := bdS h
      refine RunD.w (fun _ => Ev.e_cat e21 rfl rfl rfl) ?_
      obtain ⟨x22, e23, h⟩ := bdS h
      refine RunD.w (fun _ => Ev.e_cat e23 rfl rfl rfl) ?_
      refine RunD.a rfl rfl (Ev.fieldBox X rfl rfl rfl rfl rfl) ?_
      refine RunD.a rfl rfl (Ev.fieldBox X rfl rfl rfl rfl rfl) ?_
      refine RunD.a rfl rfl (Ev.loadBox X rfl rfl rfl rfl rfl) ?_
      obtain ⟨x24, e25, h⟩ := bdS h
      refine RunD.a rfl rfl (Ev.callC en23 (k_triviumref09_Print e25) rfl (.cons .v .nil) rfl rfl) ?_
      obtain ⟨x26, e27, h⟩ := bdS h
      refine RunD.w (fun _ => Ev.e_cat e27 rfl rfl rfl) ?_
      refine RunD.w (fun _ => Ev.assign rfl rfl) ?_
      refine RunD.nil ?_
      refine T.ret ?_
      cases h
      exact Fin.one rfl .v
    · replace h := ifF hb9 h
      refine T.skip ?_
      refine T.seq ?_
      obtain ⟨v28, hv, h⟩ := bdS h
      refine T.cut (fun _ : Unit => (⟨[(3, .box 2 0), (5, .v .str x7), (48, .v .bool v28)], [(2, .box [.v (.int .i64) p1.1, .v .bool p1.2.1.1.1.1, .v (.sl (.int .i64)) p1.2.1.1.1.2, .v (.sl (.int .i64)) p1.2.1.1.2, .v .bool p1.2.1.2.1.1.1, .v (.sl (.int .i64)) p1.2.1.2.1.1.2, .v (.sl (.int .i64)) p1.2.1.2.1.2, .v .bool p1.2.1.2.2.1.1, .v (.sl (.int .i64)) p1.2.1.2.2.1.2, .v (.sl (.int .i64)) p1.2.1.2.2.2, .v .bool p1.2.2.1.1, .v .bool p1.2.2.1.2.1.1, .v (.sl (.int .i64)) p1.2.2.1.2.1.2, .v (.sl (.int .i64)) p1.2.2.1.2.2, .v .bool p1.2.2.2.1.1.1, .v (.sl (.int .i64)) p1.2.2.2.1.1.2, .v (.sl (.int .i64)) p1.2.2.2.1.2, .v (.int .i64) p1.2.2.2.2.1, .v .bool p1.2.2.2.2.2.1.1, .v (.int .u32) p1.2.2.2.2.2.1.2.1, .v .bool p1.2.2.2.2.2.1.2.2.1.1.1, .v (.sl (.int .i64)) p1.2.2.2.2.2.1.2.2.1.1.2, .v (.sl (.int .i64)) p1.2.2.2.2.2.1.2.2.1.2, .v .bool p1.2.2.2.2.2.1.2.2.2.1.1, .v (.sl (.int .i64)) p1.2.2.2.2.2.1.2.2.2.1.2, .v (.sl (.int .i64)) p1.2.2.2.2.2.1.2.2.2.2, .v .bool p1.2.2.2.2.2.2.1, .v (.int .u32) p1.2.2.2.2.2.2.2.1, .v .bool p1.2.2.2.2.2.2.2.2.1.1.1, .v (.sl (.int .i64)) p1.2.2.2.2.2.2.2.2.1.1.2, .v (.sl (.int .i64)) p1.2.2.2.2.2.2.2.2.1.2, .v .bool p1.2.2.2.2.2.2.2.2.2.1.1, .v (.sl (.int .i64)) p1.2.2.2.2.2.2.2.2.2.1.2, .v (.sl (.int .i64)) p1.2.2.2.2.2.2.2.2.2.2])], 87⟩ : St)) (fun _ => True) ?_ (fun _ _ => ?_)
      · replace h := hv
        clear hv
        refine T.region ?_
        refine Run.go (Ev.fieldBox X rfl rfl rfl rfl rfl) ?_
        refine Run.go (Ev.loadCell X rfl rfl rfl rfl rfl rfl) ?_
        refine Run.go (Ev.int rfl rfl rfl rfl trivial) ?_
        refine Run.go (Ev.move rfl rfl) ?_
        rcases boolCases (decide (p1.1 = 2)) with hb29 | hb29
        · replace h := ifT hb29 h
          refine Run.on rfl rfl rfl hb29 (Ev.fieldBox X rfl rfl rfl rfl rfl) ?_
          refine Run.on rfl rfl rfl hb29 (Ev.fieldBox X rfl rfl rfl rfl rfl) ?_
          refine Run.on rfl rfl rfl hb29 (Ev.loadCell X rfl rfl rfl rfl rfl rfl) ?_
          refine Run.on rfl rfl rfl hb29 (Ev.not rfl rfl) ?_
          refine Run.go (Ev.pickT rfl hb29 rfl rfl) ?_
          refine Run.nil ?_
          cases h
          exact ⟨(), trivial, Ghost.onlyK [(2, 2)] [3, 5, 48] rfl (by kernel_rfl)⟩
        · replace h := ifF hb29 h
          refine Run.offT rfl rfl rfl rfl hb29 ?_
          refine Run.offT rfl rfl rfl rfl hb29 ?_
          refine Run.offT rfl rfl rfl rfl hb29 ?_
          refine Run.offT rfl rfl rfl rfl hb29 ?_
          refine Run.go (Ev.pickF rfl hb29 rfl rfl) ?_
          refine Run.nil ?_
          cases h
          exact ⟨(), trivial, Ghost.onlyK [(2, 2)] [3, 5, 48] rfl (by kernel_rfl)⟩
      · refine T.cond rfl (fun hb30 => ?_) (fun hb30 => ?_)
        · replace h := ifT hb30 h
          refine T.seq ?_
          refine T.region ?_
          refine Run.go (Ev.move rfl rfl) ?_
          obtain ⟨x31, e32, h⟩ := bdS h
          refine Run.go (Ev.e_cat e32 rfl rfl rfl) ?_
          refine Run.go (Ev.assign rfl rfl) ?_
          refine Run.nil ?_
          refine T.ret ?_
          cases h
          exact Fin.one rfl .v
        · replace h := ifF hb30 h
          refine T.skip ?_
          refine T.seq ?_
          refine T.seq ?_
          refine T.region ?_
          refine Run.go (Ev.fieldBox X rfl rfl rfl rfl rfl) ?_
          refine Run.go (Ev.loadCell X rfl rfl rfl rfl rfl rfl) ?_
          refine Run.go (Ev.int rfl rfl rfl rfl trivial) ?_
          refine Run.nil ?_
          refine T.cond rfl (fun hb33 => ?_) (fun hb33 => ?_)
          · replace h := ifT hb33 h
            refine T.seq ?_
            refine T.region ?_
            refine Run.go (Ev.move rfl rfl) ?_
            refine Run.go (Ev.fieldBox X rfl rfl rfl rfl rfl) ?_
            refine Run.go (Ev.fieldBox X rfl rfl rfl rfl rfl) ?_
            refine Run.go (Ev.loadBox X rfl rfl rfl rfl rfl) ?_
            obtain ⟨x34, e35, h⟩ := bdS h
            refine Run.go (Ev.callC en23 (k_triviumref09_Print e35) rfl (.cons .v .nil) rfl rfl) ?_
            obtain ⟨x36, e37, h⟩ := bdS h
            refine Run.go (Ev.e_cat e37 rfl rfl rfl) ?_
            refine Run.go (Ev.assign rfl rfl) ?_
            refine Run.nil ?_
            refine T.ret ?_
            cases h
            exact Fin.one rfl .v
          · replace h := ifF hb33 h
            refine T.skip ?_
            refine T.seq ?_
            refine T.seq ?_
            refine T.region ?_
            refine Run.go (Ev.fieldBox X rfl rfl rfl rfl rfl) ?_
            refine Run.go (Ev.loadCell X rfl rfl rfl rfl rfl rfl) ?_
            refine Run.go (Ev.int rfl rfl rfl rfl trivial) ?_
            refine Run.nil ?_
            refine T.cond rfl (fun hb38 => ?_) (fun hb38 => ?_)
            · replace h := ifT hb38 h
              refine T.seq ?_
              refine T.region ?_
              refine Run.go (Ev.move rfl rfl) ?_
              refine Run.go (Ev.fieldBox X rfl rfl rfl rfl rfl) ?_
              refine Run.go (Ev.loadBox X rfl rfl rfl rfl rfl) ?_
              obtain ⟨x39, e40, h⟩ := bdS h
              refine Run.go (Ev.callC en23 (k_triviumref09_Print e40) rfl (.cons .v .nil) rfl rfl) ?_
              obtain ⟨x41, e42, h⟩ := bdS h
              refine Run.go (Ev.e_cat e42 rfl rfl rfl) ?_
              refine Run.go (Ev.assign rfl rfl) ?_
              refine Run.nil ?_
              refine T.ret ?_
              cases h
              exact Fin.one rfl .v
            · replace h := ifF hb38 h
              refine T.skip ?_
              refine T.seq ?_
              refine T.seq ?_
              refine T.region ?_
              refine Run.go (Ev.fieldBox X rfl rfl rfl rfl rfl) ?_
              refine Run.go (Ev.loadCell X rfl rfl rfl rfl rfl rfl) ?_
              refine Run.go (Ev.int rfl rfl rfl rfl trivial) ?_
              refine Run.nil ?_
              refine T.cond rfl (fun hb43 => ?_) (fun hb43 => ?_)
              · replace h := ifT hb43 h
                refine T.seq ?_
                refine T.drawM [] [0, 0, 2, 6, 14, 31, 0, 64, 192, 478, 1023, 0, 2048, 6144, 15326, 32767, 65535] (by kernel_rfl) (by kernel_rfl) ?_
                refine RunD.w (fun _ => Ev.move rfl rfl) ?_
                refine RunD.a rfl rfl (Ev.fieldBox X rfl rfl rfl rfl rfl) ?_
                refine RunD.a rfl rfl (Ev.fieldBox X rfl rfl rfl rfl rfl) ?_
                refine RunD.a rfl rfl (Ev.loadCell X rfl rfl rfl rfl rfl rfl) ?_
                obtain ⟨x44, e45, h⟩ := bdS h
                refine RunD.a rfl rfl (Ev.callC en10 (k_triviumref38_Verdict e45) rfl (.cons .v .nil) rfl rfl) ?_
                obtain ⟨x46, e47, h⟩ := bdS h
                refine RunD.w (fun _ => Ev.e_cat e47 rfl rfl rfl) ?_
                refine RunD.a rfl rfl (Ev.fieldBox X rfl rfl rfl rfl rfl) ?_
                refine RunD.a rfl rfl (Ev.fieldBox X rfl rfl rfl rfl rfl) ?_
                refine RunD.a rfl rfl (Ev.loadBox X rfl rfl rfl rfl rfl) ?_
                obtain ⟨x48, e49, h⟩ := bdS h
                refine RunD.a rfl rfl (Ev.callC en24 (k_triviumref38_at e49) rfl (.cons .v .nil) rfl rfl) ?_
                obtain ⟨x50, e51, h⟩ := bdS h
                refine RunD.w (fun _ => Ev.e_cat e51 rfl rfl rfl) ?_
                refine RunD.a rfl rfl (Ev.fieldBox X rfl rfl rfl rfl rfl) ?_
                refine RunD.a rfl rfl (Ev.fieldBox X rfl rfl rfl rfl rfl) ?_
                refine RunD.a rfl rfl (Ev.loadBox X rfl rfl rfl rfl rfl) ?_
                obtain ⟨x52, e53, h⟩ := bdS h
                refine RunD.a rfl rfl (Ev.callC en24 (k_triviumref38_at e53) rfl (.cons .v .nil) rfl rfl) ?_
                obtain ⟨x54, e55, h⟩ := bdS h
                refine RunD.w (fun _ => Ev.e_cat e55 rfl rfl rfl) ?_
                refine RunD.w (fun _ => Ev.assign rfl rfl) ?_
                refine RunD.nil ?_
                refine T.ret ?_
                cases h
                exact Fin.one rfl .v
              · replace h := ifF hb43 h
                refine T.skip ?_
                refine T.seq ?_
                refine T.region ?_
                refine Run.go (Ev.assign rfl rfl) ?_
                refine Run.nil ?_
                refine T.ret ?_
                cases h
                exact Fin.one rfl .v
theorem en98 : Enters Tryz.prog 98 := ⟨_, Tryz.func98, rfl, rfl⟩
theorem k_digits_based {p0 : Int} {y : Int} (h : m_digits_based p0 = some y) : Spec Tryz.prog 98 [(.v (.int .i64) p0)] (.v (.int .i64) y) [] := by
  rw [m_digits_based] at h
  refine enterN [(.v (.int .i64) p0)] 9 Tryz.func98 rfl rfl rfl ?_
  refine T.seq ?_
  refine T.region ?_
  refine Run.go (Ev.assign rfl rfl) ?_
  refine Run.nil ?_
  refine T.seq ?_
  obtain ⟨v1, hv, h⟩ := bdS h
  refine T.cut (fun _ : Unit => (⟨[(8, .v .bool v1)], [], 9⟩ : St)) (fun _ => True) ?_ (fun _ _ => ?_)
  · replace h := hv
    clear hv
    refine T.region ?_
    refine Run.go (Ev.move rfl rfl) ?_
    refine Run.go (Ev.int rfl rfl rfl rfl trivial) ?_
    refine Run.go (Ev.move rfl rfl) ?_
    rcases boolCases (decide (p0 < 2)) with hb2 | hb2
    · replace h := ifT hb2 h
      refine Run.offT rfl rfl rfl rfl hb2 ?_
      refine Run.offT rfl rfl rfl rfl hb2 ?_
      refine Run.go (Ev.pickT rfl hb2 rfl rfl) ?_
      refine Run.nil ?_
      cases h
      exact ⟨(), trivial, Ghost.only [] [8] rfl⟩
    · replace h := ifF hb2 h
      refine Run.on rfl rfl rfl hb2 (Ev.move rfl rfl) ?_
      refine Run.on rfl rfl rfl hb2 (Ev.int rfl rfl rfl rfl trivial) ?_
      refine Run.go (Ev.pickF rfl hb2 rfl rfl) ?_
      refine Run.nil ?_
      cases h
      exact ⟨(), trivial, Ghost.only [] [8] rfl⟩
  · refine T.cond rfl (fun hb3 => ?_) (fun hb3 => ?_)
    · replace h := ifT hb3 h
      refine T.seq ?_
      refine T.region ?_
      refine Run.go (Ev.assign rfl rfl) ?_
      refine Run.nil ?_
      refine T.ret ?_
      cases h
      exact Fin.one rfl .v
    · replace h := ifF hb3 h
      refine T.skip ?_
      refine T.seq ?_
      refine T.region ?_
      refine Run.go (Ev.assign rfl rfl) ?_
      refine Run.nil ?_
      refine T.ret ?_
      cases h
      exact Fin.one rfl .v
theorem en99 : Enters Tryz.prog 99 := ⟨_, Tryz.func99, rfl, rfl⟩
theorem k_digits_chunk {p0 : Int} {y : Int × Int} (h : m_digits_chunk p0 = some y) : Spec Tryz.prog 99 [(.v (.int .i64) p0)] (.tup [.v (.int .u64) y.1, .v (.int .i64) y.2]) [] := by
  rw [m_digits_chunk] at h
  refine enterN [(.v (.int .i64) p0)] 21 Tryz.func99 rfl rfl rfl ?_
  refine T.seq ?_
  refine T.region ?_
  refine Run.go (Ev.assign rfl rfl) ?_
  refine Run.go (Ev.assign rfl rfl) ?_
  refine Run.nil ?_
  refine T.seq ?_
  refine T.region ?_
  refine Run.go (Ev.move rfl rfl) ?_
  refine Run.go (Ev.conv X rfl rfl rfl rfl) ?_
  refine Run.go (Ev.assign rfl rfl) ?_
  refine Run.go (Ev.assign rfl rfl) ?_
  refine Run.nil ?_
  obtain ⟨⟨v1, v2⟩, hv, h⟩ := bdS h
  refine T.cut (fun _ : Unit => (⟨[(4, .v (.int .u64) v1), (5, .v (.int .i64) v2)], [], 21⟩ : St)) (fun _ => True) ?_ (fun _ _ => ?_)
  · replace h := hv
    clear hv
    refine T.block ?_
    refine T.loop (LoopT.ghost (Ghost.only [] [0, 4, 5] rfl) (LoopT.run (fun q : Int × Int => (⟨[(0, .v (.int .i64) p0), (4, .v (.int .u64) q.1), (5, .v (.int .i64) q.2)], [], 21⟩ : St)) (fun q z1 h hz1 => ?_) h))
    obtain ⟨v3, v4⟩ := q
    dsimp only
    rw [m_digits_chunk_l1] at h
    refine T.seq ?_
    refine T.seq ?_
    refine T.region ?_
    refine Run.go (Ev.move rfl rfl) ?_
    refine Run.go (Ev.move rfl rfl) ?_
    refine Run.go (Ev.conv X rfl rfl rfl rfl) ?_
    refine Run.go (Ev.int rfl rfl rfl rfl trivial) ?_
    refine Run.go (Ev.int rfl rfl rfl rfl trivial) ?_
    refine Run.nil ?_
    refine T.cond rfl (fun hb5 => ?_) (fun hb5 => ?_)
    · replace h := ifT hb5 h
      refine T.skip ?_
      refine T.block ?_
      refine T.seq ?_
      refine T.region ?_
      refine Run.go (Ev.move rfl rfl) ?_
      refine Run.go (Ev.move rfl rfl) ?_
      refine Run.go (Ev.conv X rfl rfl rfl rfl) ?_
      refine Run.go (Ev.int rfl rfl rfl rfl trivial) ?_
      refine Run.go (Ev.assign rfl rfl) ?_
      refine Run.nil ?_
      refine T.region ?_
      refine Run.go (Ev.move rfl rfl) ?_
      refine Run.go (Ev.int rfl rfl rfl rfl trivial) ?_
      refine Run.go (Ev.assign rfl rfl) ?_
      refine Run.nil ?_
      cases h
      exact LoopT.ghost (Ghost.only [] [0, 4, 5] rfl) hz1
    · replace h := ifF hb5 h
      refine T.exit ?_
      cases h
      cases hz1
      exact ⟨(), trivial, Ghost.only [] [4, 5] rfl⟩
  · refine T.seq ?_
    refine T.region ?_
    refine Run.go (Ev.move rfl rfl) ?_
    refine Run.go (Ev.move rfl rfl) ?_
    refine Run.go (Ev.assign rfl rfl) ?_
    refine Run.go (Ev.assign rfl rfl) ?_
    refine Run.nil ?_
    refine T.ret ?_
    cases h
    exact Fin.many X rfl (.cons (.tmp .v) (.cons (.tmp .v) .nil)) rfl
theorem en86 : Enters Tryz.prog 86 := ⟨_, Tryz.func86, rfl, rfl⟩
theorem k_nat_trim {p0 : (List Int)} {y : (List Int)} (h : m_nat_trim p0 = some y) : Spec Tryz.prog 86 [(.v (.sl (.int .u64)) p0)] (.v (.sl (.int .u64)) y) [] := by
  rw [m_nat_trim] at h
  refine enterN [(.v (.sl (.int .u64)) p0)] 21 Tryz.func86 rfl rfl rfl ?_
  refine T.seq ?_
  refine T.region ?_
  refine Run.go (Ev.assign rfl rfl) ?_
  refine Run.nil ?_
  refine T.seq ?_
  refine T.region ?_
  refine Run.go (Ev.move rfl rfl) ?_
  refine Run.go (Ev.len X rfl rfl rfl rfl) ?_
  refine Run.go (Ev.assign rfl rfl) ?_
  refine Run.nil ?_
  obtain ⟨v1, hv, h⟩ := bdS h
  refine T.cut (fun _ : Unit => (⟨[(0, .v (.sl (.int .u64)) p0), (3, .v (.int .i64) v1)], [], 21⟩ : St)) (fun _ => True) ?_ (fun _ _ => ?_)
  · replace h := hv
    clear hv
    refine T.block ?_
    refine T.loop (LoopT.ghost (Ghost.only [] [0, 3] rfl) (LoopT.run (fun q : Int => (⟨[(0, .v (.sl (.int .u64)) p0), (3, .v (.int .i64) q)], [], 21⟩ : St)) (fun v2 z1 h hz1 => ?_) h))
    rw [m_nat_trim_l1] at h
    refine T.seq ?_
    obtain ⟨v3, hv, h⟩ := bdS h
    refine T.cut (fun _ : Unit => (⟨[(0, .v (.sl (.int .u64)) p0), (3, .v (.int .i64) v2), (15, .v .bool v3)], [], 21⟩ : St)) (fun _ => True) ?_ (fun _ _ => ?_)
    · replace h := hv
      clear hv
      refine T.region ?_
      refine Run.go (Ev.move rfl rfl) ?_
      refine Run.go (Ev.int rfl rfl rfl rfl trivial) ?_
      refine Run.go (Ev.move rfl rfl) ?_
      rcases boolCases (decide (0 < v2)) with hb4 | hb4
      · replace h := ifT hb4 h
        refine Run.on rfl rfl rfl hb4 (Ev.move rfl rfl) ?_
        refine Run.on rfl rfl rfl hb4 (Ev.move rfl rfl) ?_
        refine Run.on rfl rfl rfl hb4 (Ev.int rfl rfl rfl rfl trivial) ?_
        obtain ⟨x5, e6, h⟩ := bdS h
        refine Run.on rfl rfl rfl hb4 (Ev.e_rd X e6 rfl rfl rfl rfl) ?_
        refine Run.on rfl rfl rfl hb4 (Ev.load X rfl rfl rfl) ?_
        refine Run.on rfl rfl rfl hb4 (Ev.int rfl rfl rfl rfl trivial) ?_
        refine Run.go (Ev.pickT rfl hb4 rfl rfl) ?_
        refine Run.nil ?_
        cases h
        exact ⟨(), trivial, Ghost.only [] [0, 3, 15] rfl⟩
      · replace h := ifF hb4 h
        refine Run.offT rfl rfl rfl rfl hb4 ?_
        refine Run.offT rfl rfl rfl rfl hb4 ?_
        refine Run.offT rfl rfl rfl rfl hb4 ?_
        refine Run.offT rfl rfl rfl rfl hb4 ?_
        refine Run.offT rfl rfl rfl rfl hb4 ?_
        refine Run.offT rfl rfl rfl rfl hb4 ?_
        refine Run.go (Ev.pickF rfl hb4 rfl rfl) ?_
        refine Run.nil ?_
        cases h
        exact ⟨(), trivial, Ghost.only [] [0, 3, 15] rfl⟩
    · refine T.cond rfl (fun hb7 => ?_) (fun hb7 => ?_)
      · replace h := ifT hb7 h
        refine T.skip ?_
        refine T.block ?_
        refine T.region ?_
        refine Run.go (Ev.move rfl rfl) ?_
        refine Run.go (Ev.int rfl rfl rfl rfl trivial) ?_
        refine Run.go (Ev.assign rfl rfl) ?_
        refine Run.nil ?_
        cases h
        exact LoopT.ghost (Ghost.only [] [0, 3] rfl) hz1
      · replace h := ifF hb7 h
        refine T.exit ?_
        cases h
        cases hz1
        exact ⟨(), trivial, Ghost.only [] [0, 3] rfl⟩
  · refine T.seq ?_
    refine T.region ?_
    refine Run.go (Ev.move rfl rfl) ?_
    refine Run.go (Ev.move rfl rfl) ?_
    obtain ⟨x8, e9, h⟩ := bdS h
    refine Run.go (Ev.e_ct X e9 rfl rfl rfl (fun _ h => by cases h) (fun _ => rfl) (fun _ _ => cutAt_of rfl) (fun h => by cases h)) ?_
    refine Run.go (Ev.assign rfl rfl) ?_
    refine Run.nil ?_
    refine T.ret ?_
    cases h
    exact Fin.one rfl .v
theorem en93 : Enters Tryz.prog 93 := ⟨_, Tryz.func93, rfl, rfl⟩
theorem k_nat_Make {p0 : (List Int)} {y : (List Int) × Int} (h : m_nat_Make p0 = some y) : Spec Tryz.prog 93 [(.v (.sl (.int .u64)) p0)] (.tup [.v (.sl (.int .u64)) y.1, .v (.int .i64) y.2]) [] := by
  rw [m_nat_Make] at h
  refine enterN [(.v (.sl (.int .u64)) p0)] 25 Tryz.func93 rfl rfl rfl ?_
  refine T.seq ?_
  refine T.region ?_
  refine Run.go (Ev.assign rfl rfl) ?_
  refine Run.go (Ev.assign rfl rfl) ?_
  refine Run.nil ?_
  refine T.seq ?_
  refine T.region ?_
  refine Run.go (Ev.move rfl rfl) ?_
  refine Run.go (Ev.len X rfl rfl rfl rfl) ?_
  obtain ⟨x1, e2, h⟩ := bdS h
  refine Run.go (Ev.e_mk X 1 e2 rfl rfl rfl rfl rfl rfl) ?_
  refine Run.go (Ev.assign rfl rfl) ?_
  refine Run.nil ?_
  refine T.seq ?_
  refine T.seq ?_
  refine T.region ?_
  refine Run.go (Ev.move rfl rfl) ?_
  refine Run.go (Ev.len X rfl rfl rfl rfl) ?_
  refine Run.go (Ev.move rfl rfl) ?_
  refine Run.nil ?_
  refine T.block ?_
  refine T.loop (LoopT.ghost (Ghost.only [(1, 5)] [4, 10, 11, 12] rfl) (LoopT.run (fun q : Int × (List Int) => (⟨[(4, .own 5), (10, .v (.sl (.int .u64)) p0), (11, .v (.int .i64) ((p0.length : Int) : Int)), (12, .v (.int .i64) q.1)], [(5, .arr 104 (.int .u64) q.2)], 25⟩ : St)) (fun q z1 h hz1 => ?_) h))
  obtain ⟨v3, v4⟩ := q
  dsimp only
  rw [m_nat_Make_l1] at h
  refine T.seq ?_
  refine T.region ?_
  refine Run.go (Ev.int rfl rfl rfl rfl trivial) ?_
  refine Run.nil ?_
  refine T.seq ?_
  refine T.cond rfl (fun hb5 => ?_) (fun hb5 => ?_)
  · replace h := ifT hb5 h
    refine T.skip ?_
    refine T.seq ?_
    refine T.block ?_
    refine T.seq ?_
    refine T.region ?_
    obtain ⟨x6, e7, h⟩ := bdS h
    refine Run.go (Ev.e_rd X e7 rfl rfl rfl rfl) ?_
    refine Run.go (Ev.load X rfl rfl rfl) ?_
    refine Run.go (Ev.assign rfl rfl) ?_
    refine Run.nil ?_
    refine T.seq ?_
    refine T.seq ?_
    refine T.region ?_
    refine Run.go (Ev.move rfl rfl) ?_
    refine Run.go (Ev.int rfl rfl rfl rfl trivial) ?_
    refine Run.nil ?_
    refine T.cond rfl (fun hb8 => ?_) (fun hb8 => ?_)
    · replace h := ifT hb8 h
      refine T.seq ?_
      refine T.region ?_
      refine Run.go (Ev.assign rfl rfl) ?_
      refine Run.go (Ev.assign rfl rfl) ?_
      refine Run.nil ?_
      refine T.ret ?_
      cases h
      cases hz1
      exact Fin.many X rfl (.cons (.tmp .nilv) (.cons (.tmp .v) .nil)) rfl
    · replace h := ifF hb8 h
      refine T.skip ?_
      refine T.region ?_
      refine Run.go (Ev.move rfl rfl) ?_
      refine Run.go (Ev.move rfl rfl) ?_
      refine Run.go (Ev.build X 9 rfl rfl rfl rfl rfl rfl rfl rfl) ?_
      obtain ⟨x9, e10, h⟩ := bdS h
      refine Run.go (Ev.e_ap X 10 e10 rfl rfl rfl (.own rfl) rfl rfl rfl rfl rfl) ?_
      refine Run.go (Ev.assign rfl rfl) ?_
      refine Run.nil ?_
      refine T.region ?_
      refine Run.go (Ev.int rfl rfl rfl rfl trivial) ?_
      refine Run.go (Ev.move rfl rfl) ?_
      refine Run.nil ?_
      cases h
      exact LoopT.ghost (Ghost.only [(10, 5)] [4, 10, 11, 12] rfl) hz1
  · replace h := ifF hb5 h
    refine T.exit ?_
    refine T.seq ?_
    refine T.region ?_
    refine Run.go (Ev.move rfl rfl) ?_
    refine Run.ghost (Ghost.firmAll (id := 5) rfl) ?_
    obtain ⟨x11, e12, h⟩ := bdS h
    refine Run.go (Ev.callC en86 (k_nat_trim e12) rfl (.cons .v .nil) rfl rfl) ?_
    refine Run.go (Ev.assign rfl rfl) ?_
    refine Run.go (Ev.assign rfl rfl) ?_
    refine Run.nil ?_
    refine T.ret ?_
    cases h
    cases hz1
    exact Fin.many X rfl (.cons (.tmp .v) (.cons (.tmp .v) .nil)) rfl
theorem en109 : Enters Tryz.prog 109 := ⟨_, Tryz.func109, rfl, rfl⟩
theorem k_limb_Div {p0 : Int} {p1 : Int} {p2 : Int} {y : Int × Int × Int} (h : m_limb_Div p0 p1 p2 = some y) : Spec Tryz.prog 109 [(.v (.int .u64) p0), (.v (.int .u64) p1), (.v (.int .u64) p2)] (.tup [.v (.int .u64) y.1, .v (.int .u64) y.2.1, .v (.int .i64) y.2.2]) [] := by
  rw [m_limb_Div] at h
  refine enterN [(.v (.int .u64) p0), (.v (.int .u64) p1), (.v (.int .u64) p2)] 33 Tryz.func109 rfl rfl rfl ?_
  refine T.seq ?_
  refine T.region ?_
  refine Run.go (Ev.assign rfl rfl) ?_
  refine Run.go (Ev.assign rfl rfl) ?_
  refine Run.go (Ev.assign rfl rfl) ?_
  refine Run.nil ?_
  refine T.seq ?_
  refine T.region ?_
  refine Run.go (Ev.move rfl rfl) ?_
  refine Run.go (Ev.int rfl rfl rfl rfl trivial) ?_
  refine Run.go (Ev.move rfl rfl) ?_
  refine Run.go (Ev.int rfl rfl rfl rfl trivial) ?_
  refine Run.go (Ev.move rfl rfl) ?_
  refine Run.go (Ev.int rfl rfl rfl rfl trivial) ?_
  refine Run.go (Ev.assign rfl rfl) ?_
  refine Run.go (Ev.assign rfl rfl) ?_
  refine Run.go (Ev.assign rfl rfl) ?_
  refine Run.nil ?_
  refine T.seq ?_
  refine T.block ?_
  refine T.seq ?_
  refine T.region ?_
  refine Run.go (Ev.move rfl rfl) ?_
  refine Run.go (Ev.int rfl rfl rfl rfl trivial) ?_
  obtain ⟨x1, e2, h⟩ := ltS h
  refine Run.go (Ev.avs (Ev.assign rfl rfl) e2) ?_
  refine Run.nil ?_
  refine T.cond rfl (fun hb3 => ?_) (fun hb3 => ?_)
  · replace h := ifT hb3 h
    refine T.seq ?_
    refine T.region ?_
    refine Run.go (Ev.assign rfl rfl) ?_
    refine Run.go (Ev.assign rfl rfl) ?_
    refine Run.go (Ev.assign rfl rfl) ?_
    refine Run.nil ?_
    refine T.ret ?_
    cases h
    exact Fin.many X rfl (.cons (.tmp .v) (.cons (.tmp .v) (.cons (.tmp .v) .nil))) rfl
  · replace h := ifF hb3 h
    refine T.seq ?_
    refine T.region ?_
    refine Run.go (Ev.move rfl rfl) ?_
    refine Run.go (Ev.move rfl rfl) ?_
    refine Run.go (Ev.int rfl rfl rfl rfl trivial) ?_
    obtain ⟨x4, e5, h⟩ := ltS h
    refine Run.go (Ev.avs (Ev.assign rfl rfl) e5) ?_
    refine Run.nil ?_
    refine T.cond rfl (fun hb6 => ?_) (fun hb6 => ?_)
    · replace h := ifT hb6 h
      refine T.seq ?_
      refine T.region ?_
      refine Run.go (Ev.assign rfl rfl) ?_
      refine Run.go (Ev.assign rfl rfl) ?_
      refine Run.go (Ev.assign rfl rfl) ?_
      refine Run.nil ?_
      refine T.ret ?_
      cases h
      exact Fin.many X rfl (.cons (.tmp .v) (.cons (.tmp .v) (.cons (.tmp .v) .nil))) rfl
    · replace h := ifF hb6 h
      refine T.skip ?_
      refine T.seq ?_
      refine T.region ?_
      refine Run.go (Ev.move rfl rfl) ?_
      obtain ⟨x7, e8, h⟩ := bdS h
      refine Run.go (Ev.e_sh e8 rfl rfl rfl) ?_
      refine Run.go (Ev.move rfl rfl) ?_
      refine Run.go (Ev.int rfl rfl rfl rfl trivial) ?_
      obtain ⟨x9, e10, h⟩ := ltS h
      refine Run.go (Ev.avs (Ev.assign rfl rfl) e10) ?_
      refine Run.nil ?_
      refine T.seq ?_
      refine T.drawM [] [0, 0, 3, 0, 0, 24, 7, 127, 255] (by kernel_rfl) (by kernel_rfl) ?_
      refine RunD.w (fun _ => Ev.move rfl rfl) ?_
      refine RunD.w (fun _ => Ev.move rfl rfl) ?_
      obtain ⟨x11, e12, h⟩ := bdS h
      refine RunD.w (fun _ => Ev.e_qd e12 rfl rfl rfl) ?_
      refine RunD.w (fun _ => Ev.move rfl rfl) ?_
      refine RunD.w (fun _ => Ev.move rfl rfl) ?_
      obtain ⟨x13, e14, h⟩ := bdS h
      refine RunD.w (fun _ => Ev.e_rm e14 rfl rfl rfl) ?_
      refine RunD.w (fun _ => Ev.assign rfl rfl) ?_
      refine RunD.w (fun _ => Ev.assign rfl rfl) ?_
      refine RunD.w (fun _ => Ev.assign rfl rfl) ?_
      refine RunD.nil ?_
      refine T.ret ?_
      cases h
      exact Fin.many X rfl (.cons (.tmp .v) (.cons (.tmp .v) (.cons (.tmp .v) .nil))) rfl
theorem en100 : Enters Tryz.prog 100 := ⟨_, Tryz.func100, rfl, rfl⟩
set_option maxHeartbeats 1000000 in
theorem k_divide_Small {p0 : (List Int)} {p1 : Int} {y : (List Int) × Int × Int} (h : m_divide_Small p0 p1 = some y) : Spec Tryz.prog 100 [(.v (.sl (.int .u64)) p0), (.v (.int .u64) p1)] (.tup [.v (.sl (.int .u64)) y.1, .v (.int .u64) y.2.1, .v (.int .i64) y.2.2]) [] := by
  rw [m_divide_Small] at h
  refine enterN [(.v (.sl (.int .u64)) p0), (.v (.int .u64) p1)] 51 Tryz.func100 rfl rfl rfl ?_
  refine T.seq ?_
  refine T.region ?_
  refine Run.go (Ev.assign rfl rfl) ?_
  refine Run.go (Ev.assign rfl rfl) ?_
  refine Run.go (Ev.assign rfl rfl) ?_
  refine Run.nil ?_
  refine T.seq ?_
  refine T.seq ?_
  refine T.region ?_
  refine Run.go (Ev.move rfl rfl) ?_
  obtain ⟨x1, e2, h⟩ := bdS h
  refine Run.go (Ev.e_rm e2 rfl rfl rfl) ?_
  refine Run.go (Ev.int rfl rfl rfl rfl trivial) ?_
  refine Run.nil ?_
  refine T.cond rfl (fun hb3 => ?_) (fun hb3 => ?_)
  · replace h := ifT hb3 h
    refine T.seq ?_
    refine T.region ?_
    refine Run.go (Ev.assign rfl rfl) ?_
    refine Run.go (Ev.assign rfl rfl) ?_
    refine Run.go (Ev.assign rfl rfl) ?_
    refine Run.nil ?_
    refine T.ret ?_
    cases h
    exact Fin.many X rfl (.cons (.tmp .nilv) (.cons (.tmp .v) (.cons (.tmp .v) .nil))) rfl
  · replace h := ifF hb3 h
    refine T.skip ?_
    refine T.seq ?_
    refine T.region ?_
    refine Run.go (Ev.move rfl rfl) ?_
    refine Run.go (Ev.len X rfl rfl rfl rfl) ?_
    obtain ⟨x4, e5, h⟩ := bdS h
    refine Run.go (Ev.e_mk X 1 e5 rfl rfl rfl rfl rfl rfl) ?_
    refine Run.go (Ev.assign rfl rfl) ?_
    refine Run.nil ?_
    refine T.seq ?_
    refine T.region ?_
    refine Run.go (Ev.assign rfl rfl) ?_
    refine Run.nil ?_
    obtain ⟨⟨v6, v7⟩, hv, h⟩ := bdS h
    refine T.cut (fun _ : Unit => (⟨[(7, .own 1), (8, .v (.int .u64) v6)], [(1, .arr 104 (.int .u64) v7)], 51⟩ : St)) (fun _ => True) ?_ (fun _ _ => ?_)
    · replace h := hv
      clear hv
      refine T.seq ?_
      refine T.region ?_
      refine Run.go (Ev.move rfl rfl) ?_
      refine Run.go (Ev.len X rfl rfl rfl rfl) ?_
      refine Run.go (Ev.move rfl rfl) ?_
      refine Run.nil ?_
      refine T.block ?_
      refine T.loop (LoopT.ghost (Ghost.only [(1, 1)] [0, 1, 7, 8, 20, 21] rfl) (LoopT.run (fun q : Int × Int × (List Int) => (⟨[(0, .v (.sl (.int .u64)) p0), (1, .v (.int .u64) p1), (7, .own 1), (8, .v (.int .u64) q.1), (20, .v (.int .i64) ((p0.length : Int) : Int)), (21, .v (.int .i64) q.2.1)], [(1, .arr 104 (.int .u64) q.2.2)], 51⟩ : St)) (fun q z1 h hz1 => ?_) h))
      obtain ⟨v8, v9, v10⟩ := q
      dsimp only
      rw [m_divide_Small_l1] at h
      refine T.seq ?_
      refine T.region ?_
      refine Run.go (Ev.int rfl rfl rfl rfl trivial) ?_
      refine Run.nil ?_
      refine T.seq ?_
      refine T.cond rfl (fun hb11 => ?_) (fun hb11 => ?_)
      · replace h := ifT hb11 h
        refine T.skip ?_
        refine T.seq ?_
        refine T.block ?_
        refine T.seq ?_
        refine T.region ?_
        refine Run.go (Ev.move rfl rfl) ?_
        refine Run.go (Ev.assign rfl rfl) ?_
        refine Run.nil ?_
        refine T.seq ?_
        refine T.region ?_
        refine Run.go (Ev.move rfl rfl) ?_
        refine Run.go (Ev.len X rfl rfl rfl rfl) ?_
        refine Run.go (Ev.int rfl rfl rfl rfl trivial) ?_
        refine Run.go (Ev.move rfl rfl) ?_
        refine Run.go (Ev.int rfl rfl rfl rfl trivial) ?_
        obtain ⟨x12, e13, h⟩ := ltS h
        refine Run.go (Ev.avs (Ev.assign rfl rfl) e13) ?_
        refine Run.nil ?_
        refine T.region ?_
        refine Run.go (Ev.move rfl rfl) ?_
        refine Run.go (Ev.move rfl rfl) ?_
        refine Run.go (Ev.move rfl rfl) ?_
        refine Run.go (Ev.move rfl rfl) ?_
        refine Run.go (Ev.move rfl rfl) ?_
        obtain ⟨x14, e15, h⟩ := bdS h
        refine Run.go (Ev.e_rd X e15 rfl rfl rfl rfl) ?_
        refine Run.go (Ev.load X rfl rfl rfl) ?_
        refine Run.go (Ev.move rfl rfl) ?_
        obtain ⟨x16, e17, h⟩ := bdS h
        refine Run.go (Ev.callC en109 (k_limb_Div e17) rfl (.cons .v (.cons .v (.cons .v .nil))) rfl rfl) ?_
        refine Run.go (Ev.move rfl rfl) ?_
        refine Run.go (Ev.extract rfl rfl rfl) ?_
        refine Run.go (Ev.extract rfl rfl rfl) ?_
        refine Run.go (Ev.extract rfl rfl rfl) ?_
        obtain ⟨j18, e19, h⟩ := bdS h
        refine Run.go (Ev.e_ixO X e19 rfl rfl rfl rfl rfl) ?_
        obtain ⟨x20, e21, h⟩ := ltS h
        refine Run.do_ (Ev.asO (Ev.storeEl X rfl rfl rfl rfl rfl) e21) ?_
        refine Run.go (Ev.assign rfl rfl) ?_
        refine Run.nil ?_
        refine T.region ?_
        refine Run.go (Ev.int rfl rfl rfl rfl trivial) ?_
        refine Run.go (Ev.move rfl rfl) ?_
        refine Run.nil ?_
        cases h
        exact LoopT.ghost (Ghost.only [(1, 1)] [0, 1, 7, 8, 20, 21] rfl) hz1
      · replace h := ifF hb11 h
        refine T.exit ?_
        cases h
        cases hz1
        exact ⟨(), trivial, Ghost.only [(1, 1)] [7, 8] rfl⟩
    · refine T.seq ?_
      refine T.region ?_
      refine Run.go (Ev.move rfl rfl) ?_
      refine Run.ghost (Ghost.firmAll (id := 1) rfl) ?_
      obtain ⟨x22, e23, h⟩ := bdS h
      refine Run.go (Ev.callC en93 (k_nat_Make e23) rfl (.cons .v .nil) rfl rfl) ?_
      refine Run.go (Ev.move rfl rfl) ?_
      refine Run.go (Ev.extract rfl rfl rfl) ?_
      refine Run.go (Ev.extract rfl rfl rfl) ?_
      refine Run.go (Ev.assign rfl rfl) ?_
      refine Run.go (Ev.assign rfl rfl) ?_
      refine Run.nil ?_
      refine T.seq ?_
      refine T.region ?_
      refine Run.go (Ev.move rfl rfl) ?_
      refine Run.go (Ev.move rfl rfl) ?_
      refine Run.go (Ev.assign rfl rfl) ?_
      refine Run.go (Ev.assign rfl rfl) ?_
      refine Run.go (Ev.assign rfl rfl) ?_
      refine Run.nil ?_
      refine T.ret ?_
      cases h
      exact Fin.many X rfl (.cons (.tmp .v) (.cons (.tmp .v) (.cons (.tmp .v) .nil))) rfl
theorem en101 : Enters Tryz.prog 101 := ⟨_, Tryz.func101, rfl, rfl⟩
theorem k_digits_piece {p0 : Int} {p1 : Int} {p2 : Int} {y : ByteArray} (h : m_digits_piece p0 p1 p2 = some y) : Spec Tryz.prog 101 [(.v (.int .u64) p0), (.v (.int .i64) p1), (.v (.int .i64) p2)] (.v .str y) [] := by
  rw [m_digits_piece] at h
  refine enterN [(.v (.int .u64) p0), (.v (.int .i64) p1), (.v (.int .i64) p2)] 33 Tryz.func101 rfl rfl rfl ?_
  refine T.seq ?_
  refine T.region ?_
  refine Run.go (Ev.assign rfl rfl) ?_
  refine Run.nil ?_
  refine T.seq ?_
  refine T.region ?_
  refine Run.go (Ev.move rfl rfl) ?_
  obtain ⟨x1, e2, h⟩ := bdS h
  refine Run.go (Ev.e_mk X 1 e2 rfl rfl rfl rfl rfl rfl) ?_
  refine Run.go (Ev.assign rfl rfl) ?_
  refine Run.nil ?_
  obtain ⟨v3, hv, h⟩ := bdS h
  refine T.cut (fun _ : Unit => (⟨[(7, .own 1)], [(1, .arr 5 (.int .u8) v3)], 33⟩ : St)) (fun _ => True) ?_ (fun _ _ => ?_)
  · replace h := hv
    clear hv
    refine T.seq ?_
    refine T.region ?_
    refine Run.go (Ev.move rfl rfl) ?_
    refine Run.go (Ev.move rfl rfl) ?_
    refine Run.nil ?_
    refine T.block ?_
    refine T.loop (LoopT.ghost (Ghost.only [(1, 1)] [0, 1, 2, 7, 11, 12] rfl) (LoopT.run (fun q : Int × Int × (List Int) => (⟨[(0, .v (.int .u64) q.1), (1, .v (.int .i64) p1), (2, .v (.int .i64) p2), (7, .own 1), (11, .v (.int .i64) p2), (12, .v (.int .i64) q.2.1)], [(1, .arr 5 (.int .u8) q.2.2)], 33⟩ : St)) (fun q z1 h hz1 => ?_) h))
    obtain ⟨v4, v5, v6⟩ := q
    dsimp only
    rw [m_digits_piece_l1] at h
    refine T.seq ?_
    refine T.region ?_
    refine Run.go (Ev.int rfl rfl rfl rfl trivial) ?_
    refine Run.nil ?_
    refine T.seq ?_
    refine T.cond rfl (fun hb7 => ?_) (fun hb7 => ?_)
    · replace h := ifT hb7 h
      refine T.skip ?_
      refine T.seq ?_
      refine T.block ?_
      refine T.seq ?_
      refine T.region ?_
      refine Run.go (Ev.move rfl rfl) ?_
      refine Run.go (Ev.assign rfl rfl) ?_
      refine Run.nil ?_
      refine T.seq ?_
      refine T.region ?_
      refine Run.go (Ev.move rfl rfl) ?_
      refine Run.go (Ev.move rfl rfl) ?_
      refine Run.go (Ev.int rfl rfl rfl rfl trivial) ?_
      refine Run.go (Ev.move rfl rfl) ?_
      refine Run.go (Ev.int rfl rfl rfl rfl trivial) ?_
      refine Run.go (Ev.move rfl rfl) ?_
      refine Run.go (Ev.move rfl rfl) ?_
      refine Run.go (Ev.conv X rfl rfl rfl rfl) ?_
      obtain ⟨x8, e9, h⟩ := bdS h
      refine Run.go (Ev.e_rm e9 rfl rfl rfl) ?_
      obtain ⟨x10, e11, h⟩ := bdS h
      refine Run.go (Ev.e_bt X e11 rfl rfl rfl rfl) ?_
      obtain ⟨j12, e13, h⟩ := bdS h
      refine Run.go (Ev.e_ixO X e13 rfl rfl rfl rfl rfl) ?_
      obtain ⟨x14, e15, h⟩ := ltS h
      refine Run.do_ (Ev.asO (Ev.storeEl X rfl rfl rfl rfl rfl) e15) ?_
      refine Run.nil ?_
      refine T.region ?_
      refine Run.go (Ev.move rfl rfl) ?_
      refine Run.go (Ev.move rfl rfl) ?_
      refine Run.go (Ev.conv X rfl rfl rfl rfl) ?_
      obtain ⟨x16, e17, h⟩ := bdS h
      refine Run.go (Ev.e_qd e17 rfl rfl rfl) ?_
      refine Run.go (Ev.assign rfl rfl) ?_
      refine Run.nil ?_
      refine T.region ?_
      refine Run.go (Ev.int rfl rfl rfl rfl trivial) ?_
      refine Run.go (Ev.move rfl rfl) ?_
      refine Run.nil ?_
      cases h
      exact LoopT.ghost (Ghost.only [(1, 1)] [0, 1, 2, 7, 11, 12] rfl) hz1
    · replace h := ifF hb7 h
      refine T.exit ?_
      cases h
      cases hz1
      exact ⟨(), trivial, Ghost.only [(1, 1)] [7] rfl⟩
  · refine T.seq ?_
    refine T.region ?_
    refine Run.go (Ev.move rfl rfl) ?_
    refine Run.ghost (Ghost.firmAll (id := 1) rfl) ?_
    refine Run.go (Ev.e_b2s (e := 0) X rfl rfl rfl rfl) ?_
    refine Run.go (Ev.assign rfl rfl) ?_
    refine Run.nil ?_
    refine T.ret ?_
    cases h
    exact Fin.one rfl .v
theorem k_strings_Builder_copyCheck_M {o1_0 : Bool} {o2 : (List Int)} {y : Bool} (h : m_strings_Builder_copyCheck_M o1_0 o2 = some y) : SpecM Tryz.prog 56 [(.box 1 0)] [(1, .box [.pn o1_0 1 0 94, .owz 2]), (2, .arr 5 (.int .u8) o2)] (.tup []) [(1, .box [.pn y 1 0 94, .owz 2]), (2, .arr 5 (.int .u8) o2)] := by
  rw [m_strings_Builder_copyCheck_M] at h
  refine SpecM.enter 100000 [(.box 1 0)] 20 Tryz.func56 rfl rfl rfl rfl (fun L => ?_)
  refine T.seq ?_
  refine T.region ?_
  refine Run.go (Ev.move rfl rfl) ?_
  refine Run.go (Ev.e_nc rfl rfl rfl rfl) ?_
  refine Run.go (Ev.fieldBoxN fo94_0 sz91 rfl rfl rfl rfl) ?_
  refine Run.go (Ev.loadOne sz91 rfl rfl rfl rfl) ?_
  refine Run.go (Ev.e_pnil pt91 (.inl ⟨rfl, rfl⟩) rfl (.pn rfl) rfl rfl) ?_
  refine Run.nil ?_
  refine T.cond rfl (fun hb1 => ?_) (fun hb1 => ?_)
  · replace h := ifT hb1 h
    refine T.region ?_
    refine Run.go (Ev.move rfl rfl) ?_
    refine Run.go (Ev.move rfl rfl) ?_
    refine Run.go (Ev.e_toU up91_142 rfl rfl rfl rfl) ?_
    refine Run.go (Ev.e_noesc ne78 rfl rfl rfl) ?_
    refine Run.go (Ev.e_fromU ul142_91_94_2 rfl rfl rfl) ?_
    refine Run.go (Ev.e_nc rfl rfl rfl rfl) ?_
    refine Run.go (Ev.fieldBoxN fo94_0 sz91 rfl rfl rfl rfl) ?_
    refine Run.do_ (Ev.e_stPn sz91 rfl rfl rfl) ?_
    refine Run.nil ?_
    cases h
    exact FinM.of 100000 [(1, 1), (2, 2)] (inlR.many' (X := X) rfl .nil rfl) rfl rfl rfl rfl ⟨(.inl ⟨rfl, _, rfl, .box, fun _ => rfl⟩), (.inl ⟨rfl, _, rfl, .refl, fun _ => rfl⟩), trivial⟩
  · replace h := ifF hb1 h
    refine T.seq ?_
    refine T.region ?_
    refine Run.go (Ev.move rfl rfl) ?_
    refine Run.go (Ev.e_nc rfl rfl rfl rfl) ?_
    refine Run.go (Ev.fieldBoxN fo94_0 sz91 rfl rfl rfl rfl) ?_
    refine Run.go (Ev.loadOne sz91 rfl rfl rfl rfl) ?_
    refine Run.go (Ev.move rfl rfl) ?_
    refine Run.go (Ev.e_pself pt91 (.inr ⟨rfl, rfl⟩) rfl rfl rfl rfl) ?_
    refine Run.nil ?_
    refine T.condF rfl hb1 ?_
    refine T.skip ?_
    cases h
    exact FinM.of 100000 [(1, 1), (2, 2)] (inlR.many' (X := X) rfl .nil rfl) rfl rfl rfl rfl ⟨(.inl ⟨rfl, _, rfl, .box, fun _ => rfl⟩), (.inl ⟨rfl, _, rfl, .refl, fun _ => rfl⟩), trivial⟩
theorem k_strings_Builder_WriteString_M {p1 : ByteArray} {o1_0 : Bool} {o2 : (List Int)} {y : Bool × (List Int)} (h : m_strings_Builder_WriteString_M p1 o1_0 o2 = some y) : SpecM Tryz.prog 27 [(.box 1 0), (.v .str p1)] [(1, .box [.pn o1_0 1 0 94, .owz 2]), (2, .arr 5 (.int .u8) o2)] (.tup [.v (.int .i64) ((p1.size : Int) : Int), .bot]) [(1, .box [.pn y.1 1 0 94, .owz 4]), (2, .dead), (4, .arr 5 (.int .u8) y.2)] := by
  rw [m_strings_Builder_WriteString_M] at h
  refine SpecM.enter 100000 [(.box 1 0), (.v .str p1)] 19 Tryz.func27 rfl rfl rfl rfl (fun L => ?_)
  refine T.seq ?_
  refine T.region ?_
  refine Run.go (Ev.assign rfl rfl) ?_
  refine Run.go (Ev.assign rfl rfl) ?_
  refine Run.nil ?_
  refine T.seq ?_
  refine T.region ?_
  refine Run.go (Ev.move rfl rfl) ?_
  obtain ⟨x2, e1, h⟩ := bdS h
  refine Run.go (Ev.w2 (Ev.lendM [(1, 1), (2, 2)] [(1, 1), (2, 2)] en56 (k_strings_Builder_copyCheck_M e1) rfl (.cons (.ren rfl) .nil) rfl rfl rfl rfl rfl (A := .tup []) rfl (W := [(1, .box [.pn x2 1 0 94, .owz 2]), (2, .arr 5 (.int .u8) o2)]) rfl rfl)) ?_
  refine Run.nil ?_
  refine T.seq ?_
  refine T.region ?_
  refine Run.go (Ev.move rfl rfl) ?_
  refine Run.go (Ev.move rfl rfl) ?_
  refine Run.go (Ev.e_nc rfl rfl rfl rfl) ?_
  refine Run.go (Ev.fieldBoxN fo94_1 sz92 rfl rfl rfl rfl) ?_
  refine Run.go (Ev.loadCell X rfl rfl rfl rfl rfl rfl) ?_
  refine Run.go (Ev.move rfl rfl) ?_
  obtain ⟨x3, e4, h⟩ := bdS h
  refine Run.go (Ev.e_apZ X 6 e4 rfl rfl rfl rfl rfl rfl rfl rfl) ?_
  refine Run.go (Ev.e_nc rfl rfl rfl rfl) ?_
  refine Run.go (Ev.fieldBoxN fo94_1 sz92 rfl rfl rfl rfl) ?_
  refine Run.do_ (Ev.storeC sz92 rfl rfl rfl rfl rfl rfl) ?_
  refine Run.nil ?_
  refine T.seq ?_
  refine T.region ?_
  refine Run.go (Ev.move rfl rfl) ?_
  refine Run.go (Ev.len X rfl rfl rfl rfl) ?_
  refine Run.go (Ev.assign rfl rfl) ?_
  refine Run.go (Ev.assign rfl rfl) ?_
  refine Run.nil ?_
  refine T.ret ?_
  cases h
  exact FinM.of 100000 [(1, 1), (900002, 2), (6, 4)] (inlR.many' (X := X) rfl (.cons (.tmp rfl) (.cons .bot .nil)) rfl) rfl rfl rfl rfl ⟨(.inl ⟨rfl, _, rfl, .box, fun _ => rfl⟩), (.inr rfl), trivial⟩
theorem k_strings_Builder_String_M {o1_0 : Bool} {o2 : (List Int)} {y : ByteArray} (h : m_strings_Builder_String_M o1_0 o2 = some y) : SpecM Tryz.prog 28 [(.box 1 0)] [(1, .box [.pn o1_0 1 0 94, .owz 2]), (2, .arr 5 (.int .u8) o2)] (.v .str y) [(1, .box [.pn o1_0 1 0 94, .bot]), (2, .dead)] := by
  rw [m_strings_Builder_String_M] at h
  refine SpecM.enter 100000 [(.box 1 0)] 14 Tryz.func28 rfl rfl rfl rfl (fun L => ?_)
  refine T.seq ?_
  refine T.region ?_
  refine Run.go (Ev.assign rfl rfl) ?_
  refine Run.nil ?_
  refine T.seq ?_
  refine T.drawE [([1], []), ([1], []), ([1], []), ([1], []), ([2], []), ([1], []), ([1], []), ([1], []), ([1], []), ([2], []), ([2], [2]), ([], [])] [0, 1, 3, 7, 15, 0, 32, 96, 224, 480, 1023, 2047] (by kernel_rfl) (by kernel_rfl) ?_
  refine RunE.go0 [1] (fun ô hô => Ev.move rfl rfl) rfl rfl ?_
  refine RunE.go0 [1] (fun ô hô => Ev.e_nc rfl (one_box (ka hô rfl rfl)) rfl rfl) rfl rfl ?_
  refine RunE.go0 [1] (fun ô hô => Ev.fieldBoxN fo94_1 sz92 rfl (ka hô rfl rfl) rfl rfl) rfl rfl ?_
  refine RunE.go0 [1] (fun ô hô => Ev.loadCell X rfl (ka hô rfl rfl) rfl rfl rfl rfl) rfl rfl ?_
  rcases boolCases (decide (o2.length = 0)) with hb1 | hb1
  · replace h := ifT hb1 h
    refine RunE.go0 [2] (fun ô hô => Ev.e_usd0 X hb1 rfl (ka hô rfl rfl) rfl) rfl rfl ?_
    refine RunE.go0 [1] (fun ô hô => Ev.move rfl rfl) rfl rfl ?_
    refine RunE.go0 [1] (fun ô hô => Ev.e_nc rfl (one_box (ka hô rfl rfl)) rfl rfl) rfl rfl ?_
    refine RunE.go0 [1] (fun ô hô => Ev.fieldBoxN fo94_1 sz92 rfl (ka hô rfl rfl) rfl rfl) rfl rfl ?_
    refine RunE.go0 [1] (fun ô hô => Ev.loadCell X rfl (ka hô rfl rfl) rfl rfl rfl rfl) rfl rfl ?_
    refine RunE.go0 [2] (fun ô hô => Ev.e_lenZ X rfl (ka hô rfl rfl) rfl rfl) rfl rfl ?_
    refine RunE.go1 [2] (fun ô hô => Ev.e_ust0 (id := 2) hb1 rfl rfl rfl) rfl rfl ?_
    refine RunE.go0 [] (fun ô hô => Ev.assign rfl rfl) rfl rfl ?_
    refine RunE.nil ?_
    refine T.ret ?_
    cases h
    exact FinM.of 100000 [(1, 1), (900002, 2)] (inlR.one' (X := X) rfl (.tmp rfl)) rfl rfl rfl rfl ⟨(.inl ⟨rfl, _, rfl, .box, fun _ => rfl⟩), (.inr rfl), trivial⟩
  · replace h := ifF hb1 h
    refine RunE.go0 [2] (fun ô hô => Ev.e_usd X hb1 rfl (ka hô rfl rfl) rfl) rfl rfl ?_
    refine RunE.go0 [1] (fun ô hô => Ev.move rfl rfl) rfl rfl ?_
    refine RunE.go0 [1] (fun ô hô => Ev.e_nc rfl (one_box (ka hô rfl rfl)) rfl rfl) rfl rfl ?_
    refine RunE.go0 [1] (fun ô hô => Ev.fieldBoxN fo94_1 sz92 rfl (ka hô rfl rfl) rfl rfl) rfl rfl ?_
    refine RunE.go0 [1] (fun ô hô => Ev.loadCell X rfl (ka hô rfl rfl) rfl rfl rfl rfl) rfl rfl ?_
    refine RunE.go0 [2] (fun ô hô => Ev.e_lenZ X rfl (ka hô rfl rfl) rfl rfl) rfl rfl ?_
    obtain ⟨x2, e3, h⟩ := bdS h
    refine RunE.go1 [2] (fun ô hô => Ev.e_ust us121_5 e3 rfl (ka hô rfl rfl) rfl rfl rfl) rfl rfl ?_
    refine RunE.go0 [] (fun ô hô => Ev.assign rfl rfl) rfl rfl ?_
    refine RunE.nil ?_
    refine T.ret ?_
    cases h
    exact FinM.of 100000 [(1, 1), (900002, 2)] (inlR.one' (X := X) rfl (.tmp rfl)) rfl rfl rfl rfl ⟨(.inl ⟨rfl, _, rfl, .box, fun _ => rfl⟩), (.inr rfl), trivial⟩
theorem en110 : Enters Tryz.prog 110 := ⟨_, Tryz.func110, rfl, rfl⟩
theorem k_strings_trimLeftByte {p0 : ByteArray} {p1 : Int} {y : ByteArray} (h : m_strings_trimLeftByte p0 p1 = some y) : Spec Tryz.prog 110 [(.v .str p0), (.v (.int .u8) p1)] (.v .str y) [] := by
  rw [m_strings_trimLeftByte] at h
  refine enterN [(.v .str p0), (.v (.int .u8) p1)] 17 Tryz.func110 rfl rfl rfl ?_
  refine T.seq ?_
  refine T.region ?_
  refine Run.go (Ev.assign rfl rfl) ?_
  refine Run.nil ?_
  obtain ⟨v1, hv, h⟩ := bdS h
  refine T.cut (fun _ : Unit => (⟨[(0, .v .str v1)], [], 17⟩ : St)) (fun _ => True) ?_ (fun _ _ => ?_)
  · replace h := hv
    clear hv
    refine T.block ?_
    refine T.loop (LoopT.ghost (Ghost.only [] [0, 1] rfl) (LoopT.run (fun q : ByteArray => (⟨[(0, .v .str q), (1, .v (.int .u8) p1)], [], 17⟩ : St)) (fun v2 z1 h hz1 => ?_) h))
    rw [m_strings_trimLeftByte_l1] at h
    refine T.seq ?_
    obtain ⟨v3, hv, h⟩ := bdS h
    refine T.cut (fun _ : Unit => (⟨[(0, .v .str v2), (1, .v (.int .u8) p1), (13, .v .bool v3)], [], 17⟩ : St)) (fun _ => True) ?_ (fun _ _ => ?_)
    · replace h := hv
      clear hv
      refine T.region ?_
      refine Run.go (Ev.move rfl rfl) ?_
      refine Run.go (Ev.len X rfl rfl rfl rfl) ?_
      refine Run.go (Ev.int rfl rfl rfl rfl trivial) ?_
      refine Run.go (Ev.move rfl rfl) ?_
      rcases boolCases (decide (0 < (v2.size : Int))) with hb4 | hb4
      · replace h := ifT hb4 h
        refine Run.on rfl rfl rfl hb4 (Ev.move rfl rfl) ?_
        obtain ⟨x5, e6, h⟩ := bdS h
        refine Run.on rfl rfl rfl hb4 (Ev.e_bt X e6 rfl rfl rfl rfl) ?_
        refine Run.on rfl rfl rfl hb4 (Ev.move rfl rfl) ?_
        refine Run.on rfl rfl rfl hb4 (Ev.int rfl rfl rfl rfl trivial) ?_
        refine Run.go (Ev.pickT rfl hb4 rfl rfl) ?_
        refine Run.nil ?_
        cases h
        exact ⟨(), trivial, Ghost.only [] [0, 1, 13] rfl⟩
      · replace h := ifF hb4 h
        refine Run.offT rfl rfl rfl rfl hb4 ?_
        refine Run.offT rfl rfl rfl rfl hb4 ?_
        refine Run.offT rfl rfl rfl rfl hb4 ?_
        refine Run.offT rfl rfl rfl rfl hb4 ?_
        refine Run.go (Ev.pickF rfl hb4 rfl rfl) ?_
        refine Run.nil ?_
        cases h
        exact ⟨(), trivial, Ghost.only [] [0, 1, 13] rfl⟩
    · refine T.cond rfl (fun hb7 => ?_) (fun hb7 => ?_)
      · replace h := ifT hb7 h
        refine T.skip ?_
        refine T.block ?_
        refine T.region ?_
        refine Run.go (Ev.move rfl rfl) ?_
        obtain ⟨x8, e9, h⟩ := bdS h
        refine Run.go (Ev.e_cs X e9 rfl rfl rfl (fun _ _ => cutAt_of rfl) (fun h => by cases h) (fun _ h => by cases h) (fun _ => rfl)) ?_
        refine Run.go (Ev.assign rfl rfl) ?_
        refine Run.nil ?_
        cases h
        exact LoopT.ghost (Ghost.only [] [0, 1] rfl) hz1
      · replace h := ifF hb7 h
        refine T.exit ?_
        cases h
        cases hz1
        exact ⟨(), trivial, Ghost.only [] [0] rfl⟩
  · refine T.seq ?_
    refine T.region ?_
    refine Run.go (Ev.move rfl rfl) ?_
    refine Run.go (Ev.assign rfl rfl) ?_
    refine Run.nil ?_
    refine T.ret ?_
    cases h
    exact Fin.one rfl .v
end Go.Proofs.YtkjkipkfndckfaaGreatDoor.AE
/- The code comes to the printed functions (printed by a program of ours). -/
namespace Go.Proofs.YtkjkipkfndckfaaGreatDoor.AE
open Go Go.RowKit Go.Proofs.YtkjkipkfndckfaaGreatDoor.AP
set_option linter.unusedVariables false
set_option maxRecDepth 20000
theorem en102 : Enters Tryz.prog 102 := ⟨_, Tryz.func102, rfl, rfl⟩
theorem k_strings_TrimLeft {p0 : ByteArray} {p1 : ByteArray} {y : ByteArray} (h : m_strings_TrimLeft p0 p1 = some y) : Spec Tryz.prog 102 [(.v .str p0), (.v .str p1)] (.v .str y) [] := by
  rw [m_strings_TrimLeft] at h
  refine enterN [(.v .str p0), (.v .str p1)] 37 Tryz.func102 rfl rfl rfl ?_
  refine T.seq ?_
  refine T.region ?_
  refine Run.go (Ev.assign rfl rfl) ?_
  refine Run.nil ?_
  refine T.seq ?_
  obtain ⟨v1, hv, h⟩ := bdS h
  refine T.cut (fun _ : Unit => (⟨[(0, .v .str p0), (1, .v .str p1), (12, .v .bool v1)], [], 37⟩ : St)) (fun _ => True) ?_ (fun _ _ => ?_)
  · replace h := hv
    clear hv
    refine T.region ?_
    refine Run.go (Ev.move rfl rfl) ?_
    refine Run.go (Ev.strs rfl rfl rfl rfl trivial) ?_
    refine Run.go (Ev.move rfl rfl) ?_
    rcases boolCases (sq p0 (bs [])) with hb2 | hb2
    · replace h := ifT hb2 h
      refine Run.offT rfl rfl rfl rfl hb2 ?_
      refine Run.offT rfl rfl rfl rfl hb2 ?_
      refine Run.go (Ev.pickT rfl hb2 rfl rfl) ?_
      refine Run.nil ?_
      cases h
      exact ⟨(), trivial, Ghost.only [] [0, 1, 12] rfl⟩
    · replace h := ifF hb2 h
      refine Run.on rfl rfl rfl hb2 (Ev.move rfl rfl) ?_
      refine Run.on rfl rfl rfl hb2 (Ev.strs rfl rfl rfl rfl trivial) ?_
      refine Run.go (Ev.pickF rfl hb2 rfl rfl) ?_
      refine Run.nil ?_
      cases h
      exact ⟨(), trivial, Ghost.only [] [0, 1, 12] rfl⟩
  · refine T.cond rfl (fun hb3 => ?_) (fun hb3 => ?_)
    · replace h := ifT hb3 h
      refine T.seq ?_
      refine T.region ?_
      refine Run.go (Ev.move rfl rfl) ?_
      refine Run.go (Ev.assign rfl rfl) ?_
      refine Run.nil ?_
      refine T.ret ?_
      cases h
      exact Fin.one rfl .v
    · replace h := ifF hb3 h
      refine T.skip ?_
      refine T.seq ?_
      obtain ⟨v4, hv, h⟩ := bdS h
      refine T.cut (fun _ : Unit => (⟨[(0, .v .str p0), (1, .v .str p1), (21, .v .bool v4)], [], 37⟩ : St)) (fun _ => True) ?_ (fun _ _ => ?_)
      · replace h := hv
        clear hv
        refine T.region ?_
        refine Run.go (Ev.move rfl rfl) ?_
        refine Run.go (Ev.len X rfl rfl rfl rfl) ?_
        refine Run.go (Ev.int rfl rfl rfl rfl trivial) ?_
        refine Run.go (Ev.move rfl rfl) ?_
        rcases boolCases (decide ((p1.size : Int) = 1)) with hb5 | hb5
        · replace h := ifT hb5 h
          refine Run.on rfl rfl rfl hb5 (Ev.move rfl rfl) ?_
          obtain ⟨x6, e7, h⟩ := bdS h
          refine Run.on rfl rfl rfl hb5 (Ev.e_bt X e7 rfl rfl rfl rfl) ?_
          refine Run.on rfl rfl rfl hb5 (Ev.int rfl rfl rfl rfl trivial) ?_
          refine Run.go (Ev.pickT rfl hb5 rfl rfl) ?_
          refine Run.nil ?_
          cases h
          exact ⟨(), trivial, Ghost.only [] [0, 1, 21] rfl⟩
        · replace h := ifF hb5 h
          refine Run.offT rfl rfl rfl rfl hb5 ?_
          refine Run.offT rfl rfl rfl rfl hb5 ?_
          refine Run.offT rfl rfl rfl rfl hb5 ?_
          refine Run.go (Ev.pickF rfl hb5 rfl rfl) ?_
          refine Run.nil ?_
          cases h
          exact ⟨(), trivial, Ghost.only [] [0, 1, 21] rfl⟩
      · refine T.cond rfl (fun hb8 => ?_) (fun hb8 => ?_)
        · replace h := ifT hb8 h
          refine T.seq ?_
          refine T.region ?_
          refine Run.go (Ev.move rfl rfl) ?_
          refine Run.go (Ev.move rfl rfl) ?_
          obtain ⟨x9, e10, h⟩ := bdS h
          refine Run.go (Ev.e_bt X e10 rfl rfl rfl rfl) ?_
          obtain ⟨x11, e12, h⟩ := bdS h
          refine Run.go (Ev.callC en110 (k_strings_trimLeftByte e12) rfl (.cons .v (.cons .v .nil)) rfl rfl) ?_
          refine Run.go (Ev.assign rfl rfl) ?_
          refine Run.nil ?_
          refine T.ret ?_
          cases h
          exact Fin.one rfl .v
        · replace h := ifF hb8 h
          refine T.skip ?_
          refine T.seq ?_
          refine T.seq ?_
          refine T.region ?_
          refine Run.go (Ev.move rfl rfl) ?_
          cases h
theorem en87 : Enters Tryz.prog 87 := ⟨_, Tryz.func87, rfl, rfl⟩
set_option maxHeartbeats 1000000 in
theorem k_digits_In {p0 : (List Int)} {p1 : Int} {y : ByteArray × Int} (h : m_digits_In p0 p1 = some y) : Spec Tryz.prog 87 [(.v (.sl (.int .u64)) p0), (.v (.int .i64) p1)] (.tup [.v .str y.1, .v (.int .i64) y.2]) [] := by
  rw [m_digits_In] at h
  refine enterN [(.v (.sl (.int .u64)) p0), (.v (.int .i64) p1)] 71 Tryz.func87 rfl rfl rfl ?_
  refine T.seq ?_
  refine T.region ?_
  refine Run.go (Ev.assign rfl rfl) ?_
  refine Run.go (Ev.assign rfl rfl) ?_
  refine Run.nil ?_
  refine T.seq ?_
  refine T.seq ?_
  refine T.region ?_
  refine Run.go (Ev.move rfl rfl) ?_
  obtain ⟨x1, e2, h⟩ := bdS h
  refine Run.go (Ev.callC en98 (k_digits_based e2) rfl (.cons .v .nil) rfl rfl) ?_
  refine Run.go (Ev.assign rfl rfl) ?_
  refine Run.nil ?_
  refine T.seq ?_
  refine T.region ?_
  refine Run.go (Ev.move rfl rfl) ?_
  refine Run.go (Ev.int rfl rfl rfl rfl trivial) ?_
  refine Run.nil ?_
  refine T.cond rfl (fun hb3 => ?_) (fun hb3 => ?_)
  · replace h := ifT hb3 h
    refine T.seq ?_
    refine T.region ?_
    refine Run.go (Ev.move rfl rfl) ?_
    refine Run.go (Ev.assign rfl rfl) ?_
    refine Run.go (Ev.assign rfl rfl) ?_
    refine Run.nil ?_
    refine T.ret ?_
    cases h
    exact Fin.many X rfl (.cons (.tmp .v) (.cons (.tmp .v) .nil)) rfl
  · replace h := ifF hb3 h
    refine T.skip ?_
    refine T.seq ?_
    refine T.region ?_
    refine Run.go (Ev.move rfl rfl) ?_
    obtain ⟨x4, e5, h⟩ := bdS h
    refine Run.go (Ev.callC en99 (k_digits_chunk e5) rfl (.cons .v .nil) rfl rfl) ?_
    refine Run.go (Ev.move rfl rfl) ?_
    refine Run.go (Ev.extract rfl rfl rfl) ?_
    refine Run.go (Ev.extract rfl rfl rfl) ?_
    refine Run.go (Ev.assign rfl rfl) ?_
    refine Run.go (Ev.assign rfl rfl) ?_
    refine Run.nil ?_
    refine T.seq ?_
    refine T.region ?_
    refine Run.go (Ev.assign rfl rfl) ?_
    refine Run.nil ?_
    refine T.seq ?_
    refine T.region ?_
    refine Run.go (Ev.move rfl rfl) ?_
    obtain ⟨x6, e7, h⟩ := bdS h
    refine Run.go (Ev.callC en93 (k_nat_Make e7) rfl (.cons .v .nil) rfl rfl) ?_
    refine Run.go (Ev.move rfl rfl) ?_
    refine Run.go (Ev.extract rfl rfl rfl) ?_
    refine Run.go (Ev.extract rfl rfl rfl) ?_
    refine Run.go (Ev.assign rfl rfl) ?_
    refine Run.go (Ev.assign rfl rfl) ?_
    refine Run.nil ?_
    obtain ⟨v8, hv, h⟩ := bdS h
    refine T.cut (fun _ : Unit => (⟨[(9, .own 2)], [(2, .arr 9 .str v8)], 71⟩ : St)) (fun _ => True) ?_ (fun _ _ => ?_)
    · replace h := hv
      clear hv
      refine T.block ?_
      refine T.loop (LoopT.ghost (Ghost.trans (Ghost.empty 9 19 9 .str rfl rfl) (Ghost.only [(19, 13)] [1, 7, 8, 9, 10] rfl)) (LoopT.run (fun q : (List Int) × (List ByteArray) => (⟨[(1, .v (.int .i64) p1), (7, .v (.int .u64) x4.1), (8, .v (.int .i64) x4.2), (9, .own 13), (10, .v (.sl (.int .u64)) q.1)], [(13, .arr 9 .str q.2)], 71⟩ : St)) (fun q z1 h hz1 => ?_) h))
      obtain ⟨v9, v10⟩ := q
      dsimp only
      rw [m_digits_In_l1] at h
      refine T.seq ?_
      refine T.seq ?_
      refine T.region ?_
      refine Run.go (Ev.move rfl rfl) ?_
      refine Run.go (Ev.len X rfl rfl rfl rfl) ?_
      refine Run.go (Ev.int rfl rfl rfl rfl trivial) ?_
      refine Run.nil ?_
      refine T.cond rfl (fun hb11 => ?_) (fun hb11 => ?_)
      · replace h := ifT hb11 h
        refine T.skip ?_
        refine T.block ?_
        refine T.seq ?_
        refine T.region ?_
        refine Run.go (Ev.move rfl rfl) ?_
        refine Run.go (Ev.move rfl rfl) ?_
        obtain ⟨x12, e13, h⟩ := bdS h
        refine Run.go (Ev.callC en100 (k_divide_Small e13) rfl (.cons .v (.cons .v .nil)) rfl rfl) ?_
        refine Run.go (Ev.move rfl rfl) ?_
        refine Run.go (Ev.extract rfl rfl rfl) ?_
        refine Run.go (Ev.extract rfl rfl rfl) ?_
        refine Run.go (Ev.extract rfl rfl rfl) ?_
        refine Run.go (Ev.assign rfl rfl) ?_
        refine Run.go (Ev.assign rfl rfl) ?_
        refine Run.go (Ev.assign rfl rfl) ?_
        refine Run.nil ?_
        refine T.seq ?_
        refine T.region ?_
        refine Run.go (Ev.move rfl rfl) ?_
        refine Run.go (Ev.move rfl rfl) ?_
        refine Run.go (Ev.move rfl rfl) ?_
        refine Run.go (Ev.move rfl rfl) ?_
        obtain ⟨x14, e15, h⟩ := bdS h
        refine Run.go (Ev.callC en101 (k_digits_piece e15) rfl (.cons .v (.cons .v (.cons .v .nil))) rfl rfl) ?_
        refine Run.go (Ev.build X 20 rfl rfl rfl rfl rfl rfl rfl rfl) ?_
        obtain ⟨x16, e17, h⟩ := bdS h
        refine Run.go (Ev.e_ap X 21 e17 rfl rfl rfl (.own rfl) rfl rfl rfl rfl rfl) ?_
        refine Run.go (Ev.assign rfl rfl) ?_
        refine Run.nil ?_
        refine T.region ?_
        refine Run.go (Ev.move rfl rfl) ?_
        refine Run.go (Ev.assign rfl rfl) ?_
        refine Run.nil ?_
        cases h
        exact LoopT.ghost (Ghost.only [(21, 13)] [1, 7, 8, 9, 10] rfl) hz1
      · replace h := ifF hb11 h
        refine T.exit ?_
        cases h
        cases hz1
        exact ⟨(), trivial, Ghost.only [(13, 2)] [9] rfl⟩
    · refine T.seq ?_
      refine T.region ?_
      refine Run.go (Ev.e_allocB 22 23 5 zs94 rfl rfl rfl) ?_
      refine Run.nil ?_
      obtain ⟨⟨v18, v19⟩, hv, h⟩ := bdS h
      refine T.cut (fun _ : Unit => (⟨[(15, .box 22 0)], [(22, .box [.pn v18 22 0 94, .owz 30]), (30, .arr 5 (.int .u8) v19)], 71⟩ : St)) (fun _ => True) ?_ (fun _ _ => ?_)
      · replace h := hv
        clear hv
        refine T.seq ?_
        refine T.region ?_
        refine Run.go (Ev.move rfl rfl) ?_
        refine Run.go (Ev.e_lenO X rfl rfl rfl rfl) ?_
        refine Run.go (Ev.move rfl rfl) ?_
        refine Run.nil ?_
        refine T.block ?_
        refine T.loop (LoopT.ghost (Ghost.only [(2, 2), (22, 22), (23, 44)] [9, 15, 52, 53] rfl) (LoopT.run (fun q : Int × Bool × (List Int) => (⟨[(9, .own 2), (15, .box 22 0), (52, .v (.int .i64) ((v8.length : Int) : Int)), (53, .v (.int .i64) q.1)], [(2, .arr 9 .str v8), (22, .box [.pn q.2.1 22 0 94, .owz 44]), (44, .arr 5 (.int .u8) q.2.2)], 71⟩ : St)) (fun q z1 h hz1 => ?_) h))
        obtain ⟨v20, v21, v22⟩ := q
        dsimp only
        rw [m_digits_In_l2] at h
        refine T.seq ?_
        refine T.region ?_
        refine Run.go (Ev.int rfl rfl rfl rfl trivial) ?_
        refine Run.nil ?_
        refine T.seq ?_
        refine T.cond rfl (fun hb23 => ?_) (fun hb23 => ?_)
        · replace h := ifT hb23 h
          refine T.skip ?_
          refine T.seq ?_
          refine T.block ?_
          refine T.seq ?_
          refine T.region ?_
          refine Run.go (Ev.move rfl rfl) ?_
          refine Run.go (Ev.assign rfl rfl) ?_
          refine Run.nil ?_
          refine T.region ?_
          refine Run.go (Ev.move rfl rfl) ?_
          refine Run.go (Ev.move rfl rfl) ?_
          refine Run.go (Ev.e_lenO X rfl rfl rfl rfl) ?_
          refine Run.go (Ev.int rfl rfl rfl rfl trivial) ?_
          refine Run.go (Ev.move rfl rfl) ?_
          refine Run.go (Ev.int rfl rfl rfl rfl trivial) ?_
          obtain ⟨x24, e25, h⟩ := bdS h
          refine Run.go (Ev.e_rdO X e25 rfl rfl rfl rfl rfl) ?_
          refine Run.go (Ev.e_ldO X (rdS e25).2 rfl rfl rfl rfl) ?_
          obtain ⟨x27, e26, h⟩ := bdS h
          refine Run.go (Ev.w3 (Ev.lendM [(22, 1), (44, 2)] [(1, 22), (2, 44), (4, 49)] en27 (k_strings_Builder_WriteString_M e26) rfl (.cons (.ren rfl) (.cons (.ren rfl) .nil)) rfl rfl rfl rfl rfl (A := .tup [.v (.int .i64) ((x24.size : Int) : Int), .bot]) rfl (W := [(22, .box [.pn x27.1 22 0 94, .owz 49]), (44, .dead), (49, .arr 5 (.int .u8) x27.2)]) rfl rfl)) ?_
          refine Run.nil ?_
          refine T.region ?_
          refine Run.go (Ev.int rfl rfl rfl rfl trivial) ?_
          refine Run.go (Ev.move rfl rfl) ?_
          refine Run.nil ?_
          cases h
          exact LoopT.ghost (Ghost.only [(2, 2), (22, 22), (49, 44)] [9, 15, 52, 53] rfl) hz1
        · replace h := ifF hb23 h
          refine T.exit ?_
          cases h
          cases hz1
          exact ⟨(), trivial, Ghost.only [(22, 22), (44, 30)] [15] rfl⟩
      · refine T.seq ?_
        refine T.region ?_
        obtain ⟨x29, e28, h⟩ := bdS h
        refine Run.go (Ev.w2 (Ev.lendM [(22, 1), (30, 2)] [(1, 22), (2, 30)] en28 (k_strings_Builder_String_M e28) rfl (.cons (.ren rfl) .nil) rfl rfl rfl rfl rfl (A := .v .str x29) rfl (W := [(22, .box [.pn v18 22 0 94, .bot]), (30, .dead)]) rfl rfl)) ?_
        obtain ⟨x30, e31, h⟩ := bdS h
        refine Run.go (Ev.callC en102 (k_strings_TrimLeft e31) rfl (.cons .v (.cons .v .nil)) rfl rfl) ?_
        refine Run.go (Ev.assign rfl rfl) ?_
        refine Run.nil ?_
        obtain ⟨v32, hv, h⟩ := bdS h
        refine T.cut (fun _ : Unit => (⟨[(17, .v .str v32)], [], 71⟩ : St)) (fun _ => True) ?_ (fun _ _ => ?_)
        · replace h := hv
          clear hv
          refine T.seq ?_
          refine T.region ?_
          refine Run.go (Ev.move rfl rfl) ?_
          refine Run.go (Ev.strs rfl rfl rfl rfl trivial) ?_
          refine Run.nil ?_
          refine T.cond rfl (fun hb33 => ?_) (fun hb33 => ?_)
          · replace h := ifT hb33 h
            refine T.region ?_
            refine Run.go (Ev.assign rfl rfl) ?_
            refine Run.nil ?_
            cases h
            exact ⟨(), trivial, Ghost.only [] [17] rfl⟩
          · replace h := ifF hb33 h
            refine T.skip ?_
            cases h
            exact ⟨(), trivial, Ghost.only [] [17] rfl⟩
        · refine T.seq ?_
          refine T.region ?_
          refine Run.go (Ev.move rfl rfl) ?_
          refine Run.go (Ev.assign rfl rfl) ?_
          refine Run.go (Ev.assign rfl rfl) ?_
          refine Run.nil ?_
          refine T.ret ?_
          cases h
          exact Fin.many X rfl (.cons (.tmp .v) (.cons (.tmp .v) .nil)) rfl
theorem en68 : Enters Tryz.prog 68 := ⟨_, Tryz.func68, rfl, rfl⟩
theorem k_digits_Print {p0 : (List Int)} {y : ByteArray} (h : m_digits_Print p0 = some y) : Spec Tryz.prog 68 [(.v (.sl (.int .u64)) p0)] (.v .str y) [] := by
  rw [m_digits_Print] at h
  refine enterN [(.v (.sl (.int .u64)) p0)] 11 Tryz.func68 rfl rfl rfl ?_
  refine T.seq ?_
  refine T.region ?_
  refine Run.go (Ev.assign rfl rfl) ?_
  refine Run.nil ?_
  refine T.seq ?_
  refine T.region ?_
  refine Run.go (Ev.move rfl rfl) ?_
  obtain ⟨x1, e2, h⟩ := bdS h
  refine Run.go (Ev.callC en87 (k_digits_In e2) rfl (.cons .v (.cons .v .nil)) rfl rfl) ?_
  refine Run.go (Ev.move rfl rfl) ?_
  refine Run.go (Ev.extract rfl rfl rfl) ?_
  refine Run.go (Ev.extract rfl rfl rfl) ?_
  refine Run.go (Ev.assign rfl rfl) ?_
  refine Run.go (Ev.assign rfl rfl) ?_
  refine Run.nil ?_
  refine T.seq ?_
  refine T.region ?_
  refine Run.go (Ev.move rfl rfl) ?_
  refine Run.go (Ev.assign rfl rfl) ?_
  refine Run.nil ?_
  refine T.ret ?_
  cases h
  exact Fin.one rfl .v
theorem en65 : Enters Tryz.prog 65 := ⟨_, Tryz.func65, rfl, rfl⟩
theorem k_whole_Print {p0 : D_api_Int} {y : ByteArray} (h : m_whole_Print p0 = some y) : Spec Tryz.prog 65 [(.v Y_api_Int p0)] (.v .str y) [] := by
  rw [m_whole_Print] at h
  refine enterN [(.v Y_api_Int p0)] 12 Tryz.func65 rfl rfl rfl ?_
  refine T.seq ?_
  refine T.region ?_
  refine Run.go (Ev.box 1 rfl rfl rfl rfl) ?_
  refine Run.go (Ev.assign rfl rfl) ?_
  refine Run.nil ?_
  refine T.seq ?_
  refine T.seq ?_
  refine T.region ?_
  refine Run.go (Ev.fieldBox X rfl rfl rfl rfl rfl) ?_
  refine Run.go (Ev.loadCell X rfl rfl rfl rfl rfl rfl) ?_
  refine Run.nil ?_
  refine T.cond rfl (fun hb1 => ?_) (fun hb1 => ?_)
  · replace h := ifT hb1 h
    refine T.seq ?_
    refine T.region ?_
    refine Run.go (Ev.fieldBox X rfl rfl rfl rfl rfl) ?_
    refine Run.go (Ev.loadCell X rfl rfl rfl rfl rfl rfl) ?_
    obtain ⟨x2, e3, h⟩ := bdS h
    refine Run.go (Ev.callC en68 (k_digits_Print e3) rfl (.cons .v .nil) rfl rfl) ?_
    obtain ⟨x4, e5, h⟩ := bdS h
    refine Run.go (Ev.e_cat e5 rfl rfl rfl) ?_
    refine Run.go (Ev.assign rfl rfl) ?_
    refine Run.nil ?_
    refine T.ret ?_
    cases h
    exact Fin.one rfl .v
  · replace h := ifF hb1 h
    refine T.skip ?_
    refine T.seq ?_
    refine T.region ?_
    refine Run.go (Ev.fieldBox X rfl rfl rfl rfl rfl) ?_
    refine Run.go (Ev.loadCell X rfl rfl rfl rfl rfl rfl) ?_
    obtain ⟨x6, e7, h⟩ := bdS h
    refine Run.go (Ev.callC en68 (k_digits_Print e7) rfl (.cons .v .nil) rfl rfl) ?_
    refine Run.go (Ev.assign rfl rfl) ?_
    refine Run.nil ?_
    refine T.ret ?_
    cases h
    exact Fin.one rfl .v
theorem en67 : Enters Tryz.prog 67 := ⟨_, Tryz.func67, rfl, rfl⟩
theorem k_nat_Of {p0 : Int} {y : (List Int)} (h : m_nat_Of p0 = some y) : Spec Tryz.prog 67 [(.v (.int .u64) p0)] (.v (.sl (.int .u64)) y) [] := by
  rw [m_nat_Of] at h
  refine enterN [(.v (.int .u64) p0)] 9 Tryz.func67 rfl rfl rfl ?_
  refine T.seq ?_
  refine T.region ?_
  refine Run.go (Ev.assign rfl rfl) ?_
  refine Run.nil ?_
  refine T.seq ?_
  refine T.region ?_
  refine Run.go (Ev.move rfl rfl) ?_
  obtain ⟨x1, e2, h⟩ := bdS h
  refine Run.go (Ev.e_rm e2 rfl rfl rfl) ?_
  refine Run.go (Ev.move rfl rfl) ?_
  obtain ⟨x3, e4, h⟩ := bdS h
  refine Run.go (Ev.e_sr e4 rfl rfl rfl) ?_
  refine Run.go (Ev.build X 1 rfl rfl rfl rfl rfl rfl rfl rfl) ?_
  refine Run.ghost (Ghost.firmAll (id := 1) rfl) ?_
  obtain ⟨x5, e6, h⟩ := bdS h
  refine Run.go (Ev.callC en86 (k_nat_trim e6) rfl (.cons .v .nil) rfl rfl) ?_
  refine Run.go (Ev.assign rfl rfl) ?_
  refine Run.nil ?_
  refine T.ret ?_
  cases h
  exact Fin.one rfl .v
theorem en66 : Enters Tryz.prog 66 := ⟨_, Tryz.func66, rfl, rfl⟩
set_option maxHeartbeats 1000000 in
theorem k_nat_Cmp {p0 : (List Int)} {p1 : (List Int)} {y : Int} (h : m_nat_Cmp p0 p1 = some y) : Spec Tryz.prog 66 [(.v (.sl (.int .u64)) p0), (.v (.sl (.int .u64)) p1)] (.v (.int .i64) y) [] := by
  rw [m_nat_Cmp] at h
  refine enterN [(.v (.sl (.int .u64)) p0), (.v (.sl (.int .u64)) p1)] 45 Tryz.func66 rfl rfl rfl ?_
  refine T.seq ?_
  refine T.region ?_
  refine Run.go (Ev.assign rfl rfl) ?_
  refine Run.nil ?_
  refine T.seq ?_
  refine T.block ?_
  refine T.seq ?_
  refine T.region ?_
  refine Run.go (Ev.move rfl rfl) ?_
  refine Run.go (Ev.len X rfl rfl rfl rfl) ?_
  refine Run.go (Ev.move rfl rfl) ?_
  refine Run.go (Ev.len X rfl rfl rfl rfl) ?_
  refine Run.go (Ev.int rfl rfl rfl rfl trivial) ?_
  obtain ⟨x1, e2, h⟩ := ltS h
  refine Run.go (Ev.avs (Ev.assign rfl rfl) e2) ?_
  refine Run.nil ?_
  refine T.cond rfl (fun hb3 => ?_) (fun hb3 => ?_)
  · replace h := ifT hb3 h
    refine T.seq ?_
    refine T.region ?_
    refine Run.go (Ev.assign rfl rfl) ?_
    refine Run.nil ?_
    refine T.ret ?_
    cases h
    exact Fin.one rfl .v
  · replace h := ifF hb3 h
    refine T.seq ?_
    refine T.region ?_
    refine Run.go (Ev.move rfl rfl) ?_
    refine Run.go (Ev.len X rfl rfl rfl rfl) ?_
    refine Run.go (Ev.move rfl rfl) ?_
    refine Run.go (Ev.len X rfl rfl rfl rfl) ?_
    refine Run.go (Ev.int rfl rfl rfl rfl trivial) ?_
    obtain ⟨x4, e5, h⟩ := ltS h
    refine Run.go (Ev.avs (Ev.assign rfl rfl) e5) ?_
    refine Run.nil ?_
    refine T.cond rfl (fun hb6 => ?_) (fun hb6 => ?_)
    · replace h := ifT hb6 h
      refine T.seq ?_
      refine T.region ?_
      refine Run.go (Ev.assign rfl rfl) ?_
      refine Run.nil ?_
      refine T.ret ?_
      cases h
      exact Fin.one rfl .v
    · replace h := ifF hb6 h
      refine T.skip ?_
      refine T.seq ?_
      refine T.seq ?_
      refine T.region ?_
      refine Run.go (Ev.move rfl rfl) ?_
      refine Run.go (Ev.len X rfl rfl rfl rfl) ?_
      refine Run.go (Ev.int rfl rfl rfl rfl trivial) ?_
      refine Run.go (Ev.assign rfl rfl) ?_
      refine Run.nil ?_
      refine T.block ?_
      refine T.loop (LoopT.ghost (Ghost.only [] [0, 1, 5] rfl) (LoopT.run (fun q : Int => (⟨[(0, .v (.sl (.int .u64)) p0), (1, .v (.sl (.int .u64)) p1), (5, .v (.int .i64) q)], [], 45⟩ : St)) (fun v7 z1 h hz1 => ?_) h))
      rw [m_nat_Cmp_l1] at h
      refine T.seq ?_
      refine T.seq ?_
      refine T.region ?_
      refine Run.go (Ev.move rfl rfl) ?_
      refine Run.go (Ev.int rfl rfl rfl rfl trivial) ?_
      refine Run.nil ?_
      refine T.cond rfl (fun hb8 => ?_) (fun hb8 => ?_)
      · replace h := ifT hb8 h
        refine T.skip ?_
        refine T.seq ?_
        refine T.block ?_
        refine T.block ?_
        refine T.seq ?_
        refine T.drawM [] [0, 0, 3, 7, 0, 0, 48, 112, 255, 511] (by kernel_rfl) (by kernel_rfl) ?_
        refine RunD.w (fun _ => Ev.move rfl rfl) ?_
        refine RunD.w (fun _ => Ev.move rfl rfl) ?_
        obtain ⟨x9, e10, h⟩ := bdS h
        refine RunD.a rfl rfl (Ev.e_rd X e10 rfl rfl rfl rfl) ?_
        refine RunD.a rfl rfl (Ev.load X rfl rfl rfl) ?_
        refine RunD.w (fun _ => Ev.move rfl rfl) ?_
        refine RunD.w (fun _ => Ev.move rfl rfl) ?_
        obtain ⟨x11, e12, h⟩ := bdS h
        refine RunD.a rfl rfl (Ev.e_rd X e12 rfl rfl rfl rfl) ?_
        refine RunD.a rfl rfl (Ev.load X rfl rfl rfl) ?_
        refine RunD.w (fun _ => Ev.int rfl rfl rfl rfl trivial) ?_
        refine RunD.w (fun _ => Ev.assign rfl rfl) ?_
        refine RunD.nil ?_
        refine T.cond rfl (fun hb13 => ?_) (fun hb13 => ?_)
        · replace h := ifT hb13 h
          refine T.seq ?_
          refine T.region ?_
          refine Run.go (Ev.assign rfl rfl) ?_
          refine Run.nil ?_
          refine T.ret ?_
          cases h
          cases hz1
          exact Fin.one rfl .v
        · replace h := ifF hb13 h
          refine T.seq ?_
          refine T.drawM [] [0, 0, 3, 7, 0, 0, 48, 112, 255, 511] (by kernel_rfl) (by kernel_rfl) ?_
          refine RunD.w (fun _ => Ev.move rfl rfl) ?_
          refine RunD.w (fun _ => Ev.move rfl rfl) ?_
          obtain ⟨x14, e15, h⟩ := bdS h
          refine RunD.a rfl rfl (Ev.e_rd X e15 rfl rfl rfl rfl) ?_
          refine RunD.a rfl rfl (Ev.load X rfl rfl rfl) ?_
          refine RunD.w (fun _ => Ev.move rfl rfl) ?_
          refine RunD.w (fun _ => Ev.move rfl rfl) ?_
          obtain ⟨x16, e17, h⟩ := bdS h
          refine RunD.a rfl rfl (Ev.e_rd X e17 rfl rfl rfl rfl) ?_
          refine RunD.a rfl rfl (Ev.load X rfl rfl rfl) ?_
          refine RunD.w (fun _ => Ev.int rfl rfl rfl rfl trivial) ?_
          refine RunD.w (fun _ => Ev.assign rfl rfl) ?_
          refine RunD.nil ?_
          refine T.cond rfl (fun hb18 => ?_) (fun hb18 => ?_)
          · replace h := ifT hb18 h
            refine T.seq ?_
            refine T.region ?_
            refine Run.go (Ev.assign rfl rfl) ?_
            refine Run.nil ?_
            refine T.ret ?_
            cases h
            cases hz1
            exact Fin.one rfl .v
          · replace h := ifF hb18 h
            refine T.skip ?_
            refine T.region ?_
            refine Run.go (Ev.move rfl rfl) ?_
            refine Run.go (Ev.int rfl rfl rfl rfl trivial) ?_
            refine Run.go (Ev.assign rfl rfl) ?_
            refine Run.nil ?_
            cases h
            exact LoopT.ghost (Ghost.only [] [0, 1, 5] rfl) hz1
      · replace h := ifF hb8 h
        refine T.exit ?_
        refine T.seq ?_
        refine T.region ?_
        refine Run.go (Ev.assign rfl rfl) ?_
        refine Run.nil ?_
        refine T.ret ?_
        cases h
        cases hz1
        exact Fin.one rfl .v
theorem en39 : Enters Tryz.prog 39 := ⟨_, Tryz.func39, rfl, rfl⟩
theorem k_ratio_Print {p0 : D_api_Rat} {y : ByteArray} (h : m_ratio_Print p0 = some y) : Spec Tryz.prog 39 [(.v Y_api_Rat p0)] (.v .str y) [] := by
  rw [m_ratio_Print] at h
  refine enterN [(.v Y_api_Rat p0)] 19 Tryz.func39 rfl rfl rfl ?_
  refine T.seq ?_
  refine T.region ?_
  refine Run.go (Ev.box 1 rfl rfl rfl rfl) ?_
  refine Run.go (Ev.assign rfl rfl) ?_
  refine Run.nil ?_
  refine T.seq ?_
  refine T.region ?_
  refine Run.go (Ev.fieldBox X rfl rfl rfl rfl rfl) ?_
  refine Run.go (Ev.loadBox X rfl rfl rfl rfl rfl) ?_
  obtain ⟨x1, e2, h⟩ := bdS h
  refine Run.go (Ev.callC en65 (k_whole_Print e2) rfl (.cons .v .nil) rfl rfl) ?_
  refine Run.go (Ev.assign rfl rfl) ?_
  refine Run.nil ?_
  refine T.seq ?_
  refine T.seq ?_
  refine T.drawM [] [0, 1, 0, 7, 15] (by kernel_rfl) (by kernel_rfl) ?_
  refine RunD.a rfl rfl (Ev.fieldBox X rfl rfl rfl rfl rfl) ?_
  refine RunD.a rfl rfl (Ev.loadCell X rfl rfl rfl rfl rfl rfl) ?_
  obtain ⟨x3, e4, h⟩ := bdS h
  refine RunD.a rfl rfl (Ev.callC en67 (k_nat_Of e4) rfl (.cons .v .nil) rfl rfl) ?_
  obtain ⟨x5, e6, h⟩ := bdS h
  refine RunD.a rfl rfl (Ev.callC en66 (k_nat_Cmp e6) rfl (.cons .v (.cons .v .nil)) rfl rfl) ?_
  refine RunD.w (fun _ => Ev.int rfl rfl rfl rfl trivial) ?_
  refine RunD.nil ?_
  refine T.cond rfl (fun hb7 => ?_) (fun hb7 => ?_)
  · replace h := ifT hb7 h
    refine T.seq ?_
    refine T.region ?_
    refine Run.go (Ev.move rfl rfl) ?_
    refine Run.go (Ev.assign rfl rfl) ?_
    refine Run.nil ?_
    refine T.ret ?_
    cases h
    exact Fin.one rfl .v
  · replace h := ifF hb7 h
    refine T.skip ?_
    refine T.seq ?_
    refine T.region ?_
    refine Run.go (Ev.move rfl rfl) ?_
    obtain ⟨x8, e9, h⟩ := bdS h
    refine Run.go (Ev.e_cat e9 rfl rfl rfl) ?_
    refine Run.go (Ev.fieldBox X rfl rfl rfl rfl rfl) ?_
    refine Run.go (Ev.loadCell X rfl rfl rfl rfl rfl rfl) ?_
    obtain ⟨x10, e11, h⟩ := bdS h
    refine Run.go (Ev.callC en68 (k_digits_Print e11) rfl (.cons .v .nil) rfl rfl) ?_
    obtain ⟨x12, e13, h⟩ := bdS h
    refine Run.go (Ev.e_cat e13 rfl rfl rfl) ?_
    refine Run.go (Ev.assign rfl rfl) ?_
    refine Run.nil ?_
    refine T.ret ?_
    cases h
    exact Fin.one rfl .v
theorem en14 : Enters Tryz.prog 14 := ⟨_, Tryz.func14, rfl, rfl⟩
theorem k_report_Words {p0 : (List ByteArray)} {y : ByteArray} (h : m_report_Words p0 = some y) : Spec Tryz.prog 14 [(.v (.sl .str) p0)] (.v .str y) [] := by
  rw [m_report_Words] at h
  refine enterN [(.v (.sl .str) p0)] 5 Tryz.func14 rfl rfl rfl ?_
  refine T.seq ?_
  refine T.region ?_
  refine Run.go (Ev.assign rfl rfl) ?_
  refine Run.nil ?_
  refine T.seq ?_
  refine T.region ?_
  refine Run.go (Ev.move rfl rfl) ?_
  obtain ⟨x1, e2, h⟩ := bdS h
  refine Run.go (Ev.callC en15 (k_strings_Join e2) rfl (.cons .v (.cons .v .nil)) rfl rfl) ?_
  refine Run.go (Ev.assign rfl rfl) ?_
  refine Run.nil ?_
  refine T.ret ?_
  cases h
  exact Fin.one rfl .v
theorem en9 : Enters Tryz.prog 9 := ⟨_, Tryz.func9, rfl, rfl⟩
theorem k_report_Verdict {p0 : Int} {y : ByteArray} (h : m_report_Verdict p0 = some y) : Spec Tryz.prog 9 [(.v (.int .i64) p0)] (.v .str y) [] := by
  rw [m_report_Verdict] at h
  refine enterN [(.v (.int .i64) p0)] 12 Tryz.func9 rfl rfl rfl ?_
  refine T.seq ?_
  refine T.region ?_
  refine Run.go (Ev.assign rfl rfl) ?_
  refine Run.nil ?_
  refine T.seq ?_
  refine T.seq ?_
  refine T.region ?_
  refine Run.go (Ev.move rfl rfl) ?_
  refine Run.nil ?_
  refine T.block ?_
  refine T.seq ?_
  refine T.region ?_
  refine Run.go (Ev.int rfl rfl rfl rfl trivial) ?_
  refine Run.go (Ev.assign rfl rfl) ?_
  refine Run.nil ?_
  refine T.cond rfl (fun hb1 => ?_) (fun hb1 => ?_)
  · replace h := ifT hb1 h
    refine T.seq ?_
    refine T.region ?_
    refine Run.go (Ev.assign rfl rfl) ?_
    refine Run.nil ?_
    refine T.ret ?_
    cases h
    exact Fin.one rfl .v
  · replace h := ifF hb1 h
    refine T.seq ?_
    refine T.region ?_
    refine Run.go (Ev.int rfl rfl rfl rfl trivial) ?_
    refine Run.go (Ev.assign rfl rfl) ?_
    refine Run.nil ?_
    refine T.cond rfl (fun hb2 => ?_) (fun hb2 => ?_)
    · replace h := ifT hb2 h
      refine T.seq ?_
      refine T.region ?_
      obtain ⟨x3, e4, h⟩ := ltS h
      refine Run.go (Ev.avs (Ev.assign rfl rfl) e4) ?_
      refine Run.nil ?_
      refine T.ret ?_
      cases h
      exact Fin.one rfl .v
    · replace h := ifF hb2 h
      refine T.seq ?_
      refine T.region ?_
      refine Run.go (Ev.int rfl rfl rfl rfl trivial) ?_
      refine Run.go (Ev.assign rfl rfl) ?_
      refine Run.nil ?_
      refine T.cond rfl (fun hb5 => ?_) (fun hb5 => ?_)
      · replace h := ifT hb5 h
        refine T.seq ?_
        refine T.region ?_
        obtain ⟨x6, e7, h⟩ := ltS h
        refine Run.go (Ev.avs (Ev.assign rfl rfl) e7) ?_
        refine Run.nil ?_
        refine T.ret ?_
        cases h
        exact Fin.one rfl .v
      · replace h := ifF hb5 h
        refine T.seq ?_
        refine T.region ?_
        refine Run.go (Ev.int rfl rfl rfl rfl trivial) ?_
        refine Run.go (Ev.assign rfl rfl) ?_
        refine Run.nil ?_
        refine T.cond rfl (fun hb8 => ?_) (fun hb8 => ?_)
        · replace h := ifT hb8 h
          refine T.seq ?_
          refine T.region ?_
          obtain ⟨x9, e10, h⟩ := ltS h
          refine Run.go (Ev.avs (Ev.assign rfl rfl) e10) ?_
          refine Run.nil ?_
          refine T.ret ?_
          cases h
          exact Fin.one rfl .v
        · replace h := ifF hb8 h
          refine T.skip ?_
          refine T.seq ?_
          refine T.region ?_
          refine Run.go (Ev.assign rfl rfl) ?_
          refine Run.nil ?_
          refine T.ret ?_
          cases h
          exact Fin.one rfl .v
theorem en42 : Enters Tryz.prog 42 := ⟨_, Tryz.func42, rfl, rfl⟩
theorem k_addr_Print {p0 : Int} {y : ByteArray} (h : m_addr_Print p0 = some y) : Spec Tryz.prog 42 [(.v (.int .u32) p0)] (.v .str y) [] := by
  rw [m_addr_Print] at h
  refine enterN [(.v (.int .u32) p0)] 25 Tryz.func42 rfl rfl rfl ?_
  refine T.seq ?_
  refine T.region ?_
  refine Run.go (Ev.assign rfl rfl) ?_
  refine Run.nil ?_
  refine T.seq ?_
  refine T.region ?_
  obtain ⟨x1, e2, h⟩ := bdS h
  refine Run.go (Ev.e_mk X 1 e2 rfl rfl rfl rfl rfl rfl) ?_
  refine Run.go (Ev.assign rfl rfl) ?_
  refine Run.nil ?_
  obtain ⟨v3, hv, h⟩ := bdS h
  refine T.cut (fun _ : Unit => (⟨[(3, .own 1)], [(1, .arr 9 .str v3)], 25⟩ : St)) (fun _ => True) ?_ (fun _ _ => ?_)
  · replace h := hv
    clear hv
    refine T.seq ?_
    refine T.region ?_
    refine Run.go (Ev.move rfl rfl) ?_
    refine Run.go (Ev.e_lenO X rfl rfl rfl rfl) ?_
    refine Run.go (Ev.move rfl rfl) ?_
    refine Run.nil ?_
    refine T.block ?_
    refine T.loop (LoopT.ghost (Ghost.only [(1, 1)] [0, 3, 7, 8] rfl) (LoopT.run (fun q : Int × (List ByteArray) => (⟨[(0, .v (.int .u32) p0), (3, .own 1), (7, .v (.int .i64) ((x1.length : Int) : Int)), (8, .v (.int .i64) q.1)], [(1, .arr 9 .str q.2)], 25⟩ : St)) (fun q z1 h hz1 => ?_) h))
    obtain ⟨v4, v5⟩ := q
    dsimp only
    rw [m_addr_Print_l1] at h
    refine T.seq ?_
    refine T.region ?_
    refine Run.go (Ev.int rfl rfl rfl rfl trivial) ?_
    refine Run.nil ?_
    refine T.seq ?_
    refine T.cond rfl (fun hb6 => ?_) (fun hb6 => ?_)
    · replace h := ifT hb6 h
      refine T.skip ?_
      refine T.seq ?_
      refine T.block ?_
      refine T.seq ?_
      refine T.region ?_
      refine Run.go (Ev.move rfl rfl) ?_
      refine Run.go (Ev.assign rfl rfl) ?_
      refine Run.nil ?_
      refine T.region ?_
      refine Run.go (Ev.move rfl rfl) ?_
      refine Run.go (Ev.move rfl rfl) ?_
      refine Run.go (Ev.move rfl rfl) ?_
      refine Run.go (Ev.move rfl rfl) ?_
      refine Run.go (Ev.int rfl rfl rfl rfl trivial) ?_
      refine Run.go (Ev.int rfl rfl rfl rfl trivial) ?_
      obtain ⟨x7, e8, h⟩ := bdS h
      refine Run.go (Ev.e_sr e8 rfl rfl rfl) ?_
      refine Run.go (Ev.int rfl rfl rfl rfl trivial) ?_
      refine Run.go (Ev.conv X rfl rfl rfl rfl) ?_
      obtain ⟨x9, e10, h⟩ := bdS h
      refine Run.go (Ev.callC en44 (k_strconv_Itoa e10) rfl (.cons .v .nil) rfl rfl) ?_
      obtain ⟨j11, e12, h⟩ := bdS h
      refine Run.go (Ev.e_ixO X e12 rfl rfl rfl rfl rfl) ?_
      obtain ⟨x13, e14, h⟩ := ltS h
      refine Run.do_ (Ev.asO (Ev.storeEl X rfl rfl rfl rfl rfl) e14) ?_
      refine Run.nil ?_
      refine T.region ?_
      refine Run.go (Ev.int rfl rfl rfl rfl trivial) ?_
      refine Run.go (Ev.move rfl rfl) ?_
      refine Run.nil ?_
      cases h
      exact LoopT.ghost (Ghost.only [(1, 1)] [0, 3, 7, 8] rfl) hz1
    · replace h := ifF hb6 h
      refine T.exit ?_
      cases h
      cases hz1
      exact ⟨(), trivial, Ghost.only [(1, 1)] [3] rfl⟩
  · refine T.seq ?_
    refine T.region ?_
    refine Run.go (Ev.move rfl rfl) ?_
    obtain ⟨x15, e16, h⟩ := bdS h
    refine Run.go (Ev.lend rfl (.cons (.own rfl) (.cons .v .nil)) en15 (k_strings_Join e16) rfl rfl) ?_
    refine Run.go (Ev.assign rfl rfl) ?_
    refine Run.nil ?_
    refine T.ret ?_
    cases h
    exact Fin.one rfl .v
theorem en40 : Enters Tryz.prog 40 := ⟨_, Tryz.func40, rfl, rfl⟩
set_option maxHeartbeats 1000000 in
theorem k_report_verdict {p0 : D_compare_Verdict} {y : ByteArray} (h : m_report_verdict p0 = some y) : Spec Tryz.prog 40 [(.v Y_compare_Verdict p0)] (.v .str y) [] := by
  rw [m_report_verdict] at h
  refine enterN [(.v Y_compare_Verdict p0)] 35 Tryz.func40 rfl rfl rfl ?_
  refine T.seq ?_
  refine T.region ?_
  refine Run.go (Ev.box 1 rfl rfl rfl rfl) ?_
  refine Run.go (Ev.assign rfl rfl) ?_
  refine Run.nil ?_
  refine T.seq ?_
  refine T.region ?_
  refine Run.go (Ev.fieldBox X rfl rfl rfl rfl rfl) ?_
  refine Run.go (Ev.loadCell X rfl rfl rfl rfl rfl rfl) ?_
  obtain ⟨x1, e2, h⟩ := bdS h
  refine Run.go (Ev.callC en9 (k_report_Verdict e2) rfl (.cons .v .nil) rfl rfl) ?_
  refine Run.go (Ev.build X 2 rfl rfl rfl rfl rfl rfl rfl rfl) ?_
  refine Run.go (Ev.assign rfl rfl) ?_
  refine Run.nil ?_
  obtain ⟨v3, hv, h⟩ := bdS h
  refine T.cut (fun _ : Unit => (⟨[(3, .own 11)], [(11, .arr 9 .str v3)], 35⟩ : St)) (fun _ => True) ?_ (fun _ _ => ?_)
  · replace h := hv
    clear hv
    refine T.seq ?_
    refine T.region ?_
    refine Run.go (Ev.fieldBox X rfl rfl rfl rfl rfl) ?_
    refine Run.go (Ev.loadBox X rfl rfl rfl rfl rfl) ?_
    refine Run.go (Ev.fieldBox X rfl rfl rfl rfl rfl) ?_
    refine Run.go (Ev.loadBox X rfl rfl rfl rfl rfl) ?_
    refine Run.go (Ev.e_build2 X ar133 zs133 rfl rfl rfl rfl rfl rfl rfl) ?_
    refine Run.go (Ev.move rfl rfl) ?_
    refine Run.nil ?_
    refine T.block ?_
    refine T.loop (LoopT.ghost (Ghost.onlyK [(2, 36)] [3, 14, 15] rfl (by kernel_rfl)) (LoopT.run (fun q : Int × (List ByteArray) => (⟨[(3, .own 36), (14, .st [.v .bool p0.2.1.1, .v (.int .u32) p0.2.1.2.1, .v .bool p0.2.1.2.2.1.1.1, .v (.sl (.int .u64)) p0.2.1.2.2.1.1.2, .v (.sl (.int .u64)) p0.2.1.2.2.1.2, .v .bool p0.2.1.2.2.2.1.1, .v (.sl (.int .u64)) p0.2.1.2.2.2.1.2, .v (.sl (.int .u64)) p0.2.1.2.2.2.2, .v .bool p0.2.2.1, .v (.int .u32) p0.2.2.2.1, .v .bool p0.2.2.2.2.1.1.1, .v (.sl (.int .u64)) p0.2.2.2.2.1.1.2, .v (.sl (.int .u64)) p0.2.2.2.2.1.2, .v .bool p0.2.2.2.2.2.1.1, .v (.sl (.int .u64)) p0.2.2.2.2.2.1.2, .v (.sl (.int .u64)) p0.2.2.2.2.2.2]), (15, .v (.int .i64) q.1)], [(36, .arr 9 .str q.2)], 35⟩ : St)) (fun q z1 h hz1 => ?_) h))
    obtain ⟨v4, v5⟩ := q
    dsimp only
    rw [m_report_verdict_l1] at h
    refine T.seq ?_
    refine T.region ?_
    refine Run.go (Ev.int rfl rfl rfl rfl trivial) ?_
    refine Run.nil ?_
    refine T.seq ?_
    refine T.cond rfl (fun hb6 => ?_) (fun hb6 => ?_)
    · replace h := ifT hb6 h
      refine T.skip ?_
      obtain ⟨v7, hv, h⟩ := bdS h
      refine T.cut (fun _ : Unit => (⟨[(3, .own 48), (14, .st [.v .bool p0.2.1.1, .v (.int .u32) p0.2.1.2.1, .v .bool p0.2.1.2.2.1.1.1, .v (.sl (.int .u64)) p0.2.1.2.2.1.1.2, .v (.sl (.int .u64)) p0.2.1.2.2.1.2, .v .bool p0.2.1.2.2.2.1.1, .v (.sl (.int .u64)) p0.2.1.2.2.2.1.2, .v (.sl (.int .u64)) p0.2.1.2.2.2.2, .v .bool p0.2.2.1, .v (.int .u32) p0.2.2.2.1, .v .bool p0.2.2.2.2.1.1.1, .v (.sl (.int .u64)) p0.2.2.2.2.1.1.2, .v (.sl (.int .u64)) p0.2.2.2.2.1.2, .v .bool p0.2.2.2.2.2.1.1, .v (.sl (.int .u64)) p0.2.2.2.2.2.1.2, .v (.sl (.int .u64)) p0.2.2.2.2.2.2]), (15, .v (.int .i64) v4)], [(48, .arr 9 .str v7)], 35⟩ : St)) (fun _ => True) ?_ (fun _ _ => ?_)
      · replace h := hv
        clear hv
        refine T.block ?_
        refine T.seq ?_
        refine T.region ?_
        obtain ⟨x8, e9, h⟩ := bdS h
        refine Run.go (Ev.e_index2 X e9 rfl rfl ar133 rfl rfl rfl rfl rfl rfl) ?_
        refine Run.go (Ev.allocN X 49 rfl rfl rfl) ?_
        refine Run.do_ (Ev.storeBox X rfl rfl rfl rfl rfl rfl rfl) ?_
        refine Run.nil ?_
        refine T.seq ?_
        refine T.region ?_
        refine Run.go (Ev.fieldBox X rfl rfl rfl rfl rfl) ?_
        refine Run.go (Ev.loadCell X rfl rfl rfl rfl rfl rfl) ?_
        refine Run.nil ?_
        refine T.cond rfl (fun hb10 => ?_) (fun hb10 => ?_)
        · replace h := ifT hb10 h
          refine T.drawM [10, 11] [0, 0, 2, 6, 0, 16, 62, 0, 128, 510, 1022, 2047, 4095] (by kernel_rfl) (by kernel_rfl) ?_
          refine RunD.w (fun _ => Ev.move rfl rfl) ?_
          refine RunD.a rfl rfl (Ev.fieldBox X rfl rfl rfl rfl rfl) ?_
          refine RunD.a rfl rfl (Ev.loadCell X rfl rfl rfl rfl rfl rfl) ?_
          obtain ⟨x11, e12, h⟩ := bdS h
          refine RunD.a rfl rfl (Ev.callC en42 (k_addr_Print e12) rfl (.cons .v .nil) rfl rfl) ?_
          refine RunD.a rfl rfl (Ev.fieldBox X rfl rfl rfl rfl rfl) ?_
          refine RunD.a rfl rfl (Ev.loadBox X rfl rfl rfl rfl rfl) ?_
          obtain ⟨x13, e14, h⟩ := bdS h
          refine RunD.a rfl rfl (Ev.callC en39 (k_ratio_Print e14) rfl (.cons .v .nil) rfl rfl) ?_
          refine RunD.a rfl rfl (Ev.fieldBox X rfl rfl rfl rfl rfl) ?_
          refine RunD.a rfl rfl (Ev.loadBox X rfl rfl rfl rfl rfl) ?_
          obtain ⟨x15, e16, h⟩ := bdS h
          refine RunD.a rfl rfl (Ev.callC en39 (k_ratio_Print e16) rfl (.cons .v .nil) rfl rfl) ?_
          refine RunD.mD rfl (Ev.build X 50 rfl rfl rfl rfl rfl rfl rfl rfl) ?_
          obtain ⟨x17, e18, h⟩ := bdS h
          refine RunD.mD rfl (Ev.e_ap X 51 e18 rfl rfl rfl (.own rfl) rfl rfl rfl rfl rfl) ?_
          refine RunD.w (fun _ => Ev.assign rfl rfl) ?_
          refine RunD.nil ?_
          cases h
          exact ⟨(), trivial, Ghost.only [(51, 48)] [3, 14, 15] rfl⟩
        · replace h := ifF hb10 h
          refine T.skip ?_
          cases h
          exact ⟨(), trivial, Ghost.only [(36, 48)] [3, 14, 15] rfl⟩
      · refine T.region ?_
        refine Run.go (Ev.int rfl rfl rfl rfl trivial) ?_
        refine Run.go (Ev.move rfl rfl) ?_
        refine Run.nil ?_
        cases h
        exact LoopT.ghost (Ghost.only [(48, 36)] [3, 14, 15] rfl) hz1
    · replace h := ifF hb6 h
      refine T.exit ?_
      cases h
      cases hz1
      exact ⟨(), trivial, Ghost.only [(36, 11)] [3] rfl⟩
  · refine T.seq ?_
    refine T.region ?_
    refine Run.go (Ev.move rfl rfl) ?_
    obtain ⟨x19, e20, h⟩ := bdS h
    refine Run.go (Ev.lend rfl (.cons (.own rfl) .nil) en14 (k_report_Words e20) rfl rfl) ?_
    refine Run.go (Ev.assign rfl rfl) ?_
    refine Run.nil ?_
    refine T.ret ?_
    cases h
    exact Fin.one rfl .v
theorem en19 : Enters Tryz.prog 19 := ⟨_, Tryz.func19, rfl, rfl⟩
set_option maxHeartbeats 1000000 in
theorem k_report_told {p0 : D_engine_Answer} {y : ByteArray × Bool} (h : m_report_told p0 = some y) : Spec Tryz.prog 19 [(.v Y_engine_Answer p0)] (.tup [.v .str y.1, .v .bool y.2]) [] := by
  rw [m_report_told] at h
  refine enterN [(.v Y_engine_Answer p0)] 42 Tryz.func19 rfl rfl rfl ?_
  refine T.seq ?_
  refine T.region ?_
  refine Run.go (Ev.box 1 rfl rfl rfl rfl) ?_
  refine Run.go (Ev.assign rfl rfl) ?_
  refine Run.go (Ev.assign rfl rfl) ?_
  refine Run.nil ?_
  refine T.seq ?_
  refine T.seq ?_
  refine T.region ?_
  refine Run.go (Ev.fieldBox X rfl rfl rfl rfl rfl) ?_
  refine Run.go (Ev.loadCell X rfl rfl rfl rfl rfl rfl) ?_
  refine Run.nil ?_
  refine T.block ?_
  refine T.seq ?_
  refine T.region ?_
  refine Run.go (Ev.int rfl rfl rfl rfl trivial) ?_
  refine Run.go (Ev.assign rfl rfl) ?_
  refine Run.nil ?_
  refine T.cond rfl (fun hb1 => ?_) (fun hb1 => ?_)
  · replace h := ifT hb1 h
    refine T.seq ?_
    refine T.region ?_
    refine Run.go (Ev.fieldBox X rfl rfl rfl rfl rfl) ?_
    refine Run.go (Ev.loadBox X rfl rfl rfl rfl rfl) ?_
    refine Run.go (Ev.allocN X 2 rfl rfl rfl) ?_
    refine Run.do_ (Ev.storeBox X rfl rfl rfl rfl rfl rfl rfl) ?_
    refine Run.nil ?_
    refine T.seq ?_
    refine T.drawM [9] [0, 1, 3, 0, 8, 31, 0, 64, 255, 511, 1023, 2047, 4095] (by kernel_rfl) (by kernel_rfl) ?_
    refine RunD.a rfl rfl (Ev.fieldBox X rfl rfl rfl rfl rfl) ?_
    refine RunD.a rfl rfl (Ev.loadBox X rfl rfl rfl rfl rfl) ?_
    obtain ⟨x2, e3, h⟩ := bdS h
    refine RunD.a rfl rfl (Ev.callC en39 (k_ratio_Print e3) rfl (.cons .v .nil) rfl rfl) ?_
    refine RunD.a rfl rfl (Ev.fieldBox X rfl rfl rfl rfl rfl) ?_
    refine RunD.a rfl rfl (Ev.loadBox X rfl rfl rfl rfl rfl) ?_
    obtain ⟨x4, e5, h⟩ := bdS h
    refine RunD.a rfl rfl (Ev.callC en39 (k_ratio_Print e5) rfl (.cons .v .nil) rfl rfl) ?_
    refine RunD.a rfl rfl (Ev.fieldBox X rfl rfl rfl rfl rfl) ?_
    refine RunD.a rfl rfl (Ev.loadBox X rfl rfl rfl rfl rfl) ?_
    obtain ⟨x6, e7, h⟩ := bdS h
    refine RunD.a rfl rfl (Ev.callC en39 (k_ratio_Print e7) rfl (.cons .v .nil) rfl rfl) ?_
    refine RunD.mD rfl (Ev.build X 3 rfl rfl rfl rfl rfl rfl rfl rfl) ?_
    obtain ⟨x8, e9, h⟩ := bdS h
    refine RunD.a rfl rfl (Ev.lend rfl (.cons (.own rfl) .nil) en14 (k_report_Words e9) rfl rfl) ?_
    refine RunD.w (fun _ => Ev.assign rfl rfl) ?_
    refine RunD.w (fun _ => Ev.assign rfl rfl) ?_
    refine RunD.nil ?_
    refine T.ret ?_
    cases h
    exact Fin.many X rfl (.cons (.tmp .v) (.cons (.tmp .v) .nil)) rfl
  · replace h := ifF hb1 h
    refine T.seq ?_
    refine T.region ?_
    refine Run.go (Ev.int rfl rfl rfl rfl trivial) ?_
    refine Run.go (Ev.assign rfl rfl) ?_
    refine Run.nil ?_
    refine T.cond rfl (fun hb10 => ?_) (fun hb10 => ?_)
    · replace h := ifT hb10 h
      refine T.seq ?_
      refine T.seq ?_
      refine T.region ?_
      refine Run.go (Ev.fieldBox X rfl rfl rfl rfl rfl) ?_
      refine Run.go (Ev.fieldBox X rfl rfl rfl rfl rfl) ?_
      refine Run.go (Ev.loadCell X rfl rfl rfl rfl rfl rfl) ?_
      refine Run.go (Ev.not rfl rfl) ?_
      refine Run.nil ?_
      refine T.cond rfl (fun hb11 => ?_) (fun hb11 => ?_)
      · replace h := ifT hb11 h
        refine T.seq ?_
        refine T.region ?_
        obtain ⟨x12, e13, h⟩ := ltS h
        refine Run.go (Ev.avs (Ev.assign rfl rfl) e13) ?_
        refine Run.go (Ev.assign rfl rfl) ?_
        refine Run.nil ?_
        refine T.ret ?_
        cases h
        exact Fin.many X rfl (.cons (.tmp .v) (.cons (.tmp .v) .nil)) rfl
      · replace h := ifF hb11 h
        refine T.skip ?_
        refine T.seq ?_
        refine T.region ?_
        refine Run.go (Ev.fieldBox X rfl rfl rfl rfl rfl) ?_
        refine Run.go (Ev.fieldBox X rfl rfl rfl rfl rfl) ?_
        refine Run.go (Ev.loadBox X rfl rfl rfl rfl rfl) ?_
        obtain ⟨x14, e15, h⟩ := bdS h
        refine Run.go (Ev.callC en39 (k_ratio_Print e15) rfl (.cons .v .nil) rfl rfl) ?_
        refine Run.go (Ev.assign rfl rfl) ?_
        refine Run.go (Ev.assign rfl rfl) ?_
        refine Run.nil ?_
        refine T.ret ?_
        cases h
        exact Fin.many X rfl (.cons (.tmp .v) (.cons (.tmp .v) .nil)) rfl
    · replace h := ifF hb10 h
      refine T.seq ?_
      refine T.region ?_
      refine Run.go (Ev.int rfl rfl rfl rfl trivial) ?_
      refine Run.go (Ev.assign rfl rfl) ?_
      refine Run.nil ?_
      refine T.cond rfl (fun hb16 => ?_) (fun hb16 => ?_)
      · replace h := ifT hb16 h
        refine T.seq ?_
        refine T.region ?_
        refine Run.go (Ev.fieldBox X rfl rfl rfl rfl rfl) ?_
        refine Run.go (Ev.loadBox X rfl rfl rfl rfl rfl) ?_
        obtain ⟨x17, e18, h⟩ := bdS h
        refine Run.go (Ev.callC en39 (k_ratio_Print e18) rfl (.cons .v .nil) rfl rfl) ?_
        refine Run.go (Ev.assign rfl rfl) ?_
        refine Run.go (Ev.assign rfl rfl) ?_
        refine Run.nil ?_
        refine T.ret ?_
        cases h
        exact Fin.many X rfl (.cons (.tmp .v) (.cons (.tmp .v) .nil)) rfl
      · replace h := ifF hb16 h
        refine T.seq ?_
        refine T.region ?_
        refine Run.go (Ev.int rfl rfl rfl rfl trivial) ?_
        refine Run.go (Ev.assign rfl rfl) ?_
        refine Run.nil ?_
        refine T.cond rfl (fun hb19 => ?_) (fun hb19 => ?_)
        · replace h := ifT hb19 h
          refine T.seq ?_
          refine T.region ?_
          refine Run.go (Ev.fieldBox X rfl rfl rfl rfl rfl) ?_
          refine Run.go (Ev.loadBox X rfl rfl rfl rfl rfl) ?_
          obtain ⟨x20, e21, h⟩ := bdS h
          refine Run.go (Ev.callC en40 (k_report_verdict e21) rfl (.cons .v .nil) rfl rfl) ?_
          refine Run.go (Ev.assign rfl rfl) ?_
          refine Run.go (Ev.assign rfl rfl) ?_
          refine Run.nil ?_
          refine T.ret ?_
          cases h
          exact Fin.many X rfl (.cons (.tmp .v) (.cons (.tmp .v) .nil)) rfl
        · replace h := ifF hb19 h
          refine T.skip ?_
          refine T.seq ?_
          refine T.region ?_
          refine Run.go (Ev.assign rfl rfl) ?_
          refine Run.go (Ev.assign rfl rfl) ?_
          refine Run.nil ?_
          refine T.ret ?_
          cases h
          exact Fin.many X rfl (.cons (.tmp .v) (.cons (.tmp .v) .nil)) rfl
theorem en43 : Enters Tryz.prog 43 := ⟨_, Tryz.func43, rfl, rfl⟩
theorem k_canon_words {p0 : (List ByteArray)} {y : ByteArray} (h : m_canon_words p0 = some y) : Spec Tryz.prog 43 [(.v (.sl .str) p0)] (.v .str y) [] := by
  rw [m_canon_words] at h
  refine enterN [(.v (.sl .str) p0)] 5 Tryz.func43 rfl rfl rfl ?_
  refine T.seq ?_
  refine T.region ?_
  refine Run.go (Ev.assign rfl rfl) ?_
  refine Run.nil ?_
  refine T.seq ?_
  refine T.region ?_
  refine Run.go (Ev.move rfl rfl) ?_
  obtain ⟨x1, e2, h⟩ := bdS h
  refine Run.go (Ev.callC en15 (k_strings_Join e2) rfl (.cons .v (.cons .v .nil)) rfl rfl) ?_
  refine Run.go (Ev.assign rfl rfl) ?_
  refine Run.nil ?_
  refine T.ret ?_
  cases h
  exact Fin.one rfl .v
theorem en89 : Enters Tryz.prog 89 := ⟨_, Tryz.func89, rfl, rfl⟩
theorem k_addr_Mask {p0 : Int} {y : Int} (h : m_addr_Mask p0 = some y) : Spec Tryz.prog 89 [(.v (.int .i64) p0)] (.v (.int .u32) y) [] := by
  rw [m_addr_Mask] at h
  refine enterN [(.v (.int .i64) p0)] 10 Tryz.func89 rfl rfl rfl ?_
  refine T.seq ?_
  refine T.region ?_
  refine Run.go (Ev.assign rfl rfl) ?_
  refine Run.nil ?_
  refine T.seq ?_
  refine T.region ?_
  refine Run.go (Ev.move rfl rfl) ?_
  refine Run.go (Ev.max rfl rfl rfl) ?_
  refine Run.go (Ev.min rfl rfl rfl) ?_
  refine Run.go (Ev.assign rfl rfl) ?_
  refine Run.nil ?_
  refine T.seq ?_
  refine T.region ?_
  refine Run.go (Ev.move rfl rfl) ?_
  refine Run.go (Ev.int rfl rfl rfl rfl trivial) ?_
  obtain ⟨x1, e2, h⟩ := bdS h
  refine Run.go (Ev.e_sh e2 rfl rfl rfl) ?_
  refine Run.go (Ev.conv X rfl rfl rfl rfl) ?_
  refine Run.go (Ev.assign rfl rfl) ?_
  refine Run.nil ?_
  refine T.ret ?_
  cases h
  exact Fin.one rfl .v
theorem en71 : Enters Tryz.prog 71 := ⟨_, Tryz.func71, rfl, rfl⟩
theorem k_addr_May {p0 : D_api_Prefix} {y : Bool} (h : m_addr_May p0 = some y) : Spec Tryz.prog 71 [(.v Y_api_Prefix p0)] (.v .bool y) [] := by
  rw [m_addr_May] at h
  refine enterN [(.v Y_api_Prefix p0)] 20 Tryz.func71 rfl rfl rfl ?_
  refine T.seq ?_
  refine T.region ?_
  refine Run.go (Ev.box 1 rfl rfl rfl rfl) ?_
  refine Run.go (Ev.assign rfl rfl) ?_
  refine Run.nil ?_
  refine T.seq ?_
  refine T.drawM [] [0, 1, 3, 7, 15, 31, 63, 127, 255, 511, 1023, 511, 2559, 6655, 16383, 32767, 65535, 131071] (by kernel_rfl) (by kernel_rfl) ?_
  refine RunD.a rfl rfl (Ev.fieldBox X rfl rfl rfl rfl rfl) ?_
  refine RunD.a rfl rfl (Ev.loadCell X rfl rfl rfl rfl rfl rfl) ?_
  refine RunD.w (fun _ => Ev.int rfl rfl rfl rfl trivial) ?_
  refine RunD.w (fun _ => Ev.move rfl rfl) ?_
  rcases boolCases (decide (0 ≤ p0.2)) with hb1 | hb1
  · replace h := ifT hb1 h
    refine RunD.on rfl rfl rfl hb1 rfl (fun ô hô => by obtain rfl := hô.resolve_left (by decide); exact Ev.fieldBox X rfl rfl rfl rfl rfl) ?_
    refine RunD.on rfl rfl rfl hb1 rfl (fun ô hô => by obtain rfl := hô.resolve_left (by decide); exact Ev.loadCell X rfl rfl rfl rfl rfl rfl) ?_
    refine RunD.on rfl rfl rfl hb1 rfl (fun _ _ => Ev.int rfl rfl rfl rfl trivial) ?_
    refine RunD.w (fun _ => Ev.pickT rfl hb1 rfl rfl) ?_
    refine RunD.w (fun _ => Ev.move rfl rfl) ?_
    rcases boolCases (decide (p0.2 ≤ 32)) with hb2 | hb2
    · replace h := ifT hb2 h
      refine RunD.on rfl rfl rfl hb2 rfl (fun ô hô => by obtain rfl := hô.resolve_left (by decide); exact Ev.fieldBox X rfl rfl rfl rfl rfl) ?_
      refine RunD.on rfl rfl rfl hb2 rfl (fun ô hô => by obtain rfl := hô.resolve_left (by decide); exact Ev.loadCell X rfl rfl rfl rfl rfl rfl) ?_
      refine RunD.on rfl rfl rfl hb2 rfl (fun ô hô => by obtain rfl := hô.resolve_left (by decide); exact Ev.fieldBox X rfl rfl rfl rfl rfl) ?_
      refine RunD.on rfl rfl rfl hb2 rfl (fun ô hô => by obtain rfl := hô.resolve_left (by decide); exact Ev.loadCell X rfl rfl rfl rfl rfl rfl) ?_
      obtain ⟨x3, e4, h⟩ := bdS h
      refine RunD.on rfl rfl rfl hb2 rfl (fun ô hô => by obtain rfl := hô.resolve_left (by decide); exact Ev.callC en89 (k_addr_Mask e4) rfl (.cons .v .nil) rfl rfl) ?_
      refine RunD.on rfl rfl rfl hb2 rfl (fun _ _ => Ev.int rfl rfl rfl rfl trivial) ?_
      refine RunD.on rfl rfl rfl hb2 rfl (fun _ _ => Ev.int rfl rfl rfl rfl trivial) ?_
      refine RunD.w (fun _ => Ev.pickT rfl hb2 rfl rfl) ?_
      obtain ⟨x5, e6, h⟩ := ltS h
      refine RunD.w (fun _ => Ev.avs (Ev.assign rfl rfl) e6) ?_
      refine RunD.nil ?_
      refine T.ret ?_
      cases h
      exact Fin.one rfl .v
    · replace h := ifF hb2 h
      refine RunD.offT rfl rfl rfl rfl hb2 ?_
      refine RunD.offT rfl rfl rfl rfl hb2 ?_
      refine RunD.offT rfl rfl rfl rfl hb2 ?_
      refine RunD.offT rfl rfl rfl rfl hb2 ?_
      refine RunD.offT rfl rfl rfl rfl hb2 ?_
      refine RunD.offT rfl rfl rfl rfl hb2 ?_
      refine RunD.offT rfl rfl rfl rfl hb2 ?_
      refine RunD.w (fun _ => Ev.pickF rfl hb2 rfl rfl) ?_
      refine RunD.w (fun _ => Ev.assign rfl rfl) ?_
      refine RunD.nil ?_
      refine T.ret ?_
      cases h
      exact Fin.one rfl .v
  · replace h := ifF hb1 h
    refine RunD.offT rfl rfl rfl rfl hb1 ?_
    refine RunD.offT rfl rfl rfl rfl hb1 ?_
    refine RunD.offT rfl rfl rfl rfl hb1 ?_
    refine RunD.w (fun _ => Ev.pickF rfl hb1 rfl rfl) ?_
    refine RunD.w (fun _ => Ev.move rfl rfl) ?_
    refine RunD.offT rfl rfl rfl rfl rfl ?_
    refine RunD.offT rfl rfl rfl rfl rfl ?_
    refine RunD.offT rfl rfl rfl rfl rfl ?_
    refine RunD.offT rfl rfl rfl rfl rfl ?_
    refine RunD.offT rfl rfl rfl rfl rfl ?_
    refine RunD.offT rfl rfl rfl rfl rfl ?_
    refine RunD.offT rfl rfl rfl rfl rfl ?_
    refine RunD.w (fun _ => Ev.pickF rfl rfl rfl rfl) ?_
    refine RunD.w (fun _ => Ev.assign rfl rfl) ?_
    refine RunD.nil ?_
    refine T.ret ?_
    cases h
    exact Fin.one rfl .v
theorem en45 : Enters Tryz.prog 45 := ⟨_, Tryz.func45, rfl, rfl⟩
theorem k_addr_Text {p0 : D_api_Prefix} {y : ByteArray} (h : m_addr_Text p0 = some y) : Spec Tryz.prog 45 [(.v Y_api_Prefix p0)] (.v .str y) [] := by
  rw [m_addr_Text] at h
  refine enterN [(.v Y_api_Prefix p0)] 14 Tryz.func45 rfl rfl rfl ?_
  refine T.seq ?_
  refine T.region ?_
  refine Run.go (Ev.box 1 rfl rfl rfl rfl) ?_
  refine Run.go (Ev.assign rfl rfl) ?_
  refine Run.nil ?_
  refine T.seq ?_
  refine T.seq ?_
  refine T.region ?_
  refine Run.go (Ev.loadBox X rfl rfl rfl rfl rfl) ?_
  obtain ⟨x1, e2, h⟩ := bdS h
  refine Run.go (Ev.callC en71 (k_addr_May e2) rfl (.cons .v .nil) rfl rfl) ?_
  refine Run.go (Ev.not rfl rfl) ?_
  refine Run.nil ?_
  refine T.cond rfl (fun hb3 => ?_) (fun hb3 => ?_)
  · replace h := ifT hb3 h
    refine T.seq ?_
    refine T.region ?_
    refine Run.go (Ev.assign rfl rfl) ?_
    refine Run.nil ?_
    refine T.ret ?_
    cases h
    exact Fin.one rfl .v
  · replace h := ifF hb3 h
    refine T.skip ?_
    refine T.seq ?_
    refine T.drawM [] [0, 1, 3, 7, 0, 16, 55, 127, 255] (by kernel_rfl) (by kernel_rfl) ?_
    refine RunD.a rfl rfl (Ev.fieldBox X rfl rfl rfl rfl rfl) ?_
    refine RunD.a rfl rfl (Ev.loadCell X rfl rfl rfl rfl rfl rfl) ?_
    obtain ⟨x4, e5, h⟩ := bdS h
    refine RunD.a rfl rfl (Ev.callC en42 (k_addr_Print e5) rfl (.cons .v .nil) rfl rfl) ?_
    obtain ⟨x6, e7, h⟩ := bdS h
    refine RunD.w (fun _ => Ev.e_cat e7 rfl rfl rfl) ?_
    refine RunD.a rfl rfl (Ev.fieldBox X rfl rfl rfl rfl rfl) ?_
    refine RunD.a rfl rfl (Ev.loadCell X rfl rfl rfl rfl rfl rfl) ?_
    obtain ⟨x8, e9, h⟩ := bdS h
    refine RunD.a rfl rfl (Ev.callC en44 (k_strconv_Itoa e9) rfl (.cons .v .nil) rfl rfl) ?_
    obtain ⟨x10, e11, h⟩ := bdS h
    refine RunD.w (fun _ => Ev.e_cat e11 rfl rfl rfl) ?_
    refine RunD.w (fun _ => Ev.assign rfl rfl) ?_
    refine RunD.nil ?_
    refine T.ret ?_
    cases h
    exact Fin.one rfl .v
theorem en21 : Enters Tryz.prog 21 := ⟨_, Tryz.func21, rfl, rfl⟩
set_option maxHeartbeats 1000000 in
theorem k_canon_Query {p0 : D_api_Query} {y : ByteArray} (h : m_canon_Query p0 = some y) : Spec Tryz.prog 21 [(.v Y_api_Query p0)] (.v .str y) [] := by
  rw [m_canon_Query] at h
  refine enterN [(.v Y_api_Query p0)] 56 Tryz.func21 rfl rfl rfl ?_
  refine T.seq ?_
  refine T.region ?_
  refine Run.go (Ev.box 1 rfl rfl rfl rfl) ?_
  refine Run.go (Ev.assign rfl rfl) ?_
  refine Run.nil ?_
  refine T.seq ?_
  refine T.region ?_
  refine Run.go (Ev.fieldBox X rfl rfl rfl rfl rfl) ?_
  refine Run.go (Ev.loadCell X rfl rfl rfl rfl rfl rfl) ?_
  obtain ⟨x1, e2, h⟩ := bdS h
  refine Run.go (Ev.callC en42 (k_addr_Print e2) rfl (.cons .v .nil) rfl rfl) ?_
  refine Run.go (Ev.assign rfl rfl) ?_
  refine Run.nil ?_
  refine T.seq ?_
  refine T.seq ?_
  refine T.region ?_
  refine Run.go (Ev.fieldBox X rfl rfl rfl rfl rfl) ?_
  refine Run.go (Ev.loadCell X rfl rfl rfl rfl rfl rfl) ?_
  refine Run.nil ?_
  refine T.block ?_
  refine T.seq ?_
  refine T.region ?_
  refine Run.go (Ev.int rfl rfl rfl rfl trivial) ?_
  refine Run.go (Ev.assign rfl rfl) ?_
  refine Run.nil ?_
  refine T.cond rfl (fun hb3 => ?_) (fun hb3 => ?_)
  · replace h := ifT hb3 h
    refine T.seq ?_
    refine T.region ?_
    refine Run.go (Ev.fieldBox X rfl rfl rfl rfl rfl) ?_
    refine Run.go (Ev.loadCell X rfl rfl rfl rfl rfl rfl) ?_
    refine Run.go (Ev.fieldBox X rfl rfl rfl rfl rfl) ?_
    refine Run.go (Ev.loadCell X rfl rfl rfl rfl rfl rfl) ?_
    refine Run.go (Ev.move rfl rfl) ?_
    refine Run.go (Ev.build X 2 rfl rfl rfl rfl rfl rfl rfl rfl) ?_
    obtain ⟨x4, e5, h⟩ := bdS h
    refine Run.go (Ev.lend rfl (.cons (.own rfl) .nil) en43 (k_canon_words e5) rfl rfl) ?_
    obtain ⟨x6, e7, h⟩ := bdS h
    refine Run.go (Ev.e_cat e7 rfl rfl rfl) ?_
    refine Run.go (Ev.assign rfl rfl) ?_
    refine Run.nil ?_
    refine T.ret ?_
    cases h
    exact Fin.one rfl .v
  · replace h := ifF hb3 h
    refine T.seq ?_
    refine T.region ?_
    refine Run.go (Ev.int rfl rfl rfl rfl trivial) ?_
    refine Run.go (Ev.assign rfl rfl) ?_
    refine Run.nil ?_
    refine T.cond rfl (fun hb8 => ?_) (fun hb8 => ?_)
    · replace h := ifT hb8 h
      refine T.seq ?_
      refine T.region ?_
      refine Run.go (Ev.fieldBox X rfl rfl rfl rfl rfl) ?_
      refine Run.go (Ev.loadCell X rfl rfl rfl rfl rfl rfl) ?_
      refine Run.go (Ev.fieldBox X rfl rfl rfl rfl rfl) ?_
      refine Run.go (Ev.loadCell X rfl rfl rfl rfl rfl rfl) ?_
      refine Run.go (Ev.move rfl rfl) ?_
      refine Run.go (Ev.build X 3 rfl rfl rfl rfl rfl rfl rfl rfl) ?_
      obtain ⟨x9, e10, h⟩ := bdS h
      refine Run.go (Ev.lend rfl (.cons (.own rfl) .nil) en43 (k_canon_words e10) rfl rfl) ?_
      obtain ⟨x11, e12, h⟩ := bdS h
      refine Run.go (Ev.e_cat e12 rfl rfl rfl) ?_
      refine Run.go (Ev.assign rfl rfl) ?_
      refine Run.nil ?_
      refine T.ret ?_
      cases h
      exact Fin.one rfl .v
    · replace h := ifF hb8 h
      refine T.seq ?_
      refine T.region ?_
      refine Run.go (Ev.int rfl rfl rfl rfl trivial) ?_
      refine Run.go (Ev.assign rfl rfl) ?_
      refine Run.nil ?_
      refine T.cond rfl (fun hb13 => ?_) (fun hb13 => ?_)
      · replace h := ifT hb13 h
        refine T.seq ?_
        refine T.drawM [8] [0, 1, 0, 4, 0, 0, 32, 96, 255, 511, 1023, 2047] (by kernel_rfl) (by kernel_rfl) ?_
        refine RunD.a rfl rfl (Ev.fieldBox X rfl rfl rfl rfl rfl) ?_
        refine RunD.a rfl rfl (Ev.loadCell X rfl rfl rfl rfl rfl rfl) ?_
        refine RunD.a rfl rfl (Ev.fieldBox X rfl rfl rfl rfl rfl) ?_
        refine RunD.a rfl rfl (Ev.loadCell X rfl rfl rfl rfl rfl rfl) ?_
        refine RunD.w (fun _ => Ev.move rfl rfl) ?_
        refine RunD.a rfl rfl (Ev.fieldBox X rfl rfl rfl rfl rfl) ?_
        refine RunD.a rfl rfl (Ev.loadCell X rfl rfl rfl rfl rfl rfl) ?_
        obtain ⟨x14, e15, h⟩ := bdS h
        refine RunD.a rfl rfl (Ev.callC en44 (k_strconv_Itoa e15) rfl (.cons .v .nil) rfl rfl) ?_
        refine RunD.mD rfl (Ev.build X 4 rfl rfl rfl rfl rfl rfl rfl rfl) ?_
        obtain ⟨x16, e17, h⟩ := bdS h
        refine RunD.a rfl rfl (Ev.lend rfl (.cons (.own rfl) .nil) en43 (k_canon_words e17) rfl rfl) ?_
        obtain ⟨x18, e19, h⟩ := bdS h
        refine RunD.w (fun _ => Ev.e_cat e19 rfl rfl rfl) ?_
        refine RunD.w (fun _ => Ev.assign rfl rfl) ?_
        refine RunD.nil ?_
        refine T.ret ?_
        cases h
        exact Fin.one rfl .v
      · replace h := ifF hb13 h
        refine T.seq ?_
        refine T.region ?_
        refine Run.go (Ev.int rfl rfl rfl rfl trivial) ?_
        refine Run.go (Ev.assign rfl rfl) ?_
        refine Run.nil ?_
        refine T.cond rfl (fun hb20 => ?_) (fun hb20 => ?_)
        · replace h := ifT hb20 h
          refine T.seq ?_
          refine T.drawM [9] [0, 1, 0, 4, 0, 16, 0, 64, 192, 511, 1023, 2047, 4095] (by kernel_rfl) (by kernel_rfl) ?_
          refine RunD.a rfl rfl (Ev.fieldBox X rfl rfl rfl rfl rfl) ?_
          refine RunD.a rfl rfl (Ev.loadCell X rfl rfl rfl rfl rfl rfl) ?_
          refine RunD.a rfl rfl (Ev.fieldBox X rfl rfl rfl rfl rfl) ?_
          refine RunD.a rfl rfl (Ev.loadCell X rfl rfl rfl rfl rfl rfl) ?_
          refine RunD.a rfl rfl (Ev.fieldBox X rfl rfl rfl rfl rfl) ?_
          refine RunD.a rfl rfl (Ev.loadCell X rfl rfl rfl rfl rfl rfl) ?_
          refine RunD.a rfl rfl (Ev.fieldBox X rfl rfl rfl rfl rfl) ?_
          refine RunD.a rfl rfl (Ev.loadBox X rfl rfl rfl rfl rfl) ?_
          obtain ⟨x21, e22, h⟩ := bdS h
          refine RunD.a rfl rfl (Ev.callC en45 (k_addr_Text e22) rfl (.cons .v .nil) rfl rfl) ?_
          refine RunD.mD rfl (Ev.build X 5 rfl rfl rfl rfl rfl rfl rfl rfl) ?_
          obtain ⟨x23, e24, h⟩ := bdS h
          refine RunD.a rfl rfl (Ev.lend rfl (.cons (.own rfl) .nil) en43 (k_canon_words e24) rfl rfl) ?_
          obtain ⟨x25, e26, h⟩ := bdS h
          refine RunD.w (fun _ => Ev.e_cat e26 rfl rfl rfl) ?_
          refine RunD.w (fun _ => Ev.assign rfl rfl) ?_
          refine RunD.nil ?_
          refine T.ret ?_
          cases h
          exact Fin.one rfl .v
        · replace h := ifF hb20 h
          refine T.skip ?_
          refine T.seq ?_
          refine T.region ?_
          refine Run.go (Ev.assign rfl rfl) ?_
          refine Run.nil ?_
          refine T.ret ?_
          cases h
          exact Fin.one rfl .v
end Go.Proofs.YtkjkipkfndckfaaGreatDoor.AE
/- The code comes to the printed functions (printed by a program of ours). -/
namespace Go.Proofs.YtkjkipkfndckfaaGreatDoor.AE
open Go Go.RowKit Go.Proofs.YtkjkipkfndckfaaGreatDoor.AP
set_option linter.unusedVariables false
set_option maxRecDepth 20000
theorem en69 : Enters Tryz.prog 69 := ⟨_, Tryz.func69, rfl, rfl⟩
theorem k_internal_stringslite_HasSuffix {p0 : ByteArray} {p1 : ByteArray} {y : Bool} (h : m_internal_stringslite_HasSuffix p0 p1 = some y) : Spec Tryz.prog 69 [(.v .str p0), (.v .str p1)] (.v .bool y) [] := by
  rw [m_internal_stringslite_HasSuffix] at h
  refine enterN [(.v .str p0), (.v .str p1)] 21 Tryz.func69 rfl rfl rfl ?_
  refine T.seq ?_
  refine T.region ?_
  refine Run.go (Ev.assign rfl rfl) ?_
  refine Run.nil ?_
  refine T.seq ?_
  refine T.region ?_
  refine Run.go (Ev.move rfl rfl) ?_
  refine Run.go (Ev.len X rfl rfl rfl rfl) ?_
  refine Run.go (Ev.move rfl rfl) ?_
  refine Run.go (Ev.len X rfl rfl rfl rfl) ?_
  refine Run.go (Ev.int rfl rfl rfl rfl trivial) ?_
  refine Run.go (Ev.move rfl rfl) ?_
  rcases boolCases (decide ((p1.size : Int) ≤ (p0.size : Int))) with hb1 | hb1
  · replace h := ifT hb1 h
    refine Run.on rfl rfl rfl hb1 (Ev.move rfl rfl) ?_
    refine Run.on rfl rfl rfl hb1 (Ev.move rfl rfl) ?_
    refine Run.on rfl rfl rfl hb1 (Ev.len X rfl rfl rfl rfl) ?_
    refine Run.on rfl rfl rfl hb1 (Ev.move rfl rfl) ?_
    refine Run.on rfl rfl rfl hb1 (Ev.len X rfl rfl rfl rfl) ?_
    refine Run.on rfl rfl rfl hb1 (Ev.int rfl rfl rfl rfl trivial) ?_
    obtain ⟨x2, e3, h⟩ := bdS h
    refine Run.on rfl rfl rfl hb1 (Ev.e_cs X e3 rfl rfl rfl (fun _ _ => cutAt_of rfl) (fun h => by cases h) (fun _ h => by cases h) (fun _ => rfl)) ?_
    refine Run.on rfl rfl rfl hb1 (Ev.move rfl rfl) ?_
    refine Run.on rfl rfl rfl hb1 (Ev.strs rfl rfl rfl rfl trivial) ?_
    refine Run.go (Ev.pickT rfl hb1 rfl rfl) ?_
    refine Run.go (Ev.assign rfl rfl) ?_
    refine Run.nil ?_
    refine T.ret ?_
    cases h
    exact Fin.one rfl .v
  · replace h := ifF hb1 h
    refine Run.offT rfl rfl rfl rfl hb1 ?_
    refine Run.offT rfl rfl rfl rfl hb1 ?_
    refine Run.offT rfl rfl rfl rfl hb1 ?_
    refine Run.offT rfl rfl rfl rfl hb1 ?_
    refine Run.offT rfl rfl rfl rfl hb1 ?_
    refine Run.offT rfl rfl rfl rfl hb1 ?_
    refine Run.offT rfl rfl rfl rfl hb1 ?_
    refine Run.offT rfl rfl rfl rfl hb1 ?_
    refine Run.offT rfl rfl rfl rfl hb1 ?_
    refine Run.go (Ev.pickF rfl hb1 rfl rfl) ?_
    refine Run.go (Ev.assign rfl rfl) ?_
    refine Run.nil ?_
    refine T.ret ?_
    cases h
    exact Fin.one rfl .v
theorem en41 : Enters Tryz.prog 41 := ⟨_, Tryz.func41, rfl, rfl⟩
theorem k_internal_stringslite_TrimSuffix {p0 : ByteArray} {p1 : ByteArray} {y : ByteArray} (h : m_internal_stringslite_TrimSuffix p0 p1 = some y) : Spec Tryz.prog 41 [(.v .str p0), (.v .str p1)] (.v .str y) [] := by
  rw [m_internal_stringslite_TrimSuffix] at h
  refine enterN [(.v .str p0), (.v .str p1)] 16 Tryz.func41 rfl rfl rfl ?_
  refine T.seq ?_
  refine T.region ?_
  refine Run.go (Ev.assign rfl rfl) ?_
  refine Run.nil ?_
  refine T.seq ?_
  refine T.seq ?_
  refine T.region ?_
  refine Run.go (Ev.move rfl rfl) ?_
  refine Run.go (Ev.move rfl rfl) ?_
  obtain ⟨x1, e2, h⟩ := bdS h
  refine Run.go (Ev.callC en69 (k_internal_stringslite_HasSuffix e2) rfl (.cons .v (.cons .v .nil)) rfl rfl) ?_
  refine Run.nil ?_
  refine T.cond rfl (fun hb3 => ?_) (fun hb3 => ?_)
  · replace h := ifT hb3 h
    refine T.seq ?_
    refine T.region ?_
    refine Run.go (Ev.move rfl rfl) ?_
    refine Run.go (Ev.move rfl rfl) ?_
    refine Run.go (Ev.len X rfl rfl rfl rfl) ?_
    refine Run.go (Ev.move rfl rfl) ?_
    refine Run.go (Ev.len X rfl rfl rfl rfl) ?_
    refine Run.go (Ev.int rfl rfl rfl rfl trivial) ?_
    obtain ⟨x4, e5, h⟩ := bdS h
    refine Run.go (Ev.e_cs X e5 rfl rfl rfl (fun _ h => by cases h) (fun _ => rfl) (fun _ _ => cutAt_of rfl) (fun h => by cases h)) ?_
    refine Run.go (Ev.assign rfl rfl) ?_
    refine Run.nil ?_
    refine T.ret ?_
    cases h
    exact Fin.one rfl .v
  · replace h := ifF hb3 h
    refine T.skip ?_
    refine T.seq ?_
    refine T.region ?_
    refine Run.go (Ev.move rfl rfl) ?_
    refine Run.go (Ev.assign rfl rfl) ?_
    refine Run.nil ?_
    refine T.ret ?_
    cases h
    exact Fin.one rfl .v
theorem en20 : Enters Tryz.prog 20 := ⟨_, Tryz.func20, rfl, rfl⟩
theorem k_strings_TrimSuffix {p0 : ByteArray} {p1 : ByteArray} {y : ByteArray} (h : m_strings_TrimSuffix p0 p1 = some y) : Spec Tryz.prog 20 [(.v .str p0), (.v .str p1)] (.v .str y) [] := by
  rw [m_strings_TrimSuffix] at h
  refine enterN [(.v .str p0), (.v .str p1)] 8 Tryz.func20 rfl rfl rfl ?_
  refine T.seq ?_
  refine T.region ?_
  refine Run.go (Ev.assign rfl rfl) ?_
  refine Run.nil ?_
  refine T.seq ?_
  refine T.region ?_
  refine Run.go (Ev.move rfl rfl) ?_
  refine Run.go (Ev.move rfl rfl) ?_
  obtain ⟨x1, e2, h⟩ := bdS h
  refine Run.go (Ev.callC en41 (k_internal_stringslite_TrimSuffix e2) rfl (.cons .v (.cons .v .nil)) rfl rfl) ?_
  refine Run.go (Ev.assign rfl rfl) ?_
  refine Run.nil ?_
  refine T.ret ?_
  cases h
  exact Fin.one rfl .v
theorem en7 : Enters Tryz.prog 7 := ⟨_, Tryz.func7, rfl, rfl⟩
theorem k_report_Line {p0 : D_api_Query} {p1 : D_engine_Answer} {y : ByteArray} (h : m_report_Line p0 p1 = some y) : Spec Tryz.prog 7 [(.v Y_api_Query p0), (.v Y_engine_Answer p1)] (.v .str y) [] := by
  rw [m_report_Line] at h
  refine enterN [(.v Y_api_Query p0), (.v Y_engine_Answer p1)] 21 Tryz.func7 rfl rfl rfl ?_
  refine T.seq ?_
  refine T.region ?_
  refine Run.go (Ev.box 1 rfl rfl rfl rfl) ?_
  refine Run.go (Ev.box 2 rfl rfl rfl rfl) ?_
  refine Run.go (Ev.assign rfl rfl) ?_
  refine Run.nil ?_
  refine T.seq ?_
  refine T.region ?_
  refine Run.go (Ev.loadBox X rfl rfl rfl rfl rfl) ?_
  obtain ⟨x1, e2, h⟩ := bdS h
  refine Run.go (Ev.callC en19 (k_report_told e2) rfl (.cons .v .nil) rfl rfl) ?_
  refine Run.go (Ev.move rfl rfl) ?_
  refine Run.go (Ev.extract rfl rfl rfl) ?_
  refine Run.go (Ev.extract rfl rfl rfl) ?_
  refine Run.go (Ev.assign rfl rfl) ?_
  refine Run.go (Ev.assign rfl rfl) ?_
  refine Run.nil ?_
  refine T.seq ?_
  refine T.seq ?_
  refine T.region ?_
  refine Run.go (Ev.move rfl rfl) ?_
  refine Run.go (Ev.not rfl rfl) ?_
  refine Run.nil ?_
  refine T.cond rfl (fun hb3 => ?_) (fun hb3 => ?_)
  · replace h := ifT hb3 h
    refine T.seq ?_
    refine T.region ?_
    refine Run.go (Ev.assign rfl rfl) ?_
    refine Run.nil ?_
    refine T.ret ?_
    cases h
    exact Fin.one rfl .v
  · replace h := ifF hb3 h
    refine T.skip ?_
    refine T.seq ?_
    refine T.region ?_
    refine Run.go (Ev.loadBox X rfl rfl rfl rfl rfl) ?_
    obtain ⟨x4, e5, h⟩ := bdS h
    refine Run.go (Ev.callC en21 (k_canon_Query e5) rfl (.cons .v .nil) rfl rfl) ?_
    obtain ⟨x6, e7, h⟩ := bdS h
    refine Run.go (Ev.callC en20 (k_strings_TrimSuffix e7) rfl (.cons .v (.cons .v .nil)) rfl rfl) ?_
    obtain ⟨x8, e9, h⟩ := bdS h
    refine Run.go (Ev.e_cat e9 rfl rfl rfl) ?_
    refine Run.go (Ev.move rfl rfl) ?_
    refine Run.go (Ev.build X 3 rfl rfl rfl rfl rfl rfl rfl rfl) ?_
    obtain ⟨x10, e11, h⟩ := bdS h
    refine Run.go (Ev.lend rfl (.cons (.own rfl) .nil) en14 (k_report_Words e11) rfl rfl) ?_
    refine Run.go (Ev.assign rfl rfl) ?_
    refine Run.nil ?_
    refine T.ret ?_
    cases h
    exact Fin.one rfl .v
theorem en12 : Enters Tryz.prog 12 := ⟨_, Tryz.func12, rfl, rfl⟩
theorem k_report_All {p0 : (List D_api_Query)} {p1 : (List D_engine_Answer)} {y : ByteArray} (h : m_report_All p0 p1 = some y) : Spec Tryz.prog 12 [(.v (.sl Y_api_Query) p0), (.v (.sl Y_engine_Answer) p1)] (.v .str y) [] := by
  rw [m_report_All] at h
  refine enterN [(.v (.sl Y_api_Query) p0), (.v (.sl Y_engine_Answer) p1)] 28 Tryz.func12 rfl rfl rfl ?_
  refine T.seq ?_
  refine T.region ?_
  refine Run.go (Ev.assign rfl rfl) ?_
  refine Run.nil ?_
  refine T.seq ?_
  refine T.region ?_
  refine Run.go (Ev.e_allocB 1 2 5 zs94 rfl rfl rfl) ?_
  refine Run.nil ?_
  obtain ⟨⟨v1, v2⟩, hv, h⟩ := bdS h
  refine T.cut (fun _ : Unit => (⟨[(5, .box 1 0)], [(1, .box [.pn v1 1 0 94, .owz 7]), (7, .arr 5 (.int .u8) v2)], 28⟩ : St)) (fun _ => True) ?_ (fun _ _ => ?_)
  · replace h := hv
    clear hv
    refine T.seq ?_
    refine T.region ?_
    refine Run.go (Ev.move rfl rfl) ?_
    refine Run.go (Ev.len X rfl rfl rfl rfl) ?_
    refine Run.go (Ev.move rfl rfl) ?_
    refine Run.go (Ev.len X rfl rfl rfl rfl) ?_
    refine Run.go (Ev.min rfl rfl rfl) ?_
    refine Run.go (Ev.move rfl rfl) ?_
    refine Run.nil ?_
    refine T.block ?_
    refine T.loop (LoopT.ghost (Ghost.only [(1, 1), (2, 18)] [0, 1, 5, 11, 12] rfl) (LoopT.run (fun q : Int × Bool × (List Int) => (⟨[(0, .v (.sl Y_api_Query) p0), (1, .v (.sl Y_engine_Answer) p1), (5, .box 1 0), (11, .v (.int .i64) (min (p0.length : Int) (p1.length : Int) : Int)), (12, .v (.int .i64) q.1)], [(1, .box [.pn q.2.1 1 0 94, .owz 18]), (18, .arr 5 (.int .u8) q.2.2)], 28⟩ : St)) (fun q z1 h hz1 => ?_) h))
    obtain ⟨v3, v4, v5⟩ := q
    dsimp only
    rw [m_report_All_l1] at h
    refine T.seq ?_
    refine T.region ?_
    refine Run.go (Ev.int rfl rfl rfl rfl trivial) ?_
    refine Run.nil ?_
    refine T.seq ?_
    refine T.cond rfl (fun hb6 => ?_) (fun hb6 => ?_)
    · replace h := ifT hb6 h
      refine T.skip ?_
      refine T.seq ?_
      refine T.block ?_
      refine T.seq ?_
      refine T.region ?_
      refine Run.go (Ev.move rfl rfl) ?_
      refine Run.go (Ev.assign rfl rfl) ?_
      refine Run.nil ?_
      refine T.drawM [10] [0, 0, 3, 7, 0, 0, 48, 112, 255, 511, 1023] (by kernel_rfl) (by kernel_rfl) ?_
      refine RunD.w (fun _ => Ev.move rfl rfl) ?_
      refine RunD.w (fun _ => Ev.move rfl rfl) ?_
      obtain ⟨x7, e8, h⟩ := bdS h
      refine RunD.a rfl rfl (Ev.e_rd X e8 rfl rfl rfl rfl) ?_
      refine RunD.a rfl rfl (Ev.load X rfl rfl rfl) ?_
      refine RunD.w (fun _ => Ev.move rfl rfl) ?_
      refine RunD.w (fun _ => Ev.move rfl rfl) ?_
      obtain ⟨x9, e10, h⟩ := bdS h
      refine RunD.a rfl rfl (Ev.e_rd X e10 rfl rfl rfl rfl) ?_
      refine RunD.a rfl rfl (Ev.load X rfl rfl rfl) ?_
      obtain ⟨x11, e12, h⟩ := bdS h
      refine RunD.a rfl rfl (Ev.callC en7 (k_report_Line e12) rfl (.cons .v (.cons .v .nil)) rfl rfl) ?_
      obtain ⟨x13, e14, h⟩ := bdS h
      refine RunD.w (fun _ => Ev.e_cat e14 rfl rfl rfl) ?_
      obtain ⟨x16, e15, h⟩ := bdS h
      refine RunD.mD rfl (Ev.w3 (Ev.lendM [(1, 1), (18, 2)] [(1, 1), (2, 18), (4, 22)] en27 (k_strings_Builder_WriteString_M e15) rfl (.cons (.ren rfl) (.cons (.ren rfl) .nil)) rfl rfl rfl rfl rfl (A := .tup [.v (.int .i64) ((x13.size : Int) : Int), .bot]) rfl (W := [(1, .box [.pn x16.1 1 0 94, .owz 22]), (18, .dead), (22, .arr 5 (.int .u8) x16.2)]) rfl rfl)) ?_
      refine RunD.nil ?_
      refine T.region ?_
      refine Run.go (Ev.int rfl rfl rfl rfl trivial) ?_
      refine Run.go (Ev.move rfl rfl) ?_
      refine Run.nil ?_
      cases h
      exact LoopT.ghost (Ghost.only [(1, 1), (22, 18)] [0, 1, 5, 11, 12] rfl) hz1
    · replace h := ifF hb6 h
      refine T.exit ?_
      cases h
      cases hz1
      exact ⟨(), trivial, Ghost.only [(1, 1), (18, 7)] [5] rfl⟩
  · refine T.seq ?_
    refine T.region ?_
    obtain ⟨x18, e17, h⟩ := bdS h
    refine Run.go (Ev.w2 (Ev.lendM [(1, 1), (7, 2)] [(1, 1), (2, 7)] en28 (k_strings_Builder_String_M e17) rfl (.cons (.ren rfl) .nil) rfl rfl rfl rfl rfl (A := .v .str x18) rfl (W := [(1, .box [.pn v1 1 0 94, .bot]), (7, .dead)]) rfl rfl)) ?_
    refine Run.go (Ev.assign rfl rfl) ?_
    refine Run.nil ?_
    refine T.ret ?_
    cases h
    exact Fin.one rfl .v
theorem en29 : Enters Tryz.prog 29 := ⟨_, Tryz.func29, rfl, rfl⟩
theorem k_unicode_utf8_RuneCountInString {p0 : ByteArray} {y : Int} (h : m_unicode_utf8_RuneCountInString p0 = some y) : Spec Tryz.prog 29 [(.v .str p0)] (.v (.int .i64) y) [] := by
  rw [m_unicode_utf8_RuneCountInString] at h
  refine enterN [(.v .str p0)] 10 Tryz.func29 rfl rfl rfl ?_
  refine T.seq ?_
  refine T.region ?_
  refine Run.go (Ev.assign rfl rfl) ?_
  refine Run.nil ?_
  obtain ⟨v1, hv, h⟩ := bdS h
  refine T.cut (fun _ : Unit => (⟨[(2, .v (.int .i64) v1)], [], 10⟩ : St)) (fun _ => True) ?_ (fun _ _ => ?_)
  · replace h := hv
    clear hv
    refine T.seq ?_
    refine T.region ?_
    refine Run.go (Ev.move rfl rfl) ?_
    refine Run.go (Ev.e_range X 5 rfl rfl rfl rfl) ?_
    refine Run.nil ?_
    refine T.block ?_
    refine T.loop (LoopT.ghost (Ghost.only [(5, 5)] [2, 4] rfl) (LoopT.run (fun q : Int × Nat => (⟨[(2, .v (.int .i64) q.1), (4, .it 5)], [(5, .siter p0 q.2)], 10⟩ : St)) (fun q z1 h hz1 => ?_) h))
    obtain ⟨v2, v3⟩ := q
    dsimp only
    rw [m_unicode_utf8_RuneCountInString_l1] at h
    refine T.seq ?_
    refine T.region ?_
    rcases boolCases (decide (v3 < p0.size)) with hb4 | hb4
    · replace h := ifT hb4 h
      refine Run.go (Ev.e_nextT hb4 rfl rfl rfl) ?_
      refine Run.go (Ev.extract rfl rfl rfl) ?_
      refine Run.nil ?_
      refine T.seq ?_
      refine T.condT rfl rfl ?_
      refine T.skip ?_
      refine T.block ?_
      refine T.region ?_
      refine Run.go (Ev.move rfl rfl) ?_
      refine Run.go (Ev.int rfl rfl rfl rfl trivial) ?_
      refine Run.go (Ev.assign rfl rfl) ?_
      refine Run.nil ?_
      cases h
      exact LoopT.ghost (Ghost.only [(5, 5)] [2, 4] rfl) hz1
    · replace h := ifF hb4 h
      refine Run.go (Ev.e_nextF hb4 rfl rfl rfl) ?_
      refine Run.go (Ev.extract rfl rfl rfl) ?_
      refine Run.nil ?_
      refine T.seq ?_
      refine T.condF rfl rfl ?_
      refine T.exit ?_
      cases h
      cases hz1
      exact ⟨(), trivial, Ghost.only [] [2] rfl⟩
  · refine T.seq ?_
    refine T.region ?_
    refine Run.go (Ev.move rfl rfl) ?_
    refine Run.go (Ev.assign rfl rfl) ?_
    refine Run.nil ?_
    refine T.ret ?_
    cases h
    exact Fin.one rfl .v
theorem en79 : Enters Tryz.prog 79 := ⟨_, Tryz.func79, rfl, rfl⟩
theorem k_internal_stringslite_IndexByte {p0 : ByteArray} {p1 : Int} {y : Int} (h : m_internal_stringslite_IndexByte p0 p1 = some y) : Spec Tryz.prog 79 [(.v .str p0), (.v (.int .u8) p1)] (.v (.int .i64) y) [] := by
  rw [m_internal_stringslite_IndexByte] at h
  refine enterN [(.v .str p0), (.v (.int .u8) p1)] 8 Tryz.func79 rfl rfl rfl ?_
  refine T.seq ?_
  refine T.region ?_
  refine Run.go (Ev.assign rfl rfl) ?_
  refine Run.nil ?_
  refine T.seq ?_
  refine T.region ?_
  refine Run.go (Ev.move rfl rfl) ?_
  refine Run.go (Ev.move rfl rfl) ?_
  refine Run.go (Ev.e_idxb ib96 rfl rfl rfl rfl) ?_
  refine Run.go (Ev.assign rfl rfl) ?_
  refine Run.nil ?_
  refine T.ret ?_
  cases h
  exact Fin.one rfl .v
theorem en57 : Enters Tryz.prog 57 := ⟨_, Tryz.func57, rfl, rfl⟩
theorem k_internal_stringslite_Index {p0 : ByteArray} {p1 : ByteArray} {y : Int} (h : m_internal_stringslite_Index p0 p1 = some y) : Spec Tryz.prog 57 [(.v .str p0), (.v .str p1)] (.v (.int .i64) y) [] := by
  rw [m_internal_stringslite_Index] at h
  refine enterN [(.v .str p0), (.v .str p1)] 143 Tryz.func57 rfl rfl rfl ?_
  refine T.seq ?_
  refine T.region ?_
  refine Run.go (Ev.assign rfl rfl) ?_
  refine Run.nil ?_
  refine T.seq ?_
  refine T.region ?_
  refine Run.go (Ev.move rfl rfl) ?_
  refine Run.go (Ev.len X rfl rfl rfl rfl) ?_
  refine Run.go (Ev.assign rfl rfl) ?_
  refine Run.nil ?_
  refine T.seq ?_
  refine T.block ?_
  obtain ⟨v1, hv, h⟩ := bdS h
  refine T.cut (fun _ : Unit => (⟨[(0, .v .str p0), (1, .v .str p1), (5, .v (.int .i64) ((p1.size : Int) : Int)), (16, .v .bool v1)], [], 143⟩ : St)) (fun _ => True) ?_ (fun _ _ => ?_)
  · replace h := hv
    clear hv
    refine T.region ?_
    refine Run.go (Ev.move rfl rfl) ?_
    refine Run.go (Ev.int rfl rfl rfl rfl trivial) ?_
    refine Run.go (Ev.move rfl rfl) ?_
    rcases boolCases (decide ((p1.size : Int) = 0)) with hb2 | hb2
    · replace h := ifT hb2 h
      refine Run.offT rfl rfl rfl rfl hb2 ?_
      refine Run.offT rfl rfl rfl rfl hb2 ?_
      refine Run.offT rfl rfl rfl rfl hb2 ?_
      refine Run.go (Ev.pickT rfl hb2 rfl rfl) ?_
      refine Run.go (Ev.assign rfl rfl) ?_
      refine Run.nil ?_
      cases h
      exact ⟨(), trivial, Ghost.only [] [0, 1, 5, 16] rfl⟩
    · replace h := ifF hb2 h
      refine Run.on rfl rfl rfl hb2 (Ev.move rfl rfl) ?_
      refine Run.on rfl rfl rfl hb2 (Ev.move rfl rfl) ?_
      refine Run.on rfl rfl rfl hb2 (Ev.strs rfl rfl rfl rfl trivial) ?_
      refine Run.go (Ev.pickF rfl hb2 rfl rfl) ?_
      refine Run.go (Ev.assign rfl rfl) ?_
      refine Run.nil ?_
      cases h
      exact ⟨(), trivial, Ghost.only [] [0, 1, 5, 16] rfl⟩
  · refine T.cond rfl (fun hb3 => ?_) (fun hb3 => ?_)
    · replace h := ifT hb3 h
      refine T.seq ?_
      refine T.region ?_
      refine Run.go (Ev.assign rfl rfl) ?_
      refine Run.nil ?_
      refine T.ret ?_
      cases h
      exact Fin.one rfl .v
    · replace h := ifF hb3 h
      refine T.seq ?_
      refine T.region ?_
      refine Run.go (Ev.move rfl rfl) ?_
      refine Run.go (Ev.int rfl rfl rfl rfl trivial) ?_
      refine Run.go (Ev.assign rfl rfl) ?_
      refine Run.nil ?_
      refine T.cond rfl (fun hb4 => ?_) (fun hb4 => ?_)
      · replace h := ifT hb4 h
        refine T.seq ?_
        refine T.region ?_
        refine Run.go (Ev.move rfl rfl) ?_
        refine Run.go (Ev.move rfl rfl) ?_
        obtain ⟨x5, e6, h⟩ := bdS h
        refine Run.go (Ev.e_bt X e6 rfl rfl rfl rfl) ?_
        obtain ⟨x7, e8, h⟩ := bdS h
        refine Run.go (Ev.callC en79 (k_internal_stringslite_IndexByte e8) rfl (.cons .v (.cons .v .nil)) rfl rfl) ?_
        refine Run.go (Ev.assign rfl rfl) ?_
        refine Run.nil ?_
        refine T.ret ?_
        cases h
        exact Fin.one rfl .v
      · replace h := ifF hb4 h
        refine T.seq ?_
        refine T.region ?_
        refine Run.go (Ev.move rfl rfl) ?_
        refine Run.go (Ev.move rfl rfl) ?_
        refine Run.go (Ev.len X rfl rfl rfl rfl) ?_
        refine Run.go (Ev.int rfl rfl rfl rfl trivial) ?_
        obtain ⟨x9, e10, h⟩ := ltS h
        refine Run.go (Ev.avs (Ev.assign rfl rfl) e10) ?_
        refine Run.nil ?_
        refine T.cond rfl (fun hb11 => ?_) (fun hb11 => ?_)
        · replace h := ifT hb11 h
          refine T.seq ?_
          refine T.region ?_
          refine Run.go (Ev.assign rfl rfl) ?_
          refine Run.nil ?_
          refine T.ret ?_
          cases h
          exact Fin.one rfl .v
        · replace h := ifF hb11 h
          refine T.seq ?_
          refine T.region ?_
          refine Run.go (Ev.move rfl rfl) ?_
          cases h
theorem en31 : Enters Tryz.prog 31 := ⟨_, Tryz.func31, rfl, rfl⟩
theorem k_strings_Index {p0 : ByteArray} {p1 : ByteArray} {y : Int} (h : m_strings_Index p0 p1 = some y) : Spec Tryz.prog 31 [(.v .str p0), (.v .str p1)] (.v (.int .i64) y) [] := by
  rw [m_strings_Index] at h
  refine enterN [(.v .str p0), (.v .str p1)] 8 Tryz.func31 rfl rfl rfl ?_
  refine T.seq ?_
  refine T.region ?_
  refine Run.go (Ev.assign rfl rfl) ?_
  refine Run.nil ?_
  refine T.seq ?_
  refine T.region ?_
  refine Run.go (Ev.move rfl rfl) ?_
  refine Run.go (Ev.move rfl rfl) ?_
  obtain ⟨x1, e2, h⟩ := bdS h
  refine Run.go (Ev.callC en57 (k_internal_stringslite_Index e2) rfl (.cons .v (.cons .v .nil)) rfl rfl) ?_
  refine Run.go (Ev.assign rfl rfl) ?_
  refine Run.nil ?_
  refine T.ret ?_
  cases h
  exact Fin.one rfl .v
theorem en13 : Enters Tryz.prog 13 := ⟨_, Tryz.func13, rfl, rfl⟩
theorem k_strings_Count {p0 : ByteArray} {p1 : ByteArray} {y : Int} (h : m_strings_Count p0 p1 = some y) : Spec Tryz.prog 13 [(.v .str p0), (.v .str p1)] (.v (.int .i64) y) [] := by
  rw [m_strings_Count] at h
  refine enterN [(.v .str p0), (.v .str p1)] 34 Tryz.func13 rfl rfl rfl ?_
  refine T.seq ?_
  refine T.region ?_
  refine Run.go (Ev.assign rfl rfl) ?_
  refine Run.nil ?_
  refine T.seq ?_
  refine T.seq ?_
  refine T.region ?_
  refine Run.go (Ev.move rfl rfl) ?_
  refine Run.go (Ev.len X rfl rfl rfl rfl) ?_
  refine Run.go (Ev.int rfl rfl rfl rfl trivial) ?_
  refine Run.nil ?_
  refine T.cond rfl (fun hb1 => ?_) (fun hb1 => ?_)
  · replace h := ifT hb1 h
    refine T.seq ?_
    refine T.region ?_
    refine Run.go (Ev.move rfl rfl) ?_
    obtain ⟨x2, e3, h⟩ := bdS h
    refine Run.go (Ev.callC en29 (k_unicode_utf8_RuneCountInString e3) rfl (.cons .v .nil) rfl rfl) ?_
    refine Run.go (Ev.int rfl rfl rfl rfl trivial) ?_
    refine Run.go (Ev.assign rfl rfl) ?_
    refine Run.nil ?_
    refine T.ret ?_
    cases h
    exact Fin.one rfl .v
  · replace h := ifF hb1 h
    refine T.skip ?_
    refine T.seq ?_
    refine T.seq ?_
    refine T.region ?_
    refine Run.go (Ev.move rfl rfl) ?_
    refine Run.go (Ev.len X rfl rfl rfl rfl) ?_
    refine Run.go (Ev.int rfl rfl rfl rfl trivial) ?_
    refine Run.nil ?_
    refine T.cond rfl (fun hb4 => ?_) (fun hb4 => ?_)
    · replace h := ifT hb4 h
      refine T.seq ?_
      refine T.region ?_
      refine Run.go (Ev.move rfl rfl) ?_
      refine Run.go (Ev.move rfl rfl) ?_
      obtain ⟨x5, e6, h⟩ := bdS h
      refine Run.go (Ev.e_bt X e6 rfl rfl rfl rfl) ?_
      refine Run.go (Ev.e_cntb ic30 rfl rfl rfl rfl) ?_
      refine Run.go (Ev.assign rfl rfl) ?_
      refine Run.nil ?_
      refine T.ret ?_
      cases h
      exact Fin.one rfl .v
    · replace h := ifF hb4 h
      refine T.skip ?_
      refine T.seq ?_
      refine T.region ?_
      refine Run.go (Ev.assign rfl rfl) ?_
      refine Run.nil ?_
      refine T.block ?_
      refine T.loop (LoopT.ghost (Ghost.only [] [0, 1, 5] rfl) (LoopT.run (fun q : ByteArray × Int => (⟨[(0, .v .str q.1), (1, .v .str p1), (5, .v (.int .i64) q.2)], [], 34⟩ : St)) (fun q z1 h hz1 => ?_) h))
      obtain ⟨v7, v8⟩ := q
      dsimp only
      rw [m_strings_Count_l1] at h
      refine T.block ?_
      refine T.seq ?_
      refine T.region ?_
      refine Run.go (Ev.move rfl rfl) ?_
      refine Run.go (Ev.move rfl rfl) ?_
      obtain ⟨x9, e10, h⟩ := bdS h
      refine Run.go (Ev.callC en31 (k_strings_Index e10) rfl (.cons .v (.cons .v .nil)) rfl rfl) ?_
      refine Run.go (Ev.assign rfl rfl) ?_
      refine Run.nil ?_
      refine T.seq ?_
      refine T.seq ?_
      refine T.region ?_
      refine Run.go (Ev.move rfl rfl) ?_
      refine Run.go (Ev.int rfl rfl rfl rfl trivial) ?_
      refine Run.nil ?_
      refine T.cond rfl (fun hb11 => ?_) (fun hb11 => ?_)
      · replace h := ifT hb11 h
        refine T.seq ?_
        refine T.region ?_
        refine Run.go (Ev.move rfl rfl) ?_
        refine Run.go (Ev.assign rfl rfl) ?_
        refine Run.nil ?_
        refine T.ret ?_
        cases h
        cases hz1
        exact Fin.one rfl .v
      · replace h := ifF hb11 h
        refine T.skip ?_
        refine T.seq ?_
        refine T.region ?_
        refine Run.go (Ev.move rfl rfl) ?_
        refine Run.go (Ev.int rfl rfl rfl rfl trivial) ?_
        refine Run.go (Ev.assign rfl rfl) ?_
        refine Run.nil ?_
        refine T.region ?_
        refine Run.go (Ev.move rfl rfl) ?_
        refine Run.go (Ev.move rfl rfl) ?_
        refine Run.go (Ev.move rfl rfl) ?_
        refine Run.go (Ev.len X rfl rfl rfl rfl) ?_
        refine Run.go (Ev.int rfl rfl rfl rfl trivial) ?_
        obtain ⟨x12, e13, h⟩ := bdS h
        refine Run.go (Ev.e_cs X e13 rfl rfl rfl (fun _ _ => cutAt_of rfl) (fun h => by cases h) (fun _ h => by cases h) (fun _ => rfl)) ?_
        refine Run.go (Ev.assign rfl rfl) ?_
        refine Run.nil ?_
        cases h
        exact LoopT.ghost (Ghost.only [] [0, 1, 5] rfl) hz1
theorem en95 : Enters Tryz.prog 95 := ⟨_, Tryz.func95, rfl, rfl⟩
theorem k_nat_at {p0 : (List Int)} {p1 : Int} {y : Int} (h : m_nat_at p0 p1 = some y) : Spec Tryz.prog 95 [(.v (.sl (.int .u64)) p0), (.v (.int .i64) p1)] (.v (.int .u64) y) [] := by
  rw [m_nat_at] at h
  refine enterN [(.v (.sl (.int .u64)) p0), (.v (.int .i64) p1)] 13 Tryz.func95 rfl rfl rfl ?_
  refine T.seq ?_
  refine T.region ?_
  refine Run.go (Ev.assign rfl rfl) ?_
  refine Run.nil ?_
  refine T.seq ?_
  refine T.seq ?_
  refine T.region ?_
  refine Run.go (Ev.move rfl rfl) ?_
  refine Run.go (Ev.move rfl rfl) ?_
  refine Run.go (Ev.len X rfl rfl rfl rfl) ?_
  refine Run.go (Ev.int rfl rfl rfl rfl trivial) ?_
  refine Run.nil ?_
  refine T.cond rfl (fun hb1 => ?_) (fun hb1 => ?_)
  · replace h := ifT hb1 h
    refine T.seq ?_
    refine T.region ?_
    refine Run.go (Ev.assign rfl rfl) ?_
    refine Run.nil ?_
    refine T.ret ?_
    cases h
    exact Fin.one rfl .v
  · replace h := ifF hb1 h
    refine T.skip ?_
    refine T.seq ?_
    refine T.region ?_
    refine Run.go (Ev.move rfl rfl) ?_
    refine Run.go (Ev.move rfl rfl) ?_
    obtain ⟨x2, e3, h⟩ := bdS h
    refine Run.go (Ev.e_rd X e3 rfl rfl rfl rfl) ?_
    refine Run.go (Ev.load X rfl rfl rfl) ?_
    refine Run.go (Ev.assign rfl rfl) ?_
    refine Run.nil ?_
    refine T.ret ?_
    cases h
    exact Fin.one rfl .v
theorem en94 : Enters Tryz.prog 94 := ⟨_, Tryz.func94, rfl, rfl⟩
theorem k_limb_Add {p0 : Int} {p1 : Int} {p2 : Int} {y : Int × Int} (h : m_limb_Add p0 p1 p2 = some y) : Spec Tryz.prog 94 [(.v (.int .u64) p0), (.v (.int .u64) p1), (.v (.int .u64) p2)] (.tup [.v (.int .u64) y.1, .v (.int .u64) y.2]) [] := by
  rw [m_limb_Add] at h
  refine enterN [(.v (.int .u64) p0), (.v (.int .u64) p1), (.v (.int .u64) p2)] 21 Tryz.func94 rfl rfl rfl ?_
  refine T.seq ?_
  refine T.region ?_
  refine Run.go (Ev.assign rfl rfl) ?_
  refine Run.go (Ev.assign rfl rfl) ?_
  refine Run.nil ?_
  refine T.seq ?_
  refine T.region ?_
  refine Run.go (Ev.move rfl rfl) ?_
  refine Run.go (Ev.int rfl rfl rfl rfl trivial) ?_
  refine Run.go (Ev.move rfl rfl) ?_
  refine Run.go (Ev.int rfl rfl rfl rfl trivial) ?_
  refine Run.go (Ev.int rfl rfl rfl rfl trivial) ?_
  refine Run.go (Ev.move rfl rfl) ?_
  refine Run.go (Ev.int rfl rfl rfl rfl trivial) ?_
  refine Run.go (Ev.int rfl rfl rfl rfl trivial) ?_
  obtain ⟨x1, e2, h⟩ := ltS h
  refine Run.go (Ev.avs (Ev.assign rfl rfl) e2) ?_
  refine Run.nil ?_
  refine T.seq ?_
  refine T.region ?_
  refine Run.go (Ev.move rfl rfl) ?_
  refine Run.go (Ev.int rfl rfl rfl rfl trivial) ?_
  refine Run.go (Ev.move rfl rfl) ?_
  obtain ⟨x3, e4, h⟩ := bdS h
  refine Run.go (Ev.e_sr e4 rfl rfl rfl) ?_
  refine Run.go (Ev.assign rfl rfl) ?_
  refine Run.go (Ev.assign rfl rfl) ?_
  refine Run.nil ?_
  refine T.ret ?_
  cases h
  exact Fin.many X rfl (.cons (.tmp .v) (.cons (.tmp .v) .nil)) rfl
theorem en77 : Enters Tryz.prog 77 := ⟨_, Tryz.func77, rfl, rfl⟩
set_option maxHeartbeats 1000000 in
theorem k_nat_Add {p0 : (List Int)} {p1 : (List Int)} {y : (List Int)} (h : m_nat_Add p0 p1 = some y) : Spec Tryz.prog 77 [(.v (.sl (.int .u64)) p0), (.v (.sl (.int .u64)) p1)] (.v (.sl (.int .u64)) y) [] := by
  rw [m_nat_Add] at h
  refine enterN [(.v (.sl (.int .u64)) p0), (.v (.sl (.int .u64)) p1)] 42 Tryz.func77 rfl rfl rfl ?_
  refine T.seq ?_
  refine T.region ?_
  refine Run.go (Ev.assign rfl rfl) ?_
  refine Run.nil ?_
  refine T.seq ?_
  refine T.region ?_
  refine Run.go (Ev.move rfl rfl) ?_
  refine Run.go (Ev.len X rfl rfl rfl rfl) ?_
  refine Run.go (Ev.move rfl rfl) ?_
  refine Run.go (Ev.len X rfl rfl rfl rfl) ?_
  refine Run.go (Ev.max rfl rfl rfl) ?_
  obtain ⟨x1, e2, h⟩ := ltS h
  refine Run.go (Ev.avs (Ev.assign rfl rfl) e2) ?_
  refine Run.nil ?_
  refine T.seq ?_
  refine T.region ?_
  refine Run.go (Ev.move rfl rfl) ?_
  refine Run.go (Ev.int rfl rfl rfl rfl trivial) ?_
  obtain ⟨x3, e4, h⟩ := bdS h
  refine Run.go (Ev.e_mk X 1 e4 rfl rfl rfl rfl rfl rfl) ?_
  refine Run.go (Ev.assign rfl rfl) ?_
  refine Run.nil ?_
  refine T.seq ?_
  refine T.region ?_
  refine Run.go (Ev.assign rfl rfl) ?_
  refine Run.nil ?_
  obtain ⟨⟨v5, v6⟩, hv, h⟩ := bdS h
  refine T.cut (fun _ : Unit => (⟨[(5, .v (.int .i64) x1), (6, .own 1), (7, .v (.int .u64) v5)], [(1, .arr 104 (.int .u64) v6)], 42⟩ : St)) (fun _ => True) ?_ (fun _ _ => ?_)
  · replace h := hv
    clear hv
    refine T.seq ?_
    refine T.region ?_
    refine Run.go (Ev.move rfl rfl) ?_
    refine Run.go (Ev.move rfl rfl) ?_
    refine Run.nil ?_
    refine T.block ?_
    refine T.loop (LoopT.ghost (Ghost.only [(1, 1)] [0, 1, 5, 6, 7, 17, 18] rfl) (LoopT.run (fun q : Int × Int × (List Int) => (⟨[(0, .v (.sl (.int .u64)) p0), (1, .v (.sl (.int .u64)) p1), (5, .v (.int .i64) x1), (6, .own 1), (7, .v (.int .u64) q.1), (17, .v (.int .i64) x1), (18, .v (.int .i64) q.2.1)], [(1, .arr 104 (.int .u64) q.2.2)], 42⟩ : St)) (fun q z1 h hz1 => ?_) h))
    obtain ⟨v7, v8, v9⟩ := q
    dsimp only
    rw [m_nat_Add_l1] at h
    refine T.seq ?_
    refine T.region ?_
    refine Run.go (Ev.int rfl rfl rfl rfl trivial) ?_
    refine Run.nil ?_
    refine T.seq ?_
    refine T.cond rfl (fun hb10 => ?_) (fun hb10 => ?_)
    · replace h := ifT hb10 h
      refine T.skip ?_
      refine T.seq ?_
      refine T.block ?_
      refine T.seq ?_
      refine T.region ?_
      refine Run.go (Ev.move rfl rfl) ?_
      refine Run.go (Ev.assign rfl rfl) ?_
      refine Run.nil ?_
      refine T.region ?_
      refine Run.go (Ev.move rfl rfl) ?_
      refine Run.go (Ev.move rfl rfl) ?_
      refine Run.go (Ev.move rfl rfl) ?_
      refine Run.go (Ev.move rfl rfl) ?_
      obtain ⟨x11, e12, h⟩ := bdS h
      refine Run.go (Ev.callC en95 (k_nat_at e12) rfl (.cons .v (.cons .v .nil)) rfl rfl) ?_
      refine Run.go (Ev.move rfl rfl) ?_
      refine Run.go (Ev.move rfl rfl) ?_
      obtain ⟨x13, e14, h⟩ := bdS h
      refine Run.go (Ev.callC en95 (k_nat_at e14) rfl (.cons .v (.cons .v .nil)) rfl rfl) ?_
      refine Run.go (Ev.move rfl rfl) ?_
      obtain ⟨x15, e16, h⟩ := bdS h
      refine Run.go (Ev.callC en94 (k_limb_Add e16) rfl (.cons .v (.cons .v (.cons .v .nil))) rfl rfl) ?_
      refine Run.go (Ev.move rfl rfl) ?_
      refine Run.go (Ev.extract rfl rfl rfl) ?_
      refine Run.go (Ev.extract rfl rfl rfl) ?_
      obtain ⟨j17, e18, h⟩ := bdS h
      refine Run.go (Ev.e_ixO X e18 rfl rfl rfl rfl rfl) ?_
      obtain ⟨x19, e20, h⟩ := ltS h
      refine Run.do_ (Ev.asO (Ev.storeEl X rfl rfl rfl rfl rfl) e20) ?_
      refine Run.go (Ev.assign rfl rfl) ?_
      refine Run.nil ?_
      refine T.region ?_
      refine Run.go (Ev.int rfl rfl rfl rfl trivial) ?_
      refine Run.go (Ev.move rfl rfl) ?_
      refine Run.nil ?_
      cases h
      exact LoopT.ghost (Ghost.only [(1, 1)] [0, 1, 5, 6, 7, 17, 18] rfl) hz1
    · replace h := ifF hb10 h
      refine T.exit ?_
      cases h
      cases hz1
      exact ⟨(), trivial, Ghost.only [(1, 1)] [5, 6, 7] rfl⟩
  · refine T.seq ?_
    refine T.region ?_
    refine Run.go (Ev.move rfl rfl) ?_
    refine Run.go (Ev.move rfl rfl) ?_
    refine Run.go (Ev.move rfl rfl) ?_
    obtain ⟨j21, e22, h⟩ := bdS h
    refine Run.go (Ev.e_ixO X e22 rfl rfl rfl rfl rfl) ?_
    obtain ⟨x23, e24, h⟩ := ltS h
    refine Run.do_ (Ev.asO (Ev.storeEl X rfl rfl rfl rfl rfl) e24) ?_
    refine Run.nil ?_
    refine T.seq ?_
    refine T.region ?_
    refine Run.go (Ev.move rfl rfl) ?_
    refine Run.ghost (Ghost.firmAll (id := 1) rfl) ?_
    obtain ⟨x25, e26, h⟩ := bdS h
    refine Run.go (Ev.callC en86 (k_nat_trim e26) rfl (.cons .v .nil) rfl rfl) ?_
    refine Run.go (Ev.assign rfl rfl) ?_
    refine Run.nil ?_
    refine T.ret ?_
    cases h
    exact Fin.one rfl .v
theorem en76 : Enters Tryz.prog 76 := ⟨_, Tryz.func76, rfl, rfl⟩
theorem k_whole_Made {p0 : Bool} {p1 : (List Int)} {y : D_api_Int} (h : m_whole_Made p0 p1 = some y) : Spec Tryz.prog 76 [(.v .bool p0), (.v (.sl (.int .u64)) p1)] (.v Y_api_Int y) [] := by
  rw [m_whole_Made] at h
  refine enterN [(.v .bool p0), (.v (.sl (.int .u64)) p1)] 20 Tryz.func76 rfl rfl rfl ?_
  refine T.seq ?_
  refine T.region ?_
  refine Run.go (Ev.allocN X 1 rfl rfl rfl) ?_
  refine Run.nil ?_
  refine T.seq ?_
  refine T.region ?_
  refine Run.go (Ev.move rfl rfl) ?_
  obtain ⟨x1, e2, h⟩ := bdS h
  refine Run.go (Ev.callC en93 (k_nat_Make e2) rfl (.cons .v .nil) rfl rfl) ?_
  refine Run.go (Ev.move rfl rfl) ?_
  refine Run.go (Ev.extract rfl rfl rfl) ?_
  refine Run.go (Ev.extract rfl rfl rfl) ?_
  refine Run.go (Ev.assign rfl rfl) ?_
  refine Run.go (Ev.assign rfl rfl) ?_
  refine Run.nil ?_
  refine T.seq ?_
  refine T.region ?_
  refine Run.go (Ev.move rfl rfl) ?_
  refine Run.go (Ev.move rfl rfl) ?_
  rcases boolCases p0 with hb3 | hb3
  · replace h := ifT hb3 h
    refine Run.on rfl rfl rfl hb3 (Ev.move rfl rfl) ?_
    refine Run.on rfl rfl rfl hb3 (Ev.len X rfl rfl rfl rfl) ?_
    refine Run.on rfl rfl rfl hb3 (Ev.int rfl rfl rfl rfl trivial) ?_
    refine Run.go (Ev.pickT rfl hb3 rfl rfl) ?_
    refine Run.go (Ev.move rfl rfl) ?_
    refine Run.go (Ev.struct X pl30 rfl rfl rfl rfl rfl rfl rfl rfl) ?_
    refine Run.do_ (Ev.storeBox X rfl rfl rfl rfl rfl rfl rfl) ?_
    refine Run.nil ?_
    refine T.ret ?_
    cases h
    exact Fin.cell X rfl rfl rfl rfl rfl
  · replace h := ifF hb3 h
    refine Run.offT rfl rfl rfl rfl hb3 ?_
    refine Run.offT rfl rfl rfl rfl hb3 ?_
    refine Run.offT rfl rfl rfl rfl hb3 ?_
    refine Run.go (Ev.pickF rfl hb3 rfl rfl) ?_
    refine Run.go (Ev.move rfl rfl) ?_
    refine Run.go (Ev.struct X pl30 rfl rfl rfl rfl rfl rfl rfl rfl) ?_
    refine Run.do_ (Ev.storeBox X rfl rfl rfl rfl rfl rfl rfl) ?_
    refine Run.nil ?_
    refine T.ret ?_
    cases h
    exact Fin.cell X rfl rfl rfl rfl rfl
theorem en54 : Enters Tryz.prog 54 := ⟨_, Tryz.func54, rfl, rfl⟩
theorem k_whole_Of {p0 : Int} {y : D_api_Int} (h : m_whole_Of p0 = some y) : Spec Tryz.prog 54 [(.v (.int .i64) p0)] (.v Y_api_Int y) [] := by
  rw [m_whole_Of] at h
  refine enterN [(.v (.int .i64) p0)] 17 Tryz.func54 rfl rfl rfl ?_
  refine T.seq ?_
  refine T.region ?_
  refine Run.go (Ev.allocN X 1 rfl rfl rfl) ?_
  refine Run.nil ?_
  refine T.seq ?_
  refine T.seq ?_
  refine T.region ?_
  refine Run.go (Ev.move rfl rfl) ?_
  refine Run.go (Ev.int rfl rfl rfl rfl trivial) ?_
  refine Run.nil ?_
  refine T.cond rfl (fun hb1 => ?_) (fun hb1 => ?_)
  · replace h := ifT hb1 h
    refine T.seq ?_
    refine T.region ?_
    refine Run.go (Ev.move rfl rfl) ?_
    refine Run.go (Ev.int rfl rfl rfl rfl trivial) ?_
    refine Run.go (Ev.neg rfl rfl) ?_
    refine Run.go (Ev.conv X rfl rfl rfl rfl) ?_
    obtain ⟨x2, e3, h⟩ := bdS h
    refine Run.go (Ev.callC en67 (k_nat_Of e3) rfl (.cons .v .nil) rfl rfl) ?_
    obtain ⟨x4, e5, h⟩ := bdS h
    refine Run.go (Ev.callC en67 (k_nat_Of e5) rfl (.cons .v .nil) rfl rfl) ?_
    obtain ⟨x6, e7, h⟩ := bdS h
    refine Run.go (Ev.callC en77 (k_nat_Add e7) rfl (.cons .v (.cons .v .nil)) rfl rfl) ?_
    obtain ⟨x8, e9, h⟩ := bdS h
    refine Run.go (Ev.callC en76 (k_whole_Made e9) rfl (.cons .v (.cons .v .nil)) rfl rfl) ?_
    refine Run.do_ (Ev.storeBox X rfl rfl rfl rfl rfl rfl rfl) ?_
    refine Run.nil ?_
    refine T.ret ?_
    cases h
    exact Fin.cell X rfl rfl rfl rfl rfl
  · replace h := ifF hb1 h
    refine T.skip ?_
    refine T.seq ?_
    refine T.region ?_
    refine Run.go (Ev.move rfl rfl) ?_
    refine Run.go (Ev.conv X rfl rfl rfl rfl) ?_
    obtain ⟨x10, e11, h⟩ := bdS h
    refine Run.go (Ev.callC en67 (k_nat_Of e11) rfl (.cons .v .nil) rfl rfl) ?_
    obtain ⟨x12, e13, h⟩ := bdS h
    refine Run.go (Ev.callC en76 (k_whole_Made e13) rfl (.cons .v (.cons .v .nil)) rfl rfl) ?_
    refine Run.do_ (Ev.storeBox X rfl rfl rfl rfl rfl rfl rfl) ?_
    refine Run.nil ?_
    refine T.ret ?_
    cases h
    exact Fin.cell X rfl rfl rfl rfl rfl
theorem en74 : Enters Tryz.prog 74 := ⟨_, Tryz.func74, rfl, rfl⟩
theorem k_whole_Sign {p0 : D_api_Int} {y : Int} (h : m_whole_Sign p0 = some y) : Spec Tryz.prog 74 [(.v Y_api_Int p0)] (.v (.int .i64) y) [] := by
  rw [m_whole_Sign] at h
  refine enterN [(.v Y_api_Int p0)] 11 Tryz.func74 rfl rfl rfl ?_
  refine T.seq ?_
  refine T.region ?_
  refine Run.go (Ev.box 1 rfl rfl rfl rfl) ?_
  refine Run.go (Ev.assign rfl rfl) ?_
  refine Run.nil ?_
  refine T.seq ?_
  refine T.block ?_
  refine T.seq ?_
  refine T.region ?_
  refine Run.go (Ev.fieldBox X rfl rfl rfl rfl rfl) ?_
  refine Run.go (Ev.loadCell X rfl rfl rfl rfl rfl rfl) ?_
  refine Run.go (Ev.len X rfl rfl rfl rfl) ?_
  refine Run.go (Ev.int rfl rfl rfl rfl trivial) ?_
  refine Run.go (Ev.assign rfl rfl) ?_
  refine Run.nil ?_
  refine T.cond rfl (fun hb1 => ?_) (fun hb1 => ?_)
  · replace h := ifT hb1 h
    refine T.seq ?_
    refine T.region ?_
    refine Run.go (Ev.assign rfl rfl) ?_
    refine Run.nil ?_
    refine T.ret ?_
    cases h
    exact Fin.one rfl .v
  · replace h := ifF hb1 h
    refine T.seq ?_
    refine T.region ?_
    refine Run.go (Ev.fieldBox X rfl rfl rfl rfl rfl) ?_
    refine Run.go (Ev.loadCell X rfl rfl rfl rfl rfl rfl) ?_
    refine Run.go (Ev.assign rfl rfl) ?_
    refine Run.nil ?_
    refine T.cond rfl (fun hb2 => ?_) (fun hb2 => ?_)
    · replace h := ifT hb2 h
      refine T.seq ?_
      refine T.region ?_
      refine Run.go (Ev.assign rfl rfl) ?_
      refine Run.nil ?_
      refine T.ret ?_
      cases h
      exact Fin.one rfl .v
    · replace h := ifF hb2 h
      refine T.skip ?_
      refine T.seq ?_
      refine T.region ?_
      refine Run.go (Ev.assign rfl rfl) ?_
      refine Run.nil ?_
      refine T.ret ?_
      cases h
      exact Fin.one rfl .v
theorem en119 : Enters Tryz.prog 119 := ⟨_, Tryz.func119, rfl, rfl⟩
theorem k_nat_May {p0 : (List Int)} {y : Bool} (h : m_nat_May p0 = some y) : Spec Tryz.prog 119 [(.v (.sl (.int .u64)) p0)] (.v .bool y) [] := by
  rw [m_nat_May] at h
  refine enterN [(.v (.sl (.int .u64)) p0)] 26 Tryz.func119 rfl rfl rfl ?_
  refine T.seq ?_
  refine T.region ?_
  refine Run.go (Ev.assign rfl rfl) ?_
  refine Run.nil ?_
  refine T.seq ?_
  refine T.seq ?_
  refine T.region ?_
  refine Run.go (Ev.move rfl rfl) ?_
  refine Run.go (Ev.len X rfl rfl rfl rfl) ?_
  refine Run.go (Ev.move rfl rfl) ?_
  refine Run.nil ?_
  refine T.block ?_
  refine T.loop (LoopT.ghost (Ghost.only [] [0, 5, 6, 7] rfl) (LoopT.run (fun q : Int => (⟨[(0, .v (.sl (.int .u64)) p0), (5, .v (.sl (.int .u64)) p0), (6, .v (.int .i64) ((p0.length : Int) : Int)), (7, .v (.int .i64) q)], [], 26⟩ : St)) (fun v1 z1 h hz1 => ?_) h))
  rw [m_nat_May_l1] at h
  refine T.seq ?_
  refine T.region ?_
  refine Run.go (Ev.int rfl rfl rfl rfl trivial) ?_
  refine Run.nil ?_
  refine T.seq ?_
  refine T.cond rfl (fun hb2 => ?_) (fun hb2 => ?_)
  · replace h := ifT hb2 h
    refine T.skip ?_
    refine T.seq ?_
    refine T.block ?_
    refine T.seq ?_
    refine T.region ?_
    obtain ⟨x3, e4, h⟩ := bdS h
    refine Run.go (Ev.e_rd X e4 rfl rfl rfl rfl) ?_
    refine Run.go (Ev.load X rfl rfl rfl) ?_
    refine Run.go (Ev.assign rfl rfl) ?_
    refine Run.nil ?_
    refine T.seq ?_
    refine T.region ?_
    refine Run.go (Ev.move rfl rfl) ?_
    refine Run.go (Ev.int rfl rfl rfl rfl trivial) ?_
    refine Run.nil ?_
    refine T.cond rfl (fun hb5 => ?_) (fun hb5 => ?_)
    · replace h := ifT hb5 h
      refine T.seq ?_
      refine T.region ?_
      refine Run.go (Ev.assign rfl rfl) ?_
      refine Run.nil ?_
      refine T.ret ?_
      cases h
      cases hz1
      exact Fin.one rfl .v
    · replace h := ifF hb5 h
      refine T.skip ?_
      refine T.region ?_
      refine Run.go (Ev.int rfl rfl rfl rfl trivial) ?_
      refine Run.go (Ev.move rfl rfl) ?_
      refine Run.nil ?_
      cases h
      exact LoopT.ghost (Ghost.only [] [0, 5, 6, 7] rfl) hz1
  · replace h := ifF hb2 h
    refine T.exit ?_
    refine T.seq ?_
    refine T.region ?_
    refine Run.go (Ev.move rfl rfl) ?_
    refine Run.go (Ev.len X rfl rfl rfl rfl) ?_
    refine Run.go (Ev.int rfl rfl rfl rfl trivial) ?_
    refine Run.go (Ev.move rfl rfl) ?_
    rcases boolCases (decide ((p0.length : Int) = 0)) with hb6 | hb6
    · replace h := ifT hb6 h
      refine Run.offT rfl rfl rfl rfl hb6 ?_
      refine Run.offT rfl rfl rfl rfl hb6 ?_
      refine Run.offT rfl rfl rfl rfl hb6 ?_
      refine Run.offT rfl rfl rfl rfl hb6 ?_
      refine Run.offT rfl rfl rfl rfl hb6 ?_
      refine Run.offT rfl rfl rfl rfl hb6 ?_
      refine Run.offT rfl rfl rfl rfl hb6 ?_
      refine Run.go (Ev.pickT rfl hb6 rfl rfl) ?_
      refine Run.go (Ev.assign rfl rfl) ?_
      refine Run.nil ?_
      refine T.ret ?_
      cases h
      cases hz1
      exact Fin.one rfl .v
    · replace h := ifF hb6 h
      refine Run.on rfl rfl rfl hb6 (Ev.move rfl rfl) ?_
      refine Run.on rfl rfl rfl hb6 (Ev.move rfl rfl) ?_
      refine Run.on rfl rfl rfl hb6 (Ev.len X rfl rfl rfl rfl) ?_
      refine Run.on rfl rfl rfl hb6 (Ev.int rfl rfl rfl rfl trivial) ?_
      obtain ⟨x7, e8, h⟩ := bdS h
      refine Run.on rfl rfl rfl hb6 (Ev.e_rd X e8 rfl rfl rfl rfl) ?_
      refine Run.on rfl rfl rfl hb6 (Ev.load X rfl rfl rfl) ?_
      refine Run.on rfl rfl rfl hb6 (Ev.int rfl rfl rfl rfl trivial) ?_
      refine Run.go (Ev.pickF rfl hb6 rfl rfl) ?_
      refine Run.go (Ev.assign rfl rfl) ?_
      refine Run.nil ?_
      refine T.ret ?_
      cases h
      cases hz1
      exact Fin.one rfl .v
theorem en126 : Enters Tryz.prog 126 := ⟨_, Tryz.func126, rfl, rfl⟩
theorem k_limb_Bits {p0 : Int} {y : Int} (h : m_limb_Bits p0 = some y) : Spec Tryz.prog 126 [(.v (.int .u64) p0)] (.v (.int .i64) y) [] := by
  rw [m_limb_Bits] at h
  refine enterN [(.v (.int .u64) p0)] 17 Tryz.func126 rfl rfl rfl ?_
  refine T.seq ?_
  refine T.region ?_
  refine Run.go (Ev.assign rfl rfl) ?_
  refine Run.nil ?_
  refine T.seq ?_
  refine T.region ?_
  refine Run.go (Ev.assign rfl rfl) ?_
  refine Run.nil ?_
  obtain ⟨v1, hv, h⟩ := bdS h
  refine T.cut (fun _ : Unit => (⟨[(3, .v (.int .i64) v1)], [], 17⟩ : St)) (fun _ => True) ?_ (fun _ _ => ?_)
  · replace h := hv
    clear hv
    refine T.seq ?_
    refine T.region ?_
    refine Run.go (Ev.move rfl rfl) ?_
    refine Run.nil ?_
    refine T.block ?_
    refine T.loop (LoopT.ghost (Ghost.only [] [0, 3, 5] rfl) (LoopT.run (fun q : Int × Int => (⟨[(0, .v (.int .u64) p0), (3, .v (.int .i64) q.1), (5, .v (.int .i64) q.2)], [], 17⟩ : St)) (fun q z1 h hz1 => ?_) h))
    obtain ⟨v2, v3⟩ := q
    dsimp only
    rw [m_limb_Bits_l1] at h
    refine T.seq ?_
    refine T.region ?_
    refine Run.go (Ev.int rfl rfl rfl rfl trivial) ?_
    refine Run.nil ?_
    refine T.seq ?_
    refine T.cond rfl (fun hb4 => ?_) (fun hb4 => ?_)
    · replace h := ifT hb4 h
      refine T.skip ?_
      obtain ⟨v5, hv, h⟩ := bdS h
      refine T.cut (fun _ : Unit => (⟨[(0, .v (.int .u64) p0), (3, .v (.int .i64) v5), (5, .v (.int .i64) v3)], [], 17⟩ : St)) (fun _ => True) ?_ (fun _ _ => ?_)
      · replace h := hv
        clear hv
        refine T.block ?_
        refine T.seq ?_
        refine T.region ?_
        refine Run.go (Ev.move rfl rfl) ?_
        refine Run.go (Ev.assign rfl rfl) ?_
        refine Run.nil ?_
        refine T.seq ?_
        refine T.region ?_
        refine Run.go (Ev.move rfl rfl) ?_
        refine Run.go (Ev.move rfl rfl) ?_
        obtain ⟨x6, e7, h⟩ := bdS h
        refine Run.go (Ev.e_sr e7 rfl rfl rfl) ?_
        refine Run.go (Ev.int rfl rfl rfl rfl trivial) ?_
        refine Run.go (Ev.int rfl rfl rfl rfl trivial) ?_
        refine Run.nil ?_
        refine T.cond rfl (fun hb8 => ?_) (fun hb8 => ?_)
        · replace h := ifT hb8 h
          refine T.region ?_
          refine Run.go (Ev.move rfl rfl) ?_
          refine Run.go (Ev.int rfl rfl rfl rfl trivial) ?_
          refine Run.go (Ev.assign rfl rfl) ?_
          refine Run.nil ?_
          cases h
          exact ⟨(), trivial, Ghost.only [] [0, 3, 5] rfl⟩
        · replace h := ifF hb8 h
          refine T.skip ?_
          cases h
          exact ⟨(), trivial, Ghost.only [] [0, 3, 5] rfl⟩
      · refine T.region ?_
        refine Run.go (Ev.int rfl rfl rfl rfl trivial) ?_
        refine Run.go (Ev.move rfl rfl) ?_
        refine Run.nil ?_
        cases h
        exact LoopT.ghost (Ghost.only [] [0, 3, 5] rfl) hz1
    · replace h := ifF hb4 h
      refine T.exit ?_
      cases h
      cases hz1
      exact ⟨(), trivial, Ghost.only [] [3] rfl⟩
  · refine T.seq ?_
    refine T.region ?_
    refine Run.go (Ev.move rfl rfl) ?_
    refine Run.go (Ev.assign rfl rfl) ?_
    refine Run.nil ?_
    refine T.ret ?_
    cases h
    exact Fin.one rfl .v
theorem en134 : Enters Tryz.prog 134 := ⟨_, Tryz.func134, rfl, rfl⟩
theorem k_nat_shift {p0 : Int} {y : Int} (h : m_nat_shift p0 = some y) : Spec Tryz.prog 134 [(.v (.int .i64) p0)] (.v (.int .i64) y) [] := by
  rw [m_nat_shift] at h
  refine enterN [(.v (.int .i64) p0)] 9 Tryz.func134 rfl rfl rfl ?_
  refine T.seq ?_
  refine T.region ?_
  refine Run.go (Ev.assign rfl rfl) ?_
  refine Run.nil ?_
  refine T.seq ?_
  obtain ⟨v1, hv, h⟩ := bdS h
  refine T.cut (fun _ : Unit => (⟨[(8, .v .bool v1)], [], 9⟩ : St)) (fun _ => True) ?_ (fun _ _ => ?_)
  · replace h := hv
    clear hv
    refine T.region ?_
    refine Run.go (Ev.move rfl rfl) ?_
    refine Run.go (Ev.int rfl rfl rfl rfl trivial) ?_
    refine Run.go (Ev.move rfl rfl) ?_
    rcases boolCases (decide (p0 < 0)) with hb2 | hb2
    · replace h := ifT hb2 h
      refine Run.offT rfl rfl rfl rfl hb2 ?_
      refine Run.offT rfl rfl rfl rfl hb2 ?_
      refine Run.go (Ev.pickT rfl hb2 rfl rfl) ?_
      refine Run.nil ?_
      cases h
      exact ⟨(), trivial, Ghost.only [] [8] rfl⟩
    · replace h := ifF hb2 h
      refine Run.on rfl rfl rfl hb2 (Ev.move rfl rfl) ?_
      refine Run.on rfl rfl rfl hb2 (Ev.int rfl rfl rfl rfl trivial) ?_
      refine Run.go (Ev.pickF rfl hb2 rfl rfl) ?_
      refine Run.nil ?_
      cases h
      exact ⟨(), trivial, Ghost.only [] [8] rfl⟩
  · refine T.cond rfl (fun hb3 => ?_) (fun hb3 => ?_)
    · replace h := ifT hb3 h
      refine T.seq ?_
      refine T.region ?_
      refine Run.go (Ev.assign rfl rfl) ?_
      refine Run.nil ?_
      refine T.ret ?_
      cases h
      exact Fin.one rfl .v
    · replace h := ifF hb3 h
      refine T.skip ?_
      refine T.seq ?_
      refine T.region ?_
      refine Run.go (Ev.assign rfl rfl) ?_
      refine Run.nil ?_
      refine T.ret ?_
      cases h
      exact Fin.one rfl .v
theorem en127 : Enters Tryz.prog 127 := ⟨_, Tryz.func127, rfl, rfl⟩
set_option maxHeartbeats 1000000 in
theorem k_nat_Shl {p0 : (List Int)} {p1 : Int} {y : (List Int) × Int} (h : m_nat_Shl p0 p1 = some y) : Spec Tryz.prog 127 [(.v (.sl (.int .u64)) p0), (.v (.int .i64) p1)] (.tup [.v (.sl (.int .u64)) y.1, .v (.int .i64) y.2]) [] := by
  rw [m_nat_Shl] at h
  refine enterN [(.v (.sl (.int .u64)) p0), (.v (.int .i64) p1)] 60 Tryz.func127 rfl rfl rfl ?_
  refine T.seq ?_
  refine T.region ?_
  refine Run.go (Ev.assign rfl rfl) ?_
  refine Run.go (Ev.assign rfl rfl) ?_
  refine Run.nil ?_
  refine T.seq ?_
  refine T.seq ?_
  refine T.region ?_
  refine Run.go (Ev.move rfl rfl) ?_
  obtain ⟨x1, e2, h⟩ := bdS h
  refine Run.go (Ev.callC en134 (k_nat_shift e2) rfl (.cons .v .nil) rfl rfl) ?_
  refine Run.go (Ev.assign rfl rfl) ?_
  refine Run.nil ?_
  obtain ⟨v3, hv, h⟩ := bdS h
  refine T.cut (fun _ : Unit => (⟨[(0, .v (.sl (.int .u64)) p0), (1, .v (.int .i64) p1), (6, .v (.int .i64) x1), (19, .v .bool v3)], [], 60⟩ : St)) (fun _ => True) ?_ (fun _ _ => ?_)
  · replace h := hv
    clear hv
    refine T.region ?_
    refine Run.go (Ev.move rfl rfl) ?_
    refine Run.go (Ev.int rfl rfl rfl rfl trivial) ?_
    refine Run.go (Ev.move rfl rfl) ?_
    rcases boolCases (!decide (x1 = 0)) with hb4 | hb4
    · replace h := ifT hb4 h
      refine Run.offT rfl rfl rfl rfl hb4 ?_
      refine Run.offT rfl rfl rfl rfl hb4 ?_
      refine Run.offT rfl rfl rfl rfl hb4 ?_
      refine Run.go (Ev.pickT rfl hb4 rfl rfl) ?_
      refine Run.nil ?_
      cases h
      exact ⟨(), trivial, Ghost.only [] [0, 1, 6, 19] rfl⟩
    · replace h := ifF hb4 h
      refine Run.on rfl rfl rfl hb4 (Ev.move rfl rfl) ?_
      refine Run.on rfl rfl rfl hb4 (Ev.len X rfl rfl rfl rfl) ?_
      refine Run.on rfl rfl rfl hb4 (Ev.int rfl rfl rfl rfl trivial) ?_
      refine Run.go (Ev.pickF rfl hb4 rfl rfl) ?_
      refine Run.nil ?_
      cases h
      exact ⟨(), trivial, Ghost.only [] [0, 1, 6, 19] rfl⟩
  · refine T.cond rfl (fun hb5 => ?_) (fun hb5 => ?_)
    · replace h := ifT hb5 h
      refine T.seq ?_
      refine T.region ?_
      refine Run.go (Ev.move rfl rfl) ?_
      refine Run.go (Ev.assign rfl rfl) ?_
      refine Run.go (Ev.assign rfl rfl) ?_
      refine Run.nil ?_
      refine T.ret ?_
      cases h
      exact Fin.many X rfl (.cons (.tmp .nilv) (.cons (.tmp .v) .nil)) rfl
    · replace h := ifF hb5 h
      refine T.skip ?_
      refine T.seq ?_
      refine T.region ?_
      refine Run.go (Ev.move rfl rfl) ?_
      refine Run.go (Ev.len X rfl rfl rfl rfl) ?_
      refine Run.go (Ev.move rfl rfl) ?_
      obtain ⟨x6, e7, h⟩ := bdS h
      refine Run.go (Ev.e_qd e7 rfl rfl rfl) ?_
      refine Run.go (Ev.int rfl rfl rfl rfl trivial) ?_
      refine Run.go (Ev.int rfl rfl rfl rfl trivial) ?_
      obtain ⟨x8, e9, h⟩ := bdS h
      refine Run.go (Ev.e_mk X 1 e9 rfl rfl rfl rfl rfl rfl) ?_
      refine Run.go (Ev.assign rfl rfl) ?_
      refine Run.nil ?_
      obtain ⟨v10, hv, h⟩ := bdS h
      refine T.cut (fun _ : Unit => (⟨[(7, .own 1)], [(1, .arr 104 (.int .u64) v10)], 60⟩ : St)) (fun _ => True) ?_ (fun _ _ => ?_)
      · replace h := hv
        clear hv
        refine T.seq ?_
        refine T.region ?_
        refine Run.go (Ev.move rfl rfl) ?_
        refine Run.go (Ev.len X rfl rfl rfl rfl) ?_
        refine Run.go (Ev.move rfl rfl) ?_
        refine Run.nil ?_
        refine T.block ?_
        refine T.loop (LoopT.ghost (Ghost.only [(1, 1)] [1, 7, 28, 29, 30] rfl) (LoopT.run (fun q : Int × (List Int) => (⟨[(1, .v (.int .i64) p1), (7, .own 1), (28, .v (.sl (.int .u64)) p0), (29, .v (.int .i64) ((p0.length : Int) : Int)), (30, .v (.int .i64) q.1)], [(1, .arr 104 (.int .u64) q.2)], 60⟩ : St)) (fun q z1 h hz1 => ?_) h))
        obtain ⟨v11, v12⟩ := q
        dsimp only
        rw [m_nat_Shl_l1] at h
        refine T.seq ?_
        refine T.region ?_
        refine Run.go (Ev.int rfl rfl rfl rfl trivial) ?_
        refine Run.nil ?_
        refine T.seq ?_
        refine T.cond rfl (fun hb13 => ?_) (fun hb13 => ?_)
        · replace h := ifT hb13 h
          refine T.skip ?_
          refine T.seq ?_
          refine T.block ?_
          refine T.seq ?_
          refine T.region ?_
          refine Run.go (Ev.move rfl rfl) ?_
          obtain ⟨x14, e15, h⟩ := bdS h
          refine Run.go (Ev.e_rd X e15 rfl rfl rfl rfl) ?_
          refine Run.go (Ev.load X rfl rfl rfl) ?_
          refine Run.go (Ev.assign rfl rfl) ?_
          refine Run.go (Ev.assign rfl rfl) ?_
          refine Run.nil ?_
          refine T.seq ?_
          refine T.region ?_
          refine Run.go (Ev.move rfl rfl) ?_
          refine Run.go (Ev.move rfl rfl) ?_
          obtain ⟨x16, e17, h⟩ := bdS h
          refine Run.go (Ev.e_qd e17 rfl rfl rfl) ?_
          refine Run.go (Ev.int rfl rfl rfl rfl trivial) ?_
          refine Run.go (Ev.assign rfl rfl) ?_
          refine Run.nil ?_
          refine T.seq ?_
          refine T.region ?_
          refine Run.go (Ev.move rfl rfl) ?_
          refine Run.go (Ev.move rfl rfl) ?_
          obtain ⟨x18, e19, h⟩ := bdS h
          refine Run.go (Ev.e_rm e19 rfl rfl rfl) ?_
          obtain ⟨x20, e21, h⟩ := bdS h
          refine Run.go (Ev.e_sh e21 rfl rfl rfl) ?_
          refine Run.go (Ev.assign rfl rfl) ?_
          refine Run.nil ?_
          refine T.seq ?_
          refine T.region ?_
          refine Run.go (Ev.move rfl rfl) ?_
          refine Run.go (Ev.move rfl rfl) ?_
          obtain ⟨x22, e23, h⟩ := bdS h
          refine Run.go (Ev.e_rdO X e23 rfl rfl rfl rfl rfl) ?_
          refine Run.go (Ev.e_ldO X (rdS e23).2 rfl rfl rfl rfl) ?_
          refine Run.go (Ev.move rfl rfl) ?_
          obtain ⟨x24, e25, h⟩ := bdS h
          refine Run.go (Ev.e_rm e25 rfl rfl rfl) ?_
          refine Run.go (Ev.int rfl rfl rfl rfl trivial) ?_
          obtain ⟨j26, e27, h⟩ := bdS h
          refine Run.go (Ev.e_ixO X e27 rfl rfl rfl rfl rfl) ?_
          obtain ⟨x28, e29, h⟩ := ltS h
          refine Run.do_ (Ev.asO (Ev.storeEl X rfl rfl rfl rfl rfl) e29) ?_
          refine Run.nil ?_
          refine T.region ?_
          refine Run.go (Ev.move rfl rfl) ?_
          refine Run.go (Ev.move rfl rfl) ?_
          refine Run.go (Ev.int rfl rfl rfl rfl trivial) ?_
          refine Run.go (Ev.move rfl rfl) ?_
          obtain ⟨x30, e31, h⟩ := bdS h
          refine Run.go (Ev.e_sr e31 rfl rfl rfl) ?_
          obtain ⟨j32, e33, h⟩ := bdS h
          refine Run.go (Ev.e_ixO X e33 rfl rfl rfl rfl rfl) ?_
          obtain ⟨x34, e35, h⟩ := ltS h
          refine Run.do_ (Ev.asO (Ev.storeEl X rfl rfl rfl rfl rfl) e35) ?_
          refine Run.nil ?_
          refine T.region ?_
          refine Run.go (Ev.int rfl rfl rfl rfl trivial) ?_
          refine Run.go (Ev.move rfl rfl) ?_
          refine Run.nil ?_
          cases h
          exact LoopT.ghost (Ghost.only [(1, 1)] [1, 7, 28, 29, 30] rfl) hz1
        · replace h := ifF hb13 h
          refine T.exit ?_
          cases h
          cases hz1
          exact ⟨(), trivial, Ghost.only [(1, 1)] [7] rfl⟩
      · refine T.seq ?_
        refine T.region ?_
        refine Run.go (Ev.move rfl rfl) ?_
        refine Run.ghost (Ghost.firmAll (id := 1) rfl) ?_
        obtain ⟨x36, e37, h⟩ := bdS h
        refine Run.go (Ev.callC en86 (k_nat_trim e37) rfl (.cons .v .nil) rfl rfl) ?_
        refine Run.go (Ev.assign rfl rfl) ?_
        refine Run.go (Ev.assign rfl rfl) ?_
        refine Run.nil ?_
        refine T.ret ?_
        cases h
        exact Fin.many X rfl (.cons (.tmp .v) (.cons (.tmp .v) .nil)) rfl
end Go.Proofs.YtkjkipkfndckfaaGreatDoor.AE
