/- Plain facts on numbers by digits of any base, and on lists: no program in sight. -/
import Derived.Test.YtbmogniipgmkiaaGreatQFQ3
import Derived.Test.YtbmogniipgmkiaaGreatQFQ1
import Derived.WalkKit
import Derived.ProofKit
import Derived.OpenShut
import Derived.ShutString
import Derived.ChangeOld
import Derived.Lib.SmallJoins
import Derived.Lay
/- The code comes to the printed functions (printed by a program of ours). -/
namespace Go.Proofs.YtbmogniipgmkiaaGreat.AE
open Go Go.RowKit Go.Proofs.YtbmogniipgmkiaaGreat.AP
set_option linter.unusedVariables false
set_option maxRecDepth 20000
theorem k_formed_Queries_1 {p0 : D_api_Query} {p1 : (List D_api_Net)} {y : Bool} (h : m_formed_Queries_1 p0 p1 = some y) : Spec Tryz.prog 36 [(.v Y_api_Query p0), (.ptr (.sl Y_api_Net) p1)] (.v .bool y) [] := by
  rw [m_formed_Queries_1] at h
  refine enterN [(.v Y_api_Query p0), (.ptr (.sl Y_api_Net) p1)] 8 Tryz.func36 rfl rfl rfl ?_
  refine T.seq ?_
  refine T.region ?_
  refine Run.go (Ev.box 1 rfl rfl rfl rfl) ?_
  refine Run.go (Ev.assign rfl rfl) ?_
  refine Run.nil ?_
  refine T.seq ?_
  refine T.region ?_
  refine Run.go (Ev.load X rfl rfl rfl) ?_
  refine Run.go (Ev.loadBox X rfl rfl rfl rfl rfl) ?_
  obtain ⟨x1, e2, h⟩ := bdS h
  refine Run.go (Ev.callC en17 (k_formed_Query e2) rfl (.cons .v (.cons .v .nil)) rfl rfl) ?_
  refine Run.go (Ev.not rfl rfl) ?_
  refine Run.go (Ev.assign rfl rfl) ?_
  refine Run.nil ?_
  refine T.ret ?_
  cases h
  exact Fin.one rfl .v
theorem en36 : Enters Tryz.prog 36 := ⟨_, Tryz.func36, rfl, rfl⟩
theorem k_slices_IndexFunc_api_Query_api_Query__formed_Queries_1 {p0 : (List D_api_Query)} {p1_0 : (List D_api_Net)} {y : Int} (h : m_slices_IndexFunc_api_Query_api_Query__formed_Queries_1 p0 p1_0 = some y) : Spec Tryz.prog 63 [(.v (.sl Y_api_Query) p0), (.fn 36 [(.ptr (.sl Y_api_Net) p1_0)])] (.v (.int .i64) y) [] := by
  rw [m_slices_IndexFunc_api_Query_api_Query__formed_Queries_1] at h
  refine enterN [(.v (.sl Y_api_Query) p0), (.fn 36 [(.ptr (.sl Y_api_Net) p1_0)])] 19 Tryz.func63 rfl rfl rfl ?_
  refine T.seq ?_
  refine T.region ?_
  refine Run.go (Ev.assign rfl rfl) ?_
  refine Run.nil ?_
  refine T.seq ?_
  refine T.seq ?_
  refine T.region ?_
  refine Run.go (Ev.move rfl rfl) ?_
  refine Run.go (Ev.len X rfl rfl rfl rfl) ?_
  refine Run.go (Ev.move rfl rfl) ?_
  refine Run.nil ?_
  refine T.block ?_
  refine T.loop (LoopT.ghost (Ghost.only [] [0, 1, 7, 8] rfl) (LoopT.run (fun q : Int => (⟨[(0, .v (.sl Y_api_Query) p0), (1, .fn 36 [.ptr (.sl Y_api_Net) p1_0]), (7, .v (.int .i64) ((p0.length : Int) : Int)), (8, .v (.int .i64) q)], [], 19⟩ : St)) (fun v1 z1 h hz1 => ?_) h))
  rw [m_slices_IndexFunc_api_Query_api_Query__formed_Queries_1_l1] at h
  refine T.seq ?_
  refine T.region ?_
  refine Run.go (Ev.int rfl rfl rfl rfl trivial) ?_
  refine Run.nil ?_
  refine T.seq ?_
  refine T.cond rfl (fun hb2 => ?_) (fun hb2 => ?_)
  · replace h := ifT hb2 h
    refine T.skip ?_
    refine T.seq ?_
    refine T.block ?_
    refine T.seq ?_
    refine T.region ?_
    refine Run.go (Ev.move rfl rfl) ?_
    refine Run.go (Ev.assign rfl rfl) ?_
    refine Run.nil ?_
    refine T.seq ?_
    refine T.region ?_
    refine Run.go (Ev.move rfl rfl) ?_
    refine Run.go (Ev.move rfl rfl) ?_
    refine Run.go (Ev.move rfl rfl) ?_
    obtain ⟨x3, e4, h⟩ := bdS h
    refine Run.go (Ev.e_rd X e4 rfl rfl rfl rfl) ?_
    refine Run.go (Ev.load X rfl rfl rfl) ?_
    obtain ⟨x5, e6, h⟩ := bdS h
    refine Run.go (Ev.callC en36 (k_formed_Queries_1 e6) rfl (.cons .v (.cons .ptr .nil)) rfl rfl) ?_
    refine Run.nil ?_
    refine T.cond rfl (fun hb7 => ?_) (fun hb7 => ?_)
    · replace h := ifT hb7 h
      refine T.seq ?_
      refine T.region ?_
      refine Run.go (Ev.move rfl rfl) ?_
      refine Run.go (Ev.assign rfl rfl) ?_
      refine Run.nil ?_
      refine T.ret ?_
      cases h
      cases hz1
      exact Fin.one rfl .v
    · replace h := ifF hb7 h
      refine T.skip ?_
      refine T.region ?_
      refine Run.go (Ev.int rfl rfl rfl rfl trivial) ?_
      refine Run.go (Ev.move rfl rfl) ?_
      refine Run.nil ?_
      cases h
      exact LoopT.ghost (Ghost.only [] [0, 1, 7, 8] rfl) hz1
  · replace h := ifF hb2 h
    refine T.exit ?_
    refine T.seq ?_
    refine T.region ?_
    refine Run.go (Ev.assign rfl rfl) ?_
    refine Run.nil ?_
    refine T.ret ?_
    cases h
    cases hz1
    exact Fin.one rfl .v
theorem en63 : Enters Tryz.prog 63 := ⟨_, Tryz.func63, rfl, rfl⟩
theorem k_slices_ContainsFunc_api_Query_api_Query__formed_Queries_1 {p0 : (List D_api_Query)} {p1_0 : (List D_api_Net)} {y : Bool} (h : m_slices_ContainsFunc_api_Query_api_Query__formed_Queries_1 p0 p1_0 = some y) : Spec Tryz.prog 35 [(.v (.sl Y_api_Query) p0), (.fn 36 [(.ptr (.sl Y_api_Net) p1_0)])] (.v .bool y) [] := by
  rw [m_slices_ContainsFunc_api_Query_api_Query__formed_Queries_1] at h
  refine enterN [(.v (.sl Y_api_Query) p0), (.fn 36 [(.ptr (.sl Y_api_Net) p1_0)])] 9 Tryz.func35 rfl rfl rfl ?_
  refine T.seq ?_
  refine T.region ?_
  refine Run.go (Ev.assign rfl rfl) ?_
  refine Run.nil ?_
  refine T.seq ?_
  refine T.region ?_
  refine Run.go (Ev.move rfl rfl) ?_
  refine Run.go (Ev.move rfl rfl) ?_
  obtain ⟨x1, e2, h⟩ := bdS h
  refine Run.go (Ev.callC en63 (k_slices_IndexFunc_api_Query_api_Query__formed_Queries_1 e2) rfl (.cons .v (.cons (.fn rfl) .nil)) rfl rfl) ?_
  refine Run.go (Ev.int rfl rfl rfl rfl trivial) ?_
  refine Run.go (Ev.assign rfl rfl) ?_
  refine Run.nil ?_
  refine T.ret ?_
  cases h
  exact Fin.one rfl .v
theorem en35 : Enters Tryz.prog 35 := ⟨_, Tryz.func35, rfl, rfl⟩
theorem k_formed_Queries {p0 : (List D_api_Net)} {p1 : (List D_api_Query)} {y : Bool} (h : m_formed_Queries p0 p1 = some y) : Spec Tryz.prog 18 [(.v (.sl Y_api_Net) p0), (.v (.sl Y_api_Query) p1)] (.v .bool y) [] := by
  rw [m_formed_Queries] at h
  refine enterN [(.v (.sl Y_api_Net) p0), (.v (.sl Y_api_Query) p1)] 9 Tryz.func18 rfl rfl rfl ?_
  refine T.seq ?_
  refine T.region ?_
  refine Run.go (Ev.box 1 rfl rfl rfl rfl) ?_
  refine Run.go (Ev.assign rfl rfl) ?_
  refine Run.nil ?_
  refine T.seq ?_
  refine T.region ?_
  refine Run.go (Ev.move rfl rfl) ?_
  refine Run.go (Ev.e_fn rfl rfl) ?_
  refine Run.ghost (Ghost.freeze (id := 1) (τ := (.sl Y_api_Net)) (y := (p0 : (List D_api_Net))) rfl rfl) ?_
  obtain ⟨x1, e2, h⟩ := bdS h
  refine Run.go (Ev.callC en35 (k_slices_ContainsFunc_api_Query_api_Query__formed_Queries_1 e2) rfl (.cons .v (.cons (.fn rfl) .nil)) rfl rfl) ?_
  refine Run.go (Ev.not rfl rfl) ?_
  refine Run.go (Ev.assign rfl rfl) ?_
  refine Run.nil ?_
  refine T.ret ?_
  cases h
  exact Fin.one rfl .v
theorem en18 : Enters Tryz.prog 18 := ⟨_, Tryz.func18, rfl, rfl⟩
theorem k_name_letter {p0 : Int} {y : Bool} (h : m_name_letter p0 = some y) : Spec Tryz.prog 93 [(.v (.int .i32) p0)] (.v .bool y) [] := by
  rw [m_name_letter] at h
  refine enterN [(.v (.int .i32) p0)] 9 Tryz.func93 rfl rfl rfl ?_
  refine T.seq ?_
  refine T.region ?_
  refine Run.go (Ev.assign rfl rfl) ?_
  refine Run.nil ?_
  refine T.seq ?_
  refine T.region ?_
  refine Run.go (Ev.move rfl rfl) ?_
  refine Run.go (Ev.int rfl rfl rfl rfl trivial) ?_
  refine Run.go (Ev.move rfl rfl) ?_
  rcases boolCases (decide (97 ≤ p0)) with hb1 | hb1
  · replace h := ifT hb1 h
    refine Run.on rfl rfl rfl hb1 (Ev.move rfl rfl) ?_
    refine Run.on rfl rfl rfl hb1 (Ev.int rfl rfl rfl rfl trivial) ?_
    refine Run.go (Ev.pickT rfl hb1 rfl rfl) ?_
    refine Run.go (Ev.assign rfl rfl) ?_
    refine Run.nil ?_
    refine T.ret ?_
    cases h
    exact Fin.one rfl .v
  · replace h := ifF hb1 h
    refine Run.offT rfl rfl rfl rfl hb1 ?_
    refine Run.offT rfl rfl rfl rfl hb1 ?_
    refine Run.go (Ev.pickF rfl hb1 rfl rfl) ?_
    refine Run.go (Ev.assign rfl rfl) ?_
    refine Run.nil ?_
    refine T.ret ?_
    cases h
    exact Fin.one rfl .v
theorem en93 : Enters Tryz.prog 93 := ⟨_, Tryz.func93, rfl, rfl⟩
theorem k_name_other {p0 : Int} {y : Bool} (h : m_name_other p0 = some y) : Spec Tryz.prog 94 [(.v (.int .i32) p0)] (.v .bool y) [] := by
  rw [m_name_other] at h
  refine enterN [(.v (.int .i32) p0)] 17 Tryz.func94 rfl rfl rfl ?_
  refine T.seq ?_
  refine T.region ?_
  refine Run.go (Ev.assign rfl rfl) ?_
  refine Run.nil ?_
  refine T.seq ?_
  refine T.region ?_
  refine Run.go (Ev.move rfl rfl) ?_
  refine Run.go (Ev.int rfl rfl rfl rfl trivial) ?_
  refine Run.go (Ev.move rfl rfl) ?_
  rcases boolCases (decide (48 ≤ p0)) with hb1 | hb1
  · replace h := ifT hb1 h
    refine Run.on rfl rfl rfl hb1 (Ev.move rfl rfl) ?_
    refine Run.on rfl rfl rfl hb1 (Ev.int rfl rfl rfl rfl trivial) ?_
    refine Run.go (Ev.pickT rfl hb1 rfl rfl) ?_
    refine Run.go (Ev.move rfl rfl) ?_
    rcases boolCases (decide (p0 ≤ 57)) with hb2 | hb2
    · replace h := ifT hb2 h
      refine Run.offT rfl rfl rfl rfl hb2 ?_
      refine Run.offT rfl rfl rfl rfl hb2 ?_
      refine Run.go (Ev.pickT rfl hb2 rfl rfl) ?_
      refine Run.go (Ev.move rfl rfl) ?_
      refine Run.offT rfl rfl rfl rfl rfl ?_
      refine Run.offT rfl rfl rfl rfl rfl ?_
      refine Run.go (Ev.pickT rfl rfl rfl rfl) ?_
      refine Run.go (Ev.assign rfl rfl) ?_
      refine Run.nil ?_
      refine T.ret ?_
      cases h
      exact Fin.one rfl .v
    · replace h := ifF hb2 h
      refine Run.on rfl rfl rfl hb2 (Ev.move rfl rfl) ?_
      refine Run.on rfl rfl rfl hb2 (Ev.int rfl rfl rfl rfl trivial) ?_
      refine Run.go (Ev.pickF rfl hb2 rfl rfl) ?_
      refine Run.go (Ev.move rfl rfl) ?_
      rcases boolCases (decide (p0 = 45)) with hb3 | hb3
      · replace h := ifT hb3 h
        refine Run.offT rfl rfl rfl rfl hb3 ?_
        refine Run.offT rfl rfl rfl rfl hb3 ?_
        refine Run.go (Ev.pickT rfl hb3 rfl rfl) ?_
        refine Run.go (Ev.assign rfl rfl) ?_
        refine Run.nil ?_
        refine T.ret ?_
        cases h
        exact Fin.one rfl .v
      · replace h := ifF hb3 h
        refine Run.on rfl rfl rfl hb3 (Ev.move rfl rfl) ?_
        refine Run.on rfl rfl rfl hb3 (Ev.int rfl rfl rfl rfl trivial) ?_
        refine Run.go (Ev.pickF rfl hb3 rfl rfl) ?_
        refine Run.go (Ev.assign rfl rfl) ?_
        refine Run.nil ?_
        refine T.ret ?_
        cases h
        exact Fin.one rfl .v
  · replace h := ifF hb1 h
    refine Run.offT rfl rfl rfl rfl hb1 ?_
    refine Run.offT rfl rfl rfl rfl hb1 ?_
    refine Run.go (Ev.pickF rfl hb1 rfl rfl) ?_
    refine Run.go (Ev.move rfl rfl) ?_
    refine Run.on rfl rfl rfl rfl (Ev.move rfl rfl) ?_
    refine Run.on rfl rfl rfl rfl (Ev.int rfl rfl rfl rfl trivial) ?_
    refine Run.go (Ev.pickF rfl rfl rfl rfl) ?_
    refine Run.go (Ev.move rfl rfl) ?_
    rcases boolCases (decide (p0 = 45)) with hb4 | hb4
    · replace h := ifT hb4 h
      refine Run.offT rfl rfl rfl rfl hb4 ?_
      refine Run.offT rfl rfl rfl rfl hb4 ?_
      refine Run.go (Ev.pickT rfl hb4 rfl rfl) ?_
      refine Run.go (Ev.assign rfl rfl) ?_
      refine Run.nil ?_
      refine T.ret ?_
      cases h
      exact Fin.one rfl .v
    · replace h := ifF hb4 h
      refine Run.on rfl rfl rfl hb4 (Ev.move rfl rfl) ?_
      refine Run.on rfl rfl rfl hb4 (Ev.int rfl rfl rfl rfl trivial) ?_
      refine Run.go (Ev.pickF rfl hb4 rfl rfl) ?_
      refine Run.go (Ev.assign rfl rfl) ?_
      refine Run.nil ?_
      refine T.ret ?_
      cases h
      exact Fin.one rfl .v
theorem en94 : Enters Tryz.prog 94 := ⟨_, Tryz.func94, rfl, rfl⟩
theorem k_name_Word {p0 : ByteArray} {y : Bool} (h : m_name_Word p0 = some y) : Spec Tryz.prog 70 [(.v .str p0)] (.v .bool y) [] := by
  rw [m_name_Word] at h
  refine enterN [(.v .str p0)] 25 Tryz.func70 rfl rfl rfl ?_
  refine T.seq ?_
  refine T.region ?_
  refine Run.go (Ev.assign rfl rfl) ?_
  refine Run.nil ?_
  refine T.seq ?_
  refine T.seq ?_
  refine T.region ?_
  refine Run.go (Ev.move rfl rfl) ?_
  refine Run.go (Ev.e_range X 1 rfl rfl rfl rfl) ?_
  refine Run.nil ?_
  refine T.block ?_
  refine T.loop (LoopT.ghost (Ghost.only [(1, 1)] [0, 6] rfl) (LoopT.run (fun q : Nat => (⟨[(0, .v .str p0), (6, .it 1)], [(1, .siter p0 q)], 25⟩ : St)) (fun v1 z1 h hz1 => ?_) h))
  rw [m_name_Word_l1] at h
  refine T.seq ?_
  refine T.region ?_
  rcases boolCases (decide (v1 < p0.size)) with hb2 | hb2
  · replace h := ifT hb2 h
    refine Run.go (Ev.e_nextT hb2 rfl rfl rfl) ?_
    refine Run.go (Ev.extract rfl rfl rfl) ?_
    refine Run.nil ?_
    refine T.seq ?_
    refine T.condT rfl rfl ?_
    refine T.skip ?_
    refine T.block ?_
    refine T.seq ?_
    refine T.region ?_
    refine Run.go (Ev.extract rfl rfl rfl) ?_
    refine Run.go (Ev.extract rfl rfl rfl) ?_
    refine Run.go (Ev.assign rfl rfl) ?_
    refine Run.go (Ev.assign rfl rfl) ?_
    refine Run.nil ?_
    obtain ⟨⟨v3, v4⟩, hv, h⟩ := bdS h
    refine T.cut (fun _ : Unit => (⟨[(0, .v .str p0), (6, .it 1), (22, .v .bool v3)], [(1, .siter p0 v4)], 25⟩ : St)) (fun _ => True) ?_ (fun _ _ => ?_)
    · replace h := hv
      clear hv
      refine T.region ?_
      refine Run.go (Ev.move rfl rfl) ?_
      obtain ⟨x5, e6, h⟩ := bdS h
      refine Run.go (Ev.callC en93 (k_name_letter e6) rfl (.cons .v .nil) rfl rfl) ?_
      refine Run.go (Ev.not rfl rfl) ?_
      refine Run.go (Ev.move rfl rfl) ?_
      rcases boolCases (!x5) with hb7 | hb7
      · replace h := ifT hb7 h
        refine Run.on rfl rfl rfl hb7 (Ev.move rfl rfl) ?_
        refine Run.on rfl rfl rfl hb7 (Ev.int rfl rfl rfl rfl trivial) ?_
        refine Run.on rfl rfl rfl hb7 (Ev.move rfl rfl) ?_
        rcases boolCases (decide ((v1 : Int) = 0)) with hb8 | hb8
        · replace h := ifT hb8 h
          refine Run.offT rfl rfl rfl rfl hb8 ?_
          refine Run.offT rfl rfl rfl rfl hb8 ?_
          refine Run.offT rfl rfl rfl rfl hb8 ?_
          refine Run.on rfl rfl rfl hb7 (Ev.pickT rfl hb8 rfl rfl) ?_
          refine Run.go (Ev.pickT rfl hb7 rfl rfl) ?_
          refine Run.nil ?_
          cases h
          exact ⟨(), trivial, Ghost.only [(1, 1)] [0, 6, 22] rfl⟩
        · replace h := ifF hb8 h
          refine Run.on rfl rfl rfl hb8 (Ev.move rfl rfl) ?_
          obtain ⟨x9, e10, h⟩ := bdS h
          refine Run.on rfl rfl rfl hb8 (Ev.callC en94 (k_name_other e10) rfl (.cons .v .nil) rfl rfl) ?_
          refine Run.on rfl rfl rfl hb8 (Ev.not rfl rfl) ?_
          refine Run.on rfl rfl rfl hb7 (Ev.pickF rfl hb8 rfl rfl) ?_
          refine Run.go (Ev.pickT rfl hb7 rfl rfl) ?_
          refine Run.nil ?_
          cases h
          exact ⟨(), trivial, Ghost.only [(1, 1)] [0, 6, 22] rfl⟩
      · replace h := ifF hb7 h
        refine Run.offT rfl rfl rfl rfl hb7 ?_
        refine Run.offT rfl rfl rfl rfl hb7 ?_
        refine Run.offT rfl rfl rfl rfl hb7 ?_
        refine Run.un rfl rfl rfl ?_
        refine Run.un rfl rfl rfl ?_
        refine Run.un rfl rfl rfl ?_
        refine Run.offT rfl rfl rfl rfl hb7 ?_
        refine Run.go (Ev.pickF rfl hb7 rfl rfl) ?_
        refine Run.nil ?_
        cases h
        exact ⟨(), trivial, Ghost.only [(1, 1)] [0, 6, 22] rfl⟩
    · refine T.cond rfl (fun hb11 => ?_) (fun hb11 => ?_)
      · replace h := ifT hb11 h
        refine T.seq ?_
        refine T.region ?_
        refine Run.go (Ev.assign rfl rfl) ?_
        refine Run.nil ?_
        refine T.ret ?_
        cases h
        cases hz1
        exact Fin.one rfl .v
      · replace h := ifF hb11 h
        refine T.skip ?_
        cases h
        exact LoopT.ghost (Ghost.only [(1, 1)] [0, 6] rfl) hz1
  · replace h := ifF hb2 h
    refine Run.go (Ev.e_nextF hb2 rfl rfl rfl) ?_
    refine Run.go (Ev.extract rfl rfl rfl) ?_
    refine Run.nil ?_
    refine T.seq ?_
    refine T.condF rfl rfl ?_
    refine T.exit ?_
    refine T.seq ?_
    refine T.region ?_
    refine Run.go (Ev.move rfl rfl) ?_
    refine Run.go (Ev.strs rfl rfl rfl rfl trivial) ?_
    refine Run.go (Ev.assign rfl rfl) ?_
    refine Run.nil ?_
    refine T.ret ?_
    cases h
    cases hz1
    exact Fin.one rfl .v
theorem en70 : Enters Tryz.prog 70 := ⟨_, Tryz.func70, rfl, rfl⟩
theorem k_name_Keywords  {y : (List ByteArray)} (h : m_name_Keywords  = some y) : Spec Tryz.prog 96 [] (.v (.sl .str) y) [] := by
  rw [m_name_Keywords] at h
  refine enterN [] 2 Tryz.func96 rfl rfl rfl ?_
  refine T.seq ?_
  refine T.region ?_
  refine Run.go (Ev.assign rfl rfl) ?_
  refine Run.nil ?_
  refine T.seq ?_
  refine T.region ?_
  refine Run.go (Ev.build X 1 rfl rfl rfl rfl rfl rfl rfl rfl) ?_
  refine Run.go (Ev.assign rfl rfl) ?_
  refine Run.nil ?_
  refine T.ret ?_
  cases h
  exact Fin.one rfl (.own rfl)
theorem en96 : Enters Tryz.prog 96 := ⟨_, Tryz.func96, rfl, rfl⟩
theorem k_slices_Index_string_string {p0 : (List ByteArray)} {p1 : ByteArray} {y : Int} (h : m_slices_Index_string_string p0 p1 = some y) : Spec Tryz.prog 112 [(.v (.sl .str) p0), (.v .str p1)] (.v (.int .i64) y) [] := by
  rw [m_slices_Index_string_string] at h
  refine enterN [(.v (.sl .str) p0), (.v .str p1)] 19 Tryz.func112 rfl rfl rfl ?_
  refine T.seq ?_
  refine T.region ?_
  refine Run.go (Ev.assign rfl rfl) ?_
  refine Run.nil ?_
  refine T.seq ?_
  refine T.seq ?_
  refine T.region ?_
  refine Run.go (Ev.move rfl rfl) ?_
  refine Run.go (Ev.len X rfl rfl rfl rfl) ?_
  refine Run.go (Ev.move rfl rfl) ?_
  refine Run.nil ?_
  refine T.block ?_
  refine T.loop (LoopT.ghost (Ghost.only [] [0, 1, 7, 8] rfl) (LoopT.run (fun q : Int => (⟨[(0, .v (.sl .str) p0), (1, .v .str p1), (7, .v (.int .i64) ((p0.length : Int) : Int)), (8, .v (.int .i64) q)], [], 19⟩ : St)) (fun v1 z1 h hz1 => ?_) h))
  rw [m_slices_Index_string_string_l1] at h
  refine T.seq ?_
  refine T.region ?_
  refine Run.go (Ev.int rfl rfl rfl rfl trivial) ?_
  refine Run.nil ?_
  refine T.seq ?_
  refine T.cond rfl (fun hb2 => ?_) (fun hb2 => ?_)
  · replace h := ifT hb2 h
    refine T.skip ?_
    refine T.seq ?_
    refine T.block ?_
    refine T.seq ?_
    refine T.region ?_
    refine Run.go (Ev.move rfl rfl) ?_
    refine Run.go (Ev.assign rfl rfl) ?_
    refine Run.nil ?_
    refine T.seq ?_
    refine T.region ?_
    refine Run.go (Ev.move rfl rfl) ?_
    refine Run.go (Ev.move rfl rfl) ?_
    refine Run.go (Ev.move rfl rfl) ?_
    obtain ⟨x3, e4, h⟩ := bdS h
    refine Run.go (Ev.e_rd X e4 rfl rfl rfl rfl) ?_
    refine Run.go (Ev.load X rfl rfl rfl) ?_
    refine Run.go (Ev.strs rfl rfl rfl rfl trivial) ?_
    refine Run.nil ?_
    refine T.cond rfl (fun hb5 => ?_) (fun hb5 => ?_)
    · replace h := ifT hb5 h
      refine T.seq ?_
      refine T.region ?_
      refine Run.go (Ev.move rfl rfl) ?_
      refine Run.go (Ev.assign rfl rfl) ?_
      refine Run.nil ?_
      refine T.ret ?_
      cases h
      cases hz1
      exact Fin.one rfl .v
    · replace h := ifF hb5 h
      refine T.skip ?_
      refine T.region ?_
      refine Run.go (Ev.int rfl rfl rfl rfl trivial) ?_
      refine Run.go (Ev.move rfl rfl) ?_
      refine Run.nil ?_
      cases h
      exact LoopT.ghost (Ghost.only [] [0, 1, 7, 8] rfl) hz1
  · replace h := ifF hb2 h
    refine T.exit ?_
    refine T.seq ?_
    refine T.region ?_
    refine Run.go (Ev.assign rfl rfl) ?_
    refine Run.nil ?_
    refine T.ret ?_
    cases h
    cases hz1
    exact Fin.one rfl .v
theorem en112 : Enters Tryz.prog 112 := ⟨_, Tryz.func112, rfl, rfl⟩
theorem k_slices_Contains_string_string {p0 : (List ByteArray)} {p1 : ByteArray} {y : Bool} (h : m_slices_Contains_string_string p0 p1 = some y) : Spec Tryz.prog 95 [(.v (.sl .str) p0), (.v .str p1)] (.v .bool y) [] := by
  rw [m_slices_Contains_string_string] at h
  refine enterN [(.v (.sl .str) p0), (.v .str p1)] 9 Tryz.func95 rfl rfl rfl ?_
  refine T.seq ?_
  refine T.region ?_
  refine Run.go (Ev.assign rfl rfl) ?_
  refine Run.nil ?_
  refine T.seq ?_
  refine T.region ?_
  refine Run.go (Ev.move rfl rfl) ?_
  refine Run.go (Ev.move rfl rfl) ?_
  obtain ⟨x1, e2, h⟩ := bdS h
  refine Run.go (Ev.callC en112 (k_slices_Index_string_string e2) rfl (.cons .v (.cons .v .nil)) rfl rfl) ?_
  refine Run.go (Ev.int rfl rfl rfl rfl trivial) ?_
  refine Run.go (Ev.assign rfl rfl) ?_
  refine Run.nil ?_
  refine T.ret ?_
  cases h
  exact Fin.one rfl .v
theorem en95 : Enters Tryz.prog 95 := ⟨_, Tryz.func95, rfl, rfl⟩
theorem k_name_Keyword {p0 : ByteArray} {y : Bool} (h : m_name_Keyword p0 = some y) : Spec Tryz.prog 71 [(.v .str p0)] (.v .bool y) [] := by
  rw [m_name_Keyword] at h
  refine enterN [(.v .str p0)] 6 Tryz.func71 rfl rfl rfl ?_
  refine T.seq ?_
  refine T.region ?_
  refine Run.go (Ev.assign rfl rfl) ?_
  refine Run.nil ?_
  refine T.seq ?_
  refine T.region ?_
  obtain ⟨x1, e2, h⟩ := bdS h
  refine Run.go (Ev.callC en96 (k_name_Keywords e2) rfl .nil rfl rfl) ?_
  refine Run.go (Ev.move rfl rfl) ?_
  obtain ⟨x3, e4, h⟩ := bdS h
  refine Run.go (Ev.callC en95 (k_slices_Contains_string_string e4) rfl (.cons .v (.cons .v .nil)) rfl rfl) ?_
  refine Run.go (Ev.assign rfl rfl) ?_
  refine Run.nil ?_
  refine T.ret ?_
  cases h
  exact Fin.one rfl .v
theorem en71 : Enters Tryz.prog 71 := ⟨_, Tryz.func71, rfl, rfl⟩
theorem k_name_Name {p0 : ByteArray} {y : Bool} (h : m_name_Name p0 = some y) : Spec Tryz.prog 43 [(.v .str p0)] (.v .bool y) [] := by
  rw [m_name_Name] at h
  refine enterN [(.v .str p0)] 10 Tryz.func43 rfl rfl rfl ?_
  refine T.seq ?_
  refine T.region ?_
  refine Run.go (Ev.assign rfl rfl) ?_
  refine Run.nil ?_
  refine T.seq ?_
  refine T.region ?_
  refine Run.go (Ev.move rfl rfl) ?_
  obtain ⟨x1, e2, h⟩ := bdS h
  refine Run.go (Ev.callC en70 (k_name_Word e2) rfl (.cons .v .nil) rfl rfl) ?_
  refine Run.go (Ev.move rfl rfl) ?_
  rcases boolCases x1 with hb3 | hb3
  · replace h := ifT hb3 h
    refine Run.on rfl rfl rfl hb3 (Ev.move rfl rfl) ?_
    obtain ⟨x4, e5, h⟩ := bdS h
    refine Run.on rfl rfl rfl hb3 (Ev.callC en71 (k_name_Keyword e5) rfl (.cons .v .nil) rfl rfl) ?_
    refine Run.on rfl rfl rfl hb3 (Ev.not rfl rfl) ?_
    refine Run.go (Ev.pickT rfl hb3 rfl rfl) ?_
    refine Run.go (Ev.assign rfl rfl) ?_
    refine Run.nil ?_
    refine T.ret ?_
    cases h
    exact Fin.one rfl .v
  · replace h := ifF hb3 h
    refine Run.offT rfl rfl rfl rfl hb3 ?_
    refine Run.offT rfl rfl rfl rfl hb3 ?_
    refine Run.offT rfl rfl rfl rfl hb3 ?_
    refine Run.go (Ev.pickF rfl hb3 rfl rfl) ?_
    refine Run.go (Ev.assign rfl rfl) ?_
    refine Run.nil ?_
    refine T.ret ?_
    cases h
    exact Fin.one rfl .v
theorem en43 : Enters Tryz.prog 43 := ⟨_, Tryz.func43, rfl, rfl⟩
theorem k_name_Twice {p0 : (List ByteArray)} {y : ByteArray × Bool} (h : m_name_Twice p0 = some y) : Spec Tryz.prog 44 [(.v (.sl .str) p0)] (.tup [.v .str y.1, .v .bool y.2]) [] := by
  rw [m_name_Twice] at h
  refine enterN [(.v (.sl .str) p0)] 21 Tryz.func44 rfl rfl rfl ?_
  refine T.seq ?_
  refine T.region ?_
  refine Run.go (Ev.assign rfl rfl) ?_
  refine Run.go (Ev.assign rfl rfl) ?_
  refine Run.nil ?_
  refine T.seq ?_
  refine T.region ?_
  refine Run.go (Ev.e_mkmap 1 .str .bool rfl rfl) ?_
  refine Run.go (Ev.assign rfl rfl) ?_
  refine Run.nil ?_
  refine T.seq ?_
  refine T.seq ?_
  refine T.region ?_
  refine Run.go (Ev.move rfl rfl) ?_
  refine Run.go (Ev.len X rfl rfl rfl rfl) ?_
  refine Run.go (Ev.move rfl rfl) ?_
  refine Run.nil ?_
  refine T.block ?_
  refine T.loop (LoopT.ghost (Ghost.only [(1, 1)] [4, 8, 9, 10] rfl) (LoopT.run (fun q : Int × (List (ByteArray × Bool)) => (⟨[(4, .mp 1), (8, .v (.sl .str) p0), (9, .v (.int .i64) ((p0.length : Int) : Int)), (10, .v (.int .i64) q.1)], [(1, .map .str .bool q.2)], 21⟩ : St)) (fun q z1 h hz1 => ?_) h))
  obtain ⟨v1, v2⟩ := q
  dsimp only
  rw [m_name_Twice_l1] at h
  refine T.seq ?_
  refine T.region ?_
  refine Run.go (Ev.int rfl rfl rfl rfl trivial) ?_
  refine Run.nil ?_
  refine T.seq ?_
  refine T.cond rfl (fun hb3 => ?_) (fun hb3 => ?_)
  · replace h := ifT hb3 h
    refine T.skip ?_
    refine T.seq ?_
    refine T.block ?_
    refine T.seq ?_
    refine T.region ?_
    obtain ⟨x4, e5, h⟩ := bdS h
    refine Run.go (Ev.e_rd X e5 rfl rfl rfl rfl) ?_
    refine Run.go (Ev.load X rfl rfl rfl) ?_
    refine Run.go (Ev.assign rfl rfl) ?_
    refine Run.nil ?_
    refine T.seq ?_
    refine T.seq ?_
    refine T.region ?_
    refine Run.go (Ev.move rfl rfl) ?_
    refine Run.go (Ev.move rfl rfl) ?_
    refine Run.go (Ev.e_mget mt115 rfl rfl rfl rfl) ?_
    refine Run.nil ?_
    refine T.cond rfl (fun hb6 => ?_) (fun hb6 => ?_)
    · replace h := ifT hb6 h
      refine T.seq ?_
      refine T.region ?_
      refine Run.go (Ev.move rfl rfl) ?_
      refine Run.go (Ev.assign rfl rfl) ?_
      refine Run.go (Ev.assign rfl rfl) ?_
      refine Run.nil ?_
      refine T.ret ?_
      cases h
      cases hz1
      exact Fin.many X rfl (.cons (.tmp .v) (.cons (.tmp .v) .nil)) rfl
    · replace h := ifF hb6 h
      refine T.skip ?_
      refine T.region ?_
      refine Run.go (Ev.move rfl rfl) ?_
      refine Run.go (Ev.move rfl rfl) ?_
      obtain ⟨x7, e8, h⟩ := ltS h
      refine Run.do_ (Ev.asM (Ev.e_mput mt115 rfl rfl rfl rfl rfl) e8) ?_
      refine Run.nil ?_
      refine T.region ?_
      refine Run.go (Ev.int rfl rfl rfl rfl trivial) ?_
      refine Run.go (Ev.move rfl rfl) ?_
      refine Run.nil ?_
      cases h
      exact LoopT.ghost (Ghost.only [(1, 1)] [4, 8, 9, 10] rfl) hz1
  · replace h := ifF hb3 h
    refine T.exit ?_
    refine T.seq ?_
    refine T.region ?_
    refine Run.go (Ev.assign rfl rfl) ?_
    refine Run.go (Ev.assign rfl rfl) ?_
    refine Run.nil ?_
    refine T.ret ?_
    cases h
    cases hz1
    exact Fin.many X rfl (.cons (.tmp .v) (.cons (.tmp .v) .nil)) rfl
theorem en44 : Enters Tryz.prog 44 := ⟨_, Tryz.func44, rfl, rfl⟩
theorem k_formed_named {p0 : (List ByteArray)} {y : Bool} (h : m_formed_named p0 = some y) : Spec Tryz.prog 28 [(.v (.sl .str) p0)] (.v .bool y) [] := by
  rw [m_formed_named] at h
  refine enterN [(.v (.sl .str) p0)] 24 Tryz.func28 rfl rfl rfl ?_
  refine T.seq ?_
  refine T.region ?_
  refine Run.go (Ev.assign rfl rfl) ?_
  refine Run.nil ?_
  refine T.seq ?_
  refine T.seq ?_
  refine T.region ?_
  refine Run.go (Ev.move rfl rfl) ?_
  refine Run.go (Ev.len X rfl rfl rfl rfl) ?_
  refine Run.go (Ev.move rfl rfl) ?_
  refine Run.nil ?_
  refine T.block ?_
  refine T.loop (LoopT.ghost (Ghost.only [] [0, 7, 8, 9] rfl) (LoopT.run (fun q : Int => (⟨[(0, .v (.sl .str) p0), (7, .v (.sl .str) p0), (8, .v (.int .i64) ((p0.length : Int) : Int)), (9, .v (.int .i64) q)], [], 24⟩ : St)) (fun v1 z1 h hz1 => ?_) h))
  rw [m_formed_named_l1] at h
  refine T.seq ?_
  refine T.region ?_
  refine Run.go (Ev.int rfl rfl rfl rfl trivial) ?_
  refine Run.nil ?_
  refine T.seq ?_
  refine T.cond rfl (fun hb2 => ?_) (fun hb2 => ?_)
  · replace h := ifT hb2 h
    refine T.skip ?_
    refine T.seq ?_
    refine T.block ?_
    refine T.seq ?_
    refine T.region ?_
    obtain ⟨x3, e4, h⟩ := bdS h
    refine Run.go (Ev.e_rd X e4 rfl rfl rfl rfl) ?_
    refine Run.go (Ev.load X rfl rfl rfl) ?_
    refine Run.go (Ev.assign rfl rfl) ?_
    refine Run.nil ?_
    refine T.seq ?_
    refine T.region ?_
    refine Run.go (Ev.move rfl rfl) ?_
    obtain ⟨x5, e6, h⟩ := bdS h
    refine Run.go (Ev.callC en43 (k_name_Name e6) rfl (.cons .v .nil) rfl rfl) ?_
    refine Run.go (Ev.not rfl rfl) ?_
    refine Run.nil ?_
    refine T.cond rfl (fun hb7 => ?_) (fun hb7 => ?_)
    · replace h := ifT hb7 h
      refine T.seq ?_
      refine T.region ?_
      refine Run.go (Ev.assign rfl rfl) ?_
      refine Run.nil ?_
      refine T.ret ?_
      cases h
      cases hz1
      exact Fin.one rfl .v
    · replace h := ifF hb7 h
      refine T.skip ?_
      refine T.region ?_
      refine Run.go (Ev.int rfl rfl rfl rfl trivial) ?_
      refine Run.go (Ev.move rfl rfl) ?_
      refine Run.nil ?_
      cases h
      exact LoopT.ghost (Ghost.only [] [0, 7, 8, 9] rfl) hz1
  · replace h := ifF hb2 h
    refine T.exit ?_
    refine T.seq ?_
    refine T.region ?_
    refine Run.go (Ev.move rfl rfl) ?_
    obtain ⟨x8, e9, h⟩ := bdS h
    refine Run.go (Ev.callC en44 (k_name_Twice e9) rfl (.cons .v .nil) rfl rfl) ?_
    refine Run.go (Ev.move rfl rfl) ?_
    refine Run.go (Ev.extract rfl rfl rfl) ?_
    refine Run.go (Ev.extract rfl rfl rfl) ?_
    refine Run.go (Ev.assign rfl rfl) ?_
    refine Run.go (Ev.assign rfl rfl) ?_
    refine Run.nil ?_
    refine T.seq ?_
    refine T.region ?_
    refine Run.go (Ev.move rfl rfl) ?_
    refine Run.go (Ev.not rfl rfl) ?_
    refine Run.go (Ev.assign rfl rfl) ?_
    refine Run.nil ?_
    refine T.ret ?_
    cases h
    cases hz1
    exact Fin.one rfl .v
theorem en28 : Enters Tryz.prog 28 := ⟨_, Tryz.func28, rfl, rfl⟩
theorem k_formed_nodesRight {p0 : D_api_Net} {y : Bool} (h : m_formed_nodesRight p0 = some y) : Spec Tryz.prog 45 [(.v Y_api_Net p0)] (.v .bool y) [] := by
  rw [m_formed_nodesRight] at h
  refine enterN [(.v Y_api_Net p0)] 21 Tryz.func45 rfl rfl rfl ?_
  refine T.seq ?_
  refine T.region ?_
  refine Run.go (Ev.box 1 rfl rfl rfl rfl) ?_
  refine Run.go (Ev.assign rfl rfl) ?_
  refine Run.nil ?_
  refine T.seq ?_
  refine T.region ?_
  refine Run.go (Ev.assign rfl rfl) ?_
  refine Run.nil ?_
  obtain ⟨v1, hv, h⟩ := bdS h
  refine T.cut (fun _ : Unit => (⟨[(3, .own 4)], [(4, .arr 9 .str v1)], 21⟩ : St)) (fun _ => True) ?_ (fun _ _ => ?_)
  · replace h := hv
    clear hv
    refine T.seq ?_
    refine T.region ?_
    refine Run.go (Ev.fieldBox X rfl rfl rfl rfl rfl) ?_
    refine Run.go (Ev.loadCell X rfl rfl rfl rfl rfl rfl) ?_
    refine Run.go (Ev.len X rfl rfl rfl rfl) ?_
    refine Run.go (Ev.move rfl rfl) ?_
    refine Run.nil ?_
    refine T.block ?_
    refine T.loop (LoopT.ghost (Ghost.trans (Ghost.empty 3 25 9 .str rfl rfl) (Ghost.only [(25, 18)] [3, 7, 8, 9] rfl)) (LoopT.run (fun q : Int × (List ByteArray) => (⟨[(3, .own 18), (7, .v (.sl Y_api_Node) p0.2.1), (8, .v (.int .i64) ((p0.2.1.length : Int) : Int)), (9, .v (.int .i64) q.1)], [(18, .arr 9 .str q.2)], 21⟩ : St)) (fun q z1 h hz1 => ?_) h))
    obtain ⟨v2, v3⟩ := q
    dsimp only
    rw [m_formed_nodesRight_l1] at h
    refine T.seq ?_
    refine T.region ?_
    refine Run.go (Ev.int rfl rfl rfl rfl trivial) ?_
    refine Run.nil ?_
    refine T.seq ?_
    refine T.cond rfl (fun hb4 => ?_) (fun hb4 => ?_)
    · replace h := ifT hb4 h
      refine T.skip ?_
      refine T.seq ?_
      refine T.block ?_
      refine T.seq ?_
      refine T.region ?_
      obtain ⟨x5, e6, h⟩ := bdS h
      refine Run.go (Ev.e_rd X e6 rfl rfl rfl rfl) ?_
      refine Run.go (Ev.load X rfl rfl rfl) ?_
      refine Run.go (Ev.allocN X 26 rfl rfl rfl) ?_
      refine Run.do_ (Ev.storeBox X rfl rfl rfl rfl rfl rfl rfl) ?_
      refine Run.nil ?_
      refine T.region ?_
      refine Run.go (Ev.move rfl rfl) ?_
      refine Run.go (Ev.fieldBox X rfl rfl rfl rfl rfl) ?_
      refine Run.go (Ev.loadCell X rfl rfl rfl rfl rfl rfl) ?_
      refine Run.go (Ev.build X 27 rfl rfl rfl rfl rfl rfl rfl rfl) ?_
      obtain ⟨x7, e8, h⟩ := bdS h
      refine Run.go (Ev.e_ap X 28 e8 rfl rfl rfl (.own rfl) rfl rfl rfl rfl rfl) ?_
      refine Run.go (Ev.assign rfl rfl) ?_
      refine Run.nil ?_
      refine T.region ?_
      refine Run.go (Ev.int rfl rfl rfl rfl trivial) ?_
      refine Run.go (Ev.move rfl rfl) ?_
      refine Run.nil ?_
      cases h
      exact LoopT.ghost (Ghost.only [(28, 18)] [3, 7, 8, 9] rfl) hz1
    · replace h := ifF hb4 h
      refine T.exit ?_
      cases h
      cases hz1
      exact ⟨(), trivial, Ghost.only [(18, 4)] [3] rfl⟩
  · refine T.seq ?_
    refine T.region ?_
    refine Run.go (Ev.move rfl rfl) ?_
    obtain ⟨x9, e10, h⟩ := bdS h
    refine Run.go (Ev.lend rfl (.cons (.own rfl) .nil) en28 (k_formed_named e10) rfl rfl) ?_
    refine Run.go (Ev.assign rfl rfl) ?_
    refine Run.nil ?_
    refine T.ret ?_
    cases h
    exact Fin.one rfl .v
theorem en45 : Enters Tryz.prog 45 := ⟨_, Tryz.func45, rfl, rfl⟩
theorem k_formed_homesRight {p0 : D_api_Net} {y : Bool} (h : m_formed_homesRight p0 = some y) : Spec Tryz.prog 46 [(.v Y_api_Net p0)] (.v .bool y) [] := by
  rw [m_formed_homesRight] at h
  refine enterN [(.v Y_api_Net p0)] 35 Tryz.func46 rfl rfl rfl ?_
  refine T.seq ?_
  refine T.region ?_
  refine Run.go (Ev.box 1 rfl rfl rfl rfl) ?_
  refine Run.go (Ev.assign rfl rfl) ?_
  refine Run.nil ?_
  refine T.seq ?_
  refine T.seq ?_
  refine T.region ?_
  refine Run.go (Ev.fieldBox X rfl rfl rfl rfl rfl) ?_
  refine Run.go (Ev.loadCell X rfl rfl rfl rfl rfl rfl) ?_
  refine Run.go (Ev.len X rfl rfl rfl rfl) ?_
  refine Run.go (Ev.move rfl rfl) ?_
  refine Run.nil ?_
  refine T.block ?_
  refine T.loop (LoopT.ghost (Ghost.only [] [9, 10, 11] rfl) (LoopT.run (fun q : Int => (⟨[(9, .v (.sl Y_api_Node) p0.2.1), (10, .v (.int .i64) ((p0.2.1.length : Int) : Int)), (11, .v (.int .i64) q)], [], 35⟩ : St)) (fun v1 z1 h hz1 => ?_) h))
  rw [m_formed_homesRight_l1] at h
  refine T.seq ?_
  refine T.region ?_
  refine Run.go (Ev.int rfl rfl rfl rfl trivial) ?_
  refine Run.nil ?_
  refine T.seq ?_
  refine T.cond rfl (fun hb2 => ?_) (fun hb2 => ?_)
  · replace h := ifT hb2 h
    refine T.skip ?_
    refine T.seq ?_
    refine T.block ?_
    refine T.seq ?_
    refine T.region ?_
    obtain ⟨x3, e4, h⟩ := bdS h
    refine Run.go (Ev.e_rd X e4 rfl rfl rfl rfl) ?_
    refine Run.go (Ev.load X rfl rfl rfl) ?_
    refine Run.go (Ev.allocN X 30 rfl rfl rfl) ?_
    refine Run.do_ (Ev.storeBox X rfl rfl rfl rfl rfl rfl rfl) ?_
    refine Run.nil ?_
    refine T.seq ?_
    refine T.region ?_
    refine Run.go (Ev.e_mkmap 31 Y_api_Prefix .bool rfl rfl) ?_
    refine Run.go (Ev.assign rfl rfl) ?_
    refine Run.nil ?_
    refine T.seq ?_
    refine T.region ?_
    refine Run.go (Ev.fieldBox X rfl rfl rfl rfl rfl) ?_
    refine Run.go (Ev.loadCell X rfl rfl rfl rfl rfl rfl) ?_
    refine Run.go (Ev.len X rfl rfl rfl rfl) ?_
    refine Run.go (Ev.move rfl rfl) ?_
    refine Run.nil ?_
    refine T.block ?_
    refine T.loop (LoopT.ghost (Ghost.only [(31, 31)] [5, 9, 10, 11, 17, 18, 19] rfl) (LoopT.run (fun q : Int × (List (D_api_Prefix × Bool)) => (⟨[(5, .mp 31), (9, .v (.sl Y_api_Node) p0.2.1), (10, .v (.int .i64) ((p0.2.1.length : Int) : Int)), (11, .v (.int .i64) v1), (17, .v (.sl Y_api_Prefix) x3.2), (18, .v (.int .i64) ((x3.2.length : Int) : Int)), (19, .v (.int .i64) q.1)], [(31, .map Y_api_Prefix .bool q.2)], 35⟩ : St)) (fun q z2 h hz2 => ?_) h))
    obtain ⟨v5, v6⟩ := q
    dsimp only
    rw [m_formed_homesRight_l2] at h
    refine T.seq ?_
    refine T.region ?_
    refine Run.go (Ev.int rfl rfl rfl rfl trivial) ?_
    refine Run.nil ?_
    refine T.seq ?_
    refine T.cond rfl (fun hb7 => ?_) (fun hb7 => ?_)
    · replace h := ifT hb7 h
      refine T.skip ?_
      refine T.seq ?_
      refine T.block ?_
      refine T.seq ?_
      refine T.region ?_
      obtain ⟨x8, e9, h⟩ := bdS h
      refine Run.go (Ev.e_rd X e9 rfl rfl rfl rfl) ?_
      refine Run.go (Ev.load X rfl rfl rfl) ?_
      refine Run.go (Ev.allocN X 41 rfl rfl rfl) ?_
      refine Run.do_ (Ev.storeBox X rfl rfl rfl rfl rfl rfl rfl) ?_
      refine Run.nil ?_
      refine T.seq ?_
      obtain ⟨v10, hv, h⟩ := bdS h
      refine T.cut (fun _ : Unit => (⟨[(5, .mp 31), (7, .box 41 0), (9, .v (.sl Y_api_Node) p0.2.1), (10, .v (.int .i64) ((p0.2.1.length : Int) : Int)), (11, .v (.int .i64) v1), (17, .v (.sl Y_api_Prefix) x3.2), (18, .v (.int .i64) ((x3.2.length : Int) : Int)), (19, .v (.int .i64) v5), (30, .v .bool v10)], [(31, .map Y_api_Prefix .bool v6), (41, .box [.v (.int .u32) x8.1, .v (.int .i64) x8.2])], 35⟩ : St)) (fun _ => True) ?_ (fun _ _ => ?_)
      · replace h := hv
        clear hv
        refine T.region ?_
        refine Run.go (Ev.loadBox X rfl rfl rfl rfl rfl) ?_
        obtain ⟨x11, e12, h⟩ := bdS h
        refine Run.go (Ev.callC en34 (k_addr_May e12) rfl (.cons .v .nil) rfl rfl) ?_
        refine Run.go (Ev.not rfl rfl) ?_
        refine Run.go (Ev.move rfl rfl) ?_
        rcases boolCases (!x11) with hb13 | hb13
        · replace h := ifT hb13 h
          refine Run.offT rfl rfl rfl rfl hb13 ?_
          refine Run.offT rfl rfl rfl rfl hb13 ?_
          refine Run.offT rfl rfl rfl rfl hb13 ?_
          refine Run.go (Ev.pickT rfl hb13 rfl rfl) ?_
          refine Run.nil ?_
          cases h
          exact ⟨(), trivial, Ghost.only [(31, 31), (41, 41)] [5, 7, 9, 10, 11, 17, 18, 19, 30] rfl⟩
        · replace h := ifF hb13 h
          refine Run.on rfl rfl rfl hb13 (Ev.move rfl rfl) ?_
          refine Run.on rfl rfl rfl hb13 (Ev.loadBox X rfl rfl rfl rfl rfl) ?_
          refine Run.on rfl rfl rfl hb13 (Ev.e_mget mt116 rfl rfl rfl rfl) ?_
          refine Run.go (Ev.pickF rfl hb13 rfl rfl) ?_
          refine Run.nil ?_
          cases h
          exact ⟨(), trivial, Ghost.only [(31, 31), (41, 41)] [5, 7, 9, 10, 11, 17, 18, 19, 30] rfl⟩
      · refine T.cond rfl (fun hb14 => ?_) (fun hb14 => ?_)
        · replace h := ifT hb14 h
          refine T.seq ?_
          refine T.region ?_
          refine Run.go (Ev.assign rfl rfl) ?_
          refine Run.nil ?_
          refine T.ret ?_
          cases h
          cases hz2
          cases hz1
          exact Fin.one rfl .v
        · replace h := ifF hb14 h
          refine T.skip ?_
          refine T.region ?_
          refine Run.go (Ev.move rfl rfl) ?_
          refine Run.go (Ev.loadBox X rfl rfl rfl rfl rfl) ?_
          obtain ⟨x15, e16, h⟩ := ltS h
          refine Run.do_ (Ev.asM (Ev.e_mput mt116 rfl rfl rfl rfl rfl) e16) ?_
          refine Run.nil ?_
          refine T.region ?_
          refine Run.go (Ev.int rfl rfl rfl rfl trivial) ?_
          refine Run.go (Ev.move rfl rfl) ?_
          refine Run.nil ?_
          cases h
          exact LoopT.ghost (Ghost.only [(31, 31)] [5, 9, 10, 11, 17, 18, 19] rfl) hz2
    · replace h := ifF hb7 h
      refine T.exit ?_
      refine T.region ?_
      refine Run.go (Ev.int rfl rfl rfl rfl trivial) ?_
      refine Run.go (Ev.move rfl rfl) ?_
      refine Run.nil ?_
      cases h
      cases hz2
      exact LoopT.ghost (Ghost.only [] [9, 10, 11] rfl) hz1
  · replace h := ifF hb2 h
    refine T.exit ?_
    refine T.seq ?_
    refine T.region ?_
    refine Run.go (Ev.assign rfl rfl) ?_
    refine Run.nil ?_
    refine T.ret ?_
    cases h
    cases hz1
    exact Fin.one rfl .v
theorem en46 : Enters Tryz.prog 46 := ⟨_, Tryz.func46, rfl, rfl⟩
theorem k_formed_linksRight {p0 : D_api_Net} {y : Bool} (h : m_formed_linksRight p0 = some y) : Spec Tryz.prog 47 [(.v Y_api_Net p0)] (.v .bool y) [] := by
  rw [m_formed_linksRight] at h
  refine enterN [(.v Y_api_Net p0)] 21 Tryz.func47 rfl rfl rfl ?_
  refine T.seq ?_
  refine T.region ?_
  refine Run.go (Ev.box 1 rfl rfl rfl rfl) ?_
  refine Run.go (Ev.assign rfl rfl) ?_
  refine Run.nil ?_
  refine T.seq ?_
  refine T.region ?_
  refine Run.go (Ev.assign rfl rfl) ?_
  refine Run.nil ?_
  obtain ⟨v1, hv, h⟩ := bdS h
  refine T.cut (fun _ : Unit => (⟨[(3, .own 4)], [(4, .arr 9 .str v1)], 21⟩ : St)) (fun _ => True) ?_ (fun _ _ => ?_)
  · replace h := hv
    clear hv
    refine T.seq ?_
    refine T.region ?_
    refine Run.go (Ev.fieldBox X rfl rfl rfl rfl rfl) ?_
    refine Run.go (Ev.loadCell X rfl rfl rfl rfl rfl rfl) ?_
    refine Run.go (Ev.len X rfl rfl rfl rfl) ?_
    refine Run.go (Ev.move rfl rfl) ?_
    refine Run.nil ?_
    refine T.block ?_
    refine T.loop (LoopT.ghost (Ghost.trans (Ghost.empty 3 25 9 .str rfl rfl) (Ghost.only [(25, 18)] [3, 7, 8, 9] rfl)) (LoopT.run (fun q : Int × (List ByteArray) => (⟨[(3, .own 18), (7, .v (.sl Y_api_Link) p0.2.2.1), (8, .v (.int .i64) ((p0.2.2.1.length : Int) : Int)), (9, .v (.int .i64) q.1)], [(18, .arr 9 .str q.2)], 21⟩ : St)) (fun q z1 h hz1 => ?_) h))
    obtain ⟨v2, v3⟩ := q
    dsimp only
    rw [m_formed_linksRight_l1] at h
    refine T.seq ?_
    refine T.region ?_
    refine Run.go (Ev.int rfl rfl rfl rfl trivial) ?_
    refine Run.nil ?_
    refine T.seq ?_
    refine T.cond rfl (fun hb4 => ?_) (fun hb4 => ?_)
    · replace h := ifT hb4 h
      refine T.skip ?_
      refine T.seq ?_
      refine T.block ?_
      refine T.seq ?_
      refine T.region ?_
      obtain ⟨x5, e6, h⟩ := bdS h
      refine Run.go (Ev.e_rd X e6 rfl rfl rfl rfl) ?_
      refine Run.go (Ev.load X rfl rfl rfl) ?_
      refine Run.go (Ev.allocN X 26 rfl rfl rfl) ?_
      refine Run.do_ (Ev.storeBox X rfl rfl rfl rfl rfl rfl rfl) ?_
      refine Run.nil ?_
      refine T.region ?_
      refine Run.go (Ev.move rfl rfl) ?_
      refine Run.go (Ev.fieldBox X rfl rfl rfl rfl rfl) ?_
      refine Run.go (Ev.loadCell X rfl rfl rfl rfl rfl rfl) ?_
      refine Run.go (Ev.build X 27 rfl rfl rfl rfl rfl rfl rfl rfl) ?_
      obtain ⟨x7, e8, h⟩ := bdS h
      refine Run.go (Ev.e_ap X 28 e8 rfl rfl rfl (.own rfl) rfl rfl rfl rfl rfl) ?_
      refine Run.go (Ev.assign rfl rfl) ?_
      refine Run.nil ?_
      refine T.region ?_
      refine Run.go (Ev.int rfl rfl rfl rfl trivial) ?_
      refine Run.go (Ev.move rfl rfl) ?_
      refine Run.nil ?_
      cases h
      exact LoopT.ghost (Ghost.only [(28, 18)] [3, 7, 8, 9] rfl) hz1
    · replace h := ifF hb4 h
      refine T.exit ?_
      cases h
      cases hz1
      exact ⟨(), trivial, Ghost.only [(18, 4)] [3] rfl⟩
  · refine T.seq ?_
    refine T.region ?_
    refine Run.go (Ev.move rfl rfl) ?_
    obtain ⟨x9, e10, h⟩ := bdS h
    refine Run.go (Ev.lend rfl (.cons (.own rfl) .nil) en28 (k_formed_named e10) rfl rfl) ?_
    refine Run.go (Ev.assign rfl rfl) ?_
    refine Run.nil ?_
    refine T.ret ?_
    cases h
    exact Fin.one rfl .v
theorem en47 : Enters Tryz.prog 47 := ⟨_, Tryz.func47, rfl, rfl⟩
theorem k_formed_endsRight_1 {p0 : D_api_Link} {p1 : D_api_Net} {y : Bool} (h : m_formed_endsRight_1 p0 p1 = some y) : Spec Tryz.prog 73 [(.v Y_api_Link p0), (.ptr Y_api_Net p1)] (.v .bool y) [] := by
  rw [m_formed_endsRight_1] at h
  refine enterN [(.v Y_api_Link p0), (.ptr Y_api_Net p1)] 28 Tryz.func73 rfl rfl rfl ?_
  refine T.seq ?_
  refine T.region ?_
  refine Run.go (Ev.box 1 rfl rfl rfl rfl) ?_
  refine Run.go (Ev.assign rfl rfl) ?_
  refine Run.nil ?_
  refine T.seq ?_
  refine T.region ?_
  refine Run.go (Ev.load X rfl rfl rfl) ?_
  refine Run.go (Ev.fieldBox X rfl rfl rfl rfl rfl) ?_
  refine Run.go (Ev.loadCell X rfl rfl rfl rfl rfl rfl) ?_
  obtain ⟨x1, e2, h⟩ := bdS h
  refine Run.go (Ev.callC en8 (k_formed_Node e2) rfl (.cons .v (.cons .v .nil)) rfl rfl) ?_
  refine Run.go (Ev.move rfl rfl) ?_
  refine Run.go (Ev.extract rfl rfl rfl) ?_
  refine Run.go (Ev.extract rfl rfl rfl) ?_
  refine Run.go (Ev.assign rfl rfl) ?_
  refine Run.go (Ev.assign rfl rfl) ?_
  refine Run.nil ?_
  refine T.seq ?_
  refine T.region ?_
  refine Run.go (Ev.load X rfl rfl rfl) ?_
  refine Run.go (Ev.fieldBox X rfl rfl rfl rfl rfl) ?_
  refine Run.go (Ev.loadCell X rfl rfl rfl rfl rfl rfl) ?_
  obtain ⟨x3, e4, h⟩ := bdS h
  refine Run.go (Ev.callC en8 (k_formed_Node e4) rfl (.cons .v (.cons .v .nil)) rfl rfl) ?_
  refine Run.go (Ev.move rfl rfl) ?_
  refine Run.go (Ev.extract rfl rfl rfl) ?_
  refine Run.go (Ev.extract rfl rfl rfl) ?_
  refine Run.go (Ev.assign rfl rfl) ?_
  refine Run.go (Ev.assign rfl rfl) ?_
  refine Run.nil ?_
  refine T.seq ?_
  refine T.region ?_
  refine Run.go (Ev.move rfl rfl) ?_
  refine Run.go (Ev.not rfl rfl) ?_
  refine Run.go (Ev.move rfl rfl) ?_
  rcases boolCases (!x1.2) with hb5 | hb5
  · replace h := ifT hb5 h
    refine Run.offT rfl rfl rfl rfl hb5 ?_
    refine Run.offT rfl rfl rfl rfl hb5 ?_
    refine Run.go (Ev.pickT rfl hb5 rfl rfl) ?_
    refine Run.go (Ev.assign rfl rfl) ?_
    refine Run.nil ?_
    refine T.ret ?_
    cases h
    exact Fin.one rfl .v
  · replace h := ifF hb5 h
    refine Run.on rfl rfl rfl hb5 (Ev.move rfl rfl) ?_
    refine Run.on rfl rfl rfl hb5 (Ev.not rfl rfl) ?_
    refine Run.go (Ev.pickF rfl hb5 rfl rfl) ?_
    refine Run.go (Ev.assign rfl rfl) ?_
    refine Run.nil ?_
    refine T.ret ?_
    cases h
    exact Fin.one rfl .v
theorem en73 : Enters Tryz.prog 73 := ⟨_, Tryz.func73, rfl, rfl⟩
theorem k_slices_IndexFunc_api_Link_api_Link__formed_endsRight_1 {p0 : (List D_api_Link)} {p1_0 : D_api_Net} {y : Int} (h : m_slices_IndexFunc_api_Link_api_Link__formed_endsRight_1 p0 p1_0 = some y) : Spec Tryz.prog 26 [(.v (.sl Y_api_Link) p0), (.fn 73 [(.ptr Y_api_Net p1_0)])] (.v (.int .i64) y) [] := by
  rw [m_slices_IndexFunc_api_Link_api_Link__formed_endsRight_1] at h
  refine enterN [(.v (.sl Y_api_Link) p0), (.fn 73 [(.ptr Y_api_Net p1_0)])] 19 Tryz.func26 rfl rfl rfl ?_
  refine T.seq ?_
  refine T.region ?_
  refine Run.go (Ev.assign rfl rfl) ?_
  refine Run.nil ?_
  refine T.seq ?_
  refine T.seq ?_
  refine T.region ?_
  refine Run.go (Ev.move rfl rfl) ?_
  refine Run.go (Ev.len X rfl rfl rfl rfl) ?_
  refine Run.go (Ev.move rfl rfl) ?_
  refine Run.nil ?_
  refine T.block ?_
  refine T.loop (LoopT.ghost (Ghost.only [] [0, 1, 7, 8] rfl) (LoopT.run (fun q : Int => (⟨[(0, .v (.sl Y_api_Link) p0), (1, .fn 73 [.ptr Y_api_Net p1_0]), (7, .v (.int .i64) ((p0.length : Int) : Int)), (8, .v (.int .i64) q)], [], 19⟩ : St)) (fun v1 z1 h hz1 => ?_) h))
  rw [m_slices_IndexFunc_api_Link_api_Link__formed_endsRight_1_l1] at h
  refine T.seq ?_
  refine T.region ?_
  refine Run.go (Ev.int rfl rfl rfl rfl trivial) ?_
  refine Run.nil ?_
  refine T.seq ?_
  refine T.cond rfl (fun hb2 => ?_) (fun hb2 => ?_)
  · replace h := ifT hb2 h
    refine T.skip ?_
    refine T.seq ?_
    refine T.block ?_
    refine T.seq ?_
    refine T.region ?_
    refine Run.go (Ev.move rfl rfl) ?_
    refine Run.go (Ev.assign rfl rfl) ?_
    refine Run.nil ?_
    refine T.seq ?_
    refine T.region ?_
    refine Run.go (Ev.move rfl rfl) ?_
    refine Run.go (Ev.move rfl rfl) ?_
    refine Run.go (Ev.move rfl rfl) ?_
    obtain ⟨x3, e4, h⟩ := bdS h
    refine Run.go (Ev.e_rd X e4 rfl rfl rfl rfl) ?_
    refine Run.go (Ev.load X rfl rfl rfl) ?_
    obtain ⟨x5, e6, h⟩ := bdS h
    refine Run.go (Ev.callC en73 (k_formed_endsRight_1 e6) rfl (.cons .v (.cons .ptr .nil)) rfl rfl) ?_
    refine Run.nil ?_
    refine T.cond rfl (fun hb7 => ?_) (fun hb7 => ?_)
    · replace h := ifT hb7 h
      refine T.seq ?_
      refine T.region ?_
      refine Run.go (Ev.move rfl rfl) ?_
      refine Run.go (Ev.assign rfl rfl) ?_
      refine Run.nil ?_
      refine T.ret ?_
      cases h
      cases hz1
      exact Fin.one rfl .v
    · replace h := ifF hb7 h
      refine T.skip ?_
      refine T.region ?_
      refine Run.go (Ev.int rfl rfl rfl rfl trivial) ?_
      refine Run.go (Ev.move rfl rfl) ?_
      refine Run.nil ?_
      cases h
      exact LoopT.ghost (Ghost.only [] [0, 1, 7, 8] rfl) hz1
  · replace h := ifF hb2 h
    refine T.exit ?_
    refine T.seq ?_
    refine T.region ?_
    refine Run.go (Ev.assign rfl rfl) ?_
    refine Run.nil ?_
    refine T.ret ?_
    cases h
    cases hz1
    exact Fin.one rfl .v
theorem en26 : Enters Tryz.prog 26 := ⟨_, Tryz.func26, rfl, rfl⟩
theorem k_slices_ContainsFunc_api_Link_api_Link__formed_endsRight_1 {p0 : (List D_api_Link)} {p1_0 : D_api_Net} {y : Bool} (h : m_slices_ContainsFunc_api_Link_api_Link__formed_endsRight_1 p0 p1_0 = some y) : Spec Tryz.prog 72 [(.v (.sl Y_api_Link) p0), (.fn 73 [(.ptr Y_api_Net p1_0)])] (.v .bool y) [] := by
  rw [m_slices_ContainsFunc_api_Link_api_Link__formed_endsRight_1] at h
  refine enterN [(.v (.sl Y_api_Link) p0), (.fn 73 [(.ptr Y_api_Net p1_0)])] 9 Tryz.func72 rfl rfl rfl ?_
  refine T.seq ?_
  refine T.region ?_
  refine Run.go (Ev.assign rfl rfl) ?_
  refine Run.nil ?_
  refine T.seq ?_
  refine T.region ?_
  refine Run.go (Ev.move rfl rfl) ?_
  refine Run.go (Ev.move rfl rfl) ?_
  obtain ⟨x1, e2, h⟩ := bdS h
  refine Run.go (Ev.callC en26 (k_slices_IndexFunc_api_Link_api_Link__formed_endsRight_1 e2) rfl (.cons .v (.cons (.fn rfl) .nil)) rfl rfl) ?_
  refine Run.go (Ev.int rfl rfl rfl rfl trivial) ?_
  refine Run.go (Ev.assign rfl rfl) ?_
  refine Run.nil ?_
  refine T.ret ?_
  cases h
  exact Fin.one rfl .v
theorem en72 : Enters Tryz.prog 72 := ⟨_, Tryz.func72, rfl, rfl⟩
theorem k_formed_endsRight {p0 : D_api_Net} {y : Bool} (h : m_formed_endsRight p0 = some y) : Spec Tryz.prog 48 [(.v Y_api_Net p0)] (.v .bool y) [] := by
  rw [m_formed_endsRight] at h
  refine enterN [(.v Y_api_Net p0)] 8 Tryz.func48 rfl rfl rfl ?_
  refine T.seq ?_
  refine T.region ?_
  refine Run.go (Ev.box 1 rfl rfl rfl rfl) ?_
  refine Run.go (Ev.assign rfl rfl) ?_
  refine Run.nil ?_
  refine T.seq ?_
  refine T.region ?_
  refine Run.go (Ev.fieldBox X rfl rfl rfl rfl rfl) ?_
  refine Run.go (Ev.loadCell X rfl rfl rfl rfl rfl rfl) ?_
  refine Run.go (Ev.e_fn rfl rfl) ?_
  refine Run.ghost (Ghost.freeze (id := 1) (τ := Y_api_Net) (y := ((p0.1, p0.2.1, p0.2.2.1, p0.2.2.2) : D_api_Net)) rfl rfl) ?_
  obtain ⟨x1, e2, h⟩ := bdS h
  refine Run.go (Ev.callC en72 (k_slices_ContainsFunc_api_Link_api_Link__formed_endsRight_1 e2) rfl (.cons .v (.cons (.fn rfl) .nil)) rfl rfl) ?_
  refine Run.go (Ev.not rfl rfl) ?_
  refine Run.go (Ev.assign rfl rfl) ?_
  refine Run.nil ?_
  refine T.ret ?_
  cases h
  exact Fin.one rfl .v
theorem en48 : Enters Tryz.prog 48 := ⟨_, Tryz.func48, rfl, rfl⟩
theorem k_nat_May {p0 : (List Int)} {y : Bool} (h : m_nat_May p0 = some y) : Spec Tryz.prog 97 [(.v (.sl (.int .u64)) p0)] (.v .bool y) [] := by
  rw [m_nat_May] at h
  refine enterN [(.v (.sl (.int .u64)) p0)] 26 Tryz.func97 rfl rfl rfl ?_
  refine T.seq ?_
  refine T.region ?_
  refine Run.go (Ev.assign rfl rfl) ?_
  refine Run.nil ?_
  refine T.seq ?_
  refine T.seq ?_
  refine T.region ?_
  refine Run.go (Ev.move rfl rfl) ?_
  refine Run.go (Ev.len X rfl rfl rfl rfl) ?_
  refine Run.go (Ev.move rfl rfl) ?_
  refine Run.nil ?_
  refine T.block ?_
  refine T.loop (LoopT.ghost (Ghost.only [] [0, 5, 6, 7] rfl) (LoopT.run (fun q : Int => (⟨[(0, .v (.sl (.int .u64)) p0), (5, .v (.sl (.int .u64)) p0), (6, .v (.int .i64) ((p0.length : Int) : Int)), (7, .v (.int .i64) q)], [], 26⟩ : St)) (fun v1 z1 h hz1 => ?_) h))
  rw [m_nat_May_l1] at h
  refine T.seq ?_
  refine T.region ?_
  refine Run.go (Ev.int rfl rfl rfl rfl trivial) ?_
  refine Run.nil ?_
  refine T.seq ?_
  refine T.cond rfl (fun hb2 => ?_) (fun hb2 => ?_)
  · replace h := ifT hb2 h
    refine T.skip ?_
    refine T.seq ?_
    refine T.block ?_
    refine T.seq ?_
    refine T.region ?_
    obtain ⟨x3, e4, h⟩ := bdS h
    refine Run.go (Ev.e_rd X e4 rfl rfl rfl rfl) ?_
    refine Run.go (Ev.load X rfl rfl rfl) ?_
    refine Run.go (Ev.assign rfl rfl) ?_
    refine Run.nil ?_
    refine T.seq ?_
    refine T.region ?_
    refine Run.go (Ev.move rfl rfl) ?_
    refine Run.go (Ev.int rfl rfl rfl rfl trivial) ?_
    refine Run.nil ?_
    refine T.cond rfl (fun hb5 => ?_) (fun hb5 => ?_)
    · replace h := ifT hb5 h
      refine T.seq ?_
      refine T.region ?_
      refine Run.go (Ev.assign rfl rfl) ?_
      refine Run.nil ?_
      refine T.ret ?_
      cases h
      cases hz1
      exact Fin.one rfl .v
    · replace h := ifF hb5 h
      refine T.skip ?_
      refine T.region ?_
      refine Run.go (Ev.int rfl rfl rfl rfl trivial) ?_
      refine Run.go (Ev.move rfl rfl) ?_
      refine Run.nil ?_
      cases h
      exact LoopT.ghost (Ghost.only [] [0, 5, 6, 7] rfl) hz1
  · replace h := ifF hb2 h
    refine T.exit ?_
    refine T.seq ?_
    refine T.region ?_
    refine Run.go (Ev.move rfl rfl) ?_
    refine Run.go (Ev.len X rfl rfl rfl rfl) ?_
    refine Run.go (Ev.int rfl rfl rfl rfl trivial) ?_
    refine Run.go (Ev.move rfl rfl) ?_
    rcases boolCases (decide ((p0.length : Int) = 0)) with hb6 | hb6
    · replace h := ifT hb6 h
      refine Run.offT rfl rfl rfl rfl hb6 ?_
      refine Run.offT rfl rfl rfl rfl hb6 ?_
      refine Run.offT rfl rfl rfl rfl hb6 ?_
      refine Run.offT rfl rfl rfl rfl hb6 ?_
      refine Run.offT rfl rfl rfl rfl hb6 ?_
      refine Run.offT rfl rfl rfl rfl hb6 ?_
      refine Run.offT rfl rfl rfl rfl hb6 ?_
      refine Run.go (Ev.pickT rfl hb6 rfl rfl) ?_
      refine Run.go (Ev.assign rfl rfl) ?_
      refine Run.nil ?_
      refine T.ret ?_
      cases h
      cases hz1
      exact Fin.one rfl .v
    · replace h := ifF hb6 h
      refine Run.on rfl rfl rfl hb6 (Ev.move rfl rfl) ?_
      refine Run.on rfl rfl rfl hb6 (Ev.move rfl rfl) ?_
      refine Run.on rfl rfl rfl hb6 (Ev.len X rfl rfl rfl rfl) ?_
      refine Run.on rfl rfl rfl hb6 (Ev.int rfl rfl rfl rfl trivial) ?_
      obtain ⟨x7, e8, h⟩ := bdS h
      refine Run.on rfl rfl rfl hb6 (Ev.e_rd X e8 rfl rfl rfl rfl) ?_
      refine Run.on rfl rfl rfl hb6 (Ev.load X rfl rfl rfl) ?_
      refine Run.on rfl rfl rfl hb6 (Ev.int rfl rfl rfl rfl trivial) ?_
      refine Run.go (Ev.pickF rfl hb6 rfl rfl) ?_
      refine Run.go (Ev.assign rfl rfl) ?_
      refine Run.nil ?_
      refine T.ret ?_
      cases h
      cases hz1
      exact Fin.one rfl .v
theorem en97 : Enters Tryz.prog 97 := ⟨_, Tryz.func97, rfl, rfl⟩
theorem k_nat_trim {p0 : (List Int)} {y : (List Int)} (h : m_nat_trim p0 = some y) : Spec Tryz.prog 125 [(.v (.sl (.int .u64)) p0)] (.v (.sl (.int .u64)) y) [] := by
  rw [m_nat_trim] at h
  refine enterN [(.v (.sl (.int .u64)) p0)] 21 Tryz.func125 rfl rfl rfl ?_
  refine T.seq ?_
  refine T.region ?_
  refine Run.go (Ev.assign rfl rfl) ?_
  refine Run.nil ?_
  refine T.seq ?_
  refine T.region ?_
  refine Run.go (Ev.move rfl rfl) ?_
  refine Run.go (Ev.len X rfl rfl rfl rfl) ?_
  refine Run.go (Ev.assign rfl rfl) ?_
  refine Run.nil ?_
  obtain ⟨v1, hv, h⟩ := bdS h
  refine T.cut (fun _ : Unit => (⟨[(0, .v (.sl (.int .u64)) p0), (3, .v (.int .i64) v1)], [], 21⟩ : St)) (fun _ => True) ?_ (fun _ _ => ?_)
  · replace h := hv
    clear hv
    refine T.block ?_
    refine T.loop (LoopT.ghost (Ghost.only [] [0, 3] rfl) (LoopT.run (fun q : Int => (⟨[(0, .v (.sl (.int .u64)) p0), (3, .v (.int .i64) q)], [], 21⟩ : St)) (fun v2 z1 h hz1 => ?_) h))
    rw [m_nat_trim_l1] at h
    refine T.seq ?_
    obtain ⟨v3, hv, h⟩ := bdS h
    refine T.cut (fun _ : Unit => (⟨[(0, .v (.sl (.int .u64)) p0), (3, .v (.int .i64) v2), (15, .v .bool v3)], [], 21⟩ : St)) (fun _ => True) ?_ (fun _ _ => ?_)
    · replace h := hv
      clear hv
      refine T.region ?_
      refine Run.go (Ev.move rfl rfl) ?_
      refine Run.go (Ev.int rfl rfl rfl rfl trivial) ?_
      refine Run.go (Ev.move rfl rfl) ?_
      rcases boolCases (decide (0 < v2)) with hb4 | hb4
      · replace h := ifT hb4 h
        refine Run.on rfl rfl rfl hb4 (Ev.move rfl rfl) ?_
        refine Run.on rfl rfl rfl hb4 (Ev.move rfl rfl) ?_
        refine Run.on rfl rfl rfl hb4 (Ev.int rfl rfl rfl rfl trivial) ?_
        obtain ⟨x5, e6, h⟩ := bdS h
        refine Run.on rfl rfl rfl hb4 (Ev.e_rd X e6 rfl rfl rfl rfl) ?_
        refine Run.on rfl rfl rfl hb4 (Ev.load X rfl rfl rfl) ?_
        refine Run.on rfl rfl rfl hb4 (Ev.int rfl rfl rfl rfl trivial) ?_
        refine Run.go (Ev.pickT rfl hb4 rfl rfl) ?_
        refine Run.nil ?_
        cases h
        exact ⟨(), trivial, Ghost.only [] [0, 3, 15] rfl⟩
      · replace h := ifF hb4 h
        refine Run.offT rfl rfl rfl rfl hb4 ?_
        refine Run.offT rfl rfl rfl rfl hb4 ?_
        refine Run.offT rfl rfl rfl rfl hb4 ?_
        refine Run.offT rfl rfl rfl rfl hb4 ?_
        refine Run.offT rfl rfl rfl rfl hb4 ?_
        refine Run.offT rfl rfl rfl rfl hb4 ?_
        refine Run.go (Ev.pickF rfl hb4 rfl rfl) ?_
        refine Run.nil ?_
        cases h
        exact ⟨(), trivial, Ghost.only [] [0, 3, 15] rfl⟩
    · refine T.cond rfl (fun hb7 => ?_) (fun hb7 => ?_)
      · replace h := ifT hb7 h
        refine T.skip ?_
        refine T.block ?_
        refine T.region ?_
        refine Run.go (Ev.move rfl rfl) ?_
        refine Run.go (Ev.int rfl rfl rfl rfl trivial) ?_
        refine Run.go (Ev.assign rfl rfl) ?_
        refine Run.nil ?_
        cases h
        exact LoopT.ghost (Ghost.only [] [0, 3] rfl) hz1
      · replace h := ifF hb7 h
        refine T.exit ?_
        cases h
        cases hz1
        exact ⟨(), trivial, Ghost.only [] [0, 3] rfl⟩
  · refine T.seq ?_
    refine T.region ?_
    refine Run.go (Ev.move rfl rfl) ?_
    refine Run.go (Ev.move rfl rfl) ?_
    obtain ⟨x8, e9, h⟩ := bdS h
    refine Run.go (Ev.e_ct X e9 rfl rfl rfl (fun _ h => by cases h) (fun _ => rfl) (fun _ _ => cutAt_of rfl) (fun h => by cases h)) ?_
    refine Run.go (Ev.assign rfl rfl) ?_
    refine Run.nil ?_
    refine T.ret ?_
    cases h
    exact Fin.one rfl .v
theorem en125 : Enters Tryz.prog 125 := ⟨_, Tryz.func125, rfl, rfl⟩
theorem k_nat_Make {p0 : (List Int)} {y : (List Int) × Int} (h : m_nat_Make p0 = some y) : Spec Tryz.prog 123 [(.v (.sl (.int .u64)) p0)] (.tup [.v (.sl (.int .u64)) y.1, .v (.int .i64) y.2]) [] := by
  rw [m_nat_Make] at h
  refine enterN [(.v (.sl (.int .u64)) p0)] 25 Tryz.func123 rfl rfl rfl ?_
  refine T.seq ?_
  refine T.region ?_
  refine Run.go (Ev.assign rfl rfl) ?_
  refine Run.go (Ev.assign rfl rfl) ?_
  refine Run.nil ?_
  refine T.seq ?_
  refine T.region ?_
  refine Run.go (Ev.move rfl rfl) ?_
  refine Run.go (Ev.len X rfl rfl rfl rfl) ?_
  obtain ⟨x1, e2, h⟩ := bdS h
  refine Run.go (Ev.e_mk X 1 e2 rfl rfl rfl rfl rfl rfl) ?_
  refine Run.go (Ev.assign rfl rfl) ?_
  refine Run.nil ?_
  refine T.seq ?_
  refine T.seq ?_
  refine T.region ?_
  refine Run.go (Ev.move rfl rfl) ?_
  refine Run.go (Ev.len X rfl rfl rfl rfl) ?_
  refine Run.go (Ev.move rfl rfl) ?_
  refine Run.nil ?_
  refine T.block ?_
  refine T.loop (LoopT.ghost (Ghost.only [(1, 5)] [4, 10, 11, 12] rfl) (LoopT.run (fun q : Int × (List Int) => (⟨[(4, .own 5), (10, .v (.sl (.int .u64)) p0), (11, .v (.int .i64) ((p0.length : Int) : Int)), (12, .v (.int .i64) q.1)], [(5, .arr 81 (.int .u64) q.2)], 25⟩ : St)) (fun q z1 h hz1 => ?_) h))
  obtain ⟨v3, v4⟩ := q
  dsimp only
  rw [m_nat_Make_l1] at h
  refine T.seq ?_
  refine T.region ?_
  refine Run.go (Ev.int rfl rfl rfl rfl trivial) ?_
  refine Run.nil ?_
  refine T.seq ?_
  refine T.cond rfl (fun hb5 => ?_) (fun hb5 => ?_)
  · replace h := ifT hb5 h
    refine T.skip ?_
    refine T.seq ?_
    refine T.block ?_
    refine T.seq ?_
    refine T.region ?_
    obtain ⟨x6, e7, h⟩ := bdS h
    refine Run.go (Ev.e_rd X e7 rfl rfl rfl rfl) ?_
    refine Run.go (Ev.load X rfl rfl rfl) ?_
    refine Run.go (Ev.assign rfl rfl) ?_
    refine Run.nil ?_
    refine T.seq ?_
    refine T.seq ?_
    refine T.region ?_
    refine Run.go (Ev.move rfl rfl) ?_
    refine Run.go (Ev.int rfl rfl rfl rfl trivial) ?_
    refine Run.nil ?_
    refine T.cond rfl (fun hb8 => ?_) (fun hb8 => ?_)
    · replace h := ifT hb8 h
      refine T.seq ?_
      refine T.region ?_
      refine Run.go (Ev.assign rfl rfl) ?_
      refine Run.go (Ev.assign rfl rfl) ?_
      refine Run.nil ?_
      refine T.ret ?_
      cases h
      cases hz1
      exact Fin.many X rfl (.cons (.tmp .nilv) (.cons (.tmp .v) .nil)) rfl
    · replace h := ifF hb8 h
      refine T.skip ?_
      refine T.region ?_
      refine Run.go (Ev.move rfl rfl) ?_
      refine Run.go (Ev.move rfl rfl) ?_
      refine Run.go (Ev.build X 9 rfl rfl rfl rfl rfl rfl rfl rfl) ?_
      obtain ⟨x9, e10, h⟩ := bdS h
      refine Run.go (Ev.e_ap X 10 e10 rfl rfl rfl (.own rfl) rfl rfl rfl rfl rfl) ?_
      refine Run.go (Ev.assign rfl rfl) ?_
      refine Run.nil ?_
      refine T.region ?_
      refine Run.go (Ev.int rfl rfl rfl rfl trivial) ?_
      refine Run.go (Ev.move rfl rfl) ?_
      refine Run.nil ?_
      cases h
      exact LoopT.ghost (Ghost.only [(10, 5)] [4, 10, 11, 12] rfl) hz1
  · replace h := ifF hb5 h
    refine T.exit ?_
    refine T.seq ?_
    refine T.region ?_
    refine Run.go (Ev.move rfl rfl) ?_
    refine Run.ghost (Ghost.firmAll (id := 5) rfl) ?_
    obtain ⟨x11, e12, h⟩ := bdS h
    refine Run.go (Ev.callC en125 (k_nat_trim e12) rfl (.cons .v .nil) rfl rfl) ?_
    refine Run.go (Ev.assign rfl rfl) ?_
    refine Run.go (Ev.assign rfl rfl) ?_
    refine Run.nil ?_
    refine T.ret ?_
    cases h
    cases hz1
    exact Fin.many X rfl (.cons (.tmp .v) (.cons (.tmp .v) .nil)) rfl
theorem en123 : Enters Tryz.prog 123 := ⟨_, Tryz.func123, rfl, rfl⟩
end Go.Proofs.YtbmogniipgmkiaaGreat.AE
/- The code comes to the printed functions (printed by a program of ours). -/
namespace Go.Proofs.YtbmogniipgmkiaaGreat.AE
open Go Go.RowKit Go.Proofs.YtbmogniipgmkiaaGreat.AP
set_option linter.unusedVariables false
set_option maxRecDepth 20000
theorem k_nat_Cmp {p0 : (List Int)} {p1 : (List Int)} {y : Int} (h : m_nat_Cmp p0 p1 = some y) : Spec Tryz.prog 113 [(.v (.sl (.int .u64)) p0), (.v (.sl (.int .u64)) p1)] (.v (.int .i64) y) [] := by
  rw [m_nat_Cmp] at h
  refine enterN [(.v (.sl (.int .u64)) p0), (.v (.sl (.int .u64)) p1)] 45 Tryz.func113 rfl rfl rfl ?_
  refine T.seq ?_
  refine T.region ?_
  refine Run.go (Ev.assign rfl rfl) ?_
  refine Run.nil ?_
  refine T.seq ?_
  refine T.block ?_
  refine T.seq ?_
  refine T.region ?_
  refine Run.go (Ev.move rfl rfl) ?_
  refine Run.go (Ev.len X rfl rfl rfl rfl) ?_
  refine Run.go (Ev.move rfl rfl) ?_
  refine Run.go (Ev.len X rfl rfl rfl rfl) ?_
  refine Run.go (Ev.int rfl rfl rfl rfl trivial) ?_
  obtain ⟨x1, e2, h⟩ := ltS h
  refine Run.go (Ev.avs (Ev.assign rfl rfl) e2) ?_
  refine Run.nil ?_
  refine T.cond rfl (fun hb3 => ?_) (fun hb3 => ?_)
  · replace h := ifT hb3 h
    refine T.seq ?_
    refine T.region ?_
    refine Run.go (Ev.assign rfl rfl) ?_
    refine Run.nil ?_
    refine T.ret ?_
    cases h
    exact Fin.one rfl .v
  · replace h := ifF hb3 h
    refine T.seq ?_
    refine T.region ?_
    refine Run.go (Ev.move rfl rfl) ?_
    refine Run.go (Ev.len X rfl rfl rfl rfl) ?_
    refine Run.go (Ev.move rfl rfl) ?_
    refine Run.go (Ev.len X rfl rfl rfl rfl) ?_
    refine Run.go (Ev.int rfl rfl rfl rfl trivial) ?_
    obtain ⟨x4, e5, h⟩ := ltS h
    refine Run.go (Ev.avs (Ev.assign rfl rfl) e5) ?_
    refine Run.nil ?_
    refine T.cond rfl (fun hb6 => ?_) (fun hb6 => ?_)
    · replace h := ifT hb6 h
      refine T.seq ?_
      refine T.region ?_
      refine Run.go (Ev.assign rfl rfl) ?_
      refine Run.nil ?_
      refine T.ret ?_
      cases h
      exact Fin.one rfl .v
    · replace h := ifF hb6 h
      refine T.skip ?_
      refine T.seq ?_
      refine T.seq ?_
      refine T.region ?_
      refine Run.go (Ev.move rfl rfl) ?_
      refine Run.go (Ev.len X rfl rfl rfl rfl) ?_
      refine Run.go (Ev.int rfl rfl rfl rfl trivial) ?_
      refine Run.go (Ev.assign rfl rfl) ?_
      refine Run.nil ?_
      refine T.block ?_
      refine T.loop (LoopT.ghost (Ghost.only [] [0, 1, 5] rfl) (LoopT.run (fun q : Int => (⟨[(0, .v (.sl (.int .u64)) p0), (1, .v (.sl (.int .u64)) p1), (5, .v (.int .i64) q)], [], 45⟩ : St)) (fun v7 z1 h hz1 => ?_) h))
      rw [m_nat_Cmp_l1] at h
      refine T.seq ?_
      refine T.seq ?_
      refine T.region ?_
      refine Run.go (Ev.move rfl rfl) ?_
      refine Run.go (Ev.int rfl rfl rfl rfl trivial) ?_
      refine Run.nil ?_
      refine T.cond rfl (fun hb8 => ?_) (fun hb8 => ?_)
      · replace h := ifT hb8 h
        refine T.skip ?_
        refine T.seq ?_
        refine T.block ?_
        refine T.block ?_
        refine T.seq ?_
        refine T.drawM [] [0, 0, 3, 7, 0, 0, 48, 112, 255, 511] (by kernel_rfl) (by kernel_rfl) ?_
        refine RunD.w (fun _ => Ev.move rfl rfl) ?_
        refine RunD.w (fun _ => Ev.move rfl rfl) ?_
        obtain ⟨x9, e10, h⟩ := bdS h
        refine RunD.a rfl rfl (Ev.e_rd X e10 rfl rfl rfl rfl) ?_
        refine RunD.a rfl rfl (Ev.load X rfl rfl rfl) ?_
        refine RunD.w (fun _ => Ev.move rfl rfl) ?_
        refine RunD.w (fun _ => Ev.move rfl rfl) ?_
        obtain ⟨x11, e12, h⟩ := bdS h
        refine RunD.a rfl rfl (Ev.e_rd X e12 rfl rfl rfl rfl) ?_
        refine RunD.a rfl rfl (Ev.load X rfl rfl rfl) ?_
        refine RunD.w (fun _ => Ev.int rfl rfl rfl rfl trivial) ?_
        refine RunD.w (fun _ => Ev.assign rfl rfl) ?_
        refine RunD.nil ?_
        refine T.cond rfl (fun hb13 => ?_) (fun hb13 => ?_)
        · replace h := ifT hb13 h
          refine T.seq ?_
          refine T.region ?_
          refine Run.go (Ev.assign rfl rfl) ?_
          refine Run.nil ?_
          refine T.ret ?_
          cases h
          cases hz1
          exact Fin.one rfl .v
        · replace h := ifF hb13 h
          refine T.seq ?_
          refine T.drawM [] [0, 0, 3, 7, 0, 0, 48, 112, 255, 511] (by kernel_rfl) (by kernel_rfl) ?_
          refine RunD.w (fun _ => Ev.move rfl rfl) ?_
          refine RunD.w (fun _ => Ev.move rfl rfl) ?_
          obtain ⟨x14, e15, h⟩ := bdS h
          refine RunD.a rfl rfl (Ev.e_rd X e15 rfl rfl rfl rfl) ?_
          refine RunD.a rfl rfl (Ev.load X rfl rfl rfl) ?_
          refine RunD.w (fun _ => Ev.move rfl rfl) ?_
          refine RunD.w (fun _ => Ev.move rfl rfl) ?_
          obtain ⟨x16, e17, h⟩ := bdS h
          refine RunD.a rfl rfl (Ev.e_rd X e17 rfl rfl rfl rfl) ?_
          refine RunD.a rfl rfl (Ev.load X rfl rfl rfl) ?_
          refine RunD.w (fun _ => Ev.int rfl rfl rfl rfl trivial) ?_
          refine RunD.w (fun _ => Ev.assign rfl rfl) ?_
          refine RunD.nil ?_
          refine T.cond rfl (fun hb18 => ?_) (fun hb18 => ?_)
          · replace h := ifT hb18 h
            refine T.seq ?_
            refine T.region ?_
            refine Run.go (Ev.assign rfl rfl) ?_
            refine Run.nil ?_
            refine T.ret ?_
            cases h
            cases hz1
            exact Fin.one rfl .v
          · replace h := ifF hb18 h
            refine T.skip ?_
            refine T.region ?_
            refine Run.go (Ev.move rfl rfl) ?_
            refine Run.go (Ev.int rfl rfl rfl rfl trivial) ?_
            refine Run.go (Ev.assign rfl rfl) ?_
            refine Run.nil ?_
            cases h
            exact LoopT.ghost (Ghost.only [] [0, 1, 5] rfl) hz1
      · replace h := ifF hb8 h
        refine T.exit ?_
        refine T.seq ?_
        refine T.region ?_
        refine Run.go (Ev.assign rfl rfl) ?_
        refine Run.nil ?_
        refine T.ret ?_
        cases h
        cases hz1
        exact Fin.one rfl .v
theorem en113 : Enters Tryz.prog 113 := ⟨_, Tryz.func113, rfl, rfl⟩
theorem k_limb_Div {p0 : Int} {p1 : Int} {p2 : Int} {y : Int × Int × Int} (h : m_limb_Div p0 p1 p2 = some y) : Spec Tryz.prog 141 [(.v (.int .u64) p0), (.v (.int .u64) p1), (.v (.int .u64) p2)] (.tup [.v (.int .u64) y.1, .v (.int .u64) y.2.1, .v (.int .i64) y.2.2]) [] := by
  rw [m_limb_Div] at h
  refine enterN [(.v (.int .u64) p0), (.v (.int .u64) p1), (.v (.int .u64) p2)] 33 Tryz.func141 rfl rfl rfl ?_
  refine T.seq ?_
  refine T.region ?_
  refine Run.go (Ev.assign rfl rfl) ?_
  refine Run.go (Ev.assign rfl rfl) ?_
  refine Run.go (Ev.assign rfl rfl) ?_
  refine Run.nil ?_
  refine T.seq ?_
  refine T.region ?_
  refine Run.go (Ev.move rfl rfl) ?_
  refine Run.go (Ev.int rfl rfl rfl rfl trivial) ?_
  refine Run.go (Ev.move rfl rfl) ?_
  refine Run.go (Ev.int rfl rfl rfl rfl trivial) ?_
  refine Run.go (Ev.move rfl rfl) ?_
  refine Run.go (Ev.int rfl rfl rfl rfl trivial) ?_
  refine Run.go (Ev.assign rfl rfl) ?_
  refine Run.go (Ev.assign rfl rfl) ?_
  refine Run.go (Ev.assign rfl rfl) ?_
  refine Run.nil ?_
  refine T.seq ?_
  refine T.block ?_
  refine T.seq ?_
  refine T.region ?_
  refine Run.go (Ev.move rfl rfl) ?_
  refine Run.go (Ev.int rfl rfl rfl rfl trivial) ?_
  obtain ⟨x1, e2, h⟩ := ltS h
  refine Run.go (Ev.avs (Ev.assign rfl rfl) e2) ?_
  refine Run.nil ?_
  refine T.cond rfl (fun hb3 => ?_) (fun hb3 => ?_)
  · replace h := ifT hb3 h
    refine T.seq ?_
    refine T.region ?_
    refine Run.go (Ev.assign rfl rfl) ?_
    refine Run.go (Ev.assign rfl rfl) ?_
    refine Run.go (Ev.assign rfl rfl) ?_
    refine Run.nil ?_
    refine T.ret ?_
    cases h
    exact Fin.many X rfl (.cons (.tmp .v) (.cons (.tmp .v) (.cons (.tmp .v) .nil))) rfl
  · replace h := ifF hb3 h
    refine T.seq ?_
    refine T.region ?_
    refine Run.go (Ev.move rfl rfl) ?_
    refine Run.go (Ev.move rfl rfl) ?_
    refine Run.go (Ev.int rfl rfl rfl rfl trivial) ?_
    obtain ⟨x4, e5, h⟩ := ltS h
    refine Run.go (Ev.avs (Ev.assign rfl rfl) e5) ?_
    refine Run.nil ?_
    refine T.cond rfl (fun hb6 => ?_) (fun hb6 => ?_)
    · replace h := ifT hb6 h
      refine T.seq ?_
      refine T.region ?_
      refine Run.go (Ev.assign rfl rfl) ?_
      refine Run.go (Ev.assign rfl rfl) ?_
      refine Run.go (Ev.assign rfl rfl) ?_
      refine Run.nil ?_
      refine T.ret ?_
      cases h
      exact Fin.many X rfl (.cons (.tmp .v) (.cons (.tmp .v) (.cons (.tmp .v) .nil))) rfl
    · replace h := ifF hb6 h
      refine T.skip ?_
      refine T.seq ?_
      refine T.region ?_
      refine Run.go (Ev.move rfl rfl) ?_
      obtain ⟨x7, e8, h⟩ := bdS h
      refine Run.go (Ev.e_sh e8 rfl rfl rfl) ?_
      refine Run.go (Ev.move rfl rfl) ?_
      refine Run.go (Ev.int rfl rfl rfl rfl trivial) ?_
      obtain ⟨x9, e10, h⟩ := ltS h
      refine Run.go (Ev.avs (Ev.assign rfl rfl) e10) ?_
      refine Run.nil ?_
      refine T.seq ?_
      refine T.drawM [] [0, 0, 3, 0, 0, 24, 7, 127, 255] (by kernel_rfl) (by kernel_rfl) ?_
      refine RunD.w (fun _ => Ev.move rfl rfl) ?_
      refine RunD.w (fun _ => Ev.move rfl rfl) ?_
      obtain ⟨x11, e12, h⟩ := bdS h
      refine RunD.w (fun _ => Ev.e_qd e12 rfl rfl rfl) ?_
      refine RunD.w (fun _ => Ev.move rfl rfl) ?_
      refine RunD.w (fun _ => Ev.move rfl rfl) ?_
      obtain ⟨x13, e14, h⟩ := bdS h
      refine RunD.w (fun _ => Ev.e_rm e14 rfl rfl rfl) ?_
      refine RunD.w (fun _ => Ev.assign rfl rfl) ?_
      refine RunD.w (fun _ => Ev.assign rfl rfl) ?_
      refine RunD.w (fun _ => Ev.assign rfl rfl) ?_
      refine RunD.nil ?_
      refine T.ret ?_
      cases h
      exact Fin.many X rfl (.cons (.tmp .v) (.cons (.tmp .v) (.cons (.tmp .v) .nil))) rfl
theorem en141 : Enters Tryz.prog 141 := ⟨_, Tryz.func141, rfl, rfl⟩
theorem k_divide_Small {p0 : (List Int)} {p1 : Int} {y : (List Int) × Int × Int} (h : m_divide_Small p0 p1 = some y) : Spec Tryz.prog 136 [(.v (.sl (.int .u64)) p0), (.v (.int .u64) p1)] (.tup [.v (.sl (.int .u64)) y.1, .v (.int .u64) y.2.1, .v (.int .i64) y.2.2]) [] := by
  rw [m_divide_Small] at h
  refine enterN [(.v (.sl (.int .u64)) p0), (.v (.int .u64) p1)] 51 Tryz.func136 rfl rfl rfl ?_
  refine T.seq ?_
  refine T.region ?_
  refine Run.go (Ev.assign rfl rfl) ?_
  refine Run.go (Ev.assign rfl rfl) ?_
  refine Run.go (Ev.assign rfl rfl) ?_
  refine Run.nil ?_
  refine T.seq ?_
  refine T.seq ?_
  refine T.region ?_
  refine Run.go (Ev.move rfl rfl) ?_
  obtain ⟨x1, e2, h⟩ := bdS h
  refine Run.go (Ev.e_rm e2 rfl rfl rfl) ?_
  refine Run.go (Ev.int rfl rfl rfl rfl trivial) ?_
  refine Run.nil ?_
  refine T.cond rfl (fun hb3 => ?_) (fun hb3 => ?_)
  · replace h := ifT hb3 h
    refine T.seq ?_
    refine T.region ?_
    refine Run.go (Ev.assign rfl rfl) ?_
    refine Run.go (Ev.assign rfl rfl) ?_
    refine Run.go (Ev.assign rfl rfl) ?_
    refine Run.nil ?_
    refine T.ret ?_
    cases h
    exact Fin.many X rfl (.cons (.tmp .nilv) (.cons (.tmp .v) (.cons (.tmp .v) .nil))) rfl
  · replace h := ifF hb3 h
    refine T.skip ?_
    refine T.seq ?_
    refine T.region ?_
    refine Run.go (Ev.move rfl rfl) ?_
    refine Run.go (Ev.len X rfl rfl rfl rfl) ?_
    obtain ⟨x4, e5, h⟩ := bdS h
    refine Run.go (Ev.e_mk X 1 e5 rfl rfl rfl rfl rfl rfl) ?_
    refine Run.go (Ev.assign rfl rfl) ?_
    refine Run.nil ?_
    refine T.seq ?_
    refine T.region ?_
    refine Run.go (Ev.assign rfl rfl) ?_
    refine Run.nil ?_
    obtain ⟨⟨v6, v7⟩, hv, h⟩ := bdS h
    refine T.cut (fun _ : Unit => (⟨[(7, .own 1), (8, .v (.int .u64) v6)], [(1, .arr 81 (.int .u64) v7)], 51⟩ : St)) (fun _ => True) ?_ (fun _ _ => ?_)
    · replace h := hv
      clear hv
      refine T.seq ?_
      refine T.region ?_
      refine Run.go (Ev.move rfl rfl) ?_
      refine Run.go (Ev.len X rfl rfl rfl rfl) ?_
      refine Run.go (Ev.move rfl rfl) ?_
      refine Run.nil ?_
      refine T.block ?_
      refine T.loop (LoopT.ghost (Ghost.only [(1, 1)] [0, 1, 7, 8, 20, 21] rfl) (LoopT.run (fun q : Int × Int × (List Int) => (⟨[(0, .v (.sl (.int .u64)) p0), (1, .v (.int .u64) p1), (7, .own 1), (8, .v (.int .u64) q.1), (20, .v (.int .i64) ((p0.length : Int) : Int)), (21, .v (.int .i64) q.2.1)], [(1, .arr 81 (.int .u64) q.2.2)], 51⟩ : St)) (fun q z1 h hz1 => ?_) h))
      obtain ⟨v8, v9, v10⟩ := q
      dsimp only
      rw [m_divide_Small_l1] at h
      refine T.seq ?_
      refine T.region ?_
      refine Run.go (Ev.int rfl rfl rfl rfl trivial) ?_
      refine Run.nil ?_
      refine T.seq ?_
      refine T.cond rfl (fun hb11 => ?_) (fun hb11 => ?_)
      · replace h := ifT hb11 h
        refine T.skip ?_
        refine T.seq ?_
        refine T.block ?_
        refine T.seq ?_
        refine T.region ?_
        refine Run.go (Ev.move rfl rfl) ?_
        refine Run.go (Ev.assign rfl rfl) ?_
        refine Run.nil ?_
        refine T.seq ?_
        refine T.region ?_
        refine Run.go (Ev.move rfl rfl) ?_
        refine Run.go (Ev.len X rfl rfl rfl rfl) ?_
        refine Run.go (Ev.int rfl rfl rfl rfl trivial) ?_
        refine Run.go (Ev.move rfl rfl) ?_
        refine Run.go (Ev.int rfl rfl rfl rfl trivial) ?_
        obtain ⟨x12, e13, h⟩ := ltS h
        refine Run.go (Ev.avs (Ev.assign rfl rfl) e13) ?_
        refine Run.nil ?_
        refine T.region ?_
        refine Run.go (Ev.move rfl rfl) ?_
        refine Run.go (Ev.move rfl rfl) ?_
        refine Run.go (Ev.move rfl rfl) ?_
        refine Run.go (Ev.move rfl rfl) ?_
        refine Run.go (Ev.move rfl rfl) ?_
        obtain ⟨x14, e15, h⟩ := bdS h
        refine Run.go (Ev.e_rd X e15 rfl rfl rfl rfl) ?_
        refine Run.go (Ev.load X rfl rfl rfl) ?_
        refine Run.go (Ev.move rfl rfl) ?_
        obtain ⟨x16, e17, h⟩ := bdS h
        refine Run.go (Ev.callC en141 (k_limb_Div e17) rfl (.cons .v (.cons .v (.cons .v .nil))) rfl rfl) ?_
        refine Run.go (Ev.move rfl rfl) ?_
        refine Run.go (Ev.extract rfl rfl rfl) ?_
        refine Run.go (Ev.extract rfl rfl rfl) ?_
        refine Run.go (Ev.extract rfl rfl rfl) ?_
        obtain ⟨j18, e19, h⟩ := bdS h
        refine Run.go (Ev.e_ixO X e19 rfl rfl rfl rfl rfl) ?_
        obtain ⟨x20, e21, h⟩ := ltS h
        refine Run.do_ (Ev.asO (Ev.storeEl X rfl rfl rfl rfl rfl) e21) ?_
        refine Run.go (Ev.assign rfl rfl) ?_
        refine Run.nil ?_
        refine T.region ?_
        refine Run.go (Ev.int rfl rfl rfl rfl trivial) ?_
        refine Run.go (Ev.move rfl rfl) ?_
        refine Run.nil ?_
        cases h
        exact LoopT.ghost (Ghost.only [(1, 1)] [0, 1, 7, 8, 20, 21] rfl) hz1
      · replace h := ifF hb11 h
        refine T.exit ?_
        cases h
        cases hz1
        exact ⟨(), trivial, Ghost.only [(1, 1)] [7, 8] rfl⟩
    · refine T.seq ?_
      refine T.region ?_
      refine Run.go (Ev.move rfl rfl) ?_
      refine Run.ghost (Ghost.firmAll (id := 1) rfl) ?_
      obtain ⟨x22, e23, h⟩ := bdS h
      refine Run.go (Ev.callC en123 (k_nat_Make e23) rfl (.cons .v .nil) rfl rfl) ?_
      refine Run.go (Ev.move rfl rfl) ?_
      refine Run.go (Ev.extract rfl rfl rfl) ?_
      refine Run.go (Ev.extract rfl rfl rfl) ?_
      refine Run.go (Ev.assign rfl rfl) ?_
      refine Run.go (Ev.assign rfl rfl) ?_
      refine Run.nil ?_
      refine T.seq ?_
      refine T.region ?_
      refine Run.go (Ev.move rfl rfl) ?_
      refine Run.go (Ev.move rfl rfl) ?_
      refine Run.go (Ev.assign rfl rfl) ?_
      refine Run.go (Ev.assign rfl rfl) ?_
      refine Run.go (Ev.assign rfl rfl) ?_
      refine Run.nil ?_
      refine T.ret ?_
      cases h
      exact Fin.many X rfl (.cons (.tmp .v) (.cons (.tmp .v) (.cons (.tmp .v) .nil))) rfl
theorem en136 : Enters Tryz.prog 136 := ⟨_, Tryz.func136, rfl, rfl⟩
theorem k_nat_Of {p0 : Int} {y : (List Int)} (h : m_nat_Of p0 = some y) : Spec Tryz.prog 115 [(.v (.int .u64) p0)] (.v (.sl (.int .u64)) y) [] := by
  rw [m_nat_Of] at h
  refine enterN [(.v (.int .u64) p0)] 9 Tryz.func115 rfl rfl rfl ?_
  refine T.seq ?_
  refine T.region ?_
  refine Run.go (Ev.assign rfl rfl) ?_
  refine Run.nil ?_
  refine T.seq ?_
  refine T.region ?_
  refine Run.go (Ev.move rfl rfl) ?_
  obtain ⟨x1, e2, h⟩ := bdS h
  refine Run.go (Ev.e_rm e2 rfl rfl rfl) ?_
  refine Run.go (Ev.move rfl rfl) ?_
  obtain ⟨x3, e4, h⟩ := bdS h
  refine Run.go (Ev.e_sr e4 rfl rfl rfl) ?_
  refine Run.go (Ev.build X 1 rfl rfl rfl rfl rfl rfl rfl rfl) ?_
  refine Run.ghost (Ghost.firmAll (id := 1) rfl) ?_
  obtain ⟨x5, e6, h⟩ := bdS h
  refine Run.go (Ev.callC en125 (k_nat_trim e6) rfl (.cons .v .nil) rfl rfl) ?_
  refine Run.go (Ev.assign rfl rfl) ?_
  refine Run.nil ?_
  refine T.ret ?_
  cases h
  exact Fin.one rfl .v
theorem en115 : Enters Tryz.prog 115 := ⟨_, Tryz.func115, rfl, rfl⟩
theorem k_limb_Bits {p0 : Int} {y : Int} (h : m_limb_Bits p0 = some y) : Spec Tryz.prog 142 [(.v (.int .u64) p0)] (.v (.int .i64) y) [] := by
  rw [m_limb_Bits] at h
  refine enterN [(.v (.int .u64) p0)] 17 Tryz.func142 rfl rfl rfl ?_
  refine T.seq ?_
  refine T.region ?_
  refine Run.go (Ev.assign rfl rfl) ?_
  refine Run.nil ?_
  refine T.seq ?_
  refine T.region ?_
  refine Run.go (Ev.assign rfl rfl) ?_
  refine Run.nil ?_
  obtain ⟨v1, hv, h⟩ := bdS h
  refine T.cut (fun _ : Unit => (⟨[(3, .v (.int .i64) v1)], [], 17⟩ : St)) (fun _ => True) ?_ (fun _ _ => ?_)
  · replace h := hv
    clear hv
    refine T.seq ?_
    refine T.region ?_
    refine Run.go (Ev.move rfl rfl) ?_
    refine Run.nil ?_
    refine T.block ?_
    refine T.loop (LoopT.ghost (Ghost.only [] [0, 3, 5] rfl) (LoopT.run (fun q : Int × Int => (⟨[(0, .v (.int .u64) p0), (3, .v (.int .i64) q.1), (5, .v (.int .i64) q.2)], [], 17⟩ : St)) (fun q z1 h hz1 => ?_) h))
    obtain ⟨v2, v3⟩ := q
    dsimp only
    rw [m_limb_Bits_l1] at h
    refine T.seq ?_
    refine T.region ?_
    refine Run.go (Ev.int rfl rfl rfl rfl trivial) ?_
    refine Run.nil ?_
    refine T.seq ?_
    refine T.cond rfl (fun hb4 => ?_) (fun hb4 => ?_)
    · replace h := ifT hb4 h
      refine T.skip ?_
      obtain ⟨v5, hv, h⟩ := bdS h
      refine T.cut (fun _ : Unit => (⟨[(0, .v (.int .u64) p0), (3, .v (.int .i64) v5), (5, .v (.int .i64) v3)], [], 17⟩ : St)) (fun _ => True) ?_ (fun _ _ => ?_)
      · replace h := hv
        clear hv
        refine T.block ?_
        refine T.seq ?_
        refine T.region ?_
        refine Run.go (Ev.move rfl rfl) ?_
        refine Run.go (Ev.assign rfl rfl) ?_
        refine Run.nil ?_
        refine T.seq ?_
        refine T.region ?_
        refine Run.go (Ev.move rfl rfl) ?_
        refine Run.go (Ev.move rfl rfl) ?_
        obtain ⟨x6, e7, h⟩ := bdS h
        refine Run.go (Ev.e_sr e7 rfl rfl rfl) ?_
        refine Run.go (Ev.int rfl rfl rfl rfl trivial) ?_
        refine Run.go (Ev.int rfl rfl rfl rfl trivial) ?_
        refine Run.nil ?_
        refine T.cond rfl (fun hb8 => ?_) (fun hb8 => ?_)
        · replace h := ifT hb8 h
          refine T.region ?_
          refine Run.go (Ev.move rfl rfl) ?_
          refine Run.go (Ev.int rfl rfl rfl rfl trivial) ?_
          refine Run.go (Ev.assign rfl rfl) ?_
          refine Run.nil ?_
          cases h
          exact ⟨(), trivial, Ghost.only [] [0, 3, 5] rfl⟩
        · replace h := ifF hb8 h
          refine T.skip ?_
          cases h
          exact ⟨(), trivial, Ghost.only [] [0, 3, 5] rfl⟩
      · refine T.region ?_
        refine Run.go (Ev.int rfl rfl rfl rfl trivial) ?_
        refine Run.go (Ev.move rfl rfl) ?_
        refine Run.nil ?_
        cases h
        exact LoopT.ghost (Ghost.only [] [0, 3, 5] rfl) hz1
    · replace h := ifF hb4 h
      refine T.exit ?_
      cases h
      cases hz1
      exact ⟨(), trivial, Ghost.only [] [3] rfl⟩
  · refine T.seq ?_
    refine T.region ?_
    refine Run.go (Ev.move rfl rfl) ?_
    refine Run.go (Ev.assign rfl rfl) ?_
    refine Run.nil ?_
    refine T.ret ?_
    cases h
    exact Fin.one rfl .v
theorem en142 : Enters Tryz.prog 142 := ⟨_, Tryz.func142, rfl, rfl⟩
theorem k_nat_shift {p0 : Int} {y : Int} (h : m_nat_shift p0 = some y) : Spec Tryz.prog 148 [(.v (.int .i64) p0)] (.v (.int .i64) y) [] := by
  rw [m_nat_shift] at h
  refine enterN [(.v (.int .i64) p0)] 9 Tryz.func148 rfl rfl rfl ?_
  refine T.seq ?_
  refine T.region ?_
  refine Run.go (Ev.assign rfl rfl) ?_
  refine Run.nil ?_
  refine T.seq ?_
  obtain ⟨v1, hv, h⟩ := bdS h
  refine T.cut (fun _ : Unit => (⟨[(8, .v .bool v1)], [], 9⟩ : St)) (fun _ => True) ?_ (fun _ _ => ?_)
  · replace h := hv
    clear hv
    refine T.region ?_
    refine Run.go (Ev.move rfl rfl) ?_
    refine Run.go (Ev.int rfl rfl rfl rfl trivial) ?_
    refine Run.go (Ev.move rfl rfl) ?_
    rcases boolCases (decide (p0 < 0)) with hb2 | hb2
    · replace h := ifT hb2 h
      refine Run.offT rfl rfl rfl rfl hb2 ?_
      refine Run.offT rfl rfl rfl rfl hb2 ?_
      refine Run.go (Ev.pickT rfl hb2 rfl rfl) ?_
      refine Run.nil ?_
      cases h
      exact ⟨(), trivial, Ghost.only [] [8] rfl⟩
    · replace h := ifF hb2 h
      refine Run.on rfl rfl rfl hb2 (Ev.move rfl rfl) ?_
      refine Run.on rfl rfl rfl hb2 (Ev.int rfl rfl rfl rfl trivial) ?_
      refine Run.go (Ev.pickF rfl hb2 rfl rfl) ?_
      refine Run.nil ?_
      cases h
      exact ⟨(), trivial, Ghost.only [] [8] rfl⟩
  · refine T.cond rfl (fun hb3 => ?_) (fun hb3 => ?_)
    · replace h := ifT hb3 h
      refine T.seq ?_
      refine T.region ?_
      refine Run.go (Ev.assign rfl rfl) ?_
      refine Run.nil ?_
      refine T.ret ?_
      cases h
      exact Fin.one rfl .v
    · replace h := ifF hb3 h
      refine T.skip ?_
      refine T.seq ?_
      refine T.region ?_
      refine Run.go (Ev.assign rfl rfl) ?_
      refine Run.nil ?_
      refine T.ret ?_
      cases h
      exact Fin.one rfl .v
theorem en148 : Enters Tryz.prog 148 := ⟨_, Tryz.func148, rfl, rfl⟩
theorem k_nat_Shl {p0 : (List Int)} {p1 : Int} {y : (List Int) × Int} (h : m_nat_Shl p0 p1 = some y) : Spec Tryz.prog 143 [(.v (.sl (.int .u64)) p0), (.v (.int .i64) p1)] (.tup [.v (.sl (.int .u64)) y.1, .v (.int .i64) y.2]) [] := by
  rw [m_nat_Shl] at h
  refine enterN [(.v (.sl (.int .u64)) p0), (.v (.int .i64) p1)] 60 Tryz.func143 rfl rfl rfl ?_
  refine T.seq ?_
  refine T.region ?_
  refine Run.go (Ev.assign rfl rfl) ?_
  refine Run.go (Ev.assign rfl rfl) ?_
  refine Run.nil ?_
  refine T.seq ?_
  refine T.seq ?_
  refine T.region ?_
  refine Run.go (Ev.move rfl rfl) ?_
  obtain ⟨x1, e2, h⟩ := bdS h
  refine Run.go (Ev.callC en148 (k_nat_shift e2) rfl (.cons .v .nil) rfl rfl) ?_
  refine Run.go (Ev.assign rfl rfl) ?_
  refine Run.nil ?_
  obtain ⟨v3, hv, h⟩ := bdS h
  refine T.cut (fun _ : Unit => (⟨[(0, .v (.sl (.int .u64)) p0), (1, .v (.int .i64) p1), (6, .v (.int .i64) x1), (19, .v .bool v3)], [], 60⟩ : St)) (fun _ => True) ?_ (fun _ _ => ?_)
  · replace h := hv
    clear hv
    refine T.region ?_
    refine Run.go (Ev.move rfl rfl) ?_
    refine Run.go (Ev.int rfl rfl rfl rfl trivial) ?_
    refine Run.go (Ev.move rfl rfl) ?_
    rcases boolCases (!decide (x1 = 0)) with hb4 | hb4
    · replace h := ifT hb4 h
      refine Run.offT rfl rfl rfl rfl hb4 ?_
      refine Run.offT rfl rfl rfl rfl hb4 ?_
      refine Run.offT rfl rfl rfl rfl hb4 ?_
      refine Run.go (Ev.pickT rfl hb4 rfl rfl) ?_
      refine Run.nil ?_
      cases h
      exact ⟨(), trivial, Ghost.only [] [0, 1, 6, 19] rfl⟩
    · replace h := ifF hb4 h
      refine Run.on rfl rfl rfl hb4 (Ev.move rfl rfl) ?_
      refine Run.on rfl rfl rfl hb4 (Ev.len X rfl rfl rfl rfl) ?_
      refine Run.on rfl rfl rfl hb4 (Ev.int rfl rfl rfl rfl trivial) ?_
      refine Run.go (Ev.pickF rfl hb4 rfl rfl) ?_
      refine Run.nil ?_
      cases h
      exact ⟨(), trivial, Ghost.only [] [0, 1, 6, 19] rfl⟩
  · refine T.cond rfl (fun hb5 => ?_) (fun hb5 => ?_)
    · replace h := ifT hb5 h
      refine T.seq ?_
      refine T.region ?_
      refine Run.go (Ev.move rfl rfl) ?_
      refine Run.go (Ev.assign rfl rfl) ?_
      refine Run.go (Ev.assign rfl rfl) ?_
      refine Run.nil ?_
      refine T.ret ?_
      cases h
      exact Fin.many X rfl (.cons (.tmp .nilv) (.cons (.tmp .v) .nil)) rfl
    · replace h := ifF hb5 h
      refine T.skip ?_
      refine T.seq ?_
      refine T.region ?_
      refine Run.go (Ev.move rfl rfl) ?_
      refine Run.go (Ev.len X rfl rfl rfl rfl) ?_
      refine Run.go (Ev.move rfl rfl) ?_
      obtain ⟨x6, e7, h⟩ := bdS h
      refine Run.go (Ev.e_qd e7 rfl rfl rfl) ?_
      refine Run.go (Ev.int rfl rfl rfl rfl trivial) ?_
      refine Run.go (Ev.int rfl rfl rfl rfl trivial) ?_
      obtain ⟨x8, e9, h⟩ := bdS h
      refine Run.go (Ev.e_mk X 1 e9 rfl rfl rfl rfl rfl rfl) ?_
      refine Run.go (Ev.assign rfl rfl) ?_
      refine Run.nil ?_
      obtain ⟨v10, hv, h⟩ := bdS h
      refine T.cut (fun _ : Unit => (⟨[(7, .own 1)], [(1, .arr 81 (.int .u64) v10)], 60⟩ : St)) (fun _ => True) ?_ (fun _ _ => ?_)
      · replace h := hv
        clear hv
        refine T.seq ?_
        refine T.region ?_
        refine Run.go (Ev.move rfl rfl) ?_
        refine Run.go (Ev.len X rfl rfl rfl rfl) ?_
        refine Run.go (Ev.move rfl rfl) ?_
        refine Run.nil ?_
        refine T.block ?_
        refine T.loop (LoopT.ghost (Ghost.only [(1, 1)] [1, 7, 28, 29, 30] rfl) (LoopT.run (fun q : Int × (List Int) => (⟨[(1, .v (.int .i64) p1), (7, .own 1), (28, .v (.sl (.int .u64)) p0), (29, .v (.int .i64) ((p0.length : Int) : Int)), (30, .v (.int .i64) q.1)], [(1, .arr 81 (.int .u64) q.2)], 60⟩ : St)) (fun q z1 h hz1 => ?_) h))
        obtain ⟨v11, v12⟩ := q
        dsimp only
        rw [m_nat_Shl_l1] at h
        refine T.seq ?_
        refine T.region ?_
        refine Run.go (Ev.int rfl rfl rfl rfl trivial) ?_
        refine Run.nil ?_
        refine T.seq ?_
        refine T.cond rfl (fun hb13 => ?_) (fun hb13 => ?_)
        · replace h := ifT hb13 h
          refine T.skip ?_
          refine T.seq ?_
          refine T.block ?_
          refine T.seq ?_
          refine T.region ?_
          refine Run.go (Ev.move rfl rfl) ?_
          obtain ⟨x14, e15, h⟩ := bdS h
          refine Run.go (Ev.e_rd X e15 rfl rfl rfl rfl) ?_
          refine Run.go (Ev.load X rfl rfl rfl) ?_
          refine Run.go (Ev.assign rfl rfl) ?_
          refine Run.go (Ev.assign rfl rfl) ?_
          refine Run.nil ?_
          refine T.seq ?_
          refine T.region ?_
          refine Run.go (Ev.move rfl rfl) ?_
          refine Run.go (Ev.move rfl rfl) ?_
          obtain ⟨x16, e17, h⟩ := bdS h
          refine Run.go (Ev.e_qd e17 rfl rfl rfl) ?_
          refine Run.go (Ev.int rfl rfl rfl rfl trivial) ?_
          refine Run.go (Ev.assign rfl rfl) ?_
          refine Run.nil ?_
          refine T.seq ?_
          refine T.region ?_
          refine Run.go (Ev.move rfl rfl) ?_
          refine Run.go (Ev.move rfl rfl) ?_
          obtain ⟨x18, e19, h⟩ := bdS h
          refine Run.go (Ev.e_rm e19 rfl rfl rfl) ?_
          obtain ⟨x20, e21, h⟩ := bdS h
          refine Run.go (Ev.e_sh e21 rfl rfl rfl) ?_
          refine Run.go (Ev.assign rfl rfl) ?_
          refine Run.nil ?_
          refine T.seq ?_
          refine T.region ?_
          refine Run.go (Ev.move rfl rfl) ?_
          refine Run.go (Ev.move rfl rfl) ?_
          obtain ⟨x22, e23, h⟩ := bdS h
          refine Run.go (Ev.e_rdO X e23 rfl rfl rfl rfl rfl) ?_
          refine Run.go (Ev.e_ldO X (rdS e23).2 rfl rfl rfl rfl) ?_
          refine Run.go (Ev.move rfl rfl) ?_
          obtain ⟨x24, e25, h⟩ := bdS h
          refine Run.go (Ev.e_rm e25 rfl rfl rfl) ?_
          refine Run.go (Ev.int rfl rfl rfl rfl trivial) ?_
          obtain ⟨j26, e27, h⟩ := bdS h
          refine Run.go (Ev.e_ixO X e27 rfl rfl rfl rfl rfl) ?_
          obtain ⟨x28, e29, h⟩ := ltS h
          refine Run.do_ (Ev.asO (Ev.storeEl X rfl rfl rfl rfl rfl) e29) ?_
          refine Run.nil ?_
          refine T.region ?_
          refine Run.go (Ev.move rfl rfl) ?_
          refine Run.go (Ev.move rfl rfl) ?_
          refine Run.go (Ev.int rfl rfl rfl rfl trivial) ?_
          refine Run.go (Ev.move rfl rfl) ?_
          obtain ⟨x30, e31, h⟩ := bdS h
          refine Run.go (Ev.e_sr e31 rfl rfl rfl) ?_
          obtain ⟨j32, e33, h⟩ := bdS h
          refine Run.go (Ev.e_ixO X e33 rfl rfl rfl rfl rfl) ?_
          obtain ⟨x34, e35, h⟩ := ltS h
          refine Run.do_ (Ev.asO (Ev.storeEl X rfl rfl rfl rfl rfl) e35) ?_
          refine Run.nil ?_
          refine T.region ?_
          refine Run.go (Ev.int rfl rfl rfl rfl trivial) ?_
          refine Run.go (Ev.move rfl rfl) ?_
          refine Run.nil ?_
          cases h
          exact LoopT.ghost (Ghost.only [(1, 1)] [1, 7, 28, 29, 30] rfl) hz1
        · replace h := ifF hb13 h
          refine T.exit ?_
          cases h
          cases hz1
          exact ⟨(), trivial, Ghost.only [(1, 1)] [7] rfl⟩
      · refine T.seq ?_
        refine T.region ?_
        refine Run.go (Ev.move rfl rfl) ?_
        refine Run.ghost (Ghost.firmAll (id := 1) rfl) ?_
        obtain ⟨x36, e37, h⟩ := bdS h
        refine Run.go (Ev.callC en125 (k_nat_trim e37) rfl (.cons .v .nil) rfl rfl) ?_
        refine Run.go (Ev.assign rfl rfl) ?_
        refine Run.go (Ev.assign rfl rfl) ?_
        refine Run.nil ?_
        refine T.ret ?_
        cases h
        exact Fin.many X rfl (.cons (.tmp .v) (.cons (.tmp .v) .nil)) rfl
theorem en143 : Enters Tryz.prog 143 := ⟨_, Tryz.func143, rfl, rfl⟩
theorem k_divide_knuth {p0 : (List Int)} {p1 : (List Int)} {y : (List Int) × (List Int)} (h : m_divide_knuth p0 p1 = some y) : Spec Tryz.prog 137 [(.v (.sl (.int .u64)) p0), (.v (.sl (.int .u64)) p1)] (.tup [.v (.sl (.int .u64)) y.1, .v (.sl (.int .u64)) y.2]) [] := by
  rw [m_divide_knuth] at h
  cases h
theorem en137 : Enters Tryz.prog 137 := ⟨_, Tryz.func137, rfl, rfl⟩
theorem k_divide_Div {p0 : (List Int)} {p1 : (List Int)} {y : (List Int) × (List Int) × Int} (h : m_divide_Div p0 p1 = some y) : Spec Tryz.prog 130 [(.v (.sl (.int .u64)) p0), (.v (.sl (.int .u64)) p1)] (.tup [.v (.sl (.int .u64)) y.1, .v (.sl (.int .u64)) y.2.1, .v (.int .i64) y.2.2]) [] := by
  rw [m_divide_Div] at h
  refine enterN [(.v (.sl (.int .u64)) p0), (.v (.sl (.int .u64)) p1)] 64 Tryz.func130 rfl rfl rfl ?_
  refine T.seq ?_
  refine T.region ?_
  refine Run.go (Ev.assign rfl rfl) ?_
  refine Run.go (Ev.assign rfl rfl) ?_
  refine Run.go (Ev.assign rfl rfl) ?_
  refine Run.nil ?_
  refine T.seq ?_
  refine T.block ?_
  refine T.seq ?_
  refine T.region ?_
  refine Run.go (Ev.move rfl rfl) ?_
  refine Run.go (Ev.len X rfl rfl rfl rfl) ?_
  refine Run.go (Ev.int rfl rfl rfl rfl trivial) ?_
  refine Run.go (Ev.assign rfl rfl) ?_
  refine Run.nil ?_
  refine T.cond rfl (fun hb1 => ?_) (fun hb1 => ?_)
  · replace h := ifT hb1 h
    refine T.seq ?_
    refine T.region ?_
    refine Run.go (Ev.assign rfl rfl) ?_
    refine Run.go (Ev.assign rfl rfl) ?_
    refine Run.go (Ev.assign rfl rfl) ?_
    refine Run.nil ?_
    refine T.ret ?_
    cases h
    exact Fin.many X rfl (.cons (.tmp .nilv) (.cons (.tmp .nilv) (.cons (.tmp .v) .nil))) rfl
  · replace h := ifF hb1 h
    obtain ⟨v2, hv, h⟩ := bdS h
    refine T.cut (fun _ : Unit => (⟨[(0, .v (.sl (.int .u64)) p0), (1, .v (.sl (.int .u64)) p1), (18, .v .bool v2)], [], 64⟩ : St)) (fun _ => True) ?_ (fun _ _ => ?_)
    · replace h := hv
      clear hv
      refine T.region ?_
      refine Run.go (Ev.move rfl rfl) ?_
      obtain ⟨x3, e4, h⟩ := bdS h
      refine Run.go (Ev.callC en97 (k_nat_May e4) rfl (.cons .v .nil) rfl rfl) ?_
      refine Run.go (Ev.not rfl rfl) ?_
      refine Run.go (Ev.move rfl rfl) ?_
      rcases boolCases (!x3) with hb5 | hb5
      · replace h := ifT hb5 h
        refine Run.offT rfl rfl rfl rfl hb5 ?_
        refine Run.offT rfl rfl rfl rfl hb5 ?_
        refine Run.offT rfl rfl rfl rfl hb5 ?_
        refine Run.go (Ev.pickT rfl hb5 rfl rfl) ?_
        refine Run.go (Ev.assign rfl rfl) ?_
        refine Run.nil ?_
        cases h
        exact ⟨(), trivial, Ghost.only [] [0, 1, 18] rfl⟩
      · replace h := ifF hb5 h
        refine Run.on rfl rfl rfl hb5 (Ev.move rfl rfl) ?_
        obtain ⟨x6, e7, h⟩ := bdS h
        refine Run.on rfl rfl rfl hb5 (Ev.callC en97 (k_nat_May e7) rfl (.cons .v .nil) rfl rfl) ?_
        refine Run.on rfl rfl rfl hb5 (Ev.not rfl rfl) ?_
        refine Run.go (Ev.pickF rfl hb5 rfl rfl) ?_
        refine Run.go (Ev.assign rfl rfl) ?_
        refine Run.nil ?_
        cases h
        exact ⟨(), trivial, Ghost.only [] [0, 1, 18] rfl⟩
    · refine T.cond rfl (fun hb8 => ?_) (fun hb8 => ?_)
      · replace h := ifT hb8 h
        refine T.seq ?_
        refine T.region ?_
        refine Run.go (Ev.assign rfl rfl) ?_
        refine Run.go (Ev.assign rfl rfl) ?_
        refine Run.go (Ev.assign rfl rfl) ?_
        refine Run.nil ?_
        refine T.ret ?_
        cases h
        exact Fin.many X rfl (.cons (.tmp .nilv) (.cons (.tmp .nilv) (.cons (.tmp .v) .nil))) rfl
      · replace h := ifF hb8 h
        refine T.seq ?_
        refine T.region ?_
        refine Run.go (Ev.move rfl rfl) ?_
        refine Run.go (Ev.move rfl rfl) ?_
        obtain ⟨x9, e10, h⟩ := bdS h
        refine Run.go (Ev.callC en113 (k_nat_Cmp e10) rfl (.cons .v (.cons .v .nil)) rfl rfl) ?_
        refine Run.go (Ev.int rfl rfl rfl rfl trivial) ?_
        refine Run.go (Ev.assign rfl rfl) ?_
        refine Run.nil ?_
        refine T.cond rfl (fun hb11 => ?_) (fun hb11 => ?_)
        · replace h := ifT hb11 h
          refine T.seq ?_
          refine T.region ?_
          refine Run.go (Ev.move rfl rfl) ?_
          obtain ⟨x12, e13, h⟩ := bdS h
          refine Run.go (Ev.callC en123 (k_nat_Make e13) rfl (.cons .v .nil) rfl rfl) ?_
          refine Run.go (Ev.move rfl rfl) ?_
          refine Run.go (Ev.extract rfl rfl rfl) ?_
          refine Run.go (Ev.extract rfl rfl rfl) ?_
          refine Run.go (Ev.assign rfl rfl) ?_
          refine Run.go (Ev.assign rfl rfl) ?_
          refine Run.nil ?_
          refine T.seq ?_
          refine T.region ?_
          refine Run.go (Ev.move rfl rfl) ?_
          refine Run.go (Ev.move rfl rfl) ?_
          refine Run.go (Ev.assign rfl rfl) ?_
          refine Run.go (Ev.assign rfl rfl) ?_
          refine Run.go (Ev.assign rfl rfl) ?_
          refine Run.nil ?_
          refine T.ret ?_
          cases h
          exact Fin.many X rfl (.cons (.tmp .nilv) (.cons (.tmp .v) (.cons (.tmp .v) .nil))) rfl
        · replace h := ifF hb11 h
          refine T.seq ?_
          refine T.region ?_
          refine Run.go (Ev.move rfl rfl) ?_
          refine Run.go (Ev.len X rfl rfl rfl rfl) ?_
          refine Run.go (Ev.int rfl rfl rfl rfl trivial) ?_
          refine Run.go (Ev.assign rfl rfl) ?_
          refine Run.nil ?_
          refine T.cond rfl (fun hb14 => ?_) (fun hb14 => ?_)
          · replace h := ifT hb14 h
            refine T.seq ?_
            refine T.region ?_
            refine Run.go (Ev.move rfl rfl) ?_
            refine Run.go (Ev.move rfl rfl) ?_
            obtain ⟨x15, e16, h⟩ := bdS h
            refine Run.go (Ev.e_rd X e16 rfl rfl rfl rfl) ?_
            refine Run.go (Ev.load X rfl rfl rfl) ?_
            obtain ⟨x17, e18, h⟩ := bdS h
            refine Run.go (Ev.callC en136 (k_divide_Small e18) rfl (.cons .v (.cons .v .nil)) rfl rfl) ?_
            refine Run.go (Ev.move rfl rfl) ?_
            refine Run.go (Ev.extract rfl rfl rfl) ?_
            refine Run.go (Ev.extract rfl rfl rfl) ?_
            refine Run.go (Ev.extract rfl rfl rfl) ?_
            refine Run.go (Ev.assign rfl rfl) ?_
            refine Run.go (Ev.assign rfl rfl) ?_
            refine Run.go (Ev.assign rfl rfl) ?_
            refine Run.nil ?_
            refine T.seq ?_
            refine T.region ?_
            refine Run.go (Ev.move rfl rfl) ?_
            refine Run.go (Ev.move rfl rfl) ?_
            obtain ⟨x19, e20, h⟩ := bdS h
            refine Run.go (Ev.callC en115 (k_nat_Of e20) rfl (.cons .v .nil) rfl rfl) ?_
            refine Run.go (Ev.move rfl rfl) ?_
            refine Run.go (Ev.assign rfl rfl) ?_
            refine Run.go (Ev.assign rfl rfl) ?_
            refine Run.go (Ev.assign rfl rfl) ?_
            refine Run.nil ?_
            refine T.ret ?_
            cases h
            exact Fin.many X rfl (.cons (.tmp .v) (.cons (.tmp .v) (.cons (.tmp .v) .nil))) rfl
          · replace h := ifF hb14 h
            refine T.skip ?_
            refine T.seq ?_
            refine T.region ?_
            refine Run.go (Ev.move rfl rfl) ?_
            refine Run.go (Ev.move rfl rfl) ?_
            obtain ⟨x21, e22, h⟩ := bdS h
            refine Run.go (Ev.callC en137 (k_divide_knuth e22) rfl (.cons .v (.cons .v .nil)) rfl rfl) ?_
            refine Run.go (Ev.move rfl rfl) ?_
            refine Run.go (Ev.extract rfl rfl rfl) ?_
            refine Run.go (Ev.extract rfl rfl rfl) ?_
            refine Run.go (Ev.assign rfl rfl) ?_
            refine Run.go (Ev.assign rfl rfl) ?_
            refine Run.nil ?_
            refine T.seq ?_
            refine T.region ?_
            refine Run.go (Ev.move rfl rfl) ?_
            refine Run.go (Ev.move rfl rfl) ?_
            refine Run.go (Ev.assign rfl rfl) ?_
            refine Run.go (Ev.assign rfl rfl) ?_
            refine Run.go (Ev.assign rfl rfl) ?_
            refine Run.nil ?_
            refine T.ret ?_
            cases h
            exact Fin.many X rfl (.cons (.tmp .v) (.cons (.tmp .v) (.cons (.tmp .v) .nil))) rfl
theorem en130 : Enters Tryz.prog 130 := ⟨_, Tryz.func130, rfl, rfl⟩
theorem k_divide_Mod {p0 : (List Int)} {p1 : (List Int)} {y : (List Int) × Int} (h : m_divide_Mod p0 p1 = some y) : Spec Tryz.prog 124 [(.v (.sl (.int .u64)) p0), (.v (.sl (.int .u64)) p1)] (.tup [.v (.sl (.int .u64)) y.1, .v (.int .i64) y.2]) [] := by
  rw [m_divide_Mod] at h
  refine enterN [(.v (.sl (.int .u64)) p0), (.v (.sl (.int .u64)) p1)] 18 Tryz.func124 rfl rfl rfl ?_
  refine T.seq ?_
  refine T.region ?_
  refine Run.go (Ev.assign rfl rfl) ?_
  refine Run.go (Ev.assign rfl rfl) ?_
  refine Run.nil ?_
  refine T.seq ?_
  refine T.region ?_
  refine Run.go (Ev.move rfl rfl) ?_
  refine Run.go (Ev.move rfl rfl) ?_
  obtain ⟨x1, e2, h⟩ := bdS h
  refine Run.go (Ev.callC en130 (k_divide_Div e2) rfl (.cons .v (.cons .v .nil)) rfl rfl) ?_
  refine Run.go (Ev.move rfl rfl) ?_
  refine Run.go (Ev.extract rfl rfl rfl) ?_
  refine Run.go (Ev.extract rfl rfl rfl) ?_
  refine Run.go (Ev.extract rfl rfl rfl) ?_
  refine Run.go (Ev.assign rfl rfl) ?_
  refine Run.go (Ev.assign rfl rfl) ?_
  refine Run.go (Ev.assign rfl rfl) ?_
  refine Run.nil ?_
  refine T.seq ?_
  refine T.region ?_
  refine Run.go (Ev.move rfl rfl) ?_
  refine Run.go (Ev.move rfl rfl) ?_
  refine Run.go (Ev.assign rfl rfl) ?_
  refine Run.go (Ev.assign rfl rfl) ?_
  refine Run.nil ?_
  refine T.ret ?_
  cases h
  exact Fin.many X rfl (.cons (.tmp .v) (.cons (.tmp .v) .nil)) rfl
theorem en124 : Enters Tryz.prog 124 := ⟨_, Tryz.func124, rfl, rfl⟩
theorem k_gcd_Euclid {p0 : (List Int)} {p1 : (List Int)} {y : (List Int)} (h : m_gcd_Euclid p0 p1 = some y) : Spec Tryz.prog 114 [(.v (.sl (.int .u64)) p0), (.v (.sl (.int .u64)) p1)] (.v (.sl (.int .u64)) y) [] := by
  rw [m_gcd_Euclid] at h
  refine enterN [(.v (.sl (.int .u64)) p0), (.v (.sl (.int .u64)) p1)] 33 Tryz.func114 rfl rfl rfl ?_
  refine T.seq ?_
  refine T.region ?_
  refine Run.go (Ev.assign rfl rfl) ?_
  refine Run.nil ?_
  refine T.seq ?_
  refine T.region ?_
  refine Run.go (Ev.move rfl rfl) ?_
  obtain ⟨x1, e2, h⟩ := bdS h
  refine Run.go (Ev.callC en123 (k_nat_Make e2) rfl (.cons .v .nil) rfl rfl) ?_
  refine Run.go (Ev.move rfl rfl) ?_
  refine Run.go (Ev.extract rfl rfl rfl) ?_
  refine Run.go (Ev.extract rfl rfl rfl) ?_
  refine Run.go (Ev.assign rfl rfl) ?_
  refine Run.go (Ev.assign rfl rfl) ?_
  refine Run.nil ?_
  refine T.seq ?_
  refine T.region ?_
  refine Run.go (Ev.move rfl rfl) ?_
  obtain ⟨x3, e4, h⟩ := bdS h
  refine Run.go (Ev.callC en123 (k_nat_Make e4) rfl (.cons .v .nil) rfl rfl) ?_
  refine Run.go (Ev.move rfl rfl) ?_
  refine Run.go (Ev.extract rfl rfl rfl) ?_
  refine Run.go (Ev.extract rfl rfl rfl) ?_
  refine Run.go (Ev.assign rfl rfl) ?_
  refine Run.go (Ev.assign rfl rfl) ?_
  refine Run.nil ?_
  obtain ⟨v5, hv, h⟩ := bdS h
  refine T.cut (fun _ : Unit => (⟨[(5, .v (.sl (.int .u64)) v5)], [], 33⟩ : St)) (fun _ => True) ?_ (fun _ _ => ?_)
  · replace h := hv
    clear hv
    refine T.block ?_
    refine T.loop (LoopT.ghost (Ghost.only [] [5, 7] rfl) (LoopT.run (fun q : (List Int) × (List Int) => (⟨[(5, .v (.sl (.int .u64)) q.1), (7, .v (.sl (.int .u64)) q.2)], [], 33⟩ : St)) (fun q z1 h hz1 => ?_) h))
    obtain ⟨v6, v7⟩ := q
    dsimp only
    rw [m_gcd_Euclid_l1] at h
    refine T.seq ?_
    refine T.seq ?_
    refine T.region ?_
    refine Run.go (Ev.move rfl rfl) ?_
    refine Run.go (Ev.len X rfl rfl rfl rfl) ?_
    refine Run.go (Ev.int rfl rfl rfl rfl trivial) ?_
    refine Run.nil ?_
    refine T.cond rfl (fun hb8 => ?_) (fun hb8 => ?_)
    · replace h := ifT hb8 h
      refine T.skip ?_
      refine T.block ?_
      refine T.seq ?_
      refine T.region ?_
      refine Run.go (Ev.move rfl rfl) ?_
      refine Run.go (Ev.move rfl rfl) ?_
      obtain ⟨x9, e10, h⟩ := bdS h
      refine Run.go (Ev.callC en124 (k_divide_Mod e10) rfl (.cons .v (.cons .v .nil)) rfl rfl) ?_
      refine Run.go (Ev.move rfl rfl) ?_
      refine Run.go (Ev.extract rfl rfl rfl) ?_
      refine Run.go (Ev.extract rfl rfl rfl) ?_
      refine Run.go (Ev.assign rfl rfl) ?_
      refine Run.go (Ev.assign rfl rfl) ?_
      refine Run.nil ?_
      refine T.region ?_
      refine Run.go (Ev.move rfl rfl) ?_
      refine Run.go (Ev.move rfl rfl) ?_
      refine Run.go (Ev.assign rfl rfl) ?_
      refine Run.go (Ev.assign rfl rfl) ?_
      refine Run.nil ?_
      cases h
      exact LoopT.ghost (Ghost.only [] [5, 7] rfl) hz1
    · replace h := ifF hb8 h
      refine T.exit ?_
      cases h
      cases hz1
      exact ⟨(), trivial, Ghost.only [] [5] rfl⟩
  · refine T.seq ?_
    refine T.region ?_
    refine Run.go (Ev.move rfl rfl) ?_
    refine Run.go (Ev.assign rfl rfl) ?_
    refine Run.nil ?_
    refine T.ret ?_
    cases h
    exact Fin.one rfl .v
theorem en114 : Enters Tryz.prog 114 := ⟨_, Tryz.func114, rfl, rfl⟩
theorem k_gcd_Coprime {p0 : (List Int)} {p1 : (List Int)} {y : Bool} (h : m_gcd_Coprime p0 p1 = some y) : Spec Tryz.prog 98 [(.v (.sl (.int .u64)) p0), (.v (.sl (.int .u64)) p1)] (.v .bool y) [] := by
  rw [m_gcd_Coprime] at h
  refine enterN [(.v (.sl (.int .u64)) p0), (.v (.sl (.int .u64)) p1)] 11 Tryz.func98 rfl rfl rfl ?_
  refine T.seq ?_
  refine T.region ?_
  refine Run.go (Ev.assign rfl rfl) ?_
  refine Run.nil ?_
  refine T.seq ?_
  refine T.region ?_
  refine Run.go (Ev.move rfl rfl) ?_
  refine Run.go (Ev.move rfl rfl) ?_
  obtain ⟨x1, e2, h⟩ := bdS h
  refine Run.go (Ev.callC en114 (k_gcd_Euclid e2) rfl (.cons .v (.cons .v .nil)) rfl rfl) ?_
  obtain ⟨x3, e4, h⟩ := bdS h
  refine Run.go (Ev.callC en115 (k_nat_Of e4) rfl (.cons .v .nil) rfl rfl) ?_
  obtain ⟨x5, e6, h⟩ := bdS h
  refine Run.go (Ev.callC en113 (k_nat_Cmp e6) rfl (.cons .v (.cons .v .nil)) rfl rfl) ?_
  refine Run.go (Ev.int rfl rfl rfl rfl trivial) ?_
  refine Run.go (Ev.assign rfl rfl) ?_
  refine Run.nil ?_
  refine T.ret ?_
  cases h
  exact Fin.one rfl .v
theorem en98 : Enters Tryz.prog 98 := ⟨_, Tryz.func98, rfl, rfl⟩
theorem k_rat_May {p0 : D_api_Rat} {y : Bool} (h : m_rat_May p0 = some y) : Spec Tryz.prog 75 [(.v Y_api_Rat p0)] (.v .bool y) [] := by
  rw [m_rat_May] at h
  refine enterN [(.v Y_api_Rat p0)] 38 Tryz.func75 rfl rfl rfl ?_
  refine T.seq ?_
  refine T.region ?_
  refine Run.go (Ev.box 1 rfl rfl rfl rfl) ?_
  refine Run.go (Ev.assign rfl rfl) ?_
  refine Run.nil ?_
  refine T.seq ?_
  refine T.block ?_
  obtain ⟨v1, hv, h⟩ := bdS h
  refine T.cut (fun _ : Unit => (⟨[(1, .box 1 0), (3, .v .bool v1)], [(1, .box [.v .bool p0.1.1, .v (.sl (.int .u64)) p0.1.2, .v (.sl (.int .u64)) p0.2])], 38⟩ : St)) (fun _ => True) ?_ (fun _ _ => ?_)
  · replace h := hv
    clear hv
    refine T.region ?_
    refine Run.go (Ev.fieldBox X rfl rfl rfl rfl rfl) ?_
    refine Run.go (Ev.fieldBox X rfl rfl rfl rfl rfl) ?_
    refine Run.go (Ev.loadCell X rfl rfl rfl rfl rfl rfl) ?_
    obtain ⟨x2, e3, h⟩ := bdS h
    refine Run.go (Ev.callC en97 (k_nat_May e3) rfl (.cons .v .nil) rfl rfl) ?_
    refine Run.go (Ev.not rfl rfl) ?_
    refine Run.go (Ev.move rfl rfl) ?_
    rcases boolCases (!x2) with hb4 | hb4
    · replace h := ifT hb4 h
      refine Run.offT rfl rfl rfl rfl hb4 ?_
      refine Run.offT rfl rfl rfl rfl hb4 ?_
      refine Run.offT rfl rfl rfl rfl hb4 ?_
      refine Run.offT rfl rfl rfl rfl hb4 ?_
      refine Run.go (Ev.pickT rfl hb4 rfl rfl) ?_
      refine Run.go (Ev.move rfl rfl) ?_
      refine Run.offT rfl rfl rfl rfl rfl ?_
      refine Run.offT rfl rfl rfl rfl rfl ?_
      refine Run.offT rfl rfl rfl rfl rfl ?_
      refine Run.offT rfl rfl rfl rfl rfl ?_
      refine Run.go (Ev.pickT rfl rfl rfl rfl) ?_
      refine Run.go (Ev.assign rfl rfl) ?_
      refine Run.nil ?_
      cases h
      exact ⟨(), trivial, Ghost.only [(1, 1)] [1, 3] rfl⟩
    · replace h := ifF hb4 h
      refine Run.on rfl rfl rfl hb4 (Ev.fieldBox X rfl rfl rfl rfl rfl) ?_
      refine Run.on rfl rfl rfl hb4 (Ev.loadCell X rfl rfl rfl rfl rfl rfl) ?_
      obtain ⟨x5, e6, h⟩ := bdS h
      refine Run.on rfl rfl rfl hb4 (Ev.callC en97 (k_nat_May e6) rfl (.cons .v .nil) rfl rfl) ?_
      refine Run.on rfl rfl rfl hb4 (Ev.not rfl rfl) ?_
      refine Run.go (Ev.pickF rfl hb4 rfl rfl) ?_
      refine Run.go (Ev.move rfl rfl) ?_
      rcases boolCases (!x5) with hb7 | hb7
      · replace h := ifT hb7 h
        refine Run.offT rfl rfl rfl rfl hb7 ?_
        refine Run.offT rfl rfl rfl rfl hb7 ?_
        refine Run.offT rfl rfl rfl rfl hb7 ?_
        refine Run.offT rfl rfl rfl rfl hb7 ?_
        refine Run.go (Ev.pickT rfl hb7 rfl rfl) ?_
        refine Run.go (Ev.assign rfl rfl) ?_
        refine Run.nil ?_
        cases h
        exact ⟨(), trivial, Ghost.only [(1, 1)] [1, 3] rfl⟩
      · replace h := ifF hb7 h
        refine Run.on rfl rfl rfl hb7 (Ev.fieldBox X rfl rfl rfl rfl rfl) ?_
        refine Run.on rfl rfl rfl hb7 (Ev.loadCell X rfl rfl rfl rfl rfl rfl) ?_
        refine Run.on rfl rfl rfl hb7 (Ev.len X rfl rfl rfl rfl) ?_
        refine Run.on rfl rfl rfl hb7 (Ev.int rfl rfl rfl rfl trivial) ?_
        refine Run.go (Ev.pickF rfl hb7 rfl rfl) ?_
        refine Run.go (Ev.assign rfl rfl) ?_
        refine Run.nil ?_
        cases h
        exact ⟨(), trivial, Ghost.only [(1, 1)] [1, 3] rfl⟩
  · refine T.cond rfl (fun hb8 => ?_) (fun hb8 => ?_)
    · replace h := ifT hb8 h
      refine T.seq ?_
      refine T.region ?_
      refine Run.go (Ev.assign rfl rfl) ?_
      refine Run.nil ?_
      refine T.ret ?_
      cases h
      exact Fin.one rfl .v
    · replace h := ifF hb8 h
      obtain ⟨v9, hv, h⟩ := bdS h
      refine T.cut (fun _ : Unit => (⟨[(1, .box 1 0), (21, .v .bool v9)], [(1, .box [.v .bool p0.1.1, .v (.sl (.int .u64)) p0.1.2, .v (.sl (.int .u64)) p0.2])], 38⟩ : St)) (fun _ => True) ?_ (fun _ _ => ?_)
      · replace h := hv
        clear hv
        refine T.region ?_
        refine Run.go (Ev.fieldBox X rfl rfl rfl rfl rfl) ?_
        refine Run.go (Ev.fieldBox X rfl rfl rfl rfl rfl) ?_
        refine Run.go (Ev.loadCell X rfl rfl rfl rfl rfl rfl) ?_
        refine Run.go (Ev.move rfl rfl) ?_
        rcases boolCases p0.1.1 with hb10 | hb10
        · replace h := ifT hb10 h
          refine Run.on rfl rfl rfl hb10 (Ev.fieldBox X rfl rfl rfl rfl rfl) ?_
          refine Run.on rfl rfl rfl hb10 (Ev.fieldBox X rfl rfl rfl rfl rfl) ?_
          refine Run.on rfl rfl rfl hb10 (Ev.loadCell X rfl rfl rfl rfl rfl rfl) ?_
          refine Run.on rfl rfl rfl hb10 (Ev.len X rfl rfl rfl rfl) ?_
          refine Run.on rfl rfl rfl hb10 (Ev.int rfl rfl rfl rfl trivial) ?_
          refine Run.go (Ev.pickT rfl hb10 rfl rfl) ?_
          refine Run.go (Ev.assign rfl rfl) ?_
          refine Run.nil ?_
          cases h
          exact ⟨(), trivial, Ghost.only [(1, 1)] [1, 21] rfl⟩
        · replace h := ifF hb10 h
          refine Run.offT rfl rfl rfl rfl hb10 ?_
          refine Run.offT rfl rfl rfl rfl hb10 ?_
          refine Run.offT rfl rfl rfl rfl hb10 ?_
          refine Run.offT rfl rfl rfl rfl hb10 ?_
          refine Run.offT rfl rfl rfl rfl hb10 ?_
          refine Run.go (Ev.pickF rfl hb10 rfl rfl) ?_
          refine Run.go (Ev.assign rfl rfl) ?_
          refine Run.nil ?_
          cases h
          exact ⟨(), trivial, Ghost.only [(1, 1)] [1, 21] rfl⟩
      · refine T.cond rfl (fun hb11 => ?_) (fun hb11 => ?_)
        · replace h := ifT hb11 h
          refine T.seq ?_
          refine T.region ?_
          refine Run.go (Ev.assign rfl rfl) ?_
          refine Run.nil ?_
          refine T.ret ?_
          cases h
          exact Fin.one rfl .v
        · replace h := ifF hb11 h
          refine T.skip ?_
          refine T.seq ?_
          refine T.region ?_
          refine Run.go (Ev.fieldBox X rfl rfl rfl rfl rfl) ?_
          refine Run.go (Ev.fieldBox X rfl rfl rfl rfl rfl) ?_
          refine Run.go (Ev.loadCell X rfl rfl rfl rfl rfl rfl) ?_
          refine Run.go (Ev.fieldBox X rfl rfl rfl rfl rfl) ?_
          refine Run.go (Ev.loadCell X rfl rfl rfl rfl rfl rfl) ?_
          obtain ⟨x12, e13, h⟩ := bdS h
          refine Run.go (Ev.callC en98 (k_gcd_Coprime e13) rfl (.cons .v (.cons .v .nil)) rfl rfl) ?_
          refine Run.go (Ev.assign rfl rfl) ?_
          refine Run.nil ?_
          refine T.ret ?_
          cases h
          exact Fin.one rfl .v
theorem en75 : Enters Tryz.prog 75 := ⟨_, Tryz.func75, rfl, rfl⟩
theorem k_whole_Sign {p0 : D_api_Int} {y : Int} (h : m_whole_Sign p0 = some y) : Spec Tryz.prog 99 [(.v Y_api_Int p0)] (.v (.int .i64) y) [] := by
  rw [m_whole_Sign] at h
  refine enterN [(.v Y_api_Int p0)] 11 Tryz.func99 rfl rfl rfl ?_
  refine T.seq ?_
  refine T.region ?_
  refine Run.go (Ev.box 1 rfl rfl rfl rfl) ?_
  refine Run.go (Ev.assign rfl rfl) ?_
  refine Run.nil ?_
  refine T.seq ?_
  refine T.block ?_
  refine T.seq ?_
  refine T.region ?_
  refine Run.go (Ev.fieldBox X rfl rfl rfl rfl rfl) ?_
  refine Run.go (Ev.loadCell X rfl rfl rfl rfl rfl rfl) ?_
  refine Run.go (Ev.len X rfl rfl rfl rfl) ?_
  refine Run.go (Ev.int rfl rfl rfl rfl trivial) ?_
  refine Run.go (Ev.assign rfl rfl) ?_
  refine Run.nil ?_
  refine T.cond rfl (fun hb1 => ?_) (fun hb1 => ?_)
  · replace h := ifT hb1 h
    refine T.seq ?_
    refine T.region ?_
    refine Run.go (Ev.assign rfl rfl) ?_
    refine Run.nil ?_
    refine T.ret ?_
    cases h
    exact Fin.one rfl .v
  · replace h := ifF hb1 h
    refine T.seq ?_
    refine T.region ?_
    refine Run.go (Ev.fieldBox X rfl rfl rfl rfl rfl) ?_
    refine Run.go (Ev.loadCell X rfl rfl rfl rfl rfl rfl) ?_
    refine Run.go (Ev.assign rfl rfl) ?_
    refine Run.nil ?_
    refine T.cond rfl (fun hb2 => ?_) (fun hb2 => ?_)
    · replace h := ifT hb2 h
      refine T.seq ?_
      refine T.region ?_
      refine Run.go (Ev.assign rfl rfl) ?_
      refine Run.nil ?_
      refine T.ret ?_
      cases h
      exact Fin.one rfl .v
    · replace h := ifF hb2 h
      refine T.skip ?_
      refine T.seq ?_
      refine T.region ?_
      refine Run.go (Ev.assign rfl rfl) ?_
      refine Run.nil ?_
      refine T.ret ?_
      cases h
      exact Fin.one rfl .v
theorem en99 : Enters Tryz.prog 99 := ⟨_, Tryz.func99, rfl, rfl⟩
theorem k_rat_Sign {p0 : D_api_Rat} {y : Int} (h : m_rat_Sign p0 = some y) : Spec Tryz.prog 76 [(.v Y_api_Rat p0)] (.v (.int .i64) y) [] := by
  rw [m_rat_Sign] at h
  refine enterN [(.v Y_api_Rat p0)] 6 Tryz.func76 rfl rfl rfl ?_
  refine T.seq ?_
  refine T.region ?_
  refine Run.go (Ev.box 1 rfl rfl rfl rfl) ?_
  refine Run.go (Ev.assign rfl rfl) ?_
  refine Run.nil ?_
  refine T.seq ?_
  refine T.region ?_
  refine Run.go (Ev.fieldBox X rfl rfl rfl rfl rfl) ?_
  refine Run.go (Ev.loadBox X rfl rfl rfl rfl rfl) ?_
  obtain ⟨x1, e2, h⟩ := bdS h
  refine Run.go (Ev.callC en99 (k_whole_Sign e2) rfl (.cons .v .nil) rfl rfl) ?_
  refine Run.go (Ev.assign rfl rfl) ?_
  refine Run.nil ?_
  refine T.ret ?_
  cases h
  exact Fin.one rfl .v
theorem en76 : Enters Tryz.prog 76 := ⟨_, Tryz.func76, rfl, rfl⟩
theorem k_nat_at {p0 : (List Int)} {p1 : Int} {y : Int} (h : m_nat_at p0 p1 = some y) : Spec Tryz.prog 128 [(.v (.sl (.int .u64)) p0), (.v (.int .i64) p1)] (.v (.int .u64) y) [] := by
  rw [m_nat_at] at h
  refine enterN [(.v (.sl (.int .u64)) p0), (.v (.int .i64) p1)] 13 Tryz.func128 rfl rfl rfl ?_
  refine T.seq ?_
  refine T.region ?_
  refine Run.go (Ev.assign rfl rfl) ?_
  refine Run.nil ?_
  refine T.seq ?_
  refine T.seq ?_
  refine T.region ?_
  refine Run.go (Ev.move rfl rfl) ?_
  refine Run.go (Ev.move rfl rfl) ?_
  refine Run.go (Ev.len X rfl rfl rfl rfl) ?_
  refine Run.go (Ev.int rfl rfl rfl rfl trivial) ?_
  refine Run.nil ?_
  refine T.cond rfl (fun hb1 => ?_) (fun hb1 => ?_)
  · replace h := ifT hb1 h
    refine T.seq ?_
    refine T.region ?_
    refine Run.go (Ev.assign rfl rfl) ?_
    refine Run.nil ?_
    refine T.ret ?_
    cases h
    exact Fin.one rfl .v
  · replace h := ifF hb1 h
    refine T.skip ?_
    refine T.seq ?_
    refine T.region ?_
    refine Run.go (Ev.move rfl rfl) ?_
    refine Run.go (Ev.move rfl rfl) ?_
    obtain ⟨x2, e3, h⟩ := bdS h
    refine Run.go (Ev.e_rd X e3 rfl rfl rfl rfl) ?_
    refine Run.go (Ev.load X rfl rfl rfl) ?_
    refine Run.go (Ev.assign rfl rfl) ?_
    refine Run.nil ?_
    refine T.ret ?_
    cases h
    exact Fin.one rfl .v
theorem en128 : Enters Tryz.prog 128 := ⟨_, Tryz.func128, rfl, rfl⟩
theorem k_limb_Add {p0 : Int} {p1 : Int} {p2 : Int} {y : Int × Int} (h : m_limb_Add p0 p1 p2 = some y) : Spec Tryz.prog 127 [(.v (.int .u64) p0), (.v (.int .u64) p1), (.v (.int .u64) p2)] (.tup [.v (.int .u64) y.1, .v (.int .u64) y.2]) [] := by
  rw [m_limb_Add] at h
  refine enterN [(.v (.int .u64) p0), (.v (.int .u64) p1), (.v (.int .u64) p2)] 21 Tryz.func127 rfl rfl rfl ?_
  refine T.seq ?_
  refine T.region ?_
  refine Run.go (Ev.assign rfl rfl) ?_
  refine Run.go (Ev.assign rfl rfl) ?_
  refine Run.nil ?_
  refine T.seq ?_
  refine T.region ?_
  refine Run.go (Ev.move rfl rfl) ?_
  refine Run.go (Ev.int rfl rfl rfl rfl trivial) ?_
  refine Run.go (Ev.move rfl rfl) ?_
  refine Run.go (Ev.int rfl rfl rfl rfl trivial) ?_
  refine Run.go (Ev.int rfl rfl rfl rfl trivial) ?_
  refine Run.go (Ev.move rfl rfl) ?_
  refine Run.go (Ev.int rfl rfl rfl rfl trivial) ?_
  refine Run.go (Ev.int rfl rfl rfl rfl trivial) ?_
  obtain ⟨x1, e2, h⟩ := ltS h
  refine Run.go (Ev.avs (Ev.assign rfl rfl) e2) ?_
  refine Run.nil ?_
  refine T.seq ?_
  refine T.region ?_
  refine Run.go (Ev.move rfl rfl) ?_
  refine Run.go (Ev.int rfl rfl rfl rfl trivial) ?_
  refine Run.go (Ev.move rfl rfl) ?_
  obtain ⟨x3, e4, h⟩ := bdS h
  refine Run.go (Ev.e_sr e4 rfl rfl rfl) ?_
  refine Run.go (Ev.assign rfl rfl) ?_
  refine Run.go (Ev.assign rfl rfl) ?_
  refine Run.nil ?_
  refine T.ret ?_
  cases h
  exact Fin.many X rfl (.cons (.tmp .v) (.cons (.tmp .v) .nil)) rfl
theorem en127 : Enters Tryz.prog 127 := ⟨_, Tryz.func127, rfl, rfl⟩
theorem k_nat_Add {p0 : (List Int)} {p1 : (List Int)} {y : (List Int)} (h : m_nat_Add p0 p1 = some y) : Spec Tryz.prog 118 [(.v (.sl (.int .u64)) p0), (.v (.sl (.int .u64)) p1)] (.v (.sl (.int .u64)) y) [] := by
  rw [m_nat_Add] at h
  refine enterN [(.v (.sl (.int .u64)) p0), (.v (.sl (.int .u64)) p1)] 42 Tryz.func118 rfl rfl rfl ?_
  refine T.seq ?_
  refine T.region ?_
  refine Run.go (Ev.assign rfl rfl) ?_
  refine Run.nil ?_
  refine T.seq ?_
  refine T.region ?_
  refine Run.go (Ev.move rfl rfl) ?_
  refine Run.go (Ev.len X rfl rfl rfl rfl) ?_
  refine Run.go (Ev.move rfl rfl) ?_
  refine Run.go (Ev.len X rfl rfl rfl rfl) ?_
  refine Run.go (Ev.max rfl rfl rfl) ?_
  obtain ⟨x1, e2, h⟩ := ltS h
  refine Run.go (Ev.avs (Ev.assign rfl rfl) e2) ?_
  refine Run.nil ?_
  refine T.seq ?_
  refine T.region ?_
  refine Run.go (Ev.move rfl rfl) ?_
  refine Run.go (Ev.int rfl rfl rfl rfl trivial) ?_
  obtain ⟨x3, e4, h⟩ := bdS h
  refine Run.go (Ev.e_mk X 1 e4 rfl rfl rfl rfl rfl rfl) ?_
  refine Run.go (Ev.assign rfl rfl) ?_
  refine Run.nil ?_
  refine T.seq ?_
  refine T.region ?_
  refine Run.go (Ev.assign rfl rfl) ?_
  refine Run.nil ?_
  obtain ⟨⟨v5, v6⟩, hv, h⟩ := bdS h
  refine T.cut (fun _ : Unit => (⟨[(5, .v (.int .i64) x1), (6, .own 1), (7, .v (.int .u64) v5)], [(1, .arr 81 (.int .u64) v6)], 42⟩ : St)) (fun _ => True) ?_ (fun _ _ => ?_)
  · replace h := hv
    clear hv
    refine T.seq ?_
    refine T.region ?_
    refine Run.go (Ev.move rfl rfl) ?_
    refine Run.go (Ev.move rfl rfl) ?_
    refine Run.nil ?_
    refine T.block ?_
    refine T.loop (LoopT.ghost (Ghost.only [(1, 1)] [0, 1, 5, 6, 7, 17, 18] rfl) (LoopT.run (fun q : Int × Int × (List Int) => (⟨[(0, .v (.sl (.int .u64)) p0), (1, .v (.sl (.int .u64)) p1), (5, .v (.int .i64) x1), (6, .own 1), (7, .v (.int .u64) q.1), (17, .v (.int .i64) x1), (18, .v (.int .i64) q.2.1)], [(1, .arr 81 (.int .u64) q.2.2)], 42⟩ : St)) (fun q z1 h hz1 => ?_) h))
    obtain ⟨v7, v8, v9⟩ := q
    dsimp only
    rw [m_nat_Add_l1] at h
    refine T.seq ?_
    refine T.region ?_
    refine Run.go (Ev.int rfl rfl rfl rfl trivial) ?_
    refine Run.nil ?_
    refine T.seq ?_
    refine T.cond rfl (fun hb10 => ?_) (fun hb10 => ?_)
    · replace h := ifT hb10 h
      refine T.skip ?_
      refine T.seq ?_
      refine T.block ?_
      refine T.seq ?_
      refine T.region ?_
      refine Run.go (Ev.move rfl rfl) ?_
      refine Run.go (Ev.assign rfl rfl) ?_
      refine Run.nil ?_
      refine T.region ?_
      refine Run.go (Ev.move rfl rfl) ?_
      refine Run.go (Ev.move rfl rfl) ?_
      refine Run.go (Ev.move rfl rfl) ?_
      refine Run.go (Ev.move rfl rfl) ?_
      obtain ⟨x11, e12, h⟩ := bdS h
      refine Run.go (Ev.callC en128 (k_nat_at e12) rfl (.cons .v (.cons .v .nil)) rfl rfl) ?_
      refine Run.go (Ev.move rfl rfl) ?_
      refine Run.go (Ev.move rfl rfl) ?_
      obtain ⟨x13, e14, h⟩ := bdS h
      refine Run.go (Ev.callC en128 (k_nat_at e14) rfl (.cons .v (.cons .v .nil)) rfl rfl) ?_
      refine Run.go (Ev.move rfl rfl) ?_
      obtain ⟨x15, e16, h⟩ := bdS h
      refine Run.go (Ev.callC en127 (k_limb_Add e16) rfl (.cons .v (.cons .v (.cons .v .nil))) rfl rfl) ?_
      refine Run.go (Ev.move rfl rfl) ?_
      refine Run.go (Ev.extract rfl rfl rfl) ?_
      refine Run.go (Ev.extract rfl rfl rfl) ?_
      obtain ⟨j17, e18, h⟩ := bdS h
      refine Run.go (Ev.e_ixO X e18 rfl rfl rfl rfl rfl) ?_
      obtain ⟨x19, e20, h⟩ := ltS h
      refine Run.do_ (Ev.asO (Ev.storeEl X rfl rfl rfl rfl rfl) e20) ?_
      refine Run.go (Ev.assign rfl rfl) ?_
      refine Run.nil ?_
      refine T.region ?_
      refine Run.go (Ev.int rfl rfl rfl rfl trivial) ?_
      refine Run.go (Ev.move rfl rfl) ?_
      refine Run.nil ?_
      cases h
      exact LoopT.ghost (Ghost.only [(1, 1)] [0, 1, 5, 6, 7, 17, 18] rfl) hz1
    · replace h := ifF hb10 h
      refine T.exit ?_
      cases h
      cases hz1
      exact ⟨(), trivial, Ghost.only [(1, 1)] [5, 6, 7] rfl⟩
  · refine T.seq ?_
    refine T.region ?_
    refine Run.go (Ev.move rfl rfl) ?_
    refine Run.go (Ev.move rfl rfl) ?_
    refine Run.go (Ev.move rfl rfl) ?_
    obtain ⟨j21, e22, h⟩ := bdS h
    refine Run.go (Ev.e_ixO X e22 rfl rfl rfl rfl rfl) ?_
    obtain ⟨x23, e24, h⟩ := ltS h
    refine Run.do_ (Ev.asO (Ev.storeEl X rfl rfl rfl rfl rfl) e24) ?_
    refine Run.nil ?_
    refine T.seq ?_
    refine T.region ?_
    refine Run.go (Ev.move rfl rfl) ?_
    refine Run.ghost (Ghost.firmAll (id := 1) rfl) ?_
    obtain ⟨x25, e26, h⟩ := bdS h
    refine Run.go (Ev.callC en125 (k_nat_trim e26) rfl (.cons .v .nil) rfl rfl) ?_
    refine Run.go (Ev.assign rfl rfl) ?_
    refine Run.nil ?_
    refine T.ret ?_
    cases h
    exact Fin.one rfl .v
theorem en118 : Enters Tryz.prog 118 := ⟨_, Tryz.func118, rfl, rfl⟩
end Go.Proofs.YtbmogniipgmkiaaGreat.AE
/- The code comes to the printed functions (printed by a program of ours). -/
namespace Go.Proofs.YtbmogniipgmkiaaGreat.AE
open Go Go.RowKit Go.Proofs.YtbmogniipgmkiaaGreat.AP
set_option linter.unusedVariables false
set_option maxRecDepth 20000
theorem k_whole_Made {p0 : Bool} {p1 : (List Int)} {y : D_api_Int} (h : m_whole_Made p0 p1 = some y) : Spec Tryz.prog 116 [(.v .bool p0), (.v (.sl (.int .u64)) p1)] (.v Y_api_Int y) [] := by
  rw [m_whole_Made] at h
  refine enterN [(.v .bool p0), (.v (.sl (.int .u64)) p1)] 20 Tryz.func116 rfl rfl rfl ?_
  refine T.seq ?_
  refine T.region ?_
  refine Run.go (Ev.allocN X 1 rfl rfl rfl) ?_
  refine Run.nil ?_
  refine T.seq ?_
  refine T.region ?_
  refine Run.go (Ev.move rfl rfl) ?_
  obtain ⟨x1, e2, h⟩ := bdS h
  refine Run.go (Ev.callC en123 (k_nat_Make e2) rfl (.cons .v .nil) rfl rfl) ?_
  refine Run.go (Ev.move rfl rfl) ?_
  refine Run.go (Ev.extract rfl rfl rfl) ?_
  refine Run.go (Ev.extract rfl rfl rfl) ?_
  refine Run.go (Ev.assign rfl rfl) ?_
  refine Run.go (Ev.assign rfl rfl) ?_
  refine Run.nil ?_
  refine T.seq ?_
  refine T.region ?_
  refine Run.go (Ev.move rfl rfl) ?_
  refine Run.go (Ev.move rfl rfl) ?_
  rcases boolCases p0 with hb3 | hb3
  · replace h := ifT hb3 h
    refine Run.on rfl rfl rfl hb3 (Ev.move rfl rfl) ?_
    refine Run.on rfl rfl rfl hb3 (Ev.len X rfl rfl rfl rfl) ?_
    refine Run.on rfl rfl rfl hb3 (Ev.int rfl rfl rfl rfl trivial) ?_
    refine Run.go (Ev.pickT rfl hb3 rfl rfl) ?_
    refine Run.go (Ev.move rfl rfl) ?_
    refine Run.go (Ev.struct X pl56 rfl rfl rfl rfl rfl rfl rfl rfl) ?_
    refine Run.do_ (Ev.storeBox X rfl rfl rfl rfl rfl rfl rfl) ?_
    refine Run.nil ?_
    refine T.ret ?_
    cases h
    exact Fin.cell X rfl rfl rfl rfl rfl
  · replace h := ifF hb3 h
    refine Run.offT rfl rfl rfl rfl hb3 ?_
    refine Run.offT rfl rfl rfl rfl hb3 ?_
    refine Run.offT rfl rfl rfl rfl hb3 ?_
    refine Run.go (Ev.pickF rfl hb3 rfl rfl) ?_
    refine Run.go (Ev.move rfl rfl) ?_
    refine Run.go (Ev.struct X pl56 rfl rfl rfl rfl rfl rfl rfl rfl) ?_
    refine Run.do_ (Ev.storeBox X rfl rfl rfl rfl rfl rfl rfl) ?_
    refine Run.nil ?_
    refine T.ret ?_
    cases h
    exact Fin.cell X rfl rfl rfl rfl rfl
theorem en116 : Enters Tryz.prog 116 := ⟨_, Tryz.func116, rfl, rfl⟩
theorem k_whole_Of {p0 : Int} {y : D_api_Int} (h : m_whole_Of p0 = some y) : Spec Tryz.prog 103 [(.v (.int .i64) p0)] (.v Y_api_Int y) [] := by
  rw [m_whole_Of] at h
  refine enterN [(.v (.int .i64) p0)] 17 Tryz.func103 rfl rfl rfl ?_
  refine T.seq ?_
  refine T.region ?_
  refine Run.go (Ev.allocN X 1 rfl rfl rfl) ?_
  refine Run.nil ?_
  refine T.seq ?_
  refine T.seq ?_
  refine T.region ?_
  refine Run.go (Ev.move rfl rfl) ?_
  refine Run.go (Ev.int rfl rfl rfl rfl trivial) ?_
  refine Run.nil ?_
  refine T.cond rfl (fun hb1 => ?_) (fun hb1 => ?_)
  · replace h := ifT hb1 h
    refine T.seq ?_
    refine T.region ?_
    refine Run.go (Ev.move rfl rfl) ?_
    refine Run.go (Ev.int rfl rfl rfl rfl trivial) ?_
    refine Run.go (Ev.neg rfl rfl) ?_
    refine Run.go (Ev.conv X rfl rfl rfl rfl) ?_
    obtain ⟨x2, e3, h⟩ := bdS h
    refine Run.go (Ev.callC en115 (k_nat_Of e3) rfl (.cons .v .nil) rfl rfl) ?_
    obtain ⟨x4, e5, h⟩ := bdS h
    refine Run.go (Ev.callC en115 (k_nat_Of e5) rfl (.cons .v .nil) rfl rfl) ?_
    obtain ⟨x6, e7, h⟩ := bdS h
    refine Run.go (Ev.callC en118 (k_nat_Add e7) rfl (.cons .v (.cons .v .nil)) rfl rfl) ?_
    obtain ⟨x8, e9, h⟩ := bdS h
    refine Run.go (Ev.callC en116 (k_whole_Made e9) rfl (.cons .v (.cons .v .nil)) rfl rfl) ?_
    refine Run.do_ (Ev.storeBox X rfl rfl rfl rfl rfl rfl rfl) ?_
    refine Run.nil ?_
    refine T.ret ?_
    cases h
    exact Fin.cell X rfl rfl rfl rfl rfl
  · replace h := ifF hb1 h
    refine T.skip ?_
    refine T.seq ?_
    refine T.region ?_
    refine Run.go (Ev.move rfl rfl) ?_
    refine Run.go (Ev.conv X rfl rfl rfl rfl) ?_
    obtain ⟨x10, e11, h⟩ := bdS h
    refine Run.go (Ev.callC en115 (k_nat_Of e11) rfl (.cons .v .nil) rfl rfl) ?_
    obtain ⟨x12, e13, h⟩ := bdS h
    refine Run.go (Ev.callC en116 (k_whole_Made e13) rfl (.cons .v (.cons .v .nil)) rfl rfl) ?_
    refine Run.do_ (Ev.storeBox X rfl rfl rfl rfl rfl rfl rfl) ?_
    refine Run.nil ?_
    refine T.ret ?_
    cases h
    exact Fin.cell X rfl rfl rfl rfl rfl
theorem en103 : Enters Tryz.prog 103 := ⟨_, Tryz.func103, rfl, rfl⟩
theorem k_rat_one  {y : (List Int)} (h : m_rat_one  = some y) : Spec Tryz.prog 104 [] (.v (.sl (.int .u64)) y) [] := by
  rw [m_rat_one] at h
  refine enterN [] 2 Tryz.func104 rfl rfl rfl ?_
  refine T.seq ?_
  refine T.region ?_
  refine Run.go (Ev.assign rfl rfl) ?_
  refine Run.nil ?_
  refine T.seq ?_
  refine T.region ?_
  obtain ⟨x1, e2, h⟩ := bdS h
  refine Run.go (Ev.callC en115 (k_nat_Of e2) rfl (.cons .v .nil) rfl rfl) ?_
  refine Run.go (Ev.assign rfl rfl) ?_
  refine Run.nil ?_
  refine T.ret ?_
  cases h
  exact Fin.one rfl .v
theorem en104 : Enters Tryz.prog 104 := ⟨_, Tryz.func104, rfl, rfl⟩
theorem k_rat_Of {p0 : Int} {y : D_api_Rat} (h : m_rat_Of p0 = some y) : Spec Tryz.prog 78 [(.v (.int .i64) p0)] (.v Y_api_Rat y) [] := by
  rw [m_rat_Of] at h
  refine enterN [(.v (.int .i64) p0)] 7 Tryz.func78 rfl rfl rfl ?_
  refine T.seq ?_
  refine T.region ?_
  refine Run.go (Ev.allocN X 1 rfl rfl rfl) ?_
  refine Run.nil ?_
  refine T.seq ?_
  refine T.region ?_
  refine Run.go (Ev.move rfl rfl) ?_
  obtain ⟨x1, e2, h⟩ := bdS h
  refine Run.go (Ev.callC en103 (k_whole_Of e2) rfl (.cons .v .nil) rfl rfl) ?_
  obtain ⟨x3, e4, h⟩ := bdS h
  refine Run.go (Ev.callC en104 (k_rat_one e4) rfl .nil rfl rfl) ?_
  refine Run.go (Ev.struct X pl58 rfl rfl rfl rfl rfl rfl rfl rfl) ?_
  refine Run.do_ (Ev.storeBox X rfl rfl rfl rfl rfl rfl rfl) ?_
  refine Run.nil ?_
  refine T.ret ?_
  cases h
  exact Fin.cell X rfl rfl rfl rfl rfl
theorem en78 : Enters Tryz.prog 78 := ⟨_, Tryz.func78, rfl, rfl⟩
theorem k_rat_up {p0 : D_api_Rat} {y : D_api_Int} (h : m_rat_up p0 = some y) : Spec Tryz.prog 102 [(.v Y_api_Rat p0)] (.v Y_api_Int y) [] := by
  rw [m_rat_up] at h
  refine enterN [(.v Y_api_Rat p0)] 6 Tryz.func102 rfl rfl rfl ?_
  refine T.seq ?_
  refine T.region ?_
  refine Run.go (Ev.box 1 rfl rfl rfl rfl) ?_
  refine Run.go (Ev.allocN X 2 rfl rfl rfl) ?_
  refine Run.nil ?_
  refine T.seq ?_
  refine T.region ?_
  refine Run.go (Ev.fieldBox X rfl rfl rfl rfl rfl) ?_
  refine Run.go (Ev.loadCell X rfl rfl rfl rfl rfl rfl) ?_
  obtain ⟨x1, e2, h⟩ := bdS h
  refine Run.go (Ev.callC en116 (k_whole_Made e2) rfl (.cons .v (.cons .v .nil)) rfl rfl) ?_
  refine Run.do_ (Ev.storeBox X rfl rfl rfl rfl rfl rfl rfl) ?_
  refine Run.nil ?_
  refine T.ret ?_
  cases h
  exact Fin.cell X rfl rfl rfl rfl rfl
theorem en102 : Enters Tryz.prog 102 := ⟨_, Tryz.func102, rfl, rfl⟩
theorem k_limb_Mul {p0 : Int} {p1 : Int} {p2 : Int} {p3 : Int} {y : Int × Int} (h : m_limb_Mul p0 p1 p2 p3 = some y) : Spec Tryz.prog 138 [(.v (.int .u64) p0), (.v (.int .u64) p1), (.v (.int .u64) p2), (.v (.int .u64) p3)] (.tup [.v (.int .u64) y.1, .v (.int .u64) y.2]) [] := by
  rw [m_limb_Mul] at h
  refine enterN [(.v (.int .u64) p0), (.v (.int .u64) p1), (.v (.int .u64) p2), (.v (.int .u64) p3)] 26 Tryz.func138 rfl rfl rfl ?_
  refine T.seq ?_
  refine T.region ?_
  refine Run.go (Ev.assign rfl rfl) ?_
  refine Run.go (Ev.assign rfl rfl) ?_
  refine Run.nil ?_
  refine T.seq ?_
  refine T.region ?_
  refine Run.go (Ev.move rfl rfl) ?_
  refine Run.go (Ev.int rfl rfl rfl rfl trivial) ?_
  refine Run.go (Ev.move rfl rfl) ?_
  refine Run.go (Ev.int rfl rfl rfl rfl trivial) ?_
  refine Run.go (Ev.int rfl rfl rfl rfl trivial) ?_
  refine Run.go (Ev.move rfl rfl) ?_
  refine Run.go (Ev.int rfl rfl rfl rfl trivial) ?_
  refine Run.go (Ev.int rfl rfl rfl rfl trivial) ?_
  refine Run.go (Ev.move rfl rfl) ?_
  refine Run.go (Ev.int rfl rfl rfl rfl trivial) ?_
  refine Run.go (Ev.int rfl rfl rfl rfl trivial) ?_
  obtain ⟨x1, e2, h⟩ := ltS h
  refine Run.go (Ev.avs (Ev.assign rfl rfl) e2) ?_
  refine Run.nil ?_
  refine T.seq ?_
  refine T.region ?_
  refine Run.go (Ev.move rfl rfl) ?_
  refine Run.go (Ev.int rfl rfl rfl rfl trivial) ?_
  refine Run.go (Ev.move rfl rfl) ?_
  obtain ⟨x3, e4, h⟩ := bdS h
  refine Run.go (Ev.e_sr e4 rfl rfl rfl) ?_
  refine Run.go (Ev.assign rfl rfl) ?_
  refine Run.go (Ev.assign rfl rfl) ?_
  refine Run.nil ?_
  refine T.ret ?_
  cases h
  exact Fin.many X rfl (.cons (.tmp .v) (.cons (.tmp .v) .nil)) rfl
theorem en138 : Enters Tryz.prog 138 := ⟨_, Tryz.func138, rfl, rfl⟩
theorem k_mul_made {p0 : (List Int)} {y : (List Int)} (h : m_mul_made p0 = some y) : Spec Tryz.prog 139 [(.v (.sl (.int .u64)) p0)] (.v (.sl (.int .u64)) y) [] := by
  rw [m_mul_made] at h
  refine enterN [(.v (.sl (.int .u64)) p0)] 11 Tryz.func139 rfl rfl rfl ?_
  refine T.seq ?_
  refine T.region ?_
  refine Run.go (Ev.assign rfl rfl) ?_
  refine Run.nil ?_
  refine T.seq ?_
  refine T.region ?_
  refine Run.go (Ev.move rfl rfl) ?_
  obtain ⟨x1, e2, h⟩ := bdS h
  refine Run.go (Ev.callC en123 (k_nat_Make e2) rfl (.cons .v .nil) rfl rfl) ?_
  refine Run.go (Ev.move rfl rfl) ?_
  refine Run.go (Ev.extract rfl rfl rfl) ?_
  refine Run.go (Ev.extract rfl rfl rfl) ?_
  refine Run.go (Ev.assign rfl rfl) ?_
  refine Run.go (Ev.assign rfl rfl) ?_
  refine Run.nil ?_
  refine T.seq ?_
  refine T.region ?_
  refine Run.go (Ev.move rfl rfl) ?_
  refine Run.go (Ev.assign rfl rfl) ?_
  refine Run.nil ?_
  refine T.ret ?_
  cases h
  exact Fin.one rfl .v
theorem en139 : Enters Tryz.prog 139 := ⟨_, Tryz.func139, rfl, rfl⟩
theorem k_mul_Long {p0 : (List Int)} {p1 : (List Int)} {y : (List Int)} (h : m_mul_Long p0 p1 = some y) : Spec Tryz.prog 131 [(.v (.sl (.int .u64)) p0), (.v (.sl (.int .u64)) p1)] (.v (.sl (.int .u64)) y) [] := by
  rw [m_mul_Long] at h
  refine enterN [(.v (.sl (.int .u64)) p0), (.v (.sl (.int .u64)) p1)] 60 Tryz.func131 rfl rfl rfl ?_
  refine T.seq ?_
  refine T.region ?_
  refine Run.go (Ev.assign rfl rfl) ?_
  refine Run.nil ?_
  refine T.seq ?_
  refine T.region ?_
  refine Run.go (Ev.move rfl rfl) ?_
  refine Run.go (Ev.len X rfl rfl rfl rfl) ?_
  refine Run.go (Ev.move rfl rfl) ?_
  refine Run.go (Ev.len X rfl rfl rfl rfl) ?_
  refine Run.go (Ev.int rfl rfl rfl rfl trivial) ?_
  obtain ⟨x1, e2, h⟩ := bdS h
  refine Run.go (Ev.e_mk X 1 e2 rfl rfl rfl rfl rfl rfl) ?_
  refine Run.go (Ev.assign rfl rfl) ?_
  refine Run.nil ?_
  obtain ⟨v3, hv, h⟩ := bdS h
  refine T.cut (fun _ : Unit => (⟨[(5, .own 1)], [(1, .arr 81 (.int .u64) v3)], 60⟩ : St)) (fun _ => True) ?_ (fun _ _ => ?_)
  · replace h := hv
    clear hv
    refine T.seq ?_
    refine T.region ?_
    refine Run.go (Ev.move rfl rfl) ?_
    refine Run.go (Ev.len X rfl rfl rfl rfl) ?_
    refine Run.go (Ev.move rfl rfl) ?_
    refine Run.nil ?_
    refine T.block ?_
    refine T.loop (LoopT.ghost (Ghost.only [(1, 1)] [1, 5, 17, 18, 19] rfl) (LoopT.run (fun q : Int × (List Int) => (⟨[(1, .v (.sl (.int .u64)) p1), (5, .own 1), (17, .v (.sl (.int .u64)) p0), (18, .v (.int .i64) ((p0.length : Int) : Int)), (19, .v (.int .i64) q.1)], [(1, .arr 81 (.int .u64) q.2)], 60⟩ : St)) (fun q z1 h hz1 => ?_) h))
    obtain ⟨v4, v5⟩ := q
    dsimp only
    rw [m_mul_Long_l1] at h
    refine T.seq ?_
    refine T.region ?_
    refine Run.go (Ev.int rfl rfl rfl rfl trivial) ?_
    refine Run.nil ?_
    refine T.seq ?_
    refine T.cond rfl (fun hb6 => ?_) (fun hb6 => ?_)
    · replace h := ifT hb6 h
      refine T.skip ?_
      obtain ⟨v7, hv, h⟩ := bdS h
      refine T.cut (fun _ : Unit => (⟨[(1, .v (.sl (.int .u64)) p1), (5, .own 1), (17, .v (.sl (.int .u64)) p0), (18, .v (.int .i64) ((p0.length : Int) : Int)), (19, .v (.int .i64) v4)], [(1, .arr 81 (.int .u64) v7)], 60⟩ : St)) (fun _ => True) ?_ (fun _ _ => ?_)
      · replace h := hv
        clear hv
        refine T.block ?_
        refine T.seq ?_
        refine T.region ?_
        refine Run.go (Ev.move rfl rfl) ?_
        obtain ⟨x8, e9, h⟩ := bdS h
        refine Run.go (Ev.e_rd X e9 rfl rfl rfl rfl) ?_
        refine Run.go (Ev.load X rfl rfl rfl) ?_
        refine Run.go (Ev.assign rfl rfl) ?_
        refine Run.go (Ev.assign rfl rfl) ?_
        refine Run.nil ?_
        refine T.seq ?_
        refine T.region ?_
        refine Run.go (Ev.assign rfl rfl) ?_
        refine Run.nil ?_
        obtain ⟨⟨v10, v11⟩, hv, h⟩ := bdS h
        refine T.cut (fun _ : Unit => (⟨[(1, .v (.sl (.int .u64)) p1), (5, .own 1), (6, .v (.int .i64) v4), (8, .v (.int .u64) v10), (17, .v (.sl (.int .u64)) p0), (18, .v (.int .i64) ((p0.length : Int) : Int)), (19, .v (.int .i64) v4)], [(1, .arr 81 (.int .u64) v11)], 60⟩ : St)) (fun _ => True) ?_ (fun _ _ => ?_)
        · replace h := hv
          clear hv
          refine T.seq ?_
          refine T.region ?_
          refine Run.go (Ev.move rfl rfl) ?_
          refine Run.go (Ev.len X rfl rfl rfl rfl) ?_
          refine Run.go (Ev.move rfl rfl) ?_
          refine Run.nil ?_
          refine T.block ?_
          refine T.loop (LoopT.ghost (Ghost.only [(1, 1)] [1, 5, 6, 7, 8, 17, 18, 19, 24, 25, 26] rfl) (LoopT.run (fun q : Int × Int × (List Int) => (⟨[(1, .v (.sl (.int .u64)) p1), (5, .own 1), (6, .v (.int .i64) v4), (7, .v (.int .u64) x8), (8, .v (.int .u64) q.1), (17, .v (.sl (.int .u64)) p0), (18, .v (.int .i64) ((p0.length : Int) : Int)), (19, .v (.int .i64) v4), (24, .v (.sl (.int .u64)) p1), (25, .v (.int .i64) ((p1.length : Int) : Int)), (26, .v (.int .i64) q.2.1)], [(1, .arr 81 (.int .u64) q.2.2)], 60⟩ : St)) (fun q z2 h hz2 => ?_) h))
          obtain ⟨v12, v13, v14⟩ := q
          dsimp only
          rw [m_mul_Long_l2] at h
          refine T.seq ?_
          refine T.region ?_
          refine Run.go (Ev.int rfl rfl rfl rfl trivial) ?_
          refine Run.nil ?_
          refine T.seq ?_
          refine T.cond rfl (fun hb15 => ?_) (fun hb15 => ?_)
          · replace h := ifT hb15 h
            refine T.skip ?_
            refine T.seq ?_
            refine T.block ?_
            refine T.seq ?_
            refine T.region ?_
            refine Run.go (Ev.move rfl rfl) ?_
            obtain ⟨x16, e17, h⟩ := bdS h
            refine Run.go (Ev.e_rd X e17 rfl rfl rfl rfl) ?_
            refine Run.go (Ev.load X rfl rfl rfl) ?_
            refine Run.go (Ev.assign rfl rfl) ?_
            refine Run.go (Ev.assign rfl rfl) ?_
            refine Run.nil ?_
            refine T.region ?_
            refine Run.go (Ev.move rfl rfl) ?_
            refine Run.go (Ev.move rfl rfl) ?_
            refine Run.go (Ev.move rfl rfl) ?_
            refine Run.go (Ev.int rfl rfl rfl rfl trivial) ?_
            refine Run.go (Ev.move rfl rfl) ?_
            refine Run.go (Ev.move rfl rfl) ?_
            refine Run.go (Ev.move rfl rfl) ?_
            refine Run.go (Ev.move rfl rfl) ?_
            refine Run.go (Ev.move rfl rfl) ?_
            refine Run.go (Ev.int rfl rfl rfl rfl trivial) ?_
            obtain ⟨x18, e19, h⟩ := bdS h
            refine Run.go (Ev.e_rdO X e19 rfl rfl rfl rfl rfl) ?_
            refine Run.go (Ev.e_ldO X (rdS e19).2 rfl rfl rfl rfl) ?_
            refine Run.go (Ev.move rfl rfl) ?_
            obtain ⟨x20, e21, h⟩ := bdS h
            refine Run.go (Ev.callC en138 (k_limb_Mul e21) rfl (.cons .v (.cons .v (.cons .v (.cons .v .nil)))) rfl rfl) ?_
            refine Run.go (Ev.move rfl rfl) ?_
            refine Run.go (Ev.extract rfl rfl rfl) ?_
            refine Run.go (Ev.extract rfl rfl rfl) ?_
            obtain ⟨j22, e23, h⟩ := bdS h
            refine Run.go (Ev.e_ixO X e23 rfl rfl rfl rfl rfl) ?_
            obtain ⟨x24, e25, h⟩ := ltS h
            refine Run.do_ (Ev.asO (Ev.storeEl X rfl rfl rfl rfl rfl) e25) ?_
            refine Run.go (Ev.assign rfl rfl) ?_
            refine Run.nil ?_
            refine T.region ?_
            refine Run.go (Ev.int rfl rfl rfl rfl trivial) ?_
            refine Run.go (Ev.move rfl rfl) ?_
            refine Run.nil ?_
            cases h
            exact LoopT.ghost (Ghost.only [(1, 1)] [1, 5, 6, 7, 8, 17, 18, 19, 24, 25, 26] rfl) hz2
          · replace h := ifF hb15 h
            refine T.exit ?_
            cases h
            cases hz2
            exact ⟨(), trivial, Ghost.only [(1, 1)] [1, 5, 6, 8, 17, 18, 19] rfl⟩
        · refine T.region ?_
          refine Run.go (Ev.move rfl rfl) ?_
          refine Run.go (Ev.move rfl rfl) ?_
          refine Run.go (Ev.move rfl rfl) ?_
          refine Run.go (Ev.len X rfl rfl rfl rfl) ?_
          refine Run.go (Ev.int rfl rfl rfl rfl trivial) ?_
          refine Run.go (Ev.move rfl rfl) ?_
          obtain ⟨j26, e27, h⟩ := bdS h
          refine Run.go (Ev.e_ixO X e27 rfl rfl rfl rfl rfl) ?_
          obtain ⟨x28, e29, h⟩ := ltS h
          refine Run.do_ (Ev.asO (Ev.storeEl X rfl rfl rfl rfl rfl) e29) ?_
          refine Run.nil ?_
          cases h
          exact ⟨(), trivial, Ghost.only [(1, 1)] [1, 5, 17, 18, 19] rfl⟩
      · refine T.region ?_
        refine Run.go (Ev.int rfl rfl rfl rfl trivial) ?_
        refine Run.go (Ev.move rfl rfl) ?_
        refine Run.nil ?_
        cases h
        exact LoopT.ghost (Ghost.only [(1, 1)] [1, 5, 17, 18, 19] rfl) hz1
    · replace h := ifF hb6 h
      refine T.exit ?_
      cases h
      cases hz1
      exact ⟨(), trivial, Ghost.only [(1, 1)] [5] rfl⟩
  · refine T.seq ?_
    refine T.region ?_
    refine Run.go (Ev.move rfl rfl) ?_
    refine Run.ghost (Ghost.firmAll (id := 1) rfl) ?_
    obtain ⟨x30, e31, h⟩ := bdS h
    refine Run.go (Ev.callC en139 (k_mul_made e31) rfl (.cons .v .nil) rfl rfl) ?_
    refine Run.go (Ev.assign rfl rfl) ?_
    refine Run.nil ?_
    refine T.ret ?_
    cases h
    exact Fin.one rfl .v
theorem en131 : Enters Tryz.prog 131 := ⟨_, Tryz.func131, rfl, rfl⟩
theorem k_mul_cut {p0 : (List Int)} {p1 : Int} {y : (List Int) × (List Int)} (h : m_mul_cut p0 p1 = some y) : Spec Tryz.prog 132 [(.v (.sl (.int .u64)) p0), (.v (.int .i64) p1)] (.tup [.v (.sl (.int .u64)) y.1, .v (.sl (.int .u64)) y.2]) [] := by
  rw [m_mul_cut] at h
  refine enterN [(.v (.sl (.int .u64)) p0), (.v (.int .i64) p1)] 18 Tryz.func132 rfl rfl rfl ?_
  refine T.seq ?_
  refine T.region ?_
  refine Run.go (Ev.assign rfl rfl) ?_
  refine Run.go (Ev.assign rfl rfl) ?_
  refine Run.nil ?_
  refine T.seq ?_
  refine T.region ?_
  refine Run.go (Ev.move rfl rfl) ?_
  refine Run.go (Ev.move rfl rfl) ?_
  refine Run.go (Ev.len X rfl rfl rfl rfl) ?_
  refine Run.go (Ev.min rfl rfl rfl) ?_
  refine Run.go (Ev.assign rfl rfl) ?_
  refine Run.nil ?_
  refine T.seq ?_
  refine T.drawM [] [0, 0, 3, 7, 0, 0, 48, 127, 255, 511] (by kernel_rfl) (by kernel_rfl) ?_
  refine RunD.w (fun _ => Ev.move rfl rfl) ?_
  refine RunD.w (fun _ => Ev.move rfl rfl) ?_
  obtain ⟨x1, e2, h⟩ := bdS h
  refine RunD.a rfl rfl (Ev.e_ct X e2 rfl rfl rfl (fun _ h => by cases h) (fun _ => rfl) (fun _ _ => cutAt_of rfl) (fun h => by cases h)) ?_
  obtain ⟨x3, e4, h⟩ := bdS h
  refine RunD.a rfl rfl (Ev.callC en139 (k_mul_made e4) rfl (.cons .v .nil) rfl rfl) ?_
  refine RunD.w (fun _ => Ev.move rfl rfl) ?_
  refine RunD.w (fun _ => Ev.move rfl rfl) ?_
  obtain ⟨x5, e6, h⟩ := bdS h
  refine RunD.a rfl rfl (Ev.e_ct X e6 rfl rfl rfl (fun _ _ => cutAt_of rfl) (fun h => by cases h) (fun _ h => by cases h) (fun _ => rfl)) ?_
  obtain ⟨x7, e8, h⟩ := bdS h
  refine RunD.a rfl rfl (Ev.callC en139 (k_mul_made e8) rfl (.cons .v .nil) rfl rfl) ?_
  refine RunD.w (fun _ => Ev.assign rfl rfl) ?_
  refine RunD.w (fun _ => Ev.assign rfl rfl) ?_
  refine RunD.nil ?_
  refine T.ret ?_
  cases h
  exact Fin.many X rfl (.cons (.tmp .v) (.cons (.tmp .v) .nil)) rfl
theorem en132 : Enters Tryz.prog 132 := ⟨_, Tryz.func132, rfl, rfl⟩
theorem k_mul_Short {p0 : (List Int)} {p1 : (List Int)} {y : (List Int)} (h : m_mul_Short p0 p1 = some y) : Spec Tryz.prog 126 [(.v (.sl (.int .u64)) p0), (.v (.sl (.int .u64)) p1)] (.v (.sl (.int .u64)) y) [] := by
  rw [m_mul_Short] at h
  cases h
theorem en126 : Enters Tryz.prog 126 := ⟨_, Tryz.func126, rfl, rfl⟩
theorem k_mul_Mul {p0 : (List Int)} {p1 : (List Int)} {y : (List Int)} (h : m_mul_Mul p0 p1 = some y) : Spec Tryz.prog 117 [(.v (.sl (.int .u64)) p0), (.v (.sl (.int .u64)) p1)] (.v (.sl (.int .u64)) y) [] := by
  rw [m_mul_Mul] at h
  refine enterN [(.v (.sl (.int .u64)) p0), (.v (.sl (.int .u64)) p1)] 8 Tryz.func117 rfl rfl rfl ?_
  refine T.seq ?_
  refine T.region ?_
  refine Run.go (Ev.assign rfl rfl) ?_
  refine Run.nil ?_
  refine T.seq ?_
  refine T.region ?_
  refine Run.go (Ev.move rfl rfl) ?_
  refine Run.go (Ev.move rfl rfl) ?_
  obtain ⟨x1, e2, h⟩ := bdS h
  refine Run.go (Ev.callC en126 (k_mul_Short e2) rfl (.cons .v (.cons .v .nil)) rfl rfl) ?_
  refine Run.go (Ev.assign rfl rfl) ?_
  refine Run.nil ?_
  refine T.ret ?_
  cases h
  exact Fin.one rfl .v
theorem en117 : Enters Tryz.prog 117 := ⟨_, Tryz.func117, rfl, rfl⟩
theorem k_whole_Mul {p0 : D_api_Int} {p1 : D_api_Int} {y : D_api_Int} (h : m_whole_Mul p0 p1 = some y) : Spec Tryz.prog 101 [(.v Y_api_Int p0), (.v Y_api_Int p1)] (.v Y_api_Int y) [] := by
  rw [m_whole_Mul] at h
  refine enterN [(.v Y_api_Int p0), (.v Y_api_Int p1)] 16 Tryz.func101 rfl rfl rfl ?_
  refine T.seq ?_
  refine T.region ?_
  refine Run.go (Ev.box 1 rfl rfl rfl rfl) ?_
  refine Run.go (Ev.box 2 rfl rfl rfl rfl) ?_
  refine Run.go (Ev.allocN X 3 rfl rfl rfl) ?_
  refine Run.nil ?_
  refine T.seq ?_
  refine T.drawM [11] [0, 1, 0, 4, 15, 0, 32, 0, 128, 480, 1023, 2047] (by kernel_rfl) (by kernel_rfl) ?_
  refine RunD.a rfl rfl (Ev.fieldBox X rfl rfl rfl rfl rfl) ?_
  refine RunD.a rfl rfl (Ev.loadCell X rfl rfl rfl rfl rfl rfl) ?_
  refine RunD.a rfl rfl (Ev.fieldBox X rfl rfl rfl rfl rfl) ?_
  refine RunD.a rfl rfl (Ev.loadCell X rfl rfl rfl rfl rfl rfl) ?_
  refine RunD.w (fun _ => Ev.bools X rfl rfl rfl rfl rfl) ?_
  refine RunD.a rfl rfl (Ev.fieldBox X rfl rfl rfl rfl rfl) ?_
  refine RunD.a rfl rfl (Ev.loadCell X rfl rfl rfl rfl rfl rfl) ?_
  refine RunD.a rfl rfl (Ev.fieldBox X rfl rfl rfl rfl rfl) ?_
  refine RunD.a rfl rfl (Ev.loadCell X rfl rfl rfl rfl rfl rfl) ?_
  obtain ⟨x1, e2, h⟩ := bdS h
  refine RunD.a rfl rfl (Ev.callC en117 (k_mul_Mul e2) rfl (.cons .v (.cons .v .nil)) rfl rfl) ?_
  obtain ⟨x3, e4, h⟩ := bdS h
  refine RunD.a rfl rfl (Ev.callC en116 (k_whole_Made e4) rfl (.cons .v (.cons .v .nil)) rfl rfl) ?_
  refine RunD.mN rfl (Ev.storeBox X rfl rfl rfl rfl rfl rfl rfl) ?_
  refine RunD.nil ?_
  refine T.ret ?_
  cases h
  exact Fin.cell X rfl rfl rfl rfl rfl
theorem en101 : Enters Tryz.prog 101 := ⟨_, Tryz.func101, rfl, rfl⟩
theorem k_whole_Cmp {p0 : D_api_Int} {p1 : D_api_Int} {y : Int} (h : m_whole_Cmp p0 p1 = some y) : Spec Tryz.prog 100 [(.v Y_api_Int p0), (.v Y_api_Int p1)] (.v (.int .i64) y) [] := by
  rw [m_whole_Cmp] at h
  refine enterN [(.v Y_api_Int p0), (.v Y_api_Int p1)] 26 Tryz.func100 rfl rfl rfl ?_
  refine T.seq ?_
  refine T.region ?_
  refine Run.go (Ev.box 1 rfl rfl rfl rfl) ?_
  refine Run.go (Ev.box 2 rfl rfl rfl rfl) ?_
  refine Run.go (Ev.assign rfl rfl) ?_
  refine Run.nil ?_
  refine T.seq ?_
  refine T.drawM [] [0, 1, 0, 7, 15, 31] (by kernel_rfl) (by kernel_rfl) ?_
  refine RunD.a rfl rfl (Ev.loadBox X rfl rfl rfl rfl rfl) ?_
  obtain ⟨x1, e2, h⟩ := bdS h
  refine RunD.a rfl rfl (Ev.callC en99 (k_whole_Sign e2) rfl (.cons .v .nil) rfl rfl) ?_
  refine RunD.a rfl rfl (Ev.loadBox X rfl rfl rfl rfl rfl) ?_
  obtain ⟨x3, e4, h⟩ := bdS h
  refine RunD.a rfl rfl (Ev.callC en99 (k_whole_Sign e4) rfl (.cons .v .nil) rfl rfl) ?_
  refine RunD.w (fun _ => Ev.assign rfl rfl) ?_
  refine RunD.w (fun _ => Ev.assign rfl rfl) ?_
  refine RunD.nil ?_
  refine T.seq ?_
  refine T.block ?_
  refine T.seq ?_
  refine T.region ?_
  refine Run.go (Ev.move rfl rfl) ?_
  refine Run.go (Ev.move rfl rfl) ?_
  refine Run.go (Ev.int rfl rfl rfl rfl trivial) ?_
  refine Run.go (Ev.assign rfl rfl) ?_
  refine Run.nil ?_
  refine T.cond rfl (fun hb5 => ?_) (fun hb5 => ?_)
  · replace h := ifT hb5 h
    refine T.seq ?_
    refine T.region ?_
    refine Run.go (Ev.assign rfl rfl) ?_
    refine Run.nil ?_
    refine T.ret ?_
    cases h
    exact Fin.one rfl .v
  · replace h := ifF hb5 h
    refine T.seq ?_
    refine T.region ?_
    refine Run.go (Ev.move rfl rfl) ?_
    refine Run.go (Ev.move rfl rfl) ?_
    refine Run.go (Ev.int rfl rfl rfl rfl trivial) ?_
    refine Run.go (Ev.assign rfl rfl) ?_
    refine Run.nil ?_
    refine T.cond rfl (fun hb6 => ?_) (fun hb6 => ?_)
    · replace h := ifT hb6 h
      refine T.seq ?_
      refine T.region ?_
      refine Run.go (Ev.assign rfl rfl) ?_
      refine Run.nil ?_
      refine T.ret ?_
      cases h
      exact Fin.one rfl .v
    · replace h := ifF hb6 h
      refine T.skip ?_
      refine T.seq ?_
      refine T.region ?_
      refine Run.go (Ev.move rfl rfl) ?_
      refine Run.go (Ev.fieldBox X rfl rfl rfl rfl rfl) ?_
      refine Run.go (Ev.loadCell X rfl rfl rfl rfl rfl rfl) ?_
      refine Run.go (Ev.fieldBox X rfl rfl rfl rfl rfl) ?_
      refine Run.go (Ev.loadCell X rfl rfl rfl rfl rfl rfl) ?_
      obtain ⟨x7, e8, h⟩ := bdS h
      refine Run.go (Ev.callC en113 (k_nat_Cmp e8) rfl (.cons .v (.cons .v .nil)) rfl rfl) ?_
      refine Run.go (Ev.int rfl rfl rfl rfl trivial) ?_
      refine Run.go (Ev.assign rfl rfl) ?_
      refine Run.nil ?_
      refine T.ret ?_
      cases h
      exact Fin.one rfl .v
theorem en100 : Enters Tryz.prog 100 := ⟨_, Tryz.func100, rfl, rfl⟩
theorem k_rat_Cmp {p0 : D_api_Rat} {p1 : D_api_Rat} {y : Int} (h : m_rat_Cmp p0 p1 = some y) : Spec Tryz.prog 77 [(.v Y_api_Rat p0), (.v Y_api_Rat p1)] (.v (.int .i64) y) [] := by
  rw [m_rat_Cmp] at h
  refine enterN [(.v Y_api_Rat p0), (.v Y_api_Rat p1)] 16 Tryz.func77 rfl rfl rfl ?_
  refine T.seq ?_
  refine T.region ?_
  refine Run.go (Ev.box 1 rfl rfl rfl rfl) ?_
  refine Run.go (Ev.box 2 rfl rfl rfl rfl) ?_
  refine Run.go (Ev.assign rfl rfl) ?_
  refine Run.nil ?_
  refine T.seq ?_
  refine T.drawM [] [0, 1, 0, 4, 15, 0, 32, 0, 159, 511, 1023, 2047] (by kernel_rfl) (by kernel_rfl) ?_
  refine RunD.a rfl rfl (Ev.fieldBox X rfl rfl rfl rfl rfl) ?_
  refine RunD.a rfl rfl (Ev.loadBox X rfl rfl rfl rfl rfl) ?_
  refine RunD.a rfl rfl (Ev.loadBox X rfl rfl rfl rfl rfl) ?_
  obtain ⟨x1, e2, h⟩ := bdS h
  refine RunD.a rfl rfl (Ev.callC en102 (k_rat_up e2) rfl (.cons .v .nil) rfl rfl) ?_
  obtain ⟨x3, e4, h⟩ := bdS h
  refine RunD.a rfl rfl (Ev.callC en101 (k_whole_Mul e4) rfl (.cons .v (.cons .v .nil)) rfl rfl) ?_
  refine RunD.a rfl rfl (Ev.fieldBox X rfl rfl rfl rfl rfl) ?_
  refine RunD.a rfl rfl (Ev.loadBox X rfl rfl rfl rfl rfl) ?_
  refine RunD.a rfl rfl (Ev.loadBox X rfl rfl rfl rfl rfl) ?_
  obtain ⟨x5, e6, h⟩ := bdS h
  refine RunD.a rfl rfl (Ev.callC en102 (k_rat_up e6) rfl (.cons .v .nil) rfl rfl) ?_
  obtain ⟨x7, e8, h⟩ := bdS h
  refine RunD.a rfl rfl (Ev.callC en101 (k_whole_Mul e8) rfl (.cons .v (.cons .v .nil)) rfl rfl) ?_
  obtain ⟨x9, e10, h⟩ := bdS h
  refine RunD.a rfl rfl (Ev.callC en100 (k_whole_Cmp e10) rfl (.cons .v (.cons .v .nil)) rfl rfl) ?_
  refine RunD.w (fun _ => Ev.assign rfl rfl) ?_
  refine RunD.nil ?_
  refine T.ret ?_
  cases h
  exact Fin.one rfl .v
theorem en77 : Enters Tryz.prog 77 := ⟨_, Tryz.func77, rfl, rfl⟩
theorem k_formed_partsRight_1 {p0 : D_api_Link} {y : Bool} (h : m_formed_partsRight_1 p0 = some y) : Spec Tryz.prog 74 [(.v Y_api_Link p0)] (.v .bool y) [] := by
  rw [m_formed_partsRight_1] at h
  refine enterN [(.v Y_api_Link p0)] 20 Tryz.func74 rfl rfl rfl ?_
  refine T.seq ?_
  refine T.region ?_
  refine Run.go (Ev.box 1 rfl rfl rfl rfl) ?_
  refine Run.go (Ev.assign rfl rfl) ?_
  refine Run.nil ?_
  refine T.seq ?_
  refine T.drawM [] [0, 1, 3, 7, 15, 31, 63, 127, 255, 511, 1023, 2047, 4095, 2047, 16383, 32767, 65535, 131071] (by kernel_rfl) (by kernel_rfl) ?_
  refine RunD.a rfl rfl (Ev.fieldBox X rfl rfl rfl rfl rfl) ?_
  refine RunD.a rfl rfl (Ev.loadBox X rfl rfl rfl rfl rfl) ?_
  obtain ⟨x1, e2, h⟩ := bdS h
  refine RunD.a rfl rfl (Ev.callC en75 (k_rat_May e2) rfl (.cons .v .nil) rfl rfl) ?_
  refine RunD.w (fun _ => Ev.not rfl rfl) ?_
  refine RunD.w (fun _ => Ev.move rfl rfl) ?_
  rcases boolCases (!x1) with hb3 | hb3
  · replace h := ifT hb3 h
    refine RunD.offT rfl rfl rfl rfl hb3 ?_
    refine RunD.offT rfl rfl rfl rfl hb3 ?_
    refine RunD.offT rfl rfl rfl rfl hb3 ?_
    refine RunD.offT rfl rfl rfl rfl hb3 ?_
    refine RunD.w (fun _ => Ev.pickT rfl hb3 rfl rfl) ?_
    refine RunD.w (fun _ => Ev.move rfl rfl) ?_
    refine RunD.offT rfl rfl rfl rfl rfl ?_
    refine RunD.offT rfl rfl rfl rfl rfl ?_
    refine RunD.offT rfl rfl rfl rfl rfl ?_
    refine RunD.offT rfl rfl rfl rfl rfl ?_
    refine RunD.offT rfl rfl rfl rfl rfl ?_
    refine RunD.w (fun _ => Ev.pickT rfl rfl rfl rfl) ?_
    refine RunD.w (fun _ => Ev.assign rfl rfl) ?_
    refine RunD.nil ?_
    refine T.ret ?_
    cases h
    exact Fin.one rfl .v
  · replace h := ifF hb3 h
    refine RunD.on rfl rfl rfl hb3 rfl (fun ô hô => by obtain rfl := hô.resolve_left (by decide); exact Ev.fieldBox X rfl rfl rfl rfl rfl) ?_
    refine RunD.on rfl rfl rfl hb3 rfl (fun ô hô => by obtain rfl := hô.resolve_left (by decide); exact Ev.loadBox X rfl rfl rfl rfl rfl) ?_
    obtain ⟨x4, e5, h⟩ := bdS h
    refine RunD.on rfl rfl rfl hb3 rfl (fun ô hô => by obtain rfl := hô.resolve_left (by decide); exact Ev.callC en76 (k_rat_Sign e5) rfl (.cons .v .nil) rfl rfl) ?_
    refine RunD.on rfl rfl rfl hb3 rfl (fun _ _ => Ev.int rfl rfl rfl rfl trivial) ?_
    refine RunD.w (fun _ => Ev.pickF rfl hb3 rfl rfl) ?_
    refine RunD.w (fun _ => Ev.move rfl rfl) ?_
    rcases boolCases (decide (x4 < 0)) with hb6 | hb6
    · replace h := ifT hb6 h
      refine RunD.offT rfl rfl rfl rfl hb6 ?_
      refine RunD.offT rfl rfl rfl rfl hb6 ?_
      refine RunD.offT rfl rfl rfl rfl hb6 ?_
      refine RunD.offT rfl rfl rfl rfl hb6 ?_
      refine RunD.offT rfl rfl rfl rfl hb6 ?_
      refine RunD.w (fun _ => Ev.pickT rfl hb6 rfl rfl) ?_
      refine RunD.w (fun _ => Ev.assign rfl rfl) ?_
      refine RunD.nil ?_
      refine T.ret ?_
      cases h
      exact Fin.one rfl .v
    · replace h := ifF hb6 h
      refine RunD.on rfl rfl rfl hb6 rfl (fun ô hô => by obtain rfl := hô.resolve_left (by decide); exact Ev.fieldBox X rfl rfl rfl rfl rfl) ?_
      refine RunD.on rfl rfl rfl hb6 rfl (fun ô hô => by obtain rfl := hô.resolve_left (by decide); exact Ev.loadBox X rfl rfl rfl rfl rfl) ?_
      obtain ⟨x7, e8, h⟩ := bdS h
      refine RunD.on rfl rfl rfl hb6 rfl (fun ô hô => by obtain rfl := hô.resolve_left (by decide); exact Ev.callC en78 (k_rat_Of e8) rfl (.cons .v .nil) rfl rfl) ?_
      obtain ⟨x9, e10, h⟩ := bdS h
      refine RunD.on rfl rfl rfl hb6 rfl (fun ô hô => by obtain rfl := hô.resolve_left (by decide); exact Ev.callC en77 (k_rat_Cmp e10) rfl (.cons .v (.cons .v .nil)) rfl rfl) ?_
      refine RunD.on rfl rfl rfl hb6 rfl (fun _ _ => Ev.int rfl rfl rfl rfl trivial) ?_
      refine RunD.w (fun _ => Ev.pickF rfl hb6 rfl rfl) ?_
      refine RunD.w (fun _ => Ev.assign rfl rfl) ?_
      refine RunD.nil ?_
      refine T.ret ?_
      cases h
      exact Fin.one rfl .v
theorem en74 : Enters Tryz.prog 74 := ⟨_, Tryz.func74, rfl, rfl⟩
theorem k_slices_IndexFunc_api_Link_api_Link__formed_partsRight_1 {p0 : (List D_api_Link)} {y : Int} (h : m_slices_IndexFunc_api_Link_api_Link__formed_partsRight_1 p0 = some y) : Spec Tryz.prog 26 [(.v (.sl Y_api_Link) p0), (.fn 74 [])] (.v (.int .i64) y) [] := by
  rw [m_slices_IndexFunc_api_Link_api_Link__formed_partsRight_1] at h
  refine enterN [(.v (.sl Y_api_Link) p0), (.fn 74 [])] 19 Tryz.func26 rfl rfl rfl ?_
  refine T.seq ?_
  refine T.region ?_
  refine Run.go (Ev.assign rfl rfl) ?_
  refine Run.nil ?_
  refine T.seq ?_
  refine T.seq ?_
  refine T.region ?_
  refine Run.go (Ev.move rfl rfl) ?_
  refine Run.go (Ev.len X rfl rfl rfl rfl) ?_
  refine Run.go (Ev.move rfl rfl) ?_
  refine Run.nil ?_
  refine T.block ?_
  refine T.loop (LoopT.ghost (Ghost.only [] [0, 1, 7, 8] rfl) (LoopT.run (fun q : Int => (⟨[(0, .v (.sl Y_api_Link) p0), (1, .fn 74 []), (7, .v (.int .i64) ((p0.length : Int) : Int)), (8, .v (.int .i64) q)], [], 19⟩ : St)) (fun v1 z1 h hz1 => ?_) h))
  rw [m_slices_IndexFunc_api_Link_api_Link__formed_partsRight_1_l1] at h
  refine T.seq ?_
  refine T.region ?_
  refine Run.go (Ev.int rfl rfl rfl rfl trivial) ?_
  refine Run.nil ?_
  refine T.seq ?_
  refine T.cond rfl (fun hb2 => ?_) (fun hb2 => ?_)
  · replace h := ifT hb2 h
    refine T.skip ?_
    refine T.seq ?_
    refine T.block ?_
    refine T.seq ?_
    refine T.region ?_
    refine Run.go (Ev.move rfl rfl) ?_
    refine Run.go (Ev.assign rfl rfl) ?_
    refine Run.nil ?_
    refine T.seq ?_
    refine T.region ?_
    refine Run.go (Ev.move rfl rfl) ?_
    refine Run.go (Ev.move rfl rfl) ?_
    refine Run.go (Ev.move rfl rfl) ?_
    obtain ⟨x3, e4, h⟩ := bdS h
    refine Run.go (Ev.e_rd X e4 rfl rfl rfl rfl) ?_
    refine Run.go (Ev.load X rfl rfl rfl) ?_
    obtain ⟨x5, e6, h⟩ := bdS h
    refine Run.go (Ev.callC en74 (k_formed_partsRight_1 e6) rfl (.cons .v .nil) rfl rfl) ?_
    refine Run.nil ?_
    refine T.cond rfl (fun hb7 => ?_) (fun hb7 => ?_)
    · replace h := ifT hb7 h
      refine T.seq ?_
      refine T.region ?_
      refine Run.go (Ev.move rfl rfl) ?_
      refine Run.go (Ev.assign rfl rfl) ?_
      refine Run.nil ?_
      refine T.ret ?_
      cases h
      cases hz1
      exact Fin.one rfl .v
    · replace h := ifF hb7 h
      refine T.skip ?_
      refine T.region ?_
      refine Run.go (Ev.int rfl rfl rfl rfl trivial) ?_
      refine Run.go (Ev.move rfl rfl) ?_
      refine Run.nil ?_
      cases h
      exact LoopT.ghost (Ghost.only [] [0, 1, 7, 8] rfl) hz1
  · replace h := ifF hb2 h
    refine T.exit ?_
    refine T.seq ?_
    refine T.region ?_
    refine Run.go (Ev.assign rfl rfl) ?_
    refine Run.nil ?_
    refine T.ret ?_
    cases h
    cases hz1
    exact Fin.one rfl .v
theorem k_slices_ContainsFunc_api_Link_api_Link__formed_partsRight_1 {p0 : (List D_api_Link)} {y : Bool} (h : m_slices_ContainsFunc_api_Link_api_Link__formed_partsRight_1 p0 = some y) : Spec Tryz.prog 72 [(.v (.sl Y_api_Link) p0), (.fn 74 [])] (.v .bool y) [] := by
  rw [m_slices_ContainsFunc_api_Link_api_Link__formed_partsRight_1] at h
  refine enterN [(.v (.sl Y_api_Link) p0), (.fn 74 [])] 9 Tryz.func72 rfl rfl rfl ?_
  refine T.seq ?_
  refine T.region ?_
  refine Run.go (Ev.assign rfl rfl) ?_
  refine Run.nil ?_
  refine T.seq ?_
  refine T.region ?_
  refine Run.go (Ev.move rfl rfl) ?_
  refine Run.go (Ev.move rfl rfl) ?_
  obtain ⟨x1, e2, h⟩ := bdS h
  refine Run.go (Ev.callC en26 (k_slices_IndexFunc_api_Link_api_Link__formed_partsRight_1 e2) rfl (.cons .v (.cons (.fn rfl) .nil)) rfl rfl) ?_
  refine Run.go (Ev.int rfl rfl rfl rfl trivial) ?_
  refine Run.go (Ev.assign rfl rfl) ?_
  refine Run.nil ?_
  refine T.ret ?_
  cases h
  exact Fin.one rfl .v
theorem k_formed_partsRight {p0 : D_api_Net} {y : Bool} (h : m_formed_partsRight p0 = some y) : Spec Tryz.prog 49 [(.v Y_api_Net p0)] (.v .bool y) [] := by
  rw [m_formed_partsRight] at h
  refine enterN [(.v Y_api_Net p0)] 7 Tryz.func49 rfl rfl rfl ?_
  refine T.seq ?_
  refine T.region ?_
  refine Run.go (Ev.box 1 rfl rfl rfl rfl) ?_
  refine Run.go (Ev.assign rfl rfl) ?_
  refine Run.nil ?_
  refine T.seq ?_
  refine T.region ?_
  refine Run.go (Ev.fieldBox X rfl rfl rfl rfl rfl) ?_
  refine Run.go (Ev.loadCell X rfl rfl rfl rfl rfl rfl) ?_
  obtain ⟨x1, e2, h⟩ := bdS h
  refine Run.go (Ev.callC en72 (k_slices_ContainsFunc_api_Link_api_Link__formed_partsRight_1 e2) rfl (.cons .v (.cons (.fn rfl) .nil)) rfl rfl) ?_
  refine Run.go (Ev.not rfl rfl) ?_
  refine Run.go (Ev.assign rfl rfl) ?_
  refine Run.nil ?_
  refine T.ret ?_
  cases h
  exact Fin.one rfl .v
theorem en49 : Enters Tryz.prog 49 := ⟨_, Tryz.func49, rfl, rfl⟩
theorem k_formed_rulesRight {p0 : D_api_Net} {y : Bool} (h : m_formed_rulesRight p0 = some y) : Spec Tryz.prog 50 [(.v Y_api_Net p0)] (.v .bool y) [] := by
  rw [m_formed_rulesRight] at h
  refine enterN [(.v Y_api_Net p0)] 45 Tryz.func50 rfl rfl rfl ?_
  refine T.seq ?_
  refine T.region ?_
  refine Run.go (Ev.box 1 rfl rfl rfl rfl) ?_
  refine Run.go (Ev.assign rfl rfl) ?_
  refine Run.nil ?_
  refine T.seq ?_
  refine T.region ?_
  refine Run.go (Ev.e_mkmap 2 Y_formed_key .bool rfl rfl) ?_
  refine Run.go (Ev.assign rfl rfl) ?_
  refine Run.nil ?_
  refine T.seq ?_
  refine T.seq ?_
  refine T.region ?_
  refine Run.go (Ev.fieldBox X rfl rfl rfl rfl rfl) ?_
  refine Run.go (Ev.loadCell X rfl rfl rfl rfl rfl rfl) ?_
  refine Run.go (Ev.len X rfl rfl rfl rfl) ?_
  refine Run.go (Ev.move rfl rfl) ?_
  refine Run.nil ?_
  refine T.block ?_
  refine T.loop (LoopT.ghost (Ghost.only [(1, 1), (2, 2)] [1, 3, 11, 12, 13] rfl) (LoopT.run (fun q : Int × (List (D_formed_key × Bool)) => (⟨[(1, .box 1 0), (3, .mp 2), (11, .v (.sl Y_api_Rule) p0.2.2.2), (12, .v (.int .i64) ((p0.2.2.2.length : Int) : Int)), (13, .v (.int .i64) q.1)], [(1, .box [.v .str p0.1, .v (.sl Y_api_Node) p0.2.1, .v (.sl Y_api_Link) p0.2.2.1, .v (.sl Y_api_Rule) p0.2.2.2]), (2, .map Y_formed_key .bool q.2)], 45⟩ : St)) (fun q z1 h hz1 => ?_) h))
  obtain ⟨v1, v2⟩ := q
  dsimp only
  rw [m_formed_rulesRight_l1] at h
  refine T.seq ?_
  refine T.region ?_
  refine Run.go (Ev.int rfl rfl rfl rfl trivial) ?_
  refine Run.nil ?_
  refine T.seq ?_
  refine T.cond rfl (fun hb3 => ?_) (fun hb3 => ?_)
  · replace h := ifT hb3 h
    refine T.skip ?_
    refine T.seq ?_
    refine T.block ?_
    refine T.seq ?_
    refine T.region ?_
    obtain ⟨x4, e5, h⟩ := bdS h
    refine Run.go (Ev.e_rd X e5 rfl rfl rfl rfl) ?_
    refine Run.go (Ev.load X rfl rfl rfl) ?_
    refine Run.go (Ev.allocN X 19 rfl rfl rfl) ?_
    refine Run.do_ (Ev.storeBox X rfl rfl rfl rfl rfl rfl rfl) ?_
    refine Run.nil ?_
    refine T.seq ?_
    refine T.region ?_
    refine Run.go (Ev.fieldBox X rfl rfl rfl rfl rfl) ?_
    refine Run.go (Ev.loadCell X rfl rfl rfl rfl rfl rfl) ?_
    refine Run.go (Ev.fieldBox X rfl rfl rfl rfl rfl) ?_
    refine Run.go (Ev.loadBox X rfl rfl rfl rfl rfl) ?_
    refine Run.go (Ev.struct X pl123 rfl rfl rfl rfl rfl rfl rfl rfl) ?_
    refine Run.go (Ev.allocN X 20 rfl rfl rfl) ?_
    refine Run.do_ (Ev.storeBox X rfl rfl rfl rfl rfl rfl rfl) ?_
    refine Run.nil ?_
    refine T.seq ?_
    refine T.seq ?_
    refine T.region ?_
    refine Run.go (Ev.loadBox X rfl rfl rfl rfl rfl) ?_
    refine Run.go (Ev.fieldBox X rfl rfl rfl rfl rfl) ?_
    refine Run.go (Ev.loadCell X rfl rfl rfl rfl rfl rfl) ?_
    obtain ⟨x6, e7, h⟩ := bdS h
    refine Run.go (Ev.callC en8 (k_formed_Node e7) rfl (.cons .v (.cons .v .nil)) rfl rfl) ?_
    refine Run.go (Ev.move rfl rfl) ?_
    refine Run.go (Ev.extract rfl rfl rfl) ?_
    refine Run.go (Ev.extract rfl rfl rfl) ?_
    refine Run.go (Ev.assign rfl rfl) ?_
    refine Run.go (Ev.assign rfl rfl) ?_
    refine Run.nil ?_
    obtain ⟨v8, hv, h⟩ := bdS h
    refine T.cut (fun _ : Unit => (⟨[(1, .box 1 0), (3, .mp 2), (6, .box 20 0), (11, .v (.sl Y_api_Rule) p0.2.2.2), (12, .v (.int .i64) ((p0.2.2.2.length : Int) : Int)), (13, .v (.int .i64) v1), (41, .v .bool v8)], [(1, .box [.v .str p0.1, .v (.sl Y_api_Node) p0.2.1, .v (.sl Y_api_Link) p0.2.2.1, .v (.sl Y_api_Rule) p0.2.2.2]), (2, .map Y_formed_key .bool v2), (20, .box [.v .str x4.1, .v (.int .u32) x4.2.1.1, .v (.int .i64) x4.2.1.2])], 45⟩ : St)) (fun _ => True) ?_ (fun _ _ => ?_)
    · replace h := hv
      clear hv
      refine T.region ?_
      refine Run.go (Ev.move rfl rfl) ?_
      refine Run.go (Ev.not rfl rfl) ?_
      refine Run.go (Ev.move rfl rfl) ?_
      rcases boolCases (!x6.2) with hb9 | hb9
      · replace h := ifT hb9 h
        refine Run.offT rfl rfl rfl rfl hb9 ?_
        refine Run.offT rfl rfl rfl rfl hb9 ?_
        refine Run.offT rfl rfl rfl rfl hb9 ?_
        refine Run.offT rfl rfl rfl rfl hb9 ?_
        refine Run.go (Ev.pickT rfl hb9 rfl rfl) ?_
        refine Run.go (Ev.move rfl rfl) ?_
        refine Run.offT rfl rfl rfl rfl rfl ?_
        refine Run.offT rfl rfl rfl rfl rfl ?_
        refine Run.offT rfl rfl rfl rfl rfl ?_
        refine Run.go (Ev.pickT rfl rfl rfl rfl) ?_
        refine Run.nil ?_
        cases h
        exact ⟨(), trivial, Ghost.only [(1, 1), (2, 2), (20, 20)] [1, 3, 6, 11, 12, 13, 41] rfl⟩
      · replace h := ifF hb9 h
        refine Run.on rfl rfl rfl hb9 (Ev.fieldBox X rfl rfl rfl rfl rfl) ?_
        refine Run.on rfl rfl rfl hb9 (Ev.loadBox X rfl rfl rfl rfl rfl) ?_
        obtain ⟨x10, e11, h⟩ := bdS h
        refine Run.on rfl rfl rfl hb9 (Ev.callC en34 (k_addr_May e11) rfl (.cons .v .nil) rfl rfl) ?_
        refine Run.on rfl rfl rfl hb9 (Ev.not rfl rfl) ?_
        refine Run.go (Ev.pickF rfl hb9 rfl rfl) ?_
        refine Run.go (Ev.move rfl rfl) ?_
        rcases boolCases (!x10) with hb12 | hb12
        · replace h := ifT hb12 h
          refine Run.offT rfl rfl rfl rfl hb12 ?_
          refine Run.offT rfl rfl rfl rfl hb12 ?_
          refine Run.offT rfl rfl rfl rfl hb12 ?_
          refine Run.go (Ev.pickT rfl hb12 rfl rfl) ?_
          refine Run.nil ?_
          cases h
          exact ⟨(), trivial, Ghost.only [(1, 1), (2, 2), (20, 20)] [1, 3, 6, 11, 12, 13, 41] rfl⟩
        · replace h := ifF hb12 h
          refine Run.on rfl rfl rfl hb12 (Ev.move rfl rfl) ?_
          refine Run.on rfl rfl rfl hb12 (Ev.loadBox X rfl rfl rfl rfl rfl) ?_
          refine Run.on rfl rfl rfl hb12 (Ev.e_mget mt121 rfl rfl rfl rfl) ?_
          refine Run.go (Ev.pickF rfl hb12 rfl rfl) ?_
          refine Run.nil ?_
          cases h
          exact ⟨(), trivial, Ghost.only [(1, 1), (2, 2), (20, 20)] [1, 3, 6, 11, 12, 13, 41] rfl⟩
    · refine T.cond rfl (fun hb13 => ?_) (fun hb13 => ?_)
      · replace h := ifT hb13 h
        refine T.seq ?_
        refine T.region ?_
        refine Run.go (Ev.assign rfl rfl) ?_
        refine Run.nil ?_
        refine T.ret ?_
        cases h
        cases hz1
        exact Fin.one rfl .v
      · replace h := ifF hb13 h
        refine T.skip ?_
        refine T.region ?_
        refine Run.go (Ev.move rfl rfl) ?_
        refine Run.go (Ev.loadBox X rfl rfl rfl rfl rfl) ?_
        obtain ⟨x14, e15, h⟩ := ltS h
        refine Run.do_ (Ev.asM (Ev.e_mput mt121 rfl rfl rfl rfl rfl) e15) ?_
        refine Run.nil ?_
        refine T.region ?_
        refine Run.go (Ev.int rfl rfl rfl rfl trivial) ?_
        refine Run.go (Ev.move rfl rfl) ?_
        refine Run.nil ?_
        cases h
        exact LoopT.ghost (Ghost.only [(1, 1), (2, 2)] [1, 3, 11, 12, 13] rfl) hz1
  · replace h := ifF hb3 h
    refine T.exit ?_
    refine T.seq ?_
    refine T.region ?_
    refine Run.go (Ev.assign rfl rfl) ?_
    refine Run.nil ?_
    refine T.ret ?_
    cases h
    cases hz1
    exact Fin.one rfl .v
theorem en50 : Enters Tryz.prog 50 := ⟨_, Tryz.func50, rfl, rfl⟩
theorem k_formed_groupsRight_1 {p0 : (List D_api_Hop)} {y : Bool} (h : m_formed_groupsRight_1 p0 = some y) : Spec Tryz.prog 80 [(.v (.sl Y_api_Hop) p0)] (.v .bool y) [] := by
  rw [m_formed_groupsRight_1] at h
  refine enterN [(.v (.sl Y_api_Hop) p0)] 6 Tryz.func80 rfl rfl rfl ?_
  refine T.seq ?_
  refine T.region ?_
  refine Run.go (Ev.assign rfl rfl) ?_
  refine Run.nil ?_
  refine T.seq ?_
  refine T.region ?_
  refine Run.go (Ev.move rfl rfl) ?_
  refine Run.go (Ev.len X rfl rfl rfl rfl) ?_
  refine Run.go (Ev.int rfl rfl rfl rfl trivial) ?_
  refine Run.go (Ev.assign rfl rfl) ?_
  refine Run.nil ?_
  refine T.ret ?_
  cases h
  exact Fin.one rfl .v
theorem en80 : Enters Tryz.prog 80 := ⟨_, Tryz.func80, rfl, rfl⟩
theorem k_slices_IndexFunc_api_Hop_api_Hop__formed_groupsRight_1 {p0 : (List (List D_api_Hop))} {y : Int} (h : m_slices_IndexFunc_api_Hop_api_Hop__formed_groupsRight_1 p0 = some y) : Spec Tryz.prog 105 [(.v (.sl (.sl Y_api_Hop)) p0), (.fn 80 [])] (.v (.int .i64) y) [] := by
  rw [m_slices_IndexFunc_api_Hop_api_Hop__formed_groupsRight_1] at h
  refine enterN [(.v (.sl (.sl Y_api_Hop)) p0), (.fn 80 [])] 19 Tryz.func105 rfl rfl rfl ?_
  refine T.seq ?_
  refine T.region ?_
  refine Run.go (Ev.assign rfl rfl) ?_
  refine Run.nil ?_
  refine T.seq ?_
  refine T.seq ?_
  refine T.region ?_
  refine Run.go (Ev.move rfl rfl) ?_
  refine Run.go (Ev.len X rfl rfl rfl rfl) ?_
  refine Run.go (Ev.move rfl rfl) ?_
  refine Run.nil ?_
  refine T.block ?_
  refine T.loop (LoopT.ghost (Ghost.only [] [0, 1, 7, 8] rfl) (LoopT.run (fun q : Int => (⟨[(0, .v (.sl (.sl Y_api_Hop)) p0), (1, .fn 80 []), (7, .v (.int .i64) ((p0.length : Int) : Int)), (8, .v (.int .i64) q)], [], 19⟩ : St)) (fun v1 z1 h hz1 => ?_) h))
  rw [m_slices_IndexFunc_api_Hop_api_Hop__formed_groupsRight_1_l1] at h
  refine T.seq ?_
  refine T.region ?_
  refine Run.go (Ev.int rfl rfl rfl rfl trivial) ?_
  refine Run.nil ?_
  refine T.seq ?_
  refine T.cond rfl (fun hb2 => ?_) (fun hb2 => ?_)
  · replace h := ifT hb2 h
    refine T.skip ?_
    refine T.seq ?_
    refine T.block ?_
    refine T.seq ?_
    refine T.region ?_
    refine Run.go (Ev.move rfl rfl) ?_
    refine Run.go (Ev.assign rfl rfl) ?_
    refine Run.nil ?_
    refine T.seq ?_
    refine T.region ?_
    refine Run.go (Ev.move rfl rfl) ?_
    refine Run.go (Ev.move rfl rfl) ?_
    refine Run.go (Ev.move rfl rfl) ?_
    obtain ⟨x3, e4, h⟩ := bdS h
    refine Run.go (Ev.e_rd X e4 rfl rfl rfl rfl) ?_
    refine Run.go (Ev.load X rfl rfl rfl) ?_
    obtain ⟨x5, e6, h⟩ := bdS h
    refine Run.go (Ev.callC en80 (k_formed_groupsRight_1 e6) rfl (.cons .v .nil) rfl rfl) ?_
    refine Run.nil ?_
    refine T.cond rfl (fun hb7 => ?_) (fun hb7 => ?_)
    · replace h := ifT hb7 h
      refine T.seq ?_
      refine T.region ?_
      refine Run.go (Ev.move rfl rfl) ?_
      refine Run.go (Ev.assign rfl rfl) ?_
      refine Run.nil ?_
      refine T.ret ?_
      cases h
      cases hz1
      exact Fin.one rfl .v
    · replace h := ifF hb7 h
      refine T.skip ?_
      refine T.region ?_
      refine Run.go (Ev.int rfl rfl rfl rfl trivial) ?_
      refine Run.go (Ev.move rfl rfl) ?_
      refine Run.nil ?_
      cases h
      exact LoopT.ghost (Ghost.only [] [0, 1, 7, 8] rfl) hz1
  · replace h := ifF hb2 h
    refine T.exit ?_
    refine T.seq ?_
    refine T.region ?_
    refine Run.go (Ev.assign rfl rfl) ?_
    refine Run.nil ?_
    refine T.ret ?_
    cases h
    cases hz1
    exact Fin.one rfl .v
theorem en105 : Enters Tryz.prog 105 := ⟨_, Tryz.func105, rfl, rfl⟩
theorem k_slices_ContainsFunc_api_Hop_api_Hop__formed_groupsRight_1 {p0 : (List (List D_api_Hop))} {y : Bool} (h : m_slices_ContainsFunc_api_Hop_api_Hop__formed_groupsRight_1 p0 = some y) : Spec Tryz.prog 79 [(.v (.sl (.sl Y_api_Hop)) p0), (.fn 80 [])] (.v .bool y) [] := by
  rw [m_slices_ContainsFunc_api_Hop_api_Hop__formed_groupsRight_1] at h
  refine enterN [(.v (.sl (.sl Y_api_Hop)) p0), (.fn 80 [])] 9 Tryz.func79 rfl rfl rfl ?_
  refine T.seq ?_
  refine T.region ?_
  refine Run.go (Ev.assign rfl rfl) ?_
  refine Run.nil ?_
  refine T.seq ?_
  refine T.region ?_
  refine Run.go (Ev.move rfl rfl) ?_
  refine Run.go (Ev.move rfl rfl) ?_
  obtain ⟨x1, e2, h⟩ := bdS h
  refine Run.go (Ev.callC en105 (k_slices_IndexFunc_api_Hop_api_Hop__formed_groupsRight_1 e2) rfl (.cons .v (.cons (.fn rfl) .nil)) rfl rfl) ?_
  refine Run.go (Ev.int rfl rfl rfl rfl trivial) ?_
  refine Run.go (Ev.assign rfl rfl) ?_
  refine Run.nil ?_
  refine T.ret ?_
  cases h
  exact Fin.one rfl .v
theorem en79 : Enters Tryz.prog 79 := ⟨_, Tryz.func79, rfl, rfl⟩
theorem k_formed_groupsRight {p0 : D_api_Net} {y : Bool} (h : m_formed_groupsRight p0 = some y) : Spec Tryz.prog 51 [(.v Y_api_Net p0)] (.v .bool y) [] := by
  rw [m_formed_groupsRight] at h
  refine enterN [(.v Y_api_Net p0)] 25 Tryz.func51 rfl rfl rfl ?_
  refine T.seq ?_
  refine T.region ?_
  refine Run.go (Ev.box 1 rfl rfl rfl rfl) ?_
  refine Run.go (Ev.assign rfl rfl) ?_
  refine Run.nil ?_
  refine T.seq ?_
  refine T.seq ?_
  refine T.region ?_
  refine Run.go (Ev.fieldBox X rfl rfl rfl rfl rfl) ?_
  refine Run.go (Ev.loadCell X rfl rfl rfl rfl rfl rfl) ?_
  refine Run.go (Ev.len X rfl rfl rfl rfl) ?_
  refine Run.go (Ev.move rfl rfl) ?_
  refine Run.nil ?_
  refine T.block ?_
  refine T.loop (LoopT.ghost (Ghost.only [] [6, 7, 8] rfl) (LoopT.run (fun q : Int => (⟨[(6, .v (.sl Y_api_Rule) p0.2.2.2), (7, .v (.int .i64) ((p0.2.2.2.length : Int) : Int)), (8, .v (.int .i64) q)], [], 25⟩ : St)) (fun v1 z1 h hz1 => ?_) h))
  rw [m_formed_groupsRight_l1] at h
  refine T.seq ?_
  refine T.region ?_
  refine Run.go (Ev.int rfl rfl rfl rfl trivial) ?_
  refine Run.nil ?_
  refine T.seq ?_
  refine T.cond rfl (fun hb2 => ?_) (fun hb2 => ?_)
  · replace h := ifT hb2 h
    refine T.skip ?_
    refine T.seq ?_
    refine T.block ?_
    refine T.seq ?_
    refine T.region ?_
    obtain ⟨x3, e4, h⟩ := bdS h
    refine Run.go (Ev.e_rd X e4 rfl rfl rfl rfl) ?_
    refine Run.go (Ev.load X rfl rfl rfl) ?_
    refine Run.go (Ev.allocN X 4 rfl rfl rfl) ?_
    refine Run.do_ (Ev.storeBox X rfl rfl rfl rfl rfl rfl rfl) ?_
    refine Run.nil ?_
    obtain ⟨v5, hv, h⟩ := bdS h
    refine T.cut (fun _ : Unit => (⟨[(6, .v (.sl Y_api_Rule) p0.2.2.2), (7, .v (.int .i64) ((p0.2.2.2.length : Int) : Int)), (8, .v (.int .i64) v1), (23, .v .bool v5)], [], 25⟩ : St)) (fun _ => True) ?_ (fun _ _ => ?_)
    · replace h := hv
      clear hv
      refine T.region ?_
      refine Run.go (Ev.fieldBox X rfl rfl rfl rfl rfl) ?_
      refine Run.go (Ev.loadCell X rfl rfl rfl rfl rfl rfl) ?_
      refine Run.go (Ev.fieldBox X rfl rfl rfl rfl rfl) ?_
      refine Run.go (Ev.loadCell X rfl rfl rfl rfl rfl rfl) ?_
      refine Run.go (Ev.len X rfl rfl rfl rfl) ?_
      refine Run.go (Ev.int rfl rfl rfl rfl trivial) ?_
      refine Run.go (Ev.bools X rfl rfl rfl rfl rfl) ?_
      refine Run.go (Ev.move rfl rfl) ?_
      rcases boolCases (!(x3.2.2.1 == (decide ((x3.2.2.2.length : Int) = 0)))) with hb6 | hb6
      · replace h := ifT hb6 h
        refine Run.offT rfl rfl rfl rfl hb6 ?_
        refine Run.offT rfl rfl rfl rfl hb6 ?_
        refine Run.offT rfl rfl rfl rfl hb6 ?_
        refine Run.go (Ev.pickT rfl hb6 rfl rfl) ?_
        refine Run.nil ?_
        cases h
        exact ⟨(), trivial, Ghost.only [] [6, 7, 8, 23] rfl⟩
      · replace h := ifF hb6 h
        refine Run.on rfl rfl rfl hb6 (Ev.fieldBox X rfl rfl rfl rfl rfl) ?_
        refine Run.on rfl rfl rfl hb6 (Ev.loadCell X rfl rfl rfl rfl rfl rfl) ?_
        obtain ⟨x7, e8, h⟩ := bdS h
        refine Run.on rfl rfl rfl hb6 (Ev.callC en79 (k_slices_ContainsFunc_api_Hop_api_Hop__formed_groupsRight_1 e8) rfl (.cons .v (.cons (.fn rfl) .nil)) rfl rfl) ?_
        refine Run.go (Ev.pickF rfl hb6 rfl rfl) ?_
        refine Run.nil ?_
        cases h
        exact ⟨(), trivial, Ghost.only [] [6, 7, 8, 23] rfl⟩
    · refine T.cond rfl (fun hb9 => ?_) (fun hb9 => ?_)
      · replace h := ifT hb9 h
        refine T.seq ?_
        refine T.region ?_
        refine Run.go (Ev.assign rfl rfl) ?_
        refine Run.nil ?_
        refine T.ret ?_
        cases h
        cases hz1
        exact Fin.one rfl .v
      · replace h := ifF hb9 h
        refine T.skip ?_
        refine T.region ?_
        refine Run.go (Ev.int rfl rfl rfl rfl trivial) ?_
        refine Run.go (Ev.move rfl rfl) ?_
        refine Run.nil ?_
        cases h
        exact LoopT.ghost (Ghost.only [] [6, 7, 8] rfl) hz1
  · replace h := ifF hb2 h
    refine T.exit ?_
    refine T.seq ?_
    refine T.region ?_
    refine Run.go (Ev.assign rfl rfl) ?_
    refine Run.nil ?_
    refine T.ret ?_
    cases h
    cases hz1
    exact Fin.one rfl .v
theorem en51 : Enters Tryz.prog 51 := ⟨_, Tryz.func51, rfl, rfl⟩
theorem k_formed_Link_1 {p0 : D_api_Link} {p1 : ByteArray} {y : Bool} (h : m_formed_Link_1 p0 p1 = some y) : Spec Tryz.prog 27 [(.v Y_api_Link p0), (.ptr .str p1)] (.v .bool y) [] := by
  rw [m_formed_Link_1] at h
  refine enterN [(.v Y_api_Link p0), (.ptr .str p1)] 8 Tryz.func27 rfl rfl rfl ?_
  refine T.seq ?_
  refine T.region ?_
  refine Run.go (Ev.box 1 rfl rfl rfl rfl) ?_
  refine Run.go (Ev.assign rfl rfl) ?_
  refine Run.nil ?_
  refine T.seq ?_
  refine T.region ?_
  refine Run.go (Ev.fieldBox X rfl rfl rfl rfl rfl) ?_
  refine Run.go (Ev.loadCell X rfl rfl rfl rfl rfl rfl) ?_
  refine Run.go (Ev.load X rfl rfl rfl) ?_
  refine Run.go (Ev.strs rfl rfl rfl rfl trivial) ?_
  refine Run.go (Ev.assign rfl rfl) ?_
  refine Run.nil ?_
  refine T.ret ?_
  cases h
  exact Fin.one rfl .v
theorem en27 : Enters Tryz.prog 27 := ⟨_, Tryz.func27, rfl, rfl⟩
theorem k_slices_IndexFunc_api_Link_api_Link__formed_Link_1 {p0 : (List D_api_Link)} {p1_0 : ByteArray} {y : Int} (h : m_slices_IndexFunc_api_Link_api_Link__formed_Link_1 p0 p1_0 = some y) : Spec Tryz.prog 26 [(.v (.sl Y_api_Link) p0), (.fn 27 [(.ptr .str p1_0)])] (.v (.int .i64) y) [] := by
  rw [m_slices_IndexFunc_api_Link_api_Link__formed_Link_1] at h
  refine enterN [(.v (.sl Y_api_Link) p0), (.fn 27 [(.ptr .str p1_0)])] 19 Tryz.func26 rfl rfl rfl ?_
  refine T.seq ?_
  refine T.region ?_
  refine Run.go (Ev.assign rfl rfl) ?_
  refine Run.nil ?_
  refine T.seq ?_
  refine T.seq ?_
  refine T.region ?_
  refine Run.go (Ev.move rfl rfl) ?_
  refine Run.go (Ev.len X rfl rfl rfl rfl) ?_
  refine Run.go (Ev.move rfl rfl) ?_
  refine Run.nil ?_
  refine T.block ?_
  refine T.loop (LoopT.ghost (Ghost.only [] [0, 1, 7, 8] rfl) (LoopT.run (fun q : Int => (⟨[(0, .v (.sl Y_api_Link) p0), (1, .fn 27 [.ptr .str p1_0]), (7, .v (.int .i64) ((p0.length : Int) : Int)), (8, .v (.int .i64) q)], [], 19⟩ : St)) (fun v1 z1 h hz1 => ?_) h))
  rw [m_slices_IndexFunc_api_Link_api_Link__formed_Link_1_l1] at h
  refine T.seq ?_
  refine T.region ?_
  refine Run.go (Ev.int rfl rfl rfl rfl trivial) ?_
  refine Run.nil ?_
  refine T.seq ?_
  refine T.cond rfl (fun hb2 => ?_) (fun hb2 => ?_)
  · replace h := ifT hb2 h
    refine T.skip ?_
    refine T.seq ?_
    refine T.block ?_
    refine T.seq ?_
    refine T.region ?_
    refine Run.go (Ev.move rfl rfl) ?_
    refine Run.go (Ev.assign rfl rfl) ?_
    refine Run.nil ?_
    refine T.seq ?_
    refine T.region ?_
    refine Run.go (Ev.move rfl rfl) ?_
    refine Run.go (Ev.move rfl rfl) ?_
    refine Run.go (Ev.move rfl rfl) ?_
    obtain ⟨x3, e4, h⟩ := bdS h
    refine Run.go (Ev.e_rd X e4 rfl rfl rfl rfl) ?_
    refine Run.go (Ev.load X rfl rfl rfl) ?_
    obtain ⟨x5, e6, h⟩ := bdS h
    refine Run.go (Ev.callC en27 (k_formed_Link_1 e6) rfl (.cons .v (.cons .ptr .nil)) rfl rfl) ?_
    refine Run.nil ?_
    refine T.cond rfl (fun hb7 => ?_) (fun hb7 => ?_)
    · replace h := ifT hb7 h
      refine T.seq ?_
      refine T.region ?_
      refine Run.go (Ev.move rfl rfl) ?_
      refine Run.go (Ev.assign rfl rfl) ?_
      refine Run.nil ?_
      refine T.ret ?_
      cases h
      cases hz1
      exact Fin.one rfl .v
    · replace h := ifF hb7 h
      refine T.skip ?_
      refine T.region ?_
      refine Run.go (Ev.int rfl rfl rfl rfl trivial) ?_
      refine Run.go (Ev.move rfl rfl) ?_
      refine Run.nil ?_
      cases h
      exact LoopT.ghost (Ghost.only [] [0, 1, 7, 8] rfl) hz1
  · replace h := ifF hb2 h
    refine T.exit ?_
    refine T.seq ?_
    refine T.region ?_
    refine Run.go (Ev.assign rfl rfl) ?_
    refine Run.nil ?_
    refine T.ret ?_
    cases h
    cases hz1
    exact Fin.one rfl .v
theorem k_formed_Link {p0 : D_api_Net} {p1 : ByteArray} {y : Int × Bool} (h : m_formed_Link p0 p1 = some y) : Spec Tryz.prog 9 [(.v Y_api_Net p0), (.v .str p1)] (.tup [.v (.int .i64) y.1, .v .bool y.2]) [] := by
  rw [m_formed_Link] at h
  refine enterN [(.v Y_api_Net p0), (.v .str p1)] 15 Tryz.func9 rfl rfl rfl ?_
  refine T.seq ?_
  refine T.region ?_
  refine Run.go (Ev.box 1 rfl rfl rfl rfl) ?_
  refine Run.go (Ev.box 2 rfl rfl rfl rfl) ?_
  refine Run.go (Ev.assign rfl rfl) ?_
  refine Run.go (Ev.assign rfl rfl) ?_
  refine Run.nil ?_
  refine T.seq ?_
  refine T.region ?_
  refine Run.go (Ev.fieldBox X rfl rfl rfl rfl rfl) ?_
  refine Run.go (Ev.loadCell X rfl rfl rfl rfl rfl rfl) ?_
  refine Run.go (Ev.e_fn rfl rfl) ?_
  refine Run.ghost (Ghost.freeze (id := 2) (τ := .str) (y := (p1 : ByteArray)) rfl rfl) ?_
  obtain ⟨x1, e2, h⟩ := bdS h
  refine Run.go (Ev.callC en26 (k_slices_IndexFunc_api_Link_api_Link__formed_Link_1 e2) rfl (.cons .v (.cons (.fn rfl) .nil)) rfl rfl) ?_
  refine Run.go (Ev.assign rfl rfl) ?_
  refine Run.nil ?_
  refine T.seq ?_
  refine T.region ?_
  refine Run.go (Ev.move rfl rfl) ?_
  refine Run.go (Ev.max rfl rfl rfl) ?_
  refine Run.go (Ev.move rfl rfl) ?_
  refine Run.go (Ev.int rfl rfl rfl rfl trivial) ?_
  refine Run.go (Ev.assign rfl rfl) ?_
  refine Run.go (Ev.assign rfl rfl) ?_
  refine Run.nil ?_
  refine T.ret ?_
  cases h
  exact Fin.many X rfl (.cons (.tmp .v) (.cons (.tmp .v) .nil)) rfl
theorem en9 : Enters Tryz.prog 9 := ⟨_, Tryz.func9, rfl, rfl⟩
end Go.Proofs.YtbmogniipgmkiaaGreat.AE
/- The code comes to the printed functions (printed by a program of ours). -/
namespace Go.Proofs.YtbmogniipgmkiaaGreat.AE
open Go Go.RowKit Go.Proofs.YtbmogniipgmkiaaGreat.AP
set_option linter.unusedVariables false
set_option maxRecDepth 20000
theorem k_formed_hopsRight {p0 : D_api_Net} {y : Bool} (h : m_formed_hopsRight p0 = some y) : Spec Tryz.prog 52 [(.v Y_api_Net p0)] (.v .bool y) [] := by
  rw [m_formed_hopsRight] at h
  refine enterN [(.v Y_api_Net p0)] 73 Tryz.func52 rfl rfl rfl ?_
  refine T.seq ?_
  refine T.region ?_
  refine Run.go (Ev.box 1 rfl rfl rfl rfl) ?_
  refine Run.go (Ev.assign rfl rfl) ?_
  refine Run.nil ?_
  refine T.seq ?_
  refine T.seq ?_
  refine T.region ?_
  refine Run.go (Ev.fieldBox X rfl rfl rfl rfl rfl) ?_
  refine Run.go (Ev.loadCell X rfl rfl rfl rfl rfl rfl) ?_
  refine Run.go (Ev.len X rfl rfl rfl rfl) ?_
  refine Run.go (Ev.move rfl rfl) ?_
  refine Run.nil ?_
  refine T.block ?_
  refine T.loop (LoopT.ghost (Ghost.only [(1, 1)] [1, 15, 16, 17] rfl) (LoopT.run (fun q : Int => (⟨[(1, .box 1 0), (15, .v (.sl Y_api_Rule) p0.2.2.2), (16, .v (.int .i64) ((p0.2.2.2.length : Int) : Int)), (17, .v (.int .i64) q)], [(1, .box [.v .str p0.1, .v (.sl Y_api_Node) p0.2.1, .v (.sl Y_api_Link) p0.2.2.1, .v (.sl Y_api_Rule) p0.2.2.2])], 73⟩ : St)) (fun v1 z1 h hz1 => ?_) h))
  rw [m_formed_hopsRight_l1] at h
  refine T.seq ?_
  refine T.region ?_
  refine Run.go (Ev.int rfl rfl rfl rfl trivial) ?_
  refine Run.nil ?_
  refine T.seq ?_
  refine T.cond rfl (fun hb2 => ?_) (fun hb2 => ?_)
  · replace h := ifT hb2 h
    refine T.skip ?_
    refine T.seq ?_
    refine T.block ?_
    refine T.seq ?_
    refine T.region ?_
    obtain ⟨x3, e4, h⟩ := bdS h
    refine Run.go (Ev.e_rd X e4 rfl rfl rfl rfl) ?_
    refine Run.go (Ev.load X rfl rfl rfl) ?_
    refine Run.go (Ev.allocN X 199 rfl rfl rfl) ?_
    refine Run.do_ (Ev.storeBox X rfl rfl rfl rfl rfl rfl rfl) ?_
    refine Run.nil ?_
    refine T.seq ?_
    refine T.region ?_
    refine Run.go (Ev.fieldBox X rfl rfl rfl rfl rfl) ?_
    refine Run.go (Ev.loadCell X rfl rfl rfl rfl rfl rfl) ?_
    refine Run.go (Ev.len X rfl rfl rfl rfl) ?_
    refine Run.go (Ev.move rfl rfl) ?_
    refine Run.nil ?_
    refine T.block ?_
    refine T.loop (LoopT.ghost (Ghost.only [(1, 1), (199, 199)] [1, 4, 15, 16, 17, 22, 23, 24] rfl) (LoopT.run (fun q : Int => (⟨[(1, .box 1 0), (4, .box 199 0), (15, .v (.sl Y_api_Rule) p0.2.2.2), (16, .v (.int .i64) ((p0.2.2.2.length : Int) : Int)), (17, .v (.int .i64) v1), (22, .v (.sl (.sl Y_api_Hop)) x3.2.2.2), (23, .v (.int .i64) ((x3.2.2.2.length : Int) : Int)), (24, .v (.int .i64) q)], [(1, .box [.v .str p0.1, .v (.sl Y_api_Node) p0.2.1, .v (.sl Y_api_Link) p0.2.2.1, .v (.sl Y_api_Rule) p0.2.2.2]), (199, .box [.v .str x3.1, .v (.int .u32) x3.2.1.1, .v (.int .i64) x3.2.1.2, .v .bool x3.2.2.1, .v (.sl (.sl Y_api_Hop)) x3.2.2.2])], 73⟩ : St)) (fun v5 z2 h hz2 => ?_) h))
    rw [m_formed_hopsRight_l2] at h
    refine T.seq ?_
    refine T.region ?_
    refine Run.go (Ev.int rfl rfl rfl rfl trivial) ?_
    refine Run.nil ?_
    refine T.seq ?_
    refine T.cond rfl (fun hb6 => ?_) (fun hb6 => ?_)
    · replace h := ifT hb6 h
      refine T.skip ?_
      refine T.seq ?_
      refine T.block ?_
      refine T.seq ?_
      refine T.region ?_
      obtain ⟨x7, e8, h⟩ := bdS h
      refine Run.go (Ev.e_rd X e8 rfl rfl rfl rfl) ?_
      refine Run.go (Ev.load X rfl rfl rfl) ?_
      refine Run.go (Ev.assign rfl rfl) ?_
      refine Run.nil ?_
      refine T.seq ?_
      refine T.region ?_
      refine Run.go (Ev.assign rfl rfl) ?_
      refine Run.nil ?_
      refine T.seq ?_
      refine T.seq ?_
      refine T.region ?_
      refine Run.go (Ev.move rfl rfl) ?_
      refine Run.go (Ev.len X rfl rfl rfl rfl) ?_
      refine Run.go (Ev.move rfl rfl) ?_
      refine Run.nil ?_
      refine T.block ?_
      refine T.loop (LoopT.ghost (Ghost.trans (Ghost.empty 7 288 9 .str rfl rfl) (Ghost.only [(1, 1), (199, 199), (288, 273)] [1, 4, 7, 15, 16, 17, 22, 23, 24, 28, 29, 30] rfl)) (LoopT.run (fun q : Int × (List ByteArray) => (⟨[(1, .box 1 0), (4, .box 199 0), (7, .own 273), (15, .v (.sl Y_api_Rule) p0.2.2.2), (16, .v (.int .i64) ((p0.2.2.2.length : Int) : Int)), (17, .v (.int .i64) v1), (22, .v (.sl (.sl Y_api_Hop)) x3.2.2.2), (23, .v (.int .i64) ((x3.2.2.2.length : Int) : Int)), (24, .v (.int .i64) v5), (28, .v (.sl Y_api_Hop) x7), (29, .v (.int .i64) ((x7.length : Int) : Int)), (30, .v (.int .i64) q.1)], [(1, .box [.v .str p0.1, .v (.sl Y_api_Node) p0.2.1, .v (.sl Y_api_Link) p0.2.2.1, .v (.sl Y_api_Rule) p0.2.2.2]), (199, .box [.v .str x3.1, .v (.int .u32) x3.2.1.1, .v (.int .i64) x3.2.1.2, .v .bool x3.2.2.1, .v (.sl (.sl Y_api_Hop)) x3.2.2.2]), (273, .arr 9 .str q.2)], 73⟩ : St)) (fun q z3 h hz3 => ?_) h))
      obtain ⟨v9, v10⟩ := q
      dsimp only
      rw [m_formed_hopsRight_l3] at h
      refine T.seq ?_
      refine T.region ?_
      refine Run.go (Ev.int rfl rfl rfl rfl trivial) ?_
      refine Run.nil ?_
      refine T.seq ?_
      refine T.cond rfl (fun hb11 => ?_) (fun hb11 => ?_)
      · replace h := ifT hb11 h
        refine T.skip ?_
        refine T.seq ?_
        refine T.block ?_
        refine T.seq ?_
        refine T.region ?_
        obtain ⟨x12, e13, h⟩ := bdS h
        refine Run.go (Ev.e_rd X e13 rfl rfl rfl rfl) ?_
        refine Run.go (Ev.load X rfl rfl rfl) ?_
        refine Run.go (Ev.allocN X 289 rfl rfl rfl) ?_
        refine Run.do_ (Ev.storeBox X rfl rfl rfl rfl rfl rfl rfl) ?_
        refine Run.nil ?_
        refine T.seq ?_
        refine T.region ?_
        refine Run.go (Ev.loadBox X rfl rfl rfl rfl rfl) ?_
        refine Run.go (Ev.fieldBox X rfl rfl rfl rfl rfl) ?_
        refine Run.go (Ev.loadCell X rfl rfl rfl rfl rfl rfl) ?_
        obtain ⟨x14, e15, h⟩ := bdS h
        refine Run.go (Ev.callC en9 (k_formed_Link e15) rfl (.cons .v (.cons .v .nil)) rfl rfl) ?_
        refine Run.go (Ev.move rfl rfl) ?_
        refine Run.go (Ev.extract rfl rfl rfl) ?_
        refine Run.go (Ev.extract rfl rfl rfl) ?_
        refine Run.go (Ev.assign rfl rfl) ?_
        refine Run.go (Ev.assign rfl rfl) ?_
        refine Run.nil ?_
        refine T.seq ?_
        obtain ⟨v16, hv, h⟩ := bdS h
        refine T.cut (fun _ : Unit => (⟨[(1, .box 1 0), (4, .box 199 0), (7, .own 273), (9, .box 289 0), (15, .v (.sl Y_api_Rule) p0.2.2.2), (16, .v (.int .i64) ((p0.2.2.2.length : Int) : Int)), (17, .v (.int .i64) v1), (22, .v (.sl (.sl Y_api_Hop)) x3.2.2.2), (23, .v (.int .i64) ((x3.2.2.2.length : Int) : Int)), (24, .v (.int .i64) v5), (28, .v (.sl Y_api_Hop) x7), (29, .v (.int .i64) ((x7.length : Int) : Int)), (30, .v (.int .i64) v9), (58, .v .bool v16)], [(1, .box [.v .str p0.1, .v (.sl Y_api_Node) p0.2.1, .v (.sl Y_api_Link) p0.2.2.1, .v (.sl Y_api_Rule) p0.2.2.2]), (199, .box [.v .str x3.1, .v (.int .u32) x3.2.1.1, .v (.int .i64) x3.2.1.2, .v .bool x3.2.2.1, .v (.sl (.sl Y_api_Hop)) x3.2.2.2]), (273, .arr 9 .str v10), (289, .box [.v .str x12.1, .v (.int .i64) x12.2])], 73⟩ : St)) (fun _ => True) ?_ (fun _ _ => ?_)
        · replace h := hv
          clear hv
          refine T.drawM [] [0, 1, 3, 7, 15, 7, 63, 127, 255, 7, 519, 2047, 4095, 8191, 16383, 32767, 65535, 131071] (by kernel_rfl) (by kernel_rfl) ?_
          refine RunD.w (fun _ => Ev.move rfl rfl) ?_
          refine RunD.w (fun _ => Ev.not rfl rfl) ?_
          refine RunD.w (fun _ => Ev.move rfl rfl) ?_
          rcases boolCases (!x14.2) with hb17 | hb17
          · replace h := ifT hb17 h
            refine RunD.offT rfl rfl rfl rfl hb17 ?_
            refine RunD.offT rfl rfl rfl rfl hb17 ?_
            refine RunD.offT rfl rfl rfl rfl hb17 ?_
            refine RunD.offT rfl rfl rfl rfl hb17 ?_
            refine RunD.offT rfl rfl rfl rfl hb17 ?_
            refine RunD.offT rfl rfl rfl rfl hb17 ?_
            refine RunD.offT rfl rfl rfl rfl hb17 ?_
            refine RunD.offT rfl rfl rfl rfl hb17 ?_
            refine RunD.offT rfl rfl rfl rfl hb17 ?_
            refine RunD.w (fun _ => Ev.pickT rfl hb17 rfl rfl) ?_
            refine RunD.w (fun _ => Ev.move rfl rfl) ?_
            refine RunD.offT rfl rfl rfl rfl rfl ?_
            refine RunD.offT rfl rfl rfl rfl rfl ?_
            refine RunD.offT rfl rfl rfl rfl rfl ?_
            refine RunD.w (fun _ => Ev.pickT rfl rfl rfl rfl) ?_
            refine RunD.nil ?_
            cases h
            exact ⟨(), trivial, Ghost.only [(1, 1), (199, 199), (273, 273), (289, 289)] [1, 4, 7, 9, 15, 16, 17, 22, 23, 24, 28, 29, 30, 58] rfl⟩
          · replace h := ifF hb17 h
            refine RunD.on rfl rfl rfl hb17 rfl (fun ô hô => by obtain rfl := hô.resolve_left (by decide); exact Ev.fieldBox X rfl rfl rfl rfl rfl) ?_
            refine RunD.on rfl rfl rfl hb17 rfl (fun ô hô => by obtain rfl := hô.resolve_left (by decide); exact Ev.loadCell X rfl rfl rfl rfl rfl rfl) ?_
            refine RunD.on rfl rfl rfl hb17 rfl (fun _ _ => Ev.move rfl rfl) ?_
            obtain ⟨x18, e19, h⟩ := bdS h
            refine RunD.on rfl rfl rfl hb17 rfl (fun ô hô => by obtain rfl := hô.resolve_left (by decide); exact Ev.e_rd X e19 rfl rfl rfl rfl) ?_
            refine RunD.on rfl rfl rfl hb17 rfl (fun ô hô => by obtain rfl := hô.resolve_left (by decide); exact Ev.fieldAddr X rfl rfl rfl rfl) ?_
            refine RunD.on rfl rfl rfl hb17 rfl (fun ô hô => by obtain rfl := hô.resolve_left (by decide); exact Ev.load X rfl rfl rfl) ?_
            refine RunD.on rfl rfl rfl hb17 rfl (fun ô hô => by obtain rfl := hô.resolve_left (by decide); exact Ev.fieldBox X rfl rfl rfl rfl rfl) ?_
            refine RunD.on rfl rfl rfl hb17 rfl (fun ô hô => by obtain rfl := hô.resolve_left (by decide); exact Ev.loadCell X rfl rfl rfl rfl rfl rfl) ?_
            refine RunD.on rfl rfl rfl hb17 rfl (fun _ _ => Ev.strs rfl rfl rfl rfl trivial) ?_
            refine RunD.w (fun _ => Ev.pickF rfl hb17 rfl rfl) ?_
            refine RunD.w (fun _ => Ev.move rfl rfl) ?_
            rcases boolCases (!sq x18.2.1 x3.1) with hb20 | hb20
            · replace h := ifT hb20 h
              refine RunD.offT rfl rfl rfl rfl hb20 ?_
              refine RunD.offT rfl rfl rfl rfl hb20 ?_
              refine RunD.offT rfl rfl rfl rfl hb20 ?_
              refine RunD.w (fun _ => Ev.pickT rfl hb20 rfl rfl) ?_
              refine RunD.nil ?_
              cases h
              exact ⟨(), trivial, Ghost.only [(1, 1), (199, 199), (273, 273), (289, 289)] [1, 4, 7, 9, 15, 16, 17, 22, 23, 24, 28, 29, 30, 58] rfl⟩
            · replace h := ifF hb20 h
              refine RunD.on rfl rfl rfl hb20 rfl (fun ô hô => by obtain rfl := hô.resolve_left (by decide); exact Ev.fieldBox X rfl rfl rfl rfl rfl) ?_
              refine RunD.on rfl rfl rfl hb20 rfl (fun ô hô => by obtain rfl := hô.resolve_left (by decide); exact Ev.loadCell X rfl rfl rfl rfl rfl rfl) ?_
              refine RunD.on rfl rfl rfl hb20 rfl (fun _ _ => Ev.int rfl rfl rfl rfl trivial) ?_
              refine RunD.w (fun _ => Ev.pickF rfl hb20 rfl rfl) ?_
              refine RunD.nil ?_
              cases h
              exact ⟨(), trivial, Ghost.only [(1, 1), (199, 199), (273, 273), (289, 289)] [1, 4, 7, 9, 15, 16, 17, 22, 23, 24, 28, 29, 30, 58] rfl⟩
        · refine T.cond rfl (fun hb21 => ?_) (fun hb21 => ?_)
          · replace h := ifT hb21 h
            refine T.seq ?_
            refine T.region ?_
            refine Run.go (Ev.assign rfl rfl) ?_
            refine Run.nil ?_
            refine T.ret ?_
            cases h
            cases hz3
            cases hz2
            cases hz1
            exact Fin.one rfl .v
          · replace h := ifF hb21 h
            refine T.skip ?_
            refine T.region ?_
            refine Run.go (Ev.move rfl rfl) ?_
            refine Run.go (Ev.fieldBox X rfl rfl rfl rfl rfl) ?_
            refine Run.go (Ev.loadCell X rfl rfl rfl rfl rfl rfl) ?_
            refine Run.go (Ev.build X 294 rfl rfl rfl rfl rfl rfl rfl rfl) ?_
            obtain ⟨x22, e23, h⟩ := bdS h
            refine Run.go (Ev.e_ap X 295 e23 rfl rfl rfl (.own rfl) rfl rfl rfl rfl rfl) ?_
            refine Run.go (Ev.assign rfl rfl) ?_
            refine Run.nil ?_
            refine T.region ?_
            refine Run.go (Ev.int rfl rfl rfl rfl trivial) ?_
            refine Run.go (Ev.move rfl rfl) ?_
            refine Run.nil ?_
            cases h
            exact LoopT.ghost (Ghost.only [(1, 1), (199, 199), (295, 273)] [1, 4, 7, 15, 16, 17, 22, 23, 24, 28, 29, 30] rfl) hz3
      · replace h := ifF hb11 h
        refine T.exit ?_
        refine T.seq ?_
        refine T.region ?_
        refine Run.go (Ev.move rfl rfl) ?_
        obtain ⟨x24, e25, h⟩ := bdS h
        refine Run.go (Ev.lend rfl (.cons (.own rfl) .nil) en44 (k_name_Twice e25) rfl rfl) ?_
        refine Run.go (Ev.move rfl rfl) ?_
        refine Run.go (Ev.extract rfl rfl rfl) ?_
        refine Run.go (Ev.extract rfl rfl rfl) ?_
        refine Run.go (Ev.assign rfl rfl) ?_
        refine Run.go (Ev.assign rfl rfl) ?_
        refine Run.nil ?_
        refine T.seq ?_
        refine T.region ?_
        refine Run.go (Ev.move rfl rfl) ?_
        refine Run.nil ?_
        refine T.cond rfl (fun hb26 => ?_) (fun hb26 => ?_)
        · replace h := ifT hb26 h
          refine T.seq ?_
          refine T.region ?_
          refine Run.go (Ev.assign rfl rfl) ?_
          refine Run.nil ?_
          refine T.ret ?_
          cases h
          cases hz3
          cases hz2
          cases hz1
          exact Fin.one rfl .v
        · replace h := ifF hb26 h
          refine T.skip ?_
          refine T.region ?_
          refine Run.go (Ev.int rfl rfl rfl rfl trivial) ?_
          refine Run.go (Ev.move rfl rfl) ?_
          refine Run.nil ?_
          cases h
          cases hz3
          exact LoopT.ghost (Ghost.only [(1, 1), (199, 199)] [1, 4, 15, 16, 17, 22, 23, 24] rfl) hz2
    · replace h := ifF hb6 h
      refine T.exit ?_
      refine T.region ?_
      refine Run.go (Ev.int rfl rfl rfl rfl trivial) ?_
      refine Run.go (Ev.move rfl rfl) ?_
      refine Run.nil ?_
      cases h
      cases hz2
      exact LoopT.ghost (Ghost.only [(1, 1)] [1, 15, 16, 17] rfl) hz1
  · replace h := ifF hb2 h
    refine T.exit ?_
    refine T.seq ?_
    refine T.region ?_
    refine Run.go (Ev.assign rfl rfl) ?_
    refine Run.nil ?_
    refine T.ret ?_
    cases h
    cases hz1
    exact Fin.one rfl .v
theorem en52 : Enters Tryz.prog 52 := ⟨_, Tryz.func52, rfl, rfl⟩
theorem k_formed_net {p0 : D_api_Net} {y : Int} (h : m_formed_net p0 = some y) : Spec Tryz.prog 29 [(.v Y_api_Net p0)] (.v (.int .i64) y) [] := by
  rw [m_formed_net] at h
  refine enterN [(.v Y_api_Net p0)] 35 Tryz.func29 rfl rfl rfl ?_
  refine T.seq ?_
  refine T.region ?_
  refine Run.go (Ev.box 1 rfl rfl rfl rfl) ?_
  refine Run.go (Ev.assign rfl rfl) ?_
  refine Run.nil ?_
  refine T.seq ?_
  refine T.block ?_
  refine T.seq ?_
  refine T.region ?_
  refine Run.go (Ev.loadBox X rfl rfl rfl rfl rfl) ?_
  obtain ⟨x1, e2, h⟩ := bdS h
  refine Run.go (Ev.callC en45 (k_formed_nodesRight e2) rfl (.cons .v .nil) rfl rfl) ?_
  refine Run.go (Ev.not rfl rfl) ?_
  refine Run.go (Ev.assign rfl rfl) ?_
  refine Run.nil ?_
  refine T.cond rfl (fun hb3 => ?_) (fun hb3 => ?_)
  · replace h := ifT hb3 h
    refine T.seq ?_
    refine T.region ?_
    refine Run.go (Ev.assign rfl rfl) ?_
    refine Run.nil ?_
    refine T.ret ?_
    cases h
    exact Fin.one rfl .v
  · replace h := ifF hb3 h
    refine T.seq ?_
    refine T.region ?_
    refine Run.go (Ev.loadBox X rfl rfl rfl rfl rfl) ?_
    obtain ⟨x4, e5, h⟩ := bdS h
    refine Run.go (Ev.callC en46 (k_formed_homesRight e5) rfl (.cons .v .nil) rfl rfl) ?_
    refine Run.go (Ev.not rfl rfl) ?_
    refine Run.go (Ev.assign rfl rfl) ?_
    refine Run.nil ?_
    refine T.cond rfl (fun hb6 => ?_) (fun hb6 => ?_)
    · replace h := ifT hb6 h
      refine T.seq ?_
      refine T.region ?_
      refine Run.go (Ev.assign rfl rfl) ?_
      refine Run.nil ?_
      refine T.ret ?_
      cases h
      exact Fin.one rfl .v
    · replace h := ifF hb6 h
      refine T.seq ?_
      refine T.region ?_
      refine Run.go (Ev.loadBox X rfl rfl rfl rfl rfl) ?_
      obtain ⟨x7, e8, h⟩ := bdS h
      refine Run.go (Ev.callC en47 (k_formed_linksRight e8) rfl (.cons .v .nil) rfl rfl) ?_
      refine Run.go (Ev.not rfl rfl) ?_
      refine Run.go (Ev.assign rfl rfl) ?_
      refine Run.nil ?_
      refine T.cond rfl (fun hb9 => ?_) (fun hb9 => ?_)
      · replace h := ifT hb9 h
        refine T.seq ?_
        refine T.region ?_
        refine Run.go (Ev.assign rfl rfl) ?_
        refine Run.nil ?_
        refine T.ret ?_
        cases h
        exact Fin.one rfl .v
      · replace h := ifF hb9 h
        refine T.seq ?_
        refine T.region ?_
        refine Run.go (Ev.loadBox X rfl rfl rfl rfl rfl) ?_
        obtain ⟨x10, e11, h⟩ := bdS h
        refine Run.go (Ev.callC en48 (k_formed_endsRight e11) rfl (.cons .v .nil) rfl rfl) ?_
        refine Run.go (Ev.not rfl rfl) ?_
        refine Run.go (Ev.assign rfl rfl) ?_
        refine Run.nil ?_
        refine T.cond rfl (fun hb12 => ?_) (fun hb12 => ?_)
        · replace h := ifT hb12 h
          refine T.seq ?_
          refine T.region ?_
          refine Run.go (Ev.assign rfl rfl) ?_
          refine Run.nil ?_
          refine T.ret ?_
          cases h
          exact Fin.one rfl .v
        · replace h := ifF hb12 h
          refine T.seq ?_
          refine T.region ?_
          refine Run.go (Ev.loadBox X rfl rfl rfl rfl rfl) ?_
          obtain ⟨x13, e14, h⟩ := bdS h
          refine Run.go (Ev.callC en49 (k_formed_partsRight e14) rfl (.cons .v .nil) rfl rfl) ?_
          refine Run.go (Ev.not rfl rfl) ?_
          refine Run.go (Ev.assign rfl rfl) ?_
          refine Run.nil ?_
          refine T.cond rfl (fun hb15 => ?_) (fun hb15 => ?_)
          · replace h := ifT hb15 h
            refine T.seq ?_
            refine T.region ?_
            refine Run.go (Ev.assign rfl rfl) ?_
            refine Run.nil ?_
            refine T.ret ?_
            cases h
            exact Fin.one rfl .v
          · replace h := ifF hb15 h
            refine T.seq ?_
            refine T.region ?_
            refine Run.go (Ev.loadBox X rfl rfl rfl rfl rfl) ?_
            obtain ⟨x16, e17, h⟩ := bdS h
            refine Run.go (Ev.callC en50 (k_formed_rulesRight e17) rfl (.cons .v .nil) rfl rfl) ?_
            refine Run.go (Ev.not rfl rfl) ?_
            refine Run.go (Ev.assign rfl rfl) ?_
            refine Run.nil ?_
            refine T.cond rfl (fun hb18 => ?_) (fun hb18 => ?_)
            · replace h := ifT hb18 h
              refine T.seq ?_
              refine T.region ?_
              refine Run.go (Ev.assign rfl rfl) ?_
              refine Run.nil ?_
              refine T.ret ?_
              cases h
              exact Fin.one rfl .v
            · replace h := ifF hb18 h
              refine T.seq ?_
              refine T.region ?_
              refine Run.go (Ev.loadBox X rfl rfl rfl rfl rfl) ?_
              obtain ⟨x19, e20, h⟩ := bdS h
              refine Run.go (Ev.callC en51 (k_formed_groupsRight e20) rfl (.cons .v .nil) rfl rfl) ?_
              refine Run.go (Ev.not rfl rfl) ?_
              refine Run.go (Ev.assign rfl rfl) ?_
              refine Run.nil ?_
              refine T.cond rfl (fun hb21 => ?_) (fun hb21 => ?_)
              · replace h := ifT hb21 h
                refine T.seq ?_
                refine T.region ?_
                refine Run.go (Ev.assign rfl rfl) ?_
                refine Run.nil ?_
                refine T.ret ?_
                cases h
                exact Fin.one rfl .v
              · replace h := ifF hb21 h
                refine T.seq ?_
                refine T.region ?_
                refine Run.go (Ev.loadBox X rfl rfl rfl rfl rfl) ?_
                obtain ⟨x22, e23, h⟩ := bdS h
                refine Run.go (Ev.callC en52 (k_formed_hopsRight e23) rfl (.cons .v .nil) rfl rfl) ?_
                refine Run.go (Ev.not rfl rfl) ?_
                refine Run.go (Ev.assign rfl rfl) ?_
                refine Run.nil ?_
                refine T.cond rfl (fun hb24 => ?_) (fun hb24 => ?_)
                · replace h := ifT hb24 h
                  refine T.seq ?_
                  refine T.region ?_
                  refine Run.go (Ev.assign rfl rfl) ?_
                  refine Run.nil ?_
                  refine T.ret ?_
                  cases h
                  exact Fin.one rfl .v
                · replace h := ifF hb24 h
                  refine T.skip ?_
                  refine T.seq ?_
                  refine T.region ?_
                  refine Run.go (Ev.assign rfl rfl) ?_
                  refine Run.nil ?_
                  refine T.ret ?_
                  cases h
                  exact Fin.one rfl .v
theorem en29 : Enters Tryz.prog 29 := ⟨_, Tryz.func29, rfl, rfl⟩
theorem k_formed_Nets {p0 : (List D_api_Net)} {y : Int} (h : m_formed_Nets p0 = some y) : Spec Tryz.prog 12 [(.v (.sl Y_api_Net) p0)] (.v (.int .i64) y) [] := by
  rw [m_formed_Nets] at h
  refine enterN [(.v (.sl Y_api_Net) p0)] 36 Tryz.func12 rfl rfl rfl ?_
  refine T.seq ?_
  refine T.region ?_
  refine Run.go (Ev.assign rfl rfl) ?_
  refine Run.nil ?_
  refine T.seq ?_
  refine T.region ?_
  refine Run.go (Ev.assign rfl rfl) ?_
  refine Run.nil ?_
  obtain ⟨v1, hv, h⟩ := bdS h
  refine T.cut (fun _ : Unit => (⟨[(0, .v (.sl Y_api_Net) p0), (3, .own 3)], [(3, .arr 9 .str v1)], 36⟩ : St)) (fun _ => True) ?_ (fun _ _ => ?_)
  · replace h := hv
    clear hv
    refine T.seq ?_
    refine T.region ?_
    refine Run.go (Ev.move rfl rfl) ?_
    refine Run.go (Ev.len X rfl rfl rfl rfl) ?_
    refine Run.go (Ev.move rfl rfl) ?_
    refine Run.nil ?_
    refine T.block ?_
    refine T.loop (LoopT.ghost (Ghost.trans (Ghost.empty 3 24 9 .str rfl rfl) (Ghost.only [(24, 17)] [0, 3, 9, 10, 11] rfl)) (LoopT.run (fun q : Int × (List ByteArray) => (⟨[(0, .v (.sl Y_api_Net) p0), (3, .own 17), (9, .v (.sl Y_api_Net) p0), (10, .v (.int .i64) ((p0.length : Int) : Int)), (11, .v (.int .i64) q.1)], [(17, .arr 9 .str q.2)], 36⟩ : St)) (fun q z1 h hz1 => ?_) h))
    obtain ⟨v2, v3⟩ := q
    dsimp only
    rw [m_formed_Nets_l1] at h
    refine T.seq ?_
    refine T.region ?_
    refine Run.go (Ev.int rfl rfl rfl rfl trivial) ?_
    refine Run.nil ?_
    refine T.seq ?_
    refine T.cond rfl (fun hb4 => ?_) (fun hb4 => ?_)
    · replace h := ifT hb4 h
      refine T.skip ?_
      refine T.seq ?_
      refine T.block ?_
      refine T.seq ?_
      refine T.region ?_
      obtain ⟨x5, e6, h⟩ := bdS h
      refine Run.go (Ev.e_rd X e6 rfl rfl rfl rfl) ?_
      refine Run.go (Ev.load X rfl rfl rfl) ?_
      refine Run.go (Ev.allocN X 25 rfl rfl rfl) ?_
      refine Run.do_ (Ev.storeBox X rfl rfl rfl rfl rfl rfl rfl) ?_
      refine Run.nil ?_
      refine T.region ?_
      refine Run.go (Ev.move rfl rfl) ?_
      refine Run.go (Ev.fieldBox X rfl rfl rfl rfl rfl) ?_
      refine Run.go (Ev.loadCell X rfl rfl rfl rfl rfl rfl) ?_
      refine Run.go (Ev.build X 26 rfl rfl rfl rfl rfl rfl rfl rfl) ?_
      obtain ⟨x7, e8, h⟩ := bdS h
      refine Run.go (Ev.e_ap X 27 e8 rfl rfl rfl (.own rfl) rfl rfl rfl rfl rfl) ?_
      refine Run.go (Ev.assign rfl rfl) ?_
      refine Run.nil ?_
      refine T.region ?_
      refine Run.go (Ev.int rfl rfl rfl rfl trivial) ?_
      refine Run.go (Ev.move rfl rfl) ?_
      refine Run.nil ?_
      cases h
      exact LoopT.ghost (Ghost.only [(27, 17)] [0, 3, 9, 10, 11] rfl) hz1
    · replace h := ifF hb4 h
      refine T.exit ?_
      cases h
      cases hz1
      exact ⟨(), trivial, Ghost.only [(17, 3)] [0, 3] rfl⟩
  · refine T.seq ?_
    refine T.seq ?_
    refine T.region ?_
    refine Run.go (Ev.move rfl rfl) ?_
    obtain ⟨x9, e10, h⟩ := bdS h
    refine Run.go (Ev.lend rfl (.cons (.own rfl) .nil) en28 (k_formed_named e10) rfl rfl) ?_
    refine Run.go (Ev.not rfl rfl) ?_
    refine Run.nil ?_
    refine T.cond rfl (fun hb11 => ?_) (fun hb11 => ?_)
    · replace h := ifT hb11 h
      refine T.seq ?_
      refine T.region ?_
      refine Run.go (Ev.assign rfl rfl) ?_
      refine Run.nil ?_
      refine T.ret ?_
      cases h
      exact Fin.one rfl .v
    · replace h := ifF hb11 h
      refine T.skip ?_
      refine T.seq ?_
      refine T.seq ?_
      refine T.region ?_
      refine Run.go (Ev.move rfl rfl) ?_
      refine Run.go (Ev.len X rfl rfl rfl rfl) ?_
      refine Run.go (Ev.move rfl rfl) ?_
      refine Run.nil ?_
      refine T.block ?_
      refine T.loop (LoopT.ghost (Ghost.only [] [24, 25, 26] rfl) (LoopT.run (fun q : Int => (⟨[(24, .v (.sl Y_api_Net) p0), (25, .v (.int .i64) ((p0.length : Int) : Int)), (26, .v (.int .i64) q)], [], 36⟩ : St)) (fun v12 z1 h hz1 => ?_) h))
      rw [m_formed_Nets_l2] at h
      refine T.seq ?_
      refine T.region ?_
      refine Run.go (Ev.int rfl rfl rfl rfl trivial) ?_
      refine Run.nil ?_
      refine T.seq ?_
      refine T.cond rfl (fun hb13 => ?_) (fun hb13 => ?_)
      · replace h := ifT hb13 h
        refine T.skip ?_
        refine T.seq ?_
        refine T.block ?_
        refine T.seq ?_
        refine T.region ?_
        obtain ⟨x14, e15, h⟩ := bdS h
        refine Run.go (Ev.e_rd X e15 rfl rfl rfl rfl) ?_
        refine Run.go (Ev.load X rfl rfl rfl) ?_
        refine Run.go (Ev.allocN X 30 rfl rfl rfl) ?_
        refine Run.do_ (Ev.storeBox X rfl rfl rfl rfl rfl rfl rfl) ?_
        refine Run.nil ?_
        refine T.seq ?_
        refine T.region ?_
        refine Run.go (Ev.loadBox X rfl rfl rfl rfl rfl) ?_
        obtain ⟨x16, e17, h⟩ := bdS h
        refine Run.go (Ev.callC en29 (k_formed_net e17) rfl (.cons .v .nil) rfl rfl) ?_
        refine Run.go (Ev.assign rfl rfl) ?_
        refine Run.nil ?_
        refine T.seq ?_
        refine T.region ?_
        refine Run.go (Ev.move rfl rfl) ?_
        refine Run.go (Ev.int rfl rfl rfl rfl trivial) ?_
        refine Run.nil ?_
        refine T.cond rfl (fun hb18 => ?_) (fun hb18 => ?_)
        · replace h := ifT hb18 h
          refine T.seq ?_
          refine T.region ?_
          refine Run.go (Ev.move rfl rfl) ?_
          refine Run.go (Ev.assign rfl rfl) ?_
          refine Run.nil ?_
          refine T.ret ?_
          cases h
          cases hz1
          exact Fin.one rfl .v
        · replace h := ifF hb18 h
          refine T.skip ?_
          refine T.region ?_
          refine Run.go (Ev.int rfl rfl rfl rfl trivial) ?_
          refine Run.go (Ev.move rfl rfl) ?_
          refine Run.nil ?_
          cases h
          exact LoopT.ghost (Ghost.only [] [24, 25, 26] rfl) hz1
      · replace h := ifF hb13 h
        refine T.exit ?_
        refine T.seq ?_
        refine T.region ?_
        refine Run.go (Ev.assign rfl rfl) ?_
        refine Run.nil ?_
        refine T.ret ?_
        cases h
        cases hz1
        exact Fin.one rfl .v
theorem en12 : Enters Tryz.prog 12 := ⟨_, Tryz.func12, rfl, rfl⟩
theorem k_triviumlaw23_works  {y : Bool} (h : m_triviumlaw23_works  = some y) : Spec Tryz.prog 14 [] (.v .bool y) [] := by
  rw [m_triviumlaw23_works] at h
  refine enterN [] 12 Tryz.func14 rfl rfl rfl ?_
  refine T.seq ?_
  refine T.region ?_
  refine Run.go (Ev.assign rfl rfl) ?_
  refine Run.nil ?_
  refine T.seq ?_
  refine T.region ?_
  refine Run.go (Ev.structC pl28 zs28 rfl rfl rfl) ?_
  refine Run.go (Ev.structC pl28 zs28 rfl rfl rfl) ?_
  refine Run.ghost (Ghost.stv (t := 1) (τ := Y_api_Net) (y := (((bs [97]), [], [], []) : D_api_Net)) rfl rfl rfl) ?_
  refine Run.ghost (Ghost.stv (t := 2) (τ := Y_api_Net) (y := (((bs [97]), [], [], []) : D_api_Net)) rfl rfl rfl) ?_
  refine Run.go (Ev.build X 1 rfl rfl rfl rfl rfl rfl rfl rfl) ?_
  obtain ⟨x1, e2, h⟩ := bdS h
  refine Run.go (Ev.lend rfl (.cons (.own rfl) .nil) en12 (k_formed_Nets e2) rfl rfl) ?_
  refine Run.go (Ev.int rfl rfl rfl rfl trivial) ?_
  refine Run.go (Ev.move rfl rfl) ?_
  rcases boolCases (decide (x1 = 1)) with hb3 | hb3
  · replace h := ifT hb3 h
    refine Run.on rfl rfl rfl hb3 (Ev.structC pl28 zs28 rfl rfl rfl) ?_
    refine Run.ghost (Ghost.stv (t := 7) (τ := Y_api_Net) (y := (((bs [97]), [], [], []) : D_api_Net)) rfl rfl rfl) ?_
    refine Run.on rfl rfl rfl hb3 (Ev.build X 2 rfl rfl rfl rfl rfl rfl rfl rfl) ?_
    obtain ⟨x4, e5, h⟩ := bdS h
    refine Run.on rfl rfl rfl hb3 (Ev.lend rfl (.cons (.own rfl) .nil) en12 (k_formed_Nets e5) rfl rfl) ?_
    refine Run.on rfl rfl rfl hb3 (Ev.int rfl rfl rfl rfl trivial) ?_
    refine Run.go (Ev.pickT rfl hb3 rfl rfl) ?_
    refine Run.go (Ev.assign rfl rfl) ?_
    refine Run.nil ?_
    refine T.ret ?_
    cases h
    exact Fin.one rfl .v
  · replace h := ifF hb3 h
    refine Run.offT rfl rfl rfl rfl hb3 ?_
    refine Run.offT rfl rfl rfl rfl hb3 ?_
    refine Run.offT rfl rfl rfl rfl hb3 ?_
    refine Run.offT rfl rfl rfl rfl hb3 ?_
    refine Run.go (Ev.pickF rfl hb3 rfl rfl) ?_
    refine Run.go (Ev.assign rfl rfl) ?_
    refine Run.nil ?_
    refine T.ret ?_
    cases h
    exact Fin.one rfl .v
theorem en14 : Enters Tryz.prog 14 := ⟨_, Tryz.func14, rfl, rfl⟩
theorem k_triviumlaw23_FormQueries {p0 : (List D_api_Net)} {p1 : (List D_api_Query)} {y : Bool} (h : m_triviumlaw23_FormQueries p0 p1 = some y) : Spec Tryz.prog 4 [(.v (.sl Y_api_Net) p0), (.v (.sl Y_api_Query) p1)] (.v .bool y) [] := by
  rw [m_triviumlaw23_FormQueries] at h
  refine enterN [(.v (.sl Y_api_Net) p0), (.v (.sl Y_api_Query) p1)] 52 Tryz.func4 rfl rfl rfl ?_
  refine T.seq ?_
  refine T.region ?_
  refine Run.go (Ev.assign rfl rfl) ?_
  refine Run.nil ?_
  refine T.seq ?_
  refine T.region ?_
  refine Run.go (Ev.move rfl rfl) ?_
  obtain ⟨x1, e2, h⟩ := bdS h
  refine Run.go (Ev.callC en5 (k_triviumref22_Clean e2) rfl (.cons .v .nil) rfl rfl) ?_
  refine Run.go (Ev.assign rfl rfl) ?_
  refine Run.nil ?_
  refine T.seq ?_
  refine T.region ?_
  refine Run.go (Ev.build X 1 rfl rfl rfl rfl rfl rfl rfl rfl) ?_
  refine Run.go (Ev.assign rfl rfl) ?_
  refine Run.go (Ev.assign rfl rfl) ?_
  refine Run.nil ?_
  refine T.seq ?_
  refine T.seq ?_
  refine T.region ?_
  refine Run.go (Ev.assign rfl rfl) ?_
  refine Run.nil ?_
  refine T.block ?_
  refine T.loop (LoopT.ghost (Ghost.only [(1, 7)] [0, 1, 5, 6, 7] rfl) (LoopT.run (fun q : Bool × Int × (List D_api_Query) => (⟨[(0, .v (.sl Y_api_Net) x1), (1, .v (.sl Y_api_Query) p1), (5, .own 7), (6, .v .bool q.1), (7, .v (.int .i64) q.2.1)], [(7, .arr 44 Y_api_Query q.2.2)], 52⟩ : St)) (fun q z1 h hz1 => ?_) h))
  obtain ⟨v3, v4, v5⟩ := q
  dsimp only
  rw [m_triviumlaw23_FormQueries_l1] at h
  refine T.seq ?_
  obtain ⟨v6, hv, h⟩ := bdS h
  refine T.cut (fun _ : Unit => (⟨[(0, .v (.sl Y_api_Net) x1), (1, .v (.sl Y_api_Query) p1), (5, .own 7), (6, .v .bool v3), (7, .v (.int .i64) v4), (19, .v .bool v6)], [(7, .arr 44 Y_api_Query v5)], 52⟩ : St)) (fun _ => True) ?_ (fun _ _ => ?_)
  · replace h := hv
    clear hv
    refine T.region ?_
    refine Run.go (Ev.move rfl rfl) ?_
    refine Run.go (Ev.move rfl rfl) ?_
    refine Run.go (Ev.len X rfl rfl rfl rfl) ?_
    refine Run.go (Ev.int rfl rfl rfl rfl trivial) ?_
    refine Run.go (Ev.move rfl rfl) ?_
    rcases boolCases (decide (v4 < (p1.length : Int))) with hb7 | hb7
    · replace h := ifT hb7 h
      refine Run.on rfl rfl rfl hb7 (Ev.move rfl rfl) ?_
      refine Run.on rfl rfl rfl hb7 (Ev.int rfl rfl rfl rfl trivial) ?_
      refine Run.go (Ev.pickT rfl hb7 rfl rfl) ?_
      refine Run.nil ?_
      cases h
      exact ⟨(), trivial, Ghost.only [(7, 7)] [0, 1, 5, 6, 7, 19] rfl⟩
    · replace h := ifF hb7 h
      refine Run.offT rfl rfl rfl rfl hb7 ?_
      refine Run.offT rfl rfl rfl rfl hb7 ?_
      refine Run.go (Ev.pickF rfl hb7 rfl rfl) ?_
      refine Run.nil ?_
      cases h
      exact ⟨(), trivial, Ghost.only [(7, 7)] [0, 1, 5, 6, 7, 19] rfl⟩
  · refine T.cond rfl (fun hb8 => ?_) (fun hb8 => ?_)
    · replace h := ifT hb8 h
      refine T.skip ?_
      refine T.seq ?_
      refine T.block ?_
      refine T.seq ?_
      refine T.region ?_
      refine Run.go (Ev.move rfl rfl) ?_
      refine Run.go (Ev.move rfl rfl) ?_
      obtain ⟨x9, e10, h⟩ := bdS h
      refine Run.go (Ev.e_rd X e10 rfl rfl rfl rfl) ?_
      refine Run.go (Ev.load X rfl rfl rfl) ?_
      obtain ⟨x11, e12, h⟩ := bdS h
      refine Run.go (Ev.callC en15 (k_triviumref22_CleanQuery e12) rfl (.cons .v .nil) rfl rfl) ?_
      refine Run.go (Ev.allocN X 16 rfl rfl rfl) ?_
      refine Run.do_ (Ev.storeBox X rfl rfl rfl rfl rfl rfl rfl) ?_
      refine Run.nil ?_
      refine T.seq ?_
      refine T.region ?_
      refine Run.go (Ev.move rfl rfl) ?_
      refine Run.go (Ev.loadBox X rfl rfl rfl rfl rfl) ?_
      refine Run.go (Ev.build X 17 rfl rfl rfl rfl rfl rfl rfl rfl) ?_
      obtain ⟨x13, e14, h⟩ := bdS h
      refine Run.go (Ev.e_ap X 18 e14 rfl rfl rfl (.own rfl) rfl rfl rfl rfl rfl) ?_
      refine Run.go (Ev.assign rfl rfl) ?_
      refine Run.nil ?_
      obtain ⟨v15, hv, h⟩ := bdS h
      refine T.cut (fun _ : Unit => (⟨[(0, .v (.sl Y_api_Net) x1), (1, .v (.sl Y_api_Query) p1), (5, .own 18), (6, .v .bool v15), (7, .v (.int .i64) v4), (8, .box 16 0)], [(18, .arr 44 Y_api_Query x13), (16, .box [.v (.int .i64) x11.1, .v .str x11.2.1, .v .str x11.2.2.1, .v .str x11.2.2.2.1, .v (.int .u32) x11.2.2.2.2.1, .v (.int .u32) x11.2.2.2.2.2.1.1, .v (.int .i64) x11.2.2.2.2.2.1.2, .v (.int .i64) x11.2.2.2.2.2.2])], 52⟩ : St)) (fun _ => True) ?_ (fun _ _ => ?_)
      · replace h := hv
        clear hv
        refine T.region ?_
        refine Run.go (Ev.move rfl rfl) ?_
        refine Run.go (Ev.move rfl rfl) ?_
        rcases boolCases v3 with hb16 | hb16
        · replace h := ifT hb16 h
          refine Run.on rfl rfl rfl hb16 (Ev.move rfl rfl) ?_
          refine Run.on rfl rfl rfl hb16 (Ev.loadBox X rfl rfl rfl rfl rfl) ?_
          obtain ⟨x17, e18, h⟩ := bdS h
          refine Run.on rfl rfl rfl hb16 (Ev.callC en16 (k_triviumref23_Query e18) rfl (.cons .v (.cons .v .nil)) rfl rfl) ?_
          refine Run.go (Ev.pickT rfl hb16 rfl rfl) ?_
          refine Run.go (Ev.assign rfl rfl) ?_
          refine Run.nil ?_
          cases h
          exact ⟨(), trivial, Ghost.only [(18, 18), (16, 16)] [0, 1, 5, 6, 7, 8] rfl⟩
        · replace h := ifF hb16 h
          refine Run.offT rfl rfl rfl rfl hb16 ?_
          refine Run.offT rfl rfl rfl rfl hb16 ?_
          refine Run.offT rfl rfl rfl rfl hb16 ?_
          refine Run.go (Ev.pickF rfl hb16 rfl rfl) ?_
          refine Run.go (Ev.assign rfl rfl) ?_
          refine Run.nil ?_
          cases h
          exact ⟨(), trivial, Ghost.only [(18, 18), (16, 16)] [0, 1, 5, 6, 7, 8] rfl⟩
      · refine T.seq ?_
        refine T.drawM [] [0, 0, 3, 0, 0, 31, 63] (by kernel_rfl) (by kernel_rfl) ?_
        refine RunD.w (fun _ => Ev.move rfl rfl) ?_
        refine RunD.a rfl rfl (Ev.loadBox X rfl rfl rfl rfl rfl) ?_
        obtain ⟨x19, e20, h⟩ := bdS h
        refine RunD.a rfl rfl (Ev.callC en17 (k_formed_Query e20) rfl (.cons .v (.cons .v .nil)) rfl rfl) ?_
        refine RunD.w (fun _ => Ev.move rfl rfl) ?_
        refine RunD.a rfl rfl (Ev.loadBox X rfl rfl rfl rfl rfl) ?_
        obtain ⟨x21, e22, h⟩ := bdS h
        refine RunD.a rfl rfl (Ev.callC en16 (k_triviumref23_Query e22) rfl (.cons .v (.cons .v .nil)) rfl rfl) ?_
        refine RunD.w (fun _ => Ev.bools X rfl rfl rfl rfl rfl) ?_
        refine RunD.nil ?_
        refine T.cond rfl (fun hb23 => ?_) (fun hb23 => ?_)
        · replace h := ifT hb23 h
          refine T.seq ?_
          refine T.region ?_
          refine Run.go (Ev.assign rfl rfl) ?_
          refine Run.nil ?_
          refine T.ret ?_
          cases h
          cases hz1
          exact Fin.one rfl .v
        · replace h := ifF hb23 h
          refine T.skip ?_
          refine T.region ?_
          refine Run.go (Ev.move rfl rfl) ?_
          refine Run.go (Ev.int rfl rfl rfl rfl trivial) ?_
          refine Run.go (Ev.assign rfl rfl) ?_
          refine Run.nil ?_
          cases h
          exact LoopT.ghost (Ghost.only [(18, 7)] [0, 1, 5, 6, 7] rfl) hz1
    · replace h := ifF hb8 h
      refine T.exit ?_
      refine T.seq ?_
      refine T.region ?_
      refine Run.go (Ev.move rfl rfl) ?_
      refine Run.go (Ev.move rfl rfl) ?_
      obtain ⟨x24, e25, h⟩ := bdS h
      refine Run.go (Ev.lend rfl (.cons .v (.cons (.own rfl) .nil)) en18 (k_formed_Queries e25) rfl rfl) ?_
      refine Run.go (Ev.move rfl rfl) ?_
      refine Run.go (Ev.bools X rfl rfl rfl rfl rfl) ?_
      refine Run.go (Ev.move rfl rfl) ?_
      rcases boolCases (x24 == v3) with hb26 | hb26
      · replace h := ifT hb26 h
        obtain ⟨x27, e28, h⟩ := bdS h
        refine Run.on rfl rfl rfl hb26 (Ev.callC en14 (k_triviumlaw23_works e28) rfl .nil rfl rfl) ?_
        refine Run.go (Ev.pickT rfl hb26 rfl rfl) ?_
        refine Run.go (Ev.assign rfl rfl) ?_
        refine Run.nil ?_
        refine T.ret ?_
        cases h
        cases hz1
        exact Fin.one rfl .v
      · replace h := ifF hb26 h
        refine Run.offT rfl rfl rfl rfl hb26 ?_
        refine Run.go (Ev.pickF rfl hb26 rfl rfl) ?_
        refine Run.go (Ev.assign rfl rfl) ?_
        refine Run.nil ?_
        refine T.ret ?_
        cases h
        cases hz1
        exact Fin.one rfl .v
theorem en4 : Enters Tryz.prog 4 := ⟨_, Tryz.func4, rfl, rfl⟩
end Go.Proofs.YtbmogniipgmkiaaGreat.AE
/- From a law's contract to its row: how what is handed in reads. -/
namespace Go.Proofs.YtbmogniipgmkiaaGreat.AE
open Go Go.RowKit Go.WideShapes Go.ChangeAt Go.ChangeShapes

/-- values as a program has them -/
def Ty.ok : (t : Ty) → t.den → Prop
  | .int k, n => (Lit.int k n).wf = true
  | .bool, _ => True
  | .str, s => ByteArray.size s ≤ 9223372036854775807
  | .sl t, l => List.length (α := t.den) l ≤ 9223372036854775807 ∧ ∀ (i : Nat) (x : t.den), at? (α := t.den) l i = some x → t.ok x
  | .wrap t, x => t.ok x
  | .pair a b, x => a.ok x.1 ∧ b.ok x.2

theorem listed {α : Type} {Q : Nat → α → Prop} : ∀ n : Nat, (∀ i, i < n → ∃ y, Q i y) → ∃ l : List α, l.length = n ∧ ∀ (i : Nat) (x : α), at? l i = some x → Q i x
  | 0, _ => ⟨[], rfl, fun i x h => by cases h⟩
  | n + 1, h => by
    obtain ⟨l, h1, h2⟩ := listed n fun i hi => h i (by omega)
    obtain ⟨y, hy⟩ := h n (by omega)
    refine ⟨l ++ [y], by simp [h1], fun i x hx => ?_⟩
    unfold at? at hx
    by_cases hi : i < n
    · rw [List.getElem?_append_left (by omega)] at hx; exact h2 i x hx
    · have : i < (l ++ [y]).length := (List.getElem?_eq_some_iff.1 hx).1
      simp at this
      obtain rfl : i = n := by omega
      rw [List.getElem?_append_right (by omega)] at hx
      simp [h1] at hx
      exact hx ▸ hy

section
variable {H : Type} {enc : TypeId × Value → H} {P : Program} {w : World}
abbrev N0 : Nat → Prop := fun _ => False

def OpenT (enc : TypeId × Value → H) (P : Program) (w : World) (t : Ty) : Prop := ∀ (n : Nat) (i : TypeId) (fuel : Nat) (cs : List Value) (x : DataW H × List MemPlace),
  chk P n t i = true → DataW.trod enc P w 0 (fun _ => true) true fuel i cs = some x → ∃ y : t.den, t.relc w N0 y cs ∧ t.ok y
def OpenR (enc : TypeId × Value → H) (P : Program) (w : World) (t : Ty) : Prop := ∀ (n : Nat) (fs : List Field) (off : Nat) (m : Nat) (cs : List Value),
  chkR (chk P n) t fs off = true → cs.length = off + t.sz → (∀ (j : Nat) f, fs[j]? = some f → ∃ z, DataW.trod enc P w 0 (fun _ => true) true m f.type ((cs.drop f.offset).take (P.cellsOf f.type)) = some z) →
    ∃ y : t.den, t.relc w N0 y (cs.drop off) ∧ t.ok y
theorem chk_cells {n : Nat} {t : Ty} {i : TypeId} (h : chk P n t i = true) : P.cellsOf i = t.sz := by
  obtain ⟨f, z, h1, h2, _⟩ := Is.info ⟨n, h⟩
  simp [Program.cellsOf, h1, h2]
theorem openR_one {t : Ty} (ht : OpenT enc P w t) {n : Nat} {f : Field} {off m : Nat} {cs : List Value} (h : (f.offset == off && chk P n t f.type) = true) (hl : cs.length = off + t.sz)
    (hz : ∃ z, DataW.trod enc P w 0 (fun _ => true) true m f.type ((cs.drop f.offset).take (P.cellsOf f.type)) = some z) : ∃ y : t.den, t.relc w N0 y (cs.drop off) ∧ t.ok y := by
  rw [Bool.and_eq_true, beq_iff_eq] at h
  obtain ⟨rfl, hc⟩ := h
  obtain ⟨z, hz⟩ := hz
  rw [chk_cells hc, List.take_of_length_le (by rw [List.length_drop]; omega)] at hz
  exact ht n _ _ _ _ hc hz
theorem open_all (t : Ty) : OpenT enc P w t ∧ OpenR enc P w t := by
  have base : ∀ t : Ty, (∀ a b, t ≠ .pair a b) → OpenT enc P w t → OpenR enc P w t := by
    intro t hn ht n fs off m cs h hl hz
    cases fs with
    | nil => simp [chkR] at h
    | cons f r =>
      cases r with
      | nil => exact openR_one ht (by cases t <;> simpa [chkR] using h) hl (hz 0 f rfl)
      | cons g r => cases t <;> first | exact absurd rfl (hn _ _) | simp [chkR] at h
  induction t with
  | int k =>
    refine (fun h => ⟨h, base _ (fun _ _ h => by cases h) h⟩) ?_
    intro n i fuel cs x hc hx
    obtain ⟨z, h1, _, h2⟩ := DataW.trod_int (Is.desc ⟨n, hc⟩) hx
    exact ⟨z, h1, h2⟩
  | bool =>
    refine (fun h => ⟨h, base _ (fun _ _ h => by cases h) h⟩) ?_
    intro n i fuel cs x hc hx
    obtain ⟨z, h1, _⟩ := DataW.trod_bool (Is.desc ⟨n, hc⟩) hx
    exact ⟨z, h1, trivial⟩
  | str =>
    refine (fun h => ⟨h, base _ (fun _ _ h => by cases h) h⟩) ?_
    intro n i fuel cs x hc hx
    obtain ⟨z, h1, _, h2⟩ := DataW.trod_string (Is.desc ⟨n, hc⟩) hx
    exact ⟨z, h1, h2⟩
  | sl t ih =>
    refine (fun h => ⟨h, base _ (fun _ _ h => by cases h) h⟩) ?_
    intro n i fuel cs x hc hx
    obtain ⟨e, h1, h2⟩ := Is.desc ⟨n, hc⟩
    obtain ⟨k, h2⟩ := h2
    rcases DataW.trod_slice h1 hx with ⟨rfl, _⟩ | ⟨a, len, cap, elems, rest, m, _, rfl, _, _, hl, hm, hel, hcell, _⟩
    · exact ⟨([] : List t.den), ⟨none, 0, rfl, Nat.le_refl _, Nat.zero_le _, fun h => absurd h (Nat.lt_irrefl _)⟩, Nat.zero_le _, fun i x h => by cases h⟩
    · rw [chk_cells h2] at hcell
      obtain ⟨l, hll, hlq⟩ := listed (Q := fun j (y : t.den) => ∃ ds, t.relc w N0 y ds ∧ t.ok y ∧ ∀ (q : Nat) u, ds[q]? = some u → w.cell? (a.add (j * t.sz + q)) = some u) len (by
        intro j hj
        have hb := hcell j hj
        obtain ⟨el, hel'⟩ : ∃ z, elems[j]? = some z := ⟨_, List.getElem?_eq_getElem (by omega)⟩
        rw [hel'] at hb
        obtain ⟨ds, hd1, hd2⟩ := Option.bind_eq_some_iff.1 hb
        obtain ⟨_, hlen, hcs⟩ := World.cells?_some hd1
        obtain ⟨y, hy1, hy2⟩ := ih.1 k e m ds el h2 hd2
        refine ⟨y, ds, hy1, hy2, fun q u hu => ?_⟩
        have hq : q < t.sz := by have := (List.getElem?_eq_some_iff.1 hu).1; omega
        have := hcs q hq
        rw [Addr.add_add] at this
        rw [this, hu])
      refine ⟨l, ⟨some a, cap, by show _ = [Value.slice (some a) (List.length l) cap]; rw [hll], by show List.length l ≤ cap; omega, hm, fun _ => ⟨a, rfl, fun h => h, fun i x hx => ?_⟩⟩, by show List.length l ≤ _; have : maxLen = 9223372036854775807 := rfl; omega, fun i x hx => ?_⟩
      · obtain ⟨ds, h3, _, h4⟩ := hlq i x hx; exact ⟨ds, h3, h4⟩
      · obtain ⟨ds, _, h3, _⟩ := hlq i x hx; exact h3
  | wrap t ih =>
    refine (fun h => ⟨h, base _ (fun _ _ h => by cases h) h⟩) ?_
    intro n i fuel cs x hc hx
    obtain ⟨f, h1, h2, k, h3⟩ := Is.desc ⟨n, hc⟩
    obtain ⟨xs, m, _, _, hl, hlen, hf⟩ := DataW.trod_struct h1 hx
    rw [chk_cells hc] at hl
    have h4 := hf 0 f rfl
    rw [h2, chk_cells h3, List.drop_zero, List.take_of_length_le (by rw [hl]; exact Nat.le_refl _)] at h4
    obtain ⟨z, hz⟩ : ∃ z, xs[0]? = some z := ⟨_, List.getElem?_eq_getElem (by rw [hlen]; exact Nat.one_pos)⟩
    rw [hz] at h4
    exact ih.1 k _ _ _ _ h3 h4
  | pair a b iha ihb =>
    have hT : OpenT enc P w (.pair a b) := by
      intro n i fuel cs x hc hx
      obtain ⟨f, g, r, h1, h2, k, h3, h4⟩ := Is.desc ⟨n, hc⟩
      obtain ⟨xs, m, _, _, hl, hlen, hf⟩ := DataW.trod_struct h1 hx
      rw [chk_cells hc] at hl
      have hl : cs.length = a.sz + b.sz := hl
      have hsome : ∀ (j : Nat) f', (f :: g :: r)[j]? = some f' → ∃ z, DataW.trod enc P w 0 (fun _ => true) true m f'.type ((cs.drop f'.offset).take (P.cellsOf f'.type)) = some z := by
        intro j f' hj
        have h5 := hf j f' (by simpa using hj)
        have hj' : j < xs.length := by rw [hlen]; simpa using (List.getElem?_eq_some_iff.1 hj).1
        exact ⟨xs[j], by rw [h5, List.getElem?_eq_getElem hj']⟩
      obtain ⟨z, hz⟩ := hsome 0 f rfl
      rw [h2, chk_cells h3, List.drop_zero] at hz
      obtain ⟨y1, r1, o1⟩ := iha.1 k _ _ _ _ h3 hz
      obtain ⟨y2, r2, o2⟩ := ihb.2 k (g :: r) a.sz m cs h4 hl (fun j f' hj => hsome (j + 1) f' (by simpa using hj))
      exact ⟨(y1, y2), ⟨_, _, (List.take_append_drop a.sz cs).symm, r1, r2⟩, o1, o2⟩
    refine ⟨hT, ?_⟩
    intro n fs off m cs h hl hz
    cases fs with
    | nil => simp [chkR] at h
    | cons f r =>
      cases r with
      | nil => exact openR_one hT (by simpa [chkR] using h) hl (hz 0 f rfl)
      | cons g r =>
        simp only [chkR, Bool.and_eq_true, beq_iff_eq] at h
        obtain ⟨⟨rfl, hc⟩, hr⟩ := h
        have hl : cs.length = f.offset + (a.sz + b.sz) := hl
        obtain ⟨z, hz0⟩ := hz 0 f rfl
        rw [chk_cells hc] at hz0
        obtain ⟨y1, r1, o1⟩ := iha.1 n _ _ _ _ hc hz0
        obtain ⟨y2, r2, o2⟩ := ihb.2 n (g :: r) (f.offset + a.sz) m cs hr (by omega) (fun j f' hj => hz (j + 1) f' (by simpa using hj))
        refine ⟨(y1, y2), ⟨_, _, ?_, r1, r2⟩, o1, o2⟩
        rw [← List.drop_drop, List.take_append_drop]

/-- What is handed in is a value. -/
theorem open_v {t : Ty} {i : TypeId} {b0 : Nat} {r : Reach} {v : Value} {d : DataW H} {p : List MemPlace} (hi : Is P t i) (hv : Value.okWide P w r b0 i v) (h : DataW.Trod enc P w 0 (fun _ => true) true i v d p) :
    ∃ y : t.den, t.ok y ∧ t.rel w N0 y v := by
  obtain ⟨fuel, hf⟩ := h
  obtain ⟨n, hn⟩ := hi
  obtain ⟨y, h1, h2⟩ := (open_all (enc := enc) (P := P) (w := w) t).1 n i fuel _ _ hn hf
  refine ⟨y, h2, _, h1, ?_⟩
  have hd := Is.desc ⟨n, hn⟩
  have flat : t.agg = false → v.cells = #[v] → v = t.val v.cells.toList := by
    intro ha hc
    rw [hc]
    unfold Ty.val
    rw [ha]
    rfl
  have aggr : t.agg = true → (∃ cs, v = .agg cs) → v = t.val v.cells.toList := by
    rintro ha ⟨cs, rfl⟩
    unfold Ty.val
    rw [ha]
    rfl
  cases t with
  | int k => obtain ⟨z, rfl⟩ := okWide_int hd hv; exact flat rfl rfl
  | bool => obtain ⟨z, rfl⟩ := okWide_bool hd hv; exact flat rfl rfl
  | str => obtain ⟨z, rfl⟩ := okWide_string hd hv; exact flat rfl rfl
  | sl t => obtain ⟨e, hd, _⟩ := hd; obtain ⟨a, l, c, rfl⟩ := okWide_slice hd hv; exact flat rfl rfl
  | wrap t => obtain ⟨f, hd, _⟩ := hd; obtain ⟨cs, rfl, _⟩ := okWide_struct hd hv; exact aggr rfl ⟨_, rfl⟩
  | pair a b => obtain ⟨f, g, r, hd, _⟩ := hd; obtain ⟨cs, rfl, _⟩ := okWide_struct hd hv; exact aggr rfl ⟨_, rfl⟩
end

/-- a law holds of all arguments -/
def LawArgs : List Ty → (List AV → Prop) → Prop
  | [], Q => Q []
  | t :: r, Q => ∀ y : t.den, t.ok y → LawArgs r (fun l => Q (.v t y :: l))
theorem law_calls {P : Program} {f : Nat} {avs : List AV} {W : World} {args : List Value} (h : Spec P f avs (.v .bool true) []) (hr : AV.rels W N0 (fun _ => (0, 0)) [] avs args) :
    Calls P f args.toArray W fun e W' => e = .returned (.bool true) ∧ Below W.heap.size W W' := by
  refine (h N0 W args (fun _ h => h.elim) hr).mono fun e W' ⟨u, loc, he, _, hu, hb⟩ => ?_
  obtain ⟨cs, hc, rfl⟩ := hu
  have hc : cs = [.bool true] := hc
  subst hc
  exact ⟨he, hb⟩
end Go.Proofs.YtbmogniipgmkiaaGreat.AE
/- Plain facts on numbers by digits of any base, and on lists: no program in sight. -/
namespace Go.Proofs.YtbmogniipgmkiaaGreat.Tri

def dv (B : Int) : List Int → Int
  | [] => 0
  | x :: xs => x + B * dv B xs

def Dig (B : Int) (l : List Int) : Prop := ∀ x, x ∈ l → 0 ≤ x ∧ x < B

/-- no nought at the end -/
def Top (l : List Int) : Prop := l.getLast? ≠ some 0

def Can (B : Int) (l : List Int) : Prop := Dig B l ∧ Top l

theorem dv_nil (B : Int) : dv B [] = 0 := rfl
theorem dv_cons (B x : Int) (xs : List Int) : dv B (x :: xs) = x + B * dv B xs := rfl
theorem dv_one (B x : Int) : dv B [x] = x := by simp [dv]

theorem dv_append (B : Int) (a b : List Int) : dv B (a ++ b) = dv B a + B ^ a.length * dv B b := by
  induction a with
  | nil => simp [dv]
  | cons x xs ih =>
    simp only [List.cons_append, dv, ih, List.length_cons, Int.pow_succ]
    grind

theorem dv_snoc (B : Int) (a : List Int) (x : Int) : dv B (a ++ [x]) = dv B a + B ^ a.length * x := by
  rw [dv_append, dv_one]

theorem Dig.nil (B : Int) : Dig B [] := fun _ h => by simp at h
theorem Dig.cons {B x : Int} {l : List Int} (h : 0 ≤ x ∧ x < B) (hl : Dig B l) : Dig B (x :: l) := by
  intro y hy
  rcases List.mem_cons.1 hy with rfl | hy
  · exact h
  · exact hl y hy
theorem Dig.head {B x : Int} {l : List Int} (h : Dig B (x :: l)) : 0 ≤ x ∧ x < B := h x (by simp)
theorem Dig.tail {B x : Int} {l : List Int} (h : Dig B (x :: l)) : Dig B l := fun y hy => h y (by simp [hy])
theorem Dig.append {B : Int} {a b : List Int} (ha : Dig B a) (hb : Dig B b) : Dig B (a ++ b) := by
  intro y hy
  rcases List.mem_append.1 hy with hy | hy
  · exact ha y hy
  · exact hb y hy
theorem Dig.snoc {B x : Int} {l : List Int} (hl : Dig B l) (h : 0 ≤ x ∧ x < B) : Dig B (l ++ [x]) :=
  hl.append (Dig.cons h (Dig.nil B))
theorem Dig.left {B : Int} {a b : List Int} (h : Dig B (a ++ b)) : Dig B a := fun y hy => h y (by simp [hy])
theorem Dig.right {B : Int} {a b : List Int} (h : Dig B (a ++ b)) : Dig B b := fun y hy => h y (by simp [hy])
theorem Dig.take {B : Int} {a : List Int} (h : Dig B a) (n : Nat) : Dig B (a.take n) := fun y hy => h y (List.mem_of_mem_take hy)
theorem Dig.drop {B : Int} {a : List Int} (h : Dig B a) (n : Nat) : Dig B (a.drop n) := fun y hy => h y (List.mem_of_mem_drop hy)
theorem Dig.set {B : Int} {a : List Int} (h : Dig B a) (n : Nat) {v : Int} (hv : 0 ≤ v ∧ v < B) : Dig B (a.set n v) := by
  intro y hy
  rcases List.mem_or_eq_of_mem_set hy with hy | rfl
  · exact h y hy
  · exact hv
theorem Dig.replicate {B : Int} (hB : 0 < B) (n : Nat) : Dig B (List.replicate n 0) := by
  intro y hy
  have := (List.mem_replicate.1 hy).2
  subst this; omega

theorem dv_nonneg {B : Int} (hB : 0 < B) {l : List Int} (h : Dig B l) : 0 ≤ dv B l := by
  induction l with
  | nil => simp [dv]
  | cons x xs ih =>
    have h1 := h.head
    have h2 := ih h.tail
    have := Int.mul_nonneg (Int.le_of_lt hB) h2
    simp only [dv]; omega

theorem pow_pos' {B : Int} (hB : 0 < B) (n : Nat) : 0 < B ^ n := Int.pow_pos hB

theorem dv_lt {B : Int} (hB : 0 < B) {l : List Int} (h : Dig B l) : dv B l < B ^ l.length := by
  induction l with
  | nil => simp [dv]
  | cons x xs ih =>
    have h1 := h.head
    have h2 := ih h.tail
    have : B * (dv B xs + 1) ≤ B * B ^ xs.length := Int.mul_le_mul_of_nonneg_left (by omega) (Int.le_of_lt hB)
    simp only [dv, List.length_cons, Int.pow_succ]
    grind

theorem dv_replicate (B : Int) (n : Nat) : dv B (List.replicate n 0) = 0 := by
  induction n with
  | zero => rfl
  | succ n ih => simp [List.replicate_succ, dv, ih]

theorem dv_append_zeros (B : Int) (a : List Int) (n : Nat) : dv B (a ++ List.replicate n 0) = dv B a := by
  rw [dv_append, dv_replicate]; simp

/-- two lists of digits of one length and one value are the same -/
theorem dv_inj_len {B : Int} (hB : 0 < B) : ∀ {a b : List Int}, Dig B a → Dig B b → a.length = b.length → dv B a = dv B b → a = b
  | [], [], _, _, _, _ => rfl
  | [], _ :: _, _, _, h, _ => by simp at h
  | _ :: _, [], _, _, h, _ => by simp at h
  | x :: xs, y :: ys, ha, hb, hl, hv => by
    have h1 := ha.head
    have h2 := hb.head
    simp only [dv] at hv
    have e1 : (x + B * dv B xs) % B = x := by rw [Int.add_mul_emod_self_left, Int.emod_eq_of_lt h1.1 h1.2]
    have e2 : (y + B * dv B ys) % B = y := by rw [Int.add_mul_emod_self_left, Int.emod_eq_of_lt h2.1 h2.2]
    have hxy : x = y := by rw [← e1, ← e2, hv]
    subst hxy
    have h3 : B * dv B xs = B * dv B ys := by omega
    have h4 : dv B xs = dv B ys := Int.eq_of_mul_eq_mul_left (by omega) h3
    rw [dv_inj_len hB ha.tail hb.tail (by simpa using hl) h4]

theorem Top.nil : Top [] := by simp [Top]
theorem Top.snoc {l : List Int} {x : Int} : Top (l ++ [x]) ↔ x ≠ 0 := by simp [Top]
theorem Can.nil (B : Int) : Can B [] := ⟨Dig.nil B, Top.nil⟩

theorem eq_snoc {α : Type} {l : List α} (h : l ≠ []) : ∃ a x, l = a ++ [x] :=
  ⟨l.dropLast, l.getLast h, (List.dropLast_concat_getLast h).symm⟩

theorem Can.ge {B : Int} (hB : 0 < B) {l : List Int} (h : Can B l) (hl : l ≠ []) : B ^ (l.length - 1) ≤ dv B l := by
  obtain ⟨a, x, rfl⟩ := eq_snoc hl
  have hx := Top.snoc.1 h.2
  have hd := h.1.right.head
  have ha := dv_nonneg hB h.1.left
  rw [dv_snoc]
  have : B ^ a.length * 1 ≤ B ^ a.length * x := Int.mul_le_mul_of_nonneg_left (by omega) (Int.le_of_lt (pow_pos' hB _))
  simp only [List.length_append, List.length_cons, List.length_nil, Nat.add_sub_cancel, Nat.zero_add]
  omega

theorem Can.pos {B : Int} (hB : 0 < B) {l : List Int} (h : Can B l) (hl : l ≠ []) : 0 < dv B l := by
  have := h.ge hB hl
  have := pow_pos' hB (l.length - 1)
  omega

theorem Can.eq_nil {B : Int} (hB : 0 < B) {l : List Int} (h : Can B l) : l = [] ↔ dv B l = 0 := by
  constructor
  · rintro rfl; rfl
  · intro hv
    apply Classical.byContradiction
    intro hl
    have := h.pos hB hl
    omega

theorem pow_mono {B : Int} (hB : 0 < B) {m n : Nat} (h : m ≤ n) : B ^ m ≤ B ^ n := by
  obtain ⟨d, rfl⟩ := Nat.exists_eq_add_of_le h
  rw [Int.pow_add]
  have h1 := pow_pos' hB m
  have h2 := pow_pos' hB d
  have : B ^ m * 1 ≤ B ^ m * B ^ d := Int.mul_le_mul_of_nonneg_left (by omega) (Int.le_of_lt h1)
  omega

/-- of two canonical lists the longer one is the greater -/
theorem Can.lt_of_length {B : Int} (hB : 0 < B) {a b : List Int} (ha : Dig B a) (hb : Can B b) (h : a.length < b.length) : dv B a < dv B b := by
  have h1 := dv_lt hB ha
  have hne : b ≠ [] := by rintro rfl; simp at h
  have h2 := hb.ge hB hne
  have h3 := pow_mono hB (show a.length ≤ b.length - 1 by omega)
  omega

theorem Can.inj {B : Int} (hB : 0 < B) {a b : List Int} (ha : Can B a) (hb : Can B b) (hv : dv B a = dv B b) : a = b := by
  rcases Nat.lt_trichotomy a.length b.length with h | h | h
  · have := Can.lt_of_length hB ha.1 hb h; omega
  · exact dv_inj_len hB ha.1 hb.1 h hv
  · have := Can.lt_of_length hB hb.1 ha h; omega

/-- without noughts at the end -/
def trimz : List Int → List Int
  | [] => []
  | x :: xs => if trimz xs = [] ∧ x = 0 then [] else x :: trimz xs

theorem trimz_dig {B : Int} {l : List Int} (h : Dig B l) : Dig B (trimz l) := by
  induction l with
  | nil => exact h
  | cons x xs ih =>
    simp only [trimz]; split
    · exact Dig.nil B
    · exact Dig.cons h.head (ih h.tail)

theorem trimz_top (l : List Int) : Top (trimz l) := by
  induction l with
  | nil => exact Top.nil
  | cons x xs ih =>
    simp only [trimz]; split
    · exact Top.nil
    · rename_i hn
      by_cases he : trimz xs = []
      · rw [he]; simp [Top]; intro hx; exact hn ⟨he, hx⟩
      · unfold Top; rw [List.getLast?_cons_of_ne_nil he]; exact ih

theorem trimz_dv (B : Int) (l : List Int) : dv B (trimz l) = dv B l := by
  induction l with
  | nil => rfl
  | cons x xs ih =>
    simp only [trimz]; split
    · rename_i h
      rw [h.1] at ih; simp only [dv] at *; rw [← ih, h.2]; simp
    · simp only [dv, ih]

theorem trimz_can {B : Int} {l : List Int} (h : Dig B l) : Can B (trimz l) := ⟨trimz_dig h, trimz_top l⟩

theorem trimz_snoc_zero (l : List Int) : trimz (l ++ [0]) = trimz l := by
  induction l with
  | nil => simp [trimz]
  | cons x xs ih => simp only [List.cons_append, trimz, ih]

theorem trimz_of_top {l : List Int} (h : Top l) : trimz l = l := by
  induction l with
  | nil => rfl
  | cons x xs ih =>
    simp only [trimz]
    by_cases he : xs = []
    · subst he
      have : x ≠ 0 := by simpa [Top] using h
      simp [trimz, this]
    · have ht : Top xs := by unfold Top at *; rwa [List.getLast?_cons_of_ne_nil he] at h
      rw [ih ht, if_neg (by simp [he])]

theorem trimz_length (l : List Int) : (trimz l).length ≤ l.length := by
  induction l with
  | nil => simp [trimz]
  | cons x xs ih => simp only [trimz]; split <;> simp <;> omega

end Go.Proofs.YtbmogniipgmkiaaGreat.Tri
