/- The law CanonQueries holds of every input: the row, and its card. -/
import Derived.Test.YthpadfhhadcghaaDoorQCQ3
import Derived.Test.YthpadfhhadcghaaDoorQCQ1
import Derived.WalkKit
import Derived.ProofKit
import Derived.OpenShut
import Derived.ShutString
import Derived.ChangeOld
import Derived.Lib.SmallJoins
import Derived.Lay
import Derived.Test.YthpadfhhadcghaaDoorQCQ2
import Derived.Lib.ItoaLen
import Derived.Laws.BitsAllLaws
import Derived.Test.YthpadfhhadcghaaDoorCards
import Derived.Test.YthpadfhhadcghaaDoorTie
import Derived.Below
import Derived.SevenTiedAt
import Derived.Lib.LaidTab
import Derived.Lib.LaidU8
import Derived.Stop.LaidErr
import Derived.LaidMore
/- The code comes to the printed functions (printed by a program of ours). -/
namespace Go.Proofs.YthpadfhhadcghaaDoor.AE
open Go Go.RowKit Go.Proofs.YthpadfhhadcghaaDoor.AP
set_option linter.unusedVariables false
set_option maxRecDepth 20000
theorem en76 : Enters Tryd.prog 76 := ⟨_, Tryd.func76, rfl, rfl⟩
theorem k_canon_each_api_Prefix__addr_Text {p0 : (List D_api_Prefix)} {y : (List ByteArray)} (h : m_canon_each_api_Prefix__addr_Text p0 = some y) : Spec Tryd.prog 76 [(.v (.sl Y_api_Prefix) p0), (.fn 18 [])] (.v (.sl .str) y) [] := by
  rw [m_canon_each_api_Prefix__addr_Text] at h
  refine enterN [(.v (.sl Y_api_Prefix) p0), (.fn 18 [])] 26 Tryd.func76 rfl rfl rfl ?_
  refine T.seq ?_
  refine T.region ?_
  refine Run.go (Ev.assign rfl rfl) ?_
  refine Run.nil ?_
  refine T.seq ?_
  refine T.region ?_
  refine Run.go (Ev.move rfl rfl) ?_
  refine Run.go (Ev.len X rfl rfl rfl rfl) ?_
  obtain ⟨x1, e2, h⟩ := bdS h
  refine Run.go (Ev.e_mk X 1 e2 rfl rfl rfl rfl rfl rfl) ?_
  refine Run.go (Ev.assign rfl rfl) ?_
  refine Run.nil ?_
  obtain ⟨v3, hv, h⟩ := bdS h
  refine T.cut (fun _ : Unit => (⟨[(5, .own 1)], [(1, .arr 9 .str v3)], 26⟩ : St)) (fun _ => True) ?_ (fun _ _ => ?_)
  · replace h := hv
    clear hv
    refine T.seq ?_
    refine T.region ?_
    refine Run.go (Ev.move rfl rfl) ?_
    refine Run.go (Ev.len X rfl rfl rfl rfl) ?_
    refine Run.go (Ev.move rfl rfl) ?_
    refine Run.nil ?_
    refine T.block ?_
    refine T.loop (LoopT.ghost (Ghost.only [(1, 1)] [1, 5, 11, 12, 13] rfl) (LoopT.run (fun q : Int × (List ByteArray) => (⟨[(1, .fn 18 []), (5, .own 1), (11, .v (.sl Y_api_Prefix) p0), (12, .v (.int .i64) ((p0.length : Int) : Int)), (13, .v (.int .i64) q.1)], [(1, .arr 9 .str q.2)], 26⟩ : St)) (fun q z1 h hz1 => ?_) h))
    obtain ⟨v4, v5⟩ := q
    dsimp only
    rw [m_canon_each_api_Prefix__addr_Text_l1] at h
    refine T.seq ?_
    refine T.region ?_
    refine Run.go (Ev.int rfl rfl rfl rfl trivial) ?_
    refine Run.nil ?_
    refine T.seq ?_
    refine T.cond rfl (fun hb6 => ?_) (fun hb6 => ?_)
    · replace h := ifT hb6 h
      refine T.skip ?_
      refine T.seq ?_
      refine T.block ?_
      refine T.seq ?_
      refine T.region ?_
      refine Run.go (Ev.move rfl rfl) ?_
      obtain ⟨x7, e8, h⟩ := bdS h
      refine Run.go (Ev.e_rd X e8 rfl rfl rfl rfl) ?_
      refine Run.go (Ev.load X rfl rfl rfl) ?_
      refine Run.go (Ev.allocN X 14 rfl rfl rfl) ?_
      refine Run.go (Ev.assign rfl rfl) ?_
      refine Run.do_ (Ev.storeBox X rfl rfl rfl rfl rfl rfl rfl) ?_
      refine Run.nil ?_
      refine T.region ?_
      refine Run.go (Ev.move rfl rfl) ?_
      refine Run.go (Ev.move rfl rfl) ?_
      refine Run.go (Ev.move rfl rfl) ?_
      refine Run.go (Ev.loadBox X rfl rfl rfl rfl rfl) ?_
      obtain ⟨x9, e10, h⟩ := bdS h
      refine Run.go (Ev.callC en18 (k_addr_Text e10) rfl (.cons .v .nil) rfl rfl) ?_
      obtain ⟨j11, e12, h⟩ := bdS h
      refine Run.go (Ev.e_ixO X e12 rfl rfl rfl rfl rfl) ?_
      obtain ⟨x13, e14, h⟩ := ltS h
      refine Run.do_ (Ev.asO (Ev.storeEl X rfl rfl rfl rfl rfl) e14) ?_
      refine Run.nil ?_
      refine T.region ?_
      refine Run.go (Ev.int rfl rfl rfl rfl trivial) ?_
      refine Run.go (Ev.move rfl rfl) ?_
      refine Run.nil ?_
      cases h
      exact LoopT.ghost (Ghost.only [(1, 1)] [1, 5, 11, 12, 13] rfl) hz1
    · replace h := ifF hb6 h
      refine T.exit ?_
      cases h
      cases hz1
      exact ⟨(), trivial, Ghost.only [(1, 1)] [5] rfl⟩
  · refine T.seq ?_
    refine T.region ?_
    refine Run.go (Ev.move rfl rfl) ?_
    refine Run.go (Ev.assign rfl rfl) ?_
    refine Run.nil ?_
    refine T.ret ?_
    cases h
    exact Fin.one rfl (.own rfl)
theorem en55 : Enters Tryd.prog 55 := ⟨_, Tryd.func55, rfl, rfl⟩
theorem k_canon_node {p0 : D_api_Node} {y : ByteArray} (h : m_canon_node p0 = some y) : Spec Tryd.prog 55 [(.v Y_api_Node p0)] (.v .str y) [] := by
  rw [m_canon_node] at h
  refine enterN [(.v Y_api_Node p0)] 21 Tryd.func55 rfl rfl rfl ?_
  refine T.seq ?_
  refine T.region ?_
  refine Run.go (Ev.box 1 rfl rfl rfl rfl) ?_
  refine Run.go (Ev.assign rfl rfl) ?_
  refine Run.nil ?_
  refine T.seq ?_
  refine T.region ?_
  refine Run.go (Ev.fieldBox X rfl rfl rfl rfl rfl) ?_
  refine Run.go (Ev.loadCell X rfl rfl rfl rfl rfl rfl) ?_
  refine Run.go (Ev.build X 2 rfl rfl rfl rfl rfl rfl rfl rfl) ?_
  obtain ⟨x1, e2, h⟩ := bdS h
  refine Run.go (Ev.lend rfl (.cons (.own rfl) .nil) en16 (k_canon_words e2) rfl rfl) ?_
  refine Run.go (Ev.assign rfl rfl) ?_
  refine Run.nil ?_
  obtain ⟨v3, hv, h⟩ := bdS h
  refine T.cut (fun _ : Unit => (⟨[(3, .v .str v3)], [], 21⟩ : St)) (fun _ => True) ?_ (fun _ _ => ?_)
  · replace h := hv
    clear hv
    refine T.seq ?_
    refine T.region ?_
    refine Run.go (Ev.fieldBox X rfl rfl rfl rfl rfl) ?_
    refine Run.go (Ev.loadCell X rfl rfl rfl rfl rfl rfl) ?_
    refine Run.go (Ev.len X rfl rfl rfl rfl) ?_
    refine Run.go (Ev.int rfl rfl rfl rfl trivial) ?_
    refine Run.nil ?_
    refine T.cond rfl (fun hb4 => ?_) (fun hb4 => ?_)
    · replace h := ifT hb4 h
      refine T.region ?_
      refine Run.go (Ev.move rfl rfl) ?_
      refine Run.go (Ev.fieldBox X rfl rfl rfl rfl rfl) ?_
      refine Run.go (Ev.loadCell X rfl rfl rfl rfl rfl rfl) ?_
      obtain ⟨x5, e6, h⟩ := bdS h
      refine Run.go (Ev.callC en76 (k_canon_each_api_Prefix__addr_Text e6) rfl (.cons .v (.cons (.fn rfl) .nil)) rfl rfl) ?_
      obtain ⟨x7, e8, h⟩ := bdS h
      refine Run.go (Ev.callC en22 (k_strings_Join e8) rfl (.cons .v (.cons .v .nil)) rfl rfl) ?_
      refine Run.go (Ev.build X 4 rfl rfl rfl rfl rfl rfl rfl rfl) ?_
      obtain ⟨x9, e10, h⟩ := bdS h
      refine Run.go (Ev.lend rfl (.cons (.own rfl) .nil) en16 (k_canon_words e10) rfl rfl) ?_
      refine Run.go (Ev.assign rfl rfl) ?_
      refine Run.nil ?_
      cases h
      exact ⟨(), trivial, Ghost.only [] [3] rfl⟩
    · replace h := ifF hb4 h
      refine T.skip ?_
      cases h
      exact ⟨(), trivial, Ghost.only [] [3] rfl⟩
  · refine T.seq ?_
    refine T.region ?_
    refine Run.go (Ev.move rfl rfl) ?_
    obtain ⟨x11, e12, h⟩ := bdS h
    refine Run.go (Ev.e_cat e12 rfl rfl rfl) ?_
    refine Run.go (Ev.assign rfl rfl) ?_
    refine Run.nil ?_
    refine T.ret ?_
    cases h
    exact Fin.one rfl .v
theorem en54 : Enters Tryd.prog 54 := ⟨_, Tryd.func54, rfl, rfl⟩
theorem k_canon_each_api_Node__canon_node {p0 : (List D_api_Node)} {y : (List ByteArray)} (h : m_canon_each_api_Node__canon_node p0 = some y) : Spec Tryd.prog 54 [(.v (.sl Y_api_Node) p0), (.fn 55 [])] (.v (.sl .str) y) [] := by
  rw [m_canon_each_api_Node__canon_node] at h
  refine enterN [(.v (.sl Y_api_Node) p0), (.fn 55 [])] 26 Tryd.func54 rfl rfl rfl ?_
  refine T.seq ?_
  refine T.region ?_
  refine Run.go (Ev.assign rfl rfl) ?_
  refine Run.nil ?_
  refine T.seq ?_
  refine T.region ?_
  refine Run.go (Ev.move rfl rfl) ?_
  refine Run.go (Ev.len X rfl rfl rfl rfl) ?_
  obtain ⟨x1, e2, h⟩ := bdS h
  refine Run.go (Ev.e_mk X 1 e2 rfl rfl rfl rfl rfl rfl) ?_
  refine Run.go (Ev.assign rfl rfl) ?_
  refine Run.nil ?_
  obtain ⟨v3, hv, h⟩ := bdS h
  refine T.cut (fun _ : Unit => (⟨[(5, .own 1)], [(1, .arr 9 .str v3)], 26⟩ : St)) (fun _ => True) ?_ (fun _ _ => ?_)
  · replace h := hv
    clear hv
    refine T.seq ?_
    refine T.region ?_
    refine Run.go (Ev.move rfl rfl) ?_
    refine Run.go (Ev.len X rfl rfl rfl rfl) ?_
    refine Run.go (Ev.move rfl rfl) ?_
    refine Run.nil ?_
    refine T.block ?_
    refine T.loop (LoopT.ghost (Ghost.only [(1, 1)] [1, 5, 11, 12, 13] rfl) (LoopT.run (fun q : Int × (List ByteArray) => (⟨[(1, .fn 55 []), (5, .own 1), (11, .v (.sl Y_api_Node) p0), (12, .v (.int .i64) ((p0.length : Int) : Int)), (13, .v (.int .i64) q.1)], [(1, .arr 9 .str q.2)], 26⟩ : St)) (fun q z1 h hz1 => ?_) h))
    obtain ⟨v4, v5⟩ := q
    dsimp only
    rw [m_canon_each_api_Node__canon_node_l1] at h
    refine T.seq ?_
    refine T.region ?_
    refine Run.go (Ev.int rfl rfl rfl rfl trivial) ?_
    refine Run.nil ?_
    refine T.seq ?_
    refine T.cond rfl (fun hb6 => ?_) (fun hb6 => ?_)
    · replace h := ifT hb6 h
      refine T.skip ?_
      refine T.seq ?_
      refine T.block ?_
      refine T.seq ?_
      refine T.region ?_
      refine Run.go (Ev.move rfl rfl) ?_
      obtain ⟨x7, e8, h⟩ := bdS h
      refine Run.go (Ev.e_rd X e8 rfl rfl rfl rfl) ?_
      refine Run.go (Ev.load X rfl rfl rfl) ?_
      refine Run.go (Ev.allocN X 14 rfl rfl rfl) ?_
      refine Run.go (Ev.assign rfl rfl) ?_
      refine Run.do_ (Ev.storeBox X rfl rfl rfl rfl rfl rfl rfl) ?_
      refine Run.nil ?_
      refine T.region ?_
      refine Run.go (Ev.move rfl rfl) ?_
      refine Run.go (Ev.move rfl rfl) ?_
      refine Run.go (Ev.move rfl rfl) ?_
      refine Run.go (Ev.loadBox X rfl rfl rfl rfl rfl) ?_
      obtain ⟨x9, e10, h⟩ := bdS h
      refine Run.go (Ev.callC en55 (k_canon_node e10) rfl (.cons .v .nil) rfl rfl) ?_
      obtain ⟨j11, e12, h⟩ := bdS h
      refine Run.go (Ev.e_ixO X e12 rfl rfl rfl rfl rfl) ?_
      obtain ⟨x13, e14, h⟩ := ltS h
      refine Run.do_ (Ev.asO (Ev.storeEl X rfl rfl rfl rfl rfl) e14) ?_
      refine Run.nil ?_
      refine T.region ?_
      refine Run.go (Ev.int rfl rfl rfl rfl trivial) ?_
      refine Run.go (Ev.move rfl rfl) ?_
      refine Run.nil ?_
      cases h
      exact LoopT.ghost (Ghost.only [(1, 1)] [1, 5, 11, 12, 13] rfl) hz1
    · replace h := ifF hb6 h
      refine T.exit ?_
      cases h
      cases hz1
      exact ⟨(), trivial, Ghost.only [(1, 1)] [5] rfl⟩
  · refine T.seq ?_
    refine T.region ?_
    refine Run.go (Ev.move rfl rfl) ?_
    refine Run.go (Ev.assign rfl rfl) ?_
    refine Run.nil ?_
    refine T.ret ?_
    cases h
    exact Fin.one rfl (.own rfl)
theorem en107 : Enters Tryd.prog 107 := ⟨_, Tryd.func107, rfl, rfl⟩
theorem k_digits_based {p0 : Int} {y : Int} (h : m_digits_based p0 = some y) : Spec Tryd.prog 107 [(.v (.int .i64) p0)] (.v (.int .i64) y) [] := by
  rw [m_digits_based] at h
  refine enterN [(.v (.int .i64) p0)] 9 Tryd.func107 rfl rfl rfl ?_
  refine T.seq ?_
  refine T.region ?_
  refine Run.go (Ev.assign rfl rfl) ?_
  refine Run.nil ?_
  refine T.seq ?_
  obtain ⟨v1, hv, h⟩ := bdS h
  refine T.cut (fun _ : Unit => (⟨[(8, .v .bool v1)], [], 9⟩ : St)) (fun _ => True) ?_ (fun _ _ => ?_)
  · replace h := hv
    clear hv
    refine T.region ?_
    refine Run.go (Ev.move rfl rfl) ?_
    refine Run.go (Ev.int rfl rfl rfl rfl trivial) ?_
    refine Run.go (Ev.move rfl rfl) ?_
    rcases boolCases (decide (p0 < 2)) with hb2 | hb2
    · replace h := ifT hb2 h
      refine Run.offT rfl rfl rfl rfl hb2 ?_
      refine Run.offT rfl rfl rfl rfl hb2 ?_
      refine Run.go (Ev.pickT rfl hb2 rfl rfl) ?_
      refine Run.nil ?_
      cases h
      exact ⟨(), trivial, Ghost.only [] [8] rfl⟩
    · replace h := ifF hb2 h
      refine Run.on rfl rfl rfl hb2 (Ev.move rfl rfl) ?_
      refine Run.on rfl rfl rfl hb2 (Ev.int rfl rfl rfl rfl trivial) ?_
      refine Run.go (Ev.pickF rfl hb2 rfl rfl) ?_
      refine Run.nil ?_
      cases h
      exact ⟨(), trivial, Ghost.only [] [8] rfl⟩
  · refine T.cond rfl (fun hb3 => ?_) (fun hb3 => ?_)
    · replace h := ifT hb3 h
      refine T.seq ?_
      refine T.region ?_
      refine Run.go (Ev.assign rfl rfl) ?_
      refine Run.nil ?_
      refine T.ret ?_
      cases h
      exact Fin.one rfl .v
    · replace h := ifF hb3 h
      refine T.skip ?_
      refine T.seq ?_
      refine T.region ?_
      refine Run.go (Ev.assign rfl rfl) ?_
      refine Run.nil ?_
      refine T.ret ?_
      cases h
      exact Fin.one rfl .v
theorem en126 : Enters Tryd.prog 126 := ⟨_, Tryd.func126, rfl, rfl⟩
theorem k_digits_chunk {p0 : Int} {y : Int × Int} (h : m_digits_chunk p0 = some y) : Spec Tryd.prog 126 [(.v (.int .i64) p0)] (.tup [.v (.int .u64) y.1, .v (.int .i64) y.2]) [] := by
  rw [m_digits_chunk] at h
  refine enterN [(.v (.int .i64) p0)] 21 Tryd.func126 rfl rfl rfl ?_
  refine T.seq ?_
  refine T.region ?_
  refine Run.go (Ev.assign rfl rfl) ?_
  refine Run.go (Ev.assign rfl rfl) ?_
  refine Run.nil ?_
  refine T.seq ?_
  refine T.region ?_
  refine Run.go (Ev.move rfl rfl) ?_
  refine Run.go (Ev.conv X rfl rfl rfl rfl) ?_
  refine Run.go (Ev.assign rfl rfl) ?_
  refine Run.go (Ev.assign rfl rfl) ?_
  refine Run.nil ?_
  obtain ⟨⟨v1, v2⟩, hv, h⟩ := bdS h
  refine T.cut (fun _ : Unit => (⟨[(4, .v (.int .u64) v1), (5, .v (.int .i64) v2)], [], 21⟩ : St)) (fun _ => True) ?_ (fun _ _ => ?_)
  · replace h := hv
    clear hv
    refine T.block ?_
    refine T.loop (LoopT.ghost (Ghost.only [] [0, 4, 5] rfl) (LoopT.run (fun q : Int × Int => (⟨[(0, .v (.int .i64) p0), (4, .v (.int .u64) q.1), (5, .v (.int .i64) q.2)], [], 21⟩ : St)) (fun q z1 h hz1 => ?_) h))
    obtain ⟨v3, v4⟩ := q
    dsimp only
    rw [m_digits_chunk_l1] at h
    refine T.seq ?_
    refine T.seq ?_
    refine T.region ?_
    refine Run.go (Ev.move rfl rfl) ?_
    refine Run.go (Ev.move rfl rfl) ?_
    refine Run.go (Ev.conv X rfl rfl rfl rfl) ?_
    refine Run.go (Ev.int rfl rfl rfl rfl trivial) ?_
    refine Run.go (Ev.int rfl rfl rfl rfl trivial) ?_
    refine Run.nil ?_
    refine T.cond rfl (fun hb5 => ?_) (fun hb5 => ?_)
    · replace h := ifT hb5 h
      refine T.skip ?_
      refine T.block ?_
      refine T.seq ?_
      refine T.region ?_
      refine Run.go (Ev.move rfl rfl) ?_
      refine Run.go (Ev.move rfl rfl) ?_
      refine Run.go (Ev.conv X rfl rfl rfl rfl) ?_
      refine Run.go (Ev.int rfl rfl rfl rfl trivial) ?_
      refine Run.go (Ev.assign rfl rfl) ?_
      refine Run.nil ?_
      refine T.region ?_
      refine Run.go (Ev.move rfl rfl) ?_
      refine Run.go (Ev.int rfl rfl rfl rfl trivial) ?_
      refine Run.go (Ev.assign rfl rfl) ?_
      refine Run.nil ?_
      cases h
      exact LoopT.ghost (Ghost.only [] [0, 4, 5] rfl) hz1
    · replace h := ifF hb5 h
      refine T.exit ?_
      cases h
      cases hz1
      exact ⟨(), trivial, Ghost.only [] [4, 5] rfl⟩
  · refine T.seq ?_
    refine T.region ?_
    refine Run.go (Ev.move rfl rfl) ?_
    refine Run.go (Ev.move rfl rfl) ?_
    refine Run.go (Ev.assign rfl rfl) ?_
    refine Run.go (Ev.assign rfl rfl) ?_
    refine Run.nil ?_
    refine T.ret ?_
    cases h
    exact Fin.many X rfl (.cons (.tmp .v) (.cons (.tmp .v) .nil)) rfl
theorem en114 : Enters Tryd.prog 114 := ⟨_, Tryd.func114, rfl, rfl⟩
theorem k_nat_trim {p0 : (List Int)} {y : (List Int)} (h : m_nat_trim p0 = some y) : Spec Tryd.prog 114 [(.v (.sl (.int .u64)) p0)] (.v (.sl (.int .u64)) y) [] := by
  rw [m_nat_trim] at h
  refine enterN [(.v (.sl (.int .u64)) p0)] 21 Tryd.func114 rfl rfl rfl ?_
  refine T.seq ?_
  refine T.region ?_
  refine Run.go (Ev.assign rfl rfl) ?_
  refine Run.nil ?_
  refine T.seq ?_
  refine T.region ?_
  refine Run.go (Ev.move rfl rfl) ?_
  refine Run.go (Ev.len X rfl rfl rfl rfl) ?_
  refine Run.go (Ev.assign rfl rfl) ?_
  refine Run.nil ?_
  obtain ⟨v1, hv, h⟩ := bdS h
  refine T.cut (fun _ : Unit => (⟨[(0, .v (.sl (.int .u64)) p0), (3, .v (.int .i64) v1)], [], 21⟩ : St)) (fun _ => True) ?_ (fun _ _ => ?_)
  · replace h := hv
    clear hv
    refine T.block ?_
    refine T.loop (LoopT.ghost (Ghost.only [] [0, 3] rfl) (LoopT.run (fun q : Int => (⟨[(0, .v (.sl (.int .u64)) p0), (3, .v (.int .i64) q)], [], 21⟩ : St)) (fun v2 z1 h hz1 => ?_) h))
    rw [m_nat_trim_l1] at h
    refine T.seq ?_
    obtain ⟨v3, hv, h⟩ := bdS h
    refine T.cut (fun _ : Unit => (⟨[(0, .v (.sl (.int .u64)) p0), (3, .v (.int .i64) v2), (15, .v .bool v3)], [], 21⟩ : St)) (fun _ => True) ?_ (fun _ _ => ?_)
    · replace h := hv
      clear hv
      refine T.region ?_
      refine Run.go (Ev.move rfl rfl) ?_
      refine Run.go (Ev.int rfl rfl rfl rfl trivial) ?_
      refine Run.go (Ev.move rfl rfl) ?_
      rcases boolCases (decide (0 < v2)) with hb4 | hb4
      · replace h := ifT hb4 h
        refine Run.on rfl rfl rfl hb4 (Ev.move rfl rfl) ?_
        refine Run.on rfl rfl rfl hb4 (Ev.move rfl rfl) ?_
        refine Run.on rfl rfl rfl hb4 (Ev.int rfl rfl rfl rfl trivial) ?_
        obtain ⟨x5, e6, h⟩ := bdS h
        refine Run.on rfl rfl rfl hb4 (Ev.e_rd X e6 rfl rfl rfl rfl) ?_
        refine Run.on rfl rfl rfl hb4 (Ev.load X rfl rfl rfl) ?_
        refine Run.on rfl rfl rfl hb4 (Ev.int rfl rfl rfl rfl trivial) ?_
        refine Run.go (Ev.pickT rfl hb4 rfl rfl) ?_
        refine Run.nil ?_
        cases h
        exact ⟨(), trivial, Ghost.only [] [0, 3, 15] rfl⟩
      · replace h := ifF hb4 h
        refine Run.offT rfl rfl rfl rfl hb4 ?_
        refine Run.offT rfl rfl rfl rfl hb4 ?_
        refine Run.offT rfl rfl rfl rfl hb4 ?_
        refine Run.offT rfl rfl rfl rfl hb4 ?_
        refine Run.offT rfl rfl rfl rfl hb4 ?_
        refine Run.offT rfl rfl rfl rfl hb4 ?_
        refine Run.go (Ev.pickF rfl hb4 rfl rfl) ?_
        refine Run.nil ?_
        cases h
        exact ⟨(), trivial, Ghost.only [] [0, 3, 15] rfl⟩
    · refine T.cond rfl (fun hb7 => ?_) (fun hb7 => ?_)
      · replace h := ifT hb7 h
        refine T.skip ?_
        refine T.block ?_
        refine T.region ?_
        refine Run.go (Ev.move rfl rfl) ?_
        refine Run.go (Ev.int rfl rfl rfl rfl trivial) ?_
        refine Run.go (Ev.assign rfl rfl) ?_
        refine Run.nil ?_
        cases h
        exact LoopT.ghost (Ghost.only [] [0, 3] rfl) hz1
      · replace h := ifF hb7 h
        refine T.exit ?_
        cases h
        cases hz1
        exact ⟨(), trivial, Ghost.only [] [0, 3] rfl⟩
  · refine T.seq ?_
    refine T.region ?_
    refine Run.go (Ev.move rfl rfl) ?_
    refine Run.go (Ev.move rfl rfl) ?_
    obtain ⟨x8, e9, h⟩ := bdS h
    refine Run.go (Ev.e_ct X e9 rfl rfl rfl (fun _ h => by cases h) (fun _ => rfl) (fun _ _ => cutAt_of rfl) (fun h => by cases h)) ?_
    refine Run.go (Ev.assign rfl rfl) ?_
    refine Run.nil ?_
    refine T.ret ?_
    cases h
    exact Fin.one rfl .v
theorem en127 : Enters Tryd.prog 127 := ⟨_, Tryd.func127, rfl, rfl⟩
theorem k_nat_Make {p0 : (List Int)} {y : (List Int) × Int} (h : m_nat_Make p0 = some y) : Spec Tryd.prog 127 [(.v (.sl (.int .u64)) p0)] (.tup [.v (.sl (.int .u64)) y.1, .v (.int .i64) y.2]) [] := by
  rw [m_nat_Make] at h
  refine enterN [(.v (.sl (.int .u64)) p0)] 25 Tryd.func127 rfl rfl rfl ?_
  refine T.seq ?_
  refine T.region ?_
  refine Run.go (Ev.assign rfl rfl) ?_
  refine Run.go (Ev.assign rfl rfl) ?_
  refine Run.nil ?_
  refine T.seq ?_
  refine T.region ?_
  refine Run.go (Ev.move rfl rfl) ?_
  refine Run.go (Ev.len X rfl rfl rfl rfl) ?_
  obtain ⟨x1, e2, h⟩ := bdS h
  refine Run.go (Ev.e_mk X 1 e2 rfl rfl rfl rfl rfl rfl) ?_
  refine Run.go (Ev.assign rfl rfl) ?_
  refine Run.nil ?_
  refine T.seq ?_
  refine T.seq ?_
  refine T.region ?_
  refine Run.go (Ev.move rfl rfl) ?_
  refine Run.go (Ev.len X rfl rfl rfl rfl) ?_
  refine Run.go (Ev.move rfl rfl) ?_
  refine Run.nil ?_
  refine T.block ?_
  refine T.loop (LoopT.ghost (Ghost.only [(1, 5)] [4, 10, 11, 12] rfl) (LoopT.run (fun q : Int × (List Int) => (⟨[(4, .own 5), (10, .v (.sl (.int .u64)) p0), (11, .v (.int .i64) ((p0.length : Int) : Int)), (12, .v (.int .i64) q.1)], [(5, .arr 94 (.int .u64) q.2)], 25⟩ : St)) (fun q z1 h hz1 => ?_) h))
  obtain ⟨v3, v4⟩ := q
  dsimp only
  rw [m_nat_Make_l1] at h
  refine T.seq ?_
  refine T.region ?_
  refine Run.go (Ev.int rfl rfl rfl rfl trivial) ?_
  refine Run.nil ?_
  refine T.seq ?_
  refine T.cond rfl (fun hb5 => ?_) (fun hb5 => ?_)
  · replace h := ifT hb5 h
    refine T.skip ?_
    refine T.seq ?_
    refine T.block ?_
    refine T.seq ?_
    refine T.region ?_
    obtain ⟨x6, e7, h⟩ := bdS h
    refine Run.go (Ev.e_rd X e7 rfl rfl rfl rfl) ?_
    refine Run.go (Ev.load X rfl rfl rfl) ?_
    refine Run.go (Ev.assign rfl rfl) ?_
    refine Run.nil ?_
    refine T.seq ?_
    refine T.seq ?_
    refine T.region ?_
    refine Run.go (Ev.move rfl rfl) ?_
    refine Run.go (Ev.int rfl rfl rfl rfl trivial) ?_
    refine Run.nil ?_
    refine T.cond rfl (fun hb8 => ?_) (fun hb8 => ?_)
    · replace h := ifT hb8 h
      refine T.seq ?_
      refine T.region ?_
      refine Run.go (Ev.assign rfl rfl) ?_
      refine Run.go (Ev.assign rfl rfl) ?_
      refine Run.nil ?_
      refine T.ret ?_
      cases h
      cases hz1
      exact Fin.many X rfl (.cons (.tmp .nilv) (.cons (.tmp .v) .nil)) rfl
    · replace h := ifF hb8 h
      refine T.skip ?_
      refine T.region ?_
      refine Run.go (Ev.move rfl rfl) ?_
      refine Run.go (Ev.move rfl rfl) ?_
      refine Run.go (Ev.build X 9 rfl rfl rfl rfl rfl rfl rfl rfl) ?_
      obtain ⟨x9, e10, h⟩ := bdS h
      refine Run.go (Ev.e_ap X 10 e10 rfl rfl rfl (.own rfl) rfl rfl rfl rfl rfl) ?_
      refine Run.go (Ev.assign rfl rfl) ?_
      refine Run.nil ?_
      refine T.region ?_
      refine Run.go (Ev.int rfl rfl rfl rfl trivial) ?_
      refine Run.go (Ev.move rfl rfl) ?_
      refine Run.nil ?_
      cases h
      exact LoopT.ghost (Ghost.only [(10, 5)] [4, 10, 11, 12] rfl) hz1
  · replace h := ifF hb5 h
    refine T.exit ?_
    refine T.seq ?_
    refine T.region ?_
    refine Run.go (Ev.move rfl rfl) ?_
    refine Run.ghost (Ghost.firmAll (id := 5) rfl) ?_
    obtain ⟨x11, e12, h⟩ := bdS h
    refine Run.go (Ev.callC en114 (k_nat_trim e12) rfl (.cons .v .nil) rfl rfl) ?_
    refine Run.go (Ev.assign rfl rfl) ?_
    refine Run.go (Ev.assign rfl rfl) ?_
    refine Run.nil ?_
    refine T.ret ?_
    cases h
    cases hz1
    exact Fin.many X rfl (.cons (.tmp .v) (.cons (.tmp .v) .nil)) rfl
theorem en133 : Enters Tryd.prog 133 := ⟨_, Tryd.func133, rfl, rfl⟩
theorem k_limb_Div {p0 : Int} {p1 : Int} {p2 : Int} {y : Int × Int × Int} (h : m_limb_Div p0 p1 p2 = some y) : Spec Tryd.prog 133 [(.v (.int .u64) p0), (.v (.int .u64) p1), (.v (.int .u64) p2)] (.tup [.v (.int .u64) y.1, .v (.int .u64) y.2.1, .v (.int .i64) y.2.2]) [] := by
  rw [m_limb_Div] at h
  refine enterN [(.v (.int .u64) p0), (.v (.int .u64) p1), (.v (.int .u64) p2)] 33 Tryd.func133 rfl rfl rfl ?_
  refine T.seq ?_
  refine T.region ?_
  refine Run.go (Ev.assign rfl rfl) ?_
  refine Run.go (Ev.assign rfl rfl) ?_
  refine Run.go (Ev.assign rfl rfl) ?_
  refine Run.nil ?_
  refine T.seq ?_
  refine T.region ?_
  refine Run.go (Ev.move rfl rfl) ?_
  refine Run.go (Ev.int rfl rfl rfl rfl trivial) ?_
  refine Run.go (Ev.move rfl rfl) ?_
  refine Run.go (Ev.int rfl rfl rfl rfl trivial) ?_
  refine Run.go (Ev.move rfl rfl) ?_
  refine Run.go (Ev.int rfl rfl rfl rfl trivial) ?_
  refine Run.go (Ev.assign rfl rfl) ?_
  refine Run.go (Ev.assign rfl rfl) ?_
  refine Run.go (Ev.assign rfl rfl) ?_
  refine Run.nil ?_
  refine T.seq ?_
  refine T.block ?_
  refine T.seq ?_
  refine T.region ?_
  refine Run.go (Ev.move rfl rfl) ?_
  refine Run.go (Ev.int rfl rfl rfl rfl trivial) ?_
  obtain ⟨x1, e2, h⟩ := ltS h
  refine Run.go (Ev.avs (Ev.assign rfl rfl) e2) ?_
  refine Run.nil ?_
  refine T.cond rfl (fun hb3 => ?_) (fun hb3 => ?_)
  · replace h := ifT hb3 h
    refine T.seq ?_
    refine T.region ?_
    refine Run.go (Ev.assign rfl rfl) ?_
    refine Run.go (Ev.assign rfl rfl) ?_
    refine Run.go (Ev.assign rfl rfl) ?_
    refine Run.nil ?_
    refine T.ret ?_
    cases h
    exact Fin.many X rfl (.cons (.tmp .v) (.cons (.tmp .v) (.cons (.tmp .v) .nil))) rfl
  · replace h := ifF hb3 h
    refine T.seq ?_
    refine T.region ?_
    refine Run.go (Ev.move rfl rfl) ?_
    refine Run.go (Ev.move rfl rfl) ?_
    refine Run.go (Ev.int rfl rfl rfl rfl trivial) ?_
    obtain ⟨x4, e5, h⟩ := ltS h
    refine Run.go (Ev.avs (Ev.assign rfl rfl) e5) ?_
    refine Run.nil ?_
    refine T.cond rfl (fun hb6 => ?_) (fun hb6 => ?_)
    · replace h := ifT hb6 h
      refine T.seq ?_
      refine T.region ?_
      refine Run.go (Ev.assign rfl rfl) ?_
      refine Run.go (Ev.assign rfl rfl) ?_
      refine Run.go (Ev.assign rfl rfl) ?_
      refine Run.nil ?_
      refine T.ret ?_
      cases h
      exact Fin.many X rfl (.cons (.tmp .v) (.cons (.tmp .v) (.cons (.tmp .v) .nil))) rfl
    · replace h := ifF hb6 h
      refine T.skip ?_
      refine T.seq ?_
      refine T.region ?_
      refine Run.go (Ev.move rfl rfl) ?_
      obtain ⟨x7, e8, h⟩ := bdS h
      refine Run.go (Ev.e_sh e8 rfl rfl rfl) ?_
      refine Run.go (Ev.move rfl rfl) ?_
      refine Run.go (Ev.int rfl rfl rfl rfl trivial) ?_
      obtain ⟨x9, e10, h⟩ := ltS h
      refine Run.go (Ev.avs (Ev.assign rfl rfl) e10) ?_
      refine Run.nil ?_
      refine T.seq ?_
      refine T.drawM [] [0, 0, 3, 0, 0, 24, 7, 127, 255] (by kernel_rfl) (by kernel_rfl) ?_
      refine RunD.w (fun _ => Ev.move rfl rfl) ?_
      refine RunD.w (fun _ => Ev.move rfl rfl) ?_
      obtain ⟨x11, e12, h⟩ := bdS h
      refine RunD.w (fun _ => Ev.e_qd e12 rfl rfl rfl) ?_
      refine RunD.w (fun _ => Ev.move rfl rfl) ?_
      refine RunD.w (fun _ => Ev.move rfl rfl) ?_
      obtain ⟨x13, e14, h⟩ := bdS h
      refine RunD.w (fun _ => Ev.e_rm e14 rfl rfl rfl) ?_
      refine RunD.w (fun _ => Ev.assign rfl rfl) ?_
      refine RunD.w (fun _ => Ev.assign rfl rfl) ?_
      refine RunD.w (fun _ => Ev.assign rfl rfl) ?_
      refine RunD.nil ?_
      refine T.ret ?_
      cases h
      exact Fin.many X rfl (.cons (.tmp .v) (.cons (.tmp .v) (.cons (.tmp .v) .nil))) rfl
theorem en128 : Enters Tryd.prog 128 := ⟨_, Tryd.func128, rfl, rfl⟩
theorem k_divide_Small {p0 : (List Int)} {p1 : Int} {y : (List Int) × Int × Int} (h : m_divide_Small p0 p1 = some y) : Spec Tryd.prog 128 [(.v (.sl (.int .u64)) p0), (.v (.int .u64) p1)] (.tup [.v (.sl (.int .u64)) y.1, .v (.int .u64) y.2.1, .v (.int .i64) y.2.2]) [] := by
  rw [m_divide_Small] at h
  refine enterN [(.v (.sl (.int .u64)) p0), (.v (.int .u64) p1)] 51 Tryd.func128 rfl rfl rfl ?_
  refine T.seq ?_
  refine T.region ?_
  refine Run.go (Ev.assign rfl rfl) ?_
  refine Run.go (Ev.assign rfl rfl) ?_
  refine Run.go (Ev.assign rfl rfl) ?_
  refine Run.nil ?_
  refine T.seq ?_
  refine T.seq ?_
  refine T.region ?_
  refine Run.go (Ev.move rfl rfl) ?_
  obtain ⟨x1, e2, h⟩ := bdS h
  refine Run.go (Ev.e_rm e2 rfl rfl rfl) ?_
  refine Run.go (Ev.int rfl rfl rfl rfl trivial) ?_
  refine Run.nil ?_
  refine T.cond rfl (fun hb3 => ?_) (fun hb3 => ?_)
  · replace h := ifT hb3 h
    refine T.seq ?_
    refine T.region ?_
    refine Run.go (Ev.assign rfl rfl) ?_
    refine Run.go (Ev.assign rfl rfl) ?_
    refine Run.go (Ev.assign rfl rfl) ?_
    refine Run.nil ?_
    refine T.ret ?_
    cases h
    exact Fin.many X rfl (.cons (.tmp .nilv) (.cons (.tmp .v) (.cons (.tmp .v) .nil))) rfl
  · replace h := ifF hb3 h
    refine T.skip ?_
    refine T.seq ?_
    refine T.region ?_
    refine Run.go (Ev.move rfl rfl) ?_
    refine Run.go (Ev.len X rfl rfl rfl rfl) ?_
    obtain ⟨x4, e5, h⟩ := bdS h
    refine Run.go (Ev.e_mk X 1 e5 rfl rfl rfl rfl rfl rfl) ?_
    refine Run.go (Ev.assign rfl rfl) ?_
    refine Run.nil ?_
    refine T.seq ?_
    refine T.region ?_
    refine Run.go (Ev.assign rfl rfl) ?_
    refine Run.nil ?_
    obtain ⟨⟨v6, v7⟩, hv, h⟩ := bdS h
    refine T.cut (fun _ : Unit => (⟨[(7, .own 1), (8, .v (.int .u64) v6)], [(1, .arr 94 (.int .u64) v7)], 51⟩ : St)) (fun _ => True) ?_ (fun _ _ => ?_)
    · replace h := hv
      clear hv
      refine T.seq ?_
      refine T.region ?_
      refine Run.go (Ev.move rfl rfl) ?_
      refine Run.go (Ev.len X rfl rfl rfl rfl) ?_
      refine Run.go (Ev.move rfl rfl) ?_
      refine Run.nil ?_
      refine T.block ?_
      refine T.loop (LoopT.ghost (Ghost.only [(1, 1)] [0, 1, 7, 8, 20, 21] rfl) (LoopT.run (fun q : Int × Int × (List Int) => (⟨[(0, .v (.sl (.int .u64)) p0), (1, .v (.int .u64) p1), (7, .own 1), (8, .v (.int .u64) q.1), (20, .v (.int .i64) ((p0.length : Int) : Int)), (21, .v (.int .i64) q.2.1)], [(1, .arr 94 (.int .u64) q.2.2)], 51⟩ : St)) (fun q z1 h hz1 => ?_) h))
      obtain ⟨v8, v9, v10⟩ := q
      dsimp only
      rw [m_divide_Small_l1] at h
      refine T.seq ?_
      refine T.region ?_
      refine Run.go (Ev.int rfl rfl rfl rfl trivial) ?_
      refine Run.nil ?_
      refine T.seq ?_
      refine T.cond rfl (fun hb11 => ?_) (fun hb11 => ?_)
      · replace h := ifT hb11 h
        refine T.skip ?_
        refine T.seq ?_
        refine T.block ?_
        refine T.seq ?_
        refine T.region ?_
        refine Run.go (Ev.move rfl rfl) ?_
        refine Run.go (Ev.assign rfl rfl) ?_
        refine Run.nil ?_
        refine T.seq ?_
        refine T.region ?_
        refine Run.go (Ev.move rfl rfl) ?_
        refine Run.go (Ev.len X rfl rfl rfl rfl) ?_
        refine Run.go (Ev.int rfl rfl rfl rfl trivial) ?_
        refine Run.go (Ev.move rfl rfl) ?_
        refine Run.go (Ev.int rfl rfl rfl rfl trivial) ?_
        obtain ⟨x12, e13, h⟩ := ltS h
        refine Run.go (Ev.avs (Ev.assign rfl rfl) e13) ?_
        refine Run.nil ?_
        refine T.region ?_
        refine Run.go (Ev.move rfl rfl) ?_
        refine Run.go (Ev.move rfl rfl) ?_
        refine Run.go (Ev.move rfl rfl) ?_
        refine Run.go (Ev.move rfl rfl) ?_
        refine Run.go (Ev.move rfl rfl) ?_
        obtain ⟨x14, e15, h⟩ := bdS h
        refine Run.go (Ev.e_rd X e15 rfl rfl rfl rfl) ?_
        refine Run.go (Ev.load X rfl rfl rfl) ?_
        refine Run.go (Ev.move rfl rfl) ?_
        obtain ⟨x16, e17, h⟩ := bdS h
        refine Run.go (Ev.callC en133 (k_limb_Div e17) rfl (.cons .v (.cons .v (.cons .v .nil))) rfl rfl) ?_
        refine Run.go (Ev.move rfl rfl) ?_
        refine Run.go (Ev.extract rfl rfl rfl) ?_
        refine Run.go (Ev.extract rfl rfl rfl) ?_
        refine Run.go (Ev.extract rfl rfl rfl) ?_
        obtain ⟨j18, e19, h⟩ := bdS h
        refine Run.go (Ev.e_ixO X e19 rfl rfl rfl rfl rfl) ?_
        obtain ⟨x20, e21, h⟩ := ltS h
        refine Run.do_ (Ev.asO (Ev.storeEl X rfl rfl rfl rfl rfl) e21) ?_
        refine Run.go (Ev.assign rfl rfl) ?_
        refine Run.nil ?_
        refine T.region ?_
        refine Run.go (Ev.int rfl rfl rfl rfl trivial) ?_
        refine Run.go (Ev.move rfl rfl) ?_
        refine Run.nil ?_
        cases h
        exact LoopT.ghost (Ghost.only [(1, 1)] [0, 1, 7, 8, 20, 21] rfl) hz1
      · replace h := ifF hb11 h
        refine T.exit ?_
        cases h
        cases hz1
        exact ⟨(), trivial, Ghost.only [(1, 1)] [7, 8] rfl⟩
    · refine T.seq ?_
      refine T.region ?_
      refine Run.go (Ev.move rfl rfl) ?_
      refine Run.ghost (Ghost.firmAll (id := 1) rfl) ?_
      obtain ⟨x22, e23, h⟩ := bdS h
      refine Run.go (Ev.callC en127 (k_nat_Make e23) rfl (.cons .v .nil) rfl rfl) ?_
      refine Run.go (Ev.move rfl rfl) ?_
      refine Run.go (Ev.extract rfl rfl rfl) ?_
      refine Run.go (Ev.extract rfl rfl rfl) ?_
      refine Run.go (Ev.assign rfl rfl) ?_
      refine Run.go (Ev.assign rfl rfl) ?_
      refine Run.nil ?_
      refine T.seq ?_
      refine T.region ?_
      refine Run.go (Ev.move rfl rfl) ?_
      refine Run.go (Ev.move rfl rfl) ?_
      refine Run.go (Ev.assign rfl rfl) ?_
      refine Run.go (Ev.assign rfl rfl) ?_
      refine Run.go (Ev.assign rfl rfl) ?_
      refine Run.nil ?_
      refine T.ret ?_
      cases h
      exact Fin.many X rfl (.cons (.tmp .v) (.cons (.tmp .v) (.cons (.tmp .v) .nil))) rfl
theorem en129 : Enters Tryd.prog 129 := ⟨_, Tryd.func129, rfl, rfl⟩
theorem k_digits_piece {p0 : Int} {p1 : Int} {p2 : Int} {y : ByteArray} (h : m_digits_piece p0 p1 p2 = some y) : Spec Tryd.prog 129 [(.v (.int .u64) p0), (.v (.int .i64) p1), (.v (.int .i64) p2)] (.v .str y) [] := by
  rw [m_digits_piece] at h
  refine enterN [(.v (.int .u64) p0), (.v (.int .i64) p1), (.v (.int .i64) p2)] 33 Tryd.func129 rfl rfl rfl ?_
  refine T.seq ?_
  refine T.region ?_
  refine Run.go (Ev.assign rfl rfl) ?_
  refine Run.nil ?_
  refine T.seq ?_
  refine T.region ?_
  refine Run.go (Ev.move rfl rfl) ?_
  obtain ⟨x1, e2, h⟩ := bdS h
  refine Run.go (Ev.e_mk X 1 e2 rfl rfl rfl rfl rfl rfl) ?_
  refine Run.go (Ev.assign rfl rfl) ?_
  refine Run.nil ?_
  obtain ⟨v3, hv, h⟩ := bdS h
  refine T.cut (fun _ : Unit => (⟨[(7, .own 1)], [(1, .arr 5 (.int .u8) v3)], 33⟩ : St)) (fun _ => True) ?_ (fun _ _ => ?_)
  · replace h := hv
    clear hv
    refine T.seq ?_
    refine T.region ?_
    refine Run.go (Ev.move rfl rfl) ?_
    refine Run.go (Ev.move rfl rfl) ?_
    refine Run.nil ?_
    refine T.block ?_
    refine T.loop (LoopT.ghost (Ghost.only [(1, 1)] [0, 1, 2, 7, 11, 12] rfl) (LoopT.run (fun q : Int × Int × (List Int) => (⟨[(0, .v (.int .u64) q.1), (1, .v (.int .i64) p1), (2, .v (.int .i64) p2), (7, .own 1), (11, .v (.int .i64) p2), (12, .v (.int .i64) q.2.1)], [(1, .arr 5 (.int .u8) q.2.2)], 33⟩ : St)) (fun q z1 h hz1 => ?_) h))
    obtain ⟨v4, v5, v6⟩ := q
    dsimp only
    rw [m_digits_piece_l1] at h
    refine T.seq ?_
    refine T.region ?_
    refine Run.go (Ev.int rfl rfl rfl rfl trivial) ?_
    refine Run.nil ?_
    refine T.seq ?_
    refine T.cond rfl (fun hb7 => ?_) (fun hb7 => ?_)
    · replace h := ifT hb7 h
      refine T.skip ?_
      refine T.seq ?_
      refine T.block ?_
      refine T.seq ?_
      refine T.region ?_
      refine Run.go (Ev.move rfl rfl) ?_
      refine Run.go (Ev.assign rfl rfl) ?_
      refine Run.nil ?_
      refine T.seq ?_
      refine T.region ?_
      refine Run.go (Ev.move rfl rfl) ?_
      refine Run.go (Ev.move rfl rfl) ?_
      refine Run.go (Ev.int rfl rfl rfl rfl trivial) ?_
      refine Run.go (Ev.move rfl rfl) ?_
      refine Run.go (Ev.int rfl rfl rfl rfl trivial) ?_
      refine Run.go (Ev.move rfl rfl) ?_
      refine Run.go (Ev.move rfl rfl) ?_
      refine Run.go (Ev.conv X rfl rfl rfl rfl) ?_
      obtain ⟨x8, e9, h⟩ := bdS h
      refine Run.go (Ev.e_rm e9 rfl rfl rfl) ?_
      obtain ⟨x10, e11, h⟩ := bdS h
      refine Run.go (Ev.e_bt X e11 rfl rfl rfl rfl) ?_
      obtain ⟨j12, e13, h⟩ := bdS h
      refine Run.go (Ev.e_ixO X e13 rfl rfl rfl rfl rfl) ?_
      obtain ⟨x14, e15, h⟩ := ltS h
      refine Run.do_ (Ev.asO (Ev.storeEl X rfl rfl rfl rfl rfl) e15) ?_
      refine Run.nil ?_
      refine T.region ?_
      refine Run.go (Ev.move rfl rfl) ?_
      refine Run.go (Ev.move rfl rfl) ?_
      refine Run.go (Ev.conv X rfl rfl rfl rfl) ?_
      obtain ⟨x16, e17, h⟩ := bdS h
      refine Run.go (Ev.e_qd e17 rfl rfl rfl) ?_
      refine Run.go (Ev.assign rfl rfl) ?_
      refine Run.nil ?_
      refine T.region ?_
      refine Run.go (Ev.int rfl rfl rfl rfl trivial) ?_
      refine Run.go (Ev.move rfl rfl) ?_
      refine Run.nil ?_
      cases h
      exact LoopT.ghost (Ghost.only [(1, 1)] [0, 1, 2, 7, 11, 12] rfl) hz1
    · replace h := ifF hb7 h
      refine T.exit ?_
      cases h
      cases hz1
      exact ⟨(), trivial, Ghost.only [(1, 1)] [7] rfl⟩
  · refine T.seq ?_
    refine T.region ?_
    refine Run.go (Ev.move rfl rfl) ?_
    refine Run.ghost (Ghost.firmAll (id := 1) rfl) ?_
    refine Run.go (Ev.e_b2s (e := 0) X rfl rfl rfl rfl) ?_
    refine Run.go (Ev.assign rfl rfl) ?_
    refine Run.nil ?_
    refine T.ret ?_
    cases h
    exact Fin.one rfl .v
theorem k_strings_Builder_copyCheck_M_2 {o1_0 : Bool} {o2 : (List Int)} {y : Bool} (h : m_strings_Builder_copyCheck_M_2 o1_0 o2 = some y) : SpecM Tryd.prog 52 [(.box 1 0)] [(1, .box [.pn o1_0 1 0 67, .own 2]), (2, .arr 5 (.int .u8) o2)] (.tup []) [(1, .box [.pn y 1 0 67, .own 2]), (2, .arr 5 (.int .u8) o2)] := by
  rw [m_strings_Builder_copyCheck_M_2] at h
  refine SpecM.enter 100000 [(.box 1 0)] 20 Tryd.func52 rfl rfl rfl rfl (fun L => ?_)
  refine T.seq ?_
  refine T.region ?_
  refine Run.go (Ev.move rfl rfl) ?_
  refine Run.go (Ev.e_nc rfl rfl rfl rfl) ?_
  refine Run.go (Ev.fieldBoxN fo67_0 sz65 rfl rfl rfl rfl) ?_
  refine Run.go (Ev.loadOne sz65 rfl rfl rfl rfl) ?_
  refine Run.go (Ev.e_pnil pt65 (.inl ⟨rfl, rfl⟩) rfl (.pn rfl) rfl rfl) ?_
  refine Run.nil ?_
  refine T.cond rfl (fun hb1 => ?_) (fun hb1 => ?_)
  · replace h := ifT hb1 h
    refine T.region ?_
    refine Run.go (Ev.move rfl rfl) ?_
    refine Run.go (Ev.move rfl rfl) ?_
    refine Run.go (Ev.e_toU up65_138 rfl rfl rfl rfl) ?_
    refine Run.go (Ev.e_noesc ne74 rfl rfl rfl) ?_
    refine Run.go (Ev.e_fromU ul138_65_67_2 rfl rfl rfl) ?_
    refine Run.go (Ev.e_nc rfl rfl rfl rfl) ?_
    refine Run.go (Ev.fieldBoxN fo67_0 sz65 rfl rfl rfl rfl) ?_
    refine Run.do_ (Ev.e_stPn sz65 rfl rfl rfl) ?_
    refine Run.nil ?_
    cases h
    exact FinM.of 100000 [(1, 1), (2, 2)] (inlR.many' (X := X) rfl .nil rfl) rfl rfl rfl rfl ⟨(.inl ⟨rfl, _, rfl, .box, fun _ => rfl⟩), (.inl ⟨rfl, _, rfl, .refl, fun _ => rfl⟩), trivial⟩
  · replace h := ifF hb1 h
    refine T.seq ?_
    refine T.region ?_
    refine Run.go (Ev.move rfl rfl) ?_
    refine Run.go (Ev.e_nc rfl rfl rfl rfl) ?_
    refine Run.go (Ev.fieldBoxN fo67_0 sz65 rfl rfl rfl rfl) ?_
    refine Run.go (Ev.loadOne sz65 rfl rfl rfl rfl) ?_
    refine Run.go (Ev.move rfl rfl) ?_
    refine Run.go (Ev.e_pself pt65 (.inr ⟨rfl, rfl⟩) rfl rfl rfl rfl) ?_
    refine Run.nil ?_
    refine T.condF rfl hb1 ?_
    refine T.skip ?_
    cases h
    exact FinM.of 100000 [(1, 1), (2, 2)] (inlR.many' (X := X) rfl .nil rfl) rfl rfl rfl rfl ⟨(.inl ⟨rfl, _, rfl, .box, fun _ => rfl⟩), (.inl ⟨rfl, _, rfl, .refl, fun _ => rfl⟩), trivial⟩
theorem k_strings_Builder_WriteString_M_2 {p1 : ByteArray} {o1_0 : Bool} {o2 : (List Int)} {y : Bool × (List Int)} (h : m_strings_Builder_WriteString_M_2 p1 o1_0 o2 = some y) : SpecM Tryd.prog 33 [(.box 1 0), (.v .str p1)] [(1, .box [.pn o1_0 1 0 67, .own 2]), (2, .arr 5 (.int .u8) o2)] (.tup [.v (.int .i64) ((p1.size : Int) : Int), .bot]) [(1, .box [.pn y.1 1 0 67, .own 4]), (2, .dead), (4, .arr 5 (.int .u8) y.2)] := by
  rw [m_strings_Builder_WriteString_M_2] at h
  refine SpecM.enter 100000 [(.box 1 0), (.v .str p1)] 19 Tryd.func33 rfl rfl rfl rfl (fun L => ?_)
  refine T.seq ?_
  refine T.region ?_
  refine Run.go (Ev.assign rfl rfl) ?_
  refine Run.go (Ev.assign rfl rfl) ?_
  refine Run.nil ?_
  refine T.seq ?_
  refine T.region ?_
  refine Run.go (Ev.move rfl rfl) ?_
  obtain ⟨x2, e1, h⟩ := bdS h
  refine Run.go (Ev.w2 (Ev.lendM [(1, 1), (2, 2)] [(1, 1), (2, 2)] en52 (k_strings_Builder_copyCheck_M_2 e1) rfl (.cons (.ren rfl) .nil) rfl rfl rfl rfl rfl (A := .tup []) rfl (W := [(1, .box [.pn x2 1 0 67, .own 2]), (2, .arr 5 (.int .u8) o2)]) rfl rfl)) ?_
  refine Run.nil ?_
  refine T.seq ?_
  refine T.region ?_
  refine Run.go (Ev.move rfl rfl) ?_
  refine Run.go (Ev.move rfl rfl) ?_
  refine Run.go (Ev.e_nc rfl rfl rfl rfl) ?_
  refine Run.go (Ev.fieldBoxN fo67_1 sz64 rfl rfl rfl rfl) ?_
  refine Run.go (Ev.loadCell X rfl rfl rfl rfl rfl rfl) ?_
  refine Run.go (Ev.move rfl rfl) ?_
  obtain ⟨x3, e4, h⟩ := bdS h
  refine Run.go (Ev.e_apS X 6 e4 rfl rfl rfl rfl rfl rfl rfl rfl) ?_
  refine Run.go (Ev.e_nc rfl rfl rfl rfl) ?_
  refine Run.go (Ev.fieldBoxN fo67_1 sz64 rfl rfl rfl rfl) ?_
  refine Run.do_ (Ev.storeC sz64 rfl rfl rfl rfl rfl rfl) ?_
  refine Run.nil ?_
  refine T.seq ?_
  refine T.region ?_
  refine Run.go (Ev.move rfl rfl) ?_
  refine Run.go (Ev.len X rfl rfl rfl rfl) ?_
  refine Run.go (Ev.assign rfl rfl) ?_
  refine Run.go (Ev.assign rfl rfl) ?_
  refine Run.nil ?_
  refine T.ret ?_
  cases h
  exact FinM.of 100000 [(1, 1), (900002, 2), (6, 4)] (inlR.many' (X := X) rfl (.cons (.tmp rfl) (.cons .bot .nil)) rfl) rfl rfl rfl rfl ⟨(.inl ⟨rfl, _, rfl, .box, fun _ => rfl⟩), (.inr rfl), trivial⟩
theorem k_strings_Builder_String_M {o1_0 : Bool} {o2 : (List Int)} {y : ByteArray} (h : m_strings_Builder_String_M o1_0 o2 = some y) : SpecM Tryd.prog 34 [(.box 1 0)] [(1, .box [.pn o1_0 1 0 67, .own 2]), (2, .arr 5 (.int .u8) o2)] (.v .str y) [(1, .box [.pn o1_0 1 0 67, .bot]), (2, .dead)] := by
  rw [m_strings_Builder_String_M] at h
  refine SpecM.enter 100000 [(.box 1 0)] 14 Tryd.func34 rfl rfl rfl rfl (fun L => ?_)
  refine T.seq ?_
  refine T.region ?_
  refine Run.go (Ev.assign rfl rfl) ?_
  refine Run.nil ?_
  refine T.seq ?_
  refine T.drawE [([1], []), ([1], []), ([1], []), ([1], []), ([2], []), ([1], []), ([1], []), ([1], []), ([1], []), ([2], []), ([2], [2]), ([], [])] [0, 1, 3, 7, 15, 0, 32, 96, 224, 480, 1023, 2047] (by kernel_rfl) (by kernel_rfl) ?_
  refine RunE.go0 [1] (fun ô hô => Ev.move rfl rfl) rfl rfl ?_
  refine RunE.go0 [1] (fun ô hô => Ev.e_nc rfl (one_box (ka hô rfl rfl)) rfl rfl) rfl rfl ?_
  refine RunE.go0 [1] (fun ô hô => Ev.fieldBoxN fo67_1 sz64 rfl (ka hô rfl rfl) rfl rfl) rfl rfl ?_
  refine RunE.go0 [1] (fun ô hô => Ev.loadCell X rfl (ka hô rfl rfl) rfl rfl rfl rfl) rfl rfl ?_
  obtain ⟨x1, e2, h⟩ := bdS h
  refine RunE.go0 [2] (fun ô hô => Ev.e_usd X e2 rfl (ka hô rfl rfl) rfl) rfl rfl ?_
  refine RunE.go0 [1] (fun ô hô => Ev.move rfl rfl) rfl rfl ?_
  refine RunE.go0 [1] (fun ô hô => Ev.e_nc rfl (one_box (ka hô rfl rfl)) rfl rfl) rfl rfl ?_
  refine RunE.go0 [1] (fun ô hô => Ev.fieldBoxN fo67_1 sz64 rfl (ka hô rfl rfl) rfl rfl) rfl rfl ?_
  refine RunE.go0 [1] (fun ô hô => Ev.loadCell X rfl (ka hô rfl rfl) rfl rfl rfl rfl) rfl rfl ?_
  refine RunE.go0 [2] (fun ô hô => Ev.e_lenO X rfl (ka hô rfl rfl) rfl rfl) rfl rfl ?_
  obtain ⟨x3, e4, h⟩ := bdS h
  refine RunE.go1 [2] (fun ô hô => Ev.e_ust us96_5 e4 rfl (ka hô rfl rfl) rfl rfl rfl) rfl rfl ?_
  refine RunE.go0 [] (fun ô hô => Ev.assign rfl rfl) rfl rfl ?_
  refine RunE.nil ?_
  refine T.ret ?_
  cases h
  exact FinM.of 100000 [(1, 1), (900002, 2)] (inlR.one' (X := X) rfl (.tmp rfl)) rfl rfl rfl rfl ⟨(.inl ⟨rfl, _, rfl, .box, fun _ => rfl⟩), (.inr rfl), trivial⟩
theorem en134 : Enters Tryd.prog 134 := ⟨_, Tryd.func134, rfl, rfl⟩
theorem k_strings_trimLeftByte {p0 : ByteArray} {p1 : Int} {y : ByteArray} (h : m_strings_trimLeftByte p0 p1 = some y) : Spec Tryd.prog 134 [(.v .str p0), (.v (.int .u8) p1)] (.v .str y) [] := by
  rw [m_strings_trimLeftByte] at h
  refine enterN [(.v .str p0), (.v (.int .u8) p1)] 17 Tryd.func134 rfl rfl rfl ?_
  refine T.seq ?_
  refine T.region ?_
  refine Run.go (Ev.assign rfl rfl) ?_
  refine Run.nil ?_
  obtain ⟨v1, hv, h⟩ := bdS h
  refine T.cut (fun _ : Unit => (⟨[(0, .v .str v1)], [], 17⟩ : St)) (fun _ => True) ?_ (fun _ _ => ?_)
  · replace h := hv
    clear hv
    refine T.block ?_
    refine T.loop (LoopT.ghost (Ghost.only [] [0, 1] rfl) (LoopT.run (fun q : ByteArray => (⟨[(0, .v .str q), (1, .v (.int .u8) p1)], [], 17⟩ : St)) (fun v2 z1 h hz1 => ?_) h))
    rw [m_strings_trimLeftByte_l1] at h
    refine T.seq ?_
    obtain ⟨v3, hv, h⟩ := bdS h
    refine T.cut (fun _ : Unit => (⟨[(0, .v .str v2), (1, .v (.int .u8) p1), (13, .v .bool v3)], [], 17⟩ : St)) (fun _ => True) ?_ (fun _ _ => ?_)
    · replace h := hv
      clear hv
      refine T.region ?_
      refine Run.go (Ev.move rfl rfl) ?_
      refine Run.go (Ev.len X rfl rfl rfl rfl) ?_
      refine Run.go (Ev.int rfl rfl rfl rfl trivial) ?_
      refine Run.go (Ev.move rfl rfl) ?_
      rcases boolCases (decide (0 < (v2.size : Int))) with hb4 | hb4
      · replace h := ifT hb4 h
        refine Run.on rfl rfl rfl hb4 (Ev.move rfl rfl) ?_
        obtain ⟨x5, e6, h⟩ := bdS h
        refine Run.on rfl rfl rfl hb4 (Ev.e_bt X e6 rfl rfl rfl rfl) ?_
        refine Run.on rfl rfl rfl hb4 (Ev.move rfl rfl) ?_
        refine Run.on rfl rfl rfl hb4 (Ev.int rfl rfl rfl rfl trivial) ?_
        refine Run.go (Ev.pickT rfl hb4 rfl rfl) ?_
        refine Run.nil ?_
        cases h
        exact ⟨(), trivial, Ghost.only [] [0, 1, 13] rfl⟩
      · replace h := ifF hb4 h
        refine Run.offT rfl rfl rfl rfl hb4 ?_
        refine Run.offT rfl rfl rfl rfl hb4 ?_
        refine Run.offT rfl rfl rfl rfl hb4 ?_
        refine Run.offT rfl rfl rfl rfl hb4 ?_
        refine Run.go (Ev.pickF rfl hb4 rfl rfl) ?_
        refine Run.nil ?_
        cases h
        exact ⟨(), trivial, Ghost.only [] [0, 1, 13] rfl⟩
    · refine T.cond rfl (fun hb7 => ?_) (fun hb7 => ?_)
      · replace h := ifT hb7 h
        refine T.skip ?_
        refine T.block ?_
        refine T.region ?_
        refine Run.go (Ev.move rfl rfl) ?_
        obtain ⟨x8, e9, h⟩ := bdS h
        refine Run.go (Ev.e_cs X e9 rfl rfl rfl (fun _ _ => cutAt_of rfl) (fun h => by cases h) (fun _ h => by cases h) (fun _ => rfl)) ?_
        refine Run.go (Ev.assign rfl rfl) ?_
        refine Run.nil ?_
        cases h
        exact LoopT.ghost (Ghost.only [] [0, 1] rfl) hz1
      · replace h := ifF hb7 h
        refine T.exit ?_
        cases h
        cases hz1
        exact ⟨(), trivial, Ghost.only [] [0] rfl⟩
  · refine T.seq ?_
    refine T.region ?_
    refine Run.go (Ev.move rfl rfl) ?_
    refine Run.go (Ev.assign rfl rfl) ?_
    refine Run.nil ?_
    refine T.ret ?_
    cases h
    exact Fin.one rfl .v
theorem en130 : Enters Tryd.prog 130 := ⟨_, Tryd.func130, rfl, rfl⟩
theorem k_strings_TrimLeft {p0 : ByteArray} {p1 : ByteArray} {y : ByteArray} (h : m_strings_TrimLeft p0 p1 = some y) : Spec Tryd.prog 130 [(.v .str p0), (.v .str p1)] (.v .str y) [] := by
  rw [m_strings_TrimLeft] at h
  refine enterN [(.v .str p0), (.v .str p1)] 37 Tryd.func130 rfl rfl rfl ?_
  refine T.seq ?_
  refine T.region ?_
  refine Run.go (Ev.assign rfl rfl) ?_
  refine Run.nil ?_
  refine T.seq ?_
  obtain ⟨v1, hv, h⟩ := bdS h
  refine T.cut (fun _ : Unit => (⟨[(0, .v .str p0), (1, .v .str p1), (12, .v .bool v1)], [], 37⟩ : St)) (fun _ => True) ?_ (fun _ _ => ?_)
  · replace h := hv
    clear hv
    refine T.region ?_
    refine Run.go (Ev.move rfl rfl) ?_
    refine Run.go (Ev.strs rfl rfl rfl rfl trivial) ?_
    refine Run.go (Ev.move rfl rfl) ?_
    rcases boolCases (sq p0 (bs [])) with hb2 | hb2
    · replace h := ifT hb2 h
      refine Run.offT rfl rfl rfl rfl hb2 ?_
      refine Run.offT rfl rfl rfl rfl hb2 ?_
      refine Run.go (Ev.pickT rfl hb2 rfl rfl) ?_
      refine Run.nil ?_
      cases h
      exact ⟨(), trivial, Ghost.only [] [0, 1, 12] rfl⟩
    · replace h := ifF hb2 h
      refine Run.on rfl rfl rfl hb2 (Ev.move rfl rfl) ?_
      refine Run.on rfl rfl rfl hb2 (Ev.strs rfl rfl rfl rfl trivial) ?_
      refine Run.go (Ev.pickF rfl hb2 rfl rfl) ?_
      refine Run.nil ?_
      cases h
      exact ⟨(), trivial, Ghost.only [] [0, 1, 12] rfl⟩
  · refine T.cond rfl (fun hb3 => ?_) (fun hb3 => ?_)
    · replace h := ifT hb3 h
      refine T.seq ?_
      refine T.region ?_
      refine Run.go (Ev.move rfl rfl) ?_
      refine Run.go (Ev.assign rfl rfl) ?_
      refine Run.nil ?_
      refine T.ret ?_
      cases h
      exact Fin.one rfl .v
    · replace h := ifF hb3 h
      refine T.skip ?_
      refine T.seq ?_
      obtain ⟨v4, hv, h⟩ := bdS h
      refine T.cut (fun _ : Unit => (⟨[(0, .v .str p0), (1, .v .str p1), (21, .v .bool v4)], [], 37⟩ : St)) (fun _ => True) ?_ (fun _ _ => ?_)
      · replace h := hv
        clear hv
        refine T.region ?_
        refine Run.go (Ev.move rfl rfl) ?_
        refine Run.go (Ev.len X rfl rfl rfl rfl) ?_
        refine Run.go (Ev.int rfl rfl rfl rfl trivial) ?_
        refine Run.go (Ev.move rfl rfl) ?_
        rcases boolCases (decide ((p1.size : Int) = 1)) with hb5 | hb5
        · replace h := ifT hb5 h
          refine Run.on rfl rfl rfl hb5 (Ev.move rfl rfl) ?_
          obtain ⟨x6, e7, h⟩ := bdS h
          refine Run.on rfl rfl rfl hb5 (Ev.e_bt X e7 rfl rfl rfl rfl) ?_
          refine Run.on rfl rfl rfl hb5 (Ev.int rfl rfl rfl rfl trivial) ?_
          refine Run.go (Ev.pickT rfl hb5 rfl rfl) ?_
          refine Run.nil ?_
          cases h
          exact ⟨(), trivial, Ghost.only [] [0, 1, 21] rfl⟩
        · replace h := ifF hb5 h
          refine Run.offT rfl rfl rfl rfl hb5 ?_
          refine Run.offT rfl rfl rfl rfl hb5 ?_
          refine Run.offT rfl rfl rfl rfl hb5 ?_
          refine Run.go (Ev.pickF rfl hb5 rfl rfl) ?_
          refine Run.nil ?_
          cases h
          exact ⟨(), trivial, Ghost.only [] [0, 1, 21] rfl⟩
      · refine T.cond rfl (fun hb8 => ?_) (fun hb8 => ?_)
        · replace h := ifT hb8 h
          refine T.seq ?_
          refine T.region ?_
          refine Run.go (Ev.move rfl rfl) ?_
          refine Run.go (Ev.move rfl rfl) ?_
          obtain ⟨x9, e10, h⟩ := bdS h
          refine Run.go (Ev.e_bt X e10 rfl rfl rfl rfl) ?_
          obtain ⟨x11, e12, h⟩ := bdS h
          refine Run.go (Ev.callC en134 (k_strings_trimLeftByte e12) rfl (.cons .v (.cons .v .nil)) rfl rfl) ?_
          refine Run.go (Ev.assign rfl rfl) ?_
          refine Run.nil ?_
          refine T.ret ?_
          cases h
          exact Fin.one rfl .v
        · replace h := ifF hb8 h
          refine T.skip ?_
          refine T.seq ?_
          refine T.seq ?_
          refine T.region ?_
          refine Run.go (Ev.move rfl rfl) ?_
          cases h
theorem en110 : Enters Tryd.prog 110 := ⟨_, Tryd.func110, rfl, rfl⟩
theorem k_digits_In {p0 : (List Int)} {p1 : Int} {y : ByteArray × Int} (h : m_digits_In p0 p1 = some y) : Spec Tryd.prog 110 [(.v (.sl (.int .u64)) p0), (.v (.int .i64) p1)] (.tup [.v .str y.1, .v (.int .i64) y.2]) [] := by
  rw [m_digits_In] at h
  refine enterN [(.v (.sl (.int .u64)) p0), (.v (.int .i64) p1)] 71 Tryd.func110 rfl rfl rfl ?_
  refine T.seq ?_
  refine T.region ?_
  refine Run.go (Ev.assign rfl rfl) ?_
  refine Run.go (Ev.assign rfl rfl) ?_
  refine Run.nil ?_
  refine T.seq ?_
  refine T.seq ?_
  refine T.region ?_
  refine Run.go (Ev.move rfl rfl) ?_
  obtain ⟨x1, e2, h⟩ := bdS h
  refine Run.go (Ev.callC en107 (k_digits_based e2) rfl (.cons .v .nil) rfl rfl) ?_
  refine Run.go (Ev.assign rfl rfl) ?_
  refine Run.nil ?_
  refine T.seq ?_
  refine T.region ?_
  refine Run.go (Ev.move rfl rfl) ?_
  refine Run.go (Ev.int rfl rfl rfl rfl trivial) ?_
  refine Run.nil ?_
  refine T.cond rfl (fun hb3 => ?_) (fun hb3 => ?_)
  · replace h := ifT hb3 h
    refine T.seq ?_
    refine T.region ?_
    refine Run.go (Ev.move rfl rfl) ?_
    refine Run.go (Ev.assign rfl rfl) ?_
    refine Run.go (Ev.assign rfl rfl) ?_
    refine Run.nil ?_
    refine T.ret ?_
    cases h
    exact Fin.many X rfl (.cons (.tmp .v) (.cons (.tmp .v) .nil)) rfl
  · replace h := ifF hb3 h
    refine T.skip ?_
    refine T.seq ?_
    refine T.region ?_
    refine Run.go (Ev.move rfl rfl) ?_
    obtain ⟨x4, e5, h⟩ := bdS h
    refine Run.go (Ev.callC en126 (k_digits_chunk e5) rfl (.cons .v .nil) rfl rfl) ?_
    refine Run.go (Ev.move rfl rfl) ?_
    refine Run.go (Ev.extract rfl rfl rfl) ?_
    refine Run.go (Ev.extract rfl rfl rfl) ?_
    refine Run.go (Ev.assign rfl rfl) ?_
    refine Run.go (Ev.assign rfl rfl) ?_
    refine Run.nil ?_
    refine T.seq ?_
    refine T.region ?_
    refine Run.go (Ev.assign rfl rfl) ?_
    refine Run.nil ?_
    refine T.seq ?_
    refine T.region ?_
    refine Run.go (Ev.move rfl rfl) ?_
    obtain ⟨x6, e7, h⟩ := bdS h
    refine Run.go (Ev.callC en127 (k_nat_Make e7) rfl (.cons .v .nil) rfl rfl) ?_
    refine Run.go (Ev.move rfl rfl) ?_
    refine Run.go (Ev.extract rfl rfl rfl) ?_
    refine Run.go (Ev.extract rfl rfl rfl) ?_
    refine Run.go (Ev.assign rfl rfl) ?_
    refine Run.go (Ev.assign rfl rfl) ?_
    refine Run.nil ?_
    obtain ⟨v8, hv, h⟩ := bdS h
    refine T.cut (fun _ : Unit => (⟨[(9, .own 2)], [(2, .arr 9 .str v8)], 71⟩ : St)) (fun _ => True) ?_ (fun _ _ => ?_)
    · replace h := hv
      clear hv
      refine T.block ?_
      refine T.loop (LoopT.ghost (Ghost.trans (Ghost.empty 9 19 9 .str rfl rfl) (Ghost.only [(19, 13)] [1, 7, 8, 9, 10] rfl)) (LoopT.run (fun q : (List Int) × (List ByteArray) => (⟨[(1, .v (.int .i64) p1), (7, .v (.int .u64) x4.1), (8, .v (.int .i64) x4.2), (9, .own 13), (10, .v (.sl (.int .u64)) q.1)], [(13, .arr 9 .str q.2)], 71⟩ : St)) (fun q z1 h hz1 => ?_) h))
      obtain ⟨v9, v10⟩ := q
      dsimp only
      rw [m_digits_In_l1] at h
      refine T.seq ?_
      refine T.seq ?_
      refine T.region ?_
      refine Run.go (Ev.move rfl rfl) ?_
      refine Run.go (Ev.len X rfl rfl rfl rfl) ?_
      refine Run.go (Ev.int rfl rfl rfl rfl trivial) ?_
      refine Run.nil ?_
      refine T.cond rfl (fun hb11 => ?_) (fun hb11 => ?_)
      · replace h := ifT hb11 h
        refine T.skip ?_
        refine T.block ?_
        refine T.seq ?_
        refine T.region ?_
        refine Run.go (Ev.move rfl rfl) ?_
        refine Run.go (Ev.move rfl rfl) ?_
        obtain ⟨x12, e13, h⟩ := bdS h
        refine Run.go (Ev.callC en128 (k_divide_Small e13) rfl (.cons .v (.cons .v .nil)) rfl rfl) ?_
        refine Run.go (Ev.move rfl rfl) ?_
        refine Run.go (Ev.extract rfl rfl rfl) ?_
        refine Run.go (Ev.extract rfl rfl rfl) ?_
        refine Run.go (Ev.extract rfl rfl rfl) ?_
        refine Run.go (Ev.assign rfl rfl) ?_
        refine Run.go (Ev.assign rfl rfl) ?_
        refine Run.go (Ev.assign rfl rfl) ?_
        refine Run.nil ?_
        refine T.seq ?_
        refine T.region ?_
        refine Run.go (Ev.move rfl rfl) ?_
        refine Run.go (Ev.move rfl rfl) ?_
        refine Run.go (Ev.move rfl rfl) ?_
        refine Run.go (Ev.move rfl rfl) ?_
        obtain ⟨x14, e15, h⟩ := bdS h
        refine Run.go (Ev.callC en129 (k_digits_piece e15) rfl (.cons .v (.cons .v (.cons .v .nil))) rfl rfl) ?_
        refine Run.go (Ev.build X 20 rfl rfl rfl rfl rfl rfl rfl rfl) ?_
        obtain ⟨x16, e17, h⟩ := bdS h
        refine Run.go (Ev.e_ap X 21 e17 rfl rfl rfl (.own rfl) rfl rfl rfl rfl rfl) ?_
        refine Run.go (Ev.assign rfl rfl) ?_
        refine Run.nil ?_
        refine T.region ?_
        refine Run.go (Ev.move rfl rfl) ?_
        refine Run.go (Ev.assign rfl rfl) ?_
        refine Run.nil ?_
        cases h
        exact LoopT.ghost (Ghost.only [(21, 13)] [1, 7, 8, 9, 10] rfl) hz1
      · replace h := ifF hb11 h
        refine T.exit ?_
        cases h
        cases hz1
        exact ⟨(), trivial, Ghost.only [(13, 2)] [9] rfl⟩
    · refine T.seq ?_
      refine T.region ?_
      refine Run.go (Ev.e_allocB 22 zs67 rfl rfl) ?_
      refine Run.nil ?_
      obtain ⟨⟨v18, v19⟩, hv, h⟩ := bdS h
      refine T.cut (fun _ : Unit => (⟨[(15, .box 22 0)], [(22, .box [.pn v18 22 0 67, .own 25]), (25, .arr 5 (.int .u8) v19)], 71⟩ : St)) (fun _ => True) ?_ (fun _ _ => ?_)
      · replace h := hv
        clear hv
        refine T.seq ?_
        refine T.region ?_
        refine Run.go (Ev.move rfl rfl) ?_
        refine Run.go (Ev.e_lenO X rfl rfl rfl rfl) ?_
        refine Run.go (Ev.move rfl rfl) ?_
        refine Run.nil ?_
        refine T.block ?_
        refine T.loop (LoopT.ghost (Ghost.trans (Ghost.emptyC 22 1 47 5 (.int .u8) rfl rfl rfl) (Ghost.only [(2, 2), (22, 22), (47, 39)] [9, 15, 52, 53] rfl)) (LoopT.run (fun q : Int × Bool × (List Int) => (⟨[(9, .own 2), (15, .box 22 0), (52, .v (.int .i64) ((v8.length : Int) : Int)), (53, .v (.int .i64) q.1)], [(2, .arr 9 .str v8), (22, .box [.pn q.2.1 22 0 67, .own 39]), (39, .arr 5 (.int .u8) q.2.2)], 71⟩ : St)) (fun q z1 h hz1 => ?_) h))
        obtain ⟨v20, v21, v22⟩ := q
        dsimp only
        rw [m_digits_In_l2] at h
        refine T.seq ?_
        refine T.region ?_
        refine Run.go (Ev.int rfl rfl rfl rfl trivial) ?_
        refine Run.nil ?_
        refine T.seq ?_
        refine T.cond rfl (fun hb23 => ?_) (fun hb23 => ?_)
        · replace h := ifT hb23 h
          refine T.skip ?_
          refine T.seq ?_
          refine T.block ?_
          refine T.seq ?_
          refine T.region ?_
          refine Run.go (Ev.move rfl rfl) ?_
          refine Run.go (Ev.assign rfl rfl) ?_
          refine Run.nil ?_
          refine T.region ?_
          refine Run.go (Ev.move rfl rfl) ?_
          refine Run.go (Ev.move rfl rfl) ?_
          refine Run.go (Ev.e_lenO X rfl rfl rfl rfl) ?_
          refine Run.go (Ev.int rfl rfl rfl rfl trivial) ?_
          refine Run.go (Ev.move rfl rfl) ?_
          refine Run.go (Ev.int rfl rfl rfl rfl trivial) ?_
          obtain ⟨x24, e25, h⟩ := bdS h
          refine Run.go (Ev.e_rdO X e25 rfl rfl rfl rfl rfl) ?_
          refine Run.go (Ev.e_ldO X (rdS e25).2 rfl rfl rfl rfl) ?_
          obtain ⟨x27, e26, h⟩ := bdS h
          refine Run.go (Ev.w3 (Ev.lendM [(22, 1), (39, 2)] [(1, 22), (2, 39), (4, 48)] en33 (k_strings_Builder_WriteString_M_2 e26) rfl (.cons (.ren rfl) (.cons (.ren rfl) .nil)) rfl rfl rfl rfl rfl (A := .tup [.v (.int .i64) ((x24.size : Int) : Int), .bot]) rfl (W := [(22, .box [.pn x27.1 22 0 67, .own 48]), (39, .dead), (48, .arr 5 (.int .u8) x27.2)]) rfl rfl)) ?_
          refine Run.nil ?_
          refine T.region ?_
          refine Run.go (Ev.int rfl rfl rfl rfl trivial) ?_
          refine Run.go (Ev.move rfl rfl) ?_
          refine Run.nil ?_
          cases h
          exact LoopT.ghost (Ghost.only [(2, 2), (22, 22), (48, 39)] [9, 15, 52, 53] rfl) hz1
        · replace h := ifF hb23 h
          refine T.exit ?_
          cases h
          cases hz1
          exact ⟨(), trivial, Ghost.only [(22, 22), (39, 25)] [15] rfl⟩
      · refine T.seq ?_
        refine T.region ?_
        obtain ⟨x29, e28, h⟩ := bdS h
        refine Run.go (Ev.w2 (Ev.lendM [(22, 1), (25, 2)] [(1, 22), (2, 25)] en34 (k_strings_Builder_String_M e28) rfl (.cons (.ren rfl) .nil) rfl rfl rfl rfl rfl (A := .v .str x29) rfl (W := [(22, .box [.pn v18 22 0 67, .bot]), (25, .dead)]) rfl rfl)) ?_
        obtain ⟨x30, e31, h⟩ := bdS h
        refine Run.go (Ev.callC en130 (k_strings_TrimLeft e31) rfl (.cons .v (.cons .v .nil)) rfl rfl) ?_
        refine Run.go (Ev.assign rfl rfl) ?_
        refine Run.nil ?_
        obtain ⟨v32, hv, h⟩ := bdS h
        refine T.cut (fun _ : Unit => (⟨[(17, .v .str v32)], [], 71⟩ : St)) (fun _ => True) ?_ (fun _ _ => ?_)
        · replace h := hv
          clear hv
          refine T.seq ?_
          refine T.region ?_
          refine Run.go (Ev.move rfl rfl) ?_
          refine Run.go (Ev.strs rfl rfl rfl rfl trivial) ?_
          refine Run.nil ?_
          refine T.cond rfl (fun hb33 => ?_) (fun hb33 => ?_)
          · replace h := ifT hb33 h
            refine T.region ?_
            refine Run.go (Ev.assign rfl rfl) ?_
            refine Run.nil ?_
            cases h
            exact ⟨(), trivial, Ghost.only [] [17] rfl⟩
          · replace h := ifF hb33 h
            refine T.skip ?_
            cases h
            exact ⟨(), trivial, Ghost.only [] [17] rfl⟩
        · refine T.seq ?_
          refine T.region ?_
          refine Run.go (Ev.move rfl rfl) ?_
          refine Run.go (Ev.assign rfl rfl) ?_
          refine Run.go (Ev.assign rfl rfl) ?_
          refine Run.nil ?_
          refine T.ret ?_
          cases h
          exact Fin.many X rfl (.cons (.tmp .v) (.cons (.tmp .v) .nil)) rfl
theorem en91 : Enters Tryd.prog 91 := ⟨_, Tryd.func91, rfl, rfl⟩
theorem k_digits_Print {p0 : (List Int)} {y : ByteArray} (h : m_digits_Print p0 = some y) : Spec Tryd.prog 91 [(.v (.sl (.int .u64)) p0)] (.v .str y) [] := by
  rw [m_digits_Print] at h
  refine enterN [(.v (.sl (.int .u64)) p0)] 11 Tryd.func91 rfl rfl rfl ?_
  refine T.seq ?_
  refine T.region ?_
  refine Run.go (Ev.assign rfl rfl) ?_
  refine Run.nil ?_
  refine T.seq ?_
  refine T.region ?_
  refine Run.go (Ev.move rfl rfl) ?_
  obtain ⟨x1, e2, h⟩ := bdS h
  refine Run.go (Ev.callC en110 (k_digits_In e2) rfl (.cons .v (.cons .v .nil)) rfl rfl) ?_
  refine Run.go (Ev.move rfl rfl) ?_
  refine Run.go (Ev.extract rfl rfl rfl) ?_
  refine Run.go (Ev.extract rfl rfl rfl) ?_
  refine Run.go (Ev.assign rfl rfl) ?_
  refine Run.go (Ev.assign rfl rfl) ?_
  refine Run.nil ?_
  refine T.seq ?_
  refine T.region ?_
  refine Run.go (Ev.move rfl rfl) ?_
  refine Run.go (Ev.assign rfl rfl) ?_
  refine Run.nil ?_
  refine T.ret ?_
  cases h
  exact Fin.one rfl .v
theorem en98 : Enters Tryd.prog 98 := ⟨_, Tryd.func98, rfl, rfl⟩
theorem k_whole_Print {p0 : D_api_Int} {y : ByteArray} (h : m_whole_Print p0 = some y) : Spec Tryd.prog 98 [(.v Y_api_Int p0)] (.v .str y) [] := by
  rw [m_whole_Print] at h
  refine enterN [(.v Y_api_Int p0)] 12 Tryd.func98 rfl rfl rfl ?_
  refine T.seq ?_
  refine T.region ?_
  refine Run.go (Ev.box 1 rfl rfl rfl rfl) ?_
  refine Run.go (Ev.assign rfl rfl) ?_
  refine Run.nil ?_
  refine T.seq ?_
  refine T.seq ?_
  refine T.region ?_
  refine Run.go (Ev.fieldBox X rfl rfl rfl rfl rfl) ?_
  refine Run.go (Ev.loadCell X rfl rfl rfl rfl rfl rfl) ?_
  refine Run.nil ?_
  refine T.cond rfl (fun hb1 => ?_) (fun hb1 => ?_)
  · replace h := ifT hb1 h
    refine T.seq ?_
    refine T.region ?_
    refine Run.go (Ev.fieldBox X rfl rfl rfl rfl rfl) ?_
    refine Run.go (Ev.loadCell X rfl rfl rfl rfl rfl rfl) ?_
    obtain ⟨x2, e3, h⟩ := bdS h
    refine Run.go (Ev.callC en91 (k_digits_Print e3) rfl (.cons .v .nil) rfl rfl) ?_
    obtain ⟨x4, e5, h⟩ := bdS h
    refine Run.go (Ev.e_cat e5 rfl rfl rfl) ?_
    refine Run.go (Ev.assign rfl rfl) ?_
    refine Run.nil ?_
    refine T.ret ?_
    cases h
    exact Fin.one rfl .v
  · replace h := ifF hb1 h
    refine T.skip ?_
    refine T.seq ?_
    refine T.region ?_
    refine Run.go (Ev.fieldBox X rfl rfl rfl rfl rfl) ?_
    refine Run.go (Ev.loadCell X rfl rfl rfl rfl rfl rfl) ?_
    obtain ⟨x6, e7, h⟩ := bdS h
    refine Run.go (Ev.callC en91 (k_digits_Print e7) rfl (.cons .v .nil) rfl rfl) ?_
    refine Run.go (Ev.assign rfl rfl) ?_
    refine Run.nil ?_
    refine T.ret ?_
    cases h
    exact Fin.one rfl .v
end Go.Proofs.YthpadfhhadcghaaDoor.AE
/- The code comes to the printed functions (printed by a program of ours). -/
namespace Go.Proofs.YthpadfhhadcghaaDoor.AE
open Go Go.RowKit Go.Proofs.YthpadfhhadcghaaDoor.AP
set_option linter.unusedVariables false
set_option maxRecDepth 20000
theorem en100 : Enters Tryd.prog 100 := ⟨_, Tryd.func100, rfl, rfl⟩
theorem k_nat_Of {p0 : Int} {y : (List Int)} (h : m_nat_Of p0 = some y) : Spec Tryd.prog 100 [(.v (.int .u64) p0)] (.v (.sl (.int .u64)) y) [] := by
  rw [m_nat_Of] at h
  refine enterN [(.v (.int .u64) p0)] 9 Tryd.func100 rfl rfl rfl ?_
  refine T.seq ?_
  refine T.region ?_
  refine Run.go (Ev.assign rfl rfl) ?_
  refine Run.nil ?_
  refine T.seq ?_
  refine T.region ?_
  refine Run.go (Ev.move rfl rfl) ?_
  obtain ⟨x1, e2, h⟩ := bdS h
  refine Run.go (Ev.e_rm e2 rfl rfl rfl) ?_
  refine Run.go (Ev.move rfl rfl) ?_
  obtain ⟨x3, e4, h⟩ := bdS h
  refine Run.go (Ev.e_sr e4 rfl rfl rfl) ?_
  refine Run.go (Ev.build X 1 rfl rfl rfl rfl rfl rfl rfl rfl) ?_
  refine Run.ghost (Ghost.firmAll (id := 1) rfl) ?_
  obtain ⟨x5, e6, h⟩ := bdS h
  refine Run.go (Ev.callC en114 (k_nat_trim e6) rfl (.cons .v .nil) rfl rfl) ?_
  refine Run.go (Ev.assign rfl rfl) ?_
  refine Run.nil ?_
  refine T.ret ?_
  cases h
  exact Fin.one rfl .v
theorem en99 : Enters Tryd.prog 99 := ⟨_, Tryd.func99, rfl, rfl⟩
theorem k_nat_Cmp {p0 : (List Int)} {p1 : (List Int)} {y : Int} (h : m_nat_Cmp p0 p1 = some y) : Spec Tryd.prog 99 [(.v (.sl (.int .u64)) p0), (.v (.sl (.int .u64)) p1)] (.v (.int .i64) y) [] := by
  rw [m_nat_Cmp] at h
  refine enterN [(.v (.sl (.int .u64)) p0), (.v (.sl (.int .u64)) p1)] 45 Tryd.func99 rfl rfl rfl ?_
  refine T.seq ?_
  refine T.region ?_
  refine Run.go (Ev.assign rfl rfl) ?_
  refine Run.nil ?_
  refine T.seq ?_
  refine T.block ?_
  refine T.seq ?_
  refine T.region ?_
  refine Run.go (Ev.move rfl rfl) ?_
  refine Run.go (Ev.len X rfl rfl rfl rfl) ?_
  refine Run.go (Ev.move rfl rfl) ?_
  refine Run.go (Ev.len X rfl rfl rfl rfl) ?_
  refine Run.go (Ev.int rfl rfl rfl rfl trivial) ?_
  obtain ⟨x1, e2, h⟩ := ltS h
  refine Run.go (Ev.avs (Ev.assign rfl rfl) e2) ?_
  refine Run.nil ?_
  refine T.cond rfl (fun hb3 => ?_) (fun hb3 => ?_)
  · replace h := ifT hb3 h
    refine T.seq ?_
    refine T.region ?_
    refine Run.go (Ev.assign rfl rfl) ?_
    refine Run.nil ?_
    refine T.ret ?_
    cases h
    exact Fin.one rfl .v
  · replace h := ifF hb3 h
    refine T.seq ?_
    refine T.region ?_
    refine Run.go (Ev.move rfl rfl) ?_
    refine Run.go (Ev.len X rfl rfl rfl rfl) ?_
    refine Run.go (Ev.move rfl rfl) ?_
    refine Run.go (Ev.len X rfl rfl rfl rfl) ?_
    refine Run.go (Ev.int rfl rfl rfl rfl trivial) ?_
    obtain ⟨x4, e5, h⟩ := ltS h
    refine Run.go (Ev.avs (Ev.assign rfl rfl) e5) ?_
    refine Run.nil ?_
    refine T.cond rfl (fun hb6 => ?_) (fun hb6 => ?_)
    · replace h := ifT hb6 h
      refine T.seq ?_
      refine T.region ?_
      refine Run.go (Ev.assign rfl rfl) ?_
      refine Run.nil ?_
      refine T.ret ?_
      cases h
      exact Fin.one rfl .v
    · replace h := ifF hb6 h
      refine T.skip ?_
      refine T.seq ?_
      refine T.seq ?_
      refine T.region ?_
      refine Run.go (Ev.move rfl rfl) ?_
      refine Run.go (Ev.len X rfl rfl rfl rfl) ?_
      refine Run.go (Ev.int rfl rfl rfl rfl trivial) ?_
      refine Run.go (Ev.assign rfl rfl) ?_
      refine Run.nil ?_
      refine T.block ?_
      refine T.loop (LoopT.ghost (Ghost.only [] [0, 1, 5] rfl) (LoopT.run (fun q : Int => (⟨[(0, .v (.sl (.int .u64)) p0), (1, .v (.sl (.int .u64)) p1), (5, .v (.int .i64) q)], [], 45⟩ : St)) (fun v7 z1 h hz1 => ?_) h))
      rw [m_nat_Cmp_l1] at h
      refine T.seq ?_
      refine T.seq ?_
      refine T.region ?_
      refine Run.go (Ev.move rfl rfl) ?_
      refine Run.go (Ev.int rfl rfl rfl rfl trivial) ?_
      refine Run.nil ?_
      refine T.cond rfl (fun hb8 => ?_) (fun hb8 => ?_)
      · replace h := ifT hb8 h
        refine T.skip ?_
        refine T.seq ?_
        refine T.block ?_
        refine T.block ?_
        refine T.seq ?_
        refine T.drawM [] [0, 0, 3, 7, 0, 0, 48, 112, 255, 511] (by kernel_rfl) (by kernel_rfl) ?_
        refine RunD.w (fun _ => Ev.move rfl rfl) ?_
        refine RunD.w (fun _ => Ev.move rfl rfl) ?_
        obtain ⟨x9, e10, h⟩ := bdS h
        refine RunD.a rfl rfl (Ev.e_rd X e10 rfl rfl rfl rfl) ?_
        refine RunD.a rfl rfl (Ev.load X rfl rfl rfl) ?_
        refine RunD.w (fun _ => Ev.move rfl rfl) ?_
        refine RunD.w (fun _ => Ev.move rfl rfl) ?_
        obtain ⟨x11, e12, h⟩ := bdS h
        refine RunD.a rfl rfl (Ev.e_rd X e12 rfl rfl rfl rfl) ?_
        refine RunD.a rfl rfl (Ev.load X rfl rfl rfl) ?_
        refine RunD.w (fun _ => Ev.int rfl rfl rfl rfl trivial) ?_
        refine RunD.w (fun _ => Ev.assign rfl rfl) ?_
        refine RunD.nil ?_
        refine T.cond rfl (fun hb13 => ?_) (fun hb13 => ?_)
        · replace h := ifT hb13 h
          refine T.seq ?_
          refine T.region ?_
          refine Run.go (Ev.assign rfl rfl) ?_
          refine Run.nil ?_
          refine T.ret ?_
          cases h
          cases hz1
          exact Fin.one rfl .v
        · replace h := ifF hb13 h
          refine T.seq ?_
          refine T.drawM [] [0, 0, 3, 7, 0, 0, 48, 112, 255, 511] (by kernel_rfl) (by kernel_rfl) ?_
          refine RunD.w (fun _ => Ev.move rfl rfl) ?_
          refine RunD.w (fun _ => Ev.move rfl rfl) ?_
          obtain ⟨x14, e15, h⟩ := bdS h
          refine RunD.a rfl rfl (Ev.e_rd X e15 rfl rfl rfl rfl) ?_
          refine RunD.a rfl rfl (Ev.load X rfl rfl rfl) ?_
          refine RunD.w (fun _ => Ev.move rfl rfl) ?_
          refine RunD.w (fun _ => Ev.move rfl rfl) ?_
          obtain ⟨x16, e17, h⟩ := bdS h
          refine RunD.a rfl rfl (Ev.e_rd X e17 rfl rfl rfl rfl) ?_
          refine RunD.a rfl rfl (Ev.load X rfl rfl rfl) ?_
          refine RunD.w (fun _ => Ev.int rfl rfl rfl rfl trivial) ?_
          refine RunD.w (fun _ => Ev.assign rfl rfl) ?_
          refine RunD.nil ?_
          refine T.cond rfl (fun hb18 => ?_) (fun hb18 => ?_)
          · replace h := ifT hb18 h
            refine T.seq ?_
            refine T.region ?_
            refine Run.go (Ev.assign rfl rfl) ?_
            refine Run.nil ?_
            refine T.ret ?_
            cases h
            cases hz1
            exact Fin.one rfl .v
          · replace h := ifF hb18 h
            refine T.skip ?_
            refine T.region ?_
            refine Run.go (Ev.move rfl rfl) ?_
            refine Run.go (Ev.int rfl rfl rfl rfl trivial) ?_
            refine Run.go (Ev.assign rfl rfl) ?_
            refine Run.nil ?_
            cases h
            exact LoopT.ghost (Ghost.only [] [0, 1, 5] rfl) hz1
      · replace h := ifF hb8 h
        refine T.exit ?_
        refine T.seq ?_
        refine T.region ?_
        refine Run.go (Ev.assign rfl rfl) ?_
        refine Run.nil ?_
        refine T.ret ?_
        cases h
        cases hz1
        exact Fin.one rfl .v
theorem en77 : Enters Tryd.prog 77 := ⟨_, Tryd.func77, rfl, rfl⟩
theorem k_ratio_Print {p0 : D_api_Rat} {y : ByteArray} (h : m_ratio_Print p0 = some y) : Spec Tryd.prog 77 [(.v Y_api_Rat p0)] (.v .str y) [] := by
  rw [m_ratio_Print] at h
  refine enterN [(.v Y_api_Rat p0)] 19 Tryd.func77 rfl rfl rfl ?_
  refine T.seq ?_
  refine T.region ?_
  refine Run.go (Ev.box 1 rfl rfl rfl rfl) ?_
  refine Run.go (Ev.assign rfl rfl) ?_
  refine Run.nil ?_
  refine T.seq ?_
  refine T.region ?_
  refine Run.go (Ev.fieldBox X rfl rfl rfl rfl rfl) ?_
  refine Run.go (Ev.loadBox X rfl rfl rfl rfl rfl) ?_
  obtain ⟨x1, e2, h⟩ := bdS h
  refine Run.go (Ev.callC en98 (k_whole_Print e2) rfl (.cons .v .nil) rfl rfl) ?_
  refine Run.go (Ev.assign rfl rfl) ?_
  refine Run.nil ?_
  refine T.seq ?_
  refine T.seq ?_
  refine T.drawM [] [0, 1, 0, 7, 15] (by kernel_rfl) (by kernel_rfl) ?_
  refine RunD.a rfl rfl (Ev.fieldBox X rfl rfl rfl rfl rfl) ?_
  refine RunD.a rfl rfl (Ev.loadCell X rfl rfl rfl rfl rfl rfl) ?_
  obtain ⟨x3, e4, h⟩ := bdS h
  refine RunD.a rfl rfl (Ev.callC en100 (k_nat_Of e4) rfl (.cons .v .nil) rfl rfl) ?_
  obtain ⟨x5, e6, h⟩ := bdS h
  refine RunD.a rfl rfl (Ev.callC en99 (k_nat_Cmp e6) rfl (.cons .v (.cons .v .nil)) rfl rfl) ?_
  refine RunD.w (fun _ => Ev.int rfl rfl rfl rfl trivial) ?_
  refine RunD.nil ?_
  refine T.cond rfl (fun hb7 => ?_) (fun hb7 => ?_)
  · replace h := ifT hb7 h
    refine T.seq ?_
    refine T.region ?_
    refine Run.go (Ev.move rfl rfl) ?_
    refine Run.go (Ev.assign rfl rfl) ?_
    refine Run.nil ?_
    refine T.ret ?_
    cases h
    exact Fin.one rfl .v
  · replace h := ifF hb7 h
    refine T.skip ?_
    refine T.seq ?_
    refine T.region ?_
    refine Run.go (Ev.move rfl rfl) ?_
    obtain ⟨x8, e9, h⟩ := bdS h
    refine Run.go (Ev.e_cat e9 rfl rfl rfl) ?_
    refine Run.go (Ev.fieldBox X rfl rfl rfl rfl rfl) ?_
    refine Run.go (Ev.loadCell X rfl rfl rfl rfl rfl rfl) ?_
    obtain ⟨x10, e11, h⟩ := bdS h
    refine Run.go (Ev.callC en91 (k_digits_Print e11) rfl (.cons .v .nil) rfl rfl) ?_
    obtain ⟨x12, e13, h⟩ := bdS h
    refine Run.go (Ev.e_cat e13 rfl rfl rfl) ?_
    refine Run.go (Ev.assign rfl rfl) ?_
    refine Run.nil ?_
    refine T.ret ?_
    cases h
    exact Fin.one rfl .v
theorem en57 : Enters Tryd.prog 57 := ⟨_, Tryd.func57, rfl, rfl⟩
theorem k_canon_link {p0 : D_api_Link} {y : ByteArray} (h : m_canon_link p0 = some y) : Spec Tryd.prog 57 [(.v Y_api_Link p0)] (.v .str y) [] := by
  rw [m_canon_link] at h
  refine enterN [(.v Y_api_Link p0)] 15 Tryd.func57 rfl rfl rfl ?_
  refine T.seq ?_
  refine T.region ?_
  refine Run.go (Ev.box 1 rfl rfl rfl rfl) ?_
  refine Run.go (Ev.assign rfl rfl) ?_
  refine Run.nil ?_
  refine T.seq ?_
  refine T.drawM [9] [0, 1, 0, 4, 0, 16, 0, 64, 192, 511, 1023, 2047, 4095] (by kernel_rfl) (by kernel_rfl) ?_
  refine RunD.a rfl rfl (Ev.fieldBox X rfl rfl rfl rfl rfl) ?_
  refine RunD.a rfl rfl (Ev.loadCell X rfl rfl rfl rfl rfl rfl) ?_
  refine RunD.a rfl rfl (Ev.fieldBox X rfl rfl rfl rfl rfl) ?_
  refine RunD.a rfl rfl (Ev.loadCell X rfl rfl rfl rfl rfl rfl) ?_
  refine RunD.a rfl rfl (Ev.fieldBox X rfl rfl rfl rfl rfl) ?_
  refine RunD.a rfl rfl (Ev.loadCell X rfl rfl rfl rfl rfl rfl) ?_
  refine RunD.a rfl rfl (Ev.fieldBox X rfl rfl rfl rfl rfl) ?_
  refine RunD.a rfl rfl (Ev.loadBox X rfl rfl rfl rfl rfl) ?_
  obtain ⟨x1, e2, h⟩ := bdS h
  refine RunD.a rfl rfl (Ev.callC en77 (k_ratio_Print e2) rfl (.cons .v .nil) rfl rfl) ?_
  refine RunD.mD rfl (Ev.build X 2 rfl rfl rfl rfl rfl rfl rfl rfl) ?_
  obtain ⟨x3, e4, h⟩ := bdS h
  refine RunD.a rfl rfl (Ev.lend rfl (.cons (.own rfl) .nil) en16 (k_canon_words e4) rfl rfl) ?_
  obtain ⟨x5, e6, h⟩ := bdS h
  refine RunD.w (fun _ => Ev.e_cat e6 rfl rfl rfl) ?_
  refine RunD.w (fun _ => Ev.assign rfl rfl) ?_
  refine RunD.nil ?_
  refine T.ret ?_
  cases h
  exact Fin.one rfl .v
theorem en56 : Enters Tryd.prog 56 := ⟨_, Tryd.func56, rfl, rfl⟩
theorem k_canon_each_api_Link__canon_link {p0 : (List D_api_Link)} {y : (List ByteArray)} (h : m_canon_each_api_Link__canon_link p0 = some y) : Spec Tryd.prog 56 [(.v (.sl Y_api_Link) p0), (.fn 57 [])] (.v (.sl .str) y) [] := by
  rw [m_canon_each_api_Link__canon_link] at h
  refine enterN [(.v (.sl Y_api_Link) p0), (.fn 57 [])] 26 Tryd.func56 rfl rfl rfl ?_
  refine T.seq ?_
  refine T.region ?_
  refine Run.go (Ev.assign rfl rfl) ?_
  refine Run.nil ?_
  refine T.seq ?_
  refine T.region ?_
  refine Run.go (Ev.move rfl rfl) ?_
  refine Run.go (Ev.len X rfl rfl rfl rfl) ?_
  obtain ⟨x1, e2, h⟩ := bdS h
  refine Run.go (Ev.e_mk X 1 e2 rfl rfl rfl rfl rfl rfl) ?_
  refine Run.go (Ev.assign rfl rfl) ?_
  refine Run.nil ?_
  obtain ⟨v3, hv, h⟩ := bdS h
  refine T.cut (fun _ : Unit => (⟨[(5, .own 1)], [(1, .arr 9 .str v3)], 26⟩ : St)) (fun _ => True) ?_ (fun _ _ => ?_)
  · replace h := hv
    clear hv
    refine T.seq ?_
    refine T.region ?_
    refine Run.go (Ev.move rfl rfl) ?_
    refine Run.go (Ev.len X rfl rfl rfl rfl) ?_
    refine Run.go (Ev.move rfl rfl) ?_
    refine Run.nil ?_
    refine T.block ?_
    refine T.loop (LoopT.ghost (Ghost.only [(1, 1)] [1, 5, 11, 12, 13] rfl) (LoopT.run (fun q : Int × (List ByteArray) => (⟨[(1, .fn 57 []), (5, .own 1), (11, .v (.sl Y_api_Link) p0), (12, .v (.int .i64) ((p0.length : Int) : Int)), (13, .v (.int .i64) q.1)], [(1, .arr 9 .str q.2)], 26⟩ : St)) (fun q z1 h hz1 => ?_) h))
    obtain ⟨v4, v5⟩ := q
    dsimp only
    rw [m_canon_each_api_Link__canon_link_l1] at h
    refine T.seq ?_
    refine T.region ?_
    refine Run.go (Ev.int rfl rfl rfl rfl trivial) ?_
    refine Run.nil ?_
    refine T.seq ?_
    refine T.cond rfl (fun hb6 => ?_) (fun hb6 => ?_)
    · replace h := ifT hb6 h
      refine T.skip ?_
      refine T.seq ?_
      refine T.block ?_
      refine T.seq ?_
      refine T.region ?_
      refine Run.go (Ev.move rfl rfl) ?_
      obtain ⟨x7, e8, h⟩ := bdS h
      refine Run.go (Ev.e_rd X e8 rfl rfl rfl rfl) ?_
      refine Run.go (Ev.load X rfl rfl rfl) ?_
      refine Run.go (Ev.allocN X 14 rfl rfl rfl) ?_
      refine Run.go (Ev.assign rfl rfl) ?_
      refine Run.do_ (Ev.storeBox X rfl rfl rfl rfl rfl rfl rfl) ?_
      refine Run.nil ?_
      refine T.region ?_
      refine Run.go (Ev.move rfl rfl) ?_
      refine Run.go (Ev.move rfl rfl) ?_
      refine Run.go (Ev.move rfl rfl) ?_
      refine Run.go (Ev.loadBox X rfl rfl rfl rfl rfl) ?_
      obtain ⟨x9, e10, h⟩ := bdS h
      refine Run.go (Ev.callC en57 (k_canon_link e10) rfl (.cons .v .nil) rfl rfl) ?_
      obtain ⟨j11, e12, h⟩ := bdS h
      refine Run.go (Ev.e_ixO X e12 rfl rfl rfl rfl rfl) ?_
      obtain ⟨x13, e14, h⟩ := ltS h
      refine Run.do_ (Ev.asO (Ev.storeEl X rfl rfl rfl rfl rfl) e14) ?_
      refine Run.nil ?_
      refine T.region ?_
      refine Run.go (Ev.int rfl rfl rfl rfl trivial) ?_
      refine Run.go (Ev.move rfl rfl) ?_
      refine Run.nil ?_
      cases h
      exact LoopT.ghost (Ghost.only [(1, 1)] [1, 5, 11, 12, 13] rfl) hz1
    · replace h := ifF hb6 h
      refine T.exit ?_
      cases h
      cases hz1
      exact ⟨(), trivial, Ghost.only [(1, 1)] [5] rfl⟩
  · refine T.seq ?_
    refine T.region ?_
    refine Run.go (Ev.move rfl rfl) ?_
    refine Run.go (Ev.assign rfl rfl) ?_
    refine Run.nil ?_
    refine T.ret ?_
    cases h
    exact Fin.one rfl (.own rfl)
theorem en102 : Enters Tryd.prog 102 := ⟨_, Tryd.func102, rfl, rfl⟩
theorem k_canon_hop {p0 : D_api_Hop} {y : ByteArray} (h : m_canon_hop p0 = some y) : Spec Tryd.prog 102 [(.v Y_api_Hop p0)] (.v .str y) [] := by
  rw [m_canon_hop] at h
  refine enterN [(.v Y_api_Hop p0)] 15 Tryd.func102 rfl rfl rfl ?_
  refine T.seq ?_
  refine T.region ?_
  refine Run.go (Ev.box 1 rfl rfl rfl rfl) ?_
  refine Run.go (Ev.assign rfl rfl) ?_
  refine Run.nil ?_
  refine T.seq ?_
  refine T.seq ?_
  refine T.region ?_
  refine Run.go (Ev.fieldBox X rfl rfl rfl rfl rfl) ?_
  refine Run.go (Ev.loadCell X rfl rfl rfl rfl rfl rfl) ?_
  refine Run.go (Ev.int rfl rfl rfl rfl trivial) ?_
  refine Run.nil ?_
  refine T.cond rfl (fun hb1 => ?_) (fun hb1 => ?_)
  · replace h := ifT hb1 h
    refine T.seq ?_
    refine T.region ?_
    refine Run.go (Ev.fieldBox X rfl rfl rfl rfl rfl) ?_
    refine Run.go (Ev.loadCell X rfl rfl rfl rfl rfl rfl) ?_
    refine Run.go (Ev.assign rfl rfl) ?_
    refine Run.nil ?_
    refine T.ret ?_
    cases h
    exact Fin.one rfl .v
  · replace h := ifF hb1 h
    refine T.skip ?_
    refine T.seq ?_
    refine T.drawM [] [0, 1, 3, 0, 8, 24, 63, 127] (by kernel_rfl) (by kernel_rfl) ?_
    refine RunD.a rfl rfl (Ev.fieldBox X rfl rfl rfl rfl rfl) ?_
    refine RunD.a rfl rfl (Ev.loadCell X rfl rfl rfl rfl rfl rfl) ?_
    obtain ⟨x2, e3, h⟩ := bdS h
    refine RunD.w (fun _ => Ev.e_cat e3 rfl rfl rfl) ?_
    refine RunD.a rfl rfl (Ev.fieldBox X rfl rfl rfl rfl rfl) ?_
    refine RunD.a rfl rfl (Ev.loadCell X rfl rfl rfl rfl rfl rfl) ?_
    obtain ⟨x4, e5, h⟩ := bdS h
    refine RunD.a rfl rfl (Ev.callC en17 (k_strconv_Itoa e5) rfl (.cons .v .nil) rfl rfl) ?_
    obtain ⟨x6, e7, h⟩ := bdS h
    refine RunD.w (fun _ => Ev.e_cat e7 rfl rfl rfl) ?_
    refine RunD.w (fun _ => Ev.assign rfl rfl) ?_
    refine RunD.nil ?_
    refine T.ret ?_
    cases h
    exact Fin.one rfl .v
theorem en101 : Enters Tryd.prog 101 := ⟨_, Tryd.func101, rfl, rfl⟩
theorem k_canon_each_api_Hop__canon_hop {p0 : (List D_api_Hop)} {y : (List ByteArray)} (h : m_canon_each_api_Hop__canon_hop p0 = some y) : Spec Tryd.prog 101 [(.v (.sl Y_api_Hop) p0), (.fn 102 [])] (.v (.sl .str) y) [] := by
  rw [m_canon_each_api_Hop__canon_hop] at h
  refine enterN [(.v (.sl Y_api_Hop) p0), (.fn 102 [])] 26 Tryd.func101 rfl rfl rfl ?_
  refine T.seq ?_
  refine T.region ?_
  refine Run.go (Ev.assign rfl rfl) ?_
  refine Run.nil ?_
  refine T.seq ?_
  refine T.region ?_
  refine Run.go (Ev.move rfl rfl) ?_
  refine Run.go (Ev.len X rfl rfl rfl rfl) ?_
  obtain ⟨x1, e2, h⟩ := bdS h
  refine Run.go (Ev.e_mk X 1 e2 rfl rfl rfl rfl rfl rfl) ?_
  refine Run.go (Ev.assign rfl rfl) ?_
  refine Run.nil ?_
  obtain ⟨v3, hv, h⟩ := bdS h
  refine T.cut (fun _ : Unit => (⟨[(5, .own 1)], [(1, .arr 9 .str v3)], 26⟩ : St)) (fun _ => True) ?_ (fun _ _ => ?_)
  · replace h := hv
    clear hv
    refine T.seq ?_
    refine T.region ?_
    refine Run.go (Ev.move rfl rfl) ?_
    refine Run.go (Ev.len X rfl rfl rfl rfl) ?_
    refine Run.go (Ev.move rfl rfl) ?_
    refine Run.nil ?_
    refine T.block ?_
    refine T.loop (LoopT.ghost (Ghost.only [(1, 1)] [1, 5, 11, 12, 13] rfl) (LoopT.run (fun q : Int × (List ByteArray) => (⟨[(1, .fn 102 []), (5, .own 1), (11, .v (.sl Y_api_Hop) p0), (12, .v (.int .i64) ((p0.length : Int) : Int)), (13, .v (.int .i64) q.1)], [(1, .arr 9 .str q.2)], 26⟩ : St)) (fun q z1 h hz1 => ?_) h))
    obtain ⟨v4, v5⟩ := q
    dsimp only
    rw [m_canon_each_api_Hop__canon_hop_l1] at h
    refine T.seq ?_
    refine T.region ?_
    refine Run.go (Ev.int rfl rfl rfl rfl trivial) ?_
    refine Run.nil ?_
    refine T.seq ?_
    refine T.cond rfl (fun hb6 => ?_) (fun hb6 => ?_)
    · replace h := ifT hb6 h
      refine T.skip ?_
      refine T.seq ?_
      refine T.block ?_
      refine T.seq ?_
      refine T.region ?_
      refine Run.go (Ev.move rfl rfl) ?_
      obtain ⟨x7, e8, h⟩ := bdS h
      refine Run.go (Ev.e_rd X e8 rfl rfl rfl rfl) ?_
      refine Run.go (Ev.load X rfl rfl rfl) ?_
      refine Run.go (Ev.allocN X 14 rfl rfl rfl) ?_
      refine Run.go (Ev.assign rfl rfl) ?_
      refine Run.do_ (Ev.storeBox X rfl rfl rfl rfl rfl rfl rfl) ?_
      refine Run.nil ?_
      refine T.region ?_
      refine Run.go (Ev.move rfl rfl) ?_
      refine Run.go (Ev.move rfl rfl) ?_
      refine Run.go (Ev.move rfl rfl) ?_
      refine Run.go (Ev.loadBox X rfl rfl rfl rfl rfl) ?_
      obtain ⟨x9, e10, h⟩ := bdS h
      refine Run.go (Ev.callC en102 (k_canon_hop e10) rfl (.cons .v .nil) rfl rfl) ?_
      obtain ⟨j11, e12, h⟩ := bdS h
      refine Run.go (Ev.e_ixO X e12 rfl rfl rfl rfl rfl) ?_
      obtain ⟨x13, e14, h⟩ := ltS h
      refine Run.do_ (Ev.asO (Ev.storeEl X rfl rfl rfl rfl rfl) e14) ?_
      refine Run.nil ?_
      refine T.region ?_
      refine Run.go (Ev.int rfl rfl rfl rfl trivial) ?_
      refine Run.go (Ev.move rfl rfl) ?_
      refine Run.nil ?_
      cases h
      exact LoopT.ghost (Ghost.only [(1, 1)] [1, 5, 11, 12, 13] rfl) hz1
    · replace h := ifF hb6 h
      refine T.exit ?_
      cases h
      cases hz1
      exact ⟨(), trivial, Ghost.only [(1, 1)] [5] rfl⟩
  · refine T.seq ?_
    refine T.region ?_
    refine Run.go (Ev.move rfl rfl) ?_
    refine Run.go (Ev.assign rfl rfl) ?_
    refine Run.nil ?_
    refine T.ret ?_
    cases h
    exact Fin.one rfl (.own rfl)
theorem en79 : Enters Tryd.prog 79 := ⟨_, Tryd.func79, rfl, rfl⟩
theorem k_canon_group {p0 : (List D_api_Hop)} {y : ByteArray} (h : m_canon_group p0 = some y) : Spec Tryd.prog 79 [(.v (.sl Y_api_Hop) p0)] (.v .str y) [] := by
  rw [m_canon_group] at h
  refine enterN [(.v (.sl Y_api_Hop) p0)] 6 Tryd.func79 rfl rfl rfl ?_
  refine T.seq ?_
  refine T.region ?_
  refine Run.go (Ev.assign rfl rfl) ?_
  refine Run.nil ?_
  refine T.seq ?_
  refine T.region ?_
  refine Run.go (Ev.move rfl rfl) ?_
  obtain ⟨x1, e2, h⟩ := bdS h
  refine Run.go (Ev.callC en101 (k_canon_each_api_Hop__canon_hop e2) rfl (.cons .v (.cons (.fn rfl) .nil)) rfl rfl) ?_
  obtain ⟨x3, e4, h⟩ := bdS h
  refine Run.go (Ev.callC en22 (k_strings_Join e4) rfl (.cons .v (.cons .v .nil)) rfl rfl) ?_
  refine Run.go (Ev.assign rfl rfl) ?_
  refine Run.nil ?_
  refine T.ret ?_
  cases h
  exact Fin.one rfl .v
theorem en78 : Enters Tryd.prog 78 := ⟨_, Tryd.func78, rfl, rfl⟩
theorem k_canon_each_api_Hop__canon_group {p0 : (List (List D_api_Hop))} {y : (List ByteArray)} (h : m_canon_each_api_Hop__canon_group p0 = some y) : Spec Tryd.prog 78 [(.v (.sl (.sl Y_api_Hop)) p0), (.fn 79 [])] (.v (.sl .str) y) [] := by
  rw [m_canon_each_api_Hop__canon_group] at h
  refine enterN [(.v (.sl (.sl Y_api_Hop)) p0), (.fn 79 [])] 26 Tryd.func78 rfl rfl rfl ?_
  refine T.seq ?_
  refine T.region ?_
  refine Run.go (Ev.assign rfl rfl) ?_
  refine Run.nil ?_
  refine T.seq ?_
  refine T.region ?_
  refine Run.go (Ev.move rfl rfl) ?_
  refine Run.go (Ev.len X rfl rfl rfl rfl) ?_
  obtain ⟨x1, e2, h⟩ := bdS h
  refine Run.go (Ev.e_mk X 1 e2 rfl rfl rfl rfl rfl rfl) ?_
  refine Run.go (Ev.assign rfl rfl) ?_
  refine Run.nil ?_
  obtain ⟨v3, hv, h⟩ := bdS h
  refine T.cut (fun _ : Unit => (⟨[(5, .own 1)], [(1, .arr 9 .str v3)], 26⟩ : St)) (fun _ => True) ?_ (fun _ _ => ?_)
  · replace h := hv
    clear hv
    refine T.seq ?_
    refine T.region ?_
    refine Run.go (Ev.move rfl rfl) ?_
    refine Run.go (Ev.len X rfl rfl rfl rfl) ?_
    refine Run.go (Ev.move rfl rfl) ?_
    refine Run.nil ?_
    refine T.block ?_
    refine T.loop (LoopT.ghost (Ghost.only [(1, 1)] [1, 5, 11, 12, 13] rfl) (LoopT.run (fun q : Int × (List ByteArray) => (⟨[(1, .fn 79 []), (5, .own 1), (11, .v (.sl (.sl Y_api_Hop)) p0), (12, .v (.int .i64) ((p0.length : Int) : Int)), (13, .v (.int .i64) q.1)], [(1, .arr 9 .str q.2)], 26⟩ : St)) (fun q z1 h hz1 => ?_) h))
    obtain ⟨v4, v5⟩ := q
    dsimp only
    rw [m_canon_each_api_Hop__canon_group_l1] at h
    refine T.seq ?_
    refine T.region ?_
    refine Run.go (Ev.int rfl rfl rfl rfl trivial) ?_
    refine Run.nil ?_
    refine T.seq ?_
    refine T.cond rfl (fun hb6 => ?_) (fun hb6 => ?_)
    · replace h := ifT hb6 h
      refine T.skip ?_
      refine T.seq ?_
      refine T.block ?_
      refine T.seq ?_
      refine T.region ?_
      refine Run.go (Ev.move rfl rfl) ?_
      obtain ⟨x7, e8, h⟩ := bdS h
      refine Run.go (Ev.e_rd X e8 rfl rfl rfl rfl) ?_
      refine Run.go (Ev.load X rfl rfl rfl) ?_
      refine Run.go (Ev.assign rfl rfl) ?_
      refine Run.go (Ev.assign rfl rfl) ?_
      refine Run.nil ?_
      refine T.region ?_
      refine Run.go (Ev.move rfl rfl) ?_
      refine Run.go (Ev.move rfl rfl) ?_
      refine Run.go (Ev.move rfl rfl) ?_
      refine Run.go (Ev.move rfl rfl) ?_
      obtain ⟨x9, e10, h⟩ := bdS h
      refine Run.go (Ev.callC en79 (k_canon_group e10) rfl (.cons .v .nil) rfl rfl) ?_
      obtain ⟨j11, e12, h⟩ := bdS h
      refine Run.go (Ev.e_ixO X e12 rfl rfl rfl rfl rfl) ?_
      obtain ⟨x13, e14, h⟩ := ltS h
      refine Run.do_ (Ev.asO (Ev.storeEl X rfl rfl rfl rfl rfl) e14) ?_
      refine Run.nil ?_
      refine T.region ?_
      refine Run.go (Ev.int rfl rfl rfl rfl trivial) ?_
      refine Run.go (Ev.move rfl rfl) ?_
      refine Run.nil ?_
      cases h
      exact LoopT.ghost (Ghost.only [(1, 1)] [1, 5, 11, 12, 13] rfl) hz1
    · replace h := ifF hb6 h
      refine T.exit ?_
      cases h
      cases hz1
      exact ⟨(), trivial, Ghost.only [(1, 1)] [5] rfl⟩
  · refine T.seq ?_
    refine T.region ?_
    refine Run.go (Ev.move rfl rfl) ?_
    refine Run.go (Ev.assign rfl rfl) ?_
    refine Run.nil ?_
    refine T.ret ?_
    cases h
    exact Fin.one rfl (.own rfl)
theorem en59 : Enters Tryd.prog 59 := ⟨_, Tryd.func59, rfl, rfl⟩
theorem k_canon_Rule {p0 : D_api_Rule} {y : ByteArray} (h : m_canon_Rule p0 = some y) : Spec Tryd.prog 59 [(.v Y_api_Rule p0)] (.v .str y) [] := by
  rw [m_canon_Rule] at h
  refine enterN [(.v Y_api_Rule p0)] 25 Tryd.func59 rfl rfl rfl ?_
  refine T.seq ?_
  refine T.region ?_
  refine Run.go (Ev.box 1 rfl rfl rfl rfl) ?_
  refine Run.go (Ev.assign rfl rfl) ?_
  refine Run.nil ?_
  refine T.seq ?_
  refine T.drawM [5] [0, 1, 0, 4, 12, 31, 63, 127] (by kernel_rfl) (by kernel_rfl) ?_
  refine RunD.a rfl rfl (Ev.fieldBox X rfl rfl rfl rfl rfl) ?_
  refine RunD.a rfl rfl (Ev.loadCell X rfl rfl rfl rfl rfl rfl) ?_
  refine RunD.a rfl rfl (Ev.fieldBox X rfl rfl rfl rfl rfl) ?_
  refine RunD.a rfl rfl (Ev.loadBox X rfl rfl rfl rfl rfl) ?_
  obtain ⟨x1, e2, h⟩ := bdS h
  refine RunD.a rfl rfl (Ev.callC en18 (k_addr_Text e2) rfl (.cons .v .nil) rfl rfl) ?_
  refine RunD.mD rfl (Ev.build X 2 rfl rfl rfl rfl rfl rfl rfl rfl) ?_
  obtain ⟨x3, e4, h⟩ := bdS h
  refine RunD.a rfl rfl (Ev.lend rfl (.cons (.own rfl) .nil) en16 (k_canon_words e4) rfl rfl) ?_
  refine RunD.w (fun _ => Ev.assign rfl rfl) ?_
  refine RunD.nil ?_
  refine T.seq ?_
  refine T.seq ?_
  refine T.region ?_
  refine Run.go (Ev.fieldBox X rfl rfl rfl rfl rfl) ?_
  refine Run.go (Ev.loadCell X rfl rfl rfl rfl rfl rfl) ?_
  refine Run.nil ?_
  refine T.cond rfl (fun hb5 => ?_) (fun hb5 => ?_)
  · replace h := ifT hb5 h
    refine T.seq ?_
    refine T.region ?_
    refine Run.go (Ev.move rfl rfl) ?_
    refine Run.go (Ev.build X 3 rfl rfl rfl rfl rfl rfl rfl rfl) ?_
    obtain ⟨x6, e7, h⟩ := bdS h
    refine Run.go (Ev.lend rfl (.cons (.own rfl) .nil) en16 (k_canon_words e7) rfl rfl) ?_
    obtain ⟨x8, e9, h⟩ := bdS h
    refine Run.go (Ev.e_cat e9 rfl rfl rfl) ?_
    refine Run.go (Ev.assign rfl rfl) ?_
    refine Run.nil ?_
    refine T.ret ?_
    cases h
    exact Fin.one rfl .v
  · replace h := ifF hb5 h
    refine T.skip ?_
    refine T.seq ?_
    refine T.region ?_
    refine Run.go (Ev.move rfl rfl) ?_
    refine Run.go (Ev.fieldBox X rfl rfl rfl rfl rfl) ?_
    refine Run.go (Ev.loadCell X rfl rfl rfl rfl rfl rfl) ?_
    obtain ⟨x10, e11, h⟩ := bdS h
    refine Run.go (Ev.callC en78 (k_canon_each_api_Hop__canon_group e11) rfl (.cons .v (.cons (.fn rfl) .nil)) rfl rfl) ?_
    obtain ⟨x12, e13, h⟩ := bdS h
    refine Run.go (Ev.callC en22 (k_strings_Join e13) rfl (.cons .v (.cons .v .nil)) rfl rfl) ?_
    refine Run.go (Ev.build X 4 rfl rfl rfl rfl rfl rfl rfl rfl) ?_
    obtain ⟨x14, e15, h⟩ := bdS h
    refine Run.go (Ev.lend rfl (.cons (.own rfl) .nil) en16 (k_canon_words e15) rfl rfl) ?_
    obtain ⟨x16, e17, h⟩ := bdS h
    refine Run.go (Ev.e_cat e17 rfl rfl rfl) ?_
    refine Run.go (Ev.assign rfl rfl) ?_
    refine Run.nil ?_
    refine T.ret ?_
    cases h
    exact Fin.one rfl .v
theorem en58 : Enters Tryd.prog 58 := ⟨_, Tryd.func58, rfl, rfl⟩
theorem k_canon_each_api_Rule__canon_Rule {p0 : (List D_api_Rule)} {y : (List ByteArray)} (h : m_canon_each_api_Rule__canon_Rule p0 = some y) : Spec Tryd.prog 58 [(.v (.sl Y_api_Rule) p0), (.fn 59 [])] (.v (.sl .str) y) [] := by
  rw [m_canon_each_api_Rule__canon_Rule] at h
  refine enterN [(.v (.sl Y_api_Rule) p0), (.fn 59 [])] 26 Tryd.func58 rfl rfl rfl ?_
  refine T.seq ?_
  refine T.region ?_
  refine Run.go (Ev.assign rfl rfl) ?_
  refine Run.nil ?_
  refine T.seq ?_
  refine T.region ?_
  refine Run.go (Ev.move rfl rfl) ?_
  refine Run.go (Ev.len X rfl rfl rfl rfl) ?_
  obtain ⟨x1, e2, h⟩ := bdS h
  refine Run.go (Ev.e_mk X 1 e2 rfl rfl rfl rfl rfl rfl) ?_
  refine Run.go (Ev.assign rfl rfl) ?_
  refine Run.nil ?_
  obtain ⟨v3, hv, h⟩ := bdS h
  refine T.cut (fun _ : Unit => (⟨[(5, .own 1)], [(1, .arr 9 .str v3)], 26⟩ : St)) (fun _ => True) ?_ (fun _ _ => ?_)
  · replace h := hv
    clear hv
    refine T.seq ?_
    refine T.region ?_
    refine Run.go (Ev.move rfl rfl) ?_
    refine Run.go (Ev.len X rfl rfl rfl rfl) ?_
    refine Run.go (Ev.move rfl rfl) ?_
    refine Run.nil ?_
    refine T.block ?_
    refine T.loop (LoopT.ghost (Ghost.only [(1, 1)] [1, 5, 11, 12, 13] rfl) (LoopT.run (fun q : Int × (List ByteArray) => (⟨[(1, .fn 59 []), (5, .own 1), (11, .v (.sl Y_api_Rule) p0), (12, .v (.int .i64) ((p0.length : Int) : Int)), (13, .v (.int .i64) q.1)], [(1, .arr 9 .str q.2)], 26⟩ : St)) (fun q z1 h hz1 => ?_) h))
    obtain ⟨v4, v5⟩ := q
    dsimp only
    rw [m_canon_each_api_Rule__canon_Rule_l1] at h
    refine T.seq ?_
    refine T.region ?_
    refine Run.go (Ev.int rfl rfl rfl rfl trivial) ?_
    refine Run.nil ?_
    refine T.seq ?_
    refine T.cond rfl (fun hb6 => ?_) (fun hb6 => ?_)
    · replace h := ifT hb6 h
      refine T.skip ?_
      refine T.seq ?_
      refine T.block ?_
      refine T.seq ?_
      refine T.region ?_
      refine Run.go (Ev.move rfl rfl) ?_
      obtain ⟨x7, e8, h⟩ := bdS h
      refine Run.go (Ev.e_rd X e8 rfl rfl rfl rfl) ?_
      refine Run.go (Ev.load X rfl rfl rfl) ?_
      refine Run.go (Ev.allocN X 14 rfl rfl rfl) ?_
      refine Run.go (Ev.assign rfl rfl) ?_
      refine Run.do_ (Ev.storeBox X rfl rfl rfl rfl rfl rfl rfl) ?_
      refine Run.nil ?_
      refine T.region ?_
      refine Run.go (Ev.move rfl rfl) ?_
      refine Run.go (Ev.move rfl rfl) ?_
      refine Run.go (Ev.move rfl rfl) ?_
      refine Run.go (Ev.loadBox X rfl rfl rfl rfl rfl) ?_
      obtain ⟨x9, e10, h⟩ := bdS h
      refine Run.go (Ev.callC en59 (k_canon_Rule e10) rfl (.cons .v .nil) rfl rfl) ?_
      obtain ⟨j11, e12, h⟩ := bdS h
      refine Run.go (Ev.e_ixO X e12 rfl rfl rfl rfl rfl) ?_
      obtain ⟨x13, e14, h⟩ := ltS h
      refine Run.do_ (Ev.asO (Ev.storeEl X rfl rfl rfl rfl rfl) e14) ?_
      refine Run.nil ?_
      refine T.region ?_
      refine Run.go (Ev.int rfl rfl rfl rfl trivial) ?_
      refine Run.go (Ev.move rfl rfl) ?_
      refine Run.nil ?_
      cases h
      exact LoopT.ghost (Ghost.only [(1, 1)] [1, 5, 11, 12, 13] rfl) hz1
    · replace h := ifF hb6 h
      refine T.exit ?_
      cases h
      cases hz1
      exact ⟨(), trivial, Ghost.only [(1, 1)] [5] rfl⟩
  · refine T.seq ?_
    refine T.region ?_
    refine Run.go (Ev.move rfl rfl) ?_
    refine Run.go (Ev.assign rfl rfl) ?_
    refine Run.nil ?_
    refine T.ret ?_
    cases h
    exact Fin.one rfl (.own rfl)
theorem en36 : Enters Tryd.prog 36 := ⟨_, Tryd.func36, rfl, rfl⟩
theorem k_canon_net {p0 : D_api_Net} {y : ByteArray} (h : m_canon_net p0 = some y) : Spec Tryd.prog 36 [(.v Y_api_Net p0)] (.v .str y) [] := by
  rw [m_canon_net] at h
  refine enterN [(.v Y_api_Net p0)] 43 Tryd.func36 rfl rfl rfl ?_
  refine T.seq ?_
  refine T.region ?_
  refine Run.go (Ev.box 1 rfl rfl rfl rfl) ?_
  refine Run.go (Ev.assign rfl rfl) ?_
  refine Run.nil ?_
  refine T.seq ?_
  refine T.region ?_
  refine Run.go (Ev.e_allocB 2 zs67 rfl rfl) ?_
  refine Run.nil ?_
  refine T.seq ?_
  refine T.region ?_
  refine Run.go (Ev.fieldBox X rfl rfl rfl rfl rfl) ?_
  refine Run.go (Ev.loadCell X rfl rfl rfl rfl rfl rfl) ?_
  refine Run.go (Ev.build X 3 rfl rfl rfl rfl rfl rfl rfl rfl) ?_
  obtain ⟨x1, e2, h⟩ := bdS h
  refine Run.go (Ev.lend rfl (.cons (.own rfl) .nil) en16 (k_canon_words e2) rfl rfl) ?_
  obtain ⟨x3, e4, h⟩ := bdS h
  refine Run.go (Ev.e_cat e4 rfl rfl rfl) ?_
  obtain ⟨x6, e5, h⟩ := bdS h
  refine Run.go (Ev.w2 (Ev.lendM [(2, 1)] [(1, 2), (4, 4)] en33 (k_strings_Builder_WriteString_M e5) rfl (.cons (.ren rfl) (.cons (.ren rfl) .nil)) rfl rfl rfl rfl rfl (A := .tup [.v (.int .i64) ((x3.size : Int) : Int), .bot]) rfl (W := [(2, .box [.pn x6.1 2 0 67, .own 4]), (4, .arr 5 (.int .u8) x6.2)]) rfl rfl)) ?_
  refine Run.nil ?_
  obtain ⟨⟨v7, v8⟩, hv, h⟩ := bdS h
  refine T.cut (fun _ : Unit => (⟨[(3, .box 2 0)], [(2, .box [.pn v7 2 0 67, .own 38]), (38, .arr 5 (.int .u8) v8)], 43⟩ : St)) (fun _ => True) ?_ (fun _ _ => ?_)
  · replace h := hv
    clear hv
    refine T.seq ?_
    refine T.drawM [9] [0, 1, 3, 0, 8, 31, 0, 64, 255, 511, 1023, 0] (by kernel_rfl) (by kernel_rfl) ?_
    refine RunD.a rfl rfl (Ev.fieldBox X rfl rfl rfl rfl rfl) ?_
    refine RunD.a rfl rfl (Ev.loadCell X rfl rfl rfl rfl rfl rfl) ?_
    obtain ⟨x9, e10, h⟩ := bdS h
    refine RunD.a rfl rfl (Ev.callC en54 (k_canon_each_api_Node__canon_node e10) rfl (.cons .v (.cons (.fn rfl) .nil)) rfl rfl) ?_
    refine RunD.a rfl rfl (Ev.fieldBox X rfl rfl rfl rfl rfl) ?_
    refine RunD.a rfl rfl (Ev.loadCell X rfl rfl rfl rfl rfl rfl) ?_
    obtain ⟨x11, e12, h⟩ := bdS h
    refine RunD.a rfl rfl (Ev.callC en56 (k_canon_each_api_Link__canon_link e12) rfl (.cons .v (.cons (.fn rfl) .nil)) rfl rfl) ?_
    refine RunD.a rfl rfl (Ev.fieldBox X rfl rfl rfl rfl rfl) ?_
    refine RunD.a rfl rfl (Ev.loadCell X rfl rfl rfl rfl rfl rfl) ?_
    obtain ⟨x13, e14, h⟩ := bdS h
    refine RunD.a rfl rfl (Ev.callC en58 (k_canon_each_api_Rule__canon_Rule e14) rfl (.cons .v (.cons (.fn rfl) .nil)) rfl rfl) ?_
    refine RunD.mD rfl (Ev.build X 98 rfl rfl rfl rfl rfl rfl rfl rfl) ?_
    refine RunD.a rfl rfl (Ev.e_lenO X rfl rfl rfl rfl) ?_
    refine RunD.w (fun _ => Ev.move rfl rfl) ?_
    refine RunD.nil ?_
    refine T.block ?_
    refine T.loop (LoopT.ghost (Ghost.only [(2, 2), (98, 98), (4, 131)] [3, 23, 24, 25] rfl) (LoopT.run (fun q : Int × Bool × (List Int) => (⟨[(3, .box 2 0), (23, .own 98), (24, .v (.int .i64) (([x9, x11, x13].length : Int) : Int)), (25, .v (.int .i64) q.1)], [(2, .box [.pn q.2.1 2 0 67, .own 131]), (98, .arr 45 (.sl .str) ([x9, x11, x13] : List (List ByteArray))), (131, .arr 5 (.int .u8) q.2.2)], 43⟩ : St)) (fun q z1 h hz1 => ?_) h))
    obtain ⟨v15, v16, v17⟩ := q
    dsimp only
    rw [m_canon_net_l1] at h
    refine T.seq ?_
    refine T.region ?_
    refine Run.go (Ev.int rfl rfl rfl rfl trivial) ?_
    refine Run.nil ?_
    refine T.seq ?_
    refine T.cond rfl (fun hb18 => ?_) (fun hb18 => ?_)
    · replace h := ifT hb18 h
      refine T.skip ?_
      obtain ⟨⟨v19, v20⟩, hv, h⟩ := bdS h
      refine T.cut (fun _ : Unit => (⟨[(3, .box 2 0), (23, .own 98), (24, .v (.int .i64) (([x9, x11, x13].length : Int) : Int)), (25, .v (.int .i64) v15)], [(2, .box [.pn v19 2 0 67, .own 168]), (98, .arr 45 (.sl .str) ([x9, x11, x13] : List (List ByteArray))), (168, .arr 5 (.int .u8) v20)], 43⟩ : St)) (fun _ => True) ?_ (fun _ _ => ?_)
      · replace h := hv
        clear hv
        refine T.block ?_
        refine T.seq ?_
        refine T.region ?_
        obtain ⟨x21, e22, h⟩ := bdS h
        refine Run.go (Ev.e_rdO X e22 rfl rfl rfl rfl rfl) ?_
        refine Run.go (Ev.e_ldO X (rdS e22).2 rfl rfl rfl rfl) ?_
        refine Run.go (Ev.assign rfl rfl) ?_
        refine Run.nil ?_
        refine T.seq ?_
        refine T.region ?_
        refine Run.go (Ev.move rfl rfl) ?_
        refine Run.go (Ev.len X rfl rfl rfl rfl) ?_
        refine Run.go (Ev.move rfl rfl) ?_
        refine Run.nil ?_
        refine T.block ?_
        refine T.loop (LoopT.ghost (Ghost.only [(2, 2), (98, 98), (131, 183)] [3, 23, 24, 25, 29, 30, 31] rfl) (LoopT.run (fun q : Int × Bool × (List Int) => (⟨[(3, .box 2 0), (23, .own 98), (24, .v (.int .i64) (([x9, x11, x13].length : Int) : Int)), (25, .v (.int .i64) v15), (29, .v (.sl .str) x21), (30, .v (.int .i64) ((x21.length : Int) : Int)), (31, .v (.int .i64) q.1)], [(2, .box [.pn q.2.1 2 0 67, .own 183]), (98, .arr 45 (.sl .str) ([x9, x11, x13] : List (List ByteArray))), (183, .arr 5 (.int .u8) q.2.2)], 43⟩ : St)) (fun q z2 h hz2 => ?_) h))
        obtain ⟨v23, v24, v25⟩ := q
        dsimp only
        rw [m_canon_net_l2] at h
        refine T.seq ?_
        refine T.region ?_
        refine Run.go (Ev.int rfl rfl rfl rfl trivial) ?_
        refine Run.nil ?_
        refine T.seq ?_
        refine T.cond rfl (fun hb26 => ?_) (fun hb26 => ?_)
        · replace h := ifT hb26 h
          refine T.skip ?_
          refine T.seq ?_
          refine T.block ?_
          refine T.seq ?_
          refine T.region ?_
          obtain ⟨x27, e28, h⟩ := bdS h
          refine Run.go (Ev.e_rd X e28 rfl rfl rfl rfl) ?_
          refine Run.go (Ev.load X rfl rfl rfl) ?_
          refine Run.go (Ev.assign rfl rfl) ?_
          refine Run.nil ?_
          refine T.region ?_
          refine Run.go (Ev.move rfl rfl) ?_
          obtain ⟨x29, e30, h⟩ := bdS h
          refine Run.go (Ev.e_cat e30 rfl rfl rfl) ?_
          obtain ⟨x31, e32, h⟩ := bdS h
          refine Run.go (Ev.e_cat e32 rfl rfl rfl) ?_
          obtain ⟨x34, e33, h⟩ := bdS h
          refine Run.go (Ev.w3 (Ev.lendM [(2, 1), (183, 2)] [(1, 2), (2, 183), (4, 188)] en33 (k_strings_Builder_WriteString_M_2 e33) rfl (.cons (.ren rfl) (.cons (.ren rfl) .nil)) rfl rfl rfl rfl rfl (A := .tup [.v (.int .i64) ((x31.size : Int) : Int), .bot]) rfl (W := [(2, .box [.pn x34.1 2 0 67, .own 188]), (183, .dead), (188, .arr 5 (.int .u8) x34.2)]) rfl rfl)) ?_
          refine Run.nil ?_
          refine T.region ?_
          refine Run.go (Ev.int rfl rfl rfl rfl trivial) ?_
          refine Run.go (Ev.move rfl rfl) ?_
          refine Run.nil ?_
          cases h
          exact LoopT.ghost (Ghost.only [(2, 2), (98, 98), (188, 183)] [3, 23, 24, 25, 29, 30, 31] rfl) hz2
        · replace h := ifF hb26 h
          refine T.exit ?_
          cases h
          cases hz2
          exact ⟨(), trivial, Ghost.only [(2, 2), (98, 98), (183, 168)] [3, 23, 24, 25] rfl⟩
      · refine T.region ?_
        refine Run.go (Ev.int rfl rfl rfl rfl trivial) ?_
        refine Run.go (Ev.move rfl rfl) ?_
        refine Run.nil ?_
        cases h
        exact LoopT.ghost (Ghost.only [(2, 2), (98, 98), (168, 131)] [3, 23, 24, 25] rfl) hz1
    · replace h := ifF hb18 h
      refine T.exit ?_
      cases h
      cases hz1
      exact ⟨(), trivial, Ghost.only [(2, 2), (131, 38)] [3] rfl⟩
  · refine T.seq ?_
    refine T.region ?_
    obtain ⟨x36, e35, h⟩ := bdS h
    refine Run.go (Ev.w3 (Ev.lendM [(2, 1), (38, 2)] [(1, 2), (2, 38), (4, 189)] en33 (k_strings_Builder_WriteString_M_2 e35) rfl (.cons (.ren rfl) (.cons (.ren rfl) .nil)) rfl rfl rfl rfl rfl (A := .tup [.v (.int .i64) (((bs [125, 10]).size : Int) : Int), .bot]) rfl (W := [(2, .box [.pn x36.1 2 0 67, .own 189]), (38, .dead), (189, .arr 5 (.int .u8) x36.2)]) rfl rfl)) ?_
    refine Run.nil ?_
    refine T.seq ?_
    refine T.region ?_
    obtain ⟨x38, e37, h⟩ := bdS h
    refine Run.go (Ev.w2 (Ev.lendM [(2, 1), (189, 2)] [(1, 2), (2, 189)] en34 (k_strings_Builder_String_M e37) rfl (.cons (.ren rfl) .nil) rfl rfl rfl rfl rfl (A := .v .str x38) rfl (W := [(2, .box [.pn x36.1 2 0 67, .bot]), (189, .dead)]) rfl rfl)) ?_
    refine Run.go (Ev.assign rfl rfl) ?_
    refine Run.nil ?_
    refine T.ret ?_
    cases h
    exact Fin.one rfl .v
theorem en35 : Enters Tryd.prog 35 := ⟨_, Tryd.func35, rfl, rfl⟩
theorem k_canon_each_api_Net__canon_net {p0 : (List D_api_Net)} {y : (List ByteArray)} (h : m_canon_each_api_Net__canon_net p0 = some y) : Spec Tryd.prog 35 [(.v (.sl Y_api_Net) p0), (.fn 36 [])] (.v (.sl .str) y) [] := by
  rw [m_canon_each_api_Net__canon_net] at h
  refine enterN [(.v (.sl Y_api_Net) p0), (.fn 36 [])] 26 Tryd.func35 rfl rfl rfl ?_
  refine T.seq ?_
  refine T.region ?_
  refine Run.go (Ev.assign rfl rfl) ?_
  refine Run.nil ?_
  refine T.seq ?_
  refine T.region ?_
  refine Run.go (Ev.move rfl rfl) ?_
  refine Run.go (Ev.len X rfl rfl rfl rfl) ?_
  obtain ⟨x1, e2, h⟩ := bdS h
  refine Run.go (Ev.e_mk X 1 e2 rfl rfl rfl rfl rfl rfl) ?_
  refine Run.go (Ev.assign rfl rfl) ?_
  refine Run.nil ?_
  obtain ⟨v3, hv, h⟩ := bdS h
  refine T.cut (fun _ : Unit => (⟨[(5, .own 1)], [(1, .arr 9 .str v3)], 26⟩ : St)) (fun _ => True) ?_ (fun _ _ => ?_)
  · replace h := hv
    clear hv
    refine T.seq ?_
    refine T.region ?_
    refine Run.go (Ev.move rfl rfl) ?_
    refine Run.go (Ev.len X rfl rfl rfl rfl) ?_
    refine Run.go (Ev.move rfl rfl) ?_
    refine Run.nil ?_
    refine T.block ?_
    refine T.loop (LoopT.ghost (Ghost.only [(1, 1)] [1, 5, 11, 12, 13] rfl) (LoopT.run (fun q : Int × (List ByteArray) => (⟨[(1, .fn 36 []), (5, .own 1), (11, .v (.sl Y_api_Net) p0), (12, .v (.int .i64) ((p0.length : Int) : Int)), (13, .v (.int .i64) q.1)], [(1, .arr 9 .str q.2)], 26⟩ : St)) (fun q z1 h hz1 => ?_) h))
    obtain ⟨v4, v5⟩ := q
    dsimp only
    rw [m_canon_each_api_Net__canon_net_l1] at h
    refine T.seq ?_
    refine T.region ?_
    refine Run.go (Ev.int rfl rfl rfl rfl trivial) ?_
    refine Run.nil ?_
    refine T.seq ?_
    refine T.cond rfl (fun hb6 => ?_) (fun hb6 => ?_)
    · replace h := ifT hb6 h
      refine T.skip ?_
      refine T.seq ?_
      refine T.block ?_
      refine T.seq ?_
      refine T.region ?_
      refine Run.go (Ev.move rfl rfl) ?_
      obtain ⟨x7, e8, h⟩ := bdS h
      refine Run.go (Ev.e_rd X e8 rfl rfl rfl rfl) ?_
      refine Run.go (Ev.load X rfl rfl rfl) ?_
      refine Run.go (Ev.allocN X 14 rfl rfl rfl) ?_
      refine Run.go (Ev.assign rfl rfl) ?_
      refine Run.do_ (Ev.storeBox X rfl rfl rfl rfl rfl rfl rfl) ?_
      refine Run.nil ?_
      refine T.region ?_
      refine Run.go (Ev.move rfl rfl) ?_
      refine Run.go (Ev.move rfl rfl) ?_
      refine Run.go (Ev.move rfl rfl) ?_
      refine Run.go (Ev.loadBox X rfl rfl rfl rfl rfl) ?_
      obtain ⟨x9, e10, h⟩ := bdS h
      refine Run.go (Ev.callC en36 (k_canon_net e10) rfl (.cons .v .nil) rfl rfl) ?_
      obtain ⟨j11, e12, h⟩ := bdS h
      refine Run.go (Ev.e_ixO X e12 rfl rfl rfl rfl rfl) ?_
      obtain ⟨x13, e14, h⟩ := ltS h
      refine Run.do_ (Ev.asO (Ev.storeEl X rfl rfl rfl rfl rfl) e14) ?_
      refine Run.nil ?_
      refine T.region ?_
      refine Run.go (Ev.int rfl rfl rfl rfl trivial) ?_
      refine Run.go (Ev.move rfl rfl) ?_
      refine Run.nil ?_
      cases h
      exact LoopT.ghost (Ghost.only [(1, 1)] [1, 5, 11, 12, 13] rfl) hz1
    · replace h := ifF hb6 h
      refine T.exit ?_
      cases h
      cases hz1
      exact ⟨(), trivial, Ghost.only [(1, 1)] [5] rfl⟩
  · refine T.seq ?_
    refine T.region ?_
    refine Run.go (Ev.move rfl rfl) ?_
    refine Run.go (Ev.assign rfl rfl) ?_
    refine Run.nil ?_
    refine T.ret ?_
    cases h
    exact Fin.one rfl (.own rfl)
theorem en25 : Enters Tryd.prog 25 := ⟨_, Tryd.func25, rfl, rfl⟩
theorem k_canon_Nets {p0 : (List D_api_Net)} {y : ByteArray} (h : m_canon_Nets p0 = some y) : Spec Tryd.prog 25 [(.v (.sl Y_api_Net) p0)] (.v .str y) [] := by
  rw [m_canon_Nets] at h
  refine enterN [(.v (.sl Y_api_Net) p0)] 6 Tryd.func25 rfl rfl rfl ?_
  refine T.seq ?_
  refine T.region ?_
  refine Run.go (Ev.assign rfl rfl) ?_
  refine Run.nil ?_
  refine T.seq ?_
  refine T.region ?_
  refine Run.go (Ev.move rfl rfl) ?_
  obtain ⟨x1, e2, h⟩ := bdS h
  refine Run.go (Ev.callC en35 (k_canon_each_api_Net__canon_net e2) rfl (.cons .v (.cons (.fn rfl) .nil)) rfl rfl) ?_
  obtain ⟨x3, e4, h⟩ := bdS h
  refine Run.go (Ev.callC en22 (k_strings_Join e4) rfl (.cons .v (.cons .v .nil)) rfl rfl) ?_
  refine Run.go (Ev.assign rfl rfl) ?_
  refine Run.nil ?_
  refine T.ret ?_
  cases h
  exact Fin.one rfl .v
theorem en10 : Enters Tryd.prog 10 := ⟨_, Tryd.func10, rfl, rfl⟩
theorem k_triviumlaw22_works  {y : Bool} (h : m_triviumlaw22_works  = some y) : Spec Tryd.prog 10 [] (.v .bool y) [] := by
  rw [m_triviumlaw22_works] at h
  refine enterN [] 7 Tryd.func10 rfl rfl rfl ?_
  refine T.seq ?_
  refine T.region ?_
  refine Run.go (Ev.assign rfl rfl) ?_
  refine Run.nil ?_
  refine T.seq ?_
  refine T.region ?_
  refine Run.go (Ev.structC pl50 zs50 rfl rfl rfl) ?_
  refine Run.ghost (Ghost.stv (t := 1) (τ := Y_api_Node) (y := (((bs [114]), []) : D_api_Node)) rfl rfl rfl) ?_
  refine Run.go (Ev.build X 1 rfl rfl rfl rfl rfl rfl rfl rfl) ?_
  refine Run.go (Ev.structC pl55 zs55 rfl rfl rfl) ?_
  refine Run.ghost (Ghost.firmAll (id := 1) rfl) ?_
  refine Run.ghost (Ghost.stv (t := 3) (τ := Y_api_Net) (y := (((bs [97]), [((bs [114]), [])], [], []) : D_api_Net)) rfl rfl rfl) ?_
  refine Run.go (Ev.build X 2 rfl rfl rfl rfl rfl rfl rfl rfl) ?_
  obtain ⟨x1, e2, h⟩ := bdS h
  refine Run.go (Ev.lend rfl (.cons (.own rfl) .nil) en25 (k_canon_Nets e2) rfl rfl) ?_
  refine Run.go (Ev.strs rfl rfl rfl rfl trivial) ?_
  obtain ⟨x3, e4, h⟩ := ltS h
  refine Run.go (Ev.avs (Ev.assign rfl rfl) e4) ?_
  refine Run.nil ?_
  refine T.ret ?_
  cases h
  exact Fin.one rfl .v
theorem en3 : Enters Tryd.prog 3 := ⟨_, Tryd.func3, rfl, rfl⟩
theorem k_triviumlaw22_CanonQueries {p0 : (List D_api_Query)} {y : Bool} (h : m_triviumlaw22_CanonQueries p0 = some y) : Spec Tryd.prog 3 [(.v (.sl Y_api_Query) p0)] (.v .bool y) [] := by
  rw [m_triviumlaw22_CanonQueries] at h
  refine enterN [(.v (.sl Y_api_Query) p0)] 43 Tryd.func3 rfl rfl rfl ?_
  refine T.seq ?_
  refine T.region ?_
  refine Run.go (Ev.assign rfl rfl) ?_
  refine Run.nil ?_
  refine T.seq ?_
  refine T.region ?_
  refine Run.go (Ev.build X 1 rfl rfl rfl rfl rfl rfl rfl rfl) ?_
  refine Run.go (Ev.assign rfl rfl) ?_
  refine Run.nil ?_
  refine T.seq ?_
  refine T.seq ?_
  refine T.region ?_
  refine Run.go (Ev.assign rfl rfl) ?_
  refine Run.nil ?_
  refine T.block ?_
  refine T.loop (LoopT.ghost (Ghost.only [(1, 6)] [0, 3, 4] rfl) (LoopT.run (fun q : Int × (List D_api_Query) => (⟨[(0, .v (.sl Y_api_Query) p0), (3, .own 6), (4, .v (.int .i64) q.1)], [(6, .arr 27 Y_api_Query q.2)], 43⟩ : St)) (fun q z1 h hz1 => ?_) h))
  obtain ⟨v1, v2⟩ := q
  dsimp only
  rw [m_triviumlaw22_CanonQueries_l1] at h
  refine T.seq ?_
  obtain ⟨v3, hv, h⟩ := bdS h
  refine T.cut (fun _ : Unit => (⟨[(0, .v (.sl Y_api_Query) p0), (3, .own 6), (4, .v (.int .i64) v1), (13, .v .bool v3)], [(6, .arr 27 Y_api_Query v2)], 43⟩ : St)) (fun _ => True) ?_ (fun _ _ => ?_)
  · replace h := hv
    clear hv
    refine T.region ?_
    refine Run.go (Ev.move rfl rfl) ?_
    refine Run.go (Ev.move rfl rfl) ?_
    refine Run.go (Ev.len X rfl rfl rfl rfl) ?_
    refine Run.go (Ev.int rfl rfl rfl rfl trivial) ?_
    refine Run.go (Ev.move rfl rfl) ?_
    rcases boolCases (decide (v1 < (p0.length : Int))) with hb4 | hb4
    · replace h := ifT hb4 h
      refine Run.on rfl rfl rfl hb4 (Ev.move rfl rfl) ?_
      refine Run.on rfl rfl rfl hb4 (Ev.int rfl rfl rfl rfl trivial) ?_
      refine Run.go (Ev.pickT rfl hb4 rfl rfl) ?_
      refine Run.nil ?_
      cases h
      exact ⟨(), trivial, Ghost.only [(6, 6)] [0, 3, 4, 13] rfl⟩
    · replace h := ifF hb4 h
      refine Run.offT rfl rfl rfl rfl hb4 ?_
      refine Run.offT rfl rfl rfl rfl hb4 ?_
      refine Run.go (Ev.pickF rfl hb4 rfl rfl) ?_
      refine Run.nil ?_
      cases h
      exact ⟨(), trivial, Ghost.only [(6, 6)] [0, 3, 4, 13] rfl⟩
  · refine T.cond rfl (fun hb5 => ?_) (fun hb5 => ?_)
    · replace h := ifT hb5 h
      refine T.skip ?_
      refine T.seq ?_
      refine T.block ?_
      refine T.seq ?_
      refine T.region ?_
      refine Run.go (Ev.move rfl rfl) ?_
      refine Run.go (Ev.move rfl rfl) ?_
      refine Run.go (Ev.move rfl rfl) ?_
      obtain ⟨x6, e7, h⟩ := bdS h
      refine Run.go (Ev.e_rd X e7 rfl rfl rfl rfl) ?_
      refine Run.go (Ev.load X rfl rfl rfl) ?_
      obtain ⟨x8, e9, h⟩ := bdS h
      refine Run.go (Ev.callC en5 (k_triviumref22_CleanQuery e9) rfl (.cons .v .nil) rfl rfl) ?_
      refine Run.go (Ev.build X 12 rfl rfl rfl rfl rfl rfl rfl rfl) ?_
      obtain ⟨x10, e11, h⟩ := bdS h
      refine Run.go (Ev.e_ap X 13 e11 rfl rfl rfl (.own rfl) rfl rfl rfl rfl rfl) ?_
      refine Run.go (Ev.assign rfl rfl) ?_
      refine Run.nil ?_
      refine T.seq ?_
      refine T.drawM [] [0, 0, 3, 7, 15, 0, 0, 96, 224, 511, 1023] (by kernel_rfl) (by kernel_rfl) ?_
      refine RunD.w (fun _ => Ev.move rfl rfl) ?_
      refine RunD.w (fun _ => Ev.move rfl rfl) ?_
      obtain ⟨x12, e13, h⟩ := bdS h
      refine RunD.a rfl rfl (Ev.e_rdO X e13 rfl rfl rfl rfl rfl) ?_
      refine RunD.a rfl rfl (Ev.e_ldO X (rdS e13).2 rfl rfl rfl rfl) ?_
      obtain ⟨x14, e15, h⟩ := bdS h
      refine RunD.a rfl rfl (Ev.callC en6 (k_canon_Query e15) rfl (.cons .v .nil) rfl rfl) ?_
      refine RunD.w (fun _ => Ev.move rfl rfl) ?_
      refine RunD.w (fun _ => Ev.move rfl rfl) ?_
      obtain ⟨x16, e17, h⟩ := bdS h
      refine RunD.a rfl rfl (Ev.e_rdO X e17 rfl rfl rfl rfl rfl) ?_
      refine RunD.a rfl rfl (Ev.e_ldO X (rdS e17).2 rfl rfl rfl rfl) ?_
      obtain ⟨x18, e19, h⟩ := bdS h
      refine RunD.a rfl rfl (Ev.callC en7 (k_triviumref22_Query e19) rfl (.cons .v .nil) rfl rfl) ?_
      refine RunD.w (fun _ => Ev.strs rfl rfl rfl rfl trivial) ?_
      refine RunD.nil ?_
      refine T.cond rfl (fun hb20 => ?_) (fun hb20 => ?_)
      · replace h := ifT hb20 h
        refine T.seq ?_
        refine T.region ?_
        refine Run.go (Ev.assign rfl rfl) ?_
        refine Run.nil ?_
        refine T.ret ?_
        cases h
        cases hz1
        exact Fin.one rfl .v
      · replace h := ifF hb20 h
        refine T.skip ?_
        refine T.region ?_
        refine Run.go (Ev.move rfl rfl) ?_
        refine Run.go (Ev.int rfl rfl rfl rfl trivial) ?_
        refine Run.go (Ev.assign rfl rfl) ?_
        refine Run.nil ?_
        cases h
        exact LoopT.ghost (Ghost.only [(13, 6)] [0, 3, 4] rfl) hz1
    · replace h := ifF hb5 h
      refine T.exit ?_
      refine T.seq ?_
      refine T.region ?_
      refine Run.go (Ev.move rfl rfl) ?_
      obtain ⟨x21, e22, h⟩ := bdS h
      refine Run.go (Ev.lend rfl (.cons (.own rfl) .nil) en8 (k_canon_Queries e22) rfl rfl) ?_
      refine Run.go (Ev.move rfl rfl) ?_
      obtain ⟨x23, e24, h⟩ := bdS h
      refine Run.go (Ev.lend rfl (.cons (.own rfl) .nil) en9 (k_triviumref22_Queries e24) rfl rfl) ?_
      refine Run.go (Ev.strs rfl rfl rfl rfl trivial) ?_
      refine Run.go (Ev.move rfl rfl) ?_
      rcases boolCases (sq x21 x23) with hb25 | hb25
      · replace h := ifT hb25 h
        obtain ⟨x26, e27, h⟩ := bdS h
        refine Run.on rfl rfl rfl hb25 (Ev.callC en10 (k_triviumlaw22_works e27) rfl .nil rfl rfl) ?_
        refine Run.go (Ev.pickT rfl hb25 rfl rfl) ?_
        refine Run.go (Ev.assign rfl rfl) ?_
        refine Run.nil ?_
        refine T.ret ?_
        cases h
        cases hz1
        exact Fin.one rfl .v
      · replace h := ifF hb25 h
        refine Run.offT rfl rfl rfl rfl hb25 ?_
        refine Run.go (Ev.pickF rfl hb25 rfl rfl) ?_
        refine Run.go (Ev.assign rfl rfl) ?_
        refine Run.nil ?_
        refine T.ret ?_
        cases h
        cases hz1
        exact Fin.one rfl .v
end Go.Proofs.YthpadfhhadcghaaDoor.AE
/- From a law's contract to its row: how what is handed in reads. -/
namespace Go.Proofs.YthpadfhhadcghaaDoor.AE
open Go Go.RowKit Go.WideShapes Go.ChangeAt Go.ChangeShapes

/-- values as a program has them -/
def Ty.ok : (t : Ty) → t.den → Prop
  | .int k, n => (Lit.int k n).wf = true
  | .bool, _ => True
  | .str, s => ByteArray.size s ≤ 9223372036854775807
  | .sl t, l => List.length (α := t.den) l ≤ 9223372036854775807 ∧ ∀ (i : Nat) (x : t.den), at? (α := t.den) l i = some x → t.ok x
  | .wrap t, x => t.ok x
  | .pair a b, x => a.ok x.1 ∧ b.ok x.2

theorem listed {α : Type} {Q : Nat → α → Prop} : ∀ n : Nat, (∀ i, i < n → ∃ y, Q i y) → ∃ l : List α, l.length = n ∧ ∀ (i : Nat) (x : α), at? l i = some x → Q i x
  | 0, _ => ⟨[], rfl, fun i x h => by cases h⟩
  | n + 1, h => by
    obtain ⟨l, h1, h2⟩ := listed n fun i hi => h i (by omega)
    obtain ⟨y, hy⟩ := h n (by omega)
    refine ⟨l ++ [y], by simp [h1], fun i x hx => ?_⟩
    unfold at? at hx
    by_cases hi : i < n
    · rw [List.getElem?_append_left (by omega)] at hx; exact h2 i x hx
    · have : i < (l ++ [y]).length := (List.getElem?_eq_some_iff.1 hx).1
      simp at this
      obtain rfl : i = n := by omega
      rw [List.getElem?_append_right (by omega)] at hx
      simp [h1] at hx
      exact hx ▸ hy

section
variable {H : Type} {enc : TypeId × Value → H} {P : Program} {w : World}
abbrev N0 : Nat → Prop := fun _ => False

def OpenT (enc : TypeId × Value → H) (P : Program) (w : World) (t : Ty) : Prop := ∀ (n : Nat) (i : TypeId) (fuel : Nat) (cs : List Value) (x : DataW H × List MemPlace),
  chk P n t i = true → DataW.trod enc P w 0 (fun _ => true) true fuel i cs = some x → ∃ y : t.den, t.relc w N0 y cs ∧ t.ok y
def OpenR (enc : TypeId × Value → H) (P : Program) (w : World) (t : Ty) : Prop := ∀ (n : Nat) (fs : List Field) (off : Nat) (m : Nat) (cs : List Value),
  chkR (chk P n) t fs off = true → cs.length = off + t.sz → (∀ (j : Nat) f, fs[j]? = some f → ∃ z, DataW.trod enc P w 0 (fun _ => true) true m f.type ((cs.drop f.offset).take (P.cellsOf f.type)) = some z) →
    ∃ y : t.den, t.relc w N0 y (cs.drop off) ∧ t.ok y
theorem chk_cells {n : Nat} {t : Ty} {i : TypeId} (h : chk P n t i = true) : P.cellsOf i = t.sz := by
  obtain ⟨f, z, h1, h2, _⟩ := Is.info ⟨n, h⟩
  simp [Program.cellsOf, h1, h2]
theorem openR_one {t : Ty} (ht : OpenT enc P w t) {n : Nat} {f : Field} {off m : Nat} {cs : List Value} (h : (f.offset == off && chk P n t f.type) = true) (hl : cs.length = off + t.sz)
    (hz : ∃ z, DataW.trod enc P w 0 (fun _ => true) true m f.type ((cs.drop f.offset).take (P.cellsOf f.type)) = some z) : ∃ y : t.den, t.relc w N0 y (cs.drop off) ∧ t.ok y := by
  rw [Bool.and_eq_true, beq_iff_eq] at h
  obtain ⟨rfl, hc⟩ := h
  obtain ⟨z, hz⟩ := hz
  rw [chk_cells hc, List.take_of_length_le (by rw [List.length_drop]; omega)] at hz
  exact ht n _ _ _ _ hc hz
theorem open_all (t : Ty) : OpenT enc P w t ∧ OpenR enc P w t := by
  have base : ∀ t : Ty, (∀ a b, t ≠ .pair a b) → OpenT enc P w t → OpenR enc P w t := by
    intro t hn ht n fs off m cs h hl hz
    cases fs with
    | nil => simp [chkR] at h
    | cons f r =>
      cases r with
      | nil => exact openR_one ht (by cases t <;> simpa [chkR] using h) hl (hz 0 f rfl)
      | cons g r => cases t <;> first | exact absurd rfl (hn _ _) | simp [chkR] at h
  induction t with
  | int k =>
    refine (fun h => ⟨h, base _ (fun _ _ h => by cases h) h⟩) ?_
    intro n i fuel cs x hc hx
    obtain ⟨z, h1, _, h2⟩ := DataW.trod_int (Is.desc ⟨n, hc⟩) hx
    exact ⟨z, h1, h2⟩
  | bool =>
    refine (fun h => ⟨h, base _ (fun _ _ h => by cases h) h⟩) ?_
    intro n i fuel cs x hc hx
    obtain ⟨z, h1, _⟩ := DataW.trod_bool (Is.desc ⟨n, hc⟩) hx
    exact ⟨z, h1, trivial⟩
  | str =>
    refine (fun h => ⟨h, base _ (fun _ _ h => by cases h) h⟩) ?_
    intro n i fuel cs x hc hx
    obtain ⟨z, h1, _, h2⟩ := DataW.trod_string (Is.desc ⟨n, hc⟩) hx
    exact ⟨z, h1, h2⟩
  | sl t ih =>
    refine (fun h => ⟨h, base _ (fun _ _ h => by cases h) h⟩) ?_
    intro n i fuel cs x hc hx
    obtain ⟨e, h1, h2⟩ := Is.desc ⟨n, hc⟩
    obtain ⟨k, h2⟩ := h2
    rcases DataW.trod_slice h1 hx with ⟨rfl, _⟩ | ⟨a, len, cap, elems, rest, m, _, rfl, _, _, hl, hm, hel, hcell, _⟩
    · exact ⟨([] : List t.den), ⟨none, 0, rfl, Nat.le_refl _, Nat.zero_le _, fun h => absurd h (Nat.lt_irrefl _)⟩, Nat.zero_le _, fun i x h => by cases h⟩
    · rw [chk_cells h2] at hcell
      obtain ⟨l, hll, hlq⟩ := listed (Q := fun j (y : t.den) => ∃ ds, t.relc w N0 y ds ∧ t.ok y ∧ ∀ (q : Nat) u, ds[q]? = some u → w.cell? (a.add (j * t.sz + q)) = some u) len (by
        intro j hj
        have hb := hcell j hj
        obtain ⟨el, hel'⟩ : ∃ z, elems[j]? = some z := ⟨_, List.getElem?_eq_getElem (by omega)⟩
        rw [hel'] at hb
        obtain ⟨ds, hd1, hd2⟩ := Option.bind_eq_some_iff.1 hb
        obtain ⟨_, hlen, hcs⟩ := World.cells?_some hd1
        obtain ⟨y, hy1, hy2⟩ := ih.1 k e m ds el h2 hd2
        refine ⟨y, ds, hy1, hy2, fun q u hu => ?_⟩
        have hq : q < t.sz := by have := (List.getElem?_eq_some_iff.1 hu).1; omega
        have := hcs q hq
        rw [Addr.add_add] at this
        rw [this, hu])
      refine ⟨l, ⟨some a, cap, by show _ = [Value.slice (some a) (List.length l) cap]; rw [hll], by show List.length l ≤ cap; omega, hm, fun _ => ⟨a, rfl, fun h => h, fun i x hx => ?_⟩⟩, by show List.length l ≤ _; have : maxLen = 9223372036854775807 := rfl; omega, fun i x hx => ?_⟩
      · obtain ⟨ds, h3, _, h4⟩ := hlq i x hx; exact ⟨ds, h3, h4⟩
      · obtain ⟨ds, _, h3, _⟩ := hlq i x hx; exact h3
  | wrap t ih =>
    refine (fun h => ⟨h, base _ (fun _ _ h => by cases h) h⟩) ?_
    intro n i fuel cs x hc hx
    obtain ⟨f, h1, h2, k, h3⟩ := Is.desc ⟨n, hc⟩
    obtain ⟨xs, m, _, _, hl, hlen, hf⟩ := DataW.trod_struct h1 hx
    rw [chk_cells hc] at hl
    have h4 := hf 0 f rfl
    rw [h2, chk_cells h3, List.drop_zero, List.take_of_length_le (by rw [hl]; exact Nat.le_refl _)] at h4
    obtain ⟨z, hz⟩ : ∃ z, xs[0]? = some z := ⟨_, List.getElem?_eq_getElem (by rw [hlen]; exact Nat.one_pos)⟩
    rw [hz] at h4
    exact ih.1 k _ _ _ _ h3 h4
  | pair a b iha ihb =>
    have hT : OpenT enc P w (.pair a b) := by
      intro n i fuel cs x hc hx
      obtain ⟨f, g, r, h1, h2, k, h3, h4⟩ := Is.desc ⟨n, hc⟩
      obtain ⟨xs, m, _, _, hl, hlen, hf⟩ := DataW.trod_struct h1 hx
      rw [chk_cells hc] at hl
      have hl : cs.length = a.sz + b.sz := hl
      have hsome : ∀ (j : Nat) f', (f :: g :: r)[j]? = some f' → ∃ z, DataW.trod enc P w 0 (fun _ => true) true m f'.type ((cs.drop f'.offset).take (P.cellsOf f'.type)) = some z := by
        intro j f' hj
        have h5 := hf j f' (by simpa using hj)
        have hj' : j < xs.length := by rw [hlen]; simpa using (List.getElem?_eq_some_iff.1 hj).1
        exact ⟨xs[j], by rw [h5, List.getElem?_eq_getElem hj']⟩
      obtain ⟨z, hz⟩ := hsome 0 f rfl
      rw [h2, chk_cells h3, List.drop_zero] at hz
      obtain ⟨y1, r1, o1⟩ := iha.1 k _ _ _ _ h3 hz
      obtain ⟨y2, r2, o2⟩ := ihb.2 k (g :: r) a.sz m cs h4 hl (fun j f' hj => hsome (j + 1) f' (by simpa using hj))
      exact ⟨(y1, y2), ⟨_, _, (List.take_append_drop a.sz cs).symm, r1, r2⟩, o1, o2⟩
    refine ⟨hT, ?_⟩
    intro n fs off m cs h hl hz
    cases fs with
    | nil => simp [chkR] at h
    | cons f r =>
      cases r with
      | nil => exact openR_one hT (by simpa [chkR] using h) hl (hz 0 f rfl)
      | cons g r =>
        simp only [chkR, Bool.and_eq_true, beq_iff_eq] at h
        obtain ⟨⟨rfl, hc⟩, hr⟩ := h
        have hl : cs.length = f.offset + (a.sz + b.sz) := hl
        obtain ⟨z, hz0⟩ := hz 0 f rfl
        rw [chk_cells hc] at hz0
        obtain ⟨y1, r1, o1⟩ := iha.1 n _ _ _ _ hc hz0
        obtain ⟨y2, r2, o2⟩ := ihb.2 n (g :: r) (f.offset + a.sz) m cs hr (by omega) (fun j f' hj => hz (j + 1) f' (by simpa using hj))
        refine ⟨(y1, y2), ⟨_, _, ?_, r1, r2⟩, o1, o2⟩
        rw [← List.drop_drop, List.take_append_drop]

/-- What is handed in is a value. -/
theorem open_v {t : Ty} {i : TypeId} {b0 : Nat} {r : Reach} {v : Value} {d : DataW H} {p : List MemPlace} (hi : Is P t i) (hv : Value.okWide P w r b0 i v) (h : DataW.Trod enc P w 0 (fun _ => true) true i v d p) :
    ∃ y : t.den, t.ok y ∧ t.rel w N0 y v := by
  obtain ⟨fuel, hf⟩ := h
  obtain ⟨n, hn⟩ := hi
  obtain ⟨y, h1, h2⟩ := (open_all (enc := enc) (P := P) (w := w) t).1 n i fuel _ _ hn hf
  refine ⟨y, h2, _, h1, ?_⟩
  have hd := Is.desc ⟨n, hn⟩
  have flat : t.agg = false → v.cells = #[v] → v = t.val v.cells.toList := by
    intro ha hc
    rw [hc]
    unfold Ty.val
    rw [ha]
    rfl
  have aggr : t.agg = true → (∃ cs, v = .agg cs) → v = t.val v.cells.toList := by
    rintro ha ⟨cs, rfl⟩
    unfold Ty.val
    rw [ha]
    rfl
  cases t with
  | int k => obtain ⟨z, rfl⟩ := okWide_int hd hv; exact flat rfl rfl
  | bool => obtain ⟨z, rfl⟩ := okWide_bool hd hv; exact flat rfl rfl
  | str => obtain ⟨z, rfl⟩ := okWide_string hd hv; exact flat rfl rfl
  | sl t => obtain ⟨e, hd, _⟩ := hd; obtain ⟨a, l, c, rfl⟩ := okWide_slice hd hv; exact flat rfl rfl
  | wrap t => obtain ⟨f, hd, _⟩ := hd; obtain ⟨cs, rfl, _⟩ := okWide_struct hd hv; exact aggr rfl ⟨_, rfl⟩
  | pair a b => obtain ⟨f, g, r, hd, _⟩ := hd; obtain ⟨cs, rfl, _⟩ := okWide_struct hd hv; exact aggr rfl ⟨_, rfl⟩
end

/-- a law holds of all arguments -/
def LawArgs : List Ty → (List AV → Prop) → Prop
  | [], Q => Q []
  | t :: r, Q => ∀ y : t.den, t.ok y → LawArgs r (fun l => Q (.v t y :: l))
theorem law_calls {P : Program} {f : Nat} {avs : List AV} {W : World} {args : List Value} (hG : Glo W) (h : Spec P f avs (.v .bool true) []) (hr : AV.rels W N0 (fun _ => (0, 0)) [] avs args) :
    Calls P f args.toArray W fun e W' => e = .returned (.bool true) ∧ Below W.heap.size W W' := by
  refine (h N0 W args hG (fun _ h => h.elim) hr).mono fun e W' ⟨u, loc, he, _, hu, hb⟩ => ?_
  obtain ⟨cs, hc, rfl⟩ := hu
  have hc : cs = [.bool true] := hc
  subst hc
  exact ⟨he, hb⟩
end Go.Proofs.YthpadfhhadcghaaDoor.AE
/- Plain facts on numbers by digits of any base, and on lists: no program in sight. -/
namespace Go.Proofs.YthpadfhhadcghaaDoor.Tri

def dv (B : Int) : List Int → Int
  | [] => 0
  | x :: xs => x + B * dv B xs

def Dig (B : Int) (l : List Int) : Prop := ∀ x, x ∈ l → 0 ≤ x ∧ x < B

/-- no nought at the end -/
def Top (l : List Int) : Prop := l.getLast? ≠ some 0

def Can (B : Int) (l : List Int) : Prop := Dig B l ∧ Top l

theorem dv_nil (B : Int) : dv B [] = 0 := rfl
theorem dv_cons (B x : Int) (xs : List Int) : dv B (x :: xs) = x + B * dv B xs := rfl
theorem dv_one (B x : Int) : dv B [x] = x := by simp [dv]

theorem dv_append (B : Int) (a b : List Int) : dv B (a ++ b) = dv B a + B ^ a.length * dv B b := by
  induction a with
  | nil => simp [dv]
  | cons x xs ih =>
    simp only [List.cons_append, dv, ih, List.length_cons, Int.pow_succ]
    grind

theorem dv_snoc (B : Int) (a : List Int) (x : Int) : dv B (a ++ [x]) = dv B a + B ^ a.length * x := by
  rw [dv_append, dv_one]

theorem Dig.nil (B : Int) : Dig B [] := fun _ h => by simp at h
theorem Dig.cons {B x : Int} {l : List Int} (h : 0 ≤ x ∧ x < B) (hl : Dig B l) : Dig B (x :: l) := by
  intro y hy
  rcases List.mem_cons.1 hy with rfl | hy
  · exact h
  · exact hl y hy
theorem Dig.head {B x : Int} {l : List Int} (h : Dig B (x :: l)) : 0 ≤ x ∧ x < B := h x (by simp)
theorem Dig.tail {B x : Int} {l : List Int} (h : Dig B (x :: l)) : Dig B l := fun y hy => h y (by simp [hy])
theorem Dig.append {B : Int} {a b : List Int} (ha : Dig B a) (hb : Dig B b) : Dig B (a ++ b) := by
  intro y hy
  rcases List.mem_append.1 hy with hy | hy
  · exact ha y hy
  · exact hb y hy
theorem Dig.snoc {B x : Int} {l : List Int} (hl : Dig B l) (h : 0 ≤ x ∧ x < B) : Dig B (l ++ [x]) :=
  hl.append (Dig.cons h (Dig.nil B))
theorem Dig.left {B : Int} {a b : List Int} (h : Dig B (a ++ b)) : Dig B a := fun y hy => h y (by simp [hy])
theorem Dig.right {B : Int} {a b : List Int} (h : Dig B (a ++ b)) : Dig B b := fun y hy => h y (by simp [hy])
theorem Dig.take {B : Int} {a : List Int} (h : Dig B a) (n : Nat) : Dig B (a.take n) := fun y hy => h y (List.mem_of_mem_take hy)
theorem Dig.drop {B : Int} {a : List Int} (h : Dig B a) (n : Nat) : Dig B (a.drop n) := fun y hy => h y (List.mem_of_mem_drop hy)
theorem Dig.set {B : Int} {a : List Int} (h : Dig B a) (n : Nat) {v : Int} (hv : 0 ≤ v ∧ v < B) : Dig B (a.set n v) := by
  intro y hy
  rcases List.mem_or_eq_of_mem_set hy with hy | rfl
  · exact h y hy
  · exact hv
theorem Dig.replicate {B : Int} (hB : 0 < B) (n : Nat) : Dig B (List.replicate n 0) := by
  intro y hy
  have := (List.mem_replicate.1 hy).2
  subst this; omega

theorem dv_nonneg {B : Int} (hB : 0 < B) {l : List Int} (h : Dig B l) : 0 ≤ dv B l := by
  induction l with
  | nil => simp [dv]
  | cons x xs ih =>
    have h1 := h.head
    have h2 := ih h.tail
    have := Int.mul_nonneg (Int.le_of_lt hB) h2
    simp only [dv]; omega

theorem pow_pos' {B : Int} (hB : 0 < B) (n : Nat) : 0 < B ^ n := Int.pow_pos hB

theorem dv_lt {B : Int} (hB : 0 < B) {l : List Int} (h : Dig B l) : dv B l < B ^ l.length := by
  induction l with
  | nil => simp [dv]
  | cons x xs ih =>
    have h1 := h.head
    have h2 := ih h.tail
    have : B * (dv B xs + 1) ≤ B * B ^ xs.length := Int.mul_le_mul_of_nonneg_left (by omega) (Int.le_of_lt hB)
    simp only [dv, List.length_cons, Int.pow_succ]
    grind

theorem dv_replicate (B : Int) (n : Nat) : dv B (List.replicate n 0) = 0 := by
  induction n with
  | zero => rfl
  | succ n ih => simp [List.replicate_succ, dv, ih]

theorem dv_append_zeros (B : Int) (a : List Int) (n : Nat) : dv B (a ++ List.replicate n 0) = dv B a := by
  rw [dv_append, dv_replicate]; simp

/-- two lists of digits of one length and one value are the same -/
theorem dv_inj_len {B : Int} (hB : 0 < B) : ∀ {a b : List Int}, Dig B a → Dig B b → a.length = b.length → dv B a = dv B b → a = b
  | [], [], _, _, _, _ => rfl
  | [], _ :: _, _, _, h, _ => by simp at h
  | _ :: _, [], _, _, h, _ => by simp at h
  | x :: xs, y :: ys, ha, hb, hl, hv => by
    have h1 := ha.head
    have h2 := hb.head
    simp only [dv] at hv
    have e1 : (x + B * dv B xs) % B = x := by rw [Int.add_mul_emod_self_left, Int.emod_eq_of_lt h1.1 h1.2]
    have e2 : (y + B * dv B ys) % B = y := by rw [Int.add_mul_emod_self_left, Int.emod_eq_of_lt h2.1 h2.2]
    have hxy : x = y := by rw [← e1, ← e2, hv]
    subst hxy
    have h3 : B * dv B xs = B * dv B ys := by omega
    have h4 : dv B xs = dv B ys := Int.eq_of_mul_eq_mul_left (by omega) h3
    rw [dv_inj_len hB ha.tail hb.tail (by simpa using hl) h4]

theorem Top.nil : Top [] := by simp [Top]
theorem Top.snoc {l : List Int} {x : Int} : Top (l ++ [x]) ↔ x ≠ 0 := by simp [Top]
theorem Can.nil (B : Int) : Can B [] := ⟨Dig.nil B, Top.nil⟩

theorem eq_snoc {α : Type} {l : List α} (h : l ≠ []) : ∃ a x, l = a ++ [x] :=
  ⟨l.dropLast, l.getLast h, (List.dropLast_concat_getLast h).symm⟩

theorem Can.ge {B : Int} (hB : 0 < B) {l : List Int} (h : Can B l) (hl : l ≠ []) : B ^ (l.length - 1) ≤ dv B l := by
  obtain ⟨a, x, rfl⟩ := eq_snoc hl
  have hx := Top.snoc.1 h.2
  have hd := h.1.right.head
  have ha := dv_nonneg hB h.1.left
  rw [dv_snoc]
  have : B ^ a.length * 1 ≤ B ^ a.length * x := Int.mul_le_mul_of_nonneg_left (by omega) (Int.le_of_lt (pow_pos' hB _))
  simp only [List.length_append, List.length_cons, List.length_nil, Nat.add_sub_cancel, Nat.zero_add]
  omega

theorem Can.pos {B : Int} (hB : 0 < B) {l : List Int} (h : Can B l) (hl : l ≠ []) : 0 < dv B l := by
  have := h.ge hB hl
  have := pow_pos' hB (l.length - 1)
  omega

theorem Can.eq_nil {B : Int} (hB : 0 < B) {l : List Int} (h : Can B l) : l = [] ↔ dv B l = 0 := by
  constructor
  · rintro rfl; rfl
  · intro hv
    apply Classical.byContradiction
    intro hl
    have := h.pos hB hl
    omega

theorem pow_mono {B : Int} (hB : 0 < B) {m n : Nat} (h : m ≤ n) : B ^ m ≤ B ^ n := by
  obtain ⟨d, rfl⟩ := Nat.exists_eq_add_of_le h
  rw [Int.pow_add]
  have h1 := pow_pos' hB m
  have h2 := pow_pos' hB d
  have : B ^ m * 1 ≤ B ^ m * B ^ d := Int.mul_le_mul_of_nonneg_left (by omega) (Int.le_of_lt h1)
  omega

/-- of two canonical lists the longer one is the greater -/
theorem Can.lt_of_length {B : Int} (hB : 0 < B) {a b : List Int} (ha : Dig B a) (hb : Can B b) (h : a.length < b.length) : dv B a < dv B b := by
  have h1 := dv_lt hB ha
  have hne : b ≠ [] := by rintro rfl; simp at h
  have h2 := hb.ge hB hne
  have h3 := pow_mono hB (show a.length ≤ b.length - 1 by omega)
  omega

theorem Can.inj {B : Int} (hB : 0 < B) {a b : List Int} (ha : Can B a) (hb : Can B b) (hv : dv B a = dv B b) : a = b := by
  rcases Nat.lt_trichotomy a.length b.length with h | h | h
  · have := Can.lt_of_length hB ha.1 hb h; omega
  · exact dv_inj_len hB ha.1 hb.1 h hv
  · have := Can.lt_of_length hB hb.1 ha h; omega

/-- without noughts at the end -/
def trimz : List Int → List Int
  | [] => []
  | x :: xs => if trimz xs = [] ∧ x = 0 then [] else x :: trimz xs

theorem trimz_dig {B : Int} {l : List Int} (h : Dig B l) : Dig B (trimz l) := by
  induction l with
  | nil => exact h
  | cons x xs ih =>
    simp only [trimz]; split
    · exact Dig.nil B
    · exact Dig.cons h.head (ih h.tail)

theorem trimz_top (l : List Int) : Top (trimz l) := by
  induction l with
  | nil => exact Top.nil
  | cons x xs ih =>
    simp only [trimz]; split
    · exact Top.nil
    · rename_i hn
      by_cases he : trimz xs = []
      · rw [he]; simp [Top]; intro hx; exact hn ⟨he, hx⟩
      · unfold Top; rw [List.getLast?_cons_of_ne_nil he]; exact ih

theorem trimz_dv (B : Int) (l : List Int) : dv B (trimz l) = dv B l := by
  induction l with
  | nil => rfl
  | cons x xs ih =>
    simp only [trimz]; split
    · rename_i h
      rw [h.1] at ih; simp only [dv] at *; rw [← ih, h.2]; simp
    · simp only [dv, ih]

theorem trimz_can {B : Int} {l : List Int} (h : Dig B l) : Can B (trimz l) := ⟨trimz_dig h, trimz_top l⟩

theorem trimz_snoc_zero (l : List Int) : trimz (l ++ [0]) = trimz l := by
  induction l with
  | nil => simp [trimz]
  | cons x xs ih => simp only [List.cons_append, trimz, ih]

theorem trimz_of_top {l : List Int} (h : Top l) : trimz l = l := by
  induction l with
  | nil => rfl
  | cons x xs ih =>
    simp only [trimz]
    by_cases he : xs = []
    · subst he
      have : x ≠ 0 := by simpa [Top] using h
      simp [trimz, this]
    · have ht : Top xs := by unfold Top at *; rwa [List.getLast?_cons_of_ne_nil he] at h
      rw [ih ht, if_neg (by simp [he])]

theorem trimz_length (l : List Int) : (trimz l).length ≤ l.length := by
  induction l with
  | nil => simp [trimz]
  | cons x xs ih => simp only [trimz]; split <;> simp <;> omega

end Go.Proofs.YthpadfhhadcghaaDoor.Tri
/- Plain facts for printed functions: numbers by digits, loops, reads. -/
namespace Go.Proofs.YthpadfhhadcghaaDoor.AP
open Go Go.Proofs.YthpadfhhadcghaaDoor.Tri
set_option linter.unusedVariables false

/-! loops, round by round -/
def go_ {S X : Type} : Option (S ⊕ X) → (S → Option X) → Option X
  | none, _ => none
  | some (.inl s), k => k s
  | some (.inr x), _ => some x
@[simp] theorem go_inl {S X : Type} (s : S) (k : S → Option X) : go_ (some (.inl s)) k = k s := rfl
@[simp] theorem go_inr {S X : Type} (x : X) (k : S → Option X) : go_ (some (.inr x)) k = some x := rfl
theorem lp_go {S X : Type} (f : S → Option (S ⊕ X)) (s : S) : lp f s = go_ (f s) (lp f) := by
  rw [lp_eq]
  cases f s with
  | none => rfl
  | some z => cases z <;> rfl
/-- a loop over an index -/
theorem lp_upto {S X : Type} {f : S → Option (S ⊕ X)} (n : Nat) (T : Nat → S → Prop) (Q : X → Prop)
    (h : ∀ i s, i < n → T i s → (∃ s', f s = some (.inl s') ∧ T (i + 1) s') ∨ (∃ x, f s = some (.inr x) ∧ Q x))
    (he : ∀ s, T n s → ∃ x, f s = some (.inr x) ∧ Q x) {s : S} (h0 : T 0 s) : ∃ x, lp f s = some x ∧ Q x := by
  have key : ∀ k i s, i + k = n → T i s → ∃ x, lp f s = some x ∧ Q x := by
    intro k
    induction k with
    | zero =>
      intro i s hk hs
      obtain rfl : i = n := by omega
      obtain ⟨x, h1, h2⟩ := he s hs
      exact ⟨x, lp_done h1, h2⟩
    | succ k ih =>
      intro i s hk hs
      rcases h i s (by omega) hs with ⟨s', h1, h2⟩ | ⟨x, h1, h2⟩
      · rw [lp_more h1]; exact ih (i + 1) s' (by omega) h2
      · exact ⟨x, lp_done h1, h2⟩
  exact key n 0 s (by omega) h0
/-- the place of the first one that has p; the length where there is none -/
def fst_ {α : Type} (p : α → Bool) : List α → Nat
  | [] => 0
  | x :: l => if p x then 0 else fst_ p l + 1
theorem fst_le {α : Type} (p : α → Bool) : ∀ l : List α, fst_ p l ≤ l.length
  | [] => Nat.le_refl _
  | x :: l => by have := fst_le p l; unfold fst_; split <;> simp <;> omega
theorem fst_lt {α : Type} (p : α → Bool) : ∀ {l : List α}, fst_ p l < l.length → ∃ x, l[fst_ p l]? = some x ∧ p x = true
  | [], h => by simp at h
  | x :: l, h => by
    unfold fst_ at h ⊢
    by_cases hp : p x = true
    · simp only [hp, if_true]; exact ⟨x, rfl, hp⟩
    · simp only [hp] at h ⊢
      obtain ⟨y, h1, h2⟩ := fst_lt p (l := l) (by simpa using h)
      exact ⟨y, by simpa using h1, h2⟩
theorem fst_before {α : Type} (p : α → Bool) : ∀ {l : List α} {i : Nat} {x : α}, i < fst_ p l → l[i]? = some x → p x = false
  | [], i, x, h, h2 => by simp at h2
  | y :: l, i, x, h, h2 => by
    unfold fst_ at h
    by_cases hp : p y = true
    · simp [hp] at h
    · cases i with
      | zero => simp at h2; subst h2; simpa using hp
      | succ i => exact fst_before p (l := l) (i := i) (by simp [hp] at h; omega) (by simpa using h2)
theorem fst_any {α : Type} (p : α → Bool) : ∀ l : List α, decide (fst_ p l < l.length) = l.any p
  | [] => rfl
  | x :: l => by
    unfold fst_
    by_cases hp : p x = true
    · simp [hp]
    · have := fst_any p l
      simp only [hp, List.any_cons, List.length_cons]
      rw [← this]; simp
/-- where the first one is, -1: nowhere -/
def idx {α : Type} (p : α → Bool) (l : List α) : Int := if fst_ p l < l.length then (fst_ p l : Int) else -1
theorem idx_le {α : Type} (p : α → Bool) (l : List α) : -1 ≤ idx p l ∧ idx p l < l.length := by unfold idx; split <;> omega
theorem idx_any {α : Type} (p : α → Bool) (l : List α) : decide (0 ≤ idx p l) = l.any p := by
  rw [← fst_any]; unfold idx; by_cases h : fst_ p l < l.length <;> simp [h]
theorem idx_rd {α : Type} {p : α → Bool} {l : List α} (h : 0 ≤ idx p l) : ∃ x, rd l (idx p l) = some x ∧ p x = true := by
  unfold idx at h ⊢
  by_cases hl : fst_ p l < l.length
  · rw [if_pos hl, rd_nat]; exact fst_lt p hl
  · rw [if_neg hl] at h; omega
/-- a loop that looks for the first one -/
theorem lp_first {α X : Type} {f : Int → Option (Int ⊕ X)} (l : List α) (p : α → Bool) (r : Nat → X) (e : Option X)
    (h : ∀ (i : Nat) x, l[i]? = some x → f (i : Int) = some (if p x then .inr (r i) else .inl ((i : Int) + 1)))
    (he : lp f (l.length : Int) = e) : lp f 0 = if fst_ p l < l.length then some (r (fst_ p l)) else e := by
  have key : ∀ (k i : Nat), i + k = l.length → (∀ j, j < i → ∀ x, l[j]? = some x → p x = false) → lp f (i : Int) = if fst_ p l < l.length then some (r (fst_ p l)) else e := by
    intro k
    induction k with
    | zero =>
      intro i hk hb
      obtain rfl : i = l.length := by omega
      rw [if_neg, he]
      intro hlt
      obtain ⟨x, h1, h2⟩ := fst_lt p hlt
      rw [hb _ hlt x h1] at h2; cases h2
    | succ k ih =>
      intro i hk hb
      have hi : l[i]? = some l[i] := List.getElem?_eq_getElem (by omega)
      cases hp : p l[i] with
      | true =>
        have e : fst_ p l = i := by
          apply Nat.le_antisymm
          · apply Nat.le_of_not_lt; intro hlt; have := fst_before p hlt hi; rw [hp] at this; cases this
          · apply Nat.le_of_not_lt; intro hlt
            obtain ⟨x, h1, h2⟩ := fst_lt p (show fst_ p l < l.length by omega)
            rw [hb _ hlt x h1] at h2; cases h2
        rw [lp_done (by rw [h i _ hi, hp]; rfl), if_pos (by omega), e]
      | false =>
        rw [lp_more (by rw [h i _ hi, hp]; rfl)]
        have := ih (i + 1) (by omega) (fun j hj x hx => by
          by_cases hji : j = i
          · subst hji; rw [hi] at hx; cases hx; exact hp
          · exact hb j (by omega) x hx)
        simpa using this
  simpa using key l.length 0 (by omega) (by intro j hj; omega)

/-! reads of numbers -/
def gI (l : List Int) (i : Int) : Int := l.getD i.toNat 0
theorem rd_I {l : List Int} {i : Int} (h0 : 0 ≤ i) (h1 : i < l.length) : rd l i = some (gI l i) := rd_getD 0 h0 h1
theorem gI_dig {B : Int} {l : List Int} (h : Dig B l) (hB : 0 < B) (i : Int) : 0 ≤ gI l i ∧ gI l i < B := by
  unfold gI
  rw [List.getD_eq_getElem?_getD]
  cases hx : l[i.toNat]? with
  | none => exact ⟨Int.le_refl _, hB⟩
  | some x => exact h x (List.mem_of_getElem? hx)
theorem gI_nat (l : List Int) (i : Nat) : gI l (i : Int) = l.getD i 0 := rfl
theorem take_gI (B : Int) : ∀ (l : List Int) (i : Nat), i < l.length → dv B (l.take (i + 1)) = dv B (l.take i) + B ^ i * gI l (i : Int) := by
  intro l i h
  rw [List.take_add_one, List.getElem?_eq_getElem h]
  simp only [Option.toList]
  rw [dv_snoc, List.length_take, Nat.min_eq_left (Nat.le_of_lt h)]
  simp [gI, h]
theorem drop_gI (l : List Int) (q : Nat) (h : q < l.length) : l.drop q = gI l (q : Int) :: l.drop (q + 1) := by
  rw [List.drop_eq_getElem_cons h]; simp [gI, h]
theorem gI_last (a : List Int) (x : Int) : gI (a ++ [x]) (a.length : Int) = x := by simp [gI]

/-! numbers of a value -/
def num (B : Nat) (x : Nat) : List Int := if h : 1 < B ∧ 0 < x then ((x % B : Nat) : Int) :: num B (x / B) else []
termination_by x
decreasing_by exact Nat.div_lt_self h.2 h.1
theorem num_dv {B : Nat} (hB : 1 < B) : ∀ x : Nat, dv (B : Int) (num B x) = x := by
  intro x
  induction x using Nat.strongRecOn with
  | _ x ih =>
    rw [num]
    by_cases h : 0 < x
    · rw [dif_pos ⟨hB, h⟩, dv, ih _ (Nat.div_lt_self h hB)]
      have := Nat.mod_add_div x B
      have e : ((x % B : Nat) : Int) + (B : Int) * ((x / B : Nat) : Int) = ((x % B + B * (x / B) : Nat) : Int) := by push_cast; rfl
      rw [e, this]
    · rw [dif_neg (by omega)]
      have : x = 0 := by omega
      rw [this]; rfl
theorem num_can {B : Nat} (hB : 1 < B) : ∀ x : Nat, Tri.Can (B : Int) (num B x) := by
  intro x
  induction x using Nat.strongRecOn with
  | _ x ih =>
    rw [num]
    by_cases h : 0 < x
    · rw [dif_pos ⟨hB, h⟩]
      have hc := ih _ (Nat.div_lt_self h hB)
      have hm := Nat.mod_lt x (show 0 < B by omega)
      refine ⟨Dig.cons ⟨by omega, by omega⟩ hc.1, ?_⟩
      by_cases he : num B (x / B) = []
      · rw [he]
        have h0 : x / B = 0 := by
          have := num_dv hB (x / B)
          rw [he] at this
          have h2 : ((x / B : Nat) : Int) = 0 := this.symm
          omega
        have h1 : x % B = x := by have := Nat.mod_add_div x B; rw [h0, Nat.mul_zero] at this; omega
        rw [h1]
        simp [Top]
        omega
      · unfold Top
        rw [List.getLast?_cons_of_ne_nil he]
        exact hc.2
    · rw [dif_neg (by omega)]
      exact Tri.Can.nil _
theorem can_num {B : Nat} (hB : 1 < B) {l : List Int} (h : Tri.Can (B : Int) l) : l = num B (dv (B : Int) l).toNat := by
  refine Tri.Can.inj (by omega) h (num_can hB _) ?_
  rw [num_dv hB]
  have := dv_nonneg (B := (B : Int)) (by omega) h.1
  omega
def nl (x : Int) : List Int := num 4294967296 x.toNat
def zl (x : Int) : List Int := num 10000 x.toNat
theorem nl_can (x : Int) : Tri.Can (4294967296 : Int) (nl x) := num_can (by decide) _
theorem zl_can (x : Int) : Tri.Can (10000 : Int) (zl x) := num_can (by decide) _
theorem nl_dv {x : Int} (h : 0 ≤ x) : dv (4294967296 : Int) (nl x) = x := by
  have := num_dv (B := 4294967296) (by decide) x.toNat
  have e : ((4294967296 : Nat) : Int) = (4294967296 : Int) := rfl
  rw [e] at this
  unfold nl
  rw [this]; omega
theorem zl_dv {x : Int} (h : 0 ≤ x) : dv (10000 : Int) (zl x) = x := by
  have := num_dv (B := 10000) (by decide) x.toNat
  have e : ((10000 : Nat) : Int) = (10000 : Int) := rfl
  rw [e] at this
  unfold zl
  rw [this]; omega
theorem can_nl {d : List Int} (h : Tri.Can (4294967296 : Int) d) {x : Int} (hx : dv (4294967296 : Int) d = x) : d = nl x := by
  have h2 := can_num (B := 4294967296) (by decide) h
  rw [h2]; unfold nl; congr 2
theorem can_zl {d : List Int} (h : Tri.Can (10000 : Int) d) {x : Int} (hx : dv (10000 : Int) d = x) : d = zl x := by
  have h2 := can_num (B := 10000) (by decide) h
  rw [h2]; unfold zl; congr 2
theorem trimz_nl {d : List Int} (h : Dig (4294967296 : Int) d) {x : Int} (hx : dv (4294967296 : Int) d = x) : trimz d = nl x := can_nl (trimz_can h) (by rw [trimz_dv, hx])
theorem trimz_zl {d : List Int} (h : Dig (10000 : Int) d) {x : Int} (hx : dv (10000 : Int) d = x) : trimz d = zl x := can_zl (trimz_can h) (by rw [trimz_dv, hx])
theorem nl_zero : nl 0 = [] := by unfold nl; rw [num]; simp
theorem zl_zero : zl 0 = [] := by unfold zl; rw [num]; simp
theorem nl_nil {x : Int} (h : 0 ≤ x) : nl x = [] ↔ x = 0 := by
  rw [Can.eq_nil (by decide) (nl_can x), nl_dv h]
theorem zl_nil {x : Int} (h : 0 ≤ x) : zl x = [] ↔ x = 0 := by
  rw [Can.eq_nil (by decide) (zl_can x), zl_dv h]
theorem nl_inj {x y : Int} (hx : 0 ≤ x) (hy : 0 ≤ y) (h : nl x = nl y) : x = y := by rw [← nl_dv hx, ← nl_dv hy, h]
theorem zl_inj {x y : Int} (hx : 0 ≤ x) (hy : 0 ≤ y) (h : zl x = zl y) : x = y := by rw [← zl_dv hx, ← zl_dv hy, h]
theorem can_len {B : Int} (hB : 1 < B) {l : List Int} (h : Tri.Can B l) {n : Nat} (hx : dv B l < B ^ n) : l.length ≤ n := by
  apply Nat.le_of_not_lt
  intro hlt
  have hne : l ≠ [] := by rintro rfl; simp at hlt
  have h1 := h.ge (by omega) hne
  have h2 := pow_mono (B := B) (by omega) (show n ≤ l.length - 1 by omega)
  omega
theorem zl_len {x : Int} (h0 : 0 ≤ x) {n : Nat} (hx : x < (10000 : Int) ^ n) : (zl x).length ≤ n := can_len (by decide) (zl_can x) (by rw [zl_dv h0]; exact hx)
theorem nl_len {x : Int} (h0 : 0 ≤ x) {n : Nat} (hx : x < (4294967296 : Int) ^ n) : (nl x).length ≤ n := can_len (by decide) (nl_can x) (by rw [nl_dv h0]; exact hx)
theorem zl_mono {x y : Int} (h0 : 0 ≤ x) (h : x ≤ y) : (zl x).length ≤ (zl y).length := by
  apply Nat.le_of_not_lt
  intro hlt
  have := Can.lt_of_length (by decide) (zl_can y).1 (zl_can x) hlt
  rw [zl_dv h0, zl_dv (by omega)] at this; omega
theorem nl_mono {x y : Int} (h0 : 0 ≤ x) (h : x ≤ y) : (nl x).length ≤ (nl y).length := by
  apply Nat.le_of_not_lt
  intro hlt
  have := Can.lt_of_length (by decide) (nl_can y).1 (nl_can x) hlt
  rw [nl_dv h0, nl_dv (by omega)] at this; omega
theorem pow_le {a b : Int} (ha : 0 ≤ a) (h : a ≤ b) : ∀ n : Nat, a ^ n ≤ b ^ n
  | 0 => by simp
  | n + 1 => by
    rw [Int.pow_succ, Int.pow_succ]
    exact Int.mul_le_mul (pow_le ha h n) h ha (Int.pow_nonneg (by omega))
theorem lb_zb (n : Nat) : (4294967296 : Int) ^ n ≤ (10000 : Int) ^ (3 * n) := by
  rw [Int.pow_mul]; exact pow_le (by decide) (by decide) n
theorem zb_lb (n : Nat) : (10000 : Int) ^ n ≤ (4294967296 : Int) ^ n := pow_le (by decide) (by decide) n
/-- sign -/
def sg (x : Int) : Int := if x < 0 then -1 else if 0 < x then 1 else 0
end Go.Proofs.YthpadfhhadcghaaDoor.AP
/- Texts: put together, joined, printed numbers. -/
namespace Go.Proofs.YthpadfhhadcghaaDoor.AP
open Go
set_option linter.unusedVariables false
set_option linter.unusedSimpArgs false
theorem data_bs (l : List UInt8) : (bs l).data.toList = l := rfl
theorem bs_data (s : ByteArray) : bs s.data.toList = s := rfl
theorem bs_size (l : List UInt8) : (bs l).size = l.length := rfl
theorem size_data (s : ByteArray) : s.size = s.data.toList.length := rfl
theorem bs_append (a b : List UInt8) : bs a ++ bs b = bs (a ++ b) := by
  apply ByteArray.ext
  apply Array.toList_inj.1
  rw [ByteArray.data_append]
  simp [bs]
theorem bs_inj {a b : List UInt8} (h : bs a = bs b) : a = b := by rw [← data_bs a, h, data_bs]
/-- The same text. -/
theorem sq_self (a : ByteArray) : sq a a = true := by unfold sq; simp
theorem sq_bs {a b : List UInt8} : sq (bs a) (bs b) = decide (a = b) := by
  unfold sq
  rw [toList_data, toList_data, data_bs, data_bs]
  by_cases h : a = b
  · subst h; simp
  · rw [decide_eq_false h]; simp [h]
theorem cat_bs {a b : List UInt8} (h : a.length + b.length ≤ 9223372036854775807) : cat (bs a) (bs b) = some (bs (a ++ b)) := by
  unfold cat
  rw [if_pos (by rw [bs_size, bs_size]; exact h), bs_append]
theorem join2 (s x y : List UInt8) (l : List (List UInt8)) : Lib.join (x :: y :: l) s = x ++ (s ++ Lib.join (y :: l) s) := by
  rw [Lib.join_cons, Lib.join_cons]
  simp [Lib.joinTail, List.append_assoc]
theorem join_bs (l : List (List UInt8)) (s : List UInt8) (h1 : l.length ≤ 140737488355328) (h2 : (Lib.join l s).length ≤ 140737488355328) : m_strings_Join (l.map bs) (bs s) = some (bs (Lib.join l s)) := by
  have e : (l.map bs).map (fun x : ByteArray => x.data.toList) = l := by
    rw [List.map_map]
    have : (fun x : ByteArray => x.data.toList) ∘ bs = id := rfl
    rw [this, List.map_id]
  unfold m_strings_Join
  rw [e, data_bs, if_pos ⟨by rw [List.length_map]; exact h1, h2⟩]
  rfl
/-- a bound of a join's length -/
theorem join_len (s : List UInt8) (c : Nat) : ∀ l : List (List UInt8), (∀ x ∈ l, x.length ≤ c) → (Lib.join l s).length ≤ l.length * (c + s.length)
  | [], _ => by rw [Lib.join_nil]; simp
  | [x], h => by
    rw [Lib.join_one]
    have := h x (by simp)
    simp; omega
  | x :: y :: l, h => by
    have h1 := h x (by simp)
    have h2 := join_len s c (y :: l) (fun z hz => h z (by simp [hz]))
    rw [join2]
    simp only [List.length_append, List.length_cons] at h2 ⊢
    rw [Nat.succ_mul]
    omega
theorem itoa_bs (n : Int) (h0 : -9223372036854775808 ≤ n) (h1 : n ≤ 9223372036854775807) : m_strconv_Itoa n = some (bs (Lib.itoa n)) := by
  unfold m_strconv_Itoa
  rw [if_pos ⟨h0, h1⟩]
  rfl
theorem nd_le (n : Nat) (h : n ≤ 9223372036854775808) : Lib.nDigits n ≤ 19 := by
  have hd : ∀ (j n : Nat), n < 10 ^ (j + 1) → Lib.nDigits n ≤ j + 1 := by
    intro j
    induction j with
    | zero => intro n hn; rw [Lib.nDigits_small (by simpa using hn)]; omega
    | succ j ih =>
      intro n hn
      by_cases h : n < 10
      · rw [Lib.nDigits_small h]; omega
      · rw [Lib.nDigits_big h]
        have := ih (n / 10) (by rw [Nat.pow_succ] at hn; omega)
        omega
  exact hd 18 n (by omega)
theorem itoa_len (n : Int) (h0 : -9223372036854775808 ≤ n) (h1 : n ≤ 9223372036854775807) : (Lib.itoa n).length ≤ 20 := by
  unfold Lib.itoa
  split
  · rw [List.length_cons, Lib.decDigits_length]
    have := nd_le n.natAbs (by omega)
    omega
  · rw [Lib.decDigits_length]
    have := nd_le n.toNat (by omega)
    omega
/-- a loop that fills a row with what is made of each -/
theorem lp_fill {α β : Type} {f : (Int × List β) → Option ((Int × List β) ⊕ (List β))} (l : List α) (g : α → β)
    (h : ∀ (i : Nat) x v, l[i]? = some x → v.length = l.length → f ((i : Int), v) = some (.inl ((i : Int) + 1, v.set i (g x)))) (he : ∀ v, f ((l.length : Int), v) = some (.inr v)) (v0 : List β) (hv : v0.length = l.length) : lp f (0, v0) = some (l.map g) := by
  have key : ∀ (k i : Nat) (v : List β), i + k = l.length → v.length = l.length → v.take i = (l.take i).map g → lp f ((i : Int), v) = some (l.map g) := by
    intro k
    induction k with
    | zero =>
      intro i v hk hv ht
      obtain rfl : i = l.length := by omega
      rw [lp_done (he v)]
      rw [List.take_of_length_le (by omega), List.take_of_length_le (Nat.le_refl _)] at ht
      rw [ht]
    | succ k ih =>
      intro i v hk hv ht
      have hi : l[i]? = some l[i] := List.getElem?_eq_getElem (by omega)
      rw [lp_more (h i _ v hi hv)]
      have := ih (i + 1) (v.set i (g l[i])) (by omega) (by rw [List.length_set]; exact hv) (by
        rw [List.take_add_one, List.take_add_one, hi, List.take_set_of_le (Nat.le_refl i), ht, List.map_append]
        congr 1
        rw [List.getElem?_set_self (by omega)]
        rfl)
      simpa using this
  exact key l.length 0 v0 (by omega) hv (by simp)
theorem mk16 (n : Nat) (h : n ≤ 4294967296) : AP.mk 16 (bs []) (n : Int) (n : Int) = some (List.replicate n (bs [])) := by
  rw [mk_of (by omega)]
  simp

/-! numbers by ten, the document's way -/
theorem tx_one (d : Nat) (h : d < 10) : tx [wu8 (wi64 (48 + (d : Int)))] = bs [UInt8.ofNat (48 + d)] := by
  rw [wi64_eq (by omega) (by omega), wu8_eq (by omega) (by omega)]
  unfold tx bs
  have : (48 + (d : Int)).toNat = 48 + d := by omega
  simp [this]
theorem baseItoa_loop (σ : Int) (hσ : σ = 1 ∨ σ = -1) (m : Nat) : ∀ acc : List UInt8, 0 < m → m ≤ 9223372036854775807 → acc.length + Lib.nDigits m ≤ 100 → lp m_triviumbase_Itoa_l1 (bs acc, σ * (m : Int)) = some (bs (Lib.decDigits m ++ acc)) := by
  induction m using Nat.strongRecOn with
  | _ m ih =>
    intro acc hm hmax hl
    have hnd := Lib.nDigits_pos m
    have e0 : (!decide (σ * (m : Int) = 0)) = true := by
      rw [decide_eq_false]; rfl
      rcases hσ with rfl | rfl <;> omega
    have e1 : rm .i64 (σ * (m : Int)) 10 = some (σ * ((m % 10 : Nat) : Int)) := by
      unfold rm
      rw [if_neg (by decide)]
      congr 1
      rcases hσ with rfl | rfl
      · rw [Int.one_mul, Int.one_mul, Int.tmod_eq_emod_of_nonneg (by omega)]; omega
      · rw [show (-1 : Int) * (m : Int) = -(m : Int) by omega, Int.neg_tmod, Int.tmod_eq_emod_of_nonneg (by omega)]; omega
    have e2 : qd .i64 (σ * (m : Int)) 10 = some (σ * ((m / 10 : Nat) : Int)) := by
      unfold qd
      rw [if_neg (by decide)]
      have : (σ * (m : Int)).tdiv 10 = σ * ((m / 10 : Nat) : Int) := by
        rcases hσ with rfl | rfl
        · rw [Int.one_mul, Int.one_mul, Int.tdiv_eq_ediv_of_nonneg (by omega)]; omega
        · rw [show (-1 : Int) * (m : Int) = -(m : Int) by omega, Int.neg_tdiv, Int.tdiv_eq_ediv_of_nonneg (by omega)]; omega
      rw [this]
      congr 1
      exact wi64_eq (by rcases hσ with rfl | rfl <;> omega) (by rcases hσ with rfl | rfl <;> omega)
    have e3 : (if decide (σ * ((m % 10 : Nat) : Int) < 0) = true then some (wi64 (0 - σ * ((m % 10 : Nat) : Int))) else some (σ * ((m % 10 : Nat) : Int))) = some ((m % 10 : Nat) : Int) := by
      rcases hσ with rfl | rfl
      · rw [if_neg (by simp; omega), Int.one_mul]
      · by_cases h : 0 < m % 10
        · rw [if_pos (by simp; omega), wi64_eq (by omega) (by omega)]
          congr 1; omega
        · rw [if_neg (by simp; omega)]
          congr 1; omega
    have e4 : cat (tx [wu8 (wi64 (48 + ((m % 10 : Nat) : Int)))]) (bs acc) = some (bs (UInt8.ofNat (48 + m % 10) :: acc)) := by
      rw [tx_one _ (Nat.mod_lt _ (by decide)), cat_bs (by simp; omega)]
      rfl
    have hs : m_triviumbase_Itoa_l1 (bs acc, σ * (m : Int)) = some (.inl (bs (UInt8.ofNat (48 + m % 10) :: acc), σ * ((m / 10 : Nat) : Int))) := by
      simp only [m_triviumbase_Itoa_l1, e0, if_true, e1, bd_some, e3, e4, e2]
    rw [lp_more hs]
    by_cases h : m < 10
    · have h1 : m / 10 = 0 := by omega
      have h2 : m % 10 = m := by omega
      rw [h1, h2, lp_done (x := bs (UInt8.ofNat (48 + m) :: acc))]
      · rw [Lib.decDigits, dif_pos h]; rfl
      · simp [m_triviumbase_Itoa_l1]
    · have h4 := Lib.nDigits_big h
      rw [ih (m / 10) (by omega) _ (by omega) (by omega) (by simp; omega)]
      conv => rhs; rw [Lib.decDigits, dif_neg h]
      simp
theorem baseItoa (n : Int) (h0 : -9223372036854775807 ≤ n) (h1 : n ≤ 9223372036854775807) : m_triviumbase_Itoa n = some (bs (Lib.itoa n)) := by
  unfold m_triviumbase_Itoa
  by_cases hz : n = 0
  · subst hz
    rw [if_pos (by decide)]
    have : Lib.itoa 0 = [48] := by unfold Lib.itoa; rw [if_neg (by decide), Lib.decDigits, dif_pos (by decide)]; rfl
    rw [this]
  · rw [if_neg (by simpa using hz)]
    by_cases hn : n < 0
    · have e : n = -1 * ((n.natAbs : Nat) : Int) := by omega
      have hd := nd_le n.natAbs (by omega)
      have := baseItoa_loop (-1) (.inr rfl) n.natAbs [] (by omega) (by omega) (by simp; omega)
      rw [← e] at this
      have hl := Lib.decDigits_length n.natAbs
      rw [this, List.append_nil]
      have c := cat_bs (a := [45]) (b := Lib.decDigits n.natAbs) (by rw [hl]; simp; omega)
      simp only [bd_some, decide_eq_true hn, if_true, c]
      unfold Lib.itoa
      rw [if_pos hn]
      rfl
    · have e : n = 1 * ((n.toNat : Nat) : Int) := by omega
      have hd := nd_le n.toNat (by omega)
      have := baseItoa_loop 1 (.inl rfl) n.toNat [] (by omega) (by omega) (by simp; omega)
      rw [← e] at this
      rw [this, List.append_nil]
      simp only [bd_some, decide_eq_false hn]
      unfold Lib.itoa
      rw [if_neg hn]
      rfl
/-! parts behind one another -/
def catI {α : Type} (g : Nat → α → List UInt8) : Nat → List α → List UInt8
  | _, [] => []
  | i, x :: l => g i x ++ catI g (i + 1) l
theorem catI_snoc {α : Type} (g : Nat → α → List UInt8) : ∀ (l : List α) (i : Nat) (x : α), catI g i (l ++ [x]) = catI g i l ++ g (i + l.length) x
  | [], i, x => by simp [catI]
  | y :: l, i, x => by
    show g i y ++ catI g (i + 1) (l ++ [x]) = (g i y ++ catI g (i + 1) l) ++ _
    rw [catI_snoc g l (i + 1) x, List.append_assoc, List.length_cons, show i + 1 + l.length = i + (l.length + 1) by omega]
theorem catI_flat {α : Type} (g : α → List UInt8) : ∀ (l : List α) (i : Nat), catI (fun _ => g) i l = (l.map g).flatten
  | [], _ => rfl
  | x :: l, i => by
    show g x ++ catI (fun _ => g) (i + 1) l = _
    rw [catI_flat g l (i + 1)]
    rfl
theorem catI_congr {α : Type} {g h : Nat → α → List UInt8} : ∀ (l : List α) (i : Nat), (∀ j x, i ≤ j → g j x = h j x) → catI g i l = catI h i l
  | [], _, _ => rfl
  | x :: l, i, e => by
    show g i x ++ _ = h i x ++ _
    rw [e i x (Nat.le_refl _), catI_congr l (i + 1) (fun j x hj => e j x (by omega))]
/-- with a sign between: a join -/
theorem catI_join {α : Type} (s : List UInt8) (g : α → List UInt8) (x : α) (l : List α) : catI (fun i y => if i = 0 then g y else s ++ g y) 0 (x :: l) = Lib.join ((x :: l).map g) s := by
  show g x ++ catI _ 1 l = _
  rw [catI_congr (h := fun _ y => s ++ g y) l 1 (fun j y hj => by rw [if_neg (by omega)]), catI_flat, List.map_cons, Lib.join_cons]
  congr 1
  unfold Lib.joinTail
  rw [List.map_map]
  rfl
theorem catI_len {α : Type} (g : Nat → α → List UInt8) (c : Nat) : ∀ (l : List α) (i : Nat), (∀ j x, l[j]? = some x → (g (i + j) x).length ≤ c) → (catI g i l).length ≤ l.length * c
  | [], _, _ => by simp [catI]
  | x :: l, i, h => by
    have h1 := h 0 x rfl
    have h2 := catI_len g c l (i + 1) (fun j y hj => by have := h (j + 1) y hj; rwa [show i + (j + 1) = i + 1 + j by omega] at this)
    show (g i x ++ catI g (i + 1) l).length ≤ _
    rw [List.length_append, List.length_cons, Nat.succ_mul]
    have h1 : (g i x).length ≤ c := h1
    omega
theorem catI_take {α : Type} (g : Nat → α → List UInt8) (l : List α) (i : Nat) (x : α) (h : l[i]? = some x) : catI g 0 (l.take (i + 1)) = catI g 0 (l.take i) ++ g i x := by
  have hi := (List.getElem?_eq_some_iff.1 h).1
  rw [List.take_add_one, h]
  show catI g 0 (l.take i ++ [x]) = _
  rw [catI_snoc, List.length_take, Nat.min_eq_left (Nat.le_of_lt hi), Nat.zero_add]
/-- a loop that puts more behind a text -/
theorem lp_acc {α X : Type} (l : List α) (g : Nat → α → List UInt8) (c : Nat) (a0 : List UInt8) {f : (ByteArray × Int) → Option ((ByteArray × Int) ⊕ X)} {r : Option X}
    (hg : ∀ i x, l[i]? = some x → (g i x).length ≤ c)
    (h : ∀ (i : Nat) (x : α) (acc : List UInt8), l[i]? = some x → acc.length ≤ a0.length + l.length * c → f (bs acc, (i : Int)) = some (.inl (bs (acc ++ g i x), (i : Int) + 1)))
    (he : lp f (bs (a0 ++ catI g 0 l), (l.length : Int)) = r) : lp f (bs a0, 0) = r := by
  have key : ∀ (k i : Nat), i + k = l.length → lp f (bs (a0 ++ catI g 0 (l.take i)), (i : Int)) = r := by
    intro k
    induction k with
    | zero =>
      intro i hk
      obtain rfl : i = l.length := by omega
      rw [List.take_of_length_le (Nat.le_refl _)]
      exact he
    | succ k ih =>
      intro i hk
      have hi : l[i]? = some l[i] := List.getElem?_eq_getElem (by omega)
      have hlen : (catI g 0 (l.take i)).length ≤ l.length * c := by
        have := catI_len g c (l.take i) 0 (fun j x hj => by
          rw [Nat.zero_add]
          refine hg j x ?_
          rw [List.getElem?_take] at hj
          split at hj
          · exact hj
          · cases hj)
        rw [List.length_take, Nat.min_eq_left (by omega)] at this
        exact Nat.le_trans this (Nat.mul_le_mul_right _ (by omega))
      rw [lp_more (h i _ (a0 ++ catI g 0 (l.take i)) hi (by rw [List.length_append]; omega)), List.append_assoc, ← catI_take g l i _ hi]
      have := ih (i + 1) (by omega)
      simpa using this
  simpa [catI] using key l.length 0 (by omega)
/-! bytes in a builder -/
def i8 (l : List UInt8) : List Int := l.map fun b => (b.toNat : Int)
theorem apS_i8 (a b : List UInt8) (h : a.length + b.length ≤ 140737488355328) : apS_ (i8 a) (bs b) = some (i8 (a ++ b)) := by
  unfold apS_ i8
  rw [if_pos (by rw [List.length_map, bs_size]; exact h), List.map_append]
  rfl
theorem nem_i8 (l : List UInt8) (h : l ≠ []) : nem (i8 l) = some () := by
  cases l with
  | nil => exact absurd rfl h
  | cons x l => rfl
theorem ust_i8 (l : List UInt8) (h : l ≠ []) : ust (i8 l) = some (bs l) := by
  unfold ust
  rw [if_pos]
  · congr 1
    unfold tx bs i8
    rw [List.map_map]
    congr 1
    apply Array.toList_inj.1
    simp only [List.toList_toArray]
    have : ∀ l : List UInt8, l.map ((fun n : Int => UInt8.ofNat n.toNat) ∘ fun b => (b.toNat : Int)) = l := by
      intro l
      induction l with
      | nil => rfl
      | cons x l ih => rw [List.map_cons, ih]; congr 1; simp
    exact this l
  · refine ⟨by cases l with | nil => exact absurd rfl h | cons x l => exact List.cons_ne_nil _ _, ?_⟩
    apply List.all_eq_true.2
    intro z hz
    unfold i8 at hz
    obtain ⟨b, _, rfl⟩ := List.mem_map.1 hz
    have := b.toNat_lt
    rw [Bool.and_eq_true]
    exact ⟨decide_eq_true (by omega), decide_eq_true (by omega)⟩
end Go.Proofs.YthpadfhhadcghaaDoor.AP
/- Masks and prefixes, plain. -/
namespace Go.Proofs.YthpadfhhadcghaaDoor.AP
open Go
set_option linter.unusedVariables false
set_option linter.unusedSimpArgs false
/-- how many addresses begin with the same n bits -/
def S32 (n : Int) : Int := 2 ^ (32 - n).toNat

theorem S32_pos (n : Int) : 0 < S32 n := Int.pow_pos (by decide)
theorem S32_le (n : Int) (h : 0 ≤ n) : S32 n ≤ 4294967296 := by
  have h1 : (32 - n).toNat ≤ 32 := by omega
  obtain ⟨d, hd⟩ := Nat.exists_eq_add_of_le h1
  have h2 : (4294967296 : Int) = 2 ^ (32 - n).toNat * 2 ^ d := by rw [← Int.pow_add, ← hd]; decide
  have h3 : (1 : Int) ≤ 2 ^ d := by have : (0 : Int) < 2 ^ d := Int.pow_pos (by decide); omega
  have h4 : (0 : Int) < 2 ^ (32 - n).toNat := Int.pow_pos (by decide)
  unfold S32
  rw [h2]
  have := Int.mul_le_mul_of_nonneg_left h3 (Int.le_of_lt h4)
  omega
theorem S32_dvd {m n : Int} (h : n ≤ m) : ∃ c, 0 < c ∧ S32 n = S32 m * c := by
  have h1 : (32 - m).toNat ≤ (32 - n).toNat := by omega
  obtain ⟨d, hd⟩ := Nat.exists_eq_add_of_le h1
  refine ⟨2 ^ d, Int.pow_pos (by decide), ?_⟩
  unfold S32
  rw [hd, Int.pow_add]
theorem S32_nat (n : Int) : S32 n = ((2 ^ (32 - n).toNat : Nat) : Int) := by unfold S32; simp

/-- the highest bits of a, by a mask -/
theorem and_mask (a k : Nat) (ha : a < 2 ^ 32) (hk : k ≤ 32) : a &&& (2 ^ 32 - 2 ^ k) = a / 2 ^ k * 2 ^ k := by
  apply Nat.eq_of_testBit_eq
  intro i
  have hp : 0 < 2 ^ k := Nat.two_pow_pos k
  have hlt : 2 ^ k - 1 < 2 ^ 32 := by have := Nat.pow_le_pow_right (show 0 < 2 by omega) hk; omega
  have e : 2 ^ 32 - 2 ^ k = 2 ^ 32 - ((2 ^ k - 1) + 1) := by congr 1; omega
  rw [Nat.testBit_and, e, Nat.testBit_two_pow_sub_succ hlt, Nat.testBit_two_pow_sub_one, Nat.mul_comm, Nat.testBit_two_pow_mul]
  by_cases hi : i < k
  · have h1 : ¬ (i ≥ k) := by omega
    simp [hi, h1]
  · have h1 : i ≥ k := by omega
    rw [Nat.testBit_div_two_pow, show i - k + k = i by omega]
    by_cases h32 : i < 32
    · simp [hi, h1, h32]
    · have : a.testBit i = false := Nat.testBit_lt_two_pow (Nat.lt_of_lt_of_le ha (Nat.pow_le_pow_right (by omega) (by omega)))
      simp [this]

theorem bits_and_mask (a n : Int) (ha0 : 0 ≤ a) (ha : a < 4294967296) (h0 : 0 ≤ n) (h1 : n ≤ 32) : Go.bits .and .u32 a (4294967296 - S32 n) = a / S32 n * S32 n := by
  have hS := S32_le n h0
  have hp := S32_pos n
  rw [u32_and a _ ha0 ha (by omega) (by omega)]
  obtain ⟨x, rfl⟩ := Int.eq_ofNat_of_zero_le ha0
  have e2 : (4294967296 - S32 n).toNat = 2 ^ 32 - 2 ^ (32 - n).toNat := by
    rw [S32_nat] at hS hp ⊢; omega
  rw [e2, Int.toNat_natCast, and_mask x _ (by omega) (by omega), S32_nat]
  simp
theorem bits_andNot_mask (a n : Int) (ha0 : 0 ≤ a) (ha : a < 4294967296) (h0 : 0 ≤ n) : Go.bits .andNot .u32 a (4294967296 - S32 n) = a % S32 n := by
  have hS := S32_le n h0
  have hp := S32_pos n
  rw [u32_andNot a _ ha0 ha (by omega) (by omega)]
  obtain ⟨x, rfl⟩ := Int.eq_ofNat_of_zero_le ha0
  have e2 : 4294967295 - (4294967296 - S32 n).toNat = 2 ^ (32 - n).toNat - 1 := by
    rw [S32_nat] at hS hp ⊢; omega
  rw [e2, Int.toNat_natCast, Nat.and_two_pow_sub_one_eq_mod, S32_nat]
  simp

theorem mask_eq (n : Int) (h0 : 0 ≤ n) (h1 : n ≤ 32) : m_addr_Mask n = some (4294967296 - S32 n) := by
  have key : ∀ m : Int, 0 ≤ m → m ≤ 32 → (IntKind.u64.wrap (4294967295 * 2 ^ (min (32 - m).toNat IntKind.u64.bits))) % 4294967296 = 4294967296 - S32 m := by
    intro m h0 h1
    have h2 : m = 0 ∨ m = 1 ∨ m = 2 ∨ m = 3 ∨ m = 4 ∨ m = 5 ∨ m = 6 ∨ m = 7 ∨ m = 8 ∨ m = 9 ∨ m = 10 ∨ m = 11 ∨ m = 12 ∨ m = 13 ∨ m = 14 ∨ m = 15 ∨ m = 16 ∨ m = 17 ∨ m = 18 ∨ m = 19 ∨ m = 20 ∨ m = 21 ∨ m = 22 ∨ m = 23 ∨ m = 24 ∨ m = 25 ∨ m = 26 ∨ m = 27 ∨ m = 28 ∨ m = 29 ∨ m = 30 ∨ m = 31 ∨ m = 32 := by omega
    unfold S32
    rcases h2 with rfl | rfl | rfl | rfl | rfl | rfl | rfl | rfl | rfl | rfl | rfl | rfl | rfl | rfl | rfl | rfl | rfl | rfl | rfl | rfl | rfl | rfl | rfl | rfl | rfl | rfl | rfl | rfl | rfl | rfl | rfl | rfl | rfl <;> decide
  unfold m_addr_Mask
  rw [Int.max_eq_left h0, Int.min_eq_left h1, wi64_eq (by omega) (by omega)]
  unfold sh
  rw [if_pos (by omega), bd_some, wu32_mod, key n h0 h1]
/-- may a prefix be? -/
def mayP (p : D_api_Prefix) : Bool := decide (0 ≤ p.2) && decide (p.2 ≤ 32) && decide (p.1 % S32 p.2 = 0)
theorem may_eq (p : D_api_Prefix) (h0 : 0 ≤ p.1) (h1 : p.1 < 4294967296) : m_addr_May p = some (mayP p) := by
  unfold m_addr_May mayP
  by_cases a : 0 ≤ p.2
  · by_cases b : p.2 ≤ 32
    · rw [if_pos (decide_eq_true a), if_pos (decide_eq_true b), mask_eq _ a b, bd_some, lt_eq, bits_andNot_mask p.1 p.2 h0 h1 a]
      simp [a, b]
    · rw [if_pos (decide_eq_true a), if_neg (by simpa using b)]
      simp [a, b]
  · rw [if_neg (by simpa using a)]
    simp [a]
theorem size_loop : ∀ (n j : Nat), n + j ≤ 32 → lp m_triviumref18_Size_l1 ((2 : Int) ^ j, 32 - (n : Int)) = some ((2 : Int) ^ (j + n))
  | 0, j, h => lp_done (by simp [m_triviumref18_Size_l1])
  | n + 1, j, h => by
    have hp : (2 : Int) ^ (j + 1) ≤ 2 ^ 32 := Tri.pow_mono (by decide) (by omega)
    have h0 : (0 : Int) < 2 ^ (j + 1) := Int.pow_pos (by decide)
    have e1 : wu64 (2 * 2 ^ j) = 2 ^ (j + 1) := by rw [Int.pow_succ, Int.mul_comm] at *; exact wu64_eq (by omega) (by omega)
    have e2 : wi64 (32 - ((n + 1 : Nat) : Int) + 1) = 32 - (n : Int) := by rw [wi64_eq (by omega) (by omega)]; omega
    rw [lp_more (s' := ((2 : Int) ^ (j + 1), 32 - (n : Int))) (by
      simp only [m_triviumref18_Size_l1, decide_eq_true (show 32 - ((n + 1 : Nat) : Int) < 32 by omega), if_true, e1, e2])]
    rw [size_loop n (j + 1) (by omega)]
    congr 2; omega
theorem size_eq (n : Int) (h0 : 0 ≤ n) (h1 : n ≤ 32) : m_triviumref18_Size n = some (S32 n) := by
  have := size_loop (32 - n).toNat 0 (by omega)
  unfold m_triviumref18_Size
  rw [show (1 : Int) = 2 ^ 0 from rfl, show n = 32 - ((32 - n).toNat : Int) by omega, this, bd_some]
  unfold S32
  congr 2; omega
theorem refMay_eq (p : D_api_Prefix) (h0 : 0 ≤ p.1) (h1 : p.1 < 4294967296) : m_triviumref18_May p = some (mayP p) := by
  unfold m_triviumref18_May mayP
  by_cases a : 0 ≤ p.2
  · by_cases b : p.2 ≤ 32
    · have := S32_pos p.2
      rw [if_pos (decide_eq_true a), if_pos (decide_eq_true b), size_eq _ a b, bd_some, wu64_eq h0 (by omega), rm_of h0 this, bd_some]
      simp [a, b]
    · rw [if_pos (decide_eq_true a), if_neg (by simpa using b)]
      simp [a, b]
  · rw [if_neg (by simpa using a)]
    simp [a]
end Go.Proofs.YthpadfhhadcghaaDoor.AP
/- Addresses and prefixes, printed by both. -/
namespace Go.Proofs.YthpadfhhadcghaaDoor.AP
open Go
set_option linter.unusedVariables false
set_option linter.unusedSimpArgs false
/-- an address's text -/
def prL (a : Int) : List UInt8 := Lib.itoa (a / 16777216) ++ 46 :: (Lib.itoa (a / 65536 % 256) ++ 46 :: (Lib.itoa (a / 256 % 256) ++ 46 :: Lib.itoa (a % 256)))
theorem prL_len (a : Int) (h0 : 0 ≤ a) (h1 : a < 4294967296) : (prL a).length ≤ 83 := by
  have l1 := itoa_len (a / 16777216) (by omega) (by omega)
  have l2 := itoa_len (a / 65536 % 256) (by omega) (by omega)
  have l3 := itoa_len (a / 256 % 256) (by omega) (by omega)
  have l4 := itoa_len (a % 256) (by omega) (by omega)
  unfold prL
  simp only [List.length_append, List.length_cons]
  omega
theorem and255 (x : Int) (h0 : 0 ≤ x) (h1 : x < 4294967296) : wi64 (Go.bits .and .u32 x 255) = x % 256 := by
  obtain ⟨n, rfl⟩ := Int.eq_ofNat_of_zero_le h0
  have e : Go.bits .and .u32 (n : Int) 255 = ((n % 256 : Nat) : Int) := by
    have h2 := Nat.and_two_pow_sub_one_eq_mod n 8
    rw [u32_and (n : Int) 255 (by omega) h1 (by omega) (by omega)]
    have h3 : ((255 : Int).toNat) = 2 ^ 8 - 1 := rfl
    rw [Int.toNat_natCast, h3, h2]
  rw [e, wi64_eq (by omega) (by omega)]
  omega
theorem shr (a : Int) (h0 : 0 ≤ a) (h1 : a < 4294967296) (k : Nat) (hk : k ≤ 32) : sr .u32 a (k : Int) = some (a / 2 ^ k) := by
  unfold sr
  rw [if_pos (by omega)]
  have e : min ((k : Int).toNat) (IntKind.u32.bits) = k := by
    have : IntKind.u32.bits = 32 := rfl
    rw [this]; simp; omega
  rw [e]
  congr 1
  exact Int.fdiv_eq_ediv_of_nonneg a (Int.pow_nonneg (by decide))
theorem print_eq (a : Int) (h0 : 0 ≤ a) (h1 : a < 4294967296) : m_addr_Print a = some (bs (prL a)) := by
  have em : AP.mk 16 (bs []) 4 4 = some (List.replicate 4 (bs [])) := mk16 4 (by decide)
  have step : ∀ (i : Nat) (v : List ByteArray), i < 4 → v.length = 4 → m_addr_Print_l1 a (List.replicate 4 (bs [])) ((i : Int), v) = some (.inl ((i : Int) + 1, v.set i (bs (Lib.itoa (a / 2 ^ (8 * (3 - i)) % 256))))) := by
    intro i v hi hv
    have e1 : decide ((i : Int) < ((List.replicate 4 (bs [])).length : Int)) = true := by simp; omega
    have e2 : wi64 (8 * (wi64 (3 - (i : Int)))) = ((8 * (3 - i) : Nat) : Int) := by
      rw [wi64_eq (x := 3 - (i : Int)) (by omega) (by omega), wi64_eq (by omega) (by omega)]; omega
    have e3 := shr a h0 h1 (8 * (3 - i)) (by omega)
    have hq : 0 ≤ a / 2 ^ (8 * (3 - i)) := Int.ediv_nonneg h0 (Int.pow_nonneg (by decide))
    have hq2 : a / 2 ^ (8 * (3 - i)) < 4294967296 := by
      have := Int.ediv_le_self (2 ^ (8 * (3 - i))) h0
      omega
    have e4 := and255 _ hq hq2
    have e5 := itoa_bs (a / 2 ^ (8 * (3 - i)) % 256) (by omega) (by omega)
    have e6 : ix v (i : Int) = some i := ix_nat (by omega)
    have e7 : wi64 ((i : Int) + 1) = (i : Int) + 1 := wi64_eq (by omega) (by omega)
    simp only [m_addr_Print_l1, e1, if_true, e2, e3, bd_some, e4, e5, e6, lt_eq, e7]
  have fin : ∀ v, m_addr_Print_l1 a (List.replicate 4 (bs [])) (4, v) = some (.inr v) := by
    intro v
    simp [m_addr_Print_l1]
  have hloop := lp_fill (f := m_addr_Print_l1 a (List.replicate 4 (bs []))) [(0 : Nat), 1, 2, 3] (fun i => bs (Lib.itoa (a / 2 ^ (8 * (3 - i)) % 256))) (fun i x v hx hv => by
    have hi : i < 4 := by
      have := (List.getElem?_eq_some_iff.1 hx).1
      simpa using this
    have : x = i := by
      match i, hi, hx with
      | 0, _, hx => simpa using hx.symm
      | 1, _, hx => simpa using hx.symm
      | 2, _, hx => simpa using hx.symm
      | 3, _, hx => simpa using hx.symm
    subst this
    exact step x v hi (by simpa using hv)) fin (List.replicate 4 (bs [])) (by simp)
  have e8 : a / 2 ^ (8 * (3 - 0)) % 256 = a / 16777216 := by
    have : (2 : Int) ^ (8 * (3 - 0)) = 16777216 := rfl
    rw [this]; omega
  have hj := join_bs [Lib.itoa (a / 16777216), Lib.itoa (a / 65536 % 256), Lib.itoa (a / 256 % 256), Lib.itoa (a % 256)] [46] (by simp) (by
    have l1 := itoa_len (a / 16777216) (by omega) (by omega)
    have l2 := itoa_len (a / 65536 % 256) (by omega) (by omega)
    have l3 := itoa_len (a / 256 % 256) (by omega) (by omega)
    have l4 := itoa_len (a % 256) (by omega) (by omega)
    have := join_len [46] 20 [Lib.itoa (a / 16777216), Lib.itoa (a / 65536 % 256), Lib.itoa (a / 256 % 256), Lib.itoa (a % 256)] (by
      intro x hx
      simp only [List.mem_cons, List.not_mem_nil, or_false] at hx
      rcases hx with rfl | rfl | rfl | rfl <;> assumption)
    simp at this
    omega)
  have e9 : [(0 : Nat), 1, 2, 3].map (fun i => bs (Lib.itoa (a / 2 ^ (8 * (3 - i)) % 256))) = [Lib.itoa (a / 16777216), Lib.itoa (a / 65536 % 256), Lib.itoa (a / 256 % 256), Lib.itoa (a % 256)].map bs := by
    simp only [List.map_cons, List.map_nil, e8]
    have h1 : (2 : Int) ^ (8 * (3 - 1)) = 65536 := rfl
    have h2 : (2 : Int) ^ (8 * (3 - 2)) = 256 := rfl
    have h3 : (2 : Int) ^ (8 * (3 - 3)) = 1 := rfl
    rw [h1, h2, h3, Int.ediv_one]
  rw [e9] at hloop
  unfold m_addr_Print
  simp only [em, bd_some, hloop, hj]
  congr 2
  rw [join2, join2, join2, Lib.join_one]
  rfl
theorem refPrint_eq (a : Int) (h0 : 0 ≤ a) (h1 : a < 4294967296) : m_triviumref18_Print a = some (bs (prL a)) := by
  have l1 := itoa_len (a / 16777216) (by omega) (by omega)
  have l2 := itoa_len (a / 65536 % 256) (by omega) (by omega)
  have l3 := itoa_len (a / 256 % 256) (by omega) (by omega)
  have l4 := itoa_len (a % 256) (by omega) (by omega)
  have q : ∀ d : Int, 0 < d → qd .u32 a d = some (a / d) := fun d hd => by
    unfold qd
    rw [if_neg (by omega), Int.tdiv_eq_ediv_of_nonneg h0]
    have := Int.ediv_nonneg h0 (Int.le_of_lt hd)
    have := Int.ediv_le_self d h0
    rw [show IntKind.u32.wrap (a / d) = a / d from wu32_eq (by omega) (by omega)]
  have e1 := q 16777216 (by decide)
  have e2 := q 65536 (by decide)
  have e3 := q 256 (by decide)
  have r1 : rm .u32 (a / 65536) 256 = some (a / 65536 % 256) := rm_of (by omega) (by decide)
  have r2 : rm .u32 (a / 256) 256 = some (a / 256 % 256) := rm_of (by omega) (by decide)
  have r3 : rm .u32 a 256 = some (a % 256) := rm_of h0 (by decide)
  have w1 : wi64 (a / 16777216) = a / 16777216 := wi64_eq (by omega) (by omega)
  have w2 : wi64 (a / 65536 % 256) = a / 65536 % 256 := wi64_eq (by omega) (by omega)
  have w3 : wi64 (a / 256 % 256) = a / 256 % 256 := wi64_eq (by omega) (by omega)
  have w4 : wi64 (a % 256) = a % 256 := wi64_eq (by omega) (by omega)
  have b1 := baseItoa (a / 16777216) (by omega) (by omega)
  have b2 := baseItoa (a / 65536 % 256) (by omega) (by omega)
  have b3 := baseItoa (a / 256 % 256) (by omega) (by omega)
  have b4 := baseItoa (a % 256) (by omega) (by omega)
  unfold m_triviumref18_Print prL
  simp only [e1, bd_some, w1, b1, e2, r1, w2, b2, e3, r2, w3, b3, r3, w4, b4]
  generalize Lib.itoa (a / 16777216) = A at *
  generalize Lib.itoa (a / 65536 % 256) = B at *
  generalize Lib.itoa (a / 256 % 256) = C at *
  generalize Lib.itoa (a % 256) = D at *
  simp (disch := (simp only [List.length_append, List.length_cons, List.length_nil]; omega)) only [cat_bs, bd_some]
  simp [List.append_assoc]
/-- a prefix's text -/
def txL (p : D_api_Prefix) : List UInt8 := if mayP p then prL p.1 ++ 47 :: Lib.itoa p.2 else []
theorem may_len {p : D_api_Prefix} (h : mayP p = true) : 0 ≤ p.2 ∧ p.2 ≤ 32 := by
  unfold mayP at h
  simp only [Bool.and_eq_true, decide_eq_true_eq] at h
  exact h.1
theorem txL_len (p : D_api_Prefix) (h0 : 0 ≤ p.1) (h1 : p.1 < 4294967296) : (txL p).length ≤ 104 := by
  unfold txL
  split
  · rename_i h
    have h2 := may_len h
    have l1 := prL_len p.1 h0 h1
    have l2 := itoa_len p.2 (by omega) (by omega)
    simp only [List.length_append, List.length_cons]
    omega
  · simp
theorem text_eq (p : D_api_Prefix) (h0 : 0 ≤ p.1) (h1 : p.1 < 4294967296) : m_addr_Text p = some (bs (txL p)) := by
  have hm := may_eq p h0 h1
  have hm : m_addr_May (p.1, p.2) = some (mayP p) := hm
  unfold m_addr_Text txL
  rw [hm]
  cases hp : mayP p with
  | false => rfl
  | true =>
    have h2 := may_len hp
    have l1 := prL_len p.1 h0 h1
    have l2 := itoa_len p.2 (by omega) (by omega)
    have e1 := print_eq p.1 h0 h1
    have e2 := itoa_bs p.2 (by omega) (by omega)
    simp only [bd_some, Bool.not_true, if_true, e1, e2]
    rw [if_neg (by decide)]
    simp (disch := (simp only [List.length_append, List.length_cons, List.length_nil]; omega)) only [cat_bs, bd_some, List.append_assoc, List.cons_append, List.nil_append]
theorem refText_eq (p : D_api_Prefix) (h0 : 0 ≤ p.1) (h1 : p.1 < 4294967296) : m_triviumref18_Text p = some (bs (txL p)) := by
  have hm : m_triviumref18_May (p.1, p.2) = some (mayP p) := refMay_eq p h0 h1
  unfold m_triviumref18_Text txL
  rw [hm]
  cases hp : mayP p with
  | false => rfl
  | true =>
    have h2 := may_len hp
    have l1 := prL_len p.1 h0 h1
    have l2 := itoa_len p.2 (by omega) (by omega)
    have e1 := refPrint_eq p.1 h0 h1
    have e2 := baseItoa p.2 (by omega) (by omega)
    simp only [bd_some, Bool.not_true, if_true, e1, e2]
    rw [if_neg (by decide)]
    simp (disch := (simp only [List.length_append, List.length_cons, List.length_nil]; omega)) only [cat_bs, bd_some, List.append_assoc, List.cons_append, List.nil_append]
end Go.Proofs.YthpadfhhadcghaaDoor.AP
/- Queries' texts, by both. -/
namespace Go.Proofs.YthpadfhhadcghaaDoor.AP
open Go
set_option linter.unusedVariables false
set_option linter.unusedSimpArgs false
theorem words_bs (l : List (List UInt8)) (h1 : l.length ≤ 10) (h2 : ∀ x ∈ l, x.length ≤ 2000000000) : m_canon_words (l.map bs) = some (bs (Lib.join l [32])) := by
  have := join_len [32] 2000000000 l h2
  have h3 : l.length * (2000000000 + [(32 : UInt8)].length) ≤ 10 * (2000000000 + [(32 : UInt8)].length) := Nat.mul_le_mul_right _ h1
  unfold m_canon_words
  have e := join_bs l [32] (by omega) (by simp at h3; simp at this; omega)
  have e : m_strings_Join (l.map bs) (bs [32]) = some (bs (Lib.join l [32])) := e
  rw [e]
  rfl
/-- a query's text -/
def qyL (k : Int) (N O F : List UInt8) (d : Int) (p : D_api_Prefix) (K : Int) : List UInt8 :=
  if k = 1 then Lib.join [[112, 114, 111, 98], N, F, prL d] [32] ++ [59]
  else if k = 2 then Lib.join [[104, 111, 112, 115], N, F, prL d] [32] ++ [59]
  else if k = 3 then Lib.join [[119, 105, 116, 104, 105, 110], N, F, prL d, Lib.itoa K] [32] ++ [59]
  else if k = 4 then Lib.join [[99, 111, 109, 112, 97, 114, 101], N, O, F, txL p] [32] ++ [59]
  else []
section
variable (k : Int) (N O F : List UInt8) (d : Int) (p : D_api_Prefix) (K : Int) (hN : N.length ≤ 1000) (hO : O.length ≤ 1000) (hF : F.length ≤ 1000) (hd0 : 0 ≤ d) (hd1 : d < 4294967296) (hp0 : 0 ≤ p.1) (hp1 : p.1 < 4294967296) (hK0 : -9223372036854775807 ≤ K) (hK1 : K ≤ 9223372036854775807)
include hN hO hF hd0 hd1 hp0 hp1 hK0 hK1
theorem qyL_len : (qyL k N O F d p K).length ≤ 6000 := by
  have l1 := prL_len d hd0 hd1
  have l2 := txL_len p hp0 hp1
  have l3 := itoa_len K (by omega) hK1
  unfold qyL
  split
  · simp only [join2, Lib.join_one, List.length_append, List.length_cons, List.length_nil]; omega
  split
  · simp only [join2, Lib.join_one, List.length_append, List.length_cons, List.length_nil]; omega
  split
  · simp only [join2, Lib.join_one, List.length_append, List.length_cons, List.length_nil]; omega
  split
  · simp only [join2, Lib.join_one, List.length_append, List.length_cons, List.length_nil]; omega
  · simp
theorem query_eq : m_canon_Query (k, bs N, bs O, bs F, d, p, K) = some (bs (qyL k N O F d p K)) := by
  have l1 := prL_len d hd0 hd1
  have l2 := txL_len p hp0 hp1
  have l3 := itoa_len K (by omega) hK1
  have e1 := print_eq d hd0 hd1
  have e2 : m_addr_Text (p.1, p.2) = some (bs (txL p)) := text_eq p hp0 hp1
  have e3 := itoa_bs K (by omega) hK1
  have w1 := words_bs [[112, 114, 111, 98], N, F, prL d] (by simp) (by simp; omega)
  have w2 := words_bs [[104, 111, 112, 115], N, F, prL d] (by simp) (by simp; omega)
  have w3 := words_bs [[119, 105, 116, 104, 105, 110], N, F, prL d, Lib.itoa K] (by simp) (by simp; omega)
  have w4 := words_bs [[99, 111, 109, 112, 97, 114, 101], N, O, F, txL p] (by simp) (by simp; omega)
  simp only [List.map_cons, List.map_nil] at w1 w2 w3 w4
  have c1 := cat_bs (a := Lib.join [[112, 114, 111, 98], N, F, prL d] [32]) (b := [59]) (by simp only [join2, Lib.join_one, List.length_append, List.length_cons, List.length_nil]; omega)
  have c2 := cat_bs (a := Lib.join [[104, 111, 112, 115], N, F, prL d] [32]) (b := [59]) (by simp only [join2, Lib.join_one, List.length_append, List.length_cons, List.length_nil]; omega)
  have c3 := cat_bs (a := Lib.join [[119, 105, 116, 104, 105, 110], N, F, prL d, Lib.itoa K] [32]) (b := [59]) (by simp only [join2, Lib.join_one, List.length_append, List.length_cons, List.length_nil]; omega)
  have c4 := cat_bs (a := Lib.join [[99, 111, 109, 112, 97, 114, 101], N, O, F, txL p] [32]) (b := [59]) (by simp only [join2, Lib.join_one, List.length_append, List.length_cons, List.length_nil]; omega)
  unfold m_canon_Query qyL
  simp only [e1, bd_some]
  by_cases h1 : k = 1
  · simp only [h1, decide_true, if_true, w1, bd_some, c1]
  by_cases h2 : k = 2
  · simp only [h2, decide_true, if_true, w2, bd_some, c2]
    rfl
  by_cases h3 : k = 3
  · simp only [h3, decide_true, if_true, w3, bd_some, c3, e3]
    rfl
  by_cases h4 : k = 4
  · simp only [h4, decide_true, if_true, w4, bd_some, c4, e2]
    rfl
  · simp only [decide_eq_false h1, decide_eq_false h2, decide_eq_false h3, decide_eq_false h4, if_neg h1, if_neg h2, if_neg h3, if_neg h4]
    rfl
theorem refQuery_eq : m_triviumref22_Query (k, bs N, bs O, bs F, d, p, K) = some (bs (qyL k N O F d p K)) := by
  have l1 := prL_len d hd0 hd1
  have l2 := txL_len p hp0 hp1
  have l3 := itoa_len K (by omega) hK1
  have e1 := refPrint_eq d hd0 hd1
  have e2 : m_triviumref18_Text (p.1, p.2) = some (bs (txL p)) := refText_eq p hp0 hp1
  have e3 := baseItoa K hK0 hK1
  unfold m_triviumref22_Query qyL
  simp only [e1, e2, e3]
  generalize prL d = D at *
  generalize txL p = T at *
  generalize Lib.itoa K = I at *
  simp (disch := (simp only [List.length_append, List.length_cons, List.length_nil]; omega)) only [cat_bs, bd_some]
  by_cases h1 : k = 1
  · simp [h1, join2, Lib.join_one, List.append_assoc]
  by_cases h2 : k = 2
  · simp [h2, join2, Lib.join_one, List.append_assoc]
  by_cases h3 : k = 3
  · simp [h3, join2, Lib.join_one, List.append_assoc]
  by_cases h4 : k = 4
  · simp [h4, join2, Lib.join_one, List.append_assoc]
  · simp [h1, h2, h3, h4]
end
/-- a query that may be written -/
def Qok (q : D_api_Query) : Prop := q.2.1.size ≤ 1000 ∧ q.2.2.1.size ≤ 1000 ∧ q.2.2.2.1.size ≤ 1000 ∧ (0 ≤ q.2.2.2.2.1 ∧ q.2.2.2.2.1 < 4294967296) ∧ (0 ≤ q.2.2.2.2.2.1.1 ∧ q.2.2.2.2.2.1.1 < 4294967296) ∧ (-9223372036854775807 ≤ q.2.2.2.2.2.2 ∧ q.2.2.2.2.2.2 ≤ 9223372036854775807)
def qL (q : D_api_Query) : List UInt8 := qyL q.1 q.2.1.data.toList q.2.2.1.data.toList q.2.2.2.1.data.toList q.2.2.2.2.1 q.2.2.2.2.2.1 q.2.2.2.2.2.2
theorem qL_len {q : D_api_Query} (h : Qok q) : (qL q).length ≤ 6000 := qyL_len _ _ _ _ _ _ _ h.1 h.2.1 h.2.2.1 h.2.2.2.1.1 h.2.2.2.1.2 h.2.2.2.2.1.1 h.2.2.2.2.1.2 h.2.2.2.2.2.1 h.2.2.2.2.2.2
theorem qL_eq {q : D_api_Query} (h : Qok q) : m_canon_Query q = some (bs (qL q)) := query_eq _ _ _ _ _ _ _ h.1 h.2.1 h.2.2.1 h.2.2.2.1.1 h.2.2.2.1.2 h.2.2.2.2.1.1 h.2.2.2.2.1.2 h.2.2.2.2.2.1 h.2.2.2.2.2.2
theorem qL_ref {q : D_api_Query} (h : Qok q) : m_triviumref22_Query q = some (bs (qL q)) := refQuery_eq _ _ _ _ _ _ _ h.1 h.2.1 h.2.2.1 h.2.2.2.1.1 h.2.2.2.1.2 h.2.2.2.2.1.1 h.2.2.2.2.1.2 h.2.2.2.2.2.1 h.2.2.2.2.2.2
/-- queries' text -/
def qsL (l : List D_api_Query) : List UInt8 := (l.map fun q => qL q ++ [10]).flatten
theorem join_nilsep : ∀ l : List (List UInt8), Lib.join l [] = l.flatten
  | [] => rfl
  | [x] => by rw [Lib.join_one]; simp
  | x :: y :: l => by rw [join2, join_nilsep (y :: l)]; simp
theorem Queries_eq (l : List D_api_Query) (hl : l.length ≤ 1000000) (h : ∀ q ∈ l, Qok q) : m_canon_Queries l = some (bs (qsL l)) := by
  have hm := mk16 l.length (by omega)
  have hloop := lp_fill (f := m_canon_each_api_Query__canon_Queries_1_l1 l) l (fun q => bs (qL q ++ [10])) (fun i q v hq hv => by
    have hi := (List.getElem?_eq_some_iff.1 hq).1
    have hmem := List.mem_of_getElem? hq
    have e1 : decide ((i : Int) < (l.length : Int)) = true := decide_eq_true (by omega)
    have e2 : rd l (i : Int) = some q := by rw [rd_nat]; exact hq
    have e3 : m_canon_Query (q.1, q.2.1, q.2.2.1, q.2.2.2.1, q.2.2.2.2.1, (q.2.2.2.2.2.1.1, q.2.2.2.2.2.1.2), q.2.2.2.2.2.2) = some (bs (qL q)) := qL_eq (h q hmem)
    have e4 := cat_bs (a := qL q) (b := [10]) (by have := qL_len (h q hmem); simp; omega)
    have e5 : ix v (i : Int) = some i := ix_nat (by omega)
    have e6 : wi64 ((i : Int) + 1) = (i : Int) + 1 := wi64_eq (by omega) (by omega)
    simp only [m_canon_each_api_Query__canon_Queries_1_l1, e1, if_true, e2, bd_some, m_canon_Queries_1, e3, e4, e5, lt_eq, e6]) (fun v => by
    simp [m_canon_each_api_Query__canon_Queries_1_l1]) (List.replicate l.length (bs [])) (by simp)
  have hlen : (Lib.join (l.map fun q => qL q ++ [10]) []).length ≤ 140737488355328 := by
    have := join_len [] 6001 (l.map fun q => qL q ++ [10]) (by
      intro x hx
      obtain ⟨q, hq, rfl⟩ := List.mem_map.1 hx
      have := qL_len (h q hq)
      simp; omega)
    simp at this
    omega
  have hj := join_bs (l.map fun q => qL q ++ [10]) [] (by simp; omega) hlen
  rw [List.map_map] at hj
  have hj : m_strings_Join (l.map fun q => bs (qL q ++ [10])) (bs []) = _ := hj
  unfold m_canon_Queries m_canon_each_api_Query__canon_Queries_1
  simp only [hm, bd_some, hloop, hj]
  unfold qsL
  rw [join_nilsep]
theorem refQueries_eq (l : List D_api_Query) (hl : l.length ≤ 1000000) (h : ∀ q ∈ l, Qok q) : m_triviumref22_Queries l = some (bs (qsL l)) := by
  have hloop := lp_acc (f := m_triviumref22_Queries_l1 l) (r := some (bs (qsL l))) l (fun _ q => qL q ++ [10]) 6001 [] (fun i q hq => by
    have := qL_len (h q (List.mem_of_getElem? hq))
    simp; omega) (fun i q acc hq ha => by
    have hi := (List.getElem?_eq_some_iff.1 hq).1
    have hmem := List.mem_of_getElem? hq
    have hlq := qL_len (h q hmem)
    have e1 : decide ((i : Int) < (l.length : Int)) = true := decide_eq_true (by omega)
    have e2 : rd l (i : Int) = some q := by rw [rd_nat]; exact hq
    have e3 := qL_ref (h q hmem)
    have ha : acc.length ≤ l.length * 6001 := by simpa using ha
    have e4 := cat_bs (a := qL q) (b := [10]) (by simp; omega)
    have e5 := cat_bs (a := acc) (b := qL q ++ [10]) (by simp; omega)
    have e6 : wi64 ((i : Int) + 1) = (i : Int) + 1 := wi64_eq (by omega) (by omega)
    simp only [m_triviumref22_Queries_l1, e1, if_true, e2, bd_some, e3, e4, e5, e6]) (by
    rw [lp_done (x := bs ([] ++ catI (fun _ q => qL q ++ [10]) 0 l)) (by simp [m_triviumref22_Queries_l1])]
    rw [catI_flat]
    rfl)
  unfold m_triviumref22_Queries
  have hloop : lp (m_triviumref22_Queries_l1 l) (bs [], 0) = some (bs (qsL l)) := hloop
  rw [hloop]
  rfl
end Go.Proofs.YthpadfhhadcghaaDoor.AP
/- Networks' texts: the program's. -/
namespace Go.Proofs.YthpadfhhadcghaaDoor.AP
open Go
set_option linter.unusedVariables false
set_option linter.unusedSimpArgs false
/-- a text of each -/
theorem each_gen {α : Type} {f : (Int × List ByteArray) → Option ((Int × List ByteArray) ⊕ (List ByteArray))} (l : List α) (F : α → Option ByteArray) (g : α → List UInt8)
    (hf : ∀ v4 v5, f (v4, v5) = if decide (v4 < (l.length : Int)) then (bd (rd l v4) fun x7 => bd (F x7) fun x9 => bd (ix v5 v4) fun j11 => lt (v5.set j11 x9) fun x13 => some (.inl (wi64 (v4 + 1), x13))) else some (.inr v5))
    (hl : l.length ≤ 4294967296) (hF : ∀ x ∈ l, F x = some (bs (g x))) : lp f (0, List.replicate l.length (bs [])) = some ((l.map g).map bs) := by
  have := lp_fill (f := f) l (fun x => bs (g x)) (fun i x v hx hv => by
    have hi := (List.getElem?_eq_some_iff.1 hx).1
    have e1 : decide ((i : Int) < (l.length : Int)) = true := decide_eq_true (by omega)
    have e2 : rd l (i : Int) = some x := by rw [rd_nat]; exact hx
    have e3 := hF x (List.mem_of_getElem? hx)
    have e5 : ix v (i : Int) = some i := ix_nat (by omega)
    have e6 : wi64 ((i : Int) + 1) = (i : Int) + 1 := wi64_eq (by omega) (by omega)
    rw [hf]
    simp only [e1, if_true, e2, bd_some, e3, e5, lt_eq, e6]) (fun v => by
    rw [hf, if_neg (by simp)]) (List.replicate l.length (bs [])) (by simp)
  rw [this, List.map_map]
  rfl
theorem join_le {s : List UInt8} {l : List (List UInt8)} {c n k : Nat} (h1 : ∀ x ∈ l, x.length ≤ c) (h2 : l.length ≤ n) (hk : n * (c + s.length) ≤ k) : (Lib.join l s).length ≤ k :=
  Nat.le_trans (join_len s c l h1) (Nat.le_trans (Nat.mul_le_mul_right _ h2) hk)
/-! what is written -/
def hpL (h : D_api_Hop) : List UInt8 := if h.2 = 1 then h.1.data.toList else h.1.data.toList ++ 42 :: Lib.itoa h.2
def gpL (g : List D_api_Hop) : List UInt8 := Lib.join (g.map hpL) [44, 32]
def rlL (r : D_api_Rule) : List UInt8 :=
  if r.2.2.1 then Lib.join [Lib.join [[114, 117, 108, 101], r.1.data.toList, txL r.2.1] [32], [100, 114, 111, 112]] [32] ++ [59]
  else Lib.join [Lib.join [[114, 117, 108, 101], r.1.data.toList, txL r.2.1] [32], [118, 105, 97], Lib.join (r.2.2.2.map gpL) [32, 101, 108, 115, 101, 32]] [32] ++ [59]
def ndL (n : D_api_Node) : List UInt8 :=
  if 0 < n.2.length then Lib.join [Lib.join [[110, 111, 100, 101], n.1.data.toList] [32], [104, 111, 109, 101], Lib.join (n.2.map txL) [44, 32]] [32] ++ [59]
  else Lib.join [[110, 111, 100, 101], n.1.data.toList] [32] ++ [59]
def lkL (fp : D_api_Rat → List UInt8) (l : D_api_Link) : List UInt8 := Lib.join [[108, 105, 110, 107], l.1.data.toList, l.2.1.data.toList, l.2.2.1.data.toList, [102, 97, 105, 108], fp l.2.2.2] [32] ++ [59]
def lnL (s : List UInt8) : List UInt8 := [32, 32] ++ s ++ [10]
def ntL (fp : D_api_Rat → List UInt8) (n : D_api_Net) : List UInt8 :=
  Lib.join [[110, 101, 116, 119, 111, 114, 107], n.1.data.toList, [123]] [32] ++ [10] ++ ((n.2.1.map ndL ++ n.2.2.1.map (lkL fp) ++ n.2.2.2.map rlL).map lnL).flatten ++ [125, 10]
def ntsL (fp : D_api_Rat → List UInt8) (l : List D_api_Net) : List UInt8 := (l.map (ntL fp)).flatten
/-! what may be written -/
def Pok (p : D_api_Prefix) : Prop := 0 ≤ p.1 ∧ p.1 < 4294967296
def Hok (h : D_api_Hop) : Prop := h.1.size ≤ 2000 ∧ -9223372036854775807 ≤ h.2 ∧ h.2 ≤ 9223372036854775807
def Rok (r : D_api_Rule) : Prop := r.1.size ≤ 2000 ∧ Pok r.2.1 ∧ r.2.2.2.length ≤ 300 ∧ ∀ g ∈ r.2.2.2, g.length ≤ 2000 ∧ ∀ h ∈ g, Hok h
def Nok (n : D_api_Node) : Prop := n.1.size ≤ 2000 ∧ n.2.length ≤ 300 ∧ ∀ p ∈ n.2, Pok p
def Lok (fp : D_api_Rat → List UInt8) (l : D_api_Link) : Prop := l.1.size ≤ 2000 ∧ l.2.1.size ≤ 2000 ∧ l.2.2.1.size ≤ 2000 ∧ (fp l.2.2.2).length ≤ 100000
def Tok (fp : D_api_Rat → List UInt8) (n : D_api_Net) : Prop := n.1.size ≤ 2000 ∧ (n.2.1.length ≤ 200 ∧ ∀ x ∈ n.2.1, Nok x) ∧ (n.2.2.1.length ≤ 200 ∧ ∀ x ∈ n.2.2.1, Lok fp x) ∧ (n.2.2.2.length ≤ 100 ∧ ∀ x ∈ n.2.2.2, Rok x)
theorem hpL_len {h : D_api_Hop} (hh : Hok h) : (hpL h).length ≤ 2021 := by
  have l1 := itoa_len h.2 (by have := hh.2.1; omega) hh.2.2
  have l2 := hh.1
  have l2' := l2
  rw [size_data] at l2
  unfold hpL
  split
  · omega
  · rw [List.length_append, List.length_cons]; omega
theorem gpL_len {g : List D_api_Hop} (h1 : g.length ≤ 2000) (h : ∀ x ∈ g, Hok x) : (gpL g).length ≤ 4046000 :=
  join_le (c := 2021) (n := 2000) (by intro x hx; obtain ⟨y, hy, rfl⟩ := List.mem_map.1 hx; exact hpL_len (h y hy)) (by simpa using h1) (by decide)
theorem gps_len {l : List (List D_api_Hop)} (h0 : l.length ≤ 300) (h : ∀ g ∈ l, g.length ≤ 2000 ∧ ∀ h ∈ g, Hok h) : (Lib.join (l.map gpL) [32, 101, 108, 115, 101, 32]).length ≤ 1213801800 :=
  join_le (c := 4046000) (n := 300) (by intro x hx; obtain ⟨y, hy, rfl⟩ := List.mem_map.1 hx; exact gpL_len (h y hy).1 (h y hy).2) (by simpa using h0) (by decide)
theorem homes_len {l : List D_api_Prefix} (h0 : l.length ≤ 300) (h : ∀ p ∈ l, Pok p) : (Lib.join (l.map txL) [44, 32]).length ≤ 31800 :=
  join_le (c := 104) (n := 300) (by intro x hx; obtain ⟨y, hy, rfl⟩ := List.mem_map.1 hx; exact txL_len y (h y hy).1 (h y hy).2) (by simpa using h0) (by decide)
theorem rlL_len {r : D_api_Rule} (h : Rok r) : (rlL r).length ≤ 1300000000 := by
  have l1 := txL_len r.2.1 h.2.1.1 h.2.1.2
  have l2 := h.1
  have l2' := l2
  rw [size_data] at l2
  have l3 := gps_len h.2.2.1 h.2.2.2
  unfold rlL
  split
  · simp only [join2, Lib.join_one, List.length_append, List.length_cons, List.length_nil]; omega
  · simp only [join2, Lib.join_one, List.length_append, List.length_cons, List.length_nil] at l3 ⊢; omega
theorem ndL_len {n : D_api_Node} (h : Nok n) : (ndL n).length ≤ 40000 := by
  have l2 := h.1
  have l2' := l2
  rw [size_data] at l2
  have l3 := homes_len h.2.1 h.2.2
  unfold ndL
  split
  · simp only [join2, Lib.join_one, List.length_append, List.length_cons, List.length_nil]; omega
  · simp only [join2, Lib.join_one, List.length_append, List.length_cons, List.length_nil]; omega
theorem lkL_len {fp : D_api_Rat → List UInt8} {l : D_api_Link} (h : Lok fp l) : (lkL fp l).length ≤ 110000 := by
  have l1 := h.1
  have l2 := h.2.1
  have l3 := h.2.2.1
  have l4 := h.2.2.2
  have l1' := l1
  have l2' := l2
  have l3' := l3
  rw [size_data] at l1 l2 l3
  unfold lkL
  simp only [join2, Lib.join_one, List.length_append, List.length_cons, List.length_nil]; omega
/-! the program's way -/
theorem hop_eq {h : D_api_Hop} (hh : Hok h) : m_canon_hop h = some (bs (hpL h)) := by
  have l2 := hh.1
  have l2' := l2
  rw [size_data] at l2
  have l1 := itoa_len h.2 (by have := hh.2.1; omega) hh.2.2
  have e1 := itoa_bs h.2 (by have := hh.2.1; omega) hh.2.2
  have e2 := cat_bs (a := h.1.data.toList) (b := [42]) (by simp; omega)
  have e3 := cat_bs (a := h.1.data.toList ++ [42]) (b := Lib.itoa h.2) (by rw [List.length_append]; simp; omega)
  rw [bs_data] at e2
  unfold m_canon_hop hpL
  by_cases h1 : h.2 = 1
  · rw [if_pos (decide_eq_true h1), if_pos h1]; rfl
  · rw [if_neg (by simpa using h1), if_neg h1]
    simp only [e2, bd_some, e1, e3]
    simp
theorem group_eq {g : List D_api_Hop} (h1 : g.length ≤ 2000) (h : ∀ x ∈ g, Hok x) : m_canon_group g = some (bs (gpL g)) := by
  have e1 := each_gen (f := m_canon_each_api_Hop__canon_hop_l1 g) g (fun x => m_canon_hop (x.1, x.2)) hpL (fun _ _ => rfl) (by omega) (fun x hx => hop_eq (h x hx))
  have e2 := mk16 g.length (by omega)
  have e3 := join_bs (g.map hpL) [44, 32] (by simp; omega) (by have := gpL_len h1 h; unfold gpL at this; omega)
  unfold m_canon_group m_canon_each_api_Hop__canon_hop
  simp only [e2, bd_some, e1, e3]
  rfl
theorem groups_eq {l : List (List D_api_Hop)} (h0 : l.length ≤ 300) (h : ∀ g ∈ l, g.length ≤ 2000 ∧ ∀ h ∈ g, Hok h) : m_canon_each_api_Hop__canon_group l = some ((l.map gpL).map bs) := by
  have e1 := each_gen (f := m_canon_each_api_Hop__canon_group_l1 l) l m_canon_group gpL (fun _ _ => rfl) (by omega) (fun x hx => group_eq (h x hx).1 (h x hx).2)
  have e2 := mk16 l.length (by omega)
  unfold m_canon_each_api_Hop__canon_group
  simp only [e2, bd_some, e1]
theorem rule_eq {r : D_api_Rule} (h : Rok r) : m_canon_Rule r = some (bs (rlL r)) := by
  have l1 := txL_len r.2.1 h.2.1.1 h.2.1.2
  have l2 := h.1
  have l2' := l2
  rw [size_data] at l2
  have l3 := gps_len h.2.2.1 h.2.2.2
  have e1 : m_addr_Text (r.2.1.1, r.2.1.2) = some (bs (txL r.2.1)) := text_eq r.2.1 h.2.1.1 h.2.1.2
  have e2 := groups_eq h.2.2.1 h.2.2.2
  have e3 := join_bs (r.2.2.2.map gpL) [32, 101, 108, 115, 101, 32] (by have := h.2.2.1; simp; omega) (by omega)
  have w1 := words_bs [[114, 117, 108, 101], r.1.data.toList, txL r.2.1] (by simp) (by simp; omega)
  have lw : (Lib.join [[114, 117, 108, 101], r.1.data.toList, txL r.2.1] [32]).length ≤ 3000 := by simp only [join2, Lib.join_one, List.length_append, List.length_cons, List.length_nil]; omega
  have e4 : m_canon_Rule r = bd (some (bs (Lib.join [[114, 117, 108, 101], r.1.data.toList, txL r.2.1] [32]))) fun x3 => if r.2.2.1 then (bd (m_canon_words [x3, (bs [100, 114, 111, 112])]) fun x6 => bd (cat x6 (bs [59])) fun x8 => some x8) else (bd (m_canon_each_api_Hop__canon_group r.2.2.2) fun x10 => bd (m_strings_Join x10 (bs [32, 101, 108, 115, 101, 32])) fun x12 => bd (m_canon_words [x3, (bs [118, 105, 97]), x12]) fun x14 => bd (cat x14 (bs [59])) fun x16 => some x16) := by
    have w1 : m_canon_words [(bs [114, 117, 108, 101]), r.1, bs (txL r.2.1)] = _ := w1
    unfold m_canon_Rule
    rw [e1]
    simp only [bd_some, w1]
  rw [e4, bd_some]
  unfold rlL
  generalize Lib.join [[114, 117, 108, 101], r.1.data.toList, txL r.2.1] [32] = W at *
  cases r.2.2.1 with
  | true =>
    have w2 := words_bs [W, [100, 114, 111, 112]] (by simp) (by simp; omega)
    have w2 : m_canon_words [bs W, bs [100, 114, 111, 112]] = _ := w2
    have c1 := cat_bs (a := Lib.join [W, [100, 114, 111, 112]] [32]) (b := [59]) (by simp only [join2, Lib.join_one, List.length_append, List.length_cons, List.length_nil]; omega)
    simp only [if_true, w2, bd_some, c1]
  | false =>
    generalize Lib.join (r.2.2.2.map gpL) [32, 101, 108, 115, 101, 32] = G at *
    have w2 := words_bs [W, [118, 105, 97], G] (by simp) (by simp; omega)
    have w2 : m_canon_words [bs W, bs [118, 105, 97], bs G] = _ := w2
    have c1 := cat_bs (a := Lib.join [W, [118, 105, 97], G] [32]) (b := [59]) (by simp only [join2, Lib.join_one, List.length_append, List.length_cons, List.length_nil]; omega)
    simp only [e2, e3, w2, bd_some, c1]
    rfl
theorem homes_eq {l : List D_api_Prefix} (h0 : l.length ≤ 300) (h : ∀ p ∈ l, Pok p) : m_canon_each_api_Prefix__addr_Text l = some ((l.map txL).map bs) := by
  have e1 := each_gen (f := m_canon_each_api_Prefix__addr_Text_l1 l) l (fun x => m_addr_Text (x.1, x.2)) txL (fun _ _ => rfl) (by omega) (fun x hx => text_eq x (h x hx).1 (h x hx).2)
  have e2 := mk16 l.length (by omega)
  unfold m_canon_each_api_Prefix__addr_Text
  simp only [e2, bd_some, e1]
theorem node_eq {n : D_api_Node} (h : Nok n) : m_canon_node n = some (bs (ndL n)) := by
  have l2 := h.1
  have l2' := l2
  rw [size_data] at l2
  have l3 := homes_len h.2.1 h.2.2
  have e2 := homes_eq h.2.1 h.2.2
  have e3 := join_bs (n.2.map txL) [44, 32] (by have := h.2.1; simp; omega) (by omega)
  have w1 := words_bs [[110, 111, 100, 101], n.1.data.toList] (by simp) (by simp; omega)
  have w1 : m_canon_words [(bs [110, 111, 100, 101]), n.1] = _ := w1
  have lw : (Lib.join [[110, 111, 100, 101], n.1.data.toList] [32]).length ≤ 3000 := by simp only [join2, Lib.join_one, List.length_append, List.length_cons, List.length_nil]; omega
  unfold m_canon_node ndL
  simp only [w1, bd_some]
  generalize Lib.join [[110, 111, 100, 101], n.1.data.toList] [32] = W at *
  by_cases hn : 0 < n.2.length
  · have e4 : decide (0 < (n.2.length : Int)) = true := decide_eq_true (by omega)
    generalize Lib.join (n.2.map txL) [44, 32] = G at *
    have w2 := words_bs [W, [104, 111, 109, 101], G] (by simp) (by simp; omega)
    have w2 : m_canon_words [bs W, bs [104, 111, 109, 101], bs G] = _ := w2
    have c1 := cat_bs (a := Lib.join [W, [104, 111, 109, 101], G] [32]) (b := [59]) (by simp only [join2, Lib.join_one, List.length_append, List.length_cons, List.length_nil]; omega)
    simp only [e4, if_true, e2, bd_some, e3, w2, c1, if_pos hn]
  · have e4 : decide (0 < (n.2.length : Int)) = false := decide_eq_false (by omega)
    have c1 := cat_bs (a := W) (b := [59]) (by simp; omega)
    simp only [e4, Bool.false_eq_true, if_false, bd_some, if_neg hn, c1]
theorem link_eq {fp : D_api_Rat → List UInt8} {l : D_api_Link} (h : Lok fp l) (hp : m_ratio_Print l.2.2.2 = some (bs (fp l.2.2.2))) : m_canon_link l = some (bs (lkL fp l)) := by
  have l1 := h.1
  have l2 := h.2.1
  have l3 := h.2.2.1
  have l4 := h.2.2.2
  have l1' := l1
  have l2' := l2
  have l3' := l3
  rw [size_data] at l1 l2 l3
  have hp : m_ratio_Print ((l.2.2.2.1.1, l.2.2.2.1.2), l.2.2.2.2) = some (bs (fp l.2.2.2)) := hp
  have w1 := words_bs [[108, 105, 110, 107], l.1.data.toList, l.2.1.data.toList, l.2.2.1.data.toList, [102, 97, 105, 108], fp l.2.2.2] (by simp) (by simp; omega)
  have w1 : m_canon_words [(bs [108, 105, 110, 107]), l.1, l.2.1, l.2.2.1, (bs [102, 97, 105, 108]), bs (fp l.2.2.2)] = _ := w1
  have c1 := cat_bs (a := Lib.join [[108, 105, 110, 107], l.1.data.toList, l.2.1.data.toList, l.2.2.1.data.toList, [102, 97, 105, 108], fp l.2.2.2] [32]) (b := [59]) (by simp only [join2, Lib.join_one, List.length_append, List.length_cons, List.length_nil]; omega)
  unfold m_canon_link lkL
  simp only [hp, bd_some, w1, c1]
/-- lines put into a builder -/
theorem net_l2 (L : List (List UInt8)) (c d : Nat) (hd : c + 3 = d) (hc : ∀ s ∈ L, s.length ≤ c) (hL : L.length * d ≤ 100000000000000) (a0 : List UInt8) (ha : a0.length + L.length * d ≤ 140737488355328) : lp (m_canon_net_l2 (L.map bs)) (0, false, i8 a0) = some (false, i8 (a0 ++ (L.map lnL).flatten)) := by
  have key : ∀ (k i : Nat), i + k = L.length → lp (m_canon_net_l2 (L.map bs)) ((i : Int), false, i8 (a0 ++ ((L.take i).map lnL).flatten)) = some (false, i8 (a0 ++ (L.map lnL).flatten)) := by
    intro k
    induction k with
    | zero =>
      intro i hk
      obtain rfl : i = L.length := by omega
      rw [List.take_of_length_le (Nat.le_refl _)]
      exact lp_done (by simp [m_canon_net_l2])
    | succ k ih =>
      intro i hk
      have hi : L[i]? = some L[i] := List.getElem?_eq_getElem (by omega)
      have hs := hc L[i] (List.getElem_mem _)
      have hcL : c ≤ 100000000000000 := by
        have : 1 * d ≤ L.length * d := Nat.mul_le_mul_right _ (by omega)
        omega
      have hlen : ((L.take i).map lnL).flatten.length ≤ i * d := by
        have := catI_len (fun _ => lnL) d (L.take i) 0 (fun j x hj => by
          have hm := hc x (List.mem_of_mem_take (List.mem_of_getElem? hj))
          unfold lnL
          simp only [List.length_append, List.length_cons, List.length_nil]
          omega)
        rw [catI_flat, List.length_take, Nat.min_eq_left (by omega)] at this
        exact this
      have hLn : L.length ≤ L.length * d := Nat.le_mul_of_pos_right _ (by omega)
      have hle : (i + 1) * d ≤ L.length * d := Nat.mul_le_mul_right _ (by omega)
      rw [Nat.succ_mul] at hle
      have e1 : decide ((i : Int) < ((L.map bs).length : Int)) = true := decide_eq_true (by rw [List.length_map]; omega)
      have e2 : rd (L.map bs) (i : Int) = some (bs L[i]) := by rw [rd_nat, List.getElem?_map, hi]; rfl
      have c1 := cat_bs (a := [32, 32]) (b := L[i]) (by simp; omega)
      have c2 := cat_bs (a := [32, 32] ++ L[i]) (b := [10]) (by simp; omega)
      have c3 := apS_i8 (a0 ++ ((L.take i).map lnL).flatten) (lnL L[i]) (by
        have : (lnL L[i]).length = L[i].length + 3 := by unfold lnL; simp
        rw [this, List.length_append]; omega)
      have e6 : wi64 ((i : Int) + 1) = (i : Int) + 1 := wi64_eq (by omega) (by omega)
      have hs : m_canon_net_l2 (L.map bs) ((i : Int), false, i8 (a0 ++ ((L.take i).map lnL).flatten)) = some (.inl ((i : Int) + 1, false, i8 (a0 ++ ((L.take i).map lnL).flatten ++ lnL L[i]))) := by
        have c3 : apS_ (i8 (a0 ++ ((L.take i).map lnL).flatten)) (bs ([32, 32] ++ L[i] ++ [10])) = _ := c3
        simp only [m_canon_net_l2, e1, if_true, e2, bd_some, c1, c2, m_strings_Builder_WriteString_M_2, m_strings_Builder_copyCheck_M_2, c3, e6]
        rfl
      rw [lp_more hs]
      have := ih (i + 1) (by omega)
      rw [List.take_add_one, hi, List.map_append, List.flatten_append] at this
      simp only [Option.toList, List.map_cons, List.map_nil, List.flatten_cons, List.flatten_nil, List.append_nil] at this
      rw [← List.append_assoc] at this
      simpa using this
  have := key L.length 0 (by omega)
  simpa using this
theorem ntL_len {fp : D_api_Rat → List UInt8} {n : D_api_Net} (h : Tok fp n) : (ntL fp n).length ≤ 140000000000 := by
  have l1 := h.1
  have l1' := l1
  rw [size_data] at l1
  have a1 := catI_len (fun _ => lnL) 40003 (n.2.1.map ndL) 0 (fun j x hj => by
    obtain ⟨y, hy, rfl⟩ := List.mem_map.1 (List.mem_of_getElem? hj)
    have := ndL_len (h.2.1.2 y hy)
    unfold lnL; simp; omega)
  have a2 := catI_len (fun _ => lnL) 110003 (n.2.2.1.map (lkL fp)) 0 (fun j x hj => by
    obtain ⟨y, hy, rfl⟩ := List.mem_map.1 (List.mem_of_getElem? hj)
    have := lkL_len (h.2.2.1.2 y hy)
    unfold lnL; simp; omega)
  have a3 := catI_len (fun _ => lnL) 1300000003 (n.2.2.2.map rlL) 0 (fun j x hj => by
    obtain ⟨y, hy, rfl⟩ := List.mem_map.1 (List.mem_of_getElem? hj)
    have := rlL_len (h.2.2.2.2 y hy)
    unfold lnL; simp; omega)
  rw [catI_flat, List.length_map] at a1 a2 a3
  have b1 : n.2.1.length * 40003 ≤ 200 * 40003 := Nat.mul_le_mul_right _ h.2.1.1
  have b2 : n.2.2.1.length * 110003 ≤ 200 * 110003 := Nat.mul_le_mul_right _ h.2.2.1.1
  have b3 : n.2.2.2.length * 1300000003 ≤ 100 * 1300000003 := Nat.mul_le_mul_right _ h.2.2.2.1
  unfold ntL
  rw [List.map_append, List.map_append, List.flatten_append, List.flatten_append]
  simp only [join2, Lib.join_one, List.length_append, List.length_cons, List.length_nil]
  omega
theorem net_eq {fp : D_api_Rat → List UInt8} {n : D_api_Net} (h : Tok fp n) (hp : ∀ x ∈ n.2.2.1, m_ratio_Print x.2.2.2 = some (bs (fp x.2.2.2))) : m_canon_net n = some (bs (ntL fp n)) := by
  have l1 := h.1
  have l1' := l1
  rw [size_data] at l1
  have w1 := words_bs [[110, 101, 116, 119, 111, 114, 107], n.1.data.toList, [123]] (by simp) (by simp; omega)
  have w1 : m_canon_words [(bs [110, 101, 116, 119, 111, 114, 107]), n.1, (bs [123])] = _ := w1
  have lw : (Lib.join [[110, 101, 116, 119, 111, 114, 107], n.1.data.toList, [123]] [32]).length ≤ 3000 := by simp only [join2, Lib.join_one, List.length_append, List.length_cons, List.length_nil]; omega
  have c1 := cat_bs (a := Lib.join [[110, 101, 116, 119, 111, 114, 107], n.1.data.toList, [123]] [32]) (b := [10]) (by simp; omega)
  have q1 : m_canon_each_api_Node__canon_node n.2.1 = some ((n.2.1.map ndL).map bs) := by
    have e1 := each_gen (f := m_canon_each_api_Node__canon_node_l1 n.2.1) n.2.1 (fun x => m_canon_node (x.1, x.2)) ndL (fun _ _ => rfl) (by have := h.2.1.1; omega) (fun x hx => node_eq (h.2.1.2 x hx))
    have e2 := mk16 n.2.1.length (by have := h.2.1.1; omega)
    unfold m_canon_each_api_Node__canon_node
    simp only [e2, bd_some, e1]
  have q2 : m_canon_each_api_Link__canon_link n.2.2.1 = some ((n.2.2.1.map (lkL fp)).map bs) := by
    have e1 := each_gen (f := m_canon_each_api_Link__canon_link_l1 n.2.2.1) n.2.2.1 (fun x => m_canon_link (x.1, x.2.1, x.2.2.1, ((x.2.2.2.1.1, x.2.2.2.1.2), x.2.2.2.2))) (lkL fp) (fun _ _ => rfl) (by have := h.2.2.1.1; omega) (fun x hx => link_eq (h.2.2.1.2 x hx) (hp x hx))
    have e2 := mk16 n.2.2.1.length (by have := h.2.2.1.1; omega)
    unfold m_canon_each_api_Link__canon_link
    simp only [e2, bd_some, e1]
  have q3 : m_canon_each_api_Rule__canon_Rule n.2.2.2 = some ((n.2.2.2.map rlL).map bs) := by
    have e1 := each_gen (f := m_canon_each_api_Rule__canon_Rule_l1 n.2.2.2) n.2.2.2 (fun x => m_canon_Rule (x.1, (x.2.1.1, x.2.1.2), x.2.2.1, x.2.2.2)) rlL (fun _ _ => rfl) (by have := h.2.2.2.1; omega) (fun x hx => rule_eq (h.2.2.2.2 x hx))
    have e2 := mk16 n.2.2.2.length (by have := h.2.2.2.1; omega)
    unfold m_canon_each_api_Rule__canon_Rule
    simp only [e2, bd_some, e1]
  have hb := ntL_len h
  unfold ntL at hb ⊢
  rw [List.map_append, List.map_append, List.flatten_append, List.flatten_append] at hb ⊢
  have r1 : ∀ s ∈ n.2.1.map ndL, s.length ≤ 40000 := by intro s hs; obtain ⟨y, hy, rfl⟩ := List.mem_map.1 hs; exact ndL_len (h.2.1.2 y hy)
  have r2 : ∀ s ∈ n.2.2.1.map (lkL fp), s.length ≤ 110000 := by intro s hs; obtain ⟨y, hy, rfl⟩ := List.mem_map.1 hs; exact lkL_len (h.2.2.1.2 y hy)
  have r3 : ∀ s ∈ n.2.2.2.map rlL, s.length ≤ 1300000000 := by intro s hs; obtain ⟨y, hy, rfl⟩ := List.mem_map.1 hs; exact rlL_len (h.2.2.2.2 y hy)
  have b1 : (n.2.1.map ndL).length ≤ 200 := by rw [List.length_map]; exact h.2.1.1
  have b2 : (n.2.2.1.map (lkL fp)).length ≤ 200 := by rw [List.length_map]; exact h.2.2.1.1
  have b3 : (n.2.2.2.map rlL).length ≤ 100 := by rw [List.length_map]; exact h.2.2.2.1
  generalize n.2.1.map ndL = L1 at *
  generalize n.2.2.1.map (lkL fp) = L2 at *
  generalize n.2.2.2.map rlL = L3 at *
  generalize hW : Lib.join [[110, 101, 116, 119, 111, 114, 107], n.1.data.toList, [123]] [32] ++ [10] = W at *
  have hWl : W.length ≤ 4000 := by rw [← hW, List.length_append]; simp; omega
  have m1 : L1.length * 40003 ≤ 200 * 40003 := Nat.mul_le_mul_right _ b1
  have m2 : L2.length * 110003 ≤ 200 * 110003 := Nat.mul_le_mul_right _ b2
  have m3 : L3.length * 1300000003 ≤ 100 * 1300000003 := Nat.mul_le_mul_right _ b3
  have n1 := net_l2 L1 40000 40003 rfl r1 (Nat.le_trans m1 (by decide)) W (Nat.le_trans (Nat.add_le_add hWl m1) (by decide))
  have hl1 : (W ++ (L1.map lnL).flatten).length ≤ 140000000000 := by simp only [List.length_append] at hb ⊢; omega
  have n2 := net_l2 L2 110000 110003 rfl r2 (Nat.le_trans m2 (by decide)) (W ++ (L1.map lnL).flatten) (Nat.le_trans (Nat.add_le_add hl1 m2) (by decide))
  have hl2 : (W ++ (L1.map lnL).flatten ++ (L2.map lnL).flatten).length ≤ 140000000000 := by simp only [List.length_append] at hb ⊢; omega
  have n3 := net_l2 L3 1300000000 1300000003 rfl r3 (Nat.le_trans m3 (by decide)) (W ++ (L1.map lnL).flatten ++ (L2.map lnL).flatten) (Nat.le_trans (Nat.add_le_add hl2 m3) (by decide))
  have hl3 : (W ++ (L1.map lnL).flatten ++ (L2.map lnL).flatten ++ (L3.map lnL).flatten).length ≤ 140000000000 := by simp only [List.length_append] at hb ⊢; omega
  have s0 : m_strings_Builder_WriteString_M (bs W) true = some (false, i8 W) := by
    have := apS_i8 [] W (by simp; omega)
    have : apS_ [] (bs W) = some (i8 W) := this
    unfold m_strings_Builder_WriteString_M m_strings_Builder_copyCheck_M
    simp only [if_true, bd_some, this]
  have hloop : lp (m_canon_net_l1 (L1.map bs) (L2.map bs) (L3.map bs)) (0, false, i8 W) = some (false, i8 (W ++ (L1.map lnL).flatten ++ (L2.map lnL).flatten ++ (L3.map lnL).flatten)) := by
    have w01 : wi64 (0 + 1) = 1 := wi64_eq (by decide) (by decide)
    have w12 : wi64 (1 + 1) = 2 := wi64_eq (by decide) (by decide)
    have w23 : wi64 (2 + 1) = 3 := wi64_eq (by decide) (by decide)
    have t0 : m_canon_net_l1 (L1.map bs) (L2.map bs) (L3.map bs) (0, false, i8 W) = some (.inl (1, false, i8 (W ++ (L1.map lnL).flatten))) := by
      have e : rd [L1.map bs, L2.map bs, L3.map bs] 0 = some (L1.map bs) := rfl
      have d : decide ((0 : Int) < ([L1.map bs, L2.map bs, L3.map bs].length : Int)) = true := rfl
      simp only [m_canon_net_l1, d, if_true, e, bd_some, n1, w01]
    have t1 : m_canon_net_l1 (L1.map bs) (L2.map bs) (L3.map bs) (1, false, i8 (W ++ (L1.map lnL).flatten)) = some (.inl (2, false, i8 (W ++ (L1.map lnL).flatten ++ (L2.map lnL).flatten))) := by
      have e : rd [L1.map bs, L2.map bs, L3.map bs] 1 = some (L2.map bs) := rfl
      have d : decide ((1 : Int) < ([L1.map bs, L2.map bs, L3.map bs].length : Int)) = true := rfl
      simp only [m_canon_net_l1, d, if_true, e, bd_some, n2, w12]
    have t2 : m_canon_net_l1 (L1.map bs) (L2.map bs) (L3.map bs) (2, false, i8 (W ++ (L1.map lnL).flatten ++ (L2.map lnL).flatten)) = some (.inl (3, false, i8 (W ++ (L1.map lnL).flatten ++ (L2.map lnL).flatten ++ (L3.map lnL).flatten))) := by
      have e : rd [L1.map bs, L2.map bs, L3.map bs] 2 = some (L3.map bs) := rfl
      have d : decide ((2 : Int) < ([L1.map bs, L2.map bs, L3.map bs].length : Int)) = true := rfl
      simp only [m_canon_net_l1, d, if_true, e, bd_some, n3, w23]
    rw [lp_more t0, lp_more t1, lp_more t2]
    exact lp_done (by
      have d : decide ((3 : Int) < ([L1.map bs, L2.map bs, L3.map bs].length : Int)) = false := rfl
      simp only [m_canon_net_l1, d]
      rfl)
  generalize hU : W ++ (L1.map lnL).flatten ++ (L2.map lnL).flatten ++ (L3.map lnL).flatten = U at *
  have s1 : m_strings_Builder_WriteString_M_2 (bs [125, 10]) false (i8 U) = some (false, i8 (U ++ [125, 10])) := by
    have := apS_i8 U [125, 10] (by simp; omega)
    unfold m_strings_Builder_WriteString_M_2 m_strings_Builder_copyCheck_M_2
    simp only [bd_some, this]
    rfl
  have s2 : m_strings_Builder_String_M false (i8 (U ++ [125, 10])) = some (bs (U ++ [125, 10])) := by
    have hne : U ++ [125, 10] ≠ [] := by simp
    unfold m_strings_Builder_String_M
    simp only [nem_i8 _ hne, bd_some, ust_i8 _ hne]
  unfold m_canon_net
  simp only [w1, bd_some, c1, s0, q1, q2, q3, hloop, s1, s2]
  rw [← hU]
  simp [List.append_assoc]
theorem Nets_eq {fp : D_api_Rat → List UInt8} {l : List D_api_Net} (hl : l.length ≤ 150) (h : ∀ n ∈ l, Tok fp n) (hp : ∀ n ∈ l, ∀ x ∈ n.2.2.1, m_ratio_Print x.2.2.2 = some (bs (fp x.2.2.2))) : m_canon_Nets l = some (bs (ntsL fp l)) := by
  have e1 := each_gen (f := m_canon_each_api_Net__canon_net_l1 l) l (fun x => m_canon_net (x.1, x.2.1, x.2.2.1, x.2.2.2)) (ntL fp) (fun _ _ => rfl) (by omega) (fun x hx => net_eq (h x hx) (hp x hx))
  have e2 := mk16 l.length (by omega)
  have e3 := join_bs (l.map (ntL fp)) [] (by simp; omega) (join_le (c := 140000000000) (n := 150) (by intro x hx; obtain ⟨y, hy, rfl⟩ := List.mem_map.1 hx; exact ntL_len (h y hy)) (by simpa using hl) (by decide))
  have e3 : m_strings_Join ((l.map (ntL fp)).map bs) (bs []) = _ := e3
  unfold m_canon_Nets m_canon_each_api_Net__canon_net
  simp only [e2, bd_some, e1, e3]
  unfold ntsL
  rw [join_nilsep]
/-- The chapter's example. -/
theorem works22 : m_triviumlaw22_works = some true := by
  have h : Tok (fun _ => []) (bs [97], [(bs [114], [])], [], []) := ⟨by decide, ⟨by decide, fun x hx => by
    have : x = (bs [114], []) := by simpa using hx
    subst this
    exact ⟨by decide, by decide, fun p hp => by cases hp⟩⟩, ⟨by decide, fun x hx => by cases hx⟩, ⟨by decide, fun x hx => by cases hx⟩⟩
  have := Nets_eq (fp := fun _ => []) (l := [(bs [97], [(bs [114], [])], [], [])]) (by decide) (fun n hn => by
    have : n = (bs [97], [(bs [114], [])], [], []) := by simpa using hn
    subst this; exact h) (fun n hn x hx => by
    have : n = (bs [97], [(bs [114], [])], [], []) := by simpa using hn
    subst this; cases hx)
  unfold m_triviumlaw22_works
  rw [this, bd_some, lt_eq, sq_bs]
  rfl
end Go.Proofs.YthpadfhhadcghaaDoor.AP
/- Queries that are cleaned may be written; the law of their texts. -/
namespace Go.Proofs.YthpadfhhadcghaaDoor.AP
open Go
set_option linter.unusedVariables false
set_option linter.unusedSimpArgs false
def shB (s : ByteArray) : ByteArray := s.extract 0 (min s.size 20)
theorem shB_size (s : ByteArray) : (shB s).size ≤ 20 := by
  unfold shB
  rw [ByteArray.size_extract]
  omega
theorem short_shB (s : ByteArray) : m_triviumref22_short s = some (shB s) := by
  have : cs s 0 (min (s.size : Int) 20) = some (shB s) := by
    unfold cs shB
    rw [if_pos (by omega)]
    have : (min (s.size : Int) 20).toNat = min s.size 20 := by omega
    rw [this]
    rfl
  unfold m_triviumref22_short
  rw [this]
  rfl
def cK (K : Int) : Int := if K < -1000000 then 3 else if 2147483648 < K then 3 else K
theorem cK_ok (K : Int) : -1000000 ≤ cK K ∧ cK K ≤ 2147483648 := by
  unfold cK
  split
  · omega
  · split <;> omega
def cQ (q : D_api_Query) : D_api_Query := (q.1, shB q.2.1, shB q.2.2.1, shB q.2.2.2.1, q.2.2.2.2.1, (q.2.2.2.2.2.1.1, q.2.2.2.2.2.1.2), cK q.2.2.2.2.2.2)
theorem cleanQuery_eq (q : D_api_Query) : m_triviumref22_CleanQuery q = some (cQ q) := by
  unfold m_triviumref22_CleanQuery cQ cK
  simp only [short_shB, bd_some]
  by_cases h1 : q.2.2.2.2.2.2 < -1000000
  · simp only [decide_eq_true h1, if_true, bd_some, if_pos h1]
  · by_cases h2 : 2147483648 < q.2.2.2.2.2.2
    · simp only [decide_eq_false h1, decide_eq_true h2, Bool.false_eq_true, if_false, if_true, bd_some, if_neg h1, if_pos h2]
    · simp only [decide_eq_false h1, decide_eq_false h2, Bool.false_eq_true, if_false, bd_some, if_neg h1, if_neg h2]
/-- a query whose addresses may be -/
def Qin (q : D_api_Query) : Prop := (0 ≤ q.2.2.2.2.1 ∧ q.2.2.2.2.1 < 4294967296) ∧ (0 ≤ q.2.2.2.2.2.1.1 ∧ q.2.2.2.2.2.1.1 < 4294967296)
theorem cQ_ok {q : D_api_Query} (h : Qin q) : Qok (cQ q) := by
  have h1 := shB_size q.2.1
  have h2 := shB_size q.2.2.1
  have h3 := shB_size q.2.2.2.1
  have h4 := cK_ok q.2.2.2.2.2.2
  refine ⟨?_, ?_, ?_, h.1, h.2, ?_, ?_⟩
  · show (shB q.2.1).size ≤ 1000; omega
  · show (shB q.2.2.1).size ≤ 1000; omega
  · show (shB q.2.2.2.1).size ≤ 1000; omega
  · show -9223372036854775807 ≤ cK _; omega
  · show cK _ ≤ 9223372036854775807; omega
theorem canonQueries_plain (l : List D_api_Query) (hl : l.length ≤ 9223372036854775807) (h : ∀ q ∈ l, Qin q) : m_triviumlaw22_CanonQueries l = some true := by
  obtain ⟨n, hn⟩ : ∃ n, n = min l.length 8 := ⟨_, rfl⟩
  have hC : ∀ i, ∀ q ∈ (l.take i).map cQ, Qok q := fun i q hq => by
    obtain ⟨y, hy, rfl⟩ := List.mem_map.1 hq
    exact cQ_ok (h y (List.mem_of_mem_take hy))
  have main : ∀ (k i : Nat), i + k = n → lp (m_triviumlaw22_CanonQueries_l1 l) ((i : Int), (l.take i).map cQ) = some true := by
    intro k
    induction k with
    | zero =>
      intro i hi
      have e1 : (if decide ((i : Int) < (l.length : Int)) = true then some (decide ((i : Int) < 8)) else some false) = some false := by
        by_cases hc : i < l.length
        · rw [if_pos (decide_eq_true (by omega)), decide_eq_false (by omega)]
        · rw [if_neg (by simp; omega)]
      have e2 := Queries_eq ((l.take i).map cQ) (by simp; omega) (hC i)
      have e3 := refQueries_eq ((l.take i).map cQ) (by simp; omega) (hC i)
      refine lp_done ?_
      simp only [m_triviumlaw22_CanonQueries_l1, e1, bd_some, Bool.false_eq_true, if_false, e2, e3, sq_self, if_true, works22]
    | succ k ih =>
      intro i hi
      have hlt : i < l.length := by omega
      have e1 : (if decide ((i : Int) < (l.length : Int)) = true then some (decide ((i : Int) < 8)) else some false) = some true := by
        rw [if_pos (decide_eq_true (by omega)), decide_eq_true (by omega)]
      have hx : l[i]? = some l[i] := List.getElem?_eq_getElem hlt
      have hq := cQ_ok (h l[i] (List.getElem_mem _))
      have e2 : rd l (i : Int) = some l[i] := by rw [rd_nat]; exact hx
      have hlen : ((l.take i).map cQ).length = i := by rw [List.length_map, List.length_take]; omega
      have e3 : ap 88 ((l.take i).map cQ) [cQ l[i]] = some ((l.take i).map cQ ++ [cQ l[i]]) := ap_of (by rw [hlen]; simp; omega)
      have e4 : rd ((l.take i).map cQ ++ [cQ l[i]]) (i : Int) = some (cQ l[i]) := by
        rw [rd_nat, List.getElem?_append_right (by omega), hlen, Nat.sub_self]
        rfl
      have e5 := qL_eq hq
      have e6 := qL_ref hq
      have e7 : wi64 ((i : Int) + 1) = (i : Int) + 1 := wi64_eq (by omega) (by omega)
      have hs : m_triviumlaw22_CanonQueries_l1 l ((i : Int), (l.take i).map cQ) = some (.inl ((i : Int) + 1, (l.take (i + 1)).map cQ)) := by
        rw [List.take_add_one, hx, List.map_append]
        simp only [m_triviumlaw22_CanonQueries_l1, e1, bd_some, if_true, e2, cleanQuery_eq, e3, e4, e5, e6, sq_self, Bool.not_true, Bool.false_eq_true, if_false, e7]
        rfl
      rw [lp_more hs]
      have := ih (i + 1) (by omega)
      simpa using this
  have := main n 0 (by omega)
  unfold m_triviumlaw22_CanonQueries
  simpa using this
end Go.Proofs.YthpadfhhadcghaaDoor.AP
/- CanonQueries: the plain law, of all that may be handed in. -/
namespace Go.Proofs.YthpadfhhadcghaaDoor.Pure
open Go Go.Proofs.YthpadfhhadcghaaDoor.AP Go.Proofs.YthpadfhhadcghaaDoor.AE
theorem rng {k : IntKind} {n : Int} (h : (Lit.int k n).wf = true) : k.min ≤ n ∧ n ≤ k.max := by
  have h : (decide (k.min ≤ n) && decide (n ≤ k.max)) = true := h
  rw [Bool.and_eq_true, decide_eq_true_eq, decide_eq_true_eq] at h
  exact h
theorem rng32 {n : Int} (h : (Lit.int .u32 n).wf = true) : 0 ≤ n ∧ n < 4294967296 := ⟨(rng h).1, Int.lt_add_one_of_le (rng h).2⟩
theorem CanonQueries (y0 : List D_api_Query) (h0 : Ty.ok (.sl Y_api_Query) y0) : m_triviumlaw22_CanonQueries y0 = some true :=
  canonQueries_plain y0 h0.1 fun q hq => by
    obtain ⟨i, hi⟩ := List.getElem?_of_mem hq
    have h := h0.2 i q hi
    exact ⟨rng32 h.2.2.2.2.1, rng32 h.2.2.2.2.2.1.1⟩
end Go.Proofs.YthpadfhhadcghaaDoor.Pure
/- The law CanonQueries holds of every input: the row, and its card. -/
namespace Go.Proofs.YthpadfhhadcghaaDoor.canonQueries
open Go.ChangeShapes Go.WideShapes Go.ChangeAt Go.RowKit
set_option linter.unusedVariables false
theorem own : ownKnob Tryd.prog.godebug = none := by kernel_rfl
theorem laidOut : laidOutB Tryd.prog = true := by kernel_rfl
theorem gTab : Tryd.prog.globalNamed "internal/strconv.uint64pow10" = some 0 := by kernel_rfl
theorem gTabType : (Tryd.prog.globals[0]?).map (·.type) = some 157 := by kernel_rfl
theorem cellsA : Tryd.prog.cellsOf 157 = 20 := by kernel_rfl
theorem cellsE : Tryd.prog.cellsOf 94 = 1 := by kernel_rfl
theorem table {W : World} (h : laidMet Tryd.prog Rows.canonQueriesRow.laid W) : AE.Glo W :=
  Lib.tabIs_of_head (rest := _) gTab gTabType Tryd.underlying157 Tryd.underlying94 cellsE cellsA (laidMet.tail (laidMet.tail h))
set_option maxRecDepth 100000 in
theorem lifted (os : Os) (started : os.Started) (H : Type) (enc : TypeId × Value → H) :
    ReturnsInHanded {} Tryd.checked os 3 .any (fun w args => (Rows.canonQueriesSpec.pre enc Tryd.prog Tryd.f3 [] false w args ∧ laidMetH Tryd.prog Rows.canonQueriesRow.laid w) ∧ sizedMet enc Tryd.prog Tryd.f3 (OpenSpec.ofChange Rows.canonQueriesSpec) false w args)
      (Rows.canonQueriesSpec.post enc Tryd.prog Tryd.f3 false true false false) := by
  refine returnsInHanded_of_change_and (C := Tryd.checked) (X := fun w _ => laidMetH Tryd.prog Rows.canonQueriesRow.laid w) (fun _ _ _ hh h => h.of_heap hh) own started (by kernel_rfl) Tryd.func3
    (ChangeSpec.witness_shaped (enc := enc) (C := Tryd.checked) (os := os) (X := fun w _ => laidMetH Tryd.prog Rows.canonQueriesRow.laid w) false (World.laidAll Tryd.prog os Rows.canonQueriesRow.laid) #[.slice none 0 0] 8 (World.laidAll_os _ _ _)
      (World.shaped_of_ZipB (by kernel_rfl) (by kernel_rfl)) (by kernel_rfl) (by kernel_rfl) (by kernel_rfl)
      (by rw [MakeChecks.laidMetH_plain _ _ _ (by kernel_rfl)]; exact laidMet_laidAll _ (by kernel_rfl) (by kernel_rfl))) ?_
  intro W base args ds gs before hval0 hW _ hsz0 hL0 _
  have hL : laidMet Tryd.prog Rows.canonQueriesRow.laid W := by rw [MakeChecks.laidMetH_plain _ _ _ (by kernel_rfl)] at hL0; exact hL0
  clear hsz0
  have hval : ∀ (j : Nat) t v, Tryd.f3.params[j]? = some t → args[j]? = some v → Value.okWide Tryd.prog W .any base t v := hval0
  have hW' := hW
  obtain ⟨p, q, hA0, hV, rfl, hfz, hnd⟩ := hW
  have hA : DataW.TrodAll enc Tryd.prog W 0 (fun _ => true) true Tryd.f3.params.toList args.toList ds p := hA0
  rw [Tryd.params3] at hA hval
  obtain ⟨v0, vs0, d0, ds0, p0, q0, hargs, rfl, rfl, h0, r0⟩ := trodAll_cons hA
  obtain ⟨rfl, rfl, rfl⟩ := trodAll_nil r0
  obtain rfl : args = #[v0] := by cases args; simp_all
  obtain ⟨rfl, rfl⟩ := trodVars_none hV
  have lt0 : ∀ x ∈ p0, x.block < W.heap.size := by obtain ⟨m, hm⟩ := h0; exact DataW.trod_lt m _ _ _ hm
  obtain ⟨a0, o0, e0⟩ := AE.open_v (t := (.sl AE.Y_api_Query)) ⟨40, by kernel_rfl⟩ (hval 0 22 v0 rfl rfl) h0
  clear hA0 hval0
  have h := Pure.CanonQueries a0 o0
  have C := AE.law_calls (table hL) (AE.k_triviumlaw22_CanonQueries h) (W := W) (args := [v0]) ⟨v0, [], rfl, e0, rfl⟩
  refine C.mono fun e W' ⟨he, bel⟩ => ?_
  subst he
  exact ⟨_, rfl, _, _, _, [], _, [], hW', trodAll_mk1 (shut_bool Tryd.underlying4 _), (trodAll_cons_mk (Below.trod laidOut (by kernel_rfl) (of_decide_eq_true (by kernel_rfl)) h0 bel lt0) trodAll_mk0), rfl, bel.frame _, fun h => by cases h⟩
theorem over : Rows.canonQueriesRow.holds Tryd.pinned (OpenSpec.ofChange Rows.canonQueriesSpec) :=
  OpenClaim.holds_of_wide 3 Tryd.f3 rfl rfl rfl rfl rfl rfl rfl ⟨rfl, rfl, rfl, rfl, rfl⟩ rfl rfl rfl rfl rfl (by kernel_rfl) Tryd.func3 (by kernel_rfl)
    (of_decide_eq_true (by kernel_rfl)) (by unfold Func.isWrapper; first | (rw [if_pos (by decide +kernel)]; kernel_rfl) | (rw [if_neg (by decide +kernel)]; exact ⟨rfl, rfl⟩))
    (fun os started H enc _ => lifted os started H enc)
theorem proved : Rows.CanonQueriesSaid := over
theorem plain (f : FuncId) (fn : Func) (hf : Tryd.pinned.checked.prog.funcNamed "trivium/triviumlaw22.CanonQueries" = some f) (hfn : Tryd.pinned.checked.prog.funcs[f]? = some fn) :
    false = Tryd.pinned.checked.prog.looks [] ∧ ∀ (j : Nat) t, fn.params[j]? = some t → Tryd.pinned.checked.prog.wantsStandIn t = false := by
  obtain rfl : f = 3 := Option.some.inj ((show Tryd.prog.funcNamed "trivium/triviumlaw22.CanonQueries" = some 3 by kernel_rfl).symm.trans hf) |>.symm
  obtain rfl : fn = Tryd.f3 := (Option.some.inj (Tryd.func3.symm.trans hfn)).symm
  exact ⟨by kernel_rfl, fun j t ht => by
    rw [Tryd.params3] at ht
    have hm : t ∈ [22] := by simpa using Array.mem_of_getElem? ht
    have hall : ([22].all fun u => !Tryd.prog.wantsStandIn u) = true := by kernel_rfl
    exact (show Tryd.prog.wantsStandIn t = false by simpa using List.all_eq_true.1 hall t hm)⟩
theorem card : Rows.CanonQueriesCardSaid :=
  Claim7.holds_tied_plain_at .later [] _ _ _ _ proved (fun _ h => by cases h) (by kernel_rfl) (fun _ h => by cases h) canonQueries_row_tie rfl ⟨rfl, rfl⟩ (by kernel_rfl) rfl plain (by kernel_rfl)
#print axioms card
end Go.Proofs.YthpadfhhadcghaaDoor.canonQueries
namespace Go.Proofs.YthpadfhhadcghaaDoor
/-- The statement, under a short name, for the claim. -/
theorem canonQueries_holds : Rows.CanonQueriesCardSaid := canonQueries.card
end Go.Proofs.YthpadfhhadcghaaDoor
