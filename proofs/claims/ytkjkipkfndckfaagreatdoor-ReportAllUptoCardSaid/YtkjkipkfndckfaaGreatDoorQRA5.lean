/- Bits of a limb, shifts, and Knuth's division. -/
import Derived.Test.YtkjkipkfndckfaaGreatDoorQRA4
import Derived.Test.YtkjkipkfndckfaaGreatDoorQRA1
import Derived.WalkKit
import Derived.ProofKit
import Derived.OpenShut
import Derived.ShutString
import Derived.ChangeOld
import Derived.Lib.SmallJoins
import Derived.Lay
import Derived.Test.YtkjkipkfndckfaaGreatDoorQRA2
import Derived.Test.YtkjkipkfndckfaaGreatDoorQRA3
import Derived.Laws.BitsAllLaws
/- The code comes to the printed functions (printed by a program of ours). -/
namespace Go.Proofs.YtkjkipkfndckfaaGreatDoor.AE
open Go Go.RowKit Go.Proofs.YtkjkipkfndckfaaGreatDoor.AP
set_option linter.unusedVariables false
set_option maxRecDepth 20000
theorem en128 : Enters Tryz.prog 128 := ⟨_, Tryz.func128, rfl, rfl⟩
set_option maxHeartbeats 1000000 in
theorem k_divide_guess {p0 : (List Int)} {p1 : Int} {p2 : (List Int)} {y : Int} (h : m_divide_guess p0 p1 p2 = some y) : Spec Tryz.prog 128 [(.v (.sl (.int .u64)) p0), (.v (.int .i64) p1), (.v (.sl (.int .u64)) p2)] (.v (.int .u64) y) [] := by
  rw [m_divide_guess] at h
  refine enterN [(.v (.sl (.int .u64)) p0), (.v (.int .i64) p1), (.v (.sl (.int .u64)) p2)] 76 Tryz.func128 rfl rfl rfl ?_
  refine T.seq ?_
  refine T.region ?_
  refine Run.go (Ev.assign rfl rfl) ?_
  refine Run.nil ?_
  refine T.seq ?_
  refine T.region ?_
  refine Run.go (Ev.move rfl rfl) ?_
  refine Run.go (Ev.len X rfl rfl rfl rfl) ?_
  refine Run.go (Ev.assign rfl rfl) ?_
  refine Run.nil ?_
  refine T.seq ?_
  refine T.drawM [] [0, 0, 0, 6, 15, 31, 63, 0, 0, 0, 768, 1792, 3968, 8064, 16383, 32767] (by kernel_rfl) (by kernel_rfl) ?_
  refine RunD.w (fun _ => Ev.move rfl rfl) ?_
  refine RunD.w (fun _ => Ev.move rfl rfl) ?_
  refine RunD.w (fun _ => Ev.move rfl rfl) ?_
  refine RunD.w (fun _ => Ev.int rfl rfl rfl rfl trivial) ?_
  obtain ⟨x1, e2, h⟩ := bdS h
  refine RunD.a rfl rfl (Ev.e_rd X e2 rfl rfl rfl rfl) ?_
  refine RunD.a rfl rfl (Ev.load X rfl rfl rfl) ?_
  obtain ⟨x3, e4, h⟩ := bdS h
  refine RunD.w (fun _ => Ev.e_sh e4 rfl rfl rfl) ?_
  refine RunD.w (fun _ => Ev.move rfl rfl) ?_
  refine RunD.w (fun _ => Ev.move rfl rfl) ?_
  refine RunD.w (fun _ => Ev.move rfl rfl) ?_
  refine RunD.w (fun _ => Ev.int rfl rfl rfl rfl trivial) ?_
  refine RunD.w (fun _ => Ev.int rfl rfl rfl rfl trivial) ?_
  obtain ⟨x5, e6, h⟩ := bdS h
  refine RunD.a rfl rfl (Ev.e_rd X e6 rfl rfl rfl rfl) ?_
  refine RunD.a rfl rfl (Ev.load X rfl rfl rfl) ?_
  refine RunD.w (fun _ => Ev.int rfl rfl rfl rfl trivial) ?_
  refine RunD.w (fun _ => Ev.assign rfl rfl) ?_
  refine RunD.nil ?_
  refine T.seq ?_
  refine T.drawM [] [0, 0, 0, 4, 14, 30, 63, 0, 0, 0, 512, 1792, 3840, 8064, 127, 32767] (by kernel_rfl) (by kernel_rfl) ?_
  refine RunD.w (fun _ => Ev.move rfl rfl) ?_
  refine RunD.w (fun _ => Ev.move rfl rfl) ?_
  refine RunD.w (fun _ => Ev.move rfl rfl) ?_
  refine RunD.w (fun _ => Ev.int rfl rfl rfl rfl trivial) ?_
  obtain ⟨x7, e8, h⟩ := bdS h
  refine RunD.a rfl rfl (Ev.e_rd X e8 rfl rfl rfl rfl) ?_
  refine RunD.a rfl rfl (Ev.load X rfl rfl rfl) ?_
  obtain ⟨x9, e10, h⟩ := bdS h
  refine RunD.w (fun _ => Ev.e_qd e10 rfl rfl rfl) ?_
  refine RunD.w (fun _ => Ev.move rfl rfl) ?_
  refine RunD.w (fun _ => Ev.move rfl rfl) ?_
  refine RunD.w (fun _ => Ev.move rfl rfl) ?_
  refine RunD.w (fun _ => Ev.int rfl rfl rfl rfl trivial) ?_
  obtain ⟨x11, e12, h⟩ := bdS h
  refine RunD.a rfl rfl (Ev.e_rd X e12 rfl rfl rfl rfl) ?_
  refine RunD.a rfl rfl (Ev.load X rfl rfl rfl) ?_
  obtain ⟨x13, e14, h⟩ := bdS h
  refine RunD.w (fun _ => Ev.e_rm e14 rfl rfl rfl) ?_
  refine RunD.w (fun _ => Ev.assign rfl rfl) ?_
  refine RunD.w (fun _ => Ev.assign rfl rfl) ?_
  refine RunD.nil ?_
  obtain ⟨v15, hv, h⟩ := bdS h
  refine T.cut (fun _ : Unit => (⟨[(9, .v (.int .u64) v15)], [], 76⟩ : St)) (fun _ => True) ?_ (fun _ _ => ?_)
  · replace h := hv
    clear hv
    refine T.block ?_
    refine T.loop (LoopT.ghost (Ghost.only [] [0, 1, 2, 7, 9, 10] rfl) (LoopT.run (fun q : Int × Int => (⟨[(0, .v (.sl (.int .u64)) p0), (1, .v (.int .i64) p1), (2, .v (.sl (.int .u64)) p2), (7, .v (.int .i64) ((p2.length : Int) : Int)), (9, .v (.int .u64) q.1), (10, .v (.int .u64) q.2)], [], 76⟩ : St)) (fun q z1 h hz1 => ?_) h))
    obtain ⟨v16, v17⟩ := q
    dsimp only
    rw [m_divide_guess_l1] at h
    refine T.seq ?_
    obtain ⟨v18, hv, h⟩ := bdS h
    refine T.cut (fun _ : Unit => (⟨[(0, .v (.sl (.int .u64)) p0), (1, .v (.int .i64) p1), (2, .v (.sl (.int .u64)) p2), (7, .v (.int .i64) ((p2.length : Int) : Int)), (9, .v (.int .u64) v16), (10, .v (.int .u64) v17), (63, .v .bool v18)], [], 76⟩ : St)) (fun _ => True) ?_ (fun _ _ => ?_)
    · replace h := hv
      clear hv
      refine T.drawM [] [0, 1, 3, 7, 7, 7, 39, 119, 247, 511, 7, 1031, 7, 7, 7, 24583, 57351, 126983, 258055, 523271, 1048575, 2097151] (by kernel_rfl) (by kernel_rfl) ?_
      refine RunD.w (fun _ => Ev.move rfl rfl) ?_
      refine RunD.w (fun _ => Ev.int rfl rfl rfl rfl trivial) ?_
      refine RunD.w (fun _ => Ev.move rfl rfl) ?_
      rcases boolCases (decide (4294967296 ≤ v16)) with hb19 | hb19
      · replace h := ifT hb19 h
        refine RunD.offT rfl rfl rfl rfl hb19 ?_
        refine RunD.offT rfl rfl rfl rfl hb19 ?_
        refine RunD.offT rfl rfl rfl rfl hb19 ?_
        refine RunD.offT rfl rfl rfl rfl hb19 ?_
        refine RunD.offT rfl rfl rfl rfl hb19 ?_
        refine RunD.offT rfl rfl rfl rfl hb19 ?_
        refine RunD.offT rfl rfl rfl rfl hb19 ?_
        refine RunD.offT rfl rfl rfl rfl hb19 ?_
        refine RunD.offT rfl rfl rfl rfl hb19 ?_
        refine RunD.offT rfl rfl rfl rfl hb19 ?_
        refine RunD.offT rfl rfl rfl rfl hb19 ?_
        refine RunD.offT rfl rfl rfl rfl hb19 ?_
        refine RunD.offT rfl rfl rfl rfl hb19 ?_
        refine RunD.offT rfl rfl rfl rfl hb19 ?_
        refine RunD.offT rfl rfl rfl rfl hb19 ?_
        refine RunD.offT rfl rfl rfl rfl hb19 ?_
        refine RunD.offT rfl rfl rfl rfl hb19 ?_
        refine RunD.offT rfl rfl rfl rfl hb19 ?_
        refine RunD.w (fun _ => Ev.pickT rfl hb19 rfl rfl) ?_
        refine RunD.nil ?_
        cases h
        exact ⟨(), trivial, Ghost.only [] [0, 1, 2, 7, 9, 10, 63] rfl⟩
      · replace h := ifF hb19 h
        refine RunD.on rfl rfl rfl hb19 rfl (fun _ _ => Ev.move rfl rfl) ?_
        refine RunD.on rfl rfl rfl hb19 rfl (fun _ _ => Ev.move rfl rfl) ?_
        refine RunD.on rfl rfl rfl hb19 rfl (fun _ _ => Ev.move rfl rfl) ?_
        refine RunD.on rfl rfl rfl hb19 rfl (fun _ _ => Ev.int rfl rfl rfl rfl trivial) ?_
        obtain ⟨x20, e21, h⟩ := bdS h
        refine RunD.on rfl rfl rfl hb19 rfl (fun ô hô => by obtain rfl := hô.resolve_left (by decide); exact Ev.e_rd X e21 rfl rfl rfl rfl) ?_
        refine RunD.on rfl rfl rfl hb19 rfl (fun ô hô => by obtain rfl := hô.resolve_left (by decide); exact Ev.load X rfl rfl rfl) ?_
        refine RunD.on rfl rfl rfl hb19 rfl (fun _ _ => Ev.int rfl rfl rfl rfl trivial) ?_
        refine RunD.on rfl rfl rfl hb19 rfl (fun _ _ => Ev.move rfl rfl) ?_
        obtain ⟨x22, e23, h⟩ := bdS h
        refine RunD.on rfl rfl rfl hb19 rfl (fun _ _ => Ev.e_sh e23 rfl rfl rfl) ?_
        refine RunD.on rfl rfl rfl hb19 rfl (fun _ _ => Ev.move rfl rfl) ?_
        refine RunD.on rfl rfl rfl hb19 rfl (fun _ _ => Ev.move rfl rfl) ?_
        refine RunD.on rfl rfl rfl hb19 rfl (fun _ _ => Ev.move rfl rfl) ?_
        refine RunD.on rfl rfl rfl hb19 rfl (fun _ _ => Ev.int rfl rfl rfl rfl trivial) ?_
        refine RunD.on rfl rfl rfl hb19 rfl (fun _ _ => Ev.int rfl rfl rfl rfl trivial) ?_
        obtain ⟨x24, e25, h⟩ := bdS h
        refine RunD.on rfl rfl rfl hb19 rfl (fun ô hô => by obtain rfl := hô.resolve_left (by decide); exact Ev.e_rd X e25 rfl rfl rfl rfl) ?_
        refine RunD.on rfl rfl rfl hb19 rfl (fun ô hô => by obtain rfl := hô.resolve_left (by decide); exact Ev.load X rfl rfl rfl) ?_
        refine RunD.on rfl rfl rfl hb19 rfl (fun _ _ => Ev.int rfl rfl rfl rfl trivial) ?_
        refine RunD.on rfl rfl rfl hb19 rfl (fun _ _ => Ev.int rfl rfl rfl rfl trivial) ?_
        refine RunD.w (fun _ => Ev.pickF rfl hb19 rfl rfl) ?_
        refine RunD.nil ?_
        cases h
        exact ⟨(), trivial, Ghost.only [] [0, 1, 2, 7, 9, 10, 63] rfl⟩
    · refine T.cond rfl (fun hb26 => ?_) (fun hb26 => ?_)
      · replace h := ifT hb26 h
        refine T.skip ?_
        refine T.block ?_
        refine T.seq ?_
        refine T.region ?_
        refine Run.go (Ev.move rfl rfl) ?_
        refine Run.go (Ev.int rfl rfl rfl rfl trivial) ?_
        refine Run.go (Ev.assign rfl rfl) ?_
        refine Run.nil ?_
        refine T.seq ?_
        refine T.region ?_
        refine Run.go (Ev.move rfl rfl) ?_
        refine Run.go (Ev.move rfl rfl) ?_
        refine Run.go (Ev.move rfl rfl) ?_
        refine Run.go (Ev.int rfl rfl rfl rfl trivial) ?_
        obtain ⟨x27, e28, h⟩ := bdS h
        refine Run.go (Ev.e_rd X e28 rfl rfl rfl rfl) ?_
        refine Run.go (Ev.load X rfl rfl rfl) ?_
        refine Run.go (Ev.int rfl rfl rfl rfl trivial) ?_
        refine Run.go (Ev.assign rfl rfl) ?_
        refine Run.nil ?_
        refine T.seq ?_
        refine T.region ?_
        refine Run.go (Ev.move rfl rfl) ?_
        refine Run.go (Ev.int rfl rfl rfl rfl trivial) ?_
        refine Run.nil ?_
        refine T.cond rfl (fun hb29 => ?_) (fun hb29 => ?_)
        · replace h := ifT hb29 h
          refine T.exit ?_
          cases h
          cases hz1
          exact ⟨(), trivial, Ghost.only [] [9] rfl⟩
        · replace h := ifF hb29 h
          refine T.skip ?_
          cases h
          exact LoopT.ghost (Ghost.only [] [0, 1, 2, 7, 9, 10] rfl) hz1
      · replace h := ifF hb26 h
        refine T.exit ?_
        cases h
        cases hz1
        exact ⟨(), trivial, Ghost.only [] [9] rfl⟩
  · refine T.seq ?_
    refine T.region ?_
    refine Run.go (Ev.move rfl rfl) ?_
    refine Run.go (Ev.assign rfl rfl) ?_
    refine Run.nil ?_
    refine T.ret ?_
    cases h
    exact Fin.one rfl .v
theorem en136 : Enters Tryz.prog 136 := ⟨_, Tryz.func136, rfl, rfl⟩
theorem k_divide_at {p0 : (List Int)} {p1 : Int} {y : Int} (h : m_divide_at p0 p1 = some y) : Spec Tryz.prog 136 [(.v (.sl (.int .u64)) p0), (.v (.int .i64) p1)] (.v (.int .u64) y) [] := by
  rw [m_divide_at] at h
  refine enterN [(.v (.sl (.int .u64)) p0), (.v (.int .i64) p1)] 13 Tryz.func136 rfl rfl rfl ?_
  refine T.seq ?_
  refine T.region ?_
  refine Run.go (Ev.assign rfl rfl) ?_
  refine Run.nil ?_
  refine T.seq ?_
  refine T.seq ?_
  refine T.region ?_
  refine Run.go (Ev.move rfl rfl) ?_
  refine Run.go (Ev.move rfl rfl) ?_
  refine Run.go (Ev.len X rfl rfl rfl rfl) ?_
  refine Run.go (Ev.int rfl rfl rfl rfl trivial) ?_
  refine Run.nil ?_
  refine T.cond rfl (fun hb1 => ?_) (fun hb1 => ?_)
  · replace h := ifT hb1 h
    refine T.seq ?_
    refine T.region ?_
    refine Run.go (Ev.assign rfl rfl) ?_
    refine Run.nil ?_
    refine T.ret ?_
    cases h
    exact Fin.one rfl .v
  · replace h := ifF hb1 h
    refine T.skip ?_
    refine T.seq ?_
    refine T.region ?_
    refine Run.go (Ev.move rfl rfl) ?_
    refine Run.go (Ev.move rfl rfl) ?_
    obtain ⟨x2, e3, h⟩ := bdS h
    refine Run.go (Ev.e_rd X e3 rfl rfl rfl rfl) ?_
    refine Run.go (Ev.load X rfl rfl rfl) ?_
    refine Run.go (Ev.assign rfl rfl) ?_
    refine Run.nil ?_
    refine T.ret ?_
    cases h
    exact Fin.one rfl .v
theorem en135 : Enters Tryz.prog 135 := ⟨_, Tryz.func135, rfl, rfl⟩
theorem k_limb_Mul {p0 : Int} {p1 : Int} {p2 : Int} {p3 : Int} {y : Int × Int} (h : m_limb_Mul p0 p1 p2 p3 = some y) : Spec Tryz.prog 135 [(.v (.int .u64) p0), (.v (.int .u64) p1), (.v (.int .u64) p2), (.v (.int .u64) p3)] (.tup [.v (.int .u64) y.1, .v (.int .u64) y.2]) [] := by
  rw [m_limb_Mul] at h
  refine enterN [(.v (.int .u64) p0), (.v (.int .u64) p1), (.v (.int .u64) p2), (.v (.int .u64) p3)] 26 Tryz.func135 rfl rfl rfl ?_
  refine T.seq ?_
  refine T.region ?_
  refine Run.go (Ev.assign rfl rfl) ?_
  refine Run.go (Ev.assign rfl rfl) ?_
  refine Run.nil ?_
  refine T.seq ?_
  refine T.region ?_
  refine Run.go (Ev.move rfl rfl) ?_
  refine Run.go (Ev.int rfl rfl rfl rfl trivial) ?_
  refine Run.go (Ev.move rfl rfl) ?_
  refine Run.go (Ev.int rfl rfl rfl rfl trivial) ?_
  refine Run.go (Ev.int rfl rfl rfl rfl trivial) ?_
  refine Run.go (Ev.move rfl rfl) ?_
  refine Run.go (Ev.int rfl rfl rfl rfl trivial) ?_
  refine Run.go (Ev.int rfl rfl rfl rfl trivial) ?_
  refine Run.go (Ev.move rfl rfl) ?_
  refine Run.go (Ev.int rfl rfl rfl rfl trivial) ?_
  refine Run.go (Ev.int rfl rfl rfl rfl trivial) ?_
  obtain ⟨x1, e2, h⟩ := ltS h
  refine Run.go (Ev.avs (Ev.assign rfl rfl) e2) ?_
  refine Run.nil ?_
  refine T.seq ?_
  refine T.region ?_
  refine Run.go (Ev.move rfl rfl) ?_
  refine Run.go (Ev.int rfl rfl rfl rfl trivial) ?_
  refine Run.go (Ev.move rfl rfl) ?_
  obtain ⟨x3, e4, h⟩ := bdS h
  refine Run.go (Ev.e_sr e4 rfl rfl rfl) ?_
  refine Run.go (Ev.assign rfl rfl) ?_
  refine Run.go (Ev.assign rfl rfl) ?_
  refine Run.nil ?_
  refine T.ret ?_
  cases h
  exact Fin.many X rfl (.cons (.tmp .v) (.cons (.tmp .v) .nil)) rfl
theorem en137 : Enters Tryz.prog 137 := ⟨_, Tryz.func137, rfl, rfl⟩
theorem k_limb_Sub {p0 : Int} {p1 : Int} {p2 : Int} {y : Int × Int} (h : m_limb_Sub p0 p1 p2 = some y) : Spec Tryz.prog 137 [(.v (.int .u64) p0), (.v (.int .u64) p1), (.v (.int .u64) p2)] (.tup [.v (.int .u64) y.1, .v (.int .u64) y.2]) [] := by
  rw [m_limb_Sub] at h
  refine enterN [(.v (.int .u64) p0), (.v (.int .u64) p1), (.v (.int .u64) p2)] 33 Tryz.func137 rfl rfl rfl ?_
  refine T.seq ?_
  refine T.region ?_
  refine Run.go (Ev.assign rfl rfl) ?_
  refine Run.go (Ev.assign rfl rfl) ?_
  refine Run.nil ?_
  refine T.seq ?_
  refine T.region ?_
  refine Run.go (Ev.move rfl rfl) ?_
  refine Run.go (Ev.int rfl rfl rfl rfl trivial) ?_
  refine Run.go (Ev.move rfl rfl) ?_
  refine Run.go (Ev.int rfl rfl rfl rfl trivial) ?_
  refine Run.go (Ev.move rfl rfl) ?_
  refine Run.go (Ev.int rfl rfl rfl rfl trivial) ?_
  refine Run.go (Ev.int rfl rfl rfl rfl trivial) ?_
  refine Run.go (Ev.assign rfl rfl) ?_
  obtain ⟨x1, e2, h⟩ := ltS h
  refine Run.go (Ev.avs (Ev.assign rfl rfl) e2) ?_
  refine Run.nil ?_
  refine T.seq ?_
  refine T.region ?_
  refine Run.go (Ev.assign rfl rfl) ?_
  refine Run.nil ?_
  obtain ⟨v3, hv, h⟩ := bdS h
  refine T.cut (fun _ : Unit => (⟨[(8, .v (.int .u64) (Go.bits .and .u64 p0 4294967295 : Int)), (9, .v (.int .u64) x1), (10, .v (.int .u64) v3)], [], 33⟩ : St)) (fun _ => True) ?_ (fun _ _ => ?_)
  · replace h := hv
    clear hv
    refine T.seq ?_
    refine T.region ?_
    refine Run.go (Ev.move rfl rfl) ?_
    refine Run.go (Ev.move rfl rfl) ?_
    refine Run.go (Ev.int rfl rfl rfl rfl trivial) ?_
    refine Run.nil ?_
    refine T.cond rfl (fun hb4 => ?_) (fun hb4 => ?_)
    · replace h := ifT hb4 h
      refine T.region ?_
      refine Run.go (Ev.move rfl rfl) ?_
      refine Run.go (Ev.move rfl rfl) ?_
      refine Run.go (Ev.int rfl rfl rfl rfl trivial) ?_
      refine Run.go (Ev.int rfl rfl rfl rfl trivial) ?_
      obtain ⟨x5, e6, h⟩ := bdS h
      refine Run.go (Ev.e_sr e6 rfl rfl rfl) ?_
      refine Run.go (Ev.assign rfl rfl) ?_
      refine Run.nil ?_
      cases h
      exact ⟨(), trivial, Ghost.only [] [8, 9, 10] rfl⟩
    · replace h := ifF hb4 h
      refine T.skip ?_
      cases h
      exact ⟨(), trivial, Ghost.only [] [8, 9, 10] rfl⟩
  · refine T.seq ?_
    refine T.region ?_
    refine Run.go (Ev.move rfl rfl) ?_
    refine Run.go (Ev.move rfl rfl) ?_
    obtain ⟨x7, e8, h⟩ := bdS h
    refine Run.go (Ev.e_sh e8 rfl rfl rfl) ?_
    refine Run.go (Ev.int rfl rfl rfl rfl trivial) ?_
    refine Run.go (Ev.move rfl rfl) ?_
    refine Run.go (Ev.int rfl rfl rfl rfl trivial) ?_
    refine Run.go (Ev.move rfl rfl) ?_
    obtain ⟨x9, e10, h⟩ := ltS h
    refine Run.go (Ev.avs (Ev.assign rfl rfl) e10) ?_
    refine Run.go (Ev.assign rfl rfl) ?_
    refine Run.nil ?_
    refine T.ret ?_
    cases h
    exact Fin.many X rfl (.cons (.tmp .v) (.cons (.tmp .v) .nil)) rfl
theorem k_divide_take_M {p1 : Int} {p2 : (List Int)} {p3 : Int} {o1 : (List Int)} {y : Bool × (List Int)} (h : m_divide_take_M p1 p2 p3 o1 = some y) : SpecM Tryz.prog 129 [(.own 1), (.v (.int .i64) p1), (.v (.sl (.int .u64)) p2), (.v (.int .u64) p3)] [(1, .arr 104 (.int .u64) o1)] (.v .bool y.1) [(1, .arr 104 (.int .u64) y.2)] := by
  rw [m_divide_take_M] at h
  refine SpecM.enter 100000 [(.own 1), (.v (.int .i64) p1), (.v (.sl (.int .u64)) p2), (.v (.int .u64) p3)] 48 Tryz.func129 rfl rfl rfl rfl (fun L => ?_)
  refine T.seq ?_
  refine T.region ?_
  refine Run.go (Ev.assign rfl rfl) ?_
  refine Run.nil ?_
  refine T.seq ?_
  refine T.region ?_
  refine Run.go (Ev.assign rfl rfl) ?_
  refine Run.go (Ev.assign rfl rfl) ?_
  refine Run.nil ?_
  obtain ⟨⟨v1, v2⟩, hv, h⟩ := bdS h
  refine T.cut (fun _ : Unit => (⟨[(10, .v (.int .u64) v1)], [(1, .arr 104 (.int .u64) v2), (100001, .place 1 (L 1).1 (L 1).2)], 48⟩ : St)) (fun _ => True) ?_ (fun _ _ => ?_)
  · replace h := hv
    clear hv
    refine T.seq ?_
    refine T.region ?_
    refine Run.go (Ev.move rfl rfl) ?_
    refine Run.go (Ev.len X rfl rfl rfl rfl) ?_
    refine Run.go (Ev.int rfl rfl rfl rfl trivial) ?_
    refine Run.go (Ev.move rfl rfl) ?_
    refine Run.nil ?_
    refine T.block ?_
    refine T.loop (LoopT.ghost (Ghost.only [(1, 1), (100001, 100001)] [0, 1, 2, 3, 9, 10, 15, 16] rfl) (LoopT.run (fun q : Int × Int × Int × (List Int) => (⟨[(0, .own 1), (1, .v (.int .i64) p1), (2, .v (.sl (.int .u64)) p2), (3, .v (.int .u64) p3), (9, .v (.int .u64) q.1), (10, .v (.int .u64) q.2.1), (15, .v (.int .i64) (wi64 ((p2.length : Int) + 1) : Int)), (16, .v (.int .i64) q.2.2.1)], [(1, .arr 104 (.int .u64) q.2.2.2), (100001, .place 1 (L 1).1 (L 1).2)], 48⟩ : St)) (fun q z1 h hz1 => ?_) h))
    obtain ⟨v3, v4, v5, v6⟩ := q
    dsimp only
    rw [m_divide_take_M_l1] at h
    refine T.seq ?_
    refine T.region ?_
    refine Run.go (Ev.int rfl rfl rfl rfl trivial) ?_
    refine Run.nil ?_
    refine T.seq ?_
    refine T.cond rfl (fun hb7 => ?_) (fun hb7 => ?_)
    · replace h := ifT hb7 h
      refine T.skip ?_
      refine T.seq ?_
      refine T.block ?_
      refine T.seq ?_
      refine T.region ?_
      refine Run.go (Ev.move rfl rfl) ?_
      refine Run.go (Ev.assign rfl rfl) ?_
      refine Run.nil ?_
      refine T.seq ?_
      refine T.region ?_
      refine Run.go (Ev.assign rfl rfl) ?_
      refine Run.nil ?_
      refine T.seq ?_
      refine T.region ?_
      refine Run.go (Ev.move rfl rfl) ?_
      refine Run.go (Ev.move rfl rfl) ?_
      refine Run.go (Ev.move rfl rfl) ?_
      obtain ⟨x8, e9, h⟩ := bdS h
      refine Run.go (Ev.callC en136 (k_divide_at e9) rfl (.cons .v (.cons .v .nil)) rfl rfl) ?_
      refine Run.go (Ev.move rfl rfl) ?_
      obtain ⟨x10, e11, h⟩ := bdS h
      refine Run.go (Ev.callC en135 (k_limb_Mul e11) rfl (.cons .v (.cons .v (.cons .v (.cons .v .nil)))) rfl rfl) ?_
      refine Run.go (Ev.move rfl rfl) ?_
      refine Run.go (Ev.extract rfl rfl rfl) ?_
      refine Run.go (Ev.extract rfl rfl rfl) ?_
      refine Run.go (Ev.assign rfl rfl) ?_
      refine Run.go (Ev.assign rfl rfl) ?_
      refine Run.nil ?_
      refine T.region ?_
      refine Run.go (Ev.move rfl rfl) ?_
      refine Run.go (Ev.move rfl rfl) ?_
      refine Run.go (Ev.move rfl rfl) ?_
      refine Run.go (Ev.int rfl rfl rfl rfl trivial) ?_
      refine Run.go (Ev.move rfl rfl) ?_
      refine Run.go (Ev.move rfl rfl) ?_
      refine Run.go (Ev.move rfl rfl) ?_
      refine Run.go (Ev.int rfl rfl rfl rfl trivial) ?_
      obtain ⟨x12, e13, h⟩ := bdS h
      refine Run.go (Ev.e_rdO X e13 rfl rfl rfl rfl rfl) ?_
      refine Run.go (Ev.e_ldO X (rdS e13).2 rfl rfl rfl rfl) ?_
      refine Run.go (Ev.move rfl rfl) ?_
      refine Run.go (Ev.move rfl rfl) ?_
      obtain ⟨x14, e15, h⟩ := bdS h
      refine Run.go (Ev.callC en137 (k_limb_Sub e15) rfl (.cons .v (.cons .v (.cons .v .nil))) rfl rfl) ?_
      refine Run.go (Ev.move rfl rfl) ?_
      refine Run.go (Ev.extract rfl rfl rfl) ?_
      refine Run.go (Ev.extract rfl rfl rfl) ?_
      obtain ⟨j16, e17, h⟩ := bdS h
      refine Run.go (Ev.e_ixO X e17 rfl rfl rfl rfl rfl) ?_
      obtain ⟨x18, e19, h⟩ := ltS h
      refine Run.do_ (Ev.asO (Ev.storeEl X rfl rfl rfl rfl rfl) e19) ?_
      refine Run.go (Ev.assign rfl rfl) ?_
      refine Run.nil ?_
      refine T.region ?_
      refine Run.go (Ev.int rfl rfl rfl rfl trivial) ?_
      refine Run.go (Ev.move rfl rfl) ?_
      refine Run.nil ?_
      cases h
      exact LoopT.ghost (Ghost.only [(1, 1), (100001, 100001)] [0, 1, 2, 3, 9, 10, 15, 16] rfl) hz1
    · replace h := ifF hb7 h
      refine T.exit ?_
      cases h
      cases hz1
      exact ⟨(), trivial, Ghost.only [(1, 1), (100001, 100001)] [10] rfl⟩
  · refine T.seq ?_
    refine T.region ?_
    refine Run.go (Ev.move rfl rfl) ?_
    refine Run.go (Ev.int rfl rfl rfl rfl trivial) ?_
    refine Run.go (Ev.assign rfl rfl) ?_
    refine Run.nil ?_
    refine T.ret ?_
    obtain ⟨_, eL1, h⟩ := bdS h
    cases h
    exact FinM.of 100000 [(1, 1)] (inlR.one' (X := X) rfl (.tmp rfl)) rfl rfl rfl rfl ⟨(.inl ⟨rfl, _, rfl, .arr (elnS eL1), fun _ => rfl⟩), trivial⟩
theorem k_divide_give_M {p1 : Int} {p2 : (List Int)} {o1 : (List Int)} {y : (List Int)} (h : m_divide_give_M p1 p2 o1 = some y) : SpecM Tryz.prog 130 [(.own 1), (.v (.int .i64) p1), (.v (.sl (.int .u64)) p2)] [(1, .arr 104 (.int .u64) o1)] (.tup []) [(1, .arr 104 (.int .u64) y)] := by
  rw [m_divide_give_M] at h
  refine SpecM.enter 100000 [(.own 1), (.v (.int .i64) p1), (.v (.sl (.int .u64)) p2)] 34 Tryz.func130 rfl rfl rfl rfl (fun L => ?_)
  refine T.seq ?_
  refine T.region ?_
  refine Run.go (Ev.assign rfl rfl) ?_
  refine Run.nil ?_
  refine T.seq ?_
  refine T.region ?_
  refine Run.go (Ev.move rfl rfl) ?_
  refine Run.go (Ev.len X rfl rfl rfl rfl) ?_
  refine Run.go (Ev.int rfl rfl rfl rfl trivial) ?_
  refine Run.go (Ev.move rfl rfl) ?_
  refine Run.nil ?_
  refine T.block ?_
  refine T.loop (LoopT.ghost (Ghost.only [(1, 1), (100001, 100001)] [0, 1, 2, 6, 10, 11] rfl) (LoopT.run (fun q : Int × Int × (List Int) => (⟨[(0, .own 1), (1, .v (.int .i64) p1), (2, .v (.sl (.int .u64)) p2), (6, .v (.int .u64) q.1), (10, .v (.int .i64) (wi64 ((p2.length : Int) + 1) : Int)), (11, .v (.int .i64) q.2.1)], [(1, .arr 104 (.int .u64) q.2.2), (100001, .place 1 (L 1).1 (L 1).2)], 34⟩ : St)) (fun q z1 h hz1 => ?_) h))
  obtain ⟨v1, v2, v3⟩ := q
  dsimp only
  rw [m_divide_give_M_l1] at h
  refine T.seq ?_
  refine T.region ?_
  refine Run.go (Ev.int rfl rfl rfl rfl trivial) ?_
  refine Run.nil ?_
  refine T.seq ?_
  refine T.cond rfl (fun hb4 => ?_) (fun hb4 => ?_)
  · replace h := ifT hb4 h
    refine T.skip ?_
    refine T.seq ?_
    refine T.block ?_
    refine T.seq ?_
    refine T.region ?_
    refine Run.go (Ev.move rfl rfl) ?_
    refine Run.go (Ev.assign rfl rfl) ?_
    refine Run.nil ?_
    refine T.drawM [19] [0, 0, 0, 6, 0, 0, 0, 96, 240, 496, 0, 0, 3072, 0, 16368, 32752, 65520, 65520, 131071, 393215, 1048575] (by kernel_rfl) (by kernel_rfl) ?_
    refine RunD.w (fun _ => Ev.move rfl rfl) ?_
    refine RunD.w (fun _ => Ev.move rfl rfl) ?_
    refine RunD.w (fun _ => Ev.move rfl rfl) ?_
    refine RunD.w (fun _ => Ev.int rfl rfl rfl rfl trivial) ?_
    refine RunD.w (fun _ => Ev.move rfl rfl) ?_
    refine RunD.w (fun _ => Ev.move rfl rfl) ?_
    refine RunD.w (fun _ => Ev.move rfl rfl) ?_
    refine RunD.w (fun _ => Ev.int rfl rfl rfl rfl trivial) ?_
    obtain ⟨x5, e6, h⟩ := bdS h
    refine RunD.a rfl rfl (Ev.e_rdO X e6 rfl rfl rfl rfl rfl) ?_
    refine RunD.a rfl rfl (Ev.e_ldO X (rdS e6).2 rfl rfl rfl rfl) ?_
    refine RunD.w (fun _ => Ev.move rfl rfl) ?_
    refine RunD.w (fun _ => Ev.move rfl rfl) ?_
    obtain ⟨x7, e8, h⟩ := bdS h
    refine RunD.a rfl rfl (Ev.callC en136 (k_divide_at e8) rfl (.cons .v (.cons .v .nil)) rfl rfl) ?_
    refine RunD.w (fun _ => Ev.move rfl rfl) ?_
    obtain ⟨x9, e10, h⟩ := bdS h
    refine RunD.a rfl rfl (Ev.callC en94 (k_limb_Add e10) rfl (.cons .v (.cons .v (.cons .v .nil))) rfl rfl) ?_
    refine RunD.w (fun _ => Ev.move rfl rfl) ?_
    refine RunD.w (fun _ => Ev.extract rfl rfl rfl) ?_
    refine RunD.w (fun _ => Ev.extract rfl rfl rfl) ?_
    obtain ⟨j11, e12, h⟩ := bdS h
    refine RunD.a rfl rfl (Ev.e_ixO X e12 rfl rfl rfl rfl rfl) ?_
    obtain ⟨x13, e14, h⟩ := ltS h
    refine RunD.mN rfl (Ev.asO (Ev.storeEl X rfl rfl rfl rfl rfl) e14) ?_
    refine RunD.w (fun _ => Ev.assign rfl rfl) ?_
    refine RunD.nil ?_
    refine T.region ?_
    refine Run.go (Ev.int rfl rfl rfl rfl trivial) ?_
    refine Run.go (Ev.move rfl rfl) ?_
    refine Run.nil ?_
    cases h
    exact LoopT.ghost (Ghost.only [(1, 1), (100001, 100001)] [0, 1, 2, 6, 10, 11] rfl) hz1
  · replace h := ifF hb4 h
    refine T.exit ?_
    obtain ⟨_, eL1, h⟩ := bdS h
    cases h
    cases hz1
    exact FinM.of 100000 [(1, 1)] (inlR.many' (X := X) rfl .nil rfl) rfl rfl rfl rfl ⟨(.inl ⟨rfl, _, rfl, .arr (elnS eL1), fun _ => rfl⟩), trivial⟩
theorem en131 : Enters Tryz.prog 131 := ⟨_, Tryz.func131, rfl, rfl⟩
set_option maxHeartbeats 1000000 in
theorem k_nat_Shr {p0 : (List Int)} {p1 : Int} {y : (List Int) × Int} (h : m_nat_Shr p0 p1 = some y) : Spec Tryz.prog 131 [(.v (.sl (.int .u64)) p0), (.v (.int .i64) p1)] (.tup [.v (.sl (.int .u64)) y.1, .v (.int .i64) y.2]) [] := by
  rw [m_nat_Shr] at h
  refine enterN [(.v (.sl (.int .u64)) p0), (.v (.int .i64) p1)] 57 Tryz.func131 rfl rfl rfl ?_
  refine T.seq ?_
  refine T.region ?_
  refine Run.go (Ev.assign rfl rfl) ?_
  refine Run.go (Ev.assign rfl rfl) ?_
  refine Run.nil ?_
  refine T.seq ?_
  refine T.seq ?_
  refine T.region ?_
  refine Run.go (Ev.move rfl rfl) ?_
  obtain ⟨x1, e2, h⟩ := bdS h
  refine Run.go (Ev.callC en134 (k_nat_shift e2) rfl (.cons .v .nil) rfl rfl) ?_
  refine Run.go (Ev.assign rfl rfl) ?_
  refine Run.nil ?_
  obtain ⟨v3, hv, h⟩ := bdS h
  refine T.cut (fun _ : Unit => (⟨[(0, .v (.sl (.int .u64)) p0), (1, .v (.int .i64) p1), (6, .v (.int .i64) x1), (20, .v .bool v3)], [], 57⟩ : St)) (fun _ => True) ?_ (fun _ _ => ?_)
  · replace h := hv
    clear hv
    refine T.region ?_
    refine Run.go (Ev.move rfl rfl) ?_
    refine Run.go (Ev.int rfl rfl rfl rfl trivial) ?_
    refine Run.go (Ev.move rfl rfl) ?_
    rcases boolCases (!decide (x1 = 0)) with hb4 | hb4
    · replace h := ifT hb4 h
      refine Run.offT rfl rfl rfl rfl hb4 ?_
      refine Run.offT rfl rfl rfl rfl hb4 ?_
      refine Run.offT rfl rfl rfl rfl hb4 ?_
      refine Run.offT rfl rfl rfl rfl hb4 ?_
      refine Run.offT rfl rfl rfl rfl hb4 ?_
      refine Run.go (Ev.pickT rfl hb4 rfl rfl) ?_
      refine Run.nil ?_
      cases h
      exact ⟨(), trivial, Ghost.only [] [0, 1, 6, 20] rfl⟩
    · replace h := ifF hb4 h
      refine Run.on rfl rfl rfl hb4 (Ev.move rfl rfl) ?_
      obtain ⟨x5, e6, h⟩ := bdS h
      refine Run.on rfl rfl rfl hb4 (Ev.e_qd e6 rfl rfl rfl) ?_
      refine Run.on rfl rfl rfl hb4 (Ev.move rfl rfl) ?_
      refine Run.on rfl rfl rfl hb4 (Ev.len X rfl rfl rfl rfl) ?_
      refine Run.on rfl rfl rfl hb4 (Ev.int rfl rfl rfl rfl trivial) ?_
      refine Run.go (Ev.pickF rfl hb4 rfl rfl) ?_
      refine Run.nil ?_
      cases h
      exact ⟨(), trivial, Ghost.only [] [0, 1, 6, 20] rfl⟩
  · refine T.cond rfl (fun hb7 => ?_) (fun hb7 => ?_)
    · replace h := ifT hb7 h
      refine T.seq ?_
      refine T.region ?_
      refine Run.go (Ev.move rfl rfl) ?_
      refine Run.go (Ev.assign rfl rfl) ?_
      refine Run.go (Ev.assign rfl rfl) ?_
      refine Run.nil ?_
      refine T.ret ?_
      cases h
      exact Fin.many X rfl (.cons (.tmp .nilv) (.cons (.tmp .v) .nil)) rfl
    · replace h := ifF hb7 h
      refine T.skip ?_
      refine T.seq ?_
      refine T.region ?_
      refine Run.go (Ev.move rfl rfl) ?_
      refine Run.go (Ev.len X rfl rfl rfl rfl) ?_
      refine Run.go (Ev.move rfl rfl) ?_
      obtain ⟨x8, e9, h⟩ := bdS h
      refine Run.go (Ev.e_qd e9 rfl rfl rfl) ?_
      refine Run.go (Ev.int rfl rfl rfl rfl trivial) ?_
      obtain ⟨x10, e11, h⟩ := bdS h
      refine Run.go (Ev.e_mk X 1 e11 rfl rfl rfl rfl rfl rfl) ?_
      refine Run.go (Ev.assign rfl rfl) ?_
      refine Run.nil ?_
      obtain ⟨v12, hv, h⟩ := bdS h
      refine T.cut (fun _ : Unit => (⟨[(7, .own 1)], [(1, .arr 104 (.int .u64) v12)], 57⟩ : St)) (fun _ => True) ?_ (fun _ _ => ?_)
      · replace h := hv
        clear hv
        refine T.seq ?_
        refine T.region ?_
        refine Run.go (Ev.move rfl rfl) ?_
        refine Run.go (Ev.e_lenO X rfl rfl rfl rfl) ?_
        refine Run.go (Ev.move rfl rfl) ?_
        refine Run.nil ?_
        refine T.block ?_
        refine T.loop (LoopT.ghost (Ghost.only [(1, 1)] [0, 1, 7, 29, 30] rfl) (LoopT.run (fun q : Int × (List Int) => (⟨[(0, .v (.sl (.int .u64)) p0), (1, .v (.int .i64) p1), (7, .own 1), (29, .v (.int .i64) ((x10.length : Int) : Int)), (30, .v (.int .i64) q.1)], [(1, .arr 104 (.int .u64) q.2)], 57⟩ : St)) (fun q z1 h hz1 => ?_) h))
        obtain ⟨v13, v14⟩ := q
        dsimp only
        rw [m_nat_Shr_l1] at h
        refine T.seq ?_
        refine T.region ?_
        refine Run.go (Ev.int rfl rfl rfl rfl trivial) ?_
        refine Run.nil ?_
        refine T.seq ?_
        refine T.cond rfl (fun hb15 => ?_) (fun hb15 => ?_)
        · replace h := ifT hb15 h
          refine T.skip ?_
          refine T.seq ?_
          refine T.block ?_
          refine T.seq ?_
          refine T.region ?_
          refine Run.go (Ev.move rfl rfl) ?_
          refine Run.go (Ev.assign rfl rfl) ?_
          refine Run.nil ?_
          refine T.seq ?_
          refine T.region ?_
          refine Run.go (Ev.move rfl rfl) ?_
          refine Run.go (Ev.move rfl rfl) ?_
          obtain ⟨x16, e17, h⟩ := bdS h
          refine Run.go (Ev.e_qd e17 rfl rfl rfl) ?_
          refine Run.go (Ev.int rfl rfl rfl rfl trivial) ?_
          refine Run.go (Ev.assign rfl rfl) ?_
          refine Run.nil ?_
          refine T.drawM [17] [0, 0, 0, 0, 12, 28, 0, 0, 128, 448, 960, 2044, 0, 4096, 16380, 32764, 65535, 131071] (by kernel_rfl) (by kernel_rfl) ?_
          refine RunD.w (fun _ => Ev.move rfl rfl) ?_
          refine RunD.w (fun _ => Ev.move rfl rfl) ?_
          refine RunD.w (fun _ => Ev.move rfl rfl) ?_
          refine RunD.w (fun _ => Ev.move rfl rfl) ?_
          obtain ⟨x18, e19, h⟩ := bdS h
          refine RunD.a rfl rfl (Ev.e_rd X e19 rfl rfl rfl rfl) ?_
          refine RunD.a rfl rfl (Ev.load X rfl rfl rfl) ?_
          refine RunD.w (fun _ => Ev.move rfl rfl) ?_
          refine RunD.w (fun _ => Ev.move rfl rfl) ?_
          refine RunD.w (fun _ => Ev.int rfl rfl rfl rfl trivial) ?_
          obtain ⟨x20, e21, h⟩ := bdS h
          refine RunD.a rfl rfl (Ev.callC en95 (k_nat_at e21) rfl (.cons .v (.cons .v .nil)) rfl rfl) ?_
          obtain ⟨x22, e23, h⟩ := bdS h
          refine RunD.w (fun _ => Ev.e_sh e23 rfl rfl rfl) ?_
          refine RunD.w (fun _ => Ev.int rfl rfl rfl rfl trivial) ?_
          refine RunD.w (fun _ => Ev.move rfl rfl) ?_
          obtain ⟨x24, e25, h⟩ := bdS h
          refine RunD.w (fun _ => Ev.e_rm e25 rfl rfl rfl) ?_
          obtain ⟨x26, e27, h⟩ := bdS h
          refine RunD.w (fun _ => Ev.e_sr e27 rfl rfl rfl) ?_
          obtain ⟨x28, e29, h⟩ := bdS h
          refine RunD.w (fun _ => Ev.e_rm e29 rfl rfl rfl) ?_
          obtain ⟨j30, e31, h⟩ := bdS h
          refine RunD.a rfl rfl (Ev.e_ixO X e31 rfl rfl rfl rfl rfl) ?_
          obtain ⟨x32, e33, h⟩ := ltS h
          refine RunD.mN rfl (Ev.asO (Ev.storeEl X rfl rfl rfl rfl rfl) e33) ?_
          refine RunD.nil ?_
          refine T.region ?_
          refine Run.go (Ev.int rfl rfl rfl rfl trivial) ?_
          refine Run.go (Ev.move rfl rfl) ?_
          refine Run.nil ?_
          cases h
          exact LoopT.ghost (Ghost.only [(1, 1)] [0, 1, 7, 29, 30] rfl) hz1
        · replace h := ifF hb15 h
          refine T.exit ?_
          cases h
          cases hz1
          exact ⟨(), trivial, Ghost.only [(1, 1)] [7] rfl⟩
      · refine T.seq ?_
        refine T.region ?_
        refine Run.go (Ev.move rfl rfl) ?_
        refine Run.ghost (Ghost.firmAll (id := 1) rfl) ?_
        obtain ⟨x34, e35, h⟩ := bdS h
        refine Run.go (Ev.callC en86 (k_nat_trim e35) rfl (.cons .v .nil) rfl rfl) ?_
        refine Run.go (Ev.assign rfl rfl) ?_
        refine Run.go (Ev.assign rfl rfl) ?_
        refine Run.nil ?_
        refine T.ret ?_
        cases h
        exact Fin.many X rfl (.cons (.tmp .v) (.cons (.tmp .v) .nil)) rfl
theorem en120 : Enters Tryz.prog 120 := ⟨_, Tryz.func120, rfl, rfl⟩
set_option maxHeartbeats 1000000 in
theorem k_divide_knuth {p0 : (List Int)} {p1 : (List Int)} {y : (List Int) × (List Int)} (h : m_divide_knuth p0 p1 = some y) : Spec Tryz.prog 120 [(.v (.sl (.int .u64)) p0), (.v (.sl (.int .u64)) p1)] (.tup [.v (.sl (.int .u64)) y.1, .v (.sl (.int .u64)) y.2]) [] := by
  rw [m_divide_knuth] at h
  refine enterN [(.v (.sl (.int .u64)) p0), (.v (.sl (.int .u64)) p1)] 104 Tryz.func120 rfl rfl rfl ?_
  refine T.seq ?_
  refine T.region ?_
  refine Run.go (Ev.assign rfl rfl) ?_
  refine Run.go (Ev.assign rfl rfl) ?_
  refine Run.nil ?_
  refine T.seq ?_
  refine T.region ?_
  refine Run.go (Ev.move rfl rfl) ?_
  refine Run.go (Ev.move rfl rfl) ?_
  refine Run.go (Ev.len X rfl rfl rfl rfl) ?_
  refine Run.go (Ev.int rfl rfl rfl rfl trivial) ?_
  obtain ⟨x1, e2, h⟩ := bdS h
  refine Run.go (Ev.e_rd X e2 rfl rfl rfl rfl) ?_
  refine Run.go (Ev.load X rfl rfl rfl) ?_
  obtain ⟨x3, e4, h⟩ := bdS h
  refine Run.go (Ev.callC en126 (k_limb_Bits e4) rfl (.cons .v .nil) rfl rfl) ?_
  refine Run.go (Ev.int rfl rfl rfl rfl trivial) ?_
  refine Run.go (Ev.assign rfl rfl) ?_
  refine Run.nil ?_
  refine T.seq ?_
  refine T.region ?_
  refine Run.go (Ev.move rfl rfl) ?_
  refine Run.go (Ev.move rfl rfl) ?_
  obtain ⟨x5, e6, h⟩ := bdS h
  refine Run.go (Ev.callC en127 (k_nat_Shl e6) rfl (.cons .v (.cons .v .nil)) rfl rfl) ?_
  refine Run.go (Ev.move rfl rfl) ?_
  refine Run.go (Ev.extract rfl rfl rfl) ?_
  refine Run.go (Ev.extract rfl rfl rfl) ?_
  refine Run.go (Ev.assign rfl rfl) ?_
  refine Run.go (Ev.assign rfl rfl) ?_
  refine Run.nil ?_
  refine T.seq ?_
  refine T.region ?_
  refine Run.go (Ev.move rfl rfl) ?_
  refine Run.go (Ev.len X rfl rfl rfl rfl) ?_
  refine Run.go (Ev.int rfl rfl rfl rfl trivial) ?_
  obtain ⟨x7, e8, h⟩ := bdS h
  refine Run.go (Ev.e_mk X 1 e8 rfl rfl rfl rfl rfl rfl) ?_
  refine Run.go (Ev.assign rfl rfl) ?_
  refine Run.nil ?_
  refine T.seq ?_
  refine T.region ?_
  refine Run.go (Ev.move rfl rfl) ?_
  refine Run.go (Ev.move rfl rfl) ?_
  obtain ⟨x9, e10, h⟩ := bdS h
  refine Run.go (Ev.callC en127 (k_nat_Shl e10) rfl (.cons .v (.cons .v .nil)) rfl rfl) ?_
  refine Run.go (Ev.move rfl rfl) ?_
  refine Run.go (Ev.extract rfl rfl rfl) ?_
  refine Run.go (Ev.extract rfl rfl rfl) ?_
  refine Run.go (Ev.assign rfl rfl) ?_
  refine Run.go (Ev.assign rfl rfl) ?_
  refine Run.nil ?_
  refine T.seq ?_
  refine T.region ?_
  refine Run.go (Ev.move rfl rfl) ?_
  refine Run.go (Ev.move rfl rfl) ?_
  refine Run.ghost (Ghost.whole (v := 42) rfl rfl) ?_
  obtain ⟨x11, e12, h⟩ := bdS h
  refine Run.go (Ev.e_cp X e12 rfl rfl rfl .v rfl rfl) ?_
  refine Run.nil ?_
  refine T.seq ?_
  refine T.region ?_
  refine Run.go (Ev.move rfl rfl) ?_
  refine Run.go (Ev.len X rfl rfl rfl rfl) ?_
  refine Run.go (Ev.move rfl rfl) ?_
  refine Run.go (Ev.len X rfl rfl rfl rfl) ?_
  refine Run.go (Ev.int rfl rfl rfl rfl trivial) ?_
  refine Run.go (Ev.int rfl rfl rfl rfl trivial) ?_
  obtain ⟨x13, e14, h⟩ := bdS h
  refine Run.go (Ev.e_mk X 2 e14 rfl rfl rfl rfl rfl rfl) ?_
  refine Run.go (Ev.assign rfl rfl) ?_
  refine Run.nil ?_
  obtain ⟨⟨v15, v16⟩, hv, h⟩ := bdS h
  refine T.cut (fun _ : Unit => (⟨[(6, .v (.int .i64) (wi64 (32 - x3) : Int)), (9, .own 1), (12, .own 2)], [(1, .arr 104 (.int .u64) v15), (2, .arr 104 (.int .u64) v16)], 104⟩ : St)) (fun _ => True) ?_ (fun _ _ => ?_)
  · replace h := hv
    clear hv
    refine T.seq ?_
    refine T.region ?_
    refine Run.go (Ev.move rfl rfl) ?_
    refine Run.go (Ev.len X rfl rfl rfl rfl) ?_
    refine Run.go (Ev.move rfl rfl) ?_
    refine Run.go (Ev.len X rfl rfl rfl rfl) ?_
    refine Run.go (Ev.int rfl rfl rfl rfl trivial) ?_
    obtain ⟨x17, e18, h⟩ := ltS h
    refine Run.go (Ev.avs (Ev.assign rfl rfl) e18) ?_
    refine Run.nil ?_
    refine T.block ?_
    refine T.loop (LoopT.ghost (Ghost.only [(1, 1), (2, 2)] [6, 7, 9, 12, 13] rfl) (LoopT.run (fun q : Int × (List Int) × (List Int) => (⟨[(6, .v (.int .i64) (wi64 (32 - x3) : Int)), (7, .v (.sl (.int .u64)) x5.1), (9, .own 1), (12, .own 2), (13, .v (.int .i64) q.1)], [(1, .arr 104 (.int .u64) q.2.1), (2, .arr 104 (.int .u64) q.2.2)], 104⟩ : St)) (fun q z1 h hz1 => ?_) h))
    obtain ⟨v19, v20, v21⟩ := q
    dsimp only
    rw [m_divide_knuth_l1] at h
    refine T.seq ?_
    refine T.seq ?_
    refine T.region ?_
    refine Run.go (Ev.move rfl rfl) ?_
    refine Run.go (Ev.int rfl rfl rfl rfl trivial) ?_
    refine Run.nil ?_
    refine T.cond rfl (fun hb22 => ?_) (fun hb22 => ?_)
    · replace h := ifT hb22 h
      refine T.skip ?_
      obtain ⟨⟨v23, v24⟩, hv, h⟩ := bdS h
      refine T.cut (fun _ : Unit => (⟨[(6, .v (.int .i64) (wi64 (32 - x3) : Int)), (7, .v (.sl (.int .u64)) x5.1), (9, .own 1), (12, .own 2), (13, .v (.int .i64) v19)], [(1, .arr 104 (.int .u64) v23), (2, .arr 104 (.int .u64) v24)], 104⟩ : St)) (fun _ => True) ?_ (fun _ _ => ?_)
      · replace h := hv
        clear hv
        refine T.block ?_
        refine T.seq ?_
        refine T.region ?_
        refine Run.go (Ev.move rfl rfl) ?_
        refine Run.go (Ev.move rfl rfl) ?_
        refine Run.go (Ev.move rfl rfl) ?_
        refine Run.go (Ev.move rfl rfl) ?_
        refine Run.go (Ev.move rfl rfl) ?_
        obtain ⟨x25, e26, h⟩ := bdS h
        refine Run.go (Ev.lend rfl (.cons (.own rfl) (.cons .v (.cons .v .nil))) en128 (k_divide_guess e26) rfl rfl) ?_
        obtain ⟨j27, e28, h⟩ := bdS h
        refine Run.go (Ev.e_ixO X e28 rfl rfl rfl rfl rfl) ?_
        obtain ⟨x29, e30, h⟩ := ltS h
        refine Run.do_ (Ev.asO (Ev.storeEl X rfl rfl rfl rfl rfl) e30) ?_
        refine Run.nil ?_
        refine T.seq ?_
        refine T.region ?_
        refine Run.go (Ev.move rfl rfl) ?_
        refine Run.go (Ev.move rfl rfl) ?_
        refine Run.go (Ev.move rfl rfl) ?_
        refine Run.go (Ev.move rfl rfl) ?_
        refine Run.go (Ev.move rfl rfl) ?_
        obtain ⟨x31, e32, h⟩ := bdS h
        refine Run.go (Ev.e_rdO X e32 rfl rfl rfl rfl rfl) ?_
        refine Run.go (Ev.e_ldO X (rdS e32).2 rfl rfl rfl rfl) ?_
        obtain ⟨x34, e33, h⟩ := bdS h
        refine Run.go (Ev.w1 (Ev.lendM [(1, 1)] [(1, 1)] en129 (k_divide_take_M e33) rfl (.cons (.ren rfl) (.cons (.ren rfl) (.cons (.ren rfl) (.cons (.ren rfl) .nil)))) rfl rfl rfl rfl rfl (A := .v .bool x34.1) rfl (W := [(1, .arr 104 (.int .u64) x34.2)]) rfl rfl)) ?_
        refine Run.nil ?_
        refine T.cond rfl (fun hb35 => ?_) (fun hb35 => ?_)
        · replace h := ifT hb35 h
          refine T.seq ?_
          refine T.region ?_
          refine Run.go (Ev.move rfl rfl) ?_
          refine Run.go (Ev.move rfl rfl) ?_
          obtain ⟨x36, e37, h⟩ := bdS h
          refine Run.go (Ev.e_rdO X e37 rfl rfl rfl rfl rfl) ?_
          refine Run.go (Ev.e_ldO X (rdS e37).2 rfl rfl rfl rfl) ?_
          refine Run.go (Ev.int rfl rfl rfl rfl trivial) ?_
          obtain ⟨j38, e39, h⟩ := bdS h
          refine Run.go (Ev.e_ixO X e39 rfl rfl rfl rfl rfl) ?_
          obtain ⟨x40, e41, h⟩ := ltS h
          refine Run.do_ (Ev.asO (Ev.storeEl X rfl rfl rfl rfl rfl) e41) ?_
          refine Run.nil ?_
          refine T.region ?_
          refine Run.go (Ev.move rfl rfl) ?_
          refine Run.go (Ev.move rfl rfl) ?_
          refine Run.go (Ev.move rfl rfl) ?_
          obtain ⟨x43, e42, h⟩ := bdS h
          refine Run.go (Ev.w1 (Ev.lendM [(1, 1)] [(1, 1)] en130 (k_divide_give_M e42) rfl (.cons (.ren rfl) (.cons (.ren rfl) (.cons (.ren rfl) .nil))) rfl rfl rfl rfl rfl (A := .tup []) rfl (W := [(1, .arr 104 (.int .u64) x43)]) rfl rfl)) ?_
          refine Run.nil ?_
          cases h
          exact ⟨(), trivial, Ghost.only [(1, 1), (2, 2)] [6, 7, 9, 12, 13] rfl⟩
        · replace h := ifF hb35 h
          refine T.skip ?_
          cases h
          exact ⟨(), trivial, Ghost.only [(1, 1), (2, 2)] [6, 7, 9, 12, 13] rfl⟩
      · refine T.region ?_
        refine Run.go (Ev.move rfl rfl) ?_
        refine Run.go (Ev.int rfl rfl rfl rfl trivial) ?_
        refine Run.go (Ev.assign rfl rfl) ?_
        refine Run.nil ?_
        cases h
        exact LoopT.ghost (Ghost.only [(1, 1), (2, 2)] [6, 7, 9, 12, 13] rfl) hz1
    · replace h := ifF hb22 h
      refine T.exit ?_
      cases h
      cases hz1
      exact ⟨(), trivial, Ghost.only [(1, 1), (2, 2)] [6, 9, 12] rfl⟩
  · refine T.seq ?_
    refine T.region ?_
    refine Run.go (Ev.move rfl rfl) ?_
    refine Run.ghost (Ghost.firmAll (id := 2) rfl) ?_
    obtain ⟨x44, e45, h⟩ := bdS h
    refine Run.go (Ev.callC en93 (k_nat_Make e45) rfl (.cons .v .nil) rfl rfl) ?_
    refine Run.go (Ev.move rfl rfl) ?_
    refine Run.go (Ev.extract rfl rfl rfl) ?_
    refine Run.go (Ev.extract rfl rfl rfl) ?_
    refine Run.go (Ev.assign rfl rfl) ?_
    refine Run.go (Ev.assign rfl rfl) ?_
    refine Run.nil ?_
    refine T.seq ?_
    refine T.region ?_
    refine Run.go (Ev.move rfl rfl) ?_
    refine Run.ghost (Ghost.firmAll (id := 1) rfl) ?_
    obtain ⟨x46, e47, h⟩ := bdS h
    refine Run.go (Ev.callC en93 (k_nat_Make e47) rfl (.cons .v .nil) rfl rfl) ?_
    refine Run.go (Ev.move rfl rfl) ?_
    refine Run.go (Ev.extract rfl rfl rfl) ?_
    refine Run.go (Ev.extract rfl rfl rfl) ?_
    refine Run.go (Ev.assign rfl rfl) ?_
    refine Run.go (Ev.assign rfl rfl) ?_
    refine Run.nil ?_
    refine T.seq ?_
    refine T.region ?_
    refine Run.go (Ev.move rfl rfl) ?_
    refine Run.go (Ev.move rfl rfl) ?_
    obtain ⟨x48, e49, h⟩ := bdS h
    refine Run.go (Ev.callC en131 (k_nat_Shr e49) rfl (.cons .v (.cons .v .nil)) rfl rfl) ?_
    refine Run.go (Ev.move rfl rfl) ?_
    refine Run.go (Ev.extract rfl rfl rfl) ?_
    refine Run.go (Ev.extract rfl rfl rfl) ?_
    refine Run.go (Ev.assign rfl rfl) ?_
    refine Run.nil ?_
    refine T.seq ?_
    refine T.region ?_
    refine Run.go (Ev.move rfl rfl) ?_
    refine Run.go (Ev.move rfl rfl) ?_
    refine Run.go (Ev.assign rfl rfl) ?_
    refine Run.go (Ev.assign rfl rfl) ?_
    refine Run.nil ?_
    refine T.ret ?_
    cases h
    exact Fin.many X rfl (.cons (.tmp .v) (.cons (.tmp .v) .nil)) rfl
theorem en108 : Enters Tryz.prog 108 := ⟨_, Tryz.func108, rfl, rfl⟩
set_option maxHeartbeats 1000000 in
theorem k_divide_Div {p0 : (List Int)} {p1 : (List Int)} {y : (List Int) × (List Int) × Int} (h : m_divide_Div p0 p1 = some y) : Spec Tryz.prog 108 [(.v (.sl (.int .u64)) p0), (.v (.sl (.int .u64)) p1)] (.tup [.v (.sl (.int .u64)) y.1, .v (.sl (.int .u64)) y.2.1, .v (.int .i64) y.2.2]) [] := by
  rw [m_divide_Div] at h
  refine enterN [(.v (.sl (.int .u64)) p0), (.v (.sl (.int .u64)) p1)] 64 Tryz.func108 rfl rfl rfl ?_
  refine T.seq ?_
  refine T.region ?_
  refine Run.go (Ev.assign rfl rfl) ?_
  refine Run.go (Ev.assign rfl rfl) ?_
  refine Run.go (Ev.assign rfl rfl) ?_
  refine Run.nil ?_
  refine T.seq ?_
  refine T.block ?_
  refine T.seq ?_
  refine T.region ?_
  refine Run.go (Ev.move rfl rfl) ?_
  refine Run.go (Ev.len X rfl rfl rfl rfl) ?_
  refine Run.go (Ev.int rfl rfl rfl rfl trivial) ?_
  refine Run.go (Ev.assign rfl rfl) ?_
  refine Run.nil ?_
  refine T.cond rfl (fun hb1 => ?_) (fun hb1 => ?_)
  · replace h := ifT hb1 h
    refine T.seq ?_
    refine T.region ?_
    refine Run.go (Ev.assign rfl rfl) ?_
    refine Run.go (Ev.assign rfl rfl) ?_
    refine Run.go (Ev.assign rfl rfl) ?_
    refine Run.nil ?_
    refine T.ret ?_
    cases h
    exact Fin.many X rfl (.cons (.tmp .nilv) (.cons (.tmp .nilv) (.cons (.tmp .v) .nil))) rfl
  · replace h := ifF hb1 h
    obtain ⟨v2, hv, h⟩ := bdS h
    refine T.cut (fun _ : Unit => (⟨[(0, .v (.sl (.int .u64)) p0), (1, .v (.sl (.int .u64)) p1), (18, .v .bool v2)], [], 64⟩ : St)) (fun _ => True) ?_ (fun _ _ => ?_)
    · replace h := hv
      clear hv
      refine T.region ?_
      refine Run.go (Ev.move rfl rfl) ?_
      obtain ⟨x3, e4, h⟩ := bdS h
      refine Run.go (Ev.callC en119 (k_nat_May e4) rfl (.cons .v .nil) rfl rfl) ?_
      refine Run.go (Ev.not rfl rfl) ?_
      refine Run.go (Ev.move rfl rfl) ?_
      rcases boolCases (!x3) with hb5 | hb5
      · replace h := ifT hb5 h
        refine Run.offT rfl rfl rfl rfl hb5 ?_
        refine Run.offT rfl rfl rfl rfl hb5 ?_
        refine Run.offT rfl rfl rfl rfl hb5 ?_
        refine Run.go (Ev.pickT rfl hb5 rfl rfl) ?_
        refine Run.go (Ev.assign rfl rfl) ?_
        refine Run.nil ?_
        cases h
        exact ⟨(), trivial, Ghost.only [] [0, 1, 18] rfl⟩
      · replace h := ifF hb5 h
        refine Run.on rfl rfl rfl hb5 (Ev.move rfl rfl) ?_
        obtain ⟨x6, e7, h⟩ := bdS h
        refine Run.on rfl rfl rfl hb5 (Ev.callC en119 (k_nat_May e7) rfl (.cons .v .nil) rfl rfl) ?_
        refine Run.on rfl rfl rfl hb5 (Ev.not rfl rfl) ?_
        refine Run.go (Ev.pickF rfl hb5 rfl rfl) ?_
        refine Run.go (Ev.assign rfl rfl) ?_
        refine Run.nil ?_
        cases h
        exact ⟨(), trivial, Ghost.only [] [0, 1, 18] rfl⟩
    · refine T.cond rfl (fun hb8 => ?_) (fun hb8 => ?_)
      · replace h := ifT hb8 h
        refine T.seq ?_
        refine T.region ?_
        refine Run.go (Ev.assign rfl rfl) ?_
        refine Run.go (Ev.assign rfl rfl) ?_
        refine Run.go (Ev.assign rfl rfl) ?_
        refine Run.nil ?_
        refine T.ret ?_
        cases h
        exact Fin.many X rfl (.cons (.tmp .nilv) (.cons (.tmp .nilv) (.cons (.tmp .v) .nil))) rfl
      · replace h := ifF hb8 h
        refine T.seq ?_
        refine T.region ?_
        refine Run.go (Ev.move rfl rfl) ?_
        refine Run.go (Ev.move rfl rfl) ?_
        obtain ⟨x9, e10, h⟩ := bdS h
        refine Run.go (Ev.callC en66 (k_nat_Cmp e10) rfl (.cons .v (.cons .v .nil)) rfl rfl) ?_
        refine Run.go (Ev.int rfl rfl rfl rfl trivial) ?_
        refine Run.go (Ev.assign rfl rfl) ?_
        refine Run.nil ?_
        refine T.cond rfl (fun hb11 => ?_) (fun hb11 => ?_)
        · replace h := ifT hb11 h
          refine T.seq ?_
          refine T.region ?_
          refine Run.go (Ev.move rfl rfl) ?_
          obtain ⟨x12, e13, h⟩ := bdS h
          refine Run.go (Ev.callC en93 (k_nat_Make e13) rfl (.cons .v .nil) rfl rfl) ?_
          refine Run.go (Ev.move rfl rfl) ?_
          refine Run.go (Ev.extract rfl rfl rfl) ?_
          refine Run.go (Ev.extract rfl rfl rfl) ?_
          refine Run.go (Ev.assign rfl rfl) ?_
          refine Run.go (Ev.assign rfl rfl) ?_
          refine Run.nil ?_
          refine T.seq ?_
          refine T.region ?_
          refine Run.go (Ev.move rfl rfl) ?_
          refine Run.go (Ev.move rfl rfl) ?_
          refine Run.go (Ev.assign rfl rfl) ?_
          refine Run.go (Ev.assign rfl rfl) ?_
          refine Run.go (Ev.assign rfl rfl) ?_
          refine Run.nil ?_
          refine T.ret ?_
          cases h
          exact Fin.many X rfl (.cons (.tmp .nilv) (.cons (.tmp .v) (.cons (.tmp .v) .nil))) rfl
        · replace h := ifF hb11 h
          refine T.seq ?_
          refine T.region ?_
          refine Run.go (Ev.move rfl rfl) ?_
          refine Run.go (Ev.len X rfl rfl rfl rfl) ?_
          refine Run.go (Ev.int rfl rfl rfl rfl trivial) ?_
          refine Run.go (Ev.assign rfl rfl) ?_
          refine Run.nil ?_
          refine T.cond rfl (fun hb14 => ?_) (fun hb14 => ?_)
          · replace h := ifT hb14 h
            refine T.seq ?_
            refine T.region ?_
            refine Run.go (Ev.move rfl rfl) ?_
            refine Run.go (Ev.move rfl rfl) ?_
            obtain ⟨x15, e16, h⟩ := bdS h
            refine Run.go (Ev.e_rd X e16 rfl rfl rfl rfl) ?_
            refine Run.go (Ev.load X rfl rfl rfl) ?_
            obtain ⟨x17, e18, h⟩ := bdS h
            refine Run.go (Ev.callC en100 (k_divide_Small e18) rfl (.cons .v (.cons .v .nil)) rfl rfl) ?_
            refine Run.go (Ev.move rfl rfl) ?_
            refine Run.go (Ev.extract rfl rfl rfl) ?_
            refine Run.go (Ev.extract rfl rfl rfl) ?_
            refine Run.go (Ev.extract rfl rfl rfl) ?_
            refine Run.go (Ev.assign rfl rfl) ?_
            refine Run.go (Ev.assign rfl rfl) ?_
            refine Run.go (Ev.assign rfl rfl) ?_
            refine Run.nil ?_
            refine T.seq ?_
            refine T.region ?_
            refine Run.go (Ev.move rfl rfl) ?_
            refine Run.go (Ev.move rfl rfl) ?_
            obtain ⟨x19, e20, h⟩ := bdS h
            refine Run.go (Ev.callC en67 (k_nat_Of e20) rfl (.cons .v .nil) rfl rfl) ?_
            refine Run.go (Ev.move rfl rfl) ?_
            refine Run.go (Ev.assign rfl rfl) ?_
            refine Run.go (Ev.assign rfl rfl) ?_
            refine Run.go (Ev.assign rfl rfl) ?_
            refine Run.nil ?_
            refine T.ret ?_
            cases h
            exact Fin.many X rfl (.cons (.tmp .v) (.cons (.tmp .v) (.cons (.tmp .v) .nil))) rfl
          · replace h := ifF hb14 h
            refine T.skip ?_
            refine T.seq ?_
            refine T.region ?_
            refine Run.go (Ev.move rfl rfl) ?_
            refine Run.go (Ev.move rfl rfl) ?_
            obtain ⟨x21, e22, h⟩ := bdS h
            refine Run.go (Ev.callC en120 (k_divide_knuth e22) rfl (.cons .v (.cons .v .nil)) rfl rfl) ?_
            refine Run.go (Ev.move rfl rfl) ?_
            refine Run.go (Ev.extract rfl rfl rfl) ?_
            refine Run.go (Ev.extract rfl rfl rfl) ?_
            refine Run.go (Ev.assign rfl rfl) ?_
            refine Run.go (Ev.assign rfl rfl) ?_
            refine Run.nil ?_
            refine T.seq ?_
            refine T.region ?_
            refine Run.go (Ev.move rfl rfl) ?_
            refine Run.go (Ev.move rfl rfl) ?_
            refine Run.go (Ev.assign rfl rfl) ?_
            refine Run.go (Ev.assign rfl rfl) ?_
            refine Run.go (Ev.assign rfl rfl) ?_
            refine Run.nil ?_
            refine T.ret ?_
            cases h
            exact Fin.many X rfl (.cons (.tmp .v) (.cons (.tmp .v) (.cons (.tmp .v) .nil))) rfl
theorem en107 : Enters Tryz.prog 107 := ⟨_, Tryz.func107, rfl, rfl⟩
theorem k_divide_Mod {p0 : (List Int)} {p1 : (List Int)} {y : (List Int) × Int} (h : m_divide_Mod p0 p1 = some y) : Spec Tryz.prog 107 [(.v (.sl (.int .u64)) p0), (.v (.sl (.int .u64)) p1)] (.tup [.v (.sl (.int .u64)) y.1, .v (.int .i64) y.2]) [] := by
  rw [m_divide_Mod] at h
  refine enterN [(.v (.sl (.int .u64)) p0), (.v (.sl (.int .u64)) p1)] 18 Tryz.func107 rfl rfl rfl ?_
  refine T.seq ?_
  refine T.region ?_
  refine Run.go (Ev.assign rfl rfl) ?_
  refine Run.go (Ev.assign rfl rfl) ?_
  refine Run.nil ?_
  refine T.seq ?_
  refine T.region ?_
  refine Run.go (Ev.move rfl rfl) ?_
  refine Run.go (Ev.move rfl rfl) ?_
  obtain ⟨x1, e2, h⟩ := bdS h
  refine Run.go (Ev.callC en108 (k_divide_Div e2) rfl (.cons .v (.cons .v .nil)) rfl rfl) ?_
  refine Run.go (Ev.move rfl rfl) ?_
  refine Run.go (Ev.extract rfl rfl rfl) ?_
  refine Run.go (Ev.extract rfl rfl rfl) ?_
  refine Run.go (Ev.extract rfl rfl rfl) ?_
  refine Run.go (Ev.assign rfl rfl) ?_
  refine Run.go (Ev.assign rfl rfl) ?_
  refine Run.go (Ev.assign rfl rfl) ?_
  refine Run.nil ?_
  refine T.seq ?_
  refine T.region ?_
  refine Run.go (Ev.move rfl rfl) ?_
  refine Run.go (Ev.move rfl rfl) ?_
  refine Run.go (Ev.assign rfl rfl) ?_
  refine Run.go (Ev.assign rfl rfl) ?_
  refine Run.nil ?_
  refine T.ret ?_
  cases h
  exact Fin.many X rfl (.cons (.tmp .v) (.cons (.tmp .v) .nil)) rfl
theorem en91 : Enters Tryz.prog 91 := ⟨_, Tryz.func91, rfl, rfl⟩
theorem k_gcd_Euclid {p0 : (List Int)} {p1 : (List Int)} {y : (List Int)} (h : m_gcd_Euclid p0 p1 = some y) : Spec Tryz.prog 91 [(.v (.sl (.int .u64)) p0), (.v (.sl (.int .u64)) p1)] (.v (.sl (.int .u64)) y) [] := by
  rw [m_gcd_Euclid] at h
  refine enterN [(.v (.sl (.int .u64)) p0), (.v (.sl (.int .u64)) p1)] 33 Tryz.func91 rfl rfl rfl ?_
  refine T.seq ?_
  refine T.region ?_
  refine Run.go (Ev.assign rfl rfl) ?_
  refine Run.nil ?_
  refine T.seq ?_
  refine T.region ?_
  refine Run.go (Ev.move rfl rfl) ?_
  obtain ⟨x1, e2, h⟩ := bdS h
  refine Run.go (Ev.callC en93 (k_nat_Make e2) rfl (.cons .v .nil) rfl rfl) ?_
  refine Run.go (Ev.move rfl rfl) ?_
  refine Run.go (Ev.extract rfl rfl rfl) ?_
  refine Run.go (Ev.extract rfl rfl rfl) ?_
  refine Run.go (Ev.assign rfl rfl) ?_
  refine Run.go (Ev.assign rfl rfl) ?_
  refine Run.nil ?_
  refine T.seq ?_
  refine T.region ?_
  refine Run.go (Ev.move rfl rfl) ?_
  obtain ⟨x3, e4, h⟩ := bdS h
  refine Run.go (Ev.callC en93 (k_nat_Make e4) rfl (.cons .v .nil) rfl rfl) ?_
  refine Run.go (Ev.move rfl rfl) ?_
  refine Run.go (Ev.extract rfl rfl rfl) ?_
  refine Run.go (Ev.extract rfl rfl rfl) ?_
  refine Run.go (Ev.assign rfl rfl) ?_
  refine Run.go (Ev.assign rfl rfl) ?_
  refine Run.nil ?_
  obtain ⟨v5, hv, h⟩ := bdS h
  refine T.cut (fun _ : Unit => (⟨[(5, .v (.sl (.int .u64)) v5)], [], 33⟩ : St)) (fun _ => True) ?_ (fun _ _ => ?_)
  · replace h := hv
    clear hv
    refine T.block ?_
    refine T.loop (LoopT.ghost (Ghost.only [] [5, 7] rfl) (LoopT.run (fun q : (List Int) × (List Int) => (⟨[(5, .v (.sl (.int .u64)) q.1), (7, .v (.sl (.int .u64)) q.2)], [], 33⟩ : St)) (fun q z1 h hz1 => ?_) h))
    obtain ⟨v6, v7⟩ := q
    dsimp only
    rw [m_gcd_Euclid_l1] at h
    refine T.seq ?_
    refine T.seq ?_
    refine T.region ?_
    refine Run.go (Ev.move rfl rfl) ?_
    refine Run.go (Ev.len X rfl rfl rfl rfl) ?_
    refine Run.go (Ev.int rfl rfl rfl rfl trivial) ?_
    refine Run.nil ?_
    refine T.cond rfl (fun hb8 => ?_) (fun hb8 => ?_)
    · replace h := ifT hb8 h
      refine T.skip ?_
      refine T.block ?_
      refine T.seq ?_
      refine T.region ?_
      refine Run.go (Ev.move rfl rfl) ?_
      refine Run.go (Ev.move rfl rfl) ?_
      obtain ⟨x9, e10, h⟩ := bdS h
      refine Run.go (Ev.callC en107 (k_divide_Mod e10) rfl (.cons .v (.cons .v .nil)) rfl rfl) ?_
      refine Run.go (Ev.move rfl rfl) ?_
      refine Run.go (Ev.extract rfl rfl rfl) ?_
      refine Run.go (Ev.extract rfl rfl rfl) ?_
      refine Run.go (Ev.assign rfl rfl) ?_
      refine Run.go (Ev.assign rfl rfl) ?_
      refine Run.nil ?_
      refine T.region ?_
      refine Run.go (Ev.move rfl rfl) ?_
      refine Run.go (Ev.move rfl rfl) ?_
      refine Run.go (Ev.assign rfl rfl) ?_
      refine Run.go (Ev.assign rfl rfl) ?_
      refine Run.nil ?_
      cases h
      exact LoopT.ghost (Ghost.only [] [5, 7] rfl) hz1
    · replace h := ifF hb8 h
      refine T.exit ?_
      cases h
      cases hz1
      exact ⟨(), trivial, Ghost.only [] [5] rfl⟩
  · refine T.seq ?_
    refine T.region ?_
    refine Run.go (Ev.move rfl rfl) ?_
    refine Run.go (Ev.assign rfl rfl) ?_
    refine Run.nil ?_
    refine T.ret ?_
    cases h
    exact Fin.one rfl .v
theorem en92 : Enters Tryz.prog 92 := ⟨_, Tryz.func92, rfl, rfl⟩
theorem k_divide_Exact {p0 : (List Int)} {p1 : (List Int)} {y : (List Int) × Int} (h : m_divide_Exact p0 p1 = some y) : Spec Tryz.prog 92 [(.v (.sl (.int .u64)) p0), (.v (.sl (.int .u64)) p1)] (.tup [.v (.sl (.int .u64)) y.1, .v (.int .i64) y.2]) [] := by
  rw [m_divide_Exact] at h
  refine enterN [(.v (.sl (.int .u64)) p0), (.v (.sl (.int .u64)) p1)] 26 Tryz.func92 rfl rfl rfl ?_
  refine T.seq ?_
  refine T.region ?_
  refine Run.go (Ev.assign rfl rfl) ?_
  refine Run.go (Ev.assign rfl rfl) ?_
  refine Run.nil ?_
  refine T.seq ?_
  refine T.region ?_
  refine Run.go (Ev.move rfl rfl) ?_
  refine Run.go (Ev.move rfl rfl) ?_
  obtain ⟨x1, e2, h⟩ := bdS h
  refine Run.go (Ev.callC en108 (k_divide_Div e2) rfl (.cons .v (.cons .v .nil)) rfl rfl) ?_
  refine Run.go (Ev.move rfl rfl) ?_
  refine Run.go (Ev.extract rfl rfl rfl) ?_
  refine Run.go (Ev.extract rfl rfl rfl) ?_
  refine Run.go (Ev.extract rfl rfl rfl) ?_
  refine Run.go (Ev.assign rfl rfl) ?_
  refine Run.go (Ev.assign rfl rfl) ?_
  refine Run.go (Ev.assign rfl rfl) ?_
  refine Run.nil ?_
  refine T.seq ?_
  refine T.block ?_
  refine T.seq ?_
  refine T.region ?_
  refine Run.go (Ev.move rfl rfl) ?_
  refine Run.go (Ev.int rfl rfl rfl rfl trivial) ?_
  refine Run.go (Ev.assign rfl rfl) ?_
  refine Run.nil ?_
  refine T.cond rfl (fun hb3 => ?_) (fun hb3 => ?_)
  · replace h := ifT hb3 h
    refine T.seq ?_
    refine T.region ?_
    refine Run.go (Ev.move rfl rfl) ?_
    refine Run.go (Ev.assign rfl rfl) ?_
    refine Run.go (Ev.assign rfl rfl) ?_
    refine Run.nil ?_
    refine T.ret ?_
    cases h
    exact Fin.many X rfl (.cons (.tmp .nilv) (.cons (.tmp .v) .nil)) rfl
  · replace h := ifF hb3 h
    refine T.seq ?_
    refine T.region ?_
    refine Run.go (Ev.move rfl rfl) ?_
    refine Run.go (Ev.len X rfl rfl rfl rfl) ?_
    refine Run.go (Ev.int rfl rfl rfl rfl trivial) ?_
    refine Run.go (Ev.assign rfl rfl) ?_
    refine Run.nil ?_
    refine T.cond rfl (fun hb4 => ?_) (fun hb4 => ?_)
    · replace h := ifT hb4 h
      refine T.seq ?_
      refine T.region ?_
      refine Run.go (Ev.assign rfl rfl) ?_
      refine Run.go (Ev.assign rfl rfl) ?_
      refine Run.nil ?_
      refine T.ret ?_
      cases h
      exact Fin.many X rfl (.cons (.tmp .nilv) (.cons (.tmp .v) .nil)) rfl
    · replace h := ifF hb4 h
      refine T.skip ?_
      refine T.seq ?_
      refine T.region ?_
      refine Run.go (Ev.move rfl rfl) ?_
      refine Run.go (Ev.move rfl rfl) ?_
      refine Run.go (Ev.assign rfl rfl) ?_
      refine Run.go (Ev.assign rfl rfl) ?_
      refine Run.nil ?_
      refine T.ret ?_
      cases h
      exact Fin.many X rfl (.cons (.tmp .v) (.cons (.tmp .v) .nil)) rfl
theorem en75 : Enters Tryz.prog 75 := ⟨_, Tryz.func75, rfl, rfl⟩
theorem k_rat_low {p0 : D_api_Int} {p1 : (List Int)} {y : D_api_Rat} (h : m_rat_low p0 p1 = some y) : Spec Tryz.prog 75 [(.v Y_api_Int p0), (.v (.sl (.int .u64)) p1)] (.v Y_api_Rat y) [] := by
  rw [m_rat_low] at h
  refine enterN [(.v Y_api_Int p0), (.v (.sl (.int .u64)) p1)] 33 Tryz.func75 rfl rfl rfl ?_
  refine T.seq ?_
  refine T.region ?_
  refine Run.go (Ev.box 1 rfl rfl rfl rfl) ?_
  refine Run.go (Ev.allocN X 2 rfl rfl rfl) ?_
  refine Run.nil ?_
  refine T.seq ?_
  refine T.region ?_
  refine Run.go (Ev.fieldBox X rfl rfl rfl rfl rfl) ?_
  refine Run.go (Ev.loadCell X rfl rfl rfl rfl rfl rfl) ?_
  refine Run.go (Ev.move rfl rfl) ?_
  obtain ⟨x1, e2, h⟩ := bdS h
  refine Run.go (Ev.callC en91 (k_gcd_Euclid e2) rfl (.cons .v (.cons .v .nil)) rfl rfl) ?_
  refine Run.go (Ev.assign rfl rfl) ?_
  refine Run.nil ?_
  refine T.seq ?_
  refine T.region ?_
  refine Run.go (Ev.fieldBox X rfl rfl rfl rfl rfl) ?_
  refine Run.go (Ev.loadCell X rfl rfl rfl rfl rfl rfl) ?_
  refine Run.go (Ev.move rfl rfl) ?_
  obtain ⟨x3, e4, h⟩ := bdS h
  refine Run.go (Ev.callC en92 (k_divide_Exact e4) rfl (.cons .v (.cons .v .nil)) rfl rfl) ?_
  refine Run.go (Ev.move rfl rfl) ?_
  refine Run.go (Ev.extract rfl rfl rfl) ?_
  refine Run.go (Ev.extract rfl rfl rfl) ?_
  refine Run.go (Ev.assign rfl rfl) ?_
  refine Run.go (Ev.assign rfl rfl) ?_
  refine Run.nil ?_
  refine T.seq ?_
  refine T.region ?_
  refine Run.go (Ev.move rfl rfl) ?_
  refine Run.go (Ev.move rfl rfl) ?_
  obtain ⟨x5, e6, h⟩ := bdS h
  refine Run.go (Ev.callC en92 (k_divide_Exact e6) rfl (.cons .v (.cons .v .nil)) rfl rfl) ?_
  refine Run.go (Ev.move rfl rfl) ?_
  refine Run.go (Ev.extract rfl rfl rfl) ?_
  refine Run.go (Ev.extract rfl rfl rfl) ?_
  refine Run.go (Ev.assign rfl rfl) ?_
  refine Run.go (Ev.assign rfl rfl) ?_
  refine Run.nil ?_
  refine T.seq ?_
  refine T.region ?_
  refine Run.go (Ev.fieldBox X rfl rfl rfl rfl rfl) ?_
  refine Run.go (Ev.loadCell X rfl rfl rfl rfl rfl rfl) ?_
  refine Run.go (Ev.move rfl rfl) ?_
  obtain ⟨x7, e8, h⟩ := bdS h
  refine Run.go (Ev.callC en76 (k_whole_Made e8) rfl (.cons .v (.cons .v .nil)) rfl rfl) ?_
  refine Run.go (Ev.move rfl rfl) ?_
  refine Run.go (Ev.struct X pl32 rfl rfl rfl rfl rfl rfl rfl rfl) ?_
  refine Run.do_ (Ev.storeBox X rfl rfl rfl rfl rfl rfl rfl) ?_
  refine Run.nil ?_
  refine T.ret ?_
  cases h
  exact Fin.cell X rfl rfl rfl rfl rfl
end Go.Proofs.YtkjkipkfndckfaaGreatDoor.AE
/- The code comes to the printed functions (printed by a program of ours). -/
namespace Go.Proofs.YtkjkipkfndckfaaGreatDoor.AE
open Go Go.RowKit Go.Proofs.YtkjkipkfndckfaaGreatDoor.AP
set_option linter.unusedVariables false
set_option maxRecDepth 20000
theorem en53 : Enters Tryz.prog 53 := ⟨_, Tryz.func53, rfl, rfl⟩
theorem k_rat_Make {p0 : D_api_Int} {p1 : D_api_Int} {y : D_api_Rat × Int} (h : m_rat_Make p0 p1 = some y) : Spec Tryz.prog 53 [(.v Y_api_Int p0), (.v Y_api_Int p1)] (.tup [.v Y_api_Rat y.1, .v (.int .i64) y.2]) [] := by
  rw [m_rat_Make] at h
  refine enterN [(.v Y_api_Int p0), (.v Y_api_Int p1)] 21 Tryz.func53 rfl rfl rfl ?_
  refine T.seq ?_
  refine T.region ?_
  refine Run.go (Ev.box 1 rfl rfl rfl rfl) ?_
  refine Run.go (Ev.box 2 rfl rfl rfl rfl) ?_
  refine Run.go (Ev.allocN X 3 rfl rfl rfl) ?_
  refine Run.go (Ev.assign rfl rfl) ?_
  refine Run.nil ?_
  refine T.seq ?_
  refine T.seq ?_
  refine T.region ?_
  refine Run.go (Ev.loadBox X rfl rfl rfl rfl rfl) ?_
  obtain ⟨x1, e2, h⟩ := bdS h
  refine Run.go (Ev.callC en74 (k_whole_Sign e2) rfl (.cons .v .nil) rfl rfl) ?_
  refine Run.go (Ev.int rfl rfl rfl rfl trivial) ?_
  refine Run.nil ?_
  refine T.cond rfl (fun hb3 => ?_) (fun hb3 => ?_)
  · replace h := ifT hb3 h
    refine T.seq ?_
    refine T.region ?_
    refine Run.go (Ev.structC pl32 zs32 rfl rfl rfl) ?_
    refine Run.do_ (Ev.storeC sz32 rfl rfl rfl rfl rfl rfl) ?_
    refine Run.go (Ev.assign rfl rfl) ?_
    refine Run.nil ?_
    refine T.ret ?_
    cases h
    exact Fin.many X rfl (.cons (.cell rfl rfl rfl rfl) (.cons (.tmp .v) .nil)) rfl
  · replace h := ifF hb3 h
    refine T.skip ?_
    refine T.seq ?_
    refine T.drawM [11] [0, 1, 0, 4, 15, 0, 32, 127, 0, 256, 1023, 2047, 4095] (by kernel_rfl) (by kernel_rfl) ?_
    refine RunD.a rfl rfl (Ev.fieldBox X rfl rfl rfl rfl rfl) ?_
    refine RunD.a rfl rfl (Ev.loadCell X rfl rfl rfl rfl rfl rfl) ?_
    refine RunD.a rfl rfl (Ev.fieldBox X rfl rfl rfl rfl rfl) ?_
    refine RunD.a rfl rfl (Ev.loadCell X rfl rfl rfl rfl rfl rfl) ?_
    refine RunD.w (fun _ => Ev.bools X rfl rfl rfl rfl rfl) ?_
    refine RunD.a rfl rfl (Ev.fieldBox X rfl rfl rfl rfl rfl) ?_
    refine RunD.a rfl rfl (Ev.loadCell X rfl rfl rfl rfl rfl rfl) ?_
    obtain ⟨x4, e5, h⟩ := bdS h
    refine RunD.a rfl rfl (Ev.callC en76 (k_whole_Made e5) rfl (.cons .v (.cons .v .nil)) rfl rfl) ?_
    refine RunD.a rfl rfl (Ev.fieldBox X rfl rfl rfl rfl rfl) ?_
    refine RunD.a rfl rfl (Ev.loadCell X rfl rfl rfl rfl rfl rfl) ?_
    obtain ⟨x6, e7, h⟩ := bdS h
    refine RunD.a rfl rfl (Ev.callC en75 (k_rat_low e7) rfl (.cons .v (.cons .v .nil)) rfl rfl) ?_
    refine RunD.mN rfl (Ev.storeBox X rfl rfl rfl rfl rfl rfl rfl) ?_
    refine RunD.w (fun _ => Ev.assign rfl rfl) ?_
    refine RunD.nil ?_
    refine T.ret ?_
    cases h
    exact Fin.many X rfl (.cons (.cell rfl rfl rfl rfl) (.cons (.tmp .v) .nil)) rfl
theorem en25 : Enters Tryz.prog 25 := ⟨_, Tryz.func25, rfl, rfl⟩
theorem k_rat_Frac {p0 : Int} {p1 : Int} {y : D_api_Rat × Int} (h : m_rat_Frac p0 p1 = some y) : Spec Tryz.prog 25 [(.v (.int .i64) p0), (.v (.int .i64) p1)] (.tup [.v Y_api_Rat y.1, .v (.int .i64) y.2]) [] := by
  rw [m_rat_Frac] at h
  refine enterN [(.v (.int .i64) p0), (.v (.int .i64) p1)] 13 Tryz.func25 rfl rfl rfl ?_
  refine T.seq ?_
  refine T.region ?_
  refine Run.go (Ev.allocN X 1 rfl rfl rfl) ?_
  refine Run.go (Ev.assign rfl rfl) ?_
  refine Run.nil ?_
  refine T.seq ?_
  refine T.region ?_
  refine Run.go (Ev.move rfl rfl) ?_
  obtain ⟨x1, e2, h⟩ := bdS h
  refine Run.go (Ev.callC en54 (k_whole_Of e2) rfl (.cons .v .nil) rfl rfl) ?_
  refine Run.go (Ev.move rfl rfl) ?_
  obtain ⟨x3, e4, h⟩ := bdS h
  refine Run.go (Ev.callC en54 (k_whole_Of e4) rfl (.cons .v .nil) rfl rfl) ?_
  obtain ⟨x5, e6, h⟩ := bdS h
  refine Run.go (Ev.callC en53 (k_rat_Make e6) rfl (.cons .v (.cons .v .nil)) rfl rfl) ?_
  refine Run.go (Ev.extract rfl rfl rfl) ?_
  refine Run.go (Ev.extract rfl rfl rfl) ?_
  refine Run.do_ (Ev.storeBox X rfl rfl rfl rfl rfl rfl rfl) ?_
  refine Run.go (Ev.assign rfl rfl) ?_
  refine Run.nil ?_
  refine T.ret ?_
  cases h
  exact Fin.many X rfl (.cons (.cell rfl rfl rfl rfl) (.cons (.tmp .v) .nil)) rfl
theorem en55 : Enters Tryz.prog 55 := ⟨_, Tryz.func55, rfl, rfl⟩
theorem k_rat_one  {y : (List Int)} (h : m_rat_one  = some y) : Spec Tryz.prog 55 [] (.v (.sl (.int .u64)) y) [] := by
  rw [m_rat_one] at h
  refine enterN [] 2 Tryz.func55 rfl rfl rfl ?_
  refine T.seq ?_
  refine T.region ?_
  refine Run.go (Ev.assign rfl rfl) ?_
  refine Run.nil ?_
  refine T.seq ?_
  refine T.region ?_
  obtain ⟨x1, e2, h⟩ := bdS h
  refine Run.go (Ev.callC en67 (k_nat_Of e2) rfl (.cons .v .nil) rfl rfl) ?_
  refine Run.go (Ev.assign rfl rfl) ?_
  refine Run.nil ?_
  refine T.ret ?_
  cases h
  exact Fin.one rfl .v
theorem en26 : Enters Tryz.prog 26 := ⟨_, Tryz.func26, rfl, rfl⟩
theorem k_rat_Of {p0 : Int} {y : D_api_Rat} (h : m_rat_Of p0 = some y) : Spec Tryz.prog 26 [(.v (.int .i64) p0)] (.v Y_api_Rat y) [] := by
  rw [m_rat_Of] at h
  refine enterN [(.v (.int .i64) p0)] 7 Tryz.func26 rfl rfl rfl ?_
  refine T.seq ?_
  refine T.region ?_
  refine Run.go (Ev.allocN X 1 rfl rfl rfl) ?_
  refine Run.nil ?_
  refine T.seq ?_
  refine T.region ?_
  refine Run.go (Ev.move rfl rfl) ?_
  obtain ⟨x1, e2, h⟩ := bdS h
  refine Run.go (Ev.callC en54 (k_whole_Of e2) rfl (.cons .v .nil) rfl rfl) ?_
  obtain ⟨x3, e4, h⟩ := bdS h
  refine Run.go (Ev.callC en55 (k_rat_one e4) rfl .nil rfl rfl) ?_
  refine Run.go (Ev.struct X pl32 rfl rfl rfl rfl rfl rfl rfl rfl) ?_
  refine Run.do_ (Ev.storeBox X rfl rfl rfl rfl rfl rfl rfl) ?_
  refine Run.nil ?_
  refine T.ret ?_
  cases h
  exact Fin.cell X rfl rfl rfl rfl rfl
theorem en11 : Enters Tryz.prog 11 := ⟨_, Tryz.func11, rfl, rfl⟩
theorem k_triviumlaw38_works  {y : Bool} (h : m_triviumlaw38_works  = some y) : Spec Tryz.prog 11 [] (.v .bool y) [] := by
  rw [m_triviumlaw38_works] at h
  refine enterN [] 23 Tryz.func11 rfl rfl rfl ?_
  refine T.seq ?_
  refine T.region ?_
  refine Run.go (Ev.assign rfl rfl) ?_
  refine Run.nil ?_
  refine T.seq ?_
  refine T.region ?_
  obtain ⟨x1, e2, h⟩ := bdS h
  refine Run.go (Ev.callC en25 (k_rat_Frac e2) rfl (.cons .v (.cons .v .nil)) rfl rfl) ?_
  refine Run.go (Ev.move rfl rfl) ?_
  refine Run.go (Ev.extract rfl rfl rfl) ?_
  refine Run.go (Ev.extract rfl rfl rfl) ?_
  refine Run.go (Ev.allocN X 1 rfl rfl rfl) ?_
  refine Run.do_ (Ev.storeBox X rfl rfl rfl rfl rfl rfl rfl) ?_
  refine Run.go (Ev.assign rfl rfl) ?_
  refine Run.nil ?_
  refine T.seq ?_
  refine T.region ?_
  obtain ⟨x3, e4, h⟩ := bdS h
  refine Run.go (Ev.callC en25 (k_rat_Frac e4) rfl (.cons .v (.cons .v .nil)) rfl rfl) ?_
  refine Run.go (Ev.move rfl rfl) ?_
  refine Run.go (Ev.extract rfl rfl rfl) ?_
  refine Run.go (Ev.extract rfl rfl rfl) ?_
  refine Run.go (Ev.allocN X 2 rfl rfl rfl) ?_
  refine Run.do_ (Ev.storeBox X rfl rfl rfl rfl rfl rfl rfl) ?_
  refine Run.go (Ev.assign rfl rfl) ?_
  refine Run.nil ?_
  refine T.seq ?_
  refine T.region ?_
  refine Run.go (Ev.structC pl26 zs26 rfl rfl rfl) ?_
  refine Run.go (Ev.allocN X 3 rfl rfl rfl) ?_
  refine Run.do_ (Ev.storeC sz26 rfl rfl rfl rfl rfl rfl) ?_
  refine Run.nil ?_
  refine T.seq ?_
  refine T.drawM [] [0, 0, 0, 0, 14, 30, 63, 127, 255] (by kernel_rfl) (by kernel_rfl) ?_
  refine RunD.a rfl rfl (Ev.loadBox X rfl rfl rfl rfl rfl) ?_
  refine RunD.a rfl rfl (Ev.loadBox X rfl rfl rfl rfl rfl) ?_
  refine RunD.a rfl rfl (Ev.loadBox X rfl rfl rfl rfl rfl) ?_
  obtain ⟨x5, e6, h⟩ := bdS h
  refine RunD.a rfl rfl (Ev.callC en26 (k_rat_Of e6) rfl (.cons .v .nil) rfl rfl) ?_
  refine RunD.w (fun _ => Ev.struct X pl37 rfl rfl rfl rfl rfl rfl rfl rfl) ?_
  refine RunD.w (fun _ => Ev.structC pl45 zs45 rfl rfl rfl) ?_
  obtain ⟨x7, e8, h⟩ := bdS h
  refine RunD.a rfl rfl (Ev.callC en7 (k_report_Line e8) rfl (.cons .v (.cons (.st rfl rfl) .nil)) rfl rfl) ?_
  refine RunD.w (fun _ => Ev.strs rfl rfl rfl rfl trivial) ?_
  obtain ⟨x9, e10, h⟩ := ltS h
  refine RunD.w (fun _ => Ev.avs (Ev.assign rfl rfl) e10) ?_
  refine RunD.nil ?_
  refine T.ret ?_
  cases h
  exact Fin.one rfl .v
set_option maxHeartbeats 1000000 in
theorem k_triviumlaw38_ReportAll {p0 : (List D_api_Query)} {p1 : (List D_triviumlaw38_Told)} {p2 : (List ByteArray)} {y : Bool} (h : m_triviumlaw38_ReportAll p0 p1 p2 = some y) : Spec Tryz.prog 4 [(.v (.sl Y_api_Query) p0), (.v (.sl Y_triviumlaw38_Told) p1), (.v (.sl .str) p2)] (.v .bool y) [] := by
  rw [m_triviumlaw38_ReportAll] at h
  refine enterN [(.v (.sl Y_api_Query) p0), (.v (.sl Y_triviumlaw38_Told) p1), (.v (.sl .str) p2)] 120 Tryz.func4 rfl rfl rfl ?_
  refine T.seq ?_
  refine T.region ?_
  refine Run.go (Ev.assign rfl rfl) ?_
  refine Run.nil ?_
  refine T.seq ?_
  refine T.region ?_
  refine Run.go (Ev.build X 1 rfl rfl rfl rfl rfl rfl rfl rfl) ?_
  refine Run.go (Ev.build X 2 rfl rfl rfl rfl rfl rfl rfl rfl) ?_
  refine Run.go (Ev.assign rfl rfl) ?_
  refine Run.go (Ev.assign rfl rfl) ?_
  refine Run.go (Ev.assign rfl rfl) ?_
  refine Run.nil ?_
  obtain ⟨v1, hv, h⟩ := bdS h
  refine T.cut (fun _ : Unit => (⟨[(0, .v (.sl Y_api_Query) p0), (1, .v (.sl Y_triviumlaw38_Told) p1), (2, .v (.sl .str) p2), (7, .own 11), (8, .own 2), (9, .v .str ((bs []) : ByteArray))], [(11, .arr 45 Y_engine_Answer v1), (2, .arr 26 Y_api_Query ([] : List D_api_Query))], 120⟩ : St)) (fun _ => True) ?_ (fun _ _ => ?_)
  · replace h := hv
    clear hv
    refine T.seq ?_
    refine T.region ?_
    refine Run.go (Ev.assign rfl rfl) ?_
    refine Run.nil ?_
    refine T.block ?_
    refine T.loop (LoopT.ghost (Ghost.only [(1, 37), (2, 2)] [0, 1, 2, 7, 8, 9, 10] rfl) (LoopT.run (fun q : Int × (List D_engine_Answer) => (⟨[(0, .v (.sl Y_api_Query) p0), (1, .v (.sl Y_triviumlaw38_Told) p1), (2, .v (.sl .str) p2), (7, .own 37), (8, .own 2), (9, .v .str ((bs []) : ByteArray)), (10, .v (.int .i64) q.1)], [(37, .arr 45 Y_engine_Answer q.2), (2, .arr 26 Y_api_Query ([] : List D_api_Query))], 120⟩ : St)) (fun q z1 h hz1 => ?_) h))
    obtain ⟨v2, v3⟩ := q
    dsimp only
    rw [m_triviumlaw38_ReportAll_l1] at h
    refine T.seq ?_
    obtain ⟨v4, hv, h⟩ := bdS h
    refine T.cut (fun _ : Unit => (⟨[(0, .v (.sl Y_api_Query) p0), (1, .v (.sl Y_triviumlaw38_Told) p1), (2, .v (.sl .str) p2), (7, .own 37), (8, .own 2), (9, .v .str ((bs []) : ByteArray)), (10, .v (.int .i64) v2), (26, .v .bool v4)], [(37, .arr 45 Y_engine_Answer v3), (2, .arr 26 Y_api_Query ([] : List D_api_Query))], 120⟩ : St)) (fun _ => True) ?_ (fun _ _ => ?_)
    · replace h := hv
      clear hv
      refine T.region ?_
      refine Run.go (Ev.move rfl rfl) ?_
      refine Run.go (Ev.move rfl rfl) ?_
      refine Run.go (Ev.len X rfl rfl rfl rfl) ?_
      refine Run.go (Ev.int rfl rfl rfl rfl trivial) ?_
      refine Run.go (Ev.move rfl rfl) ?_
      rcases boolCases (decide (v2 < (p1.length : Int))) with hb5 | hb5
      · replace h := ifT hb5 h
        refine Run.on rfl rfl rfl hb5 (Ev.move rfl rfl) ?_
        refine Run.on rfl rfl rfl hb5 (Ev.int rfl rfl rfl rfl trivial) ?_
        refine Run.go (Ev.pickT rfl hb5 rfl rfl) ?_
        refine Run.nil ?_
        cases h
        exact ⟨(), trivial, Ghost.only [(37, 37), (2, 2)] [0, 1, 2, 7, 8, 9, 10, 26] rfl⟩
      · replace h := ifF hb5 h
        refine Run.offT rfl rfl rfl rfl hb5 ?_
        refine Run.offT rfl rfl rfl rfl hb5 ?_
        refine Run.go (Ev.pickF rfl hb5 rfl rfl) ?_
        refine Run.nil ?_
        cases h
        exact ⟨(), trivial, Ghost.only [(37, 37), (2, 2)] [0, 1, 2, 7, 8, 9, 10, 26] rfl⟩
    · refine T.cond rfl (fun hb6 => ?_) (fun hb6 => ?_)
      · replace h := ifT hb6 h
        refine T.skip ?_
        refine T.seq ?_
        refine T.block ?_
        refine T.seq ?_
        refine T.region ?_
        refine Run.go (Ev.move rfl rfl) ?_
        refine Run.go (Ev.move rfl rfl) ?_
        obtain ⟨x7, e8, h⟩ := bdS h
        refine Run.go (Ev.e_rd X e8 rfl rfl rfl rfl) ?_
        refine Run.go (Ev.load X rfl rfl rfl) ?_
        obtain ⟨x9, e10, h⟩ := bdS h
        refine Run.go (Ev.callC en6 (k_triviumlaw38_both e10) rfl (.cons .v .nil) rfl rfl) ?_
        refine Run.go (Ev.move rfl rfl) ?_
        refine Run.go (Ev.extract rfl rfl rfl) ?_
        refine Run.go (Ev.extract rfl rfl rfl) ?_
        refine Run.go (Ev.allocN X 49 rfl rfl rfl) ?_
        refine Run.go (Ev.allocN X 50 rfl rfl rfl) ?_
        refine Run.do_ (Ev.storeBox X rfl rfl rfl rfl rfl rfl rfl) ?_
        refine Run.do_ (Ev.storeBox X rfl rfl rfl rfl rfl rfl rfl) ?_
        refine Run.nil ?_
        refine T.region ?_
        refine Run.go (Ev.move rfl rfl) ?_
        refine Run.go (Ev.loadBox X rfl rfl rfl rfl rfl) ?_
        refine Run.go (Ev.build X 51 rfl rfl rfl rfl rfl rfl rfl rfl) ?_
        obtain ⟨x11, e12, h⟩ := bdS h
        refine Run.go (Ev.e_ap X 52 e12 rfl rfl rfl (.own rfl) rfl rfl rfl rfl rfl) ?_
        refine Run.go (Ev.assign rfl rfl) ?_
        refine Run.nil ?_
        refine T.region ?_
        refine Run.go (Ev.move rfl rfl) ?_
        refine Run.go (Ev.int rfl rfl rfl rfl trivial) ?_
        refine Run.go (Ev.assign rfl rfl) ?_
        refine Run.nil ?_
        cases h
        exact LoopT.ghost (Ghost.onlyK [(52, 37), (2, 2)] [0, 1, 2, 7, 8, 9, 10] rfl (by kernel_rfl)) hz1
      · replace h := ifF hb6 h
        refine T.exit ?_
        cases h
        cases hz1
        exact ⟨(), trivial, Ghost.only [(37, 11), (2, 2)] [0, 1, 2, 7, 8, 9] rfl⟩
  · obtain ⟨v13, hv, h⟩ := bdS h
    refine T.cut (fun _ : Unit => (⟨[(1, .v (.sl Y_triviumlaw38_Told) p1), (2, .v (.sl .str) p2), (7, .own 11), (8, .own 60), (9, .v .str ((bs []) : ByteArray))], [(11, .arr 45 Y_engine_Answer v1), (60, .arr 26 Y_api_Query v13)], 120⟩ : St)) (fun _ => True) ?_ (fun _ _ => ?_)
    · replace h := hv
      clear hv
      refine T.seq ?_
      refine T.region ?_
      refine Run.go (Ev.assign rfl rfl) ?_
      refine Run.nil ?_
      refine T.block ?_
      refine T.loop (LoopT.ghost (Ghost.only [(11, 11), (2, 80)] [0, 1, 2, 7, 8, 9, 13] rfl) (LoopT.run (fun q : Int × (List D_api_Query) => (⟨[(0, .v (.sl Y_api_Query) p0), (1, .v (.sl Y_triviumlaw38_Told) p1), (2, .v (.sl .str) p2), (7, .own 11), (8, .own 80), (9, .v .str ((bs []) : ByteArray)), (13, .v (.int .i64) q.1)], [(11, .arr 45 Y_engine_Answer v1), (80, .arr 26 Y_api_Query q.2)], 120⟩ : St)) (fun q z1 h hz1 => ?_) h))
      obtain ⟨v14, v15⟩ := q
      dsimp only
      rw [m_triviumlaw38_ReportAll_l2] at h
      refine T.seq ?_
      obtain ⟨v16, hv, h⟩ := bdS h
      refine T.cut (fun _ : Unit => (⟨[(0, .v (.sl Y_api_Query) p0), (1, .v (.sl Y_triviumlaw38_Told) p1), (2, .v (.sl .str) p2), (7, .own 11), (8, .own 80), (9, .v .str ((bs []) : ByteArray)), (13, .v (.int .i64) v14), (48, .v .bool v16)], [(11, .arr 45 Y_engine_Answer v1), (80, .arr 26 Y_api_Query v15)], 120⟩ : St)) (fun _ => True) ?_ (fun _ _ => ?_)
      · replace h := hv
        clear hv
        refine T.region ?_
        refine Run.go (Ev.move rfl rfl) ?_
        refine Run.go (Ev.move rfl rfl) ?_
        refine Run.go (Ev.len X rfl rfl rfl rfl) ?_
        refine Run.go (Ev.int rfl rfl rfl rfl trivial) ?_
        refine Run.go (Ev.move rfl rfl) ?_
        rcases boolCases (decide (v14 < (p0.length : Int))) with hb17 | hb17
        · replace h := ifT hb17 h
          refine Run.on rfl rfl rfl hb17 (Ev.move rfl rfl) ?_
          refine Run.on rfl rfl rfl hb17 (Ev.int rfl rfl rfl rfl trivial) ?_
          refine Run.go (Ev.pickT rfl hb17 rfl rfl) ?_
          refine Run.nil ?_
          cases h
          exact ⟨(), trivial, Ghost.only [(11, 11), (80, 80)] [0, 1, 2, 7, 8, 9, 13, 48] rfl⟩
        · replace h := ifF hb17 h
          refine Run.offT rfl rfl rfl rfl hb17 ?_
          refine Run.offT rfl rfl rfl rfl hb17 ?_
          refine Run.go (Ev.pickF rfl hb17 rfl rfl) ?_
          refine Run.nil ?_
          cases h
          exact ⟨(), trivial, Ghost.only [(11, 11), (80, 80)] [0, 1, 2, 7, 8, 9, 13, 48] rfl⟩
      · refine T.cond rfl (fun hb18 => ?_) (fun hb18 => ?_)
        · replace h := ifT hb18 h
          refine T.skip ?_
          refine T.seq ?_
          refine T.block ?_
          refine T.region ?_
          refine Run.go (Ev.move rfl rfl) ?_
          refine Run.go (Ev.move rfl rfl) ?_
          refine Run.go (Ev.move rfl rfl) ?_
          obtain ⟨x19, e20, h⟩ := bdS h
          refine Run.go (Ev.e_rd X e20 rfl rfl rfl rfl) ?_
          refine Run.go (Ev.load X rfl rfl rfl) ?_
          obtain ⟨x21, e22, h⟩ := bdS h
          refine Run.go (Ev.callC en5 (k_triviumref22_CleanQuery e22) rfl (.cons .v .nil) rfl rfl) ?_
          refine Run.go (Ev.build X 89 rfl rfl rfl rfl rfl rfl rfl rfl) ?_
          obtain ⟨x23, e24, h⟩ := bdS h
          refine Run.go (Ev.e_ap X 90 e24 rfl rfl rfl (.own rfl) rfl rfl rfl rfl rfl) ?_
          refine Run.go (Ev.assign rfl rfl) ?_
          refine Run.nil ?_
          refine T.region ?_
          refine Run.go (Ev.move rfl rfl) ?_
          refine Run.go (Ev.int rfl rfl rfl rfl trivial) ?_
          refine Run.go (Ev.assign rfl rfl) ?_
          refine Run.nil ?_
          cases h
          exact LoopT.ghost (Ghost.only [(11, 11), (90, 80)] [0, 1, 2, 7, 8, 9, 13] rfl) hz1
        · replace h := ifF hb18 h
          refine T.exit ?_
          cases h
          cases hz1
          exact ⟨(), trivial, Ghost.only [(11, 11), (80, 60)] [1, 2, 7, 8, 9] rfl⟩
    · obtain ⟨v25, hv, h⟩ := bdS h
      refine T.cut (fun _ : Unit => (⟨[(2, .v (.sl .str) p2), (7, .own 11), (8, .own 60), (9, .v .str v25)], [(11, .arr 45 Y_engine_Answer v1), (60, .arr 26 Y_api_Query v13)], 120⟩ : St)) (fun _ => True) ?_ (fun _ _ => ?_)
      · replace h := hv
        clear hv
        refine T.seq ?_
        refine T.region ?_
        refine Run.go (Ev.assign rfl rfl) ?_
        refine Run.nil ?_
        refine T.block ?_
        refine T.loop (LoopT.ghost (Ghost.only [(11, 11), (60, 60)] [1, 2, 7, 8, 9, 14] rfl) (LoopT.run (fun q : ByteArray × Int => (⟨[(1, .v (.sl Y_triviumlaw38_Told) p1), (2, .v (.sl .str) p2), (7, .own 11), (8, .own 60), (9, .v .str q.1), (14, .v (.int .i64) q.2)], [(11, .arr 45 Y_engine_Answer v1), (60, .arr 26 Y_api_Query v13)], 120⟩ : St)) (fun q z1 h hz1 => ?_) h))
        obtain ⟨v26, v27⟩ := q
        dsimp only
        rw [m_triviumlaw38_ReportAll_l3] at h
        refine T.seq ?_
        obtain ⟨v28, hv, h⟩ := bdS h
        refine T.cut (fun _ : Unit => (⟨[(1, .v (.sl Y_triviumlaw38_Told) p1), (2, .v (.sl .str) p2), (7, .own 11), (8, .own 60), (9, .v .str v26), (14, .v (.int .i64) v27), (68, .v .bool v28)], [(11, .arr 45 Y_engine_Answer v1), (60, .arr 26 Y_api_Query v13)], 120⟩ : St)) (fun _ => True) ?_ (fun _ _ => ?_)
        · replace h := hv
          clear hv
          refine T.region ?_
          refine Run.go (Ev.move rfl rfl) ?_
          refine Run.go (Ev.move rfl rfl) ?_
          refine Run.go (Ev.e_lenO X rfl rfl rfl rfl) ?_
          refine Run.go (Ev.int rfl rfl rfl rfl trivial) ?_
          refine Run.go (Ev.move rfl rfl) ?_
          rcases boolCases (decide (v27 < (v1.length : Int))) with hb29 | hb29
          · replace h := ifT hb29 h
            refine Run.on rfl rfl rfl hb29 (Ev.move rfl rfl) ?_
            refine Run.on rfl rfl rfl hb29 (Ev.move rfl rfl) ?_
            refine Run.on rfl rfl rfl hb29 (Ev.e_lenO X rfl rfl rfl rfl) ?_
            refine Run.on rfl rfl rfl hb29 (Ev.int rfl rfl rfl rfl trivial) ?_
            refine Run.go (Ev.pickT rfl hb29 rfl rfl) ?_
            refine Run.nil ?_
            cases h
            exact ⟨(), trivial, Ghost.only [(11, 11), (60, 60)] [1, 2, 7, 8, 9, 14, 68] rfl⟩
          · replace h := ifF hb29 h
            refine Run.offT rfl rfl rfl rfl hb29 ?_
            refine Run.offT rfl rfl rfl rfl hb29 ?_
            refine Run.offT rfl rfl rfl rfl hb29 ?_
            refine Run.offT rfl rfl rfl rfl hb29 ?_
            refine Run.go (Ev.pickF rfl hb29 rfl rfl) ?_
            refine Run.nil ?_
            cases h
            exact ⟨(), trivial, Ghost.only [(11, 11), (60, 60)] [1, 2, 7, 8, 9, 14, 68] rfl⟩
        · refine T.cond rfl (fun hb30 => ?_) (fun hb30 => ?_)
          · replace h := ifT hb30 h
            refine T.skip ?_
            refine T.seq ?_
            refine T.block ?_
            refine T.seq ?_
            refine T.region ?_
            refine Run.go (Ev.move rfl rfl) ?_
            refine Run.go (Ev.move rfl rfl) ?_
            obtain ⟨x31, e32, h⟩ := bdS h
            refine Run.go (Ev.e_rd X e32 rfl rfl rfl rfl) ?_
            refine Run.go (Ev.load X rfl rfl rfl) ?_
            obtain ⟨x33, e34, h⟩ := bdS h
            refine Run.go (Ev.callC en6 (k_triviumlaw38_both e34) rfl (.cons .v .nil) rfl rfl) ?_
            refine Run.go (Ev.move rfl rfl) ?_
            refine Run.go (Ev.extract rfl rfl rfl) ?_
            refine Run.go (Ev.extract rfl rfl rfl) ?_
            refine Run.go (Ev.allocN X 127 rfl rfl rfl) ?_
            refine Run.go (Ev.allocN X 128 rfl rfl rfl) ?_
            refine Run.do_ (Ev.storeBox X rfl rfl rfl rfl rfl rfl rfl) ?_
            refine Run.do_ (Ev.storeBox X rfl rfl rfl rfl rfl rfl rfl) ?_
            refine Run.nil ?_
            refine T.drawM [] [0, 0, 0, 6, 14, 0, 62, 126, 255, 511] (by kernel_rfl) (by kernel_rfl) ?_
            refine RunD.w (fun _ => Ev.move rfl rfl) ?_
            refine RunD.w (fun _ => Ev.move rfl rfl) ?_
            refine RunD.w (fun _ => Ev.move rfl rfl) ?_
            obtain ⟨x35, e36, h⟩ := bdS h
            refine RunD.a rfl rfl (Ev.e_rdO X e36 rfl rfl rfl rfl rfl) ?_
            refine RunD.a rfl rfl (Ev.e_ldO X (rdS e36).2 rfl rfl rfl rfl) ?_
            refine RunD.a rfl rfl (Ev.loadBox X rfl rfl rfl rfl rfl) ?_
            obtain ⟨x37, e38, h⟩ := bdS h
            refine RunD.a rfl rfl (Ev.callC en8 (k_triviumref38_Line e38) rfl (.cons .v (.cons .v .nil)) rfl rfl) ?_
            obtain ⟨x39, e40, h⟩ := bdS h
            refine RunD.w (fun _ => Ev.e_cat e40 rfl rfl rfl) ?_
            obtain ⟨x41, e42, h⟩ := bdS h
            refine RunD.w (fun _ => Ev.e_cat e42 rfl rfl rfl) ?_
            refine RunD.w (fun _ => Ev.assign rfl rfl) ?_
            refine RunD.nil ?_
            refine T.region ?_
            refine Run.go (Ev.move rfl rfl) ?_
            refine Run.go (Ev.int rfl rfl rfl rfl trivial) ?_
            refine Run.go (Ev.assign rfl rfl) ?_
            refine Run.nil ?_
            cases h
            exact LoopT.ghost (Ghost.onlyK [(11, 11), (60, 60)] [1, 2, 7, 8, 9, 14] rfl (by kernel_rfl)) hz1
          · replace h := ifF hb30 h
            refine T.exit ?_
            cases h
            cases hz1
            exact ⟨(), trivial, Ghost.only [(11, 11), (60, 60)] [2, 7, 8, 9] rfl⟩
      · refine T.seq ?_
        refine T.region ?_
        refine Run.go (Ev.move rfl rfl) ?_
        refine Run.go (Ev.move rfl rfl) ?_
        refine Run.go (Ev.len X rfl rfl rfl rfl) ?_
        refine Run.go (Ev.min rfl rfl rfl) ?_
        obtain ⟨x43, e44, h⟩ := bdS h
        refine Run.go (Ev.e_ct X e44 rfl rfl rfl (fun _ h => by cases h) (fun _ => rfl) (fun _ _ => cutAt_of rfl) (fun h => by cases h)) ?_
        refine Run.go (Ev.assign rfl rfl) ?_
        refine Run.nil ?_
        refine T.seq ?_
        refine T.region ?_
        refine Run.go (Ev.move rfl rfl) ?_
        refine Run.go (Ev.move rfl rfl) ?_
        obtain ⟨x45, e46, h⟩ := bdS h
        refine Run.go (Ev.lend rfl (.cons (.own rfl) (.cons (.own rfl) .nil)) en12 (k_report_All e46) rfl rfl) ?_
        refine Run.go (Ev.move rfl rfl) ?_
        refine Run.go (Ev.strs rfl rfl rfl rfl trivial) ?_
        refine Run.go (Ev.move rfl rfl) ?_
        rcases boolCases (sq x45 v25) with hb47 | hb47
        · replace h := ifT hb47 h
          refine Run.on rfl rfl rfl hb47 (Ev.move rfl rfl) ?_
          obtain ⟨x48, e49, h⟩ := bdS h
          refine Run.on rfl rfl rfl hb47 (Ev.callC en13 (k_strings_Count e49) rfl (.cons .v (.cons .v .nil)) rfl rfl) ?_
          refine Run.on rfl rfl rfl hb47 (Ev.move rfl rfl) ?_
          refine Run.on rfl rfl rfl hb47 (Ev.e_lenO X rfl rfl rfl rfl) ?_
          refine Run.on rfl rfl rfl hb47 (Ev.move rfl rfl) ?_
          refine Run.on rfl rfl rfl hb47 (Ev.e_lenO X rfl rfl rfl rfl) ?_
          refine Run.on rfl rfl rfl hb47 (Ev.min rfl rfl rfl) ?_
          refine Run.on rfl rfl rfl hb47 (Ev.int rfl rfl rfl rfl trivial) ?_
          refine Run.go (Ev.pickT rfl hb47 rfl rfl) ?_
          refine Run.go (Ev.move rfl rfl) ?_
          rcases boolCases (decide ((min (v1.length : Int) (v13.length : Int)) ≤ x48)) with hb50 | hb50
          · replace h := ifT hb50 h
            refine Run.on rfl rfl rfl hb50 (Ev.build X 129 rfl rfl rfl rfl rfl rfl rfl rfl) ?_
            refine Run.on rfl rfl rfl hb50 (Ev.move rfl rfl) ?_
            obtain ⟨x51, e52, h⟩ := bdS h
            refine Run.on rfl rfl rfl hb50 (Ev.e_ap X 130 e52 rfl rfl rfl .v rfl rfl rfl rfl rfl) ?_
            obtain ⟨x53, e54, h⟩ := bdS h
            refine Run.on rfl rfl rfl hb50 (Ev.lend rfl (.cons (.own rfl) .nil) en14 (k_report_Words e54) rfl rfl) ?_
            refine Run.on rfl rfl rfl hb50 (Ev.move rfl rfl) ?_
            obtain ⟨x55, e56, h⟩ := bdS h
            refine Run.on rfl rfl rfl hb50 (Ev.callC en15 (k_strings_Join e56) rfl (.cons .v (.cons .v .nil)) rfl rfl) ?_
            refine Run.on rfl rfl rfl hb50 (Ev.strs rfl rfl rfl rfl trivial) ?_
            refine Run.go (Ev.pickT rfl hb50 rfl rfl) ?_
            refine Run.go (Ev.move rfl rfl) ?_
            rcases boolCases (sq x53 x55) with hb57 | hb57
            · replace h := ifT hb57 h
              obtain ⟨x58, e59, h⟩ := bdS h
              refine Run.on rfl rfl rfl hb57 (Ev.callC en11 (k_triviumlaw38_works e59) rfl .nil rfl rfl) ?_
              refine Run.go (Ev.pickT rfl hb57 rfl rfl) ?_
              refine Run.go (Ev.assign rfl rfl) ?_
              refine Run.nil ?_
              refine T.ret ?_
              cases h
              exact Fin.one rfl .v
            · replace h := ifF hb57 h
              refine Run.offT rfl rfl rfl rfl hb57 ?_
              refine Run.go (Ev.pickF rfl hb57 rfl rfl) ?_
              refine Run.go (Ev.assign rfl rfl) ?_
              refine Run.nil ?_
              refine T.ret ?_
              cases h
              exact Fin.one rfl .v
          · replace h := ifF hb50 h
            refine Run.offT rfl rfl rfl rfl hb50 ?_
            refine Run.offT rfl rfl rfl rfl hb50 ?_
            refine Run.offT rfl rfl rfl rfl hb50 ?_
            refine Run.offT rfl rfl rfl rfl hb50 ?_
            refine Run.offT rfl rfl rfl rfl hb50 ?_
            refine Run.offT rfl rfl rfl rfl hb50 ?_
            refine Run.offT rfl rfl rfl rfl hb50 ?_
            refine Run.go (Ev.pickF rfl hb50 rfl rfl) ?_
            refine Run.go (Ev.move rfl rfl) ?_
            refine Run.offT rfl rfl rfl rfl rfl ?_
            refine Run.go (Ev.pickF rfl rfl rfl rfl) ?_
            refine Run.go (Ev.assign rfl rfl) ?_
            refine Run.nil ?_
            refine T.ret ?_
            cases h
            exact Fin.one rfl .v
        · replace h := ifF hb47 h
          refine Run.offT rfl rfl rfl rfl hb47 ?_
          refine Run.offT rfl rfl rfl rfl hb47 ?_
          refine Run.offT rfl rfl rfl rfl hb47 ?_
          refine Run.offT rfl rfl rfl rfl hb47 ?_
          refine Run.offT rfl rfl rfl rfl hb47 ?_
          refine Run.offT rfl rfl rfl rfl hb47 ?_
          refine Run.offT rfl rfl rfl rfl hb47 ?_
          refine Run.offT rfl rfl rfl rfl hb47 ?_
          refine Run.go (Ev.pickF rfl hb47 rfl rfl) ?_
          refine Run.go (Ev.move rfl rfl) ?_
          refine Run.offT rfl rfl rfl rfl rfl ?_
          refine Run.offT rfl rfl rfl rfl rfl ?_
          refine Run.offT rfl rfl rfl rfl rfl ?_
          refine Run.offT rfl rfl rfl rfl rfl ?_
          refine Run.offT rfl rfl rfl rfl rfl ?_
          refine Run.offT rfl rfl rfl rfl rfl ?_
          refine Run.offT rfl rfl rfl rfl rfl ?_
          refine Run.go (Ev.pickF rfl rfl rfl rfl) ?_
          refine Run.go (Ev.move rfl rfl) ?_
          refine Run.offT rfl rfl rfl rfl rfl ?_
          refine Run.go (Ev.pickF rfl rfl rfl rfl) ?_
          refine Run.go (Ev.assign rfl rfl) ?_
          refine Run.nil ?_
          refine T.ret ?_
          cases h
          exact Fin.one rfl .v
end Go.Proofs.YtkjkipkfndckfaaGreatDoor.AE
/- From a law's contract to its row: how what is handed in reads. -/
namespace Go.Proofs.YtkjkipkfndckfaaGreatDoor.AE
open Go Go.RowKit Go.WideShapes Go.ChangeAt Go.ChangeShapes

/-- values as a program has them -/
def Ty.ok : (t : Ty) → t.den → Prop
  | .int k, n => (Lit.int k n).wf = true
  | .bool, _ => True
  | .str, s => ByteArray.size s ≤ 9223372036854775807
  | .sl t, l => List.length (α := t.den) l ≤ 9223372036854775807 ∧ ∀ (i : Nat) (x : t.den), at? (α := t.den) l i = some x → t.ok x
  | .wrap t, x => t.ok x
  | .pair a b, x => a.ok x.1 ∧ b.ok x.2

theorem listed {α : Type} {Q : Nat → α → Prop} : ∀ n : Nat, (∀ i, i < n → ∃ y, Q i y) → ∃ l : List α, l.length = n ∧ ∀ (i : Nat) (x : α), at? l i = some x → Q i x
  | 0, _ => ⟨[], rfl, fun i x h => by cases h⟩
  | n + 1, h => by
    obtain ⟨l, h1, h2⟩ := listed n fun i hi => h i (by omega)
    obtain ⟨y, hy⟩ := h n (by omega)
    refine ⟨l ++ [y], by simp [h1], fun i x hx => ?_⟩
    unfold at? at hx
    by_cases hi : i < n
    · rw [List.getElem?_append_left (by omega)] at hx; exact h2 i x hx
    · have : i < (l ++ [y]).length := (List.getElem?_eq_some_iff.1 hx).1
      simp at this
      obtain rfl : i = n := by omega
      rw [List.getElem?_append_right (by omega)] at hx
      simp [h1] at hx
      exact hx ▸ hy

section
variable {H : Type} {enc : TypeId × Value → H} {P : Program} {w : World}
abbrev N0 : Nat → Prop := fun _ => False

def OpenT (enc : TypeId × Value → H) (P : Program) (w : World) (t : Ty) : Prop := ∀ (n : Nat) (i : TypeId) (fuel : Nat) (cs : List Value) (x : DataW H × List MemPlace),
  chk P n t i = true → DataW.trod enc P w 0 (fun _ => true) true fuel i cs = some x → ∃ y : t.den, t.relc w N0 y cs ∧ t.ok y
def OpenR (enc : TypeId × Value → H) (P : Program) (w : World) (t : Ty) : Prop := ∀ (n : Nat) (fs : List Field) (off : Nat) (m : Nat) (cs : List Value),
  chkR (chk P n) t fs off = true → cs.length = off + t.sz → (∀ (j : Nat) f, fs[j]? = some f → ∃ z, DataW.trod enc P w 0 (fun _ => true) true m f.type ((cs.drop f.offset).take (P.cellsOf f.type)) = some z) →
    ∃ y : t.den, t.relc w N0 y (cs.drop off) ∧ t.ok y
theorem chk_cells {n : Nat} {t : Ty} {i : TypeId} (h : chk P n t i = true) : P.cellsOf i = t.sz := by
  obtain ⟨f, z, h1, h2, _⟩ := Is.info ⟨n, h⟩
  simp [Program.cellsOf, h1, h2]
theorem openR_one {t : Ty} (ht : OpenT enc P w t) {n : Nat} {f : Field} {off m : Nat} {cs : List Value} (h : (f.offset == off && chk P n t f.type) = true) (hl : cs.length = off + t.sz)
    (hz : ∃ z, DataW.trod enc P w 0 (fun _ => true) true m f.type ((cs.drop f.offset).take (P.cellsOf f.type)) = some z) : ∃ y : t.den, t.relc w N0 y (cs.drop off) ∧ t.ok y := by
  rw [Bool.and_eq_true, beq_iff_eq] at h
  obtain ⟨rfl, hc⟩ := h
  obtain ⟨z, hz⟩ := hz
  rw [chk_cells hc, List.take_of_length_le (by rw [List.length_drop]; omega)] at hz
  exact ht n _ _ _ _ hc hz
theorem open_all (t : Ty) : OpenT enc P w t ∧ OpenR enc P w t := by
  have base : ∀ t : Ty, (∀ a b, t ≠ .pair a b) → OpenT enc P w t → OpenR enc P w t := by
    intro t hn ht n fs off m cs h hl hz
    cases fs with
    | nil => simp [chkR] at h
    | cons f r =>
      cases r with
      | nil => exact openR_one ht (by cases t <;> simpa [chkR] using h) hl (hz 0 f rfl)
      | cons g r => cases t <;> first | exact absurd rfl (hn _ _) | simp [chkR] at h
  induction t with
  | int k =>
    refine (fun h => ⟨h, base _ (fun _ _ h => by cases h) h⟩) ?_
    intro n i fuel cs x hc hx
    obtain ⟨z, h1, _, h2⟩ := DataW.trod_int (Is.desc ⟨n, hc⟩) hx
    exact ⟨z, h1, h2⟩
  | bool =>
    refine (fun h => ⟨h, base _ (fun _ _ h => by cases h) h⟩) ?_
    intro n i fuel cs x hc hx
    obtain ⟨z, h1, _⟩ := DataW.trod_bool (Is.desc ⟨n, hc⟩) hx
    exact ⟨z, h1, trivial⟩
  | str =>
    refine (fun h => ⟨h, base _ (fun _ _ h => by cases h) h⟩) ?_
    intro n i fuel cs x hc hx
    obtain ⟨z, h1, _, h2⟩ := DataW.trod_string (Is.desc ⟨n, hc⟩) hx
    exact ⟨z, h1, h2⟩
  | sl t ih =>
    refine (fun h => ⟨h, base _ (fun _ _ h => by cases h) h⟩) ?_
    intro n i fuel cs x hc hx
    obtain ⟨e, h1, h2⟩ := Is.desc ⟨n, hc⟩
    obtain ⟨k, h2⟩ := h2
    rcases DataW.trod_slice h1 hx with ⟨rfl, _⟩ | ⟨a, len, cap, elems, rest, m, _, rfl, _, _, hl, hm, hel, hcell, _⟩
    · exact ⟨([] : List t.den), ⟨none, 0, rfl, Nat.le_refl _, Nat.zero_le _, fun h => absurd h (Nat.lt_irrefl _)⟩, Nat.zero_le _, fun i x h => by cases h⟩
    · rw [chk_cells h2] at hcell
      obtain ⟨l, hll, hlq⟩ := listed (Q := fun j (y : t.den) => ∃ ds, t.relc w N0 y ds ∧ t.ok y ∧ ∀ (q : Nat) u, ds[q]? = some u → w.cell? (a.add (j * t.sz + q)) = some u) len (by
        intro j hj
        have hb := hcell j hj
        obtain ⟨el, hel'⟩ : ∃ z, elems[j]? = some z := ⟨_, List.getElem?_eq_getElem (by omega)⟩
        rw [hel'] at hb
        obtain ⟨ds, hd1, hd2⟩ := Option.bind_eq_some_iff.1 hb
        obtain ⟨_, hlen, hcs⟩ := World.cells?_some hd1
        obtain ⟨y, hy1, hy2⟩ := ih.1 k e m ds el h2 hd2
        refine ⟨y, ds, hy1, hy2, fun q u hu => ?_⟩
        have hq : q < t.sz := by have := (List.getElem?_eq_some_iff.1 hu).1; omega
        have := hcs q hq
        rw [Addr.add_add] at this
        rw [this, hu])
      refine ⟨l, ⟨some a, cap, by show _ = [Value.slice (some a) (List.length l) cap]; rw [hll], by show List.length l ≤ cap; omega, hm, fun _ => ⟨a, rfl, fun h => h, fun i x hx => ?_⟩⟩, by show List.length l ≤ _; have : maxLen = 9223372036854775807 := rfl; omega, fun i x hx => ?_⟩
      · obtain ⟨ds, h3, _, h4⟩ := hlq i x hx; exact ⟨ds, h3, h4⟩
      · obtain ⟨ds, _, h3, _⟩ := hlq i x hx; exact h3
  | wrap t ih =>
    refine (fun h => ⟨h, base _ (fun _ _ h => by cases h) h⟩) ?_
    intro n i fuel cs x hc hx
    obtain ⟨f, h1, h2, k, h3⟩ := Is.desc ⟨n, hc⟩
    obtain ⟨xs, m, _, _, hl, hlen, hf⟩ := DataW.trod_struct h1 hx
    rw [chk_cells hc] at hl
    have h4 := hf 0 f rfl
    rw [h2, chk_cells h3, List.drop_zero, List.take_of_length_le (by rw [hl]; exact Nat.le_refl _)] at h4
    obtain ⟨z, hz⟩ : ∃ z, xs[0]? = some z := ⟨_, List.getElem?_eq_getElem (by rw [hlen]; exact Nat.one_pos)⟩
    rw [hz] at h4
    exact ih.1 k _ _ _ _ h3 h4
  | pair a b iha ihb =>
    have hT : OpenT enc P w (.pair a b) := by
      intro n i fuel cs x hc hx
      obtain ⟨f, g, r, h1, h2, k, h3, h4⟩ := Is.desc ⟨n, hc⟩
      obtain ⟨xs, m, _, _, hl, hlen, hf⟩ := DataW.trod_struct h1 hx
      rw [chk_cells hc] at hl
      have hl : cs.length = a.sz + b.sz := hl
      have hsome : ∀ (j : Nat) f', (f :: g :: r)[j]? = some f' → ∃ z, DataW.trod enc P w 0 (fun _ => true) true m f'.type ((cs.drop f'.offset).take (P.cellsOf f'.type)) = some z := by
        intro j f' hj
        have h5 := hf j f' (by simpa using hj)
        have hj' : j < xs.length := by rw [hlen]; simpa using (List.getElem?_eq_some_iff.1 hj).1
        exact ⟨xs[j], by rw [h5, List.getElem?_eq_getElem hj']⟩
      obtain ⟨z, hz⟩ := hsome 0 f rfl
      rw [h2, chk_cells h3, List.drop_zero] at hz
      obtain ⟨y1, r1, o1⟩ := iha.1 k _ _ _ _ h3 hz
      obtain ⟨y2, r2, o2⟩ := ihb.2 k (g :: r) a.sz m cs h4 hl (fun j f' hj => hsome (j + 1) f' (by simpa using hj))
      exact ⟨(y1, y2), ⟨_, _, (List.take_append_drop a.sz cs).symm, r1, r2⟩, o1, o2⟩
    refine ⟨hT, ?_⟩
    intro n fs off m cs h hl hz
    cases fs with
    | nil => simp [chkR] at h
    | cons f r =>
      cases r with
      | nil => exact openR_one hT (by simpa [chkR] using h) hl (hz 0 f rfl)
      | cons g r =>
        simp only [chkR, Bool.and_eq_true, beq_iff_eq] at h
        obtain ⟨⟨rfl, hc⟩, hr⟩ := h
        have hl : cs.length = f.offset + (a.sz + b.sz) := hl
        obtain ⟨z, hz0⟩ := hz 0 f rfl
        rw [chk_cells hc] at hz0
        obtain ⟨y1, r1, o1⟩ := iha.1 n _ _ _ _ hc hz0
        obtain ⟨y2, r2, o2⟩ := ihb.2 n (g :: r) (f.offset + a.sz) m cs hr (by omega) (fun j f' hj => hz (j + 1) f' (by simpa using hj))
        refine ⟨(y1, y2), ⟨_, _, ?_, r1, r2⟩, o1, o2⟩
        rw [← List.drop_drop, List.take_append_drop]

/-- What is handed in is a value. -/
theorem open_v {t : Ty} {i : TypeId} {b0 : Nat} {r : Reach} {v : Value} {d : DataW H} {p : List MemPlace} (hi : Is P t i) (hv : Value.okWide P w r b0 i v) (h : DataW.Trod enc P w 0 (fun _ => true) true i v d p) :
    ∃ y : t.den, t.ok y ∧ t.rel w N0 y v := by
  obtain ⟨fuel, hf⟩ := h
  obtain ⟨n, hn⟩ := hi
  obtain ⟨y, h1, h2⟩ := (open_all (enc := enc) (P := P) (w := w) t).1 n i fuel _ _ hn hf
  refine ⟨y, h2, _, h1, ?_⟩
  have hd := Is.desc ⟨n, hn⟩
  have flat : t.agg = false → v.cells = #[v] → v = t.val v.cells.toList := by
    intro ha hc
    rw [hc]
    unfold Ty.val
    rw [ha]
    rfl
  have aggr : t.agg = true → (∃ cs, v = .agg cs) → v = t.val v.cells.toList := by
    rintro ha ⟨cs, rfl⟩
    unfold Ty.val
    rw [ha]
    rfl
  cases t with
  | int k => obtain ⟨z, rfl⟩ := okWide_int hd hv; exact flat rfl rfl
  | bool => obtain ⟨z, rfl⟩ := okWide_bool hd hv; exact flat rfl rfl
  | str => obtain ⟨z, rfl⟩ := okWide_string hd hv; exact flat rfl rfl
  | sl t => obtain ⟨e, hd, _⟩ := hd; obtain ⟨a, l, c, rfl⟩ := okWide_slice hd hv; exact flat rfl rfl
  | wrap t => obtain ⟨f, hd, _⟩ := hd; obtain ⟨cs, rfl, _⟩ := okWide_struct hd hv; exact aggr rfl ⟨_, rfl⟩
  | pair a b => obtain ⟨f, g, r, hd, _⟩ := hd; obtain ⟨cs, rfl, _⟩ := okWide_struct hd hv; exact aggr rfl ⟨_, rfl⟩
end

/-- a law holds of all arguments -/
def LawArgs : List Ty → (List AV → Prop) → Prop
  | [], Q => Q []
  | t :: r, Q => ∀ y : t.den, t.ok y → LawArgs r (fun l => Q (.v t y :: l))
theorem law_calls {P : Program} {f : Nat} {avs : List AV} {W : World} {args : List Value} (hG : Glo W) (h : Spec P f avs (.v .bool true) []) (hr : AV.rels W N0 (fun _ => (0, 0)) [] avs args) :
    Calls P f args.toArray W fun e W' => e = .returned (.bool true) ∧ Below W.heap.size W W' := by
  refine (h N0 W args hG (fun _ h => h.elim) hr).mono fun e W' ⟨u, loc, he, _, hu, hb⟩ => ?_
  obtain ⟨cs, hc, rfl⟩ := hu
  have hc : cs = [.bool true] := hc
  subst hc
  exact ⟨he, hb⟩
end Go.Proofs.YtkjkipkfndckfaaGreatDoor.AE
/- Plain facts on numbers by digits of any base, and on lists: no program in sight. -/
namespace Go.Proofs.YtkjkipkfndckfaaGreatDoor.Tri

def dv (B : Int) : List Int → Int
  | [] => 0
  | x :: xs => x + B * dv B xs

def Dig (B : Int) (l : List Int) : Prop := ∀ x, x ∈ l → 0 ≤ x ∧ x < B

/-- no nought at the end -/
def Top (l : List Int) : Prop := l.getLast? ≠ some 0

def Can (B : Int) (l : List Int) : Prop := Dig B l ∧ Top l

theorem dv_nil (B : Int) : dv B [] = 0 := rfl
theorem dv_cons (B x : Int) (xs : List Int) : dv B (x :: xs) = x + B * dv B xs := rfl
theorem dv_one (B x : Int) : dv B [x] = x := by simp [dv]

theorem dv_append (B : Int) (a b : List Int) : dv B (a ++ b) = dv B a + B ^ a.length * dv B b := by
  induction a with
  | nil => simp [dv]
  | cons x xs ih =>
    simp only [List.cons_append, dv, ih, List.length_cons, Int.pow_succ]
    grind

theorem dv_snoc (B : Int) (a : List Int) (x : Int) : dv B (a ++ [x]) = dv B a + B ^ a.length * x := by
  rw [dv_append, dv_one]

theorem Dig.nil (B : Int) : Dig B [] := fun _ h => by simp at h
theorem Dig.cons {B x : Int} {l : List Int} (h : 0 ≤ x ∧ x < B) (hl : Dig B l) : Dig B (x :: l) := by
  intro y hy
  rcases List.mem_cons.1 hy with rfl | hy
  · exact h
  · exact hl y hy
theorem Dig.head {B x : Int} {l : List Int} (h : Dig B (x :: l)) : 0 ≤ x ∧ x < B := h x (by simp)
theorem Dig.tail {B x : Int} {l : List Int} (h : Dig B (x :: l)) : Dig B l := fun y hy => h y (by simp [hy])
theorem Dig.append {B : Int} {a b : List Int} (ha : Dig B a) (hb : Dig B b) : Dig B (a ++ b) := by
  intro y hy
  rcases List.mem_append.1 hy with hy | hy
  · exact ha y hy
  · exact hb y hy
theorem Dig.snoc {B x : Int} {l : List Int} (hl : Dig B l) (h : 0 ≤ x ∧ x < B) : Dig B (l ++ [x]) :=
  hl.append (Dig.cons h (Dig.nil B))
theorem Dig.left {B : Int} {a b : List Int} (h : Dig B (a ++ b)) : Dig B a := fun y hy => h y (by simp [hy])
theorem Dig.right {B : Int} {a b : List Int} (h : Dig B (a ++ b)) : Dig B b := fun y hy => h y (by simp [hy])
theorem Dig.take {B : Int} {a : List Int} (h : Dig B a) (n : Nat) : Dig B (a.take n) := fun y hy => h y (List.mem_of_mem_take hy)
theorem Dig.drop {B : Int} {a : List Int} (h : Dig B a) (n : Nat) : Dig B (a.drop n) := fun y hy => h y (List.mem_of_mem_drop hy)
theorem Dig.set {B : Int} {a : List Int} (h : Dig B a) (n : Nat) {v : Int} (hv : 0 ≤ v ∧ v < B) : Dig B (a.set n v) := by
  intro y hy
  rcases List.mem_or_eq_of_mem_set hy with hy | rfl
  · exact h y hy
  · exact hv
theorem Dig.replicate {B : Int} (hB : 0 < B) (n : Nat) : Dig B (List.replicate n 0) := by
  intro y hy
  have := (List.mem_replicate.1 hy).2
  subst this; omega

theorem dv_nonneg {B : Int} (hB : 0 < B) {l : List Int} (h : Dig B l) : 0 ≤ dv B l := by
  induction l with
  | nil => simp [dv]
  | cons x xs ih =>
    have h1 := h.head
    have h2 := ih h.tail
    have := Int.mul_nonneg (Int.le_of_lt hB) h2
    simp only [dv]; omega

theorem pow_pos' {B : Int} (hB : 0 < B) (n : Nat) : 0 < B ^ n := Int.pow_pos hB

theorem dv_lt {B : Int} (hB : 0 < B) {l : List Int} (h : Dig B l) : dv B l < B ^ l.length := by
  induction l with
  | nil => simp [dv]
  | cons x xs ih =>
    have h1 := h.head
    have h2 := ih h.tail
    have : B * (dv B xs + 1) ≤ B * B ^ xs.length := Int.mul_le_mul_of_nonneg_left (by omega) (Int.le_of_lt hB)
    simp only [dv, List.length_cons, Int.pow_succ]
    grind

theorem dv_replicate (B : Int) (n : Nat) : dv B (List.replicate n 0) = 0 := by
  induction n with
  | zero => rfl
  | succ n ih => simp [List.replicate_succ, dv, ih]

theorem dv_append_zeros (B : Int) (a : List Int) (n : Nat) : dv B (a ++ List.replicate n 0) = dv B a := by
  rw [dv_append, dv_replicate]; simp

/-- two lists of digits of one length and one value are the same -/
theorem dv_inj_len {B : Int} (hB : 0 < B) : ∀ {a b : List Int}, Dig B a → Dig B b → a.length = b.length → dv B a = dv B b → a = b
  | [], [], _, _, _, _ => rfl
  | [], _ :: _, _, _, h, _ => by simp at h
  | _ :: _, [], _, _, h, _ => by simp at h
  | x :: xs, y :: ys, ha, hb, hl, hv => by
    have h1 := ha.head
    have h2 := hb.head
    simp only [dv] at hv
    have e1 : (x + B * dv B xs) % B = x := by rw [Int.add_mul_emod_self_left, Int.emod_eq_of_lt h1.1 h1.2]
    have e2 : (y + B * dv B ys) % B = y := by rw [Int.add_mul_emod_self_left, Int.emod_eq_of_lt h2.1 h2.2]
    have hxy : x = y := by rw [← e1, ← e2, hv]
    subst hxy
    have h3 : B * dv B xs = B * dv B ys := by omega
    have h4 : dv B xs = dv B ys := Int.eq_of_mul_eq_mul_left (by omega) h3
    rw [dv_inj_len hB ha.tail hb.tail (by simpa using hl) h4]

theorem Top.nil : Top [] := by simp [Top]
theorem Top.snoc {l : List Int} {x : Int} : Top (l ++ [x]) ↔ x ≠ 0 := by simp [Top]
theorem Can.nil (B : Int) : Can B [] := ⟨Dig.nil B, Top.nil⟩

theorem eq_snoc {α : Type} {l : List α} (h : l ≠ []) : ∃ a x, l = a ++ [x] :=
  ⟨l.dropLast, l.getLast h, (List.dropLast_concat_getLast h).symm⟩

theorem Can.ge {B : Int} (hB : 0 < B) {l : List Int} (h : Can B l) (hl : l ≠ []) : B ^ (l.length - 1) ≤ dv B l := by
  obtain ⟨a, x, rfl⟩ := eq_snoc hl
  have hx := Top.snoc.1 h.2
  have hd := h.1.right.head
  have ha := dv_nonneg hB h.1.left
  rw [dv_snoc]
  have : B ^ a.length * 1 ≤ B ^ a.length * x := Int.mul_le_mul_of_nonneg_left (by omega) (Int.le_of_lt (pow_pos' hB _))
  simp only [List.length_append, List.length_cons, List.length_nil, Nat.add_sub_cancel, Nat.zero_add]
  omega

theorem Can.pos {B : Int} (hB : 0 < B) {l : List Int} (h : Can B l) (hl : l ≠ []) : 0 < dv B l := by
  have := h.ge hB hl
  have := pow_pos' hB (l.length - 1)
  omega

theorem Can.eq_nil {B : Int} (hB : 0 < B) {l : List Int} (h : Can B l) : l = [] ↔ dv B l = 0 := by
  constructor
  · rintro rfl; rfl
  · intro hv
    apply Classical.byContradiction
    intro hl
    have := h.pos hB hl
    omega

theorem pow_mono {B : Int} (hB : 0 < B) {m n : Nat} (h : m ≤ n) : B ^ m ≤ B ^ n := by
  obtain ⟨d, rfl⟩ := Nat.exists_eq_add_of_le h
  rw [Int.pow_add]
  have h1 := pow_pos' hB m
  have h2 := pow_pos' hB d
  have : B ^ m * 1 ≤ B ^ m * B ^ d := Int.mul_le_mul_of_nonneg_left (by omega) (Int.le_of_lt h1)
  omega

/-- of two canonical lists the longer one is the greater -/
theorem Can.lt_of_length {B : Int} (hB : 0 < B) {a b : List Int} (ha : Dig B a) (hb : Can B b) (h : a.length < b.length) : dv B a < dv B b := by
  have h1 := dv_lt hB ha
  have hne : b ≠ [] := by rintro rfl; simp at h
  have h2 := hb.ge hB hne
  have h3 := pow_mono hB (show a.length ≤ b.length - 1 by omega)
  omega

theorem Can.inj {B : Int} (hB : 0 < B) {a b : List Int} (ha : Can B a) (hb : Can B b) (hv : dv B a = dv B b) : a = b := by
  rcases Nat.lt_trichotomy a.length b.length with h | h | h
  · have := Can.lt_of_length hB ha.1 hb h; omega
  · exact dv_inj_len hB ha.1 hb.1 h hv
  · have := Can.lt_of_length hB hb.1 ha h; omega

/-- without noughts at the end -/
def trimz : List Int → List Int
  | [] => []
  | x :: xs => if trimz xs = [] ∧ x = 0 then [] else x :: trimz xs

theorem trimz_dig {B : Int} {l : List Int} (h : Dig B l) : Dig B (trimz l) := by
  induction l with
  | nil => exact h
  | cons x xs ih =>
    simp only [trimz]; split
    · exact Dig.nil B
    · exact Dig.cons h.head (ih h.tail)

theorem trimz_top (l : List Int) : Top (trimz l) := by
  induction l with
  | nil => exact Top.nil
  | cons x xs ih =>
    simp only [trimz]; split
    · exact Top.nil
    · rename_i hn
      by_cases he : trimz xs = []
      · rw [he]; simp [Top]; intro hx; exact hn ⟨he, hx⟩
      · unfold Top; rw [List.getLast?_cons_of_ne_nil he]; exact ih

theorem trimz_dv (B : Int) (l : List Int) : dv B (trimz l) = dv B l := by
  induction l with
  | nil => rfl
  | cons x xs ih =>
    simp only [trimz]; split
    · rename_i h
      rw [h.1] at ih; simp only [dv] at *; rw [← ih, h.2]; simp
    · simp only [dv, ih]

theorem trimz_can {B : Int} {l : List Int} (h : Dig B l) : Can B (trimz l) := ⟨trimz_dig h, trimz_top l⟩

theorem trimz_snoc_zero (l : List Int) : trimz (l ++ [0]) = trimz l := by
  induction l with
  | nil => simp [trimz]
  | cons x xs ih => simp only [List.cons_append, trimz, ih]

theorem trimz_of_top {l : List Int} (h : Top l) : trimz l = l := by
  induction l with
  | nil => rfl
  | cons x xs ih =>
    simp only [trimz]
    by_cases he : xs = []
    · subst he
      have : x ≠ 0 := by simpa [Top] using h
      simp [trimz, this]
    · have ht : Top xs := by unfold Top at *; rwa [List.getLast?_cons_of_ne_nil he] at h
      rw [ih ht, if_neg (by simp [he])]

theorem trimz_length (l : List Int) : (trimz l).length ≤ l.length := by
  induction l with
  | nil => simp [trimz]
  | cons x xs ih => simp only [trimz]; split <;> simp <;> omega

end Go.Proofs.YtkjkipkfndckfaaGreatDoor.Tri
/- Plain facts for printed functions: numbers by digits, loops, reads. -/
namespace Go.Proofs.YtkjkipkfndckfaaGreatDoor.AP
open Go Go.Proofs.YtkjkipkfndckfaaGreatDoor.Tri
set_option linter.unusedVariables false

/-! loops, round by round -/
def go_ {S X : Type} : Option (S ⊕ X) → (S → Option X) → Option X
  | none, _ => none
  | some (.inl s), k => k s
  | some (.inr x), _ => some x
@[simp] theorem go_inl {S X : Type} (s : S) (k : S → Option X) : go_ (some (.inl s)) k = k s := rfl
@[simp] theorem go_inr {S X : Type} (x : X) (k : S → Option X) : go_ (some (.inr x)) k = some x := rfl
theorem lp_go {S X : Type} (f : S → Option (S ⊕ X)) (s : S) : lp f s = go_ (f s) (lp f) := by
  rw [lp_eq]
  cases f s with
  | none => rfl
  | some z => cases z <;> rfl
/-- the place of the first one that has p; the length where there is none -/
def fst_ {α : Type} (p : α → Bool) : List α → Nat
  | [] => 0
  | x :: l => if p x then 0 else fst_ p l + 1
/-- where the first one is, -1: nowhere -/
def idx {α : Type} (p : α → Bool) (l : List α) : Int := if fst_ p l < l.length then (fst_ p l : Int) else -1
/-! reads of numbers -/
def gI (l : List Int) (i : Int) : Int := l.getD i.toNat 0
theorem rd_I {l : List Int} {i : Int} (h0 : 0 ≤ i) (h1 : i < l.length) : rd l i = some (gI l i) := rd_getD 0 h0 h1
theorem gI_dig {B : Int} {l : List Int} (h : Dig B l) (hB : 0 < B) (i : Int) : 0 ≤ gI l i ∧ gI l i < B := by
  unfold gI
  rw [List.getD_eq_getElem?_getD]
  cases hx : l[i.toNat]? with
  | none => exact ⟨Int.le_refl _, hB⟩
  | some x => exact h x (List.mem_of_getElem? hx)
theorem take_gI (B : Int) : ∀ (l : List Int) (i : Nat), i < l.length → dv B (l.take (i + 1)) = dv B (l.take i) + B ^ i * gI l (i : Int) := by
  intro l i h
  rw [List.take_add_one, List.getElem?_eq_getElem h]
  simp only [Option.toList]
  rw [dv_snoc, List.length_take, Nat.min_eq_left (Nat.le_of_lt h)]
  simp [gI, h]
theorem drop_gI (l : List Int) (q : Nat) (h : q < l.length) : l.drop q = gI l (q : Int) :: l.drop (q + 1) := by
  rw [List.drop_eq_getElem_cons h]; simp [gI, h]
theorem gI_last (a : List Int) (x : Int) : gI (a ++ [x]) (a.length : Int) = x := by simp [gI]

/-! numbers of a value -/
def num (B : Nat) (x : Nat) : List Int := if h : 1 < B ∧ 0 < x then ((x % B : Nat) : Int) :: num B (x / B) else []
termination_by x
decreasing_by exact Nat.div_lt_self h.2 h.1
theorem num_dv {B : Nat} (hB : 1 < B) : ∀ x : Nat, dv (B : Int) (num B x) = x := by
  intro x
  induction x using Nat.strongRecOn with
  | _ x ih =>
    rw [num]
    by_cases h : 0 < x
    · rw [dif_pos ⟨hB, h⟩, dv, ih _ (Nat.div_lt_self h hB)]
      have := Nat.mod_add_div x B
      have e : ((x % B : Nat) : Int) + (B : Int) * ((x / B : Nat) : Int) = ((x % B + B * (x / B) : Nat) : Int) := by push_cast; rfl
      rw [e, this]
    · rw [dif_neg (by omega)]
      have : x = 0 := by omega
      rw [this]; rfl
theorem num_can {B : Nat} (hB : 1 < B) : ∀ x : Nat, Tri.Can (B : Int) (num B x) := by
  intro x
  induction x using Nat.strongRecOn with
  | _ x ih =>
    rw [num]
    by_cases h : 0 < x
    · rw [dif_pos ⟨hB, h⟩]
      have hc := ih _ (Nat.div_lt_self h hB)
      have hm := Nat.mod_lt x (show 0 < B by omega)
      refine ⟨Dig.cons ⟨by omega, by omega⟩ hc.1, ?_⟩
      by_cases he : num B (x / B) = []
      · rw [he]
        have h0 : x / B = 0 := by
          have := num_dv hB (x / B)
          rw [he] at this
          have h2 : ((x / B : Nat) : Int) = 0 := this.symm
          omega
        have h1 : x % B = x := by have := Nat.mod_add_div x B; rw [h0, Nat.mul_zero] at this; omega
        rw [h1]
        simp [Top]
        omega
      · unfold Top
        rw [List.getLast?_cons_of_ne_nil he]
        exact hc.2
    · rw [dif_neg (by omega)]
      exact Tri.Can.nil _
theorem can_num {B : Nat} (hB : 1 < B) {l : List Int} (h : Tri.Can (B : Int) l) : l = num B (dv (B : Int) l).toNat := by
  refine Tri.Can.inj (by omega) h (num_can hB _) ?_
  rw [num_dv hB]
  have := dv_nonneg (B := (B : Int)) (by omega) h.1
  omega
def nl (x : Int) : List Int := num 4294967296 x.toNat
def zl (x : Int) : List Int := num 10000 x.toNat
theorem nl_can (x : Int) : Tri.Can (4294967296 : Int) (nl x) := num_can (by decide) _
theorem zl_can (x : Int) : Tri.Can (10000 : Int) (zl x) := num_can (by decide) _
theorem nl_dv {x : Int} (h : 0 ≤ x) : dv (4294967296 : Int) (nl x) = x := by
  have := num_dv (B := 4294967296) (by decide) x.toNat
  have e : ((4294967296 : Nat) : Int) = (4294967296 : Int) := rfl
  rw [e] at this
  unfold nl
  rw [this]; omega
theorem zl_dv {x : Int} (h : 0 ≤ x) : dv (10000 : Int) (zl x) = x := by
  have := num_dv (B := 10000) (by decide) x.toNat
  have e : ((10000 : Nat) : Int) = (10000 : Int) := rfl
  rw [e] at this
  unfold zl
  rw [this]; omega
theorem can_nl {d : List Int} (h : Tri.Can (4294967296 : Int) d) {x : Int} (hx : dv (4294967296 : Int) d = x) : d = nl x := by
  have h2 := can_num (B := 4294967296) (by decide) h
  rw [h2]; unfold nl; congr 2
theorem can_zl {d : List Int} (h : Tri.Can (10000 : Int) d) {x : Int} (hx : dv (10000 : Int) d = x) : d = zl x := by
  have h2 := can_num (B := 10000) (by decide) h
  rw [h2]; unfold zl; congr 2
theorem trimz_nl {d : List Int} (h : Dig (4294967296 : Int) d) {x : Int} (hx : dv (4294967296 : Int) d = x) : trimz d = nl x := can_nl (trimz_can h) (by rw [trimz_dv, hx])
theorem trimz_zl {d : List Int} (h : Dig (10000 : Int) d) {x : Int} (hx : dv (10000 : Int) d = x) : trimz d = zl x := can_zl (trimz_can h) (by rw [trimz_dv, hx])
theorem nl_zero : nl 0 = [] := by unfold nl; rw [num]; simp
theorem zl_zero : zl 0 = [] := by unfold zl; rw [num]; simp
theorem nl_nil {x : Int} (h : 0 ≤ x) : nl x = [] ↔ x = 0 := by
  rw [Can.eq_nil (by decide) (nl_can x), nl_dv h]
theorem zl_nil {x : Int} (h : 0 ≤ x) : zl x = [] ↔ x = 0 := by
  rw [Can.eq_nil (by decide) (zl_can x), zl_dv h]
theorem can_len {B : Int} (hB : 1 < B) {l : List Int} (h : Tri.Can B l) {n : Nat} (hx : dv B l < B ^ n) : l.length ≤ n := by
  apply Nat.le_of_not_lt
  intro hlt
  have hne : l ≠ [] := by rintro rfl; simp at hlt
  have h1 := h.ge (by omega) hne
  have h2 := pow_mono (B := B) (by omega) (show n ≤ l.length - 1 by omega)
  omega
theorem zl_len {x : Int} (h0 : 0 ≤ x) {n : Nat} (hx : x < (10000 : Int) ^ n) : (zl x).length ≤ n := can_len (by decide) (zl_can x) (by rw [zl_dv h0]; exact hx)
theorem nl_len {x : Int} (h0 : 0 ≤ x) {n : Nat} (hx : x < (4294967296 : Int) ^ n) : (nl x).length ≤ n := can_len (by decide) (nl_can x) (by rw [nl_dv h0]; exact hx)
theorem zl_mono {x y : Int} (h0 : 0 ≤ x) (h : x ≤ y) : (zl x).length ≤ (zl y).length := by
  apply Nat.le_of_not_lt
  intro hlt
  have := Can.lt_of_length (by decide) (zl_can y).1 (zl_can x) hlt
  rw [zl_dv h0, zl_dv (by omega)] at this; omega
theorem nl_mono {x y : Int} (h0 : 0 ≤ x) (h : x ≤ y) : (nl x).length ≤ (nl y).length := by
  apply Nat.le_of_not_lt
  intro hlt
  have := Can.lt_of_length (by decide) (nl_can y).1 (nl_can x) hlt
  rw [nl_dv h0, nl_dv (by omega)] at this; omega
theorem pow_le {a b : Int} (ha : 0 ≤ a) (h : a ≤ b) : ∀ n : Nat, a ^ n ≤ b ^ n
  | 0 => by simp
  | n + 1 => by
    rw [Int.pow_succ, Int.pow_succ]
    exact Int.mul_le_mul (pow_le ha h n) h ha (Int.pow_nonneg (by omega))
theorem lb_zb (n : Nat) : (4294967296 : Int) ^ n ≤ (10000 : Int) ^ (3 * n) := by
  rw [Int.pow_mul]; exact pow_le (by decide) (by decide) n
theorem zb_lb (n : Nat) : (10000 : Int) ^ n ≤ (4294967296 : Int) ^ n := pow_le (by decide) (by decide) n
/-- sign -/
def sg (x : Int) : Int := if x < 0 then -1 else if 0 < x then 1 else 0
end Go.Proofs.YtkjkipkfndckfaaGreatDoor.AP
/- The document's numbers, as printed: what they come to. -/
namespace Go.Proofs.YtkjkipkfndckfaaGreatDoor.AP
open Go Go.Proofs.YtkjkipkfndckfaaGreatDoor.Tri
set_option linter.unusedVariables false
set_option linter.unusedSimpArgs false
theorem split_last {n : Nat} {a : List Int} (h : a.length = n + 1) : ∃ d x, a = d ++ [x] ∧ d.length = n := by
  have hne : a ≠ [] := by rintro rfl; simp at h
  obtain ⟨d, x, rfl⟩ := eq_snoc hne
  exact ⟨d, x, rfl, by simpa using h⟩
theorem refTrim_loop (p0 : List Int) (hl : p0.length ≤ 4611686018427387904) : ∀ (n : Nat) (a b : List Int), a.length = n → p0 = a ++ b → ∃ k : Nat, lp (m_triviumref02_Trim_l1 p0) (n : Int) = some (k : Int) ∧ k ≤ n ∧ a.take k = trimz a
  | 0, a, b, h, hp => by
    have : a = [] := List.eq_nil_of_length_eq_zero h
    subst this
    exact ⟨0, by rw [lp_go]; simp [m_triviumref02_Trim_l1], Nat.le_refl _, rfl⟩
  | n + 1, a, b, h, hp => by
    obtain ⟨d, x, rfl, hd⟩ := split_last h
    have hlen : p0.length = n + 1 + b.length := by rw [hp]; simp [hd]; omega
    have hx : gI p0 (n : Int) = x := by rw [hp, List.append_assoc]; unfold gI; rw [List.getD_eq_getElem?_getD, List.getElem?_append_right (by simp [hd])]; simp [hd]
    have hstep : m_triviumref02_Trim_l1 p0 ((n + 1 : Nat) : Int) = if x = 0 then some (.inl (n : Int)) else some (.inr ((n + 1 : Nat) : Int)) := by
      have e1 : wi64 (((n + 1 : Nat) : Int) - 1) = (n : Int) := by rw [wi64_eq (by omega) (by omega)]; omega
      have e2 : rd p0 (n : Int) = some x := by rw [rd_I (by omega) (by omega), hx]
      have e3 : decide (0 < ((n + 1 : Nat) : Int)) = true := decide_eq_true (by omega)
      simp only [m_triviumref02_Trim_l1, e3, if_true, e1, e2, bd_some, decide_eq_true_eq]
    by_cases h0 : x = 0
    · subst h0
      rw [lp_more (by rw [hstep, if_pos rfl])]
      obtain ⟨k, h1, h2, h3⟩ := refTrim_loop p0 hl n d ([0] ++ b) hd (by rw [hp]; simp)
      refine ⟨k, h1, by omega, ?_⟩
      rw [trimz_snoc_zero, ← h3, List.take_append_of_le_length (by omega)]
    · refine ⟨n + 1, lp_done (by rw [hstep, if_neg h0]), Nat.le_refl _, ?_⟩
      rw [List.take_of_length_le (by omega), trimz_of_top (Top.snoc.2 h0)]
theorem refTrim_eq (a : List Int) (hl : a.length ≤ 10000000000000) : m_triviumref02_Trim a = some (trimz a) := by
  obtain ⟨k, h1, h2, h3⟩ := refTrim_loop a (by omega) a.length a [] rfl (by simp)
  unfold m_triviumref02_Trim
  rw [h1, bd_some, ct_of (by omega), bd_some, ap_of (by simp; omega), bd_some]
  simp [h3]
theorem carry_loop : ∀ (n : Nat) (c : Int) (d : List Int), 0 ≤ c → c < (10000 : Int) ^ n → c < 1000000000000000000 → Dig (10000 : Int) d → d.length + n ≤ 1000000000000 →
    ∃ r, lp m_triviumref02_MulAdd_l2 (c, d) = some r ∧ Dig (10000 : Int) r ∧ dv (10000 : Int) r = dv (10000 : Int) d + (10000 : Int) ^ d.length * c ∧ r.length ≤ d.length + n
  | n, c, d, h0, h1, h2, hd, hl => by
    by_cases hc : 0 < c
    · cases n with
      | zero => simp at h1; omega
      | succ n =>
        have e1 : m_triviumref02_MulAdd_l2 (c, d) = some (.inl (c / (10000 : Int), d ++ [c % (10000 : Int)])) := by
          simp only [m_triviumref02_MulAdd_l2, decide_eq_true hc, if_true, rm_of h0 (show (0 : Int) < 10000 by decide), bd_some, ap_of (l := d) (m := [c % 10000]) (b := 8) (by simp; omega), qd64 h0 (show (0 : Int) < 10000 by decide) (by omega)]
        have hq : c / (10000 : Int) < (10000 : Int) ^ n := Int.ediv_lt_of_lt_mul (by decide) (by rw [← Int.pow_succ]; exact h1)
        obtain ⟨r, r1, r2, r3, r4⟩ := carry_loop n (c / (10000 : Int)) (d ++ [c % (10000 : Int)]) (Int.ediv_nonneg h0 (by decide)) hq (by have : c / (10000 : Int) ≤ c := Int.ediv_le_self _ h0; omega) (Dig.snoc hd ⟨by omega, by omega⟩) (by simp; omega)
        refine ⟨r, by rw [lp_more e1]; exact r1, r2, ?_, by simp at r4; omega⟩
        rw [r3, dv_snoc, List.length_append, List.length_singleton, Int.pow_succ]
        have := Int.mul_ediv_add_emod c (10000 : Int)
        generalize (10000 : Int) ^ d.length = p at *
        generalize c / (10000 : Int) = q at *
        have e : c = (10000 : Int) * q + c % (10000 : Int) := this.symm
        generalize c % (10000 : Int) = m at *
        subst e
        grind
    · have : c = 0 := by omega
      subst this
      refine ⟨d, lp_done (by simp [m_triviumref02_MulAdd_l2]), hd, by simp, by omega⟩
theorem mulAdd_loop (p0 : List Int) (p1 : Int) (ha : Dig (10000 : Int) p0) (hm0 : 0 ≤ p1) (hm1 : p1 ≤ 4294967296) (hl : p0.length ≤ 100000000000) (c0 : Int) : ∀ (k i : Nat) (c : Int) (d : List Int), i + k = p0.length → d.length = i → 0 ≤ c → c ≤ 4294967296 → Dig (10000 : Int) d → dv (10000 : Int) d + (10000 : Int) ^ i * c = dv (10000 : Int) (p0.take i) * p1 + c0 →
    ∃ c' d', lp (m_triviumref02_MulAdd_l1 p0 p1) (c, (i : Int), d) = some (c', d') ∧ d'.length = p0.length ∧ 0 ≤ c' ∧ c' ≤ 4294967296 ∧ Dig (10000 : Int) d' ∧ dv (10000 : Int) d' + (10000 : Int) ^ p0.length * c' = dv (10000 : Int) p0 * p1 + c0
  | 0, i, c, d, hk, hi, h0, h1, hd, hv => by
    obtain rfl : i = p0.length := by omega
    refine ⟨c, d, lp_done (by simp [m_triviumref02_MulAdd_l1]), hi, h0, h1, hd, by rw [hv, List.take_length]⟩
  | k + 1, i, c, d, hk, hi, h0, h1, hd, hv => by
    have g := gI_dig ha (by decide) (i : Int)
    have hp0 : 0 ≤ gI p0 (i : Int) * p1 := Int.mul_nonneg g.1 hm0
    have hp1 : gI p0 (i : Int) * p1 ≤ 9999 * 4294967296 := Int.mul_le_mul (by omega) hm1 hm0 (by decide)
    generalize hx : c + gI p0 (i : Int) * p1 = x
    have hx0 : 0 ≤ x := by omega
    have e1 : m_triviumref02_MulAdd_l1 p0 p1 (c, (i : Int), d) = some (.inl (x / (10000 : Int), ((i + 1 : Nat) : Int), d ++ [x % (10000 : Int)])) := by
      have a1 : decide ((i : Int) < (p0.length : Int)) = true := decide_eq_true (by omega)
      have a2 : rd p0 (i : Int) = some (gI p0 (i : Int)) := rd_I (by omega) (by omega)
      have a3 : wi64 (gI p0 (i : Int) * p1) = gI p0 (i : Int) * p1 := wi64_eq (by omega) (by omega)
      have a4 : wi64 (c + gI p0 (i : Int) * p1) = x := by rw [hx]; exact wi64_eq (by omega) (by omega)
      have a5 : wi64 ((i : Int) + 1) = ((i + 1 : Nat) : Int) := by rw [wi64_eq (by omega) (by omega)]; omega
      simp only [m_triviumref02_MulAdd_l1, a1, if_true, a2, bd_some, a3, a4, rm_of hx0 (show (0 : Int) < 10000 by decide), ap_of (l := d) (m := [x % 10000]) (b := 8) (by simp; omega), qd64 hx0 (show (0 : Int) < 10000 by decide) (by omega), a5]
    obtain ⟨c', d', r1, r2⟩ := mulAdd_loop p0 p1 ha hm0 hm1 hl c0 k (i + 1) (x / (10000 : Int)) (d ++ [x % (10000 : Int)]) (by omega) (by simp [hi]) (Int.ediv_nonneg hx0 (by decide)) (by omega) (Dig.snoc hd ⟨by omega, by omega⟩) (by
      rw [dv_snoc, take_gI (10000 : Int) p0 i (by omega), hi, Int.pow_succ]
      have := Int.mul_ediv_add_emod x (10000 : Int)
      generalize (10000 : Int) ^ i = p at *
      generalize x / (10000 : Int) = q at *
      generalize x % (10000 : Int) = m at *
      generalize gI p0 (i : Int) = gg at *
      subst hx
      generalize dv (10000 : Int) (List.take i p0) = T at *
      have h3 : m = c + gg * p1 - (10000 : Int) * q := by omega
      subst h3
      grind)
    exact ⟨c', d', by rw [lp_more e1]; exact r1, r2⟩
theorem mulAdd_dig (a : List Int) (m c : Int) (ha : Dig (10000 : Int) a) (hm0 : 0 ≤ m) (hm1 : m ≤ 4294967296) (hc0 : 0 ≤ c) (hc1 : c ≤ 4294967296) (hl : a.length ≤ 100000000000) : m_triviumref02_MulAdd a m c = some (zl (dv (10000 : Int) a * m + c)) := by
  obtain ⟨c', d', h1, h2, h3, h4, h5, h6⟩ := mulAdd_loop a m ha hm0 hm1 hl c a.length 0 c [] (by omega) rfl hc0 hc1 (Dig.nil _) (by simp [dv])
  obtain ⟨r, r1, r2, r3, r4⟩ := carry_loop 3 c' d' h3 (by have : (10000 : Int) ^ 3 = 1000000000000 := by decide
                                                          omega) (by omega) h5 (by omega)
  unfold m_triviumref02_MulAdd
  rw [show ((0 : Int)) = ((0 : Nat) : Int) from rfl, h1, bd_some]
  dsimp only
  rw [r1, bd_some, refTrim_eq r (by omega), bd_some, trimz_zl r2 (by rw [r3, h2, h6])]
theorem mulAdd_eq (x m c : Int) (hx : 0 ≤ x) (hm0 : 0 ≤ m) (hm1 : m ≤ 4294967296) (hc0 : 0 ≤ c) (hc1 : c ≤ 4294967296) (hl : (zl x).length ≤ 100000000000) : m_triviumref02_MulAdd (zl x) m c = some (zl (x * m + c)) := by
  rw [mulAdd_dig _ _ _ (zl_can x).1 hm0 hm1 hc0 hc1 hl, zl_dv hx]
theorem of_loop (a : List Int) (ha : Dig (4294967296 : Int) a) (hl : a.length ≤ 30000000000) : ∀ (n : Nat), n ≤ a.length → lp (m_triviumref02_Of_l1 a) (zl (dv (4294967296 : Int) (a.drop n)), (n : Int) - 1) = some (zl (dv (4294967296 : Int) a))
  | 0, _ => by
    refine lp_done ?_
    simp [m_triviumref02_Of_l1]
  | n + 1, h => by
    have g := gI_dig ha (by decide) (n : Int)
    have hd : Dig (4294967296 : Int) (a.drop (n + 1)) := ha.drop _
    have h0 := dv_nonneg (by decide) hd
    have hlen : (zl (dv (4294967296 : Int) (a.drop (n + 1)))).length ≤ 100000000000 := by
      have h1 := dv_lt (by decide) hd
      have := zl_len h0 (n := 3 * (a.drop (n + 1)).length) (Int.lt_of_lt_of_le h1 (lb_zb _))
      simp at this ⊢; omega
    have hv : dv (4294967296 : Int) (a.drop n) = dv (4294967296 : Int) (a.drop (n + 1)) * 4294967296 + gI a (n : Int) := by
      rw [drop_gI a n (by omega), dv_cons]; omega
    have e1 : m_triviumref02_Of_l1 a (zl (dv (4294967296 : Int) (a.drop (n + 1))), ((n + 1 : Nat) : Int) - 1) = some (.inl (zl (dv (4294967296 : Int) (a.drop n)), (n : Int) - 1)) := by
      have a0 : ((n + 1 : Nat) : Int) - 1 = (n : Int) := by omega
      have a1 : decide ((0 : Int) ≤ (n : Int)) = true := decide_eq_true (by omega)
      have a2 : rd a (n : Int) = some (gI a (n : Int)) := rd_I (by omega) (by omega)
      have a3 : gI a (n : Int) % 4294967296 = gI a (n : Int) := Int.emod_eq_of_lt g.1 g.2
      have a4 : wi64 (gI a (n : Int)) = gI a (n : Int) := wi64_eq (by omega) (by omega)
      have a5 : wi64 ((n : Int) - 1) = (n : Int) - 1 := wi64_eq (by omega) (by omega)
      rw [a0]
      simp only [m_triviumref02_Of_l1, a1, if_true, a2, bd_some, rm_of g.1 (show (0 : Int) < 4294967296 by decide), a3, a4, mulAdd_eq _ _ _ h0 (show (0 : Int) ≤ 4294967296 by decide) (Int.le_refl _) g.1 (by omega) hlen, a5, hv]
    rw [lp_more e1]
    exact of_loop a ha hl n (by omega)
theorem refOf_dig (a : List Int) (ha : Dig (4294967296 : Int) a) (hl : a.length ≤ 30000000000) : m_triviumref02_Of a = some (zl (dv (4294967296 : Int) a)) := by
  unfold m_triviumref02_Of
  have e : wi64 ((a.length : Int) - 1) = (a.length : Int) - 1 := wi64_eq (by omega) (by omega)
  have := of_loop a ha hl a.length (Nat.le_refl _)
  rw [List.drop_length, dv_nil, zl_zero] at this
  rw [e, this]; rfl
theorem refOf_eq (x : Int) (hx : 0 ≤ x) (hl : (nl x).length ≤ 30000000000) : m_triviumref02_Of (nl x) = some (zl x) := by
  rw [refOf_dig _ (nl_can x).1 hl, nl_dv hx]
end Go.Proofs.YtkjkipkfndckfaaGreatDoor.AP
/- The document's numbers, as printed: compared, taken off, divided. -/
namespace Go.Proofs.YtkjkipkfndckfaaGreatDoor.AP
open Go Go.Proofs.YtkjkipkfndckfaaGreatDoor.Tri
set_option linter.unusedVariables false
set_option linter.unusedSimpArgs false
theorem dv_split (B : Int) (a : List Int) (n : Nat) (h : n ≤ a.length) : dv B a = dv B (a.take n) + B ^ n * dv B (a.drop n) := by
  have := dv_append B (a.take n) (a.drop n)
  rw [List.take_append_drop, List.length_take, Nat.min_eq_left h] at this
  exact this
theorem dv_take_lt {B : Int} (hB : 0 < B) {a : List Int} (h : Dig B a) (n : Nat) : dv B (a.take n) < B ^ n := by
  have h1 := dv_lt hB (h.take n)
  have h2 := pow_mono hB (show (a.take n).length ≤ n by simp; omega)
  omega
theorem digit_lt {B : Int} (hB : 0 < B) {a b : List Int} (ha : Dig B a) (hb : Dig B b) (q : Nat) (hqa : q < a.length) (hqb : q < b.length) (ht : dv B (a.drop (q + 1)) = dv B (b.drop (q + 1))) (h : gI a (q : Int) < gI b (q : Int)) : dv B a < dv B b := by
  rw [dv_split B a q (by omega), dv_split B b q (by omega), drop_gI a q hqa, drop_gI b q hqb, dv_cons, dv_cons, ht]
  have h1 := dv_take_lt hB ha q
  have h2 := dv_nonneg hB (hb.take q)
  have h3 := pow_pos' hB q
  have h4 : B ^ q * (gI a (q : Int) + 1) ≤ B ^ q * gI b (q : Int) := Int.mul_le_mul_of_nonneg_left (by omega) (by omega)
  rw [Int.mul_add, Int.mul_add]
  rw [Int.mul_add, Int.mul_one] at h4
  omega
theorem refCmp_loop (a b : List Int) (ha : Dig (10000 : Int) a) (hb : Dig (10000 : Int) b) (he : a.length = b.length) (hl : a.length ≤ 4611686018427387904) : ∀ n : Nat, n ≤ a.length → dv (10000 : Int) (a.drop n) = dv (10000 : Int) (b.drop n) → lp (m_triviumref02_Cmp_l1 a b) ((n : Int) - 1) = some (sg (dv (10000 : Int) a - dv (10000 : Int) b))
  | 0, _, h => by
    rw [List.drop_zero, List.drop_zero] at h
    refine lp_done ?_
    rw [h, Int.sub_self]
    simp [m_triviumref02_Cmp_l1, sg]
  | n + 1, hn, h => by
    have ga := gI_dig ha (by decide) (n : Int)
    have gb := gI_dig hb (by decide) (n : Int)
    have a0 : ((n + 1 : Nat) : Int) - 1 = (n : Int) := by omega
    have a1 : decide ((0 : Int) ≤ (n : Int)) = true := decide_eq_true (by omega)
    have a2 : rd a (n : Int) = some (gI a (n : Int)) := rd_I (by omega) (by omega)
    have a3 : rd b (n : Int) = some (gI b (n : Int)) := rd_I (by omega) (by omega)
    have a5 : wi64 ((n : Int) - 1) = (n : Int) - 1 := wi64_eq (by omega) (by omega)
    have e : m_triviumref02_Cmp_l1 a b (((n + 1 : Nat) : Int) - 1) = if gI a (n : Int) < gI b (n : Int) then some (.inr (-1)) else if gI b (n : Int) < gI a (n : Int) then some (.inr 1) else some (.inl ((n : Int) - 1)) := by
      rw [a0]
      simp only [m_triviumref02_Cmp_l1, a1, if_true, a2, a3, bd_some, a5, decide_eq_true_eq]
    rcases Int.lt_trichotomy (gI a (n : Int)) (gI b (n : Int)) with hlt | heq | hgt
    · have := digit_lt (by decide) ha hb n (by omega) (by omega) h hlt
      rw [lp_done (by rw [e, if_pos hlt])]
      unfold sg; rw [if_pos (by omega)]
    · rw [lp_more (by rw [e, if_neg (by omega), if_neg (by omega)])]
      refine refCmp_loop a b ha hb he hl n (by omega) ?_
      rw [drop_gI a n (by omega), drop_gI b n (by omega), dv_cons, dv_cons, h, heq]
    · have := digit_lt (by decide) hb ha n (by omega) (by omega) h.symm hgt
      rw [lp_done (by rw [e, if_neg (by omega), if_pos hgt])]
      unfold sg; rw [if_neg (by omega), if_pos (by omega)]
theorem refCmp_can (a b : List Int) (ha : Tri.Can (10000 : Int) a) (hb : Tri.Can (10000 : Int) b) (hl : a.length ≤ 4611686018427387904) : m_triviumref02_Cmp a b = some (sg (dv (10000 : Int) a - dv (10000 : Int) b)) := by
  unfold m_triviumref02_Cmp
  by_cases he : a.length = b.length
  · rw [if_neg (by simp [he]), wi64_eq (by omega) (by omega)]
    exact refCmp_loop a b ha.1 hb.1 he hl a.length (Nat.le_refl _) (by rw [List.drop_length, he, List.drop_length])
  · rw [if_pos (by simp; omega)]
    rcases Nat.lt_or_gt_of_ne he with h | h
    · have := Can.lt_of_length (by decide) ha.1 hb h
      rw [if_pos (by simp; omega)]
      unfold sg; rw [if_pos (by omega)]
    · have := Can.lt_of_length (by decide) hb.1 ha h
      rw [if_neg (by simp; omega)]
      unfold sg; rw [if_neg (by omega), if_pos (by omega)]
theorem refCmp_eq (x y : Int) (hx : 0 ≤ x) (hy : 0 ≤ y) (hl : (zl x).length ≤ 4611686018427387904) : m_triviumref02_Cmp (zl x) (zl y) = some (sg (x - y)) := by
  rw [refCmp_can _ _ (zl_can x) (zl_can y) hl, zl_dv hx, zl_dv hy]
theorem take_gI' (B : Int) (l : List Int) (i : Nat) : dv B (l.take (i + 1)) = dv B (l.take i) + B ^ i * gI l (i : Int) := by
  by_cases h : i < l.length
  · exact take_gI B l i h
  · rw [List.take_of_length_le (by omega), List.take_of_length_le (by omega)]
    have : gI l (i : Int) = 0 := by unfold gI; rw [List.getD_eq_getElem?_getD, List.getElem?_eq_none (by omega)]; rfl
    rw [this]; simp
theorem refSub_loop (a b : List Int) (ha : Dig (10000 : Int) a) (hb : Dig (10000 : Int) b) (hl : a.length ≤ 1000000000000) : ∀ (k i : Nat) (c : Int) (d : List Int), i + k = a.length → d.length = i → (c = 0 ∨ c = 1) → Dig (10000 : Int) d → dv (10000 : Int) d - (10000 : Int) ^ i * c = dv (10000 : Int) (a.take i) - dv (10000 : Int) (b.take i) →
    ∃ c' d', lp (m_triviumref02_Sub_l1 a b) (c, (i : Int), d) = some d' ∧ d'.length = a.length ∧ (c' = 0 ∨ c' = 1) ∧ Dig (10000 : Int) d' ∧ dv (10000 : Int) d' - (10000 : Int) ^ a.length * c' = dv (10000 : Int) a - dv (10000 : Int) (b.take a.length)
  | 0, i, c, d, hk, hi, hc, hd, hv => by
    obtain rfl : i = a.length := by omega
    exact ⟨c, d, lp_done (by simp [m_triviumref02_Sub_l1]), hi, hc, hd, by rw [hv, List.take_length]⟩
  | k + 1, i, c, d, hk, hi, hc, hd, hv => by
    have ga := gI_dig ha (by decide) (i : Int)
    have gb := gI_dig hb (by decide) (i : Int)
    generalize hx : gI a (i : Int) - c - gI b (i : Int) = x
    have e1 : m_triviumref02_Sub_l1 a b (c, (i : Int), d) = some (.inl (if x < 0 then 1 else 0, ((i + 1 : Nat) : Int), d ++ [if x < 0 then x + (10000 : Int) else x])) := by
      have a1 : decide ((i : Int) < (a.length : Int)) = true := decide_eq_true (by omega)
      have a2 : rd a (i : Int) = some (gI a (i : Int)) := rd_I (by omega) (by omega)
      have a3 : wi64 (gI a (i : Int) - c) = gI a (i : Int) - c := wi64_eq (by omega) (by omega)
      have a5 : wi64 ((i : Int) + 1) = ((i + 1 : Nat) : Int) := by rw [wi64_eq (by omega) (by omega)]; omega
      have a6 : (if decide ((i : Int) < (b.length : Int)) then (bd (rd b (i : Int)) fun x10 => some (wi64 ((wi64 (gI a (i : Int) - c)) - x10))) else some (wi64 (gI a (i : Int) - c))) = some x := by
        by_cases hib : i < b.length
        · rw [if_pos (by simp; omega), rd_I (by omega) (by omega), bd_some, a3, wi64_eq (by omega) (by omega), hx]
        · rw [if_neg (by simp; omega), a3]
          have : gI b (i : Int) = 0 := by unfold gI; rw [List.getD_eq_getElem?_getD, List.getElem?_eq_none (by omega)]; rfl
          rw [← hx, this]; simp
      have a7 : (if decide (x < 0) = true then some ((1 : Int), wi64 (x + 10000)) else some (0, x)) = some (if x < 0 then 1 else 0, if x < 0 then x + (10000 : Int) else x) := by
        by_cases h0 : x < 0
        · rw [if_pos (by simpa using h0), if_pos h0, if_pos h0, wi64_eq (by omega) (by omega)]
        · rw [if_neg (by simpa using h0), if_neg h0, if_neg h0]
      have a8 : ap 8 d [if x < 0 then x + (10000 : Int) else x] = some (d ++ [if x < 0 then x + (10000 : Int) else x]) := ap_of (by simp; omega)
      simp only [m_triviumref02_Sub_l1, a1, if_true, a2, bd_some, a6, a7, a8, a5]
    obtain ⟨c', d', r1, r2⟩ := refSub_loop a b ha hb hl k (i + 1) (if x < 0 then 1 else 0) (d ++ [if x < 0 then x + (10000 : Int) else x]) (by omega) (by simp [hi]) (by split <;> simp) (Dig.snoc hd (by split <;> omega)) (by
      rw [dv_snoc, take_gI (10000 : Int) a i (by omega), take_gI' (10000 : Int) b i, hi, Int.pow_succ]
      have h2 : (if x < 0 then x + (10000 : Int) else x) = x + (10000 : Int) * (if x < 0 then 1 else 0) := by split <;> omega
      rw [h2]
      generalize (if x < 0 then (1 : Int) else 0) = z
      subst hx
      generalize (10000 : Int) ^ i = p at *
      generalize dv (10000 : Int) (List.take i a) = T at *
      generalize dv (10000 : Int) (List.take i b) = U at *
      generalize gI a (i : Int) = g1 at *
      generalize gI b (i : Int) = g2 at *
      grind)
    exact ⟨c', d', by rw [lp_more e1]; exact r1, r2⟩
theorem refSub_eq (x y : Int) (hy : 0 ≤ y) (hxy : y ≤ x) (hl : (zl x).length ≤ 1000000000000) : m_triviumref02_Sub (zl x) (zl y) = some (zl (x - y)) := by
  obtain ⟨c', d', h1, h2, h3, h4, h5⟩ := refSub_loop (zl x) (zl y) (zl_can x).1 (zl_can y).1 hl _ 0 0 [] (Nat.zero_add _) rfl (.inl rfl) (Dig.nil _) (by simp [dv])
  have hm := zl_mono hy hxy
  rw [List.take_of_length_le hm, zl_dv (by omega), zl_dv hy] at h5
  have hc : c' = 0 := by
    rcases h3 with h3 | h3
    · exact h3
    · subst h3
      have := dv_lt (by decide) h4
      rw [h2] at this
      omega
  subst hc
  unfold m_triviumref02_Sub
  rw [show ((0 : Int), (0 : Int), ([] : List Int)) = ((0 : Int), ((0 : Nat) : Int), ([] : List Int)) from rfl, h1, bd_some, refTrim_eq d' (by omega), bd_some, trimz_zl (x := x - y) h4 (by rw [Int.mul_zero] at h5; omega)]
/-- a middle one is looked for -/
theorem refMid_loop (y r : Int) (hy : 0 < y) (hr : 0 ≤ r) (hq : r / y < 10000) (hl : (zl y).length ≤ 10000000000) (hl2 : (zl r).length ≤ 10000000000) : ∀ (n : Nat) (lo hi : Int), (hi - lo).toNat ≤ n → 0 ≤ lo → lo < hi → hi ≤ 10000 → lo ≤ r / y → r / y < hi → lp (m_triviumref02_Div_l2 (zl y) (zl r)) (lo, hi) = some (r / y)
  | n, lo, hi, hn, h0, h1, h2, h3, h4 => by
    by_cases hd : 1 < hi - lo
    · cases n with
      | zero => omega
      | succ n =>
        have b1 : wi64 (hi - lo) = hi - lo := wi64_eq (by omega) (by omega)
        have b2 : wi64 (lo + hi) = lo + hi := wi64_eq (by omega) (by omega)
        have b3 : qd .i64 (lo + hi) 2 = some ((lo + hi) / 2) := qd64 (by omega) (by omega) (by omega)
        generalize hm : (lo + hi) / 2 = m at b3
        have hm0 : lo < m := by omega
        have hm1 : m < hi := by omega
        have b4 := mulAdd_eq y m 0 (by omega) (by omega) (by omega) (Int.le_refl _) (by omega) (by omega)
        rw [Int.add_zero] at b4
        have hlen : (zl (y * m)).length ≤ 4611686018427387904 := by
          have h5 := dv_lt (by decide) (zl_can y).1
          rw [zl_dv (by omega)] at h5
          have h6 : y * m ≤ y * 10000 := Int.mul_le_mul_of_nonneg_left (by omega) (by omega)
          have := zl_len (x := y * m) (Int.mul_nonneg (by omega) (by omega)) (n := (zl y).length + 1) (by rw [Int.pow_succ]; omega)
          omega
        have b5 := refCmp_eq (y * m) r (Int.mul_nonneg (by omega) (by omega)) hr hlen
        have key : (sg (y * m - r) ≤ 0) ↔ m ≤ r / y := by
          rw [Int.le_ediv_iff_mul_le hy, Int.mul_comm m y]
          unfold sg
          split <;> (try split) <;> omega
        have e : m_triviumref02_Div_l2 (zl y) (zl r) (lo, hi) = if m ≤ r / y then some (.inl (m, hi)) else some (.inl (lo, m)) := by
          simp only [m_triviumref02_Div_l2, b1, b2, b3, b4, b5, bd_some, decide_eq_true_eq, hd, if_true, key]
        by_cases hk : m ≤ r / y
        · rw [lp_more (by rw [e, if_pos hk])]
          exact refMid_loop y r hy hr hq hl hl2 n m hi (by omega) (by omega) hm1 h2 hk h4
        · rw [lp_more (by rw [e, if_neg hk])]
          exact refMid_loop y r hy hr hq hl hl2 n lo m (by omega) h0 hm0 (by omega) h3 (by omega)
    · have b1 : wi64 (hi - lo) = hi - lo := wi64_eq (by omega) (by omega)
      have : lo = r / y := by omega
      have e : m_triviumref02_Div_l2 (zl y) (zl r) (lo, hi) = some (.inr lo) := by
        simp only [m_triviumref02_Div_l2, b1]
        rw [if_neg (by simpa using hd)]
      rw [lp_done e, this]
theorem set_down (q : List Int) (j : Nat) (v : Int) : (List.replicate (j + 1) 0 ++ q).set j v = List.replicate j 0 ++ v :: q := by
  rw [List.set_append_left _ _ (by simp), show List.replicate (j + 1) (0 : Int) = List.replicate j 0 ++ [0] from List.replicate_succ', List.set_append_right _ _ (by simp)]
  simp
theorem refDiv_loop (x y : Int) (hx : 0 ≤ x) (hy : 0 < y) (hlx : (zl x).length ≤ 1000000000) (hly : (zl y).length ≤ 1000000000) : ∀ (n : Nat) (r : Int) (q : List Int), n ≤ (zl x).length → 0 ≤ r → r < y → q.length + n = (zl x).length → Dig (10000 : Int) q → dv (10000 : Int) ((zl x).drop n) = dv (10000 : Int) q * y + r →
    ∃ q', lp (m_triviumref02_Div_l1 (zl x) (zl y)) (zl r, (n : Int) - 1, List.replicate n 0 ++ q) = some (zl (x % y), q') ∧ q'.length = (zl x).length ∧ Dig (10000 : Int) q' ∧ dv (10000 : Int) q' = x / y
  | 0, r, q, hn, h0, h1, hq, hd, hv => by
    rw [List.drop_zero, zl_dv hx] at hv
    have e := Int.ediv_emod_unique (a := x) (b := y) (r := r) (q := dv (10000 : Int) q) hy
    obtain ⟨e1, e2⟩ := e.2 ⟨by rw [hv, Int.mul_comm y]; omega, h0, h1⟩
    exact ⟨q, lp_done (by simp [m_triviumref02_Div_l1, e2]), by omega, hd, e1.symm⟩
  | n + 1, r, q, hn, h0, h1, hq, hd, hv => by
    have g := gI_dig (zl_can x).1 (by decide) (n : Int)
    generalize hs : gI (zl x) (n : Int) + (10000 : Int) * r = s
    have hs0 : 0 ≤ s := by omega
    have hsy : s < (10000 : Int) * y := by omega
    have hqd : s / y < 10000 := Int.ediv_lt_of_lt_mul hy hsy
    have hqd0 : 0 ≤ s / y := Int.ediv_nonneg hs0 (by omega)
    have hrl : (zl r).length ≤ 1000000000 := Nat.le_trans (zl_mono h0 (by omega)) hly
    have hsl : (zl s).length ≤ 10000000000 := by
      have h5 := dv_lt (by decide) (zl_can y).1
      rw [zl_dv (by omega)] at h5
      have := zl_len hs0 (n := (zl y).length + 1) (by rw [Int.pow_succ]; omega)
      omega
    have a0 : ((n + 1 : Nat) : Int) - 1 = (n : Int) := by omega
    have a1 : decide ((0 : Int) ≤ (n : Int)) = true := decide_eq_true (by omega)
    have a2 : rd (zl x) (n : Int) = some (gI (zl x) (n : Int)) := rd_I (by omega) (by omega)
    have a3 : ap 8 [gI (zl x) (n : Int)] (zl r) = some (gI (zl x) (n : Int) :: zl r) := by rw [ap_of (by simp; omega)]; rfl
    have a4 : m_triviumref02_Trim (gI (zl x) (n : Int) :: zl r) = some (zl s) := by
      rw [refTrim_eq _ (by simp; omega), trimz_zl (Dig.cons g (zl_can r).1) (by rw [dv_cons, zl_dv h0, hs])]
    have a5 := refMid_loop y s hy hs0 hqd (by omega) hsl 10000 0 10000 (by omega) (Int.le_refl _) (by omega) (Int.le_refl _) hqd0 hqd
    have a6 : ix (List.replicate (n + 1) 0 ++ q) (n : Int) = some n := ix_nat (by simp; omega)
    have a7 := mulAdd_eq y (s / y) 0 (by omega) hqd0 (by omega) (Int.le_refl _) (by omega) (by omega)
    have hle : y * (s / y) ≤ s := Int.mul_ediv_self_le (by omega)
    have a8 := refSub_eq s (y * (s / y)) (Int.mul_nonneg (by omega) hqd0) hle (by omega)
    have a9 : s - y * (s / y) = s % y := by have := Int.mul_ediv_add_emod s y; omega
    have b1 : wi64 ((n : Int) - 1) = (n : Int) - 1 := wi64_eq (by omega) (by omega)
    have e : m_triviumref02_Div_l1 (zl x) (zl y) (zl r, ((n + 1 : Nat) : Int) - 1, List.replicate (n + 1) 0 ++ q) = some (.inl (zl (s % y), (n : Int) - 1, List.replicate n 0 ++ (s / y) :: q)) := by
      rw [a0]
      simp only [m_triviumref02_Div_l1, a1, if_true, a2, bd_some, a3, a4, a5, a6, lt_eq, set_down, a7, Int.add_zero, a8, a9, b1]
    rw [lp_more e]
    exact refDiv_loop x y hx hy hlx hly n (s % y) (s / y :: q) (by omega) (Int.emod_nonneg _ (by omega)) (Int.emod_lt_of_pos _ hy) (by simp; omega) (Dig.cons ⟨hqd0, hqd⟩ hd) (by
      rw [drop_gI (zl x) n (by omega), dv_cons, dv_cons, hv]
      have := Int.mul_ediv_add_emod s y
      generalize s / y = t at *
      generalize s % y = u at *
      generalize gI (zl x) (n : Int) = gg at *
      subst hs
      have h9 : u = gg + (10000 : Int) * r - y * t := by omega
      subst h9
      grind)
theorem refDiv_eq (x y : Int) (hx : 0 ≤ x) (hy : 0 < y) (hlx : (zl x).length ≤ 1000000000) (hly : (zl y).length ≤ 1000000000) : m_triviumref02_Div (zl x) (zl y) = some (zl (x / y), zl (x % y)) := by
  obtain ⟨q', h1, h2, h3, h4⟩ := refDiv_loop x y hx hy hlx hly (zl x).length 0 [] (Nat.le_refl _) (Int.le_refl _) hy (by simp) (Dig.nil _) (by rw [List.drop_length]; simp [dv])
  unfold m_triviumref02_Div
  rw [mk_of (by omega), bd_some, wi64_eq (by omega) (by omega)]
  rw [zl_zero, List.append_nil] at h1
  rw [show ((zl x).length : Int).toNat = (zl x).length by omega, h1, bd_some]
  dsimp only
  rw [refTrim_eq q' (by omega), bd_some, trimz_zl h3 h4]
theorem gcd_mod (x y : Int) (hx : 0 ≤ x) : Int.gcd y (x % y) = Int.gcd x y := by
  rw [Int.gcd_comm y, Int.gcd_comm x]
  have e : (x % y).natAbs = x.natAbs % y.natAbs := by rw [Int.natAbs_emod_of_nonneg hx]
  unfold Int.gcd
  rw [e, ← Nat.gcd_rec]
theorem refGcd_eq : ∀ (n : Nat) (x y : Int), y.toNat ≤ n → 0 ≤ x → 0 ≤ y → (zl x).length ≤ 1000000000 → (zl y).length ≤ 1000000000 → m_triviumref02_Gcd (zl x) (zl y) = some (zl (Int.gcd x y))
  | n, x, y, hn, hx, hy, hlx, hly => by
    have main : ∀ (n : Nat) (x y : Int), y.toNat ≤ n → 0 ≤ x → 0 ≤ y → (zl x).length ≤ 1000000000 → (zl y).length ≤ 1000000000 → lp m_triviumref02_Gcd_l1 (zl x, zl y) = some (zl (Int.gcd x y)) := by
      intro n
      induction n with
      | zero =>
        intro x y hn hx hy hlx hly
        obtain rfl : y = 0 := by omega
        have hxx : ((Int.gcd x 0 : Nat) : Int) = x := by rw [Int.gcd_zero_right]; omega
        have e : m_triviumref02_Gcd_l1 (zl x, zl 0) = some (.inr (zl x)) := by simp [m_triviumref02_Gcd_l1, zl_zero]
        rw [lp_done e, hxx]
      | succ n ih =>
        intro x y hn hx hy hlx hly
        by_cases h0 : y = 0
        · exact ih x y (by omega) hx hy hlx hly
        · have hpos : 0 < y := by omega
          have hne : zl y ≠ [] := fun h => h0 ((zl_nil hy).1 h)
          have hlen : 0 < (zl y).length := List.length_pos_iff.2 hne
          have e : m_triviumref02_Gcd_l1 (zl x, zl y) = some (.inl (zl y, zl (x % y))) := by
            simp only [m_triviumref02_Gcd_l1, decide_eq_true (show (0 : Int) < ((zl y).length : Int) by omega), if_true, refDiv_eq x y hx hpos hlx hly, bd_some]
          rw [lp_more e, ih y (x % y) (by have := Int.emod_lt_of_pos x hpos; have := Int.emod_nonneg x (show y ≠ 0 by omega); omega) hy (Int.emod_nonneg _ (by omega)) hly (Nat.le_trans (zl_mono (Int.emod_nonneg _ (by omega)) (by have := Int.emod_lt_of_pos x hpos; omega)) hly)]
          rw [gcd_mod x y hx]
    unfold m_triviumref02_Gcd
    rw [main n x y hn hx hy hlx hly]
    rfl
theorem refDivSmall_loop (x d : Int) (hx : 0 ≤ x) (hd0 : 0 < d) (hd1 : d ≤ 4294967296) (hl : (zl x).length ≤ 1000000000000) : ∀ (n : Nat) (r : Int) (q : List Int), n ≤ (zl x).length → 0 ≤ r → r < d → q.length + n = (zl x).length → Dig (10000 : Int) q → dv (10000 : Int) ((zl x).drop n) = dv (10000 : Int) q * d + r →
    ∃ q', lp (m_triviumref02_DivSmall_l1 (zl x) d) (r, (n : Int) - 1, List.replicate n 0 ++ q) = some (x % d, q') ∧ q'.length = (zl x).length ∧ Dig (10000 : Int) q' ∧ dv (10000 : Int) q' = x / d
  | 0, r, q, hn, h0, h1, hq, hd, hv => by
    rw [List.drop_zero, zl_dv hx] at hv
    have e := Int.ediv_emod_unique (a := x) (b := d) (r := r) (q := dv (10000 : Int) q) hd0
    obtain ⟨e1, e2⟩ := e.2 ⟨by rw [hv, Int.mul_comm d]; omega, h0, h1⟩
    exact ⟨q, lp_done (by simp [m_triviumref02_DivSmall_l1, e2]), by omega, hd, e1.symm⟩
  | n + 1, r, q, hn, h0, h1, hq, hd, hv => by
    have g := gI_dig (zl_can x).1 (by decide) (n : Int)
    generalize hs : (10000 : Int) * r + gI (zl x) (n : Int) = s
    have hs0 : 0 ≤ s := by omega
    have hsy : s < (10000 : Int) * d := by omega
    have hqd : s / d < 10000 := Int.ediv_lt_of_lt_mul hd0 hsy
    have hqd0 : 0 ≤ s / d := Int.ediv_nonneg hs0 (by omega)
    have a0 : ((n + 1 : Nat) : Int) - 1 = (n : Int) := by omega
    have a1 : decide ((0 : Int) ≤ (n : Int)) = true := decide_eq_true (by omega)
    have a2 : rd (zl x) (n : Int) = some (gI (zl x) (n : Int)) := rd_I (by omega) (by omega)
    have a3 : wi64 ((wi64 (10000 * r)) + gI (zl x) (n : Int)) = s := by rw [wi64_eq (x := 10000 * r) (by omega) (by omega), hs, wi64_eq (by omega) (by omega)]
    have a4 : qd .i64 s d = some (s / d) := qd64 hs0 hd0 (by omega)
    have a5 : rm .i64 s d = some (s % d) := rm_of hs0 hd0
    have a6 : ix (List.replicate (n + 1) 0 ++ q) (n : Int) = some n := ix_nat (by simp; omega)
    have b1 : wi64 ((n : Int) - 1) = (n : Int) - 1 := wi64_eq (by omega) (by omega)
    have e : m_triviumref02_DivSmall_l1 (zl x) d (r, ((n + 1 : Nat) : Int) - 1, List.replicate (n + 1) 0 ++ q) = some (.inl (s % d, (n : Int) - 1, List.replicate n 0 ++ (s / d) :: q)) := by
      rw [a0]
      simp only [m_triviumref02_DivSmall_l1, a1, if_true, a2, bd_some, a3, a4, a5, a6, lt_eq, set_down, b1]
    rw [lp_more e]
    exact refDivSmall_loop x d hx hd0 hd1 hl n (s % d) (s / d :: q) (by omega) (Int.emod_nonneg _ (by omega)) (Int.emod_lt_of_pos _ hd0) (by simp; omega) (Dig.cons ⟨hqd0, hqd⟩ hd) (by
      rw [drop_gI (zl x) n (by omega), dv_cons, dv_cons, hv]
      have := Int.mul_ediv_add_emod s d
      generalize s / d = t at *
      generalize s % d = u at *
      generalize gI (zl x) (n : Int) = gg at *
      subst hs
      have h9 : u = (10000 : Int) * r + gg - d * t := by omega
      subst h9
      grind)
theorem refDivSmall_eq (x d : Int) (hx : 0 ≤ x) (hd0 : 0 < d) (hd1 : d ≤ 4294967296) (hl : (zl x).length ≤ 1000000000000) : m_triviumref02_DivSmall (zl x) d = some (zl (x / d), x % d) := by
  obtain ⟨q', h1, h2, h3, h4⟩ := refDivSmall_loop x d hx hd0 hd1 hl (zl x).length 0 [] (Nat.le_refl _) (Int.le_refl _) hd0 (by simp) (Dig.nil _) (by rw [List.drop_length]; simp [dv])
  unfold m_triviumref02_DivSmall
  rw [mk_of (by omega), bd_some, wi64_eq (by omega) (by omega)]
  rw [List.append_nil] at h1
  rw [show ((zl x).length : Int).toNat = (zl x).length by omega, h1, bd_some]
  dsimp only
  rw [refTrim_eq q' (by omega), bd_some, trimz_zl h3 h4]
theorem refBack_loop : ∀ (n : Nat) (x : Int) (d : List Int), 0 ≤ x → x.toNat ≤ n → (zl x).length ≤ 100000000000 → Dig (4294967296 : Int) d → d.length + (nl x).length ≤ 1000000000000 →
    ∃ r, lp m_triviumref02_Back_l1 (zl x, d) = some r ∧ r = d ++ nl x
  | n, x, d, h0, hn, hl, hd, hd2 => by
    by_cases hx : x = 0
    · subst hx
      exact ⟨d, lp_done (by simp [m_triviumref02_Back_l1, zl_zero]), by simp [nl_zero]⟩
    · cases n with
      | zero => omega
      | succ n =>
        have hpos : 0 < x := by omega
        have hlen : 0 < (zl x).length := List.length_pos_iff.2 (fun h => hx ((zl_nil h0).1 h))
        have hm : x % (4294967296 : Int) < (4294967296 : Int) := Int.emod_lt_of_pos _ (by decide)
        have hm0 : 0 ≤ x % (4294967296 : Int) := Int.emod_nonneg _ (by decide)
        have hnl : nl x = (x % (4294967296 : Int)) :: nl (x / (4294967296 : Int)) := by
          show num 4294967296 x.toNat = _
          rw [num, dif_pos ⟨by decide, by omega⟩]
          unfold nl
          congr 1
          · omega
          · congr 1; omega
        have a1 : wu64 (x % (4294967296 : Int)) = x % (4294967296 : Int) := wu64_eq hm0 (by omega)
        have a2 : ap 8 d [x % (4294967296 : Int)] = some (d ++ [x % (4294967296 : Int)]) := ap_of (by simp; omega)
        have e : m_triviumref02_Back_l1 (zl x, d) = some (.inl (zl (x / (4294967296 : Int)), d ++ [x % (4294967296 : Int)])) := by
          simp only [m_triviumref02_Back_l1, decide_eq_true (show (0 : Int) < ((zl x).length : Int) by omega), if_true, refDivSmall_eq x (4294967296 : Int) h0 (by decide) (Int.le_refl _) (by omega), bd_some, a1, a2]
        have hq : x / (4294967296 : Int) < x := Int.ediv_lt_of_lt_mul (by decide) (by omega)
        have hq0 : 0 ≤ x / (4294967296 : Int) := Int.ediv_nonneg h0 (by decide)
        rw [hnl] at hd2
        obtain ⟨r, r1, r2⟩ := refBack_loop n (x / (4294967296 : Int)) (d ++ [x % (4294967296 : Int)]) hq0 (by omega) (Nat.le_trans (zl_mono hq0 (by omega)) hl) (Dig.snoc hd ⟨hm0, hm⟩) (by simp at hd2 ⊢; omega)
        exact ⟨r, by rw [lp_more e]; exact r1, by rw [r2, hnl]; simp⟩
theorem nl_zl_len {x : Int} (h : 0 ≤ x) : (nl x).length ≤ (zl x).length := by
  have h1 := dv_lt (by decide) (zl_can x).1
  rw [zl_dv h] at h1
  exact nl_len h (Int.lt_of_lt_of_le h1 (zb_lb _))
theorem zl_nl_len {x : Int} (h : 0 ≤ x) : (zl x).length ≤ 3 * (nl x).length := by
  have h1 := dv_lt (by decide) (nl_can x).1
  rw [nl_dv h] at h1
  exact zl_len h (Int.lt_of_lt_of_le h1 (lb_zb _))
theorem refBack_eq (x : Int) (hx : 0 ≤ x) (hl : (zl x).length ≤ 100000000000) : m_triviumref02_Back (zl x) = some (nl x) := by
  obtain ⟨r, h1, h2⟩ := refBack_loop x.toNat x [] hx (Nat.le_refl _) hl (Dig.nil _) (by have := nl_zl_len hx; simp; omega)
  unfold m_triviumref02_Back
  rw [h1, bd_some, h2, List.nil_append]
end Go.Proofs.YtkjkipkfndckfaaGreatDoor.AP
/- The program's numbers, as printed: noughts, limbs, compared, added. -/
namespace Go.Proofs.YtkjkipkfndckfaaGreatDoor.AP
open Go Go.Proofs.YtkjkipkfndckfaaGreatDoor.Tri
set_option linter.unusedVariables false
set_option linter.unusedSimpArgs false
theorem trimN_loop (p0 : List Int) (hl : p0.length ≤ 4611686018427387904) : ∀ (n : Nat) (a b : List Int), a.length = n → p0 = a ++ b → ∃ k : Nat, lp (m_nat_trim_l1 p0) (n : Int) = some (k : Int) ∧ k ≤ n ∧ a.take k = trimz a
  | 0, a, b, h, hp => by
    have : a = [] := List.eq_nil_of_length_eq_zero h
    subst this
    exact ⟨0, by rw [lp_go]; simp [m_nat_trim_l1], Nat.le_refl _, rfl⟩
  | n + 1, a, b, h, hp => by
    obtain ⟨d, x, rfl, hd⟩ := split_last h
    have hlen : p0.length = n + 1 + b.length := by rw [hp]; simp [hd]; omega
    have hx : gI p0 (n : Int) = x := by rw [hp, List.append_assoc]; unfold gI; rw [List.getD_eq_getElem?_getD, List.getElem?_append_right (by simp [hd])]; simp [hd]
    have hstep : m_nat_trim_l1 p0 ((n + 1 : Nat) : Int) = if x = 0 then some (.inl (n : Int)) else some (.inr ((n + 1 : Nat) : Int)) := by
      have e1 : wi64 (((n + 1 : Nat) : Int) - 1) = (n : Int) := by rw [wi64_eq (by omega) (by omega)]; omega
      have e2 : rd p0 (n : Int) = some x := by rw [rd_I (by omega) (by omega), hx]
      have e3 : decide (0 < ((n + 1 : Nat) : Int)) = true := decide_eq_true (by omega)
      simp only [m_nat_trim_l1, e3, if_true, e1, e2, bd_some, decide_eq_true_eq]
    by_cases h0 : x = 0
    · subst h0
      rw [lp_more (by rw [hstep, if_pos rfl])]
      obtain ⟨k, h1, h2, h3⟩ := trimN_loop p0 hl n d ([0] ++ b) hd (by rw [hp]; simp)
      refine ⟨k, h1, by omega, ?_⟩
      rw [trimz_snoc_zero, ← h3, List.take_append_of_le_length (by omega)]
    · refine ⟨n + 1, lp_done (by rw [hstep, if_neg h0]), Nat.le_refl _, ?_⟩
      rw [List.take_of_length_le (by omega), trimz_of_top (Top.snoc.2 h0)]
theorem trimN_eq (a : List Int) (hl : a.length ≤ 4611686018427387904) : m_nat_trim a = some (trimz a) := by
  obtain ⟨k, h1, h2, h3⟩ := trimN_loop a hl a.length a [] rfl (by simp)
  unfold m_nat_trim
  rw [h1, bd_some, ct_of (by omega), bd_some]
  simp [h3]
theorem make_loop (p0 : List Int) (hd : Dig (4294967296 : Int) p0) (hl : p0.length ≤ 10000000000000) : ∀ (k i : Nat), i + k = p0.length → lp (m_nat_Make_l1 p0) ((i : Int), p0.take i) = some (trimz p0, 0)
  | 0, i, hk => by
    obtain rfl : i = p0.length := by omega
    refine lp_done ?_
    simp only [m_nat_Make_l1, List.take_length, trimN_eq p0 (by omega), bd_some]
    simp
  | k + 1, i, hk => by
    have g := gI_dig hd (by decide) (i : Int)
    have e1 : decide ((i : Int) < (p0.length : Int)) = true := decide_eq_true (by omega)
    have e2 : rd p0 (i : Int) = some (gI p0 (i : Int)) := rd_I (by omega) (by omega)
    have e3 : decide ((4294967296 : Int) ≤ gI p0 (i : Int)) = false := decide_eq_false (by omega)
    have e4 : wi64 ((i : Int) + 1) = ((i + 1 : Nat) : Int) := by rw [wi64_eq (by omega) (by omega)]; omega
    have e5 : ap 8 (p0.take i) [gI p0 (i : Int)] = some (p0.take (i + 1)) := by
      rw [ap_of (by simp; omega), List.take_add_one, List.getElem?_eq_getElem (by omega)]
      have : gI p0 (i : Int) = p0[i] := by simp [gI, show i < p0.length by omega]
      rw [this]; rfl
    rw [lp_more (s' := (((i + 1 : Nat) : Int), p0.take (i + 1))) (by simp only [m_nat_Make_l1, e1, if_true, e2, bd_some, e3, e5, e4]; rfl)]
    exact make_loop p0 hd hl k (i + 1) (by omega)
theorem make_dig (a : List Int) (hd : Dig (4294967296 : Int) a) (hl : a.length ≤ 10000000000000) : m_nat_Make a = some (trimz a, 0) := by
  unfold m_nat_Make
  rw [mk_of (by omega), bd_some]
  have := make_loop a hd hl a.length 0 (by omega)
  simpa using this
theorem make_nl (x : Int) (hl : (nl x).length ≤ 10000000000000) : m_nat_Make (nl x) = some (nl x, 0) := by
  rw [make_dig _ (nl_can x).1 hl, trimz_of_top (nl_can x).2]
theorem may_can (a : List Int) (h : Tri.Can (4294967296 : Int) a) (hl : a.length ≤ 4611686018427387904) : m_nat_May a = some true := by
  have key : ∀ (k i : Nat), i + k = a.length → lp (m_nat_May_l1 a) (i : Int) = some true := by
    intro k
    induction k with
    | zero =>
      intro i hk
      obtain rfl : i = a.length := by omega
      refine lp_done ?_
      by_cases h0 : a = []
      · subst h0; simp [m_nat_May_l1]
      · obtain ⟨d, x, rfl⟩ := eq_snoc h0
        have hx := Top.snoc.1 h.2
        have e1 : wi64 (((d ++ [x]).length : Int) - 1) = (d.length : Int) := by rw [wi64_eq (by omega) (by omega)]; simp
        have e2 : rd (d ++ [x]) (d.length : Int) = some x := by rw [rd_I (by omega) (by simp; omega), gI_last]
        have e3 : decide (((d ++ [x]).length : Int) = 0) = false := decide_eq_false (by simp; omega)
        simp only [m_nat_May_l1, show decide (((d ++ [x]).length : Int) < ((d ++ [x]).length : Int)) = false by simp, e3, e1, e2, bd_some]
        simp [hx]
    | succ k ih =>
      intro i hk
      have g := gI_dig h.1 (by decide) (i : Int)
      have e1 : decide ((i : Int) < (a.length : Int)) = true := decide_eq_true (by omega)
      have e2 : rd a (i : Int) = some (gI a (i : Int)) := rd_I (by omega) (by omega)
      have e3 : decide ((4294967296 : Int) ≤ gI a (i : Int)) = false := decide_eq_false (by omega)
      have e4 : wi64 ((i : Int) + 1) = ((i + 1 : Nat) : Int) := by rw [wi64_eq (by omega) (by omega)]; omega
      rw [lp_more (s' := ((i + 1 : Nat) : Int)) (by simp only [m_nat_May_l1, e1, if_true, e2, bd_some, e3, e4]; rfl)]
      exact ih (i + 1) (by omega)
  exact key a.length 0 (by omega)
theorem cmpN_loop (a b : List Int) (ha : Dig (4294967296 : Int) a) (hb : Dig (4294967296 : Int) b) (he : a.length = b.length) (hl : a.length ≤ 4611686018427387904) : ∀ n : Nat, n ≤ a.length → dv (4294967296 : Int) (a.drop n) = dv (4294967296 : Int) (b.drop n) → lp (m_nat_Cmp_l1 a b) ((n : Int) - 1) = some (sg (dv (4294967296 : Int) a - dv (4294967296 : Int) b))
  | 0, _, h => by
    rw [List.drop_zero, List.drop_zero] at h
    refine lp_done ?_
    rw [h, Int.sub_self]
    simp [m_nat_Cmp_l1, sg]
  | n + 1, hn, h => by
    have ga := gI_dig ha (by decide) (n : Int)
    have gb := gI_dig hb (by decide) (n : Int)
    have a0 : ((n + 1 : Nat) : Int) - 1 = (n : Int) := by omega
    have a1 : decide ((0 : Int) ≤ (n : Int)) = true := decide_eq_true (by omega)
    have a2 : rd a (n : Int) = some (gI a (n : Int)) := rd_I (by omega) (by omega)
    have a3 : rd b (n : Int) = some (gI b (n : Int)) := rd_I (by omega) (by omega)
    have a5 : wi64 ((n : Int) - 1) = (n : Int) - 1 := wi64_eq (by omega) (by omega)
    have e : m_nat_Cmp_l1 a b (((n + 1 : Nat) : Int) - 1) = if gI a (n : Int) < gI b (n : Int) then some (.inr (-1)) else if gI b (n : Int) < gI a (n : Int) then some (.inr 1) else some (.inl ((n : Int) - 1)) := by
      rw [a0]
      simp only [m_nat_Cmp_l1, a1, if_true, a2, a3, bd_some, a5, decide_eq_true_eq]
    rcases Int.lt_trichotomy (gI a (n : Int)) (gI b (n : Int)) with hlt | heq | hgt
    · have := digit_lt (by decide) ha hb n (by omega) (by omega) h hlt
      rw [lp_done (by rw [e, if_pos hlt])]
      unfold sg; rw [if_pos (by omega)]
    · rw [lp_more (by rw [e, if_neg (by omega), if_neg (by omega)])]
      refine cmpN_loop a b ha hb he hl n (by omega) ?_
      rw [drop_gI a n (by omega), drop_gI b n (by omega), dv_cons, dv_cons, h, heq]
    · have := digit_lt (by decide) hb ha n (by omega) (by omega) h.symm hgt
      rw [lp_done (by rw [e, if_neg (by omega), if_pos hgt])]
      unfold sg; rw [if_neg (by omega), if_pos (by omega)]
theorem cmpN_can (a b : List Int) (ha : Tri.Can (4294967296 : Int) a) (hb : Tri.Can (4294967296 : Int) b) (hl : a.length ≤ 4611686018427387904) : m_nat_Cmp a b = some (sg (dv (4294967296 : Int) a - dv (4294967296 : Int) b)) := by
  unfold m_nat_Cmp
  rcases Nat.lt_trichotomy a.length b.length with h | h | h
  · have := Can.lt_of_length (by decide) ha.1 hb h
    rw [lt_eq, if_pos (by simp; omega)]
    unfold sg; rw [if_pos (by omega)]
  · rw [lt_eq, if_neg (by simp; omega), lt_eq, if_neg (by simp; omega), wi64_eq (by omega) (by omega)]
    exact cmpN_loop a b ha.1 hb.1 h hl a.length (Nat.le_refl _) (by rw [List.drop_length, h, List.drop_length])
  · have := Can.lt_of_length (by decide) hb.1 ha h
    rw [lt_eq, if_neg (by simp; omega), lt_eq, if_pos (by simp; omega)]
    unfold sg; rw [if_neg (by omega), if_pos (by omega)]
theorem cmpN_eq (x y : Int) (hx : 0 ≤ x) (hy : 0 ≤ y) (hl : (nl x).length ≤ 4611686018427387904) : m_nat_Cmp (nl x) (nl y) = some (sg (x - y)) := by
  rw [cmpN_can _ _ (nl_can x) (nl_can y) hl, nl_dv hx, nl_dv hy]
/-! limbs -/
theorem and_low (x : Int) (h0 : 0 ≤ x) (h1 : x < 18446744073709551616) : Go.bits .and .u64 x 4294967295 = x % 4294967296 := by
  rw [u64_and x _ h0 h1 (by omega) (by omega)]
  have : (4294967295 : Int).toNat = 2 ^ 32 - 1 := rfl
  rw [this, Nat.and_two_pow_sub_one_eq_mod]
  omega
theorem and_limb (x : Int) (h0 : 0 ≤ x) (h1 : x < (4294967296 : Int)) : Go.bits .and .u64 x 4294967295 = x := by
  rw [and_low x h0 (by omega)]; omega
theorem sr32 (x : Int) : sr .u64 x 32 = some (x / (4294967296 : Int)) := by
  unfold sr
  rw [if_pos (by decide)]
  have e : (2 : Int) ^ (min (32 : Int).toNat IntKind.u64.bits) = (4294967296 : Int) := by decide
  rw [e, Int.fdiv_eq_ediv_of_nonneg _ (by decide)]
theorem sh32 (x : Int) (h0 : 0 ≤ x) (h1 : x < (4294967296 : Int)) : sh .u64 x 32 = some (x * (4294967296 : Int)) := by
  unfold sh
  rw [if_pos (by decide)]
  have e : (2 : Int) ^ (min (32 : Int).toNat IntKind.u64.bits) = (4294967296 : Int) := by decide
  rw [e]
  congr 1
  exact wu64_eq (by omega) (by omega)
theorem or_low (x y : Int) (h0 : 0 ≤ x) (h1 : x < (4294967296 : Int)) (h2 : 0 ≤ y) (h3 : y < (4294967296 : Int)) : Go.bits .or .u64 (x * (4294967296 : Int)) y = x * (4294967296 : Int) + y := by
  rw [u64_or _ _ (by omega) (by omega) h2 (by omega)]
  obtain ⟨X, rfl⟩ := Int.eq_ofNat_of_zero_le h0
  obtain ⟨Y, rfl⟩ := Int.eq_ofNat_of_zero_le h2
  have e1 : ((X : Int) * (4294967296 : Int)).toNat = 2 ^ 32 * X := by omega
  rw [e1, Int.toNat_natCast, ← Nat.two_pow_add_eq_or_of_lt (by omega)]
  omega
theorem mul_bound {a b c d : Int} (ha : 0 ≤ a ∧ a < (4294967296 : Int)) (hb : 0 ≤ b ∧ b < (4294967296 : Int)) (hc : 0 ≤ c ∧ c < (4294967296 : Int)) (hd : 0 ≤ d ∧ d < (4294967296 : Int)) : 0 ≤ a * b ∧ a * b + c + d < (4294967296 : Int) * (4294967296 : Int) := by
  have h1 : 0 ≤ a * b := Int.mul_nonneg ha.1 hb.1
  have h2 : a * b ≤ ((4294967296 : Int) - 1) * ((4294967296 : Int) - 1) := by
    have h3 : a * b ≤ ((4294967296 : Int) - 1) * b := Int.mul_le_mul_of_nonneg_right (by omega) hb.1
    have h4 : ((4294967296 : Int) - 1) * b ≤ ((4294967296 : Int) - 1) * ((4294967296 : Int) - 1) := Int.mul_le_mul_of_nonneg_left (by omega) (by decide)
    omega
  refine ⟨h1, ?_⟩
  have e : (4294967296 - 1) * (4294967296 - 1) = (18446744065119617025 : Int) := by decide
  have e2 : 4294967296 * 4294967296 = (18446744073709551616 : Int) := by decide
  omega
theorem limbMul_eq (a b c d : Int) (ha : 0 ≤ a ∧ a < (4294967296 : Int)) (hb : 0 ≤ b ∧ b < (4294967296 : Int)) (hc : 0 ≤ c ∧ c < (4294967296 : Int)) (hd : 0 ≤ d ∧ d < (4294967296 : Int)) : m_limb_Mul a b c d = some ((a * b + c + d) % (4294967296 : Int), (a * b + c + d) / (4294967296 : Int)) := by
  unfold m_limb_Mul
  obtain ⟨h1, h2⟩ := mul_bound ha hb hc hd
  have e2 : 4294967296 * 4294967296 = (18446744073709551616 : Int) := by decide
  rw [and_limb a ha.1 ha.2, and_limb b hb.1 hb.2, and_limb c hc.1 hc.2, and_limb d hd.1 hd.2]
  have hc1 := hc.1
  have hd1 := hd.1
  generalize a * b = p at h1 h2
  rw [lt_eq, wu64_eq (x := p) (by omega) (by omega), wu64_eq (x := p + c) (by omega) (by omega), wu64_eq (x := p + c + d) (by omega) (by omega), sr32, bd_some, and_low _ (by omega) (by omega)]
theorem limbAdd_eq (a b c : Int) (ha : 0 ≤ a ∧ a < (4294967296 : Int)) (hb : 0 ≤ b ∧ b < (4294967296 : Int)) (hc : 0 ≤ c ∧ c < (4294967296 : Int)) : m_limb_Add a b c = some ((a + b + c) % (4294967296 : Int), (a + b + c) / (4294967296 : Int)) := by
  unfold m_limb_Add
  rw [and_limb a ha.1 ha.2, and_limb b hb.1 hb.2, and_limb c hc.1 hc.2]
  rw [lt_eq, wu64_eq (x := a + b) (by omega) (by omega), wu64_eq (x := a + b + c) (by omega) (by omega), sr32, bd_some, and_low _ (by omega) (by omega)]
theorem limbDiv_eq (h l d : Int) (hh : 0 ≤ h ∧ h < d) (hl : 0 ≤ l ∧ l < (4294967296 : Int)) (hd : 0 < d ∧ d < (4294967296 : Int)) : m_limb_Div h l d = some ((h * (4294967296 : Int) + l) / d, (h * (4294967296 : Int) + l) % d, 0) := by
  unfold m_limb_Div
  rw [and_limb h hh.1 (by omega), and_limb l hl.1 hl.2, and_limb d (by omega) hd.2]
  rw [lt_eq, if_neg (by simp; omega), lt_eq, if_neg (by simp; omega), sh32 h hh.1 (by omega), bd_some, or_low h l hh.1 (by omega) hl.1 hl.2, lt_eq, qdU (by omega) hd.1 (by omega), bd_some, rm_of (by omega) hd.1, bd_some]
theorem natOf_eq (x : Int) (h0 : 0 ≤ x) (h1 : x < 18446744073709551616) : m_nat_Of x = some (nl x) := by
  unfold m_nat_Of
  rw [rm_of h0 (by decide), bd_some, sr32, bd_some, trimN_eq _ (by simp), bd_some]
  rw [trimz_nl (Dig.cons ⟨by omega, by omega⟩ (Dig.cons ⟨by omega, by omega⟩ (Dig.nil _))) (x := x) (by simp only [dv]; omega)]
theorem natAt_eq (a : List Int) (i : Nat) (hl : a.length ≤ 4611686018427387904) : m_nat_at a (i : Int) = some (gI a (i : Int)) := by
  unfold m_nat_at
  by_cases h : a.length ≤ i
  · rw [if_pos (by simp; omega)]
    have : gI a (i : Int) = 0 := by unfold gI; rw [List.getD_eq_getElem?_getD, List.getElem?_eq_none (by omega)]; rfl
    rw [this]
  · rw [if_neg (by simp; omega), rd_I (by omega) (by omega), bd_some]
theorem set_at {α : Type} (d : List α) (x y : α) (r : List α) : (d ++ x :: r).set d.length y = (d ++ [y]) ++ r := by simp
end Go.Proofs.YtkjkipkfndckfaaGreatDoor.AP
/- What is cleaned: numbers, fractions. -/
namespace Go.Proofs.YtkjkipkfndckfaaGreatDoor.AP
open Go Go.Proofs.YtkjkipkfndckfaaGreatDoor.Tri
set_option linter.unusedVariables false
set_option linter.unusedSimpArgs false
/-- a loop that puts something of each of the first N behind a row -/
theorem lp_mapN {α β X : Type} {f : (Int × List β) → Option ((Int × List β) ⊕ X)} (l : List α) (N : Nat) (h : α → β) (e : Option X)
    (hs : ∀ (i : Nat) x acc, l[i]? = some x → i < N → acc.length = i → f ((i : Int), acc) = some (.inl ((i : Int) + 1, acc ++ [h x])))
    (he : lp f (((l.take N).length : Int), (l.take N).map h) = e) : lp f (0, []) = e := by
  have key : ∀ (k i : Nat), i + k = (l.take N).length → lp f ((i : Int), (l.take i).map h) = e := by
    intro k
    induction k with
    | zero =>
      intro i hk
      have hk : i = (l.take N).length := by omega
      have e1 : l.take i = l.take N := by rw [hk, List.take_eq_take_iff]; simp
      rw [e1, hk]; exact he
    | succ k ih =>
      intro i hk
      have hlt : i < l.length ∧ i < N := by simp at hk; omega
      have := hs i l[i] ((l.take i).map h) (List.getElem?_eq_getElem hlt.1) hlt.2 (by simp; omega)
      rw [lp_more this]
      have h2 := ih (i + 1) (by omega)
      rw [List.take_add_one, List.getElem?_eq_getElem hlt.1, List.map_append] at h2
      exact h2
  simpa using key _ 0 (by rw [Nat.zero_add])
theorem len_of_get {α : Type} {l : List α} {i : Nat} {x : α} (h : l[i]? = some x) : i < l.length := (List.getElem?_eq_some_iff.1 h).1
def Limbs (l : List Int) : Prop := ∀ x ∈ l, 0 ≤ x ∧ x < 18446744073709551616
def cleanL (l : List Int) (n : Nat) : List Int := trimz ((l.take n).map fun x => x % (4294967296 : Int))
theorem cleanL_can (l : List Int) (n : Nat) : Tri.Can (4294967296 : Int) (cleanL l n) := trimz_can fun x hx => by
  obtain ⟨y, _, rfl⟩ := List.mem_map.1 hx
  exact ⟨Int.emod_nonneg _ (by decide), Int.emod_lt_of_pos _ (by decide)⟩
def cleanV (l : List Int) (n : Nat) : Int := dv (4294967296 : Int) (cleanL l n)
theorem cleanL_nl (l : List Int) (n : Nat) : cleanL l n = nl (cleanV l n) := can_nl (cleanL_can l n) rfl
theorem cleanV_nonneg (l : List Int) (n : Nat) : 0 ≤ cleanV l n := dv_nonneg (by decide) (cleanL_can l n).1
theorem cleanV_lt (l : List Int) (n : Nat) : cleanV l n < (4294967296 : Int) ^ n := by
  have h1 := dv_lt (by decide) (cleanL_can l n).1
  have h2 : (cleanL l n).length ≤ n := by
    have h3 := trimz_length ((l.take n).map fun x => x % (4294967296 : Int))
    rw [List.length_map, List.length_take] at h3; unfold cleanL; omega
  exact Int.lt_of_lt_of_le h1 (pow_mono (by decide) h2)
theorem trim2_loop : ∀ (n : Nat) (a : List Int), a.length = n → n ≤ 4611686018427387904 → lp m_triviumref02_Clean_l2 a = some (trimz a)
  | 0, a, h, _ => by
    obtain rfl := List.eq_nil_of_length_eq_zero h
    rw [lp_go]; simp [m_triviumref02_Clean_l2, trimz]
  | n + 1, a, h, hn => by
    obtain ⟨d, x, rfl, hd⟩ := split_last h
    have e1 : wi64 (((d ++ [x]).length : Int) - 1) = (n : Int) := by rw [wi64_eq (by omega) (by omega)]; omega
    have e2 : rd (d ++ [x]) (n : Int) = some x := by rw [rd_I (by omega) (by omega), ← hd, gI_last]
    have e3 : decide ((0 : Int) < ((d ++ [x]).length : Int)) = true := decide_eq_true (by omega)
    have e4 : ct (d ++ [x]) 0 (n : Int) = some d := by rw [ct_of (by omega)]; simp [← hd]
    have e : m_triviumref02_Clean_l2 (d ++ [x]) = if x = 0 then some (.inl d) else some (.inr (d ++ [x])) := by
      simp only [m_triviumref02_Clean_l2, e3, if_true, e1, e2, bd_some, decide_eq_true_eq, e4]
    by_cases h0 : x = 0
    · subst h0
      rw [lp_more (by rw [e, if_pos rfl]), trimz_snoc_zero]
      exact trim2_loop n d hd (by omega)
    · rw [lp_done (by rw [e, if_neg h0]), trimz_of_top (Top.snoc.2 h0)]
theorem refClean_eq (l : List Int) (n : Nat) (hl : Limbs l) (hn : n ≤ 1000000) (hlen : l.length ≤ 9223372036854775807) : m_triviumref02_Clean l (n : Int) = some (nl (cleanV l n)) := by
  unfold m_triviumref02_Clean
  rw [lp_mapN l n (fun x => x % (4294967296 : Int)) (some ((l.take n).map fun x => x % (4294967296 : Int)))]
  · rw [bd_some, trim2_loop _ _ rfl (by simp; omega), bd_some, ← cleanL_nl]; rfl
  · intro i x acc hx hi ha
    have hlt := len_of_get hx
    have h0 := hl x (List.mem_of_getElem? hx)
    have e1 : decide ((i : Int) < (l.length : Int)) = true := decide_eq_true (by omega)
    have e2 : decide ((i : Int) < (n : Int)) = true := decide_eq_true (by omega)
    have e3 : rd l (i : Int) = some x := by rw [rd_nat]; exact hx
    have e4 : wi64 ((i : Int) + 1) = (i : Int) + 1 := wi64_eq (by omega) (by omega)
    simp only [m_triviumref02_Clean_l1, e1, if_true, e2, bd_some, e3, rm_of h0.1 (show (0 : Int) < 4294967296 by decide), ap_of (l := acc) (m := [x % 4294967296]) (b := 8) (by simp; omega), e4]
  · refine lp_done ?_
    by_cases hle : l.length ≤ n
    · have e1 : decide (((l.take n).length : Int) < (l.length : Int)) = false := decide_eq_false (by simp; omega)
      simp only [m_triviumref02_Clean_l1, e1, bd_some]; rfl
    · have e1 : decide (((l.take n).length : Int) < (l.length : Int)) = true := decide_eq_true (by simp; omega)
      have e2 : decide (((l.take n).length : Int) < (n : Int)) = false := decide_eq_false (by simp; omega)
      simp only [m_triviumref02_Clean_l1, e1, if_true, e2, bd_some]; rfl
/-- a number with a sign -/
def zI (z : Int) : D_api_Int := (decide (z < 0), nl (z.natAbs : Int))
def zZ (z : Int) : D_triviumref07_Z := (decide (z < 0), zl (z.natAbs : Int))
/-- a fraction -/
def rI (a b : Int) : D_api_Rat := (zI a, nl b)
def rQ (a b : Int) : D_triviumref08_Q := (zZ a, zl b)
def cleanZ (p : D_api_Int) (n : Nat) : Int := if p.1 then -cleanV p.2 n else cleanV p.2 n
theorem cleanZ_abs (p : D_api_Int) (n : Nat) : ((cleanZ p n).natAbs : Int) = cleanV p.2 n := by
  have := cleanV_nonneg p.2 n
  unfold cleanZ; split <;> omega
theorem neg_or_nil {x : Int} (h : 0 ≤ x) : decide (0 < ((nl x).length : Int)) = decide (0 < x) := by
  have := nl_nil h
  by_cases hx : x = 0
  · rw [this.2 hx]; simp [hx]
  · have : nl x ≠ [] := fun e => hx (this.1 e)
    have := List.length_pos_iff.2 this
    rw [decide_eq_true (by omega), decide_eq_true (by omega)]
theorem neg_or_zl {x : Int} (h : 0 ≤ x) : decide (0 < ((zl x).length : Int)) = decide (0 < x) := by
  have := zl_nil h
  by_cases hx : x = 0
  · rw [this.2 hx]; simp [hx]
  · have : zl x ≠ [] := fun e => hx (this.1 e)
    have := List.length_pos_iff.2 this
    rw [decide_eq_true (by omega), decide_eq_true (by omega)]
theorem ref07Clean_eq (p : D_api_Int) (n : Nat) (hl : Limbs p.2) (hn : n ≤ 1000000) (hlen : p.2.length ≤ 9223372036854775807) : m_triviumref07_Clean p (n : Int) = some (zI (cleanZ p n)) := by
  unfold m_triviumref07_Clean
  have h0 := cleanV_nonneg p.2 n
  rw [refClean_eq p.2 n hl hn hlen, bd_some]
  unfold zI
  rw [cleanZ_abs]
  unfold cleanZ
  by_cases hp : p.1 = true
  · rw [if_pos hp, if_pos hp, neg_or_nil h0]; congr 2; rw [decide_eq_decide]; omega
  · rw [if_neg hp, if_neg hp]; congr 2; rw [decide_eq_false (by omega)]
theorem ref07Made_eq (b : Bool) (x : Int) (h : 0 ≤ x) : m_triviumref07_made b (zl x) = some (zZ (if b then -x else x)) := by
  unfold m_triviumref07_made zZ
  cases b with
  | true => rw [if_pos rfl, if_pos rfl, neg_or_zl h]; rw [show (((-x).natAbs : Nat) : Int) = x by omega]; congr 2; rw [decide_eq_decide]; omega
  | false => rw [if_neg (by decide), if_neg (by decide), decide_eq_false (by omega), show ((x.natAbs : Nat) : Int) = x by omega]
theorem signed (z : Int) : (if decide (z < 0) = true then -(z.natAbs : Int) else (z.natAbs : Int)) = z := by
  by_cases h : z < 0
  · rw [if_pos (decide_eq_true h)]; omega
  · rw [if_neg (by simpa using h)]; omega
theorem ref07Of_eq (z : Int) (hl : (nl (z.natAbs : Int)).length ≤ 30000000000) : m_triviumref07_Of (zI z) = some (zZ z) := by
  unfold m_triviumref07_Of
  show bd (m_triviumref02_Of (nl (z.natAbs : Int))) _ = _
  rw [refOf_eq _ (by omega) hl, bd_some, ref07Made_eq _ _ (by omega), bd_some]
  show some (zZ (if decide (z < 0) = true then -(z.natAbs : Int) else (z.natAbs : Int))) = _
  rw [signed]
theorem ref07Back_eq (z : Int) (hl : (zl (z.natAbs : Int)).length ≤ 100000000000) : m_triviumref07_Back (zZ z) = some (zI z) := by
  unfold m_triviumref07_Back
  show bd (m_triviumref02_Back (zl (z.natAbs : Int))) _ = _
  rw [refBack_eq _ (by omega) hl, bd_some]
  rfl
theorem gcd_abs (a b : Int) : Int.gcd (a.natAbs : Int) b = Int.gcd a b := by
  unfold Int.gcd; rw [Int.natAbs_natCast]
theorem ref08Low_eq (a b : Int) (hb : 0 < b) (hla : (zl (a.natAbs : Int)).length ≤ 100000000) (hlb : (zl b).length ≤ 100000000) : m_triviumref08_Low (zZ a) (zl b) = some (rQ (a / Int.gcd a b) (b / Int.gcd a b)) := by
  unfold m_triviumref08_Low
  show bd (m_triviumref02_Gcd (zl (a.natAbs : Int)) (zl b)) _ = _
  have hg : 0 < (Int.gcd a b : Int) := by
    have := Int.gcd_pos_of_ne_zero_right a (show b ≠ 0 by omega); omega
  have hgb : (Int.gcd a b : Int) ≤ b := Int.le_of_dvd hb (Int.gcd_dvd_right a b)
  have hgl : (zl (Int.gcd a b : Int)).length ≤ 100000000 := Nat.le_trans (zl_mono (by omega) hgb) hlb
  rw [refGcd_eq b.toNat _ b (Nat.le_refl _) (by omega) (by omega) (by omega) (by omega), bd_some, gcd_abs]
  show bd (m_triviumref02_Div (zl (a.natAbs : Int)) _) _ = _
  rw [refDiv_eq _ _ (by omega) hg (by omega) (by omega), bd_some]
  rw [refDiv_eq _ _ (by omega) hg (by omega) (by omega), bd_some]
  have hd : (Int.gcd a b : Int) ∣ a := Int.gcd_dvd_left a b
  generalize (Int.gcd a b : Int) = g at *
  obtain ⟨q, rfl⟩ := hd
  have e1 : g * q / g = q := Int.mul_ediv_cancel_left q (by omega)
  have e2 : ((g * q).natAbs : Int) / g = (q.natAbs : Int) := by
    rw [Int.natAbs_mul, Int.natCast_mul, show ((g.natAbs : Nat) : Int) = g by omega, Int.mul_ediv_cancel_left _ (by omega)]
  have e3 : (g * q < 0) ↔ (q < 0) := by
    constructor
    · intro h; apply Int.lt_of_not_ge; intro h2; have := Int.mul_nonneg (Int.le_of_lt hg) h2; omega
    · intro h; exact Int.mul_neg_of_pos_of_neg hg h
  rw [e1, e2]
  unfold rQ zZ
  dsimp only
  by_cases hq : q < 0
  · rw [if_pos (decide_eq_true (e3.2 hq)), neg_or_zl (by omega), decide_eq_true hq, decide_eq_true (by omega)]
  · rw [if_neg (by simp [e3]; omega), decide_eq_false hq]
theorem ref08Back_eq (a b : Int) (hb : 0 ≤ b) (hla : (zl (a.natAbs : Int)).length ≤ 100000000) (hlb : (zl b).length ≤ 100000000) : m_triviumref08_Back (rQ a b) = some (rI a b) := by
  unfold m_triviumref08_Back
  show bd (m_triviumref07_Back (zZ a)) _ = _
  rw [ref07Back_eq a (by omega), bd_some]
  show bd (m_triviumref02_Back (zl b)) _ = _
  rw [refBack_eq b hb (by omega), bd_some]
  rfl
/-- a fraction that is cleaned -/
def cleanB (p : D_api_Rat) (n : Nat) : Int := if cleanV p.2 n = 0 then 1 else cleanV p.2 n
def cleanN (p : D_api_Rat) (n : Nat) : Int := cleanZ p.1 n / Int.gcd (cleanZ p.1 n) (cleanB p n)
def cleanD (p : D_api_Rat) (n : Nat) : Int := cleanB p n / Int.gcd (cleanZ p.1 n) (cleanB p n)
theorem cleanB_pos (p : D_api_Rat) (n : Nat) : 0 < cleanB p n := by
  have := cleanV_nonneg p.2 n
  unfold cleanB; split <;> omega
theorem cleanB_lt (p : D_api_Rat) (n : Nat) (hn : 0 < n) : cleanB p n < (4294967296 : Int) ^ n := by
  have := cleanV_lt p.2 n
  unfold cleanB; split
  · have := pow_mono (B := (4294967296 : Int)) (by decide) hn
    rw [Int.pow_one] at this; omega
  · exact this
theorem cleanD_pos (p : D_api_Rat) (n : Nat) : 0 < cleanD p n := by
  have h := cleanB_pos p n
  have hg : 0 < (Int.gcd (cleanZ p.1 n) (cleanB p n) : Int) := by
    have := Int.gcd_pos_of_ne_zero_right (cleanZ p.1 n) (show cleanB p n ≠ 0 by omega); omega
  exact Int.ediv_pos_of_pos_of_dvd h (by omega) (Int.gcd_dvd_right _ _)
theorem cleanD_lt (p : D_api_Rat) (n : Nat) (hn : 0 < n) : cleanD p n < (4294967296 : Int) ^ n := by
  have := cleanB_lt p n hn
  have := Int.ediv_le_self (Int.gcd (cleanZ p.1 n) (cleanB p n) : Int) (Int.le_of_lt (cleanB_pos p n))
  unfold cleanD; omega
theorem cleanN_lt (p : D_api_Rat) (n : Nat) : ((cleanN p n).natAbs : Int) < (4294967296 : Int) ^ n := by
  have h1 := cleanV_lt p.1.2 n
  rw [← cleanZ_abs] at h1
  have : (cleanN p n).natAbs ≤ (cleanZ p.1 n).natAbs := by unfold cleanN; exact Int.natAbs_ediv_le_natAbs _ _
  omega
theorem ref08Clean_eq (p : D_api_Rat) (n : Nat) (h1 : Limbs p.1.2) (h2 : Limbs p.2) (hn0 : 0 < n) (hn : n ≤ 10000000) (hl1 : p.1.2.length ≤ 9223372036854775807) (hl2 : p.2.length ≤ 9223372036854775807) (hn' : n ≤ 1000000) :
    m_triviumref08_Clean p (n : Int) = some (rI (cleanN p n) (cleanD p n)) := by
  have hz : ∀ x : Int, 0 ≤ x → x < (4294967296 : Int) ^ n → (zl x).length ≤ 3 * n := fun x h0 h => zl_len h0 (Int.lt_of_lt_of_le h (lb_zb n))
  have hv := cleanV_lt p.1.2 n
  have hb := cleanB_lt p n hn0
  have hbp := cleanB_pos p n
  have e2 : (if decide (((nl (cleanV p.2 n)).length : Int) = 0) = true then some [(1 : Int)] else some (nl (cleanV p.2 n))) = some (nl (cleanB p n)) := by
    have hn := nl_nil (cleanV_nonneg p.2 n)
    unfold cleanB
    by_cases h0 : cleanV p.2 n = 0
    · rw [if_pos h0, hn.2 h0]; simp [nl, num]
    · rw [if_neg h0]
      have : (nl (cleanV p.2 n)) ≠ [] := fun e => h0 (hn.1 e)
      have := List.length_pos_iff.2 this
      rw [if_neg (by simp; omega)]
  unfold m_triviumref08_Clean
  rw [refClean_eq p.2 n h2 hn' hl2, bd_some, e2, bd_some]
  rw [show ((p.1.1, p.1.2) : D_api_Int) = p.1 from rfl, ref07Clean_eq p.1 n h1 hn' hl1, bd_some, ref07Of_eq _ (by rw [cleanZ_abs]; have := nl_len (cleanV_nonneg p.1.2 n) hv; omega), bd_some,
    refOf_eq _ (by omega) (by have := nl_len (Int.le_of_lt hbp) hb; omega), bd_some,
    ref08Low_eq _ _ hbp (by rw [cleanZ_abs]; have := hz _ (cleanV_nonneg p.1.2 n) hv; omega) (by have := hz _ (Int.le_of_lt hbp) hb; omega), bd_some]
  show bd (m_triviumref08_Back (rQ (cleanN p n) (cleanD p n))) _ = _
  rw [ref08Back_eq _ _ (Int.le_of_lt (cleanD_pos p n)) (by have := hz _ (by omega) (cleanN_lt p n); omega) (by have := hz _ (Int.le_of_lt (cleanD_pos p n)) (cleanD_lt p n hn0); omega), bd_some]
end Go.Proofs.YtkjkipkfndckfaaGreatDoor.AP
/- A number divided by a limb. -/
namespace Go.Proofs.YtkjkipkfndckfaaGreatDoor.AP
open Go Go.Proofs.YtkjkipkfndckfaaGreatDoor.Tri
set_option linter.unusedVariables false
set_option linter.unusedSimpArgs false
theorem smallD_loop (x d : Int) (hx : 0 ≤ x) (hd0 : 0 < d) (hd1 : d < (4294967296 : Int)) (hl : (nl x).length ≤ 1000000000000) : ∀ (n i : Nat) (r : Int) (q : List Int), i + n = (nl x).length → 0 ≤ r → r < d → q.length = i → Dig (4294967296 : Int) q → dv (4294967296 : Int) ((nl x).drop n) = dv (4294967296 : Int) q * d + r →
    ∃ q', lp (m_divide_Small_l1 (nl x) d) (r, (i : Int), List.replicate n 0 ++ q) = some (x % d, q') ∧ q'.length = (nl x).length ∧ Dig (4294967296 : Int) q' ∧ dv (4294967296 : Int) q' = x / d
  | 0, i, r, q, hn, h0, h1, hq, hd, hv => by
    rw [List.drop_zero, nl_dv hx] at hv
    have e := Int.ediv_emod_unique (a := x) (b := d) (r := r) (q := dv (4294967296 : Int) q) hd0
    obtain ⟨e1, e2⟩ := e.2 ⟨by rw [hv, Int.mul_comm d]; omega, h0, h1⟩
    obtain rfl : i = (nl x).length := by omega
    exact ⟨q, lp_done (by simp [m_divide_Small_l1, e2]), by omega, hd, e1.symm⟩
  | n + 1, i, r, q, hn, h0, h1, hq, hd, hv => by
    have g := gI_dig (nl_can x).1 (by decide) (n : Int)
    generalize hs : r * (4294967296 : Int) + gI (nl x) (n : Int) = s
    have hs0 : 0 ≤ s := by omega
    have hsy : s < (4294967296 : Int) * d := by omega
    have hqd : s / d < 4294967296 := Int.ediv_lt_of_lt_mul hd0 hsy
    have hqd0 : 0 ≤ s / d := Int.ediv_nonneg hs0 (by omega)
    have a1 : decide ((i : Int) < ((nl x).length : Int)) = true := decide_eq_true (by omega)
    have a0 : wi64 ((wi64 (((nl x).length : Int) - 1)) - (i : Int)) = (n : Int) := by rw [wi64_eq (x := ((nl x).length : Int) - 1) (by omega) (by omega), wi64_eq (by omega) (by omega)]; omega
    have a2 : rd (nl x) (n : Int) = some (gI (nl x) (n : Int)) := rd_I (by omega) (by omega)
    have a3 := limbDiv_eq r (gI (nl x) (n : Int)) d ⟨h0, h1⟩ g ⟨hd0, hd1⟩
    rw [hs] at a3
    have a6 : ix (List.replicate (n + 1) 0 ++ q) (n : Int) = some n := ix_nat (by simp; omega)
    have b1 : wi64 ((i : Int) + 1) = ((i + 1 : Nat) : Int) := by rw [wi64_eq (by omega) (by omega)]; omega
    have e : m_divide_Small_l1 (nl x) d (r, (i : Int), List.replicate (n + 1) 0 ++ q) = some (.inl (s % d, ((i + 1 : Nat) : Int), List.replicate n 0 ++ (s / d) :: q)) := by
      simp only [m_divide_Small_l1, a1, if_true, a0, a2, bd_some, a3, a6, lt_eq, set_down, b1]
    rw [lp_more e]
    exact smallD_loop x d hx hd0 hd1 hl n (i + 1) (s % d) (s / d :: q) (by omega) (Int.emod_nonneg _ (by omega)) (Int.emod_lt_of_pos _ hd0) (by simp; omega) (Dig.cons ⟨hqd0, hqd⟩ hd) (by
      rw [drop_gI (nl x) n (by omega), dv_cons, dv_cons, hv]
      have := Int.mul_ediv_add_emod s d
      generalize s / d = t at *
      generalize s % d = u at *
      generalize gI (nl x) (n : Int) = gg at *
      subst hs
      have h9 : u = r * (4294967296 : Int) + gg - d * t := by omega
      subst h9
      grind)
theorem smallD_eq (x d : Int) (hx : 0 ≤ x) (hd0 : 0 < d) (hd1 : d < (4294967296 : Int)) (hl : (nl x).length ≤ 1000000000000) : m_divide_Small (nl x) d = some (nl (x / d), x % d, 0) := by
  obtain ⟨q', h1, h2, h3, h4⟩ := smallD_loop x d hx hd0 hd1 hl (nl x).length 0 0 [] (by omega) (Int.le_refl _) hd0 rfl (Dig.nil _) (by rw [List.drop_length]; simp [dv])
  unfold m_divide_Small
  have e : d % (4294967296 : Int) = d := Int.emod_eq_of_lt (by omega) hd1
  rw [rm_of (by omega) (by decide), bd_some, e, if_neg (by simp; omega), mk_of (by omega), bd_some]
  rw [List.append_nil] at h1
  rw [show ((nl x).length : Int).toNat = (nl x).length by omega]
  rw [show ((0 : Int), (0 : Int), List.replicate (nl x).length (0 : Int)) = ((0 : Int), ((0 : Nat) : Int), List.replicate (nl x).length (0 : Int)) from rfl, h1, bd_some]
  dsimp only
  rw [make_dig q' h3 (by omega), bd_some, trimz_nl h3 h4]
theorem nl_one {d : Int} (h0 : 0 < d) (h1 : d < (4294967296 : Int)) : nl d = [d] := by
  unfold nl
  rw [num, dif_pos ⟨by decide, by omega⟩]
  have e1 : d.toNat % 4294967296 = d.toNat := Nat.mod_eq_of_lt (by omega)
  have e2 : d.toNat / 4294967296 = 0 := Nat.div_eq_of_lt (by omega)
  rw [e1, e2, num, dif_neg (by omega)]
  congr 1; omega
end Go.Proofs.YtkjkipkfndckfaaGreatDoor.AP
/- The program's numbers, as printed: divided by a limb, multiplied; with signs; fractions. -/
namespace Go.Proofs.YtkjkipkfndckfaaGreatDoor.AP
open Go Go.Proofs.YtkjkipkfndckfaaGreatDoor.Tri
set_option linter.unusedVariables false
set_option linter.unusedSimpArgs false
/-- divided by a limb -/
theorem div1_eq (x d : Int) (hx : 0 ≤ x) (hd0 : 0 < d) (hd1 : d < (4294967296 : Int)) (hl : (nl x).length ≤ 1000000000000) : m_divide_Div (nl x) (nl d) = some (nl (x / d), nl (x % d), 0) := by
  have hr : (nl d).length = 1 := by rw [nl_one hd0 hd1]; rfl
  have h0 := Int.emod_nonneg x (show d ≠ 0 by omega)
  have h1 := Int.emod_lt_of_pos x hd0
  unfold m_divide_Div
  rw [if_neg (by rw [hr]; decide), may_can _ (nl_can x) (by omega), bd_some, may_can _ (nl_can d) (by omega)]
  simp only [bd_some, Bool.not_true]
  rw [if_neg (by decide), bd_some, if_neg (by decide), cmpN_eq x d hx (by omega) (by omega), bd_some]
  by_cases hlt : x < d
  · have e1 : sg (x - d) = -1 := by unfold sg; rw [if_pos (by omega)]
    rw [e1, if_pos (by decide), make_nl x (by omega), bd_some, Int.ediv_eq_zero_of_lt hx hlt, Int.emod_eq_of_lt hx hlt, nl_zero]
  · have e1 : ¬ sg (x - d) < 0 := by unfold sg; split <;> (try split) <;> omega
    rw [if_neg (by simpa using e1), if_pos (by simp; omega)]
    have e2 : rd (nl d) 0 = some d := by rw [nl_one hd0 hd1]; rfl
    rw [e2, bd_some, smallD_eq x d hx hd0 hd1 hl, bd_some]
    dsimp only
    rw [natOf_eq _ h0 (by omega), bd_some]
end Go.Proofs.YtkjkipkfndckfaaGreatDoor.AP
/- Limbs: taking off, cutting, sums, and the product by Karatsuba's way. -/
namespace Go.Proofs.YtkjkipkfndckfaaGreatDoor.AP
open Go Go.Proofs.YtkjkipkfndckfaaGreatDoor.Tri
set_option linter.unusedVariables false
set_option linter.unusedSimpArgs false
theorem limbSub_eq (a b c : Int) (ha : 0 ≤ a ∧ a < (4294967296 : Int)) (hb : 0 ≤ b ∧ b < (4294967296 : Int)) (hc : c = 0 ∨ c = 1) : m_limb_Sub a b c = some (if a < b + c then a + (4294967296 : Int) - (b + c) else a - (b + c), if a < b + c then 1 else 0) := by
  unfold m_limb_Sub
  rw [and_limb a ha.1 ha.2, and_limb b hb.1 hb.2, and_limb c (by omega) (by omega)]
  rw [lt_eq, wu64_eq (x := b + c) (by omega) (by omega)]
  by_cases h : a < b + c
  · rw [if_pos (decide_eq_true h), if_pos h, if_pos h, wu64_eq (x := b + c - a) (by omega) (by omega), wu64_eq (x := b + c - a + 4294967295) (by omega) (by omega), sr32, bd_some, bd_some]
    rw [show (b + c - a + 4294967295) / (4294967296 : Int) = 1 by omega, sh32 1 (by decide) (by decide), bd_some, lt_eq, wu64_eq (x := a + 1 * (4294967296 : Int)) (by omega) (by omega), wu64_eq (x := a + 1 * (4294967296 : Int) - (b + c)) (by omega) (by omega), Int.one_mul]
  · rw [if_neg (by simpa using h), if_neg h, if_neg h, bd_some, sh32 0 (by decide) (by decide), bd_some, lt_eq, Int.zero_mul, wu64_eq (x := a + 0) (by omega) (by omega), Int.add_zero, wu64_eq (x := a - (b + c)) (by omega) (by omega)]
theorem lt_pow_len {x : Int} (hx : 0 ≤ x) : x < (4294967296 : Int) ^ (nl x).length := by
  have := dv_lt (by decide) (nl_can x).1
  rwa [nl_dv hx] at this
end Go.Proofs.YtkjkipkfndckfaaGreatDoor.AP
/- The document's numbers and fractions, as printed: added, multiplied. -/
namespace Go.Proofs.YtkjkipkfndckfaaGreatDoor.AP
open Go Go.Proofs.YtkjkipkfndckfaaGreatDoor.Tri
set_option linter.unusedVariables false
set_option linter.unusedSimpArgs false
end Go.Proofs.YtkjkipkfndckfaaGreatDoor.AP
/- The document's fractions, as printed. -/
namespace Go.Proofs.YtkjkipkfndckfaaGreatDoor.AP
open Go Go.Proofs.YtkjkipkfndckfaaGreatDoor.Tri
set_option linter.unusedVariables false
set_option linter.unusedSimpArgs false
/-- of at most n digits -/
def Sm (n : Nat) (x : Int) : Prop := (x.natAbs : Int) < (10000 : Int) ^ n
theorem Sm.len {n : Nat} {x : Int} (h : Sm n x) : (zl (x.natAbs : Int)).length ≤ n := zl_len (by omega) h
theorem Sm.len' {n : Nat} {x : Int} (h : Sm n x) (h0 : 0 ≤ x) : (zl x).length ≤ n := by
  have := h.len; rwa [show ((x.natAbs : Nat) : Int) = x by omega] at this
theorem Sm.mono {n m : Nat} {x : Int} (h : Sm n x) (k : n ≤ m) : Sm m x := Int.lt_of_lt_of_le h (pow_mono (by decide) k)
theorem Sm.neg {n : Nat} {x : Int} (h : Sm n x) : Sm n (-x) := by unfold Sm; rw [Int.natAbs_neg]; exact h
theorem Sm.mul {n m : Nat} {x y : Int} (h : Sm n x) (k : Sm m y) : Sm (n + m) (x * y) := by
  unfold Sm at *
  rw [Int.natAbs_mul, Int.natCast_mul, Int.pow_add]
  have h1 : (x.natAbs : Int) * (y.natAbs : Int) ≤ (x.natAbs : Int) * (10000 : Int) ^ m := Int.mul_le_mul_of_nonneg_left (Int.le_of_lt k) (by omega)
  have h2 : (x.natAbs : Int) * (10000 : Int) ^ m < (10000 : Int) ^ n * (10000 : Int) ^ m := Int.mul_lt_mul_of_pos_right h (pow_pos' (by decide) m)
  omega
theorem Sm.add {n : Nat} {x y : Int} (h : Sm n x) (k : Sm n y) : Sm (n + 1) (x + y) := by
  unfold Sm at *
  have : (x + y).natAbs ≤ x.natAbs + y.natAbs := Int.natAbs_add_le x y
  rw [Int.pow_succ]
  have := pow_pos' (B := (10000 : Int)) (by decide) n
  omega
theorem Sm.limb {x : Int} {n : Nat} (h : (x.natAbs : Int) < (4294967296 : Int) ^ n) : Sm (3 * n) x := Int.lt_of_lt_of_le h (lb_zb n)
theorem ref08Of_eq (a b : Int) (hb : 0 ≤ b) (h1 : (nl (a.natAbs : Int)).length ≤ 30000000000) (h2 : (nl b).length ≤ 30000000000) : m_triviumref08_Of (rI a b) = some (rQ a b) := by
  unfold m_triviumref08_Of
  show bd (m_triviumref07_Of (zI a)) _ = _
  rw [ref07Of_eq a h1, bd_some]
  show bd (m_triviumref02_Of (nl b)) _ = _
  rw [refOf_eq b hb h2, bd_some]; rfl
end Go.Proofs.YtkjkipkfndckfaaGreatDoor.AP
/- The program's fractions, as printed: parts of a limb. -/
namespace Go.Proofs.YtkjkipkfndckfaaGreatDoor.AP
open Go Go.Proofs.YtkjkipkfndckfaaGreatDoor.Tri
set_option linter.unusedVariables false
set_option linter.unusedSimpArgs false
theorem wMade_eq (b : Bool) (x : Int) (h : 0 ≤ x) (hl : (nl x).length ≤ 10000000000000) : m_whole_Made b (nl x) = some (zI (if b then -x else x)) := by
  unfold m_whole_Made zI
  rw [make_nl x hl, bd_some]
  dsimp only
  cases b with
  | true => rw [if_pos rfl, if_pos rfl, neg_or_nil h, show (((-x).natAbs : Nat) : Int) = x by omega]; congr 2; rw [decide_eq_decide]; omega
  | false => rw [if_neg (by decide), if_neg (by decide), decide_eq_false (by omega), show ((x.natAbs : Nat) : Int) = x by omega]
theorem wSign_eq (a : Int) : m_whole_Sign (zI a) = some (sg a) := by
  unfold m_whole_Sign
  show (if decide (((nl (a.natAbs : Int)).length : Int) = 0) = true then some 0 else if decide (a < 0) = true then some (-1) else some 1) = _
  have hz := nl_nil (x := (a.natAbs : Int)) (by omega)
  unfold sg
  by_cases h0 : a = 0
  · subst h0; rw [if_pos (by rw [show (((0 : Int).natAbs : Nat) : Int) = 0 from rfl, nl_zero]; rfl)]; rfl
  · have : nl (a.natAbs : Int) ≠ [] := fun e => by have := hz.1 e; omega
    have := List.length_pos_iff.2 this
    rw [if_neg (by rw [decide_eq_true_eq]; omega)]
    by_cases h : a < 0
    · rw [if_pos (decide_eq_true h), if_pos h]
    · rw [if_neg (by simpa using h), if_neg h, if_pos (by omega)]
/-- of at most n limbs -/
def Lm (n : Nat) (x : Int) : Prop := (x.natAbs : Int) < (4294967296 : Int) ^ n
theorem Lm.len {n : Nat} {x : Int} (h : Lm n x) : (nl (x.natAbs : Int)).length ≤ n := nl_len (by omega) h
theorem Lm.len' {n : Nat} {x : Int} (h : Lm n x) (h0 : 0 ≤ x) : (nl x).length ≤ n := by
  have := h.len; rwa [show ((x.natAbs : Nat) : Int) = x by omega] at this
theorem Lm.mul {n m : Nat} {x y : Int} (h : Lm n x) (k : Lm m y) : Lm (n + m) (x * y) := by
  unfold Lm at *
  rw [Int.natAbs_mul, Int.natCast_mul, Int.pow_add]
  have h1 : (x.natAbs : Int) * (y.natAbs : Int) ≤ (x.natAbs : Int) * (4294967296 : Int) ^ m := Int.mul_le_mul_of_nonneg_left (Int.le_of_lt k) (by omega)
  have h2 : (x.natAbs : Int) * (4294967296 : Int) ^ m < (4294967296 : Int) ^ n * (4294967296 : Int) ^ m := Int.mul_lt_mul_of_pos_right h (pow_pos' (by decide) m)
  omega
end Go.Proofs.YtkjkipkfndckfaaGreatDoor.AP
/- Products of any length; whole numbers of any length: add, take off, multiply; the document's ones. -/
namespace Go.Proofs.YtkjkipkfndckfaaGreatDoor.AP
open Go Go.Proofs.YtkjkipkfndckfaaGreatDoor.Tri
set_option linter.unusedVariables false
set_option linter.unusedSimpArgs false
theorem Lm.neg {n : Nat} {x : Int} (h : Lm n x) : Lm n (-x) := by unfold Lm; rw [Int.natAbs_neg]; exact h
theorem Lm.add {n : Nat} {x y : Int} (h : Lm n x) (k : Lm n y) : Lm (n + 1) (x + y) := by
  unfold Lm at *
  have := pow_pos' (show (0 : Int) < (4294967296 : Int) by decide) n
  rw [Int.pow_succ]; omega
theorem Lm.mono {n m : Nat} {x : Int} (h : Lm n x) (k : n ≤ m) : Lm m x := Int.lt_of_lt_of_le h (pow_mono (by decide) k)
end Go.Proofs.YtkjkipkfndckfaaGreatDoor.AP
/- Dividing by two limbs or more: what the guess is, bits, shifts. -/
namespace Go.Proofs.YtkjkipkfndckfaaGreatDoor.AP
open Go Go.Proofs.YtkjkipkfndckfaaGreatDoor.Tri
set_option linter.unusedVariables false
set_option linter.unusedSimpArgs false
/-! the guess: no program in sight -/
theorem gs_le {P W R U V Vl Ul g : Int} (hP : 0 < P) (hV : V = Vl + P * W) (hU : U = Ul + P * R) (v0 : 0 ≤ Vl) (u1 : Ul < P) (hg : 0 ≤ g) (h : g * V ≤ U) : g * W ≤ R := by
  have h1 : 0 ≤ g * Vl := Int.mul_nonneg hg v0
  have h2 : P * (g * W) < P * (R + 1) := by
    have e : g * V = g * Vl + P * (g * W) := by rw [hV]; grind
    have e2 : P * (R + 1) = P * R + P := by grind
    omega
  have := Int.lt_of_mul_lt_mul_left h2 (Int.le_of_lt hP)
  omega
theorem gs_up {P W R U V Vl Ul g : Int} (hP : 0 < P) (hV : V = Vl + P * W) (hU : U = Ul + P * R) (v0 : 0 ≤ Vl) (v1 : Vl < P) (u0 : 0 ≤ Ul) (hg : 0 ≤ g) (hg1 : g < (4294967296 : Int)) (hW : (4294967296 : Int) ≤ W) (h : g * W ≤ R) : g * V < U + V := by
  have h1 : g * Vl ≤ g * P := Int.mul_le_mul_of_nonneg_left (Int.le_of_lt v1) hg
  have h2 : g * P < (4294967296 : Int) * P := Int.mul_lt_mul_of_pos_right hg1 hP
  have h3 : (4294967296 : Int) * P ≤ P * W := by rw [Int.mul_comm (4294967296 : Int)]; exact Int.mul_le_mul_of_nonneg_left hW (Int.le_of_lt hP)
  have h4 : P * (g * W) ≤ P * R := Int.mul_le_mul_of_nonneg_left h (Int.le_of_lt hP)
  have e : g * V = g * Vl + P * (g * W) := by rw [hV]; grind
  omega
/-- what a guess must be: with q the quotient -/
theorem gs_fin {U V g : Int} (hV : 0 < V) (h0 : U / V ≤ g) (h : g * V < U + V) : g = U / V ∨ g = U / V + 1 := by
  have : g - 1 ≤ U / V := Int.le_ediv_of_mul_le hV (by have : (g - 1) * V = g * V - V := by grind
                                                       omega)
  omega
/-- the guess's rounds -/
theorem guess_loop (u v : List Int) (i n : Nat) (v1 v0 u0 num q : Int) (hn : 2 ≤ n) (hvl : v.length = n) (hi : i + n < u.length) (hl : u.length ≤ 1000000000000)
    (hv1 : gI v ((n - 1 : Nat) : Int) = v1) (hv0 : gI v ((n - 2 : Nat) : Int) = v0) (hu0 : gI u ((i + n - 2 : Nat) : Int) = u0)
    (b1 : 2147483648 ≤ v1 ∧ v1 < (4294967296 : Int)) (b0 : 0 ≤ v0 ∧ v0 < (4294967296 : Int)) (c0 : 0 ≤ u0 ∧ u0 < (4294967296 : Int)) (hq0 : 0 ≤ q) (hq1 : q < (4294967296 : Int)) (hnum : num < v1 * (4294967296 : Int) + (4294967296 : Int))
    (hstep : ∀ g : Int, 0 ≤ g → num * (4294967296 : Int) + u0 < g * (v1 * (4294967296 : Int) + v0) → q < g) :
    ∀ (k : Nat) (g r : Int), g.toNat ≤ k → 0 ≤ r → r < (4294967296 : Int) → g < (4294967296 : Int) + (4294967296 : Int) → g * v1 + r = num → q ≤ g →
      ∃ g', lp (m_divide_guess_l1 u (i : Int) v) (g, r) = some g' ∧ q ≤ g' ∧ 0 ≤ g' ∧ g' < (4294967296 : Int) ∧ g' * (v1 * (4294967296 : Int) + v0) ≤ num * (4294967296 : Int) + u0
  | k, g, r, hk, r0, r1, hgb, hr, hg => by
    subst hvl
    have x1 : wi64 ((v.length : Int) - 1) = ((v.length - 1 : Nat) : Int) := by rw [wi64_eq (by omega) (by omega)]; omega
    have x2 : wi64 ((v.length : Int) - 2) = ((v.length - 2 : Nat) : Int) := by rw [wi64_eq (by omega) (by omega)]; omega
    have x3 : wi64 ((i : Int) + (v.length : Int)) = ((i + v.length : Nat) : Int) := by rw [wi64_eq (by omega) (by omega)]; omega
    have x4 : wi64 (((i + v.length : Nat) : Int) - 2) = ((i + v.length - 2 : Nat) : Int) := by rw [wi64_eq (by omega) (by omega)]; omega
    have y1 : rd v ((v.length - 1 : Nat) : Int) = some v1 := by rw [rd_I (by omega) (by omega), hv1]
    have y2 : rd v ((v.length - 2 : Nat) : Int) = some v0 := by rw [rd_I (by omega) (by omega), hv0]
    have y3 : rd u ((i + v.length - 2 : Nat) : Int) = some u0 := by rw [rd_I (by omega) (by omega), hu0]
    have z1 : wu64 (g - 1) = g - 1 ∨ g = 0 := by
      by_cases h : g = 0
      · exact .inr h
      · exact .inl (wu64_eq (by omega) (by omega))
    have z2 : wu64 (r + v1) = r + v1 := wu64_eq (by omega) (by omega)
    have z3 := sh32 r r0 r1
    have z4 := or_low r u0 r0 r1 c0.1 c0.2
    have hgv : g < (4294967296 : Int) → wu64 (g * v0) = g * v0 := fun h => by
      have := mul_bound ⟨by omega, h⟩ b0 ⟨Int.le_refl _, by decide⟩ (d := 0) ⟨Int.le_refl _, by decide⟩
      exact wu64_eq this.1 (by omega)
    have hmul : g * (v1 * (4294967296 : Int) + v0) = (num - r) * (4294967296 : Int) + g * v0 := by rw [← hr]; grind
    by_cases hc : (4294967296 : Int) ≤ g ∨ r * (4294967296 : Int) + u0 < g * v0
    · have hqg : q < g := by
        rcases hc with hc | hc
        · omega
        · refine hstep g (by omega) ?_
          rw [hmul]
          have : (num - r) * (4294967296 : Int) = num * (4294967296 : Int) - r * (4294967296 : Int) := by grind
          omega
      have z1' : wu64 (g - 1) = g - 1 := by omega
      have hr' : (g - 1) * v1 + (r + v1) = num := by rw [← hr]; grind
      by_cases hb : (4294967296 : Int) ≤ r + v1
      · have hg2 : g - 1 < (4294967296 : Int) := by
          have : (g - 1) * v1 < (4294967296 : Int) * v1 := by
            have : (4294967296 : Int) * v1 = v1 * (4294967296 : Int) := Int.mul_comm _ _
            omega
          exact Int.lt_of_mul_lt_mul_right this (by omega)
        refine ⟨g - 1, lp_done ?_, by omega, by omega, hg2, ?_⟩
        · have hcond : (if decide (4294967296 ≤ g) = true then some true else bd (rd v (wi64 ((v.length : Int) - 2))) fun x20 => bd (sh .u64 r 32) fun x22 => bd (rd u (wi64 ((wi64 ((i : Int) + (v.length : Int))) - 2))) fun x24 => some (decide ((Go.bits .or .u64 x22 x24) < (wu64 (g * x20))))) = some true := by
            by_cases hgb : 4294967296 ≤ g
            · rw [if_pos (decide_eq_true hgb)]
            · rw [if_neg (by simpa using hgb), x2, y2, bd_some, z3, bd_some, x3, x4, y3, bd_some, z4, hgv (by omega)]
              congr 1
              exact decide_eq_true (by omega)
          simp only [m_divide_guess_l1, hcond, bd_some, x1, y1, if_true, z1', z2, decide_eq_true hb]
        · have := mul_bound ⟨by omega, hg2⟩ b0 ⟨Int.le_refl _, by decide⟩ (d := 0) ⟨Int.le_refl _, by decide⟩
          have e : (g - 1) * (v1 * (4294967296 : Int) + v0) = num * (4294967296 : Int) - (r + v1) * (4294967296 : Int) + (g - 1) * v0 := by rw [← hr']; grind
          have h2 : (4294967296 : Int) * (4294967296 : Int) ≤ (r + v1) * (4294967296 : Int) := Int.mul_le_mul_of_nonneg_right hb (by decide)
          omega
      · cases k with
        | zero => omega
        | succ k =>
          obtain ⟨g', h1, h2⟩ := guess_loop u v i v.length v1 v0 u0 num q hn rfl hi hl hv1 hv0 hu0 b1 b0 c0 hq0 hq1 hnum hstep k (g - 1) (r + v1) (by omega) (by omega) (by omega) (by omega) hr' (by omega)
          refine ⟨g', ?_, h2⟩
          rw [lp_more (s' := (g - 1, r + v1)) ?_]
          · exact h1
          · have hcond : (if decide (4294967296 ≤ g) = true then some true else bd (rd v (wi64 ((v.length : Int) - 2))) fun x20 => bd (sh .u64 r 32) fun x22 => bd (rd u (wi64 ((wi64 ((i : Int) + (v.length : Int))) - 2))) fun x24 => some (decide ((Go.bits .or .u64 x22 x24) < (wu64 (g * x20))))) = some true := by
              by_cases hgb : 4294967296 ≤ g
              · rw [if_pos (decide_eq_true hgb)]
              · rw [if_neg (by simpa using hgb), x2, y2, bd_some, z3, bd_some, x3, x4, y3, bd_some, z4, hgv (by omega)]
                congr 1
                exact decide_eq_true (by omega)
            simp only [m_divide_guess_l1, hcond, bd_some, x1, y1, if_true, z1', z2, show decide (4294967296 ≤ r + v1) = false from decide_eq_false hb]; rfl
    · refine ⟨g, lp_done ?_, hg, by omega, by omega, ?_⟩
      · have hcond : (if decide (4294967296 ≤ g) = true then some true else bd (rd v (wi64 ((v.length : Int) - 2))) fun x20 => bd (sh .u64 r 32) fun x22 => bd (rd u (wi64 ((wi64 ((i : Int) + (v.length : Int))) - 2))) fun x24 => some (decide ((Go.bits .or .u64 x22 x24) < (wu64 (g * x20))))) = some false := by
          by_cases hgb : 4294967296 ≤ g
          · rw [if_pos (decide_eq_true hgb)]; exact absurd hgb (by omega)
          · rw [if_neg (by simpa using hgb), x2, y2, bd_some, z3, bd_some, x3, x4, y3, bd_some, z4, hgv (by omega)]
            congr 1
            exact decide_eq_false (by omega)
        simp only [m_divide_guess_l1, hcond, bd_some]; rfl
      · rw [hmul]
        have : (num - r) * (4294967296 : Int) = num * (4294967296 : Int) - r * (4294967296 : Int) := by grind
        omega
/-! bits of a limb -/
theorem mod_step (a : Int) (k : Nat) : a % 2 ^ (k + 1) = a % 2 ^ k + 2 ^ k * ((a / 2 ^ k) % 2) := by
  have hp : (0 : Int) < 2 ^ k := pow_pos' (by decide) k
  have h1 := Int.mul_ediv_add_emod a (2 ^ k)
  have h2 := Int.mul_ediv_add_emod (a / 2 ^ k) 2
  have h3 := Int.emod_nonneg a (show (2 : Int) ^ k ≠ 0 by omega)
  have h4 := Int.emod_lt_of_pos a hp
  have h5 := Int.emod_nonneg (a / 2 ^ k) (show (2 : Int) ≠ 0 by decide)
  have h6 := Int.emod_lt_of_pos (a / 2 ^ k) (show (0 : Int) < 2 by decide)
  have e := Int.ediv_emod_unique (a := a) (b := 2 ^ (k + 1)) (r := a % 2 ^ k + 2 ^ k * ((a / 2 ^ k) % 2)) (q := a / 2 ^ k / 2) (pow_pos' (by decide) _)
  refine (e.2 ⟨?_, ?_, ?_⟩).2
  · rw [Int.pow_succ]
    generalize a / 2 ^ k / 2 = q2 at *
    generalize (a / 2 ^ k) % 2 = m2 at *
    generalize a / 2 ^ k = q1 at *
    generalize a % 2 ^ k = m1 at *
    subst h2
    rw [← h1]; grind
  · have := Int.mul_nonneg (Int.le_of_lt hp) h5; omega
  · rw [Int.pow_succ]
    have : (2 : Int) ^ k * ((a / 2 ^ k) % 2) ≤ 2 ^ k * 1 := Int.mul_le_mul_of_nonneg_left (by omega) (Int.le_of_lt hp)
    omega
/-- n bits: just as many as a number needs -/
def Nb (a : Int) (n : Nat) : Prop := a < 2 ^ n ∧ (0 < n → 2 ^ (n - 1) ≤ a)
theorem Nb.step {a : Int} {k n : Nat} (hn : n ≤ k) (h : Nb (a % 2 ^ k) n) : Nb (a % 2 ^ (k + 1)) (if (a / 2 ^ k) % 2 = 1 then k + 1 else n) := by
  have hp : (0 : Int) < 2 ^ k := pow_pos' (by decide) k
  have h3 := Int.emod_nonneg a (show (2 : Int) ^ k ≠ 0 by omega)
  have h4 := Int.emod_lt_of_pos a hp
  have h5 := Int.emod_nonneg (a / 2 ^ k) (show (2 : Int) ≠ 0 by decide)
  have h6 := Int.emod_lt_of_pos (a / 2 ^ k) (show (0 : Int) < 2 by decide)
  rw [mod_step]
  by_cases h1 : (a / 2 ^ k) % 2 = 1
  · rw [if_pos h1, h1, Int.mul_one]
    refine ⟨by rw [Int.pow_succ]; omega, fun _ => by rw [Nat.add_sub_cancel]; omega⟩
  · rw [if_neg h1, show (a / 2 ^ k) % 2 = 0 by omega, Int.mul_zero, Int.add_zero]
    exact h
theorem gI_mid (L D R : List Int) (x : Int) : gI (L ++ D ++ x :: R) ((L.length + D.length : Nat) : Int) = x := by
  unfold gI
  rw [Int.toNat_natCast, List.getD_eq_getElem?_getD, List.getElem?_append_right (by simp)]
  simp
theorem set_mid (L D R : List Int) (x y : Int) : (L ++ D ++ x :: R).set (L.length + D.length) y = L ++ (D ++ [y]) ++ R := by
  rw [show L.length + D.length = (L ++ D).length by simp, set_at]; simp
theorem gI_beyond (l : List Int) (i : Nat) (h : l.length ≤ i) : gI l (i : Int) = 0 := by
  unfold gI; rw [List.getD_eq_getElem?_getD, List.getElem?_eq_none (by simpa using h)]; rfl
theorem split_two {n : Nat} {v : List Int} (h : v.length = n + 2) : ∃ l a b, v = l ++ [a, b] ∧ l.length = n := by
  obtain ⟨d, b, rfl, hd⟩ := split_last h
  obtain ⟨l, a, rfl, hl⟩ := split_last hd
  exact ⟨l, a, b, by simp, hl⟩
theorem split_three {n : Nat} {v : List Int} (h : v.length = n + 3) : ∃ l a b c, v = l ++ [a, b, c] ∧ l.length = n := by
  obtain ⟨d, c, rfl, hd⟩ := split_last h
  obtain ⟨l, a, b, rfl, hl⟩ := split_two hd
  exact ⟨l, a, b, c, by simp, hl⟩
/-- the guess: right, or one too great -/
theorem guess_eq (L M R v : List Int) (n : Nat) (hvl : v.length = n + 2) (hM : M.length = v.length + 1) (hv : Dig (4294967296 : Int) v) (hm : Dig (4294967296 : Int) M) (ht : 2147483648 ≤ gI v ((n + 1 : Nat) : Int)) (hU : dv (4294967296 : Int) M < dv (4294967296 : Int) v * (4294967296 : Int))
    (hl : (L ++ M ++ R).length ≤ 1000000000000) : ∃ g, m_divide_guess (L ++ M ++ R) (L.length : Int) v = some g ∧ 0 ≤ g ∧ g < (4294967296 : Int) ∧ (g = dv (4294967296 : Int) M / dv (4294967296 : Int) v ∨ g = dv (4294967296 : Int) M / dv (4294967296 : Int) v + 1) := by
  obtain ⟨Vl, v0, v1, rfl, hVl⟩ := split_two hvl
  obtain ⟨Ml, u0, u1, u2, rfl, hMl⟩ := split_three (v := M) (n := n) (by omega)
  have dV := hv.left
  have dU := hm.left
  have b0 := hv.right.head
  have b1 := hv.right.tail.head
  have c0 := hm.right.head
  have c1 := hm.right.tail.head
  have c2 := hm.right.tail.tail.head
  have ev1 : gI (Vl ++ [v0, v1]) ((n + 1 : Nat) : Int) = v1 := by
    have := gI_mid Vl [v0] [] v1
    rw [hVl] at this
    simpa using this
  rw [ev1] at ht
  have ev0 : gI (Vl ++ [v0, v1]) ((n : Nat) : Int) = v0 := by
    have := gI_mid Vl [] [v1] v0
    rw [hVl] at this
    simpa using this
  have eu0 : gI (L ++ (Ml ++ [u0, u1, u2]) ++ R) ((L.length + n : Nat) : Int) = u0 := by
    have := gI_mid L Ml (u1 :: u2 :: R) u0
    rw [hMl] at this
    simpa using this
  have eu1 : gI (L ++ (Ml ++ [u0, u1, u2]) ++ R) ((L.length + n + 1 : Nat) : Int) = u1 := by
    have := gI_mid L (Ml ++ [u0]) (u2 :: R) u1
    rw [List.length_append, hMl] at this
    simpa [Nat.add_assoc] using this
  have eu2 : gI (L ++ (Ml ++ [u0, u1, u2]) ++ R) ((L.length + n + 2 : Nat) : Int) = u2 := by
    have := gI_mid L (Ml ++ [u0, u1]) R u2
    rw [List.length_append, hMl] at this
    simpa [Nat.add_assoc] using this
  have hlu : (L ++ (Ml ++ [u0, u1, u2]) ++ R).length = L.length + (n + 3) + R.length := by simp [hMl]; omega
  generalize hu : L ++ (Ml ++ [u0, u1, u2]) ++ R = u at *
  have eV : dv (4294967296 : Int) (Vl ++ [v0, v1]) = dv (4294967296 : Int) Vl + (4294967296 : Int) ^ n * (v1 * (4294967296 : Int) + v0) := by
    rw [dv_append, hVl]; simp only [dv]; rw [Int.mul_zero, Int.add_zero, Int.mul_comm (4294967296 : Int) v1, Int.add_comm v0]
  have eU : dv (4294967296 : Int) (Ml ++ [u0, u1, u2]) = dv (4294967296 : Int) Ml + (4294967296 : Int) ^ n * ((u2 * (4294967296 : Int) + u1) * (4294967296 : Int) + u0) := by
    rw [dv_append, hMl]; simp only [dv]
    have : u0 + (4294967296 : Int) * (u1 + (4294967296 : Int) * (u2 + (4294967296 : Int) * 0)) = (u2 * (4294967296 : Int) + u1) * (4294967296 : Int) + u0 := by grind
    rw [this]
  have lV0 := dv_nonneg (by decide) dV
  have lU0 := dv_nonneg (by decide) dU
  have lV := dv_lt (by decide) dV
  have lU := dv_lt (by decide) dU
  rw [hVl] at lV
  rw [hMl] at lU
  have hP := pow_pos' (show (0 : Int) < (4294967296 : Int) by decide) n
  generalize dv (4294967296 : Int) (Vl ++ [v0, v1]) = V at *
  generalize dv (4294967296 : Int) (Ml ++ [u0, u1, u2]) = U at *
  generalize dv (4294967296 : Int) Vl = VL at *
  generalize dv (4294967296 : Int) Ml = UL at *
  generalize hnum : u2 * (4294967296 : Int) + u1 = num at *
  have hVp : 0 < V := by
    have : 0 < (4294967296 : Int) ^ n * (v1 * (4294967296 : Int) + v0) := Int.mul_pos hP (by omega)
    omega
  have hU0 : 0 ≤ U := by
    have : 0 ≤ (4294967296 : Int) ^ n * (num * (4294967296 : Int) + u0) := Int.mul_nonneg (by omega) (by omega)
    omega
  have q0 : 0 ≤ U / V := Int.ediv_nonneg hU0 (by omega)
  have q1 : U / V < (4294967296 : Int) := Int.ediv_lt_of_lt_mul hVp (by rw [Int.mul_comm]; exact hU)
  have hqU : (U / V) * V ≤ U := Int.ediv_mul_le U (by omega)
  have hn2 : num < v1 * (4294967296 : Int) + (4294967296 : Int) := by
    have h1 : (4294967296 : Int) ^ n * (num * (4294967296 : Int) + u0) < (4294967296 : Int) ^ n * ((v1 * (4294967296 : Int) + v0 + 1) * (4294967296 : Int)) := by
      have e2 : V * (4294967296 : Int) < ((4294967296 : Int) ^ n * (v1 * (4294967296 : Int) + v0 + 1)) * (4294967296 : Int) := by
        refine Int.mul_lt_mul_of_pos_right ?_ (by decide)
        rw [eV, Int.mul_add ((4294967296 : Int) ^ n) (v1 * (4294967296 : Int) + v0) 1]; omega
      have e3 : (4294967296 : Int) ^ n * ((v1 * (4294967296 : Int) + v0 + 1) * (4294967296 : Int)) = ((4294967296 : Int) ^ n * (v1 * (4294967296 : Int) + v0 + 1)) * (4294967296 : Int) := by rw [Int.mul_assoc]
      omega
    have := Int.lt_of_mul_lt_mul_left h1 (Int.le_of_lt hP)
    omega
  have g0 : (U / V) * (v1 * (4294967296 : Int) + v0) ≤ num * (4294967296 : Int) + u0 := gs_le hP eV eU lV0 lU q0 hqU
  have g1 : U / V ≤ num / v1 := by
    refine Int.le_ediv_of_mul_le (by omega) ?_
    have h1 : (U / V) * (v1 * (4294967296 : Int) + v0) = (U / V) * v1 * (4294967296 : Int) + (U / V) * v0 := by grind
    have h2 : 0 ≤ (U / V) * v0 := Int.mul_nonneg q0 b0.1
    omega
  have hr1 := Int.emod_nonneg num (show v1 ≠ 0 by omega)
  have hr2 := Int.emod_lt_of_pos num (show 0 < v1 by omega)
  have hr3 := Int.mul_ediv_add_emod num v1
  have hstep : ∀ g : Int, 0 ≤ g → num * (4294967296 : Int) + u0 < g * (v1 * (4294967296 : Int) + v0) → U / V < g := fun g hg hlt => by
    refine Int.ediv_lt_of_lt_mul hVp ?_
    apply Int.lt_of_not_ge
    intro hge
    have := gs_le hP eV eU lV0 lU hg hge
    omega
  have hgb : num / v1 < (4294967296 : Int) + (4294967296 : Int) := by
    refine Int.ediv_lt_of_lt_mul (by omega) ?_
    omega
  obtain ⟨g, r1, r2, r3, r4, r5⟩ := guess_loop u (Vl ++ [v0, v1]) L.length (n + 2) v1 v0 u0 num (U / V) (by omega) (by simp [hVl]) (by omega) (by omega) (by rw [show n + 2 - 1 = n + 1 by omega, ev1]) (by rw [show n + 2 - 2 = n by omega, ev0]) (by rw [show L.length + (n + 2) - 2 = L.length + n by omega, eu0]) ⟨ht, b1.2⟩ b0 c0 q0 q1 hn2 hstep (num / v1).toNat (num / v1) (num % v1) (Nat.le_refl _) hr1 (by omega) hgb (by rw [Int.mul_comm]; exact hr3) g1
  have hfin := gs_up hP eV eU lV0 lV lU0 r3 r4 (by omega) r5
  refine ⟨g, ?_, r3, r4, gs_fin hVp r2 hfin⟩
  have hln : (Vl ++ [v0, v1]).length = n + 2 := by simp [hVl]
  have x1 : wi64 (((n + 2 : Nat) : Int) - 1) = ((n + 1 : Nat) : Int) := by rw [wi64_eq (by omega) (by omega)]; omega
  have x3 : wi64 ((L.length : Int) + ((n + 2 : Nat) : Int)) = ((L.length + n + 2 : Nat) : Int) := by rw [wi64_eq (by omega) (by omega)]; omega
  have x4 : wi64 (((L.length + n + 2 : Nat) : Int) - 1) = ((L.length + n + 1 : Nat) : Int) := by rw [wi64_eq (by omega) (by omega)]; omega
  have y1 : rd (Vl ++ [v0, v1]) ((n + 1 : Nat) : Int) = some v1 := by rw [rd_I (by omega) (by omega), ev1]
  have y2 : rd u ((L.length + n + 2 : Nat) : Int) = some u2 := by rw [rd_I (by omega) (by omega), eu2]
  have y3 : rd u ((L.length + n + 1 : Nat) : Int) = some u1 := by rw [rd_I (by omega) (by omega), eu1]
  unfold m_divide_guess
  rw [hln, x3, y2, bd_some, sh32 u2 c2.1 c2.2, bd_some, x4, y3, bd_some, x1, y1, bd_some, or_low u2 u1 c2.1 c2.2 c1.1 c1.2, hnum, qdU (by omega) (by omega) (by omega), bd_some, bd_some, rm_of (by omega) (by omega), bd_some, r1, bd_some]
end Go.Proofs.YtkjkipkfndckfaaGreatDoor.AP
/- Dividing by two limbs or more: taking off, giving back, the rounds. -/
namespace Go.Proofs.YtkjkipkfndckfaaGreatDoor.AP
open Go Go.Proofs.YtkjkipkfndckfaaGreatDoor.Tri
set_option linter.unusedVariables false
set_option linter.unusedSimpArgs false
theorem eln_eq {α : Type} {a b : List α} (h : a.length = b.length) : eln a b = some () := by unfold eln; simp [h]
theorem divAt_eq (a : List Int) (i : Nat) (hl : a.length ≤ 4611686018427387904) : m_divide_at a (i : Int) = some (gI a (i : Int)) := by
  unfold m_divide_at
  by_cases h : a.length ≤ i
  · rw [if_pos (by simp; omega), gI_beyond a i h]
  · rw [if_neg (by simp; omega), rd_I (by omega) (by omega), bd_some]
theorem take_loop (v L R : List Int) (g : Int) (hv : Dig (4294967296 : Int) v) (hg : 0 ≤ g ∧ g < (4294967296 : Int)) (hl : v.length ≤ 1000000000) (hL : L.length ≤ 1000000000) :
    ∀ (M D : List Int) (ca bo : Int), D.length + M.length = v.length + 1 → Dig (4294967296 : Int) M → Dig (4294967296 : Int) D → (0 ≤ ca ∧ ca < (4294967296 : Int)) → (bo = 0 ∨ bo = 1) → (v.length < D.length → ca = 0) → ∀ X, dv (4294967296 : Int) D - (4294967296 : Int) ^ D.length * (ca + bo) = X - g * dv (4294967296 : Int) (v.take D.length) →
    ∃ D' bo', lp (m_divide_take_M_l1 (L.length : Int) v g) (ca, bo, (D.length : Int), L ++ D ++ (M ++ R)) = some (bo', L ++ D' ++ R) ∧ (bo' = 0 ∨ bo' = 1) ∧ Dig (4294967296 : Int) D' ∧ D'.length = v.length + 1 ∧ dv (4294967296 : Int) D' - (4294967296 : Int) ^ (v.length + 1) * bo' = X + (4294967296 : Int) ^ D.length * dv (4294967296 : Int) M - g * dv (4294967296 : Int) v
  | [], D, ca, bo, hM, hm, hD, hc, hb, hz, X, hX => by
    simp only [List.length_nil, Nat.add_zero] at hM
    have := hz (by omega)
    subst this
    refine ⟨D, bo, lp_done ?_, hb, hD, hM, ?_⟩
    · have a1 : wi64 ((v.length : Int) + 1) = ((v.length + 1 : Nat) : Int) := by rw [wi64_eq (by omega) (by omega)]; omega
      simp only [m_divide_take_M_l1, a1, show decide ((D.length : Int) < ((v.length + 1 : Nat) : Int)) = false from decide_eq_false (by omega)]
      rfl
    · rw [hM, Int.zero_add, List.take_of_length_le (by omega)] at hX
      rw [dv_nil, Int.mul_zero, Int.add_zero]; exact hX
  | m :: M, D, ca, bo, hM, hm, hD, hc, hb, hz, X, hX => by
    simp only [List.length_cons] at hM
    have gv := gI_dig hv (by decide) (D.length : Int)
    obtain ⟨s0, s1⟩ := mul_bound hg gv hc (d := 0) ⟨Int.le_refl _, by decide⟩
    have a8 := limbMul_eq g (gI v (D.length : Int)) ca 0 hg gv hc ⟨Int.le_refl _, by decide⟩
    generalize hs : g * gI v (D.length : Int) + ca + 0 = s at *
    have hsq : s / (4294967296 : Int) < (4294967296 : Int) := Int.ediv_lt_of_lt_mul (by decide) s1
    have a9 := limbSub_eq m (s % (4294967296 : Int)) bo hm.head ⟨by omega, by omega⟩ hb
    generalize hd : (if m < s % (4294967296 : Int) + bo then m + (4294967296 : Int) - (s % (4294967296 : Int) + bo) else m - (s % (4294967296 : Int) + bo)) = d at *
    generalize hb1 : (if m < s % (4294967296 : Int) + bo then (1 : Int) else 0) = b1 at *
    have hmh := hm.head
    have hdb : d = m - (s % (4294967296 : Int) + bo) + (4294967296 : Int) * b1 ∧ (b1 = 0 ∨ b1 = 1) ∧ 0 ≤ d ∧ d < (4294967296 : Int) := by
      subst hd; subst hb1; split <;> omega
    have e1 : m_divide_take_M_l1 (L.length : Int) v g (ca, bo, (D.length : Int), L ++ D ++ (m :: M ++ R)) = some (.inl (s / (4294967296 : Int), b1, ((D.length + 1 : Nat) : Int), L ++ (D ++ [d]) ++ (M ++ R))) := by
      have a1 : wi64 ((v.length : Int) + 1) = ((v.length + 1 : Nat) : Int) := by rw [wi64_eq (by omega) (by omega)]; omega
      have a2 : decide ((D.length : Int) < ((v.length + 1 : Nat) : Int)) = true := decide_eq_true (by omega)
      have a3 : wi64 ((L.length : Int) + (D.length : Int)) = ((L.length + D.length : Nat) : Int) := by rw [wi64_eq (by omega) (by omega)]; omega
      have a4 : rd (L ++ D ++ (m :: M ++ R)) ((L.length + D.length : Nat) : Int) = some m := by rw [rd_I (by omega) (by simp; omega), List.cons_append, gI_mid]
      have a5 : ix (L ++ D ++ (m :: M ++ R)) ((L.length + D.length : Nat) : Int) = some (L.length + D.length) := ix_nat (by simp only [List.length_append, List.length_cons]; omega)
      have a6 : (L ++ D ++ (m :: M ++ R)).set (L.length + D.length) d = L ++ (D ++ [d]) ++ (M ++ R) := by rw [List.cons_append, set_mid]
      have a7 : wi64 ((D.length : Int) + 1) = ((D.length + 1 : Nat) : Int) := by rw [wi64_eq (by omega) (by omega)]; omega
      simp only [m_divide_take_M_l1, a1, a2, if_true, divAt_eq v D.length (by omega), bd_some, a8, a3, a4, a9, a5, lt_eq, a6, a7]
    have ih := take_loop v L R g hv hg hl hL M (D ++ [d]) (s / (4294967296 : Int)) b1 (by simp; omega) hm.tail (hD.snoc hdb.2.2) ⟨by omega, hsq⟩ hdb.2.1 (by
      intro h
      simp at h
      have hgz := gI_beyond v D.length (by omega)
      by_cases h2 : v.length < D.length
      · have := hz h2; rw [hgz, this] at hs; simp at hs; subst hs; rfl
      · rw [hgz] at hs; simp at hs; subst hs; exact Int.ediv_eq_zero_of_lt hc.1 hc.2) (X + (4294967296 : Int) ^ D.length * m) (by
      rw [dv_snoc, List.length_append, List.length_singleton, take_gI', Int.pow_succ]
      have := Int.mul_ediv_add_emod s (4294967296 : Int)
      obtain ⟨h3, -⟩ := hdb
      clear hd hb1 a8 a9 e1
      generalize (4294967296 : Int) ^ D.length = P at *
      generalize gI v (D.length : Int) = g1 at *
      generalize dv (4294967296 : Int) (List.take D.length v) = T at *
      generalize dv (4294967296 : Int) D = DD at *
      generalize s / (4294967296 : Int) = q at *
      generalize s % (4294967296 : Int) = r at *
      have hr : r = g * g1 + ca - (4294967296 : Int) * q := by omega
      subst hr
      subst h3
      grind)
    obtain ⟨D', bo', r1, r2, r3, r4, r5⟩ := ih
    refine ⟨D', bo', ?_, r2, r3, r4, ?_⟩
    · rw [lp_more e1]
      simpa using r1
    · rw [r5, dv_cons, List.length_append, List.length_singleton, Int.pow_succ]
      grind
theorem give_loop (v L R o1 : List Int) (ho : o1.length = L.length + (v.length + 1) + R.length) (hv : Dig (4294967296 : Int) v) (hl : v.length ≤ 1000000000) (hL : L.length ≤ 1000000000) :
    ∀ (M D : List Int) (ca : Int), D.length + M.length = v.length + 1 → Dig (4294967296 : Int) M → Dig (4294967296 : Int) D → (ca = 0 ∨ ca = 1) → ∀ X, dv (4294967296 : Int) D + (4294967296 : Int) ^ D.length * ca = X + dv (4294967296 : Int) (v.take D.length) →
    ∃ D' ca', lp (m_divide_give_M_l1 (L.length : Int) v o1) (ca, (D.length : Int), L ++ D ++ (M ++ R)) = some (L ++ D' ++ R) ∧ (ca' = 0 ∨ ca' = 1) ∧ Dig (4294967296 : Int) D' ∧ D'.length = v.length + 1 ∧ dv (4294967296 : Int) D' + (4294967296 : Int) ^ (v.length + 1) * ca' = X + (4294967296 : Int) ^ D.length * dv (4294967296 : Int) M + dv (4294967296 : Int) v
  | [], D, ca, hM, hm, hD, hc, X, hX => by
    simp only [List.length_nil, Nat.add_zero] at hM
    refine ⟨D, ca, lp_done ?_, hc, hD, hM, ?_⟩
    · have a1 : wi64 ((v.length : Int) + 1) = ((v.length + 1 : Nat) : Int) := by rw [wi64_eq (by omega) (by omega)]; omega
      simp only [m_divide_give_M_l1, a1, show decide ((D.length : Int) < ((v.length + 1 : Nat) : Int)) = false from decide_eq_false (by omega)]
      have e : eln o1 (L ++ D ++ ([] ++ R)) = some () := eln_eq (by simp; omega)
      rw [e]
      rfl
    · rw [hM, List.take_of_length_le (by omega)] at hX
      rw [dv_nil, Int.mul_zero, Int.add_zero]; exact hX
  | m :: M, D, ca, hM, hm, hD, hc, X, hX => by
    simp only [List.length_cons] at hM
    have gv := gI_dig hv (by decide) (D.length : Int)
    have hmh := hm.head
    have a9 := limbAdd_eq m (gI v (D.length : Int)) ca hmh gv (by omega)
    generalize hs : m + gI v (D.length : Int) + ca = s at *
    have e1 : m_divide_give_M_l1 (L.length : Int) v o1 (ca, (D.length : Int), L ++ D ++ (m :: M ++ R)) = some (.inl (s / (4294967296 : Int), ((D.length + 1 : Nat) : Int), L ++ (D ++ [s % (4294967296 : Int)]) ++ (M ++ R))) := by
      have a1 : wi64 ((v.length : Int) + 1) = ((v.length + 1 : Nat) : Int) := by rw [wi64_eq (by omega) (by omega)]; omega
      have a2 : decide ((D.length : Int) < ((v.length + 1 : Nat) : Int)) = true := decide_eq_true (by omega)
      have a3 : wi64 ((L.length : Int) + (D.length : Int)) = ((L.length + D.length : Nat) : Int) := by rw [wi64_eq (by omega) (by omega)]; omega
      have a4 : rd (L ++ D ++ (m :: M ++ R)) ((L.length + D.length : Nat) : Int) = some m := by rw [rd_I (by omega) (by simp; omega), List.cons_append, gI_mid]
      have a5 : ix (L ++ D ++ (m :: M ++ R)) ((L.length + D.length : Nat) : Int) = some (L.length + D.length) := ix_nat (by simp only [List.length_append, List.length_cons]; omega)
      have a6 : (L ++ D ++ (m :: M ++ R)).set (L.length + D.length) (s % (4294967296 : Int)) = L ++ (D ++ [s % (4294967296 : Int)]) ++ (M ++ R) := by rw [List.cons_append, set_mid]
      have a7 : wi64 ((D.length : Int) + 1) = ((D.length + 1 : Nat) : Int) := by rw [wi64_eq (by omega) (by omega)]; omega
      simp only [m_divide_give_M_l1, a1, a2, if_true, divAt_eq v D.length (by omega), bd_some, a3, a4, a9, a5, lt_eq, a6, a7]
    have ih := give_loop v L R o1 ho hv hl hL M (D ++ [s % (4294967296 : Int)]) (s / (4294967296 : Int)) (by simp; omega) hm.tail (hD.snoc ⟨by omega, by omega⟩) (by omega) (X + (4294967296 : Int) ^ D.length * m) (by
      rw [dv_snoc, List.length_append, List.length_singleton, take_gI', Int.pow_succ]
      have := Int.mul_ediv_add_emod s (4294967296 : Int)
      clear a9 e1
      generalize (4294967296 : Int) ^ D.length = P at *
      generalize gI v (D.length : Int) = g1 at *
      generalize dv (4294967296 : Int) (List.take D.length v) = T at *
      generalize dv (4294967296 : Int) D = DD at *
      generalize s / (4294967296 : Int) = q at *
      generalize s % (4294967296 : Int) = r at *
      have hr : r = m + g1 + ca - (4294967296 : Int) * q := by omega
      subst hr
      grind)
    obtain ⟨D', ca', r1, r2, r3, r4, r5⟩ := ih
    refine ⟨D', ca', ?_, r2, r3, r4, ?_⟩
    · rw [lp_more e1]
      simpa using r1
    · rw [r5, dv_cons, List.length_append, List.length_singleton, Int.pow_succ]
      grind
theorem take_eq (L M R v : List Int) (g : Int) (hM : M.length = v.length + 1) (hv : Dig (4294967296 : Int) v) (hm : Dig (4294967296 : Int) M) (hg : 0 ≤ g ∧ g < (4294967296 : Int)) (hl : (L ++ M ++ R).length ≤ 1000000000) (hlv : v.length ≤ 1000000000) :
    ∃ D, m_divide_take_M (L.length : Int) v g (L ++ M ++ R) = some (decide (dv (4294967296 : Int) M < g * dv (4294967296 : Int) v), L ++ D ++ R) ∧ D.length = v.length + 1 ∧ Dig (4294967296 : Int) D ∧ dv (4294967296 : Int) D = dv (4294967296 : Int) M - g * dv (4294967296 : Int) v + (if dv (4294967296 : Int) M < g * dv (4294967296 : Int) v then (4294967296 : Int) ^ (v.length + 1) else 0) := by
  simp only [List.length_append] at hl
  obtain ⟨D', bo', h1, h2, h3, h4, h5⟩ := take_loop v L R g hv hg hlv (by omega) M [] 0 0 (by simp; omega) hm (Dig.nil _) ⟨Int.le_refl _, by decide⟩ (.inl rfl) (fun _ => rfl) 0 (by simp [dv])
  simp only [List.append_nil, List.length_nil, Int.pow_zero, Int.zero_add, Int.one_mul] at h1 h5
  refine ⟨D', ?_, h4, h3, ?_⟩
  · unfold m_divide_take_M
    rw [← List.append_assoc] at h1
    have h1' : lp (m_divide_take_M_l1 (L.length : Int) v g) (0, 0, 0, L ++ M ++ R) = some (bo', L ++ D' ++ R) := h1
    rw [h1', bd_some]
    dsimp only
    rw [eln_eq (by simp; omega), bd_some]
    congr 2
    rw [decide_eq_decide]
    have := dv_lt (by decide) h3
    have := dv_nonneg (by decide) h3
    rw [h4] at *
    rcases h2 with h | h <;> subst h <;> omega
  · have := dv_lt (by decide) h3
    have := dv_nonneg (by decide) h3
    rw [h4] at *
    rcases h2 with h | h <;> subst h <;> split <;> omega
theorem give_eq (L M R v : List Int) (hM : M.length = v.length + 1) (hv : Dig (4294967296 : Int) v) (hm : Dig (4294967296 : Int) M) (hl : (L ++ M ++ R).length ≤ 1000000000) (hlv : v.length ≤ 1000000000) :
    ∃ D c, m_divide_give_M (L.length : Int) v (L ++ M ++ R) = some (L ++ D ++ R) ∧ D.length = v.length + 1 ∧ Dig (4294967296 : Int) D ∧ (c = 0 ∨ c = 1) ∧ dv (4294967296 : Int) D + (4294967296 : Int) ^ (v.length + 1) * c = dv (4294967296 : Int) M + dv (4294967296 : Int) v := by
  simp only [List.length_append] at hl
  obtain ⟨D', c, h1, h2, h3, h4, h5⟩ := give_loop v L R (L ++ M ++ R) (by simp; omega) hv hlv (by omega) M [] 0 (by simp; omega) hm (Dig.nil _) (.inl rfl) 0 (by simp [dv])
  simp only [List.append_nil, List.length_nil, Int.pow_zero, Int.zero_add, Int.one_mul] at h1 h5
  refine ⟨D', c, ?_, h4, h3, h2, h5⟩
  unfold m_divide_give_M
  rw [← List.append_assoc] at h1
  exact h1
end Go.Proofs.YtkjkipkfndckfaaGreatDoor.AP
/- Bits of a limb, shifts, and Knuth's division. -/
namespace Go.Proofs.YtkjkipkfndckfaaGreatDoor.AP
open Go Go.Proofs.YtkjkipkfndckfaaGreatDoor.Tri
set_option linter.unusedVariables false
set_option linter.unusedSimpArgs false
theorem sr_nat (x : Int) (k : Nat) (hk : k ≤ 64) : sr .u64 x (k : Int) = some (x / 2 ^ k) := by
  unfold sr
  rw [if_pos (by omega)]
  have e : min ((k : Int)).toNat IntKind.u64.bits = k := by
    have : IntKind.u64.bits = 64 := rfl
    omega
  rw [e, Int.fdiv_eq_ediv_of_nonneg _ (Int.le_of_lt (pow_pos' (by decide) k))]
theorem sh_nat (x : Int) (k : Nat) (hk : k ≤ 64) : sh .u64 x (k : Int) = some (wu64 (x * 2 ^ k)) := by
  unfold sh
  rw [if_pos (by omega)]
  have e : min ((k : Int)).toNat IntKind.u64.bits = k := by
    have : IntKind.u64.bits = 64 := rfl
    omega
  rw [e]; rfl
theorem and_one (x : Int) (h0 : 0 ≤ x) (h1 : x < 18446744073709551616) : Go.bits .and .u64 x 1 = x % 2 := by
  rw [u64_and x _ h0 h1 (by omega) (by omega)]
  have : (1 : Int).toNat = 2 ^ 1 - 1 := rfl
  rw [this, Nat.and_two_pow_sub_one_eq_mod]
  omega
theorem bits_loop (a : Int) (h0 : 0 ≤ a) (h1 : a < (4294967296 : Int)) : ∀ (r k n : Nat), k + r = 32 → n ≤ k → Nb (a % 2 ^ k) n → ∃ m : Nat, lp (m_limb_Bits_l1 a) ((n : Int), (k : Int)) = some (m : Int) ∧ m ≤ 32 ∧ Nb a m
  | 0, k, n, hk, hn, h => by
    obtain rfl : k = 32 := by omega
    rw [Int.emod_eq_of_lt h0 (by rw [show (2 : Int) ^ 32 = 4294967296 from rfl]; exact h1)] at h
    exact ⟨n, lp_done (by simp [m_limb_Bits_l1]), hn, h⟩
  | r + 1, k, n, hk, hn, h => by
    have hq := Int.ediv_nonneg h0 (Int.le_of_lt (pow_pos' (show (0 : Int) < 2 by decide) k))
    have hq2 : a / 2 ^ k ≤ a := Int.ediv_le_self _ h0
    have a1 : decide ((k : Int) < 32) = true := decide_eq_true (by omega)
    have a2 : wi64 ((k : Int) + 1) = ((k + 1 : Nat) : Int) := by rw [wi64_eq (by omega) (by omega)]; omega
    have e1 : m_limb_Bits_l1 a ((n : Int), (k : Int)) = some (.inl (((if (a / 2 ^ k) % 2 = 1 then k + 1 else n : Nat) : Int), ((k + 1 : Nat) : Int))) := by
      simp only [m_limb_Bits_l1, a1, if_true, sr_nat a k (by omega), bd_some, and_one (a / 2 ^ k) hq (by omega), a2]
      by_cases hb : (a / 2 ^ k) % 2 = 1
      · rw [if_pos (decide_eq_true hb), if_pos hb, bd_some]
      · rw [if_neg (by simpa using hb), if_neg hb, bd_some]
    rw [lp_more e1]
    exact bits_loop a h0 h1 r (k + 1) _ (by omega) (by split <;> omega) (h.step hn)
theorem bits_eq (a : Int) (h0 : 0 ≤ a) (h1 : a < (4294967296 : Int)) : ∃ m : Nat, m_limb_Bits a = some (m : Int) ∧ m ≤ 32 ∧ Nb a m := by
  obtain ⟨m, e, r⟩ := bits_loop a h0 h1 32 0 0 rfl (Nat.le_refl _) ⟨by rw [Int.pow_zero, Int.emod_one]; decide, fun h => absurd h (by decide)⟩
  refine ⟨m, ?_, r⟩
  unfold m_limb_Bits
  have e' : lp (m_limb_Bits_l1 a) (0, 0) = some (m : Int) := e
  rw [e', bd_some]
/-! shifted up -/
theorem lb_pow (s : Nat) (hs : s ≤ 32) : (4294967296 : Int) = 2 ^ s * 2 ^ (32 - s) := by
  rw [← Int.pow_add, show s + (32 - s) = 32 by omega]; rfl
theorem shl_or (c a : Int) (s : Nat) (hs : s < 32) (hc : 0 ≤ c ∧ c < 2 ^ s) (ha : 0 ≤ a ∧ a < (4294967296 : Int)) : Go.bits .or .u64 c (a * 2 ^ s % (4294967296 : Int)) = c + a * 2 ^ s % (4294967296 : Int) ∧ c + a * 2 ^ s % (4294967296 : Int) < (4294967296 : Int) ∧ a * 2 ^ s / (4294967296 : Int) < 2 ^ s := by
  have hp : (0 : Int) < 2 ^ s := pow_pos' (by decide) s
  have hB := lb_pow s (by omega)
  have e : a * 2 ^ s % (4294967296 : Int) = 2 ^ s * (a % 2 ^ (32 - s)) := by
    rw [hB, Int.mul_comm a]; exact Int.mul_emod_mul_of_pos _ _ hp
  have h1 := Int.emod_nonneg a (show (2 : Int) ^ (32 - s) ≠ 0 from Int.ne_of_gt (pow_pos' (by decide) _))
  have h2 := Int.emod_lt_of_pos a (pow_pos' (show (0 : Int) < 2 by decide) (32 - s))
  have h3 : 2 ^ s * (a % 2 ^ (32 - s)) + 2 ^ s ≤ (4294967296 : Int) := by
    have : 2 ^ s * (a % 2 ^ (32 - s) + 1) ≤ 2 ^ s * 2 ^ (32 - s) := Int.mul_le_mul_of_nonneg_left (by omega) (Int.le_of_lt hp)
    rw [← hB, Int.mul_add, Int.mul_one] at this
    exact this
  have h4 : 0 ≤ 2 ^ s * (a % 2 ^ (32 - s)) := Int.mul_nonneg (Int.le_of_lt hp) h1
  have h5 : a * 2 ^ s / (4294967296 : Int) < 2 ^ s := Int.ediv_lt_of_lt_mul (by decide) (by rw [Int.mul_comm (2 ^ s)]; exact Int.mul_lt_mul_of_pos_right ha.2 hp)
  refine ⟨?_, by omega, h5⟩
  rw [u64_or _ _ hc.1 (by omega) (by omega) (by omega), e]
  obtain ⟨C, hC⟩ := Int.eq_ofNat_of_zero_le hc.1
  obtain ⟨W, hW⟩ := Int.eq_ofNat_of_zero_le h1
  rw [hW]
  have e2 : ((2 : Int) ^ s * (W : Int)).toNat = 2 ^ s * W := by
    have : (2 : Int) ^ s * (W : Int) = ((2 ^ s * W : Nat) : Int) := by push_cast; rfl
    rw [this]; rfl
  have e3 : C < 2 ^ s := by
    have := hc.2
    have e : ((2 : Int) ^ s) = ((2 ^ s : Nat) : Int) := by push_cast; rfl
    rw [e, hC] at this
    exact Int.ofNat_lt.1 this
  rw [hC, e2, Int.toNat_natCast, Nat.or_comm, ← Nat.two_pow_add_eq_or_of_lt e3]
  push_cast
  rw [Int.add_comm]
theorem shl_loop (a : List Int) (s : Nat) (hs : s < 32) (ha : Dig (4294967296 : Int) a) (hl : a.length ≤ 1000000000) : ∀ (k i : Nat) (D : List Int) (c : Int), i + k = a.length → D.length = i → Dig (4294967296 : Int) D → (0 ≤ c ∧ c < 2 ^ s) → dv (4294967296 : Int) D + (4294967296 : Int) ^ i * c = dv (4294967296 : Int) (a.take i) * 2 ^ s →
    ∃ r, lp (m_nat_Shl_l1 a (s : Int)) ((i : Int), D ++ c :: List.replicate k 0) = some r ∧ Dig (4294967296 : Int) r ∧ r.length = a.length + 1 ∧ dv (4294967296 : Int) r = dv (4294967296 : Int) a * 2 ^ s
  | 0, i, D, c, hk, hi, hD, hc, hv => by
    obtain rfl : i = a.length := by omega
    have hb := (shl_or c 0 s hs hc ⟨Int.le_refl _, by decide⟩).2.1
    refine ⟨D ++ [c], lp_done (by simp [m_nat_Shl_l1]), hD.snoc ⟨hc.1, by omega⟩, by simp [hi], ?_⟩
    rw [dv_snoc, hi, hv, List.take_length]
  | k + 1, i, D, c, hk, hi, hD, hc, hv => by
    have ga := gI_dig ha (by decide) (i : Int)
    generalize hx : gI a (i : Int) = x at *
    obtain ⟨o1, o2, o3⟩ := shl_or c x s hs hc ga
    have hp : (0 : Int) < 2 ^ s := pow_pos' (by decide) s
    have hpB : (2 : Int) ^ s ≤ (4294967296 : Int) := by
      rw [lb_pow s (by omega)]
      have := pow_pos' (show (0 : Int) < 2 by decide) (32 - s)
      have h : (2 : Int) ^ s * 1 ≤ 2 ^ s * 2 ^ (32 - s) := Int.mul_le_mul_of_nonneg_left (by omega) (Int.le_of_lt hp)
      omega
    have hxs : 0 ≤ x * 2 ^ s := Int.mul_nonneg ga.1 (Int.le_of_lt hp)
    have hxs2 : x * 2 ^ s ≤ 4294967295 * 4294967296 := Int.mul_le_mul (by omega) hpB (Int.le_of_lt hp) (by decide)
    have a1 : decide ((i : Int) < (a.length : Int)) = true := decide_eq_true (by omega)
    have a2 : rd a (i : Int) = some x := by rw [rd_I (by omega) (by omega), hx]
    have a3 : qd .i64 (s : Int) 32 = some 0 := by rw [qd64 (by omega) (by decide) (by omega)]; congr 1; omega
    have a4 : rm .i64 (s : Int) 32 = some (s : Int) := by rw [rm_of (by omega) (by decide)]; congr 1; omega
    have a5 : wi64 ((i : Int) + 0) = (i : Int) := by rw [wi64_eq (by omega) (by omega)]; omega
    have a6 : wi64 ((i : Int) + 1) = ((i + 1 : Nat) : Int) := by rw [wi64_eq (by omega) (by omega)]; omega
    have a7 : rd (D ++ c :: List.replicate (k + 1) 0) (i : Int) = some c := by
      rw [rd_I (by omega) (by simp; omega)]
      have := gI_mid [] D (List.replicate (k + 1) 0) c
      simp only [List.nil_append, List.length_nil, Nat.zero_add, hi] at this
      rw [this]
    have a8 : ix (D ++ c :: List.replicate (k + 1) 0) (i : Int) = some i := ix_nat (by simp; omega)
    have a9 : (D ++ c :: List.replicate (k + 1) 0).set i (c + x * 2 ^ s % (4294967296 : Int)) = (D ++ [c + x * 2 ^ s % (4294967296 : Int)]) ++ 0 :: List.replicate k 0 := by
      rw [← hi, set_at]; rfl
    have b1 : ix ((D ++ [c + x * 2 ^ s % (4294967296 : Int)]) ++ 0 :: List.replicate k 0) ((i + 1 : Nat) : Int) = some (i + 1) := ix_nat (by simp; omega)
    have b2 : ((D ++ [c + x * 2 ^ s % (4294967296 : Int)]) ++ 0 :: List.replicate k 0).set (i + 1) (x * 2 ^ s / (4294967296 : Int)) = (D ++ [c + x * 2 ^ s % (4294967296 : Int)]) ++ (x * 2 ^ s / (4294967296 : Int)) :: List.replicate k 0 := by
      have : i + 1 = (D ++ [c + x * 2 ^ s % (4294967296 : Int)]).length := by simp [hi]
      rw [this, set_at]; simp
    have e1 : m_nat_Shl_l1 a (s : Int) ((i : Int), D ++ c :: List.replicate (k + 1) 0) = some (.inl (((i + 1 : Nat) : Int), (D ++ [c + x * 2 ^ s % (4294967296 : Int)]) ++ (x * 2 ^ s / (4294967296 : Int)) :: List.replicate k 0)) := by
      simp only [m_nat_Shl_l1, a1, if_true, a2, bd_some, a3, a4, sh_nat x s (by omega), wu64_eq hxs (by omega), a5, a7, rm_of hxs (show (0 : Int) < 4294967296 by decide), a8, o1, lt_eq, a9, sr32, a6, b1, b2]
    have h0 := Int.emod_nonneg (x * 2 ^ s) (show (4294967296 : Int) ≠ 0 by decide)
    obtain ⟨r, r1, r2⟩ := shl_loop a s hs ha hl k (i + 1) (D ++ [c + x * 2 ^ s % (4294967296 : Int)]) (x * 2 ^ s / (4294967296 : Int)) (by omega) (by simp [hi]) (hD.snoc ⟨by omega, o2⟩) ⟨Int.ediv_nonneg hxs (by decide), o3⟩ (by
      rw [dv_snoc, take_gI', hi, Int.pow_succ, hx]
      have := Int.mul_ediv_add_emod (x * 2 ^ s) (4294967296 : Int)
      clear e1 b1 b2 a7 a8 a9 o1 o2 o3
      generalize (4294967296 : Int) ^ i = P at *
      generalize dv (4294967296 : Int) (List.take i a) = T at *
      generalize dv (4294967296 : Int) D = DD at *
      generalize x * 2 ^ s / (4294967296 : Int) = q at *
      generalize x * 2 ^ s % (4294967296 : Int) = m at *
      have e : (T + P * x) * 2 ^ s = T * 2 ^ s + P * (x * 2 ^ s) := by rw [Int.add_mul, Int.mul_assoc]
      rw [e, ← hv, ← this]
      grind)
    exact ⟨r, by rw [lp_more e1]; exact r1, r2⟩
theorem shl_eq (x : Int) (s : Nat) (hs : s < 32) (hx : 0 ≤ x) (hl : (nl x).length ≤ 1000000000) : m_nat_Shl (nl x) (s : Int) = some (nl (x * 2 ^ s), 0) := by
  have e0 : m_nat_shift (s : Int) = some 0 := by
    unfold m_nat_shift
    rw [if_neg (by rw [decide_eq_true_eq]; omega), bd_some, if_neg (by rw [decide_eq_true_eq]; omega)]
  unfold m_nat_Shl
  rw [e0, bd_some, if_neg (by decide), bd_some]
  by_cases h0 : nl x = []
  · have hx0 := (nl_nil hx).1 h0
    subst hx0
    rw [h0, if_pos (by rfl), Int.zero_mul, nl_zero]
  · have hlen := List.length_pos_iff.2 h0
    rw [if_neg (by rw [decide_eq_true_eq]; omega)]
    have a3 : qd .i64 (s : Int) 32 = some 0 := by rw [qd64 (by omega) (by decide) (by omega)]; congr 1; omega
    have a4 : wi64 ((wi64 (((nl x).length : Int) + 0)) + 1) = (((nl x).length + 1 : Nat) : Int) := by rw [wi64_eq (x := ((nl x).length : Int) + 0) (by omega) (by omega), wi64_eq (by omega) (by omega)]; omega
    have hp : (0 : Int) < 2 ^ s := pow_pos' (by decide) s
    obtain ⟨r, r1, r2, r3, r4⟩ := shl_loop (nl x) s hs (nl_can x).1 hl (nl x).length 0 [] 0 (by omega) rfl (Dig.nil _) ⟨Int.le_refl _, hp⟩ (by simp [dv])
    have r1' : lp (m_nat_Shl_l1 (nl x) (s : Int)) (0, List.replicate ((nl x).length + 1) 0) = some r := r1
    rw [a3, bd_some, a4, mk_of (by omega), bd_some, show ((((nl x).length + 1 : Nat) : Int)).toNat = (nl x).length + 1 by omega, r1', bd_some, trimN_eq _ (by omega), bd_some, trimz_nl r2 (by rw [r4, nl_dv hx])]
end Go.Proofs.YtkjkipkfndckfaaGreatDoor.AP
