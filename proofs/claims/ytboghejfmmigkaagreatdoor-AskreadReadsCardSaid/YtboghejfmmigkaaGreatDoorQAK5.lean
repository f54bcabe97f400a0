/- Plain facts on numbers by digits of any base, and on lists: no program in sight. -/
import Derived.Test.YtboghejfmmigkaaGreatDoorQAK4
import Derived.Test.YtboghejfmmigkaaGreatDoorQAK1
import Derived.WalkKit
import Derived.ProofKit
import Derived.OpenShut
import Derived.ShutString
import Derived.ChangeOld
import Derived.Lib.SmallJoins
import Derived.Lay
/- The code comes to the printed functions (printed by a program of ours). -/
namespace Go.Proofs.YtboghejfmmigkaaGreatDoor.AE
open Go Go.RowKit Go.Proofs.YtboghejfmmigkaaGreatDoor.AP
set_option linter.unusedVariables false
set_option maxRecDepth 20000
theorem en26 : Enters Tryz.prog 26 := ⟨_, Tryz.func26, rfl, rfl⟩
set_option maxHeartbeats 1000000 in
theorem k_triviumref19_All {p0 : ByteArray} {y : (List D_triviumref19_Token) × Int × Int} (h : m_triviumref19_All p0 = some y) : Spec Tryz.prog 26 [(.v .str p0)] (.tup [.v (.sl Y_triviumref19_Token) y.1, .v (.int .i64) y.2.1, .v (.int .i64) y.2.2]) [] := by
  rw [m_triviumref19_All] at h
  refine enterN [(.v .str p0)] 141 Tryz.func26 rfl rfl rfl ?_
  refine T.seq ?_
  refine T.region ?_
  refine Run.go (Ev.assign rfl rfl) ?_
  refine Run.go (Ev.assign rfl rfl) ?_
  refine Run.go (Ev.assign rfl rfl) ?_
  refine Run.nil ?_
  refine T.seq ?_
  refine T.region ?_
  refine Run.go (Ev.build X 1 rfl rfl rfl rfl rfl rfl rfl rfl) ?_
  refine Run.go (Ev.assign rfl rfl) ?_
  refine Run.go (Ev.assign rfl rfl) ?_
  refine Run.nil ?_
  refine T.seq ?_
  refine T.region ?_
  refine Run.go (Ev.assign rfl rfl) ?_
  refine Run.nil ?_
  refine T.seq ?_
  refine T.block ?_
  refine T.loop (LoopT.ghost (Ghost.only [(1, 86)] [0, 5, 6, 7] rfl) (LoopT.run (fun q : Int × Int × (List D_triviumref19_Token) => (⟨[(0, .v .str p0), (5, .own 86), (6, .v (.int .i64) q.1), (7, .v (.int .i64) q.2.1)], [(86, .arr 96 Y_triviumref19_Token q.2.2)], 141⟩ : St)) (fun q z1 h hz1 => ?_) h))
  obtain ⟨v1, v2, v3⟩ := q
  dsimp only
  rw [m_triviumref19_All_l1] at h
  refine T.seq ?_
  refine T.seq ?_
  refine T.region ?_
  refine Run.go (Ev.move rfl rfl) ?_
  refine Run.go (Ev.move rfl rfl) ?_
  refine Run.go (Ev.len X rfl rfl rfl rfl) ?_
  refine Run.go (Ev.int rfl rfl rfl rfl trivial) ?_
  refine Run.nil ?_
  refine T.cond rfl (fun hb4 => ?_) (fun hb4 => ?_)
  · replace h := ifT hb4 h
    refine T.skip ?_
    refine T.block ?_
    refine T.seq ?_
    refine T.region ?_
    refine Run.go (Ev.move rfl rfl) ?_
    refine Run.go (Ev.move rfl rfl) ?_
    obtain ⟨x5, e6, h⟩ := bdS h
    refine Run.go (Ev.e_bt X e6 rfl rfl rfl rfl) ?_
    refine Run.go (Ev.assign rfl rfl) ?_
    refine Run.nil ?_
    refine T.seq ?_
    refine T.region ?_
    refine Run.go (Ev.assign rfl rfl) ?_
    refine Run.nil ?_
    refine T.cut (fun i : Int × Int × (List D_triviumref19_Token) => (⟨[(0, .v .str p0), (5, .own 212), (6, .v (.int .i64) i.1), (7, .v (.int .i64) v2), (9, .v (.int .i64) i.2.1)], [(212, .arr 96 Y_triviumref19_Token i.2.2)], 141⟩ : St)) (fun i => m_triviumref19_All_k1 v2 i.1 i.2.1 i.2.2 = some z1) ?_ ?_
    · refine T.block ?_
      refine T.seq ?_
      refine T.region ?_
      refine Run.go (Ev.move rfl rfl) ?_
      refine Run.go (Ev.int rfl rfl rfl rfl trivial) ?_
      refine Run.go (Ev.assign rfl rfl) ?_
      refine Run.nil ?_
      refine T.cond rfl (fun hb10 => ?_) (fun hb10 => ?_)
      · replace h := ifT hb10 h
        refine T.region ?_
        refine Run.go (Ev.move rfl rfl) ?_
        refine Run.go (Ev.int rfl rfl rfl rfl trivial) ?_
        refine Run.go (Ev.assign rfl rfl) ?_
        refine Run.nil ?_
        exact ⟨(wi64 (v1 + 1), 1, v3), h, Ghost.only [(86, 212)] [0, 5, 6, 7, 9] rfl⟩
      · replace h := ifF hb10 h
        obtain ⟨v11, hv, h⟩ := bdS h
        refine T.cut (fun _ : Unit => (⟨[(0, .v .str p0), (5, .own 86), (6, .v (.int .i64) v1), (7, .v (.int .i64) v2), (8, .v (.int .u8) x5), (9, .v (.int .i64) (1 : Int)), (24, .v .bool v11)], [(86, .arr 96 Y_triviumref19_Token v3)], 141⟩ : St)) (fun _ => True) ?_ (fun _ _ => ?_)
        · replace h := hv
          clear hv
          refine T.region ?_
          refine Run.go (Ev.move rfl rfl) ?_
          refine Run.go (Ev.int rfl rfl rfl rfl trivial) ?_
          refine Run.go (Ev.move rfl rfl) ?_
          rcases boolCases (decide (x5 = 32)) with hb12 | hb12
          · replace h := ifT hb12 h
            refine Run.offT rfl rfl rfl rfl hb12 ?_
            refine Run.offT rfl rfl rfl rfl hb12 ?_
            refine Run.go (Ev.pickT rfl hb12 rfl rfl) ?_
            refine Run.go (Ev.assign rfl rfl) ?_
            refine Run.nil ?_
            cases h
            exact ⟨(), trivial, Ghost.only [(86, 86)] [0, 5, 6, 7, 8, 9, 24] rfl⟩
          · replace h := ifF hb12 h
            refine Run.on rfl rfl rfl hb12 (Ev.move rfl rfl) ?_
            refine Run.on rfl rfl rfl hb12 (Ev.int rfl rfl rfl rfl trivial) ?_
            refine Run.go (Ev.pickF rfl hb12 rfl rfl) ?_
            refine Run.go (Ev.assign rfl rfl) ?_
            refine Run.nil ?_
            cases h
            exact ⟨(), trivial, Ghost.only [(86, 86)] [0, 5, 6, 7, 8, 9, 24] rfl⟩
        · refine T.cond rfl (fun hb13 => ?_) (fun hb13 => ?_)
          · replace h := ifT hb13 h
            refine T.region ?_
            refine Run.go (Ev.assign rfl rfl) ?_
            refine Run.nil ?_
            exact ⟨(v1, 1, v3), h, Ghost.only [(86, 212)] [0, 5, 6, 7, 9] rfl⟩
          · replace h := ifF hb13 h
            refine T.seq ?_
            refine T.region ?_
            refine Run.go (Ev.move rfl rfl) ?_
            refine Run.go (Ev.int rfl rfl rfl rfl trivial) ?_
            refine Run.go (Ev.assign rfl rfl) ?_
            refine Run.nil ?_
            refine T.cond rfl (fun hb14 => ?_) (fun hb14 => ?_)
            · replace h := ifT hb14 h
              refine T.block ?_
              refine T.loop (LoopT.ghost (Ghost.only [(86, 86)] [0, 5, 6, 7, 9] rfl) (LoopT.run (fun q : Int => (⟨[(0, .v .str p0), (5, .own 86), (6, .v (.int .i64) v1), (7, .v (.int .i64) v2), (9, .v (.int .i64) q)], [(86, .arr 96 Y_triviumref19_Token v3)], 141⟩ : St)) (fun v15 z2 h hz2 => ?_) h))
              rw [m_triviumref19_All_l2] at h
              refine T.seq ?_
              obtain ⟨v16, hv, h⟩ := bdS h
              refine T.cut (fun _ : Unit => (⟨[(0, .v .str p0), (5, .own 86), (6, .v (.int .i64) v1), (7, .v (.int .i64) v2), (9, .v (.int .i64) v15), (47, .v .bool v16)], [(86, .arr 96 Y_triviumref19_Token v3)], 141⟩ : St)) (fun _ => True) ?_ (fun _ _ => ?_)
              · replace h := hv
                clear hv
                refine T.region ?_
                refine Run.go (Ev.move rfl rfl) ?_
                refine Run.go (Ev.move rfl rfl) ?_
                refine Run.go (Ev.int rfl rfl rfl rfl trivial) ?_
                refine Run.go (Ev.move rfl rfl) ?_
                refine Run.go (Ev.len X rfl rfl rfl rfl) ?_
                refine Run.go (Ev.int rfl rfl rfl rfl trivial) ?_
                refine Run.go (Ev.move rfl rfl) ?_
                rcases boolCases (decide ((wi64 (v2 + v15)) < (p0.size : Int))) with hb17 | hb17
                · replace h := ifT hb17 h
                  refine Run.on rfl rfl rfl hb17 (Ev.move rfl rfl) ?_
                  refine Run.on rfl rfl rfl hb17 (Ev.move rfl rfl) ?_
                  refine Run.on rfl rfl rfl hb17 (Ev.move rfl rfl) ?_
                  refine Run.on rfl rfl rfl hb17 (Ev.int rfl rfl rfl rfl trivial) ?_
                  obtain ⟨x18, e19, h⟩ := bdS h
                  refine Run.on rfl rfl rfl hb17 (Ev.e_bt X e19 rfl rfl rfl rfl) ?_
                  refine Run.on rfl rfl rfl hb17 (Ev.int rfl rfl rfl rfl trivial) ?_
                  refine Run.go (Ev.pickT rfl hb17 rfl rfl) ?_
                  refine Run.nil ?_
                  cases h
                  exact ⟨(), trivial, Ghost.only [(86, 86)] [0, 5, 6, 7, 9, 47] rfl⟩
                · replace h := ifF hb17 h
                  refine Run.offT rfl rfl rfl rfl hb17 ?_
                  refine Run.offT rfl rfl rfl rfl hb17 ?_
                  refine Run.offT rfl rfl rfl rfl hb17 ?_
                  refine Run.offT rfl rfl rfl rfl hb17 ?_
                  refine Run.offT rfl rfl rfl rfl hb17 ?_
                  refine Run.offT rfl rfl rfl rfl hb17 ?_
                  refine Run.go (Ev.pickF rfl hb17 rfl rfl) ?_
                  refine Run.nil ?_
                  cases h
                  exact ⟨(), trivial, Ghost.only [(86, 86)] [0, 5, 6, 7, 9, 47] rfl⟩
              · refine T.cond rfl (fun hb20 => ?_) (fun hb20 => ?_)
                · replace h := ifT hb20 h
                  refine T.skip ?_
                  refine T.block ?_
                  refine T.region ?_
                  refine Run.go (Ev.move rfl rfl) ?_
                  refine Run.go (Ev.int rfl rfl rfl rfl trivial) ?_
                  refine Run.go (Ev.assign rfl rfl) ?_
                  refine Run.nil ?_
                  cases h
                  exact LoopT.ghost (Ghost.only [(86, 86)] [0, 5, 6, 7, 9] rfl) hz2
                · replace h := ifF hb20 h
                  refine T.exit ?_
                  obtain ⟨u21, h21_, rfl⟩ := upS h
                  cases hz2
                  exact ⟨(v1, v15, v3), h21_, Ghost.only [(86, 212)] [0, 5, 6, 7, 9] rfl⟩
            · replace h := ifF hb14 h
              refine T.seq ?_
              refine T.region ?_
              refine Run.go (Ev.move rfl rfl) ?_
              obtain ⟨x22, e23, h⟩ := bdS h
              refine Run.go (Ev.callC en45 (k_triviumref19_mark e23) rfl (.cons .v .nil) rfl rfl) ?_
              refine Run.go (Ev.assign rfl rfl) ?_
              refine Run.nil ?_
              refine T.cond rfl (fun hb24 => ?_) (fun hb24 => ?_)
              · replace h := ifT hb24 h
                refine T.region ?_
                refine Run.go (Ev.move rfl rfl) ?_
                refine Run.go (Ev.move rfl rfl) ?_
                refine Run.go (Ev.move rfl rfl) ?_
                refine Run.go (Ev.move rfl rfl) ?_
                refine Run.go (Ev.int rfl rfl rfl rfl trivial) ?_
                obtain ⟨x25, e26, h⟩ := bdS h
                refine Run.go (Ev.e_cs X e26 rfl rfl rfl (fun _ _ => cutAt_of rfl) (fun h => by cases h) (fun _ _ => cutAt_of rfl) (fun h => by cases h)) ?_
                refine Run.go (Ev.move rfl rfl) ?_
                refine Run.go (Ev.struct X pl96 rfl rfl rfl rfl rfl rfl rfl rfl) ?_
                refine Run.go (Ev.build X 220 rfl rfl rfl rfl rfl rfl rfl rfl) ?_
                obtain ⟨x27, e28, h⟩ := bdS h
                refine Run.go (Ev.e_ap X 221 e28 rfl rfl rfl (.own rfl) rfl rfl rfl rfl rfl) ?_
                refine Run.go (Ev.assign rfl rfl) ?_
                refine Run.nil ?_
                exact ⟨(v1, 1, x27), h, Ghost.only [(221, 212)] [0, 5, 6, 7, 9] rfl⟩
              · replace h := ifF hb24 h
                obtain ⟨v29, hv, h⟩ := bdS h
                refine T.cut (fun _ : Unit => (⟨[(0, .v .str p0), (5, .own 86), (6, .v (.int .i64) v1), (7, .v (.int .i64) v2), (8, .v (.int .u8) x5), (9, .v (.int .i64) (1 : Int)), (63, .v .bool v29)], [(86, .arr 96 Y_triviumref19_Token v3)], 141⟩ : St)) (fun _ => True) ?_ (fun _ _ => ?_)
                · replace h := hv
                  clear hv
                  refine T.region ?_
                  refine Run.go (Ev.move rfl rfl) ?_
                  refine Run.go (Ev.int rfl rfl rfl rfl trivial) ?_
                  refine Run.go (Ev.move rfl rfl) ?_
                  rcases boolCases (decide (48 ≤ x5)) with hb30 | hb30
                  · replace h := ifT hb30 h
                    refine Run.on rfl rfl rfl hb30 (Ev.move rfl rfl) ?_
                    refine Run.on rfl rfl rfl hb30 (Ev.int rfl rfl rfl rfl trivial) ?_
                    refine Run.go (Ev.pickT rfl hb30 rfl rfl) ?_
                    refine Run.go (Ev.assign rfl rfl) ?_
                    refine Run.nil ?_
                    cases h
                    exact ⟨(), trivial, Ghost.only [(86, 86)] [0, 5, 6, 7, 8, 9, 63] rfl⟩
                  · replace h := ifF hb30 h
                    refine Run.offT rfl rfl rfl rfl hb30 ?_
                    refine Run.offT rfl rfl rfl rfl hb30 ?_
                    refine Run.go (Ev.pickF rfl hb30 rfl rfl) ?_
                    refine Run.go (Ev.assign rfl rfl) ?_
                    refine Run.nil ?_
                    cases h
                    exact ⟨(), trivial, Ghost.only [(86, 86)] [0, 5, 6, 7, 8, 9, 63] rfl⟩
                · refine T.cond rfl (fun hb31 => ?_) (fun hb31 => ?_)
                  · replace h := ifT hb31 h
                    obtain ⟨v32, hv, h⟩ := bdS h
                    refine T.cut (fun _ : Unit => (⟨[(0, .v .str p0), (5, .own 86), (6, .v (.int .i64) v1), (7, .v (.int .i64) v2), (9, .v (.int .i64) v32)], [(86, .arr 96 Y_triviumref19_Token v3)], 141⟩ : St)) (fun _ => True) ?_ (fun _ _ => ?_)
                    · replace h := hv
                      clear hv
                      refine T.block ?_
                      refine T.loop (LoopT.ghost (Ghost.only [(86, 86)] [0, 5, 6, 7, 9] rfl) (LoopT.run (fun q : Int => (⟨[(0, .v .str p0), (5, .own 86), (6, .v (.int .i64) v1), (7, .v (.int .i64) v2), (9, .v (.int .i64) q)], [(86, .arr 96 Y_triviumref19_Token v3)], 141⟩ : St)) (fun v33 z2 h hz2 => ?_) h))
                      rw [m_triviumref19_All_l3] at h
                      refine T.seq ?_
                      obtain ⟨v34, hv, h⟩ := bdS h
                      refine T.cut (fun _ : Unit => (⟨[(0, .v .str p0), (5, .own 86), (6, .v (.int .i64) v1), (7, .v (.int .i64) v2), (9, .v (.int .i64) v33), (83, .v .bool v34)], [(86, .arr 96 Y_triviumref19_Token v3)], 141⟩ : St)) (fun _ => True) ?_ (fun _ _ => ?_)
                      · replace h := hv
                        clear hv
                        refine T.region ?_
                        refine Run.go (Ev.move rfl rfl) ?_
                        refine Run.go (Ev.move rfl rfl) ?_
                        refine Run.go (Ev.int rfl rfl rfl rfl trivial) ?_
                        refine Run.go (Ev.move rfl rfl) ?_
                        refine Run.go (Ev.len X rfl rfl rfl rfl) ?_
                        refine Run.go (Ev.int rfl rfl rfl rfl trivial) ?_
                        refine Run.go (Ev.move rfl rfl) ?_
                        rcases boolCases (decide ((wi64 (v2 + v33)) < (p0.size : Int))) with hb35 | hb35
                        · replace h := ifT hb35 h
                          refine Run.on rfl rfl rfl hb35 (Ev.move rfl rfl) ?_
                          refine Run.on rfl rfl rfl hb35 (Ev.move rfl rfl) ?_
                          refine Run.on rfl rfl rfl hb35 (Ev.move rfl rfl) ?_
                          refine Run.on rfl rfl rfl hb35 (Ev.int rfl rfl rfl rfl trivial) ?_
                          obtain ⟨x36, e37, h⟩ := bdS h
                          refine Run.on rfl rfl rfl hb35 (Ev.e_bt X e37 rfl rfl rfl rfl) ?_
                          obtain ⟨x38, e39, h⟩ := bdS h
                          refine Run.on rfl rfl rfl hb35 (Ev.callC en46 (k_triviumref19_figure e39) rfl (.cons .v .nil) rfl rfl) ?_
                          refine Run.go (Ev.pickT rfl hb35 rfl rfl) ?_
                          refine Run.nil ?_
                          cases h
                          exact ⟨(), trivial, Ghost.only [(86, 86)] [0, 5, 6, 7, 9, 83] rfl⟩
                        · replace h := ifF hb35 h
                          refine Run.offT rfl rfl rfl rfl hb35 ?_
                          refine Run.offT rfl rfl rfl rfl hb35 ?_
                          refine Run.offT rfl rfl rfl rfl hb35 ?_
                          refine Run.offT rfl rfl rfl rfl hb35 ?_
                          refine Run.offT rfl rfl rfl rfl hb35 ?_
                          refine Run.offT rfl rfl rfl rfl hb35 ?_
                          refine Run.go (Ev.pickF rfl hb35 rfl rfl) ?_
                          refine Run.nil ?_
                          cases h
                          exact ⟨(), trivial, Ghost.only [(86, 86)] [0, 5, 6, 7, 9, 83] rfl⟩
                      · refine T.cond rfl (fun hb40 => ?_) (fun hb40 => ?_)
                        · replace h := ifT hb40 h
                          refine T.skip ?_
                          refine T.block ?_
                          refine T.region ?_
                          refine Run.go (Ev.move rfl rfl) ?_
                          refine Run.go (Ev.int rfl rfl rfl rfl trivial) ?_
                          refine Run.go (Ev.assign rfl rfl) ?_
                          refine Run.nil ?_
                          cases h
                          exact LoopT.ghost (Ghost.only [(86, 86)] [0, 5, 6, 7, 9] rfl) hz2
                        · replace h := ifF hb40 h
                          refine T.exit ?_
                          cases h
                          cases hz2
                          exact ⟨(), trivial, Ghost.only [(86, 86)] [0, 5, 6, 7, 9] rfl⟩
                    · refine T.region ?_
                      refine Run.go (Ev.move rfl rfl) ?_
                      refine Run.go (Ev.move rfl rfl) ?_
                      refine Run.go (Ev.move rfl rfl) ?_
                      refine Run.go (Ev.move rfl rfl) ?_
                      refine Run.go (Ev.move rfl rfl) ?_
                      refine Run.go (Ev.int rfl rfl rfl rfl trivial) ?_
                      obtain ⟨x41, e42, h⟩ := bdS h
                      refine Run.go (Ev.e_cs X e42 rfl rfl rfl (fun _ _ => cutAt_of rfl) (fun h => by cases h) (fun _ _ => cutAt_of rfl) (fun h => by cases h)) ?_
                      refine Run.go (Ev.move rfl rfl) ?_
                      refine Run.go (Ev.struct X pl96 rfl rfl rfl rfl rfl rfl rfl rfl) ?_
                      refine Run.go (Ev.build X 236 rfl rfl rfl rfl rfl rfl rfl rfl) ?_
                      obtain ⟨x43, e44, h⟩ := bdS h
                      refine Run.go (Ev.e_ap X 237 e44 rfl rfl rfl (.own rfl) rfl rfl rfl rfl rfl) ?_
                      refine Run.go (Ev.assign rfl rfl) ?_
                      refine Run.nil ?_
                      exact ⟨(v1, v32, x43), h, Ghost.only [(237, 212)] [0, 5, 6, 7, 9] rfl⟩
                  · replace h := ifF hb31 h
                    obtain ⟨v45, hv, h⟩ := bdS h
                    refine T.cut (fun _ : Unit => (⟨[(0, .v .str p0), (5, .own 86), (6, .v (.int .i64) v1), (7, .v (.int .i64) v2), (9, .v (.int .i64) (1 : Int)), (97, .v .bool v45)], [(86, .arr 96 Y_triviumref19_Token v3)], 141⟩ : St)) (fun _ => True) ?_ (fun _ _ => ?_)
                    · replace h := hv
                      clear hv
                      refine T.region ?_
                      refine Run.go (Ev.move rfl rfl) ?_
                      refine Run.go (Ev.int rfl rfl rfl rfl trivial) ?_
                      refine Run.go (Ev.move rfl rfl) ?_
                      rcases boolCases (decide (97 ≤ x5)) with hb46 | hb46
                      · replace h := ifT hb46 h
                        refine Run.on rfl rfl rfl hb46 (Ev.move rfl rfl) ?_
                        refine Run.on rfl rfl rfl hb46 (Ev.int rfl rfl rfl rfl trivial) ?_
                        refine Run.go (Ev.pickT rfl hb46 rfl rfl) ?_
                        refine Run.go (Ev.assign rfl rfl) ?_
                        refine Run.nil ?_
                        cases h
                        exact ⟨(), trivial, Ghost.only [(86, 86)] [0, 5, 6, 7, 9, 97] rfl⟩
                      · replace h := ifF hb46 h
                        refine Run.offT rfl rfl rfl rfl hb46 ?_
                        refine Run.offT rfl rfl rfl rfl hb46 ?_
                        refine Run.go (Ev.pickF rfl hb46 rfl rfl) ?_
                        refine Run.go (Ev.assign rfl rfl) ?_
                        refine Run.nil ?_
                        cases h
                        exact ⟨(), trivial, Ghost.only [(86, 86)] [0, 5, 6, 7, 9, 97] rfl⟩
                    · refine T.cond rfl (fun hb47 => ?_) (fun hb47 => ?_)
                      · replace h := ifT hb47 h
                        obtain ⟨v48, hv, h⟩ := bdS h
                        refine T.cut (fun _ : Unit => (⟨[(0, .v .str p0), (5, .own 86), (6, .v (.int .i64) v1), (7, .v (.int .i64) v2), (9, .v (.int .i64) v48)], [(86, .arr 96 Y_triviumref19_Token v3)], 141⟩ : St)) (fun _ => True) ?_ (fun _ _ => ?_)
                        · replace h := hv
                          clear hv
                          refine T.block ?_
                          refine T.loop (LoopT.ghost (Ghost.only [(86, 86)] [0, 5, 6, 7, 9] rfl) (LoopT.run (fun q : Int => (⟨[(0, .v .str p0), (5, .own 86), (6, .v (.int .i64) v1), (7, .v (.int .i64) v2), (9, .v (.int .i64) q)], [(86, .arr 96 Y_triviumref19_Token v3)], 141⟩ : St)) (fun v49 z2 h hz2 => ?_) h))
                          rw [m_triviumref19_All_l4] at h
                          refine T.seq ?_
                          obtain ⟨v50, hv, h⟩ := bdS h
                          refine T.cut (fun _ : Unit => (⟨[(0, .v .str p0), (5, .own 86), (6, .v (.int .i64) v1), (7, .v (.int .i64) v2), (9, .v (.int .i64) v49), (122, .v .bool v50)], [(86, .arr 96 Y_triviumref19_Token v3)], 141⟩ : St)) (fun _ => True) ?_ (fun _ _ => ?_)
                          · replace h := hv
                            clear hv
                            refine T.region ?_
                            refine Run.go (Ev.move rfl rfl) ?_
                            refine Run.go (Ev.move rfl rfl) ?_
                            refine Run.go (Ev.int rfl rfl rfl rfl trivial) ?_
                            refine Run.go (Ev.move rfl rfl) ?_
                            refine Run.go (Ev.len X rfl rfl rfl rfl) ?_
                            refine Run.go (Ev.int rfl rfl rfl rfl trivial) ?_
                            refine Run.go (Ev.move rfl rfl) ?_
                            rcases boolCases (decide ((wi64 (v2 + v49)) < (p0.size : Int))) with hb51 | hb51
                            · replace h := ifT hb51 h
                              refine Run.on rfl rfl rfl hb51 (Ev.move rfl rfl) ?_
                              refine Run.on rfl rfl rfl hb51 (Ev.move rfl rfl) ?_
                              refine Run.on rfl rfl rfl hb51 (Ev.move rfl rfl) ?_
                              refine Run.on rfl rfl rfl hb51 (Ev.int rfl rfl rfl rfl trivial) ?_
                              refine Run.on rfl rfl rfl hb51 (Ev.move rfl rfl) ?_
                              refine Run.on rfl rfl rfl hb51 (Ev.move rfl rfl) ?_
                              refine Run.on rfl rfl rfl hb51 (Ev.int rfl rfl rfl rfl trivial) ?_
                              refine Run.on rfl rfl rfl hb51 (Ev.int rfl rfl rfl rfl trivial) ?_
                              obtain ⟨x52, e53, h⟩ := bdS h
                              refine Run.on rfl rfl rfl hb51 (Ev.e_cs X e53 rfl rfl rfl (fun _ _ => cutAt_of rfl) (fun h => by cases h) (fun _ _ => cutAt_of rfl) (fun h => by cases h)) ?_
                              obtain ⟨x54, e55, h⟩ := bdS h
                              refine Run.on rfl rfl rfl hb51 (Ev.e_cat e55 rfl rfl rfl) ?_
                              obtain ⟨x56, e57, h⟩ := bdS h
                              refine Run.on rfl rfl rfl hb51 (Ev.callC en47 (k_triviumref17_Word e57) rfl (.cons .v .nil) rfl rfl) ?_
                              refine Run.go (Ev.pickT rfl hb51 rfl rfl) ?_
                              refine Run.nil ?_
                              cases h
                              exact ⟨(), trivial, Ghost.only [(86, 86)] [0, 5, 6, 7, 9, 122] rfl⟩
                            · replace h := ifF hb51 h
                              refine Run.offT rfl rfl rfl rfl hb51 ?_
                              refine Run.offT rfl rfl rfl rfl hb51 ?_
                              refine Run.offT rfl rfl rfl rfl hb51 ?_
                              refine Run.offT rfl rfl rfl rfl hb51 ?_
                              refine Run.offT rfl rfl rfl rfl hb51 ?_
                              refine Run.offT rfl rfl rfl rfl hb51 ?_
                              refine Run.offT rfl rfl rfl rfl hb51 ?_
                              refine Run.offT rfl rfl rfl rfl hb51 ?_
                              refine Run.offT rfl rfl rfl rfl hb51 ?_
                              refine Run.offT rfl rfl rfl rfl hb51 ?_
                              refine Run.offT rfl rfl rfl rfl hb51 ?_
                              refine Run.go (Ev.pickF rfl hb51 rfl rfl) ?_
                              refine Run.nil ?_
                              cases h
                              exact ⟨(), trivial, Ghost.only [(86, 86)] [0, 5, 6, 7, 9, 122] rfl⟩
                          · refine T.cond rfl (fun hb58 => ?_) (fun hb58 => ?_)
                            · replace h := ifT hb58 h
                              refine T.skip ?_
                              refine T.block ?_
                              refine T.region ?_
                              refine Run.go (Ev.move rfl rfl) ?_
                              refine Run.go (Ev.int rfl rfl rfl rfl trivial) ?_
                              refine Run.go (Ev.assign rfl rfl) ?_
                              refine Run.nil ?_
                              cases h
                              exact LoopT.ghost (Ghost.only [(86, 86)] [0, 5, 6, 7, 9] rfl) hz2
                            · replace h := ifF hb58 h
                              refine T.exit ?_
                              cases h
                              cases hz2
                              exact ⟨(), trivial, Ghost.only [(86, 86)] [0, 5, 6, 7, 9] rfl⟩
                        · refine T.region ?_
                          refine Run.go (Ev.move rfl rfl) ?_
                          refine Run.go (Ev.move rfl rfl) ?_
                          refine Run.go (Ev.move rfl rfl) ?_
                          refine Run.go (Ev.move rfl rfl) ?_
                          refine Run.go (Ev.move rfl rfl) ?_
                          refine Run.go (Ev.int rfl rfl rfl rfl trivial) ?_
                          obtain ⟨x59, e60, h⟩ := bdS h
                          refine Run.go (Ev.e_cs X e60 rfl rfl rfl (fun _ _ => cutAt_of rfl) (fun h => by cases h) (fun _ _ => cutAt_of rfl) (fun h => by cases h)) ?_
                          refine Run.go (Ev.move rfl rfl) ?_
                          refine Run.go (Ev.struct X pl96 rfl rfl rfl rfl rfl rfl rfl rfl) ?_
                          refine Run.go (Ev.build X 252 rfl rfl rfl rfl rfl rfl rfl rfl) ?_
                          obtain ⟨x61, e62, h⟩ := bdS h
                          refine Run.go (Ev.e_ap X 253 e62 rfl rfl rfl (.own rfl) rfl rfl rfl rfl rfl) ?_
                          refine Run.go (Ev.assign rfl rfl) ?_
                          refine Run.nil ?_
                          exact ⟨(v1, v48, x61), h, Ghost.only [(253, 212)] [0, 5, 6, 7, 9] rfl⟩
                      · replace h := ifF hb47 h
                        refine T.seq ?_
                        refine T.region ?_
                        refine Run.go (Ev.move rfl rfl) ?_
                        refine Run.go (Ev.assign rfl rfl) ?_
                        refine Run.go (Ev.assign rfl rfl) ?_
                        refine Run.go (Ev.assign rfl rfl) ?_
                        refine Run.nil ?_
                        refine T.ret ?_
                        cases h
                        cases hz1
                        exact Fin.many X rfl (.cons (.tmp .nilv) (.cons (.tmp .v) (.cons (.tmp .v) .nil))) rfl
    · rintro ⟨v7, v8, v9⟩ h
      dsimp only at h ⊢
      rw [m_triviumref19_All_k1] at h
      refine T.region ?_
      refine Run.go (Ev.move rfl rfl) ?_
      refine Run.go (Ev.move rfl rfl) ?_
      refine Run.go (Ev.int rfl rfl rfl rfl trivial) ?_
      refine Run.go (Ev.assign rfl rfl) ?_
      refine Run.nil ?_
      cases h
      exact LoopT.ghost (Ghost.only [(212, 86)] [0, 5, 6, 7] rfl) hz1
  · replace h := ifF hb4 h
    refine T.exit ?_
    refine T.seq ?_
    refine T.region ?_
    refine Run.go (Ev.move rfl rfl) ?_
    refine Run.go (Ev.move rfl rfl) ?_
    refine Run.go (Ev.assign rfl rfl) ?_
    refine Run.go (Ev.assign rfl rfl) ?_
    refine Run.go (Ev.assign rfl rfl) ?_
    refine Run.nil ?_
    refine T.ret ?_
    cases h
    cases hz1
    exact Fin.many X rfl (.cons (.tmp (.own rfl)) (.cons (.tmp .v) (.cons (.tmp .v) .nil))) rfl
theorem k_triviumref20_Begin_M {p0 : ByteArray} {y : (Int) ⊕ (Int × (List D_triviumref19_Token) × Int)} (h : m_triviumref20_Begin_M p0 = some y) : SpecM Tryz.prog 11 [(.v .str p0)] [] ((match y with | .inl y => .tup [.nilp, .v (.int .i64) y, .v .bool false] | .inr y => .tup [.box 3 0, .v (.int .i64) y.1, .v .bool true])) (match y with | .inl y => [] | .inr y => [(3, .box [.box 2 0, .v (.int .i64) (0 : Int), .v (.int .i64) (0 : Int), .v (.int .i64) (0 : Int)]), (2, .box [.v (.sl Y_triviumref19_Token) y.2.1, .v (.int .i64) (0 : Int), .v (.int .i64) y.2.2])]) := by
  rw [m_triviumref20_Begin_M] at h
  refine SpecM.enter 100000 [(.v .str p0)] 24 Tryz.func11 rfl rfl rfl rfl (fun L => ?_)
  refine T.seq ?_
  refine T.region ?_
  refine Run.go (Ev.assign rfl rfl) ?_
  refine Run.go (Ev.assign rfl rfl) ?_
  refine Run.go (Ev.assign rfl rfl) ?_
  refine Run.nil ?_
  refine T.seq ?_
  refine T.region ?_
  refine Run.go (Ev.move rfl rfl) ?_
  obtain ⟨x1, e2, h⟩ := bdS h
  refine Run.go (Ev.callC en26 (k_triviumref19_All e2) rfl (.cons .v .nil) rfl rfl) ?_
  refine Run.go (Ev.move rfl rfl) ?_
  refine Run.go (Ev.extract rfl rfl rfl) ?_
  refine Run.go (Ev.extract rfl rfl rfl) ?_
  refine Run.go (Ev.extract rfl rfl rfl) ?_
  refine Run.go (Ev.assign rfl rfl) ?_
  refine Run.go (Ev.assign rfl rfl) ?_
  refine Run.go (Ev.assign rfl rfl) ?_
  refine Run.nil ?_
  refine T.seq ?_
  refine T.seq ?_
  refine T.region ?_
  refine Run.go (Ev.move rfl rfl) ?_
  refine Run.go (Ev.int rfl rfl rfl rfl trivial) ?_
  refine Run.nil ?_
  refine T.cond rfl (fun hb3 => ?_) (fun hb3 => ?_)
  · replace h := ifT hb3 h
    refine T.seq ?_
    refine T.region ?_
    refine Run.go (Ev.move rfl rfl) ?_
    refine Run.go (Ev.assign rfl rfl) ?_
    refine Run.go (Ev.assign rfl rfl) ?_
    refine Run.go (Ev.assign rfl rfl) ?_
    refine Run.nil ?_
    refine T.ret ?_
    cases h
    exact FinM.of 100000 [] (inlR.many' (X := X) rfl (.cons (.tmp rfl) (.cons (.tmp rfl) (.cons (.tmp rfl) .nil))) rfl) rfl rfl rfl rfl trivial
  · replace h := ifF hb3 h
    refine T.skip ?_
    refine T.seq ?_
    refine T.region ?_
    refine Run.go (Ev.move rfl rfl) ?_
    refine Run.go (Ev.move rfl rfl) ?_
    refine Run.go (Ev.structC pl49 zs49 rfl rfl rfl) ?_
    refine Run.go (Ev.boxC 6 rfl rfl rfl rfl) ?_
    refine Run.go (Ev.structC pl46 zs46 rfl rfl rfl) ?_
    refine Run.go (Ev.boxC 7 rfl rfl rfl rfl) ?_
    refine Run.go (Ev.move rfl rfl) ?_
    refine Run.go (Ev.assign rfl rfl) ?_
    refine Run.go (Ev.assign rfl rfl) ?_
    refine Run.go (Ev.assign rfl rfl) ?_
    refine Run.nil ?_
    refine T.ret ?_
    cases h
    exact FinM.of 100000 [(7, 3), (6, 2)] (inlR.many' (X := X) rfl (.cons (.tmp rfl) (.cons (.tmp rfl) (.cons (.tmp rfl) .nil))) rfl) rfl rfl rfl rfl trivial
theorem k_triviumref19_Reader_Take_M {p1 : ByteArray} {o1_0 : (List D_lex_Token)} {o1_1 : Int} {o1_2 : Int} {y : Bool × Int} (h : m_triviumref19_Reader_Take_M p1 o1_0 o1_1 o1_2 = some y) : SpecM Tryz.prog 48 [(.box 1 0), (.v .str p1)] [(1, .box [.v (.sl Y_lex_Token) o1_0, .v (.int .i64) o1_1, .v (.int .i64) o1_2])] (.v .bool y.1) [(1, .box [.v (.sl Y_lex_Token) o1_0, .v (.int .i64) y.2, .v (.int .i64) o1_2])] := by
  rw [m_triviumref19_Reader_Take_M] at h
  refine SpecM.enter 100000 [(.box 1 0), (.v .str p1)] 37 Tryz.func48 rfl rfl rfl rfl (fun L => ?_)
  refine T.seq ?_
  refine T.region ?_
  refine Run.go (Ev.assign rfl rfl) ?_
  refine Run.nil ?_
  refine T.seq ?_
  obtain ⟨v1, hv, h⟩ := bdS h
  refine T.cut (fun _ : Unit => (⟨[(0, .box 1 0), (29, .v .bool v1)], [(1, .box [.v (.sl Y_lex_Token) o1_0, .v (.int .i64) o1_1, .v (.int .i64) o1_2]), (100001, .place 1 (L 1).1 (L 1).2)], 37⟩ : St)) (fun _ => True) ?_ (fun _ _ => ?_)
  · replace h := hv
    clear hv
    refine T.drawE [([1], []), ([1], []), ([1], []), ([1], []), ([1], []), ([1], []), ([1], []), ([1], []), ([], []), ([], []), ([], []), ([1], []), ([1], []), ([1], []), ([1], []), ([1], []), ([1], []), ([1], []), ([1], []), ([], []), ([], []), ([], []), ([], []), ([], []), ([], [])] [0, 1, 3, 7, 0, 16, 48, 112, 240, 511, 1023, 2047, 4095, 8191, 16383, 2047, 34815, 100351, 231423, 524287, 1048575, 2097151, 2047, 8388607, 16777215] (by kernel_rfl) (by kernel_rfl) ?_
    refine RunE.go0 [1] (fun ô hô => Ev.move rfl rfl) rfl rfl ?_
    refine RunE.go0 [1] (fun ô hô => Ev.e_nc rfl (one_box (ka hô rfl rfl)) rfl rfl) rfl rfl ?_
    refine RunE.go0 [1] (fun ô hô => Ev.fieldBox X rfl (ka hô rfl rfl) rfl rfl rfl) rfl rfl ?_
    refine RunE.go0 [1] (fun ô hô => Ev.loadCell X rfl (ka hô rfl rfl) rfl rfl rfl rfl) rfl rfl ?_
    refine RunE.go0 [1] (fun ô hô => Ev.move rfl rfl) rfl rfl ?_
    refine RunE.go0 [1] (fun ô hô => Ev.e_nc rfl (one_box (ka hô rfl rfl)) rfl rfl) rfl rfl ?_
    refine RunE.go0 [1] (fun ô hô => Ev.fieldBox X rfl (ka hô rfl rfl) rfl rfl rfl) rfl rfl ?_
    refine RunE.go0 [1] (fun ô hô => Ev.loadCell X rfl (ka hô rfl rfl) rfl rfl rfl rfl) rfl rfl ?_
    refine RunE.go0 [] (fun ô hô => Ev.len X rfl rfl rfl rfl) rfl rfl ?_
    refine RunE.go0 [] (fun ô hô => Ev.int rfl rfl rfl rfl trivial) rfl rfl ?_
    refine RunE.go0 [] (fun ô hô => Ev.move rfl rfl) rfl rfl ?_
    rcases boolCases (decide (o1_1 < (o1_0.length : Int))) with hb2 | hb2
    · replace h := ifT hb2 h
      refine RunE.on0 [1] rfl rfl rfl hb2 (fun ô hô => Ev.move rfl rfl) rfl rfl ?_
      refine RunE.on0 [1] rfl rfl rfl hb2 (fun ô hô => Ev.e_nc rfl (one_box (ka hô rfl rfl)) rfl rfl) rfl rfl ?_
      refine RunE.on0 [1] rfl rfl rfl hb2 (fun ô hô => Ev.fieldBox X rfl (ka hô rfl rfl) rfl rfl rfl) rfl rfl ?_
      refine RunE.on0 [1] rfl rfl rfl hb2 (fun ô hô => Ev.loadCell X rfl (ka hô rfl rfl) rfl rfl rfl rfl) rfl rfl ?_
      refine RunE.on0 [1] rfl rfl rfl hb2 (fun ô hô => Ev.move rfl rfl) rfl rfl ?_
      refine RunE.on0 [1] rfl rfl rfl hb2 (fun ô hô => Ev.e_nc rfl (one_box (ka hô rfl rfl)) rfl rfl) rfl rfl ?_
      refine RunE.on0 [1] rfl rfl rfl hb2 (fun ô hô => Ev.fieldBox X rfl (ka hô rfl rfl) rfl rfl rfl) rfl rfl ?_
      refine RunE.on0 [1] rfl rfl rfl hb2 (fun ô hô => Ev.loadCell X rfl (ka hô rfl rfl) rfl rfl rfl rfl) rfl rfl ?_
      obtain ⟨x3, e4, h⟩ := bdS h
      refine RunE.on0 [] rfl rfl rfl hb2 (fun ô hô => Ev.e_rd X e4 rfl rfl rfl rfl) rfl rfl ?_
      refine RunE.on0 [] rfl rfl rfl hb2 (fun ô hô => Ev.fieldAddr X rfl rfl rfl rfl) rfl rfl ?_
      refine RunE.on0 [] rfl rfl rfl hb2 (fun ô hô => Ev.load X rfl rfl rfl) rfl rfl ?_
      refine RunE.on0 [] rfl rfl rfl hb2 (fun ô hô => Ev.move rfl rfl) rfl rfl ?_
      refine RunE.on0 [] rfl rfl rfl hb2 (fun ô hô => Ev.strs rfl rfl rfl rfl trivial) rfl rfl ?_
      refine RunE.go0 [] (fun ô hô => Ev.pickT rfl hb2 rfl rfl) rfl rfl ?_
      refine RunE.nil ?_
      cases h
      exact ⟨(), trivial, Ghost.only [(1, 1), (100001, 100001)] [0, 29] rfl⟩
    · replace h := ifF hb2 h
      refine RunE.off rfl rfl rfl rfl hb2 rfl ?_
      refine RunE.off rfl rfl rfl rfl hb2 rfl ?_
      refine RunE.off rfl rfl rfl rfl hb2 rfl ?_
      refine RunE.off rfl rfl rfl rfl hb2 rfl ?_
      refine RunE.off rfl rfl rfl rfl hb2 rfl ?_
      refine RunE.off rfl rfl rfl rfl hb2 rfl ?_
      refine RunE.off rfl rfl rfl rfl hb2 rfl ?_
      refine RunE.off rfl rfl rfl rfl hb2 rfl ?_
      refine RunE.off rfl rfl rfl rfl hb2 rfl ?_
      refine RunE.off rfl rfl rfl rfl hb2 rfl ?_
      refine RunE.off rfl rfl rfl rfl hb2 rfl ?_
      refine RunE.off rfl rfl rfl rfl hb2 rfl ?_
      refine RunE.off rfl rfl rfl rfl hb2 rfl ?_
      refine RunE.go0 [] (fun ô hô => Ev.pickF rfl hb2 rfl rfl) rfl rfl ?_
      refine RunE.nil ?_
      cases h
      exact ⟨(), trivial, Ghost.only [(1, 1), (100001, 100001)] [0, 29] rfl⟩
  · refine T.cond rfl (fun hb5 => ?_) (fun hb5 => ?_)
    · replace h := ifT hb5 h
      refine T.seq ?_
      refine T.region ?_
      refine Run.go (Ev.move rfl rfl) ?_
      refine Run.go (Ev.e_nc rfl rfl rfl rfl) ?_
      refine Run.go (Ev.fieldBox X rfl rfl rfl rfl rfl) ?_
      refine Run.go (Ev.loadCell X rfl rfl rfl rfl rfl rfl) ?_
      refine Run.go (Ev.int rfl rfl rfl rfl trivial) ?_
      refine Run.go (Ev.e_nc rfl rfl rfl rfl) ?_
      refine Run.go (Ev.fieldBox X rfl rfl rfl rfl rfl) ?_
      refine Run.do_ (Ev.storeBox X rfl rfl rfl rfl rfl rfl rfl) ?_
      refine Run.nil ?_
      refine T.seq ?_
      refine T.region ?_
      refine Run.go (Ev.assign rfl rfl) ?_
      refine Run.nil ?_
      refine T.ret ?_
      cases h
      exact FinM.of 100000 [(1, 1)] (inlR.one' (X := X) rfl (.tmp rfl)) rfl rfl rfl rfl ⟨(.inl ⟨rfl, _, rfl, .box, fun _ => rfl⟩), trivial⟩
    · replace h := ifF hb5 h
      refine T.skip ?_
      refine T.seq ?_
      refine T.region ?_
      refine Run.go (Ev.assign rfl rfl) ?_
      refine Run.nil ?_
      refine T.ret ?_
      cases h
      exact FinM.of 100000 [(1, 1)] (inlR.one' (X := X) rfl (.tmp rfl)) rfl rfl rfl rfl ⟨(.inl ⟨rfl, _, rfl, .box, fun _ => rfl⟩), trivial⟩
theorem k_triviumref20_Reader_May_M {p1 : ByteArray} {o1_1 : Int} {o1_2 : Int} {o1_3 : Int} {o2_0 : (List D_lex_Token)} {o2_1 : Int} {o2_2 : Int} {y : Bool × Int} (h : m_triviumref20_Reader_May_M p1 o1_1 o1_2 o1_3 o2_0 o2_1 o2_2 = some y) : SpecM Tryz.prog 27 [(.box 1 0), (.v .str p1)] [(1, .box [.box 2 0, .v (.int .i64) o1_1, .v (.int .i64) o1_2, .v (.int .i64) o1_3]), (2, .box [.v (.sl Y_lex_Token) o2_0, .v (.int .i64) o2_1, .v (.int .i64) o2_2])] (.v .bool y.1) [(1, .box [.box 2 0, .v (.int .i64) o1_1, .v (.int .i64) o1_2, .v (.int .i64) o1_3]), (2, .box [.v (.sl Y_lex_Token) o2_0, .v (.int .i64) y.2, .v (.int .i64) o2_2])] := by
  rw [m_triviumref20_Reader_May_M] at h
  refine SpecM.enter 100000 [(.box 1 0), (.v .str p1)] 18 Tryz.func27 rfl rfl rfl rfl (fun L => ?_)
  refine T.seq ?_
  refine T.region ?_
  refine Run.go (Ev.assign rfl rfl) ?_
  refine Run.nil ?_
  refine T.seq ?_
  refine T.region ?_
  refine Run.go (Ev.move rfl rfl) ?_
  refine Run.go (Ev.e_nc rfl rfl rfl rfl) ?_
  refine Run.go (Ev.fieldBoxN fo46_1 sz3 rfl rfl rfl rfl) ?_
  refine Run.go (Ev.loadCell X rfl rfl rfl rfl rfl rfl) ?_
  refine Run.go (Ev.int rfl rfl rfl rfl trivial) ?_
  refine Run.go (Ev.move rfl rfl) ?_
  rcases boolCases (decide (o1_1 = 0)) with hb1 | hb1
  · replace h := ifT hb1 h
    refine Run.on rfl rfl rfl hb1 (Ev.move rfl rfl) ?_
    refine Run.on rfl rfl rfl hb1 (Ev.e_nc rfl rfl rfl rfl) ?_
    refine Run.on rfl rfl rfl hb1 (Ev.fieldBoxN fo46_0 sz44 rfl rfl rfl rfl) ?_
    refine Run.on rfl rfl rfl hb1 (Ev.loadOne sz44 rfl rfl rfl rfl) ?_
    refine Run.on rfl rfl rfl hb1 (Ev.move rfl rfl) ?_
    obtain ⟨x3, e2, h⟩ := bdS h
    refine Run.on rfl rfl rfl hb1 (Ev.w1 (Ev.lendM [(2, 1)] [(1, 2)] en48 (k_triviumref19_Reader_Take_M e2) rfl (.cons (.ren rfl) (.cons (.ren rfl) .nil)) rfl rfl rfl rfl rfl (A := .v .bool x3.1) rfl (W := [(2, .box [.v (.sl Y_lex_Token) o2_0, .v (.int .i64) x3.2, .v (.int .i64) o2_2])]) rfl rfl)) ?_
    refine Run.go (Ev.pickT rfl hb1 rfl rfl) ?_
    refine Run.go (Ev.assign rfl rfl) ?_
    refine Run.nil ?_
    refine T.ret ?_
    cases h
    exact FinM.of 100000 [(1, 1), (2, 2)] (inlR.one' (X := X) rfl (.tmp rfl)) rfl rfl rfl rfl ⟨(.inl ⟨rfl, _, rfl, .box, fun _ => rfl⟩), (.inl ⟨rfl, _, rfl, .box, fun _ => rfl⟩), trivial⟩
  · replace h := ifF hb1 h
    refine Run.offT rfl rfl rfl rfl hb1 ?_
    refine Run.offT rfl rfl rfl rfl hb1 ?_
    refine Run.offT rfl rfl rfl rfl hb1 ?_
    refine Run.offT rfl rfl rfl rfl hb1 ?_
    refine Run.offT rfl rfl rfl rfl hb1 ?_
    refine Run.offT rfl rfl rfl rfl hb1 ?_
    refine Run.go (Ev.pickF rfl hb1 rfl rfl) ?_
    refine Run.go (Ev.assign rfl rfl) ?_
    refine Run.nil ?_
    refine T.ret ?_
    cases h
    exact FinM.of 100000 [(1, 1), (2, 2)] (inlR.one' (X := X) rfl (.tmp rfl)) rfl rfl rfl rfl ⟨(.inl ⟨rfl, _, rfl, .box, fun _ => rfl⟩), (.inl ⟨rfl, _, rfl, .box, fun _ => rfl⟩), trivial⟩
theorem k_triviumref19_Reader_Line_M {o1_0 : (List D_lex_Token)} {o1_1 : Int} {o1_2 : Int} {y : Int} (h : m_triviumref19_Reader_Line_M o1_0 o1_1 o1_2 = some y) : SpecM Tryz.prog 49 [(.box 1 0)] [(1, .box [.v (.sl Y_lex_Token) o1_0, .v (.int .i64) o1_1, .v (.int .i64) o1_2])] (.v (.int .i64) y) [(1, .box [.v (.sl Y_lex_Token) o1_0, .v (.int .i64) o1_1, .v (.int .i64) o1_2])] := by
  rw [m_triviumref19_Reader_Line_M] at h
  refine SpecM.enter 100000 [(.box 1 0)] 28 Tryz.func49 rfl rfl rfl rfl (fun L => ?_)
  refine T.seq ?_
  refine T.region ?_
  refine Run.go (Ev.assign rfl rfl) ?_
  refine Run.nil ?_
  refine T.seq ?_
  refine T.seq ?_
  refine T.drawE [([1], []), ([1], []), ([1], []), ([1], []), ([1], []), ([1], []), ([1], []), ([1], []), ([], []), ([], [])] [0, 1, 3, 7, 0, 16, 48, 112, 240, 511] (by kernel_rfl) (by kernel_rfl) ?_
  refine RunE.go0 [1] (fun ô hô => Ev.move rfl rfl) rfl rfl ?_
  refine RunE.go0 [1] (fun ô hô => Ev.e_nc rfl (one_box (ka hô rfl rfl)) rfl rfl) rfl rfl ?_
  refine RunE.go0 [1] (fun ô hô => Ev.fieldBox X rfl (ka hô rfl rfl) rfl rfl rfl) rfl rfl ?_
  refine RunE.go0 [1] (fun ô hô => Ev.loadCell X rfl (ka hô rfl rfl) rfl rfl rfl rfl) rfl rfl ?_
  refine RunE.go0 [1] (fun ô hô => Ev.move rfl rfl) rfl rfl ?_
  refine RunE.go0 [1] (fun ô hô => Ev.e_nc rfl (one_box (ka hô rfl rfl)) rfl rfl) rfl rfl ?_
  refine RunE.go0 [1] (fun ô hô => Ev.fieldBox X rfl (ka hô rfl rfl) rfl rfl rfl) rfl rfl ?_
  refine RunE.go0 [1] (fun ô hô => Ev.loadCell X rfl (ka hô rfl rfl) rfl rfl rfl rfl) rfl rfl ?_
  refine RunE.go0 [] (fun ô hô => Ev.len X rfl rfl rfl rfl) rfl rfl ?_
  refine RunE.go0 [] (fun ô hô => Ev.int rfl rfl rfl rfl trivial) rfl rfl ?_
  refine RunE.nil ?_
  refine T.cond rfl (fun hb1 => ?_) (fun hb1 => ?_)
  · replace h := ifT hb1 h
    refine T.seq ?_
    refine T.drawE [([1], []), ([1], []), ([1], []), ([1], []), ([1], []), ([1], []), ([1], []), ([1], []), ([], []), ([], []), ([], []), ([], [])] [0, 1, 3, 7, 0, 16, 48, 112, 255, 511, 1023, 2047] (by kernel_rfl) (by kernel_rfl) ?_
    refine RunE.go0 [1] (fun ô hô => Ev.move rfl rfl) rfl rfl ?_
    refine RunE.go0 [1] (fun ô hô => Ev.e_nc rfl (one_box (ka hô rfl rfl)) rfl rfl) rfl rfl ?_
    refine RunE.go0 [1] (fun ô hô => Ev.fieldBox X rfl (ka hô rfl rfl) rfl rfl rfl) rfl rfl ?_
    refine RunE.go0 [1] (fun ô hô => Ev.loadCell X rfl (ka hô rfl rfl) rfl rfl rfl rfl) rfl rfl ?_
    refine RunE.go0 [1] (fun ô hô => Ev.move rfl rfl) rfl rfl ?_
    refine RunE.go0 [1] (fun ô hô => Ev.e_nc rfl (one_box (ka hô rfl rfl)) rfl rfl) rfl rfl ?_
    refine RunE.go0 [1] (fun ô hô => Ev.fieldBox X rfl (ka hô rfl rfl) rfl rfl rfl) rfl rfl ?_
    refine RunE.go0 [1] (fun ô hô => Ev.loadCell X rfl (ka hô rfl rfl) rfl rfl rfl rfl) rfl rfl ?_
    obtain ⟨x2, e3, h⟩ := bdS h
    refine RunE.go0 [] (fun ô hô => Ev.e_rd X e3 rfl rfl rfl rfl) rfl rfl ?_
    refine RunE.go0 [] (fun ô hô => Ev.fieldAddr X rfl rfl rfl rfl) rfl rfl ?_
    refine RunE.go0 [] (fun ô hô => Ev.load X rfl rfl rfl) rfl rfl ?_
    refine RunE.go0 [] (fun ô hô => Ev.assign rfl rfl) rfl rfl ?_
    refine RunE.nil ?_
    refine T.ret ?_
    cases h
    exact FinM.of 100000 [(1, 1)] (inlR.one' (X := X) rfl (.tmp rfl)) rfl rfl rfl rfl ⟨(.inl ⟨rfl, _, rfl, .box, fun _ => rfl⟩), trivial⟩
  · replace h := ifF hb1 h
    refine T.skip ?_
    refine T.seq ?_
    refine T.region ?_
    refine Run.go (Ev.move rfl rfl) ?_
    refine Run.go (Ev.e_nc rfl rfl rfl rfl) ?_
    refine Run.go (Ev.fieldBox X rfl rfl rfl rfl rfl) ?_
    refine Run.go (Ev.loadCell X rfl rfl rfl rfl rfl rfl) ?_
    refine Run.go (Ev.assign rfl rfl) ?_
    refine Run.nil ?_
    refine T.ret ?_
    cases h
    exact FinM.of 100000 [(1, 1)] (inlR.one' (X := X) rfl (.tmp rfl)) rfl rfl rfl rfl ⟨(.inl ⟨rfl, _, rfl, .box, fun _ => rfl⟩), trivial⟩
theorem k_triviumref20_Reader_Fail_M {o1_1 : Int} {o1_2 : Int} {o1_3 : Int} {o2_0 : (List D_lex_Token)} {o2_1 : Int} {o2_2 : Int} {y : Int × Int} (h : m_triviumref20_Reader_Fail_M o1_1 o1_2 o1_3 o2_0 o2_1 o2_2 = some y) : SpecM Tryz.prog 28 [(.box 1 0)] [(1, .box [.box 2 0, .v (.int .i64) o1_1, .v (.int .i64) o1_2, .v (.int .i64) o1_3]), (2, .box [.v (.sl Y_lex_Token) o2_0, .v (.int .i64) o2_1, .v (.int .i64) o2_2])] (.tup []) [(1, .box [.box 2 0, .v (.int .i64) y.1, .v (.int .i64) y.2, .v (.int .i64) o1_3]), (2, .box [.v (.sl Y_lex_Token) o2_0, .v (.int .i64) o2_1, .v (.int .i64) o2_2])] := by
  rw [m_triviumref20_Reader_Fail_M] at h
  refine SpecM.enter 100000 [(.box 1 0)] 18 Tryz.func28 rfl rfl rfl rfl (fun L => ?_)
  refine T.seq ?_
  refine T.region ?_
  refine Run.go (Ev.move rfl rfl) ?_
  refine Run.go (Ev.e_nc rfl rfl rfl rfl) ?_
  refine Run.go (Ev.fieldBoxN fo46_1 sz3 rfl rfl rfl rfl) ?_
  refine Run.go (Ev.loadCell X rfl rfl rfl rfl rfl rfl) ?_
  refine Run.go (Ev.int rfl rfl rfl rfl trivial) ?_
  refine Run.nil ?_
  refine T.cond rfl (fun hb1 => ?_) (fun hb1 => ?_)
  · replace h := ifT hb1 h
    refine T.region ?_
    refine Run.go (Ev.move rfl rfl) ?_
    refine Run.go (Ev.move rfl rfl) ?_
    refine Run.go (Ev.move rfl rfl) ?_
    refine Run.go (Ev.e_nc rfl rfl rfl rfl) ?_
    refine Run.go (Ev.fieldBoxN fo46_0 sz44 rfl rfl rfl rfl) ?_
    refine Run.go (Ev.loadOne sz44 rfl rfl rfl rfl) ?_
    obtain ⟨x3, e2, h⟩ := bdS h
    refine Run.go (Ev.w1 (Ev.lendM [(2, 1)] [(1, 2)] en49 (k_triviumref19_Reader_Line_M e2) rfl (.cons (.ren rfl) .nil) rfl rfl rfl rfl rfl (A := .v (.int .i64) x3) rfl (W := [(2, .box [.v (.sl Y_lex_Token) o2_0, .v (.int .i64) o2_1, .v (.int .i64) o2_2])]) rfl rfl)) ?_
    refine Run.go (Ev.e_nc rfl rfl rfl rfl) ?_
    refine Run.go (Ev.fieldBoxN fo46_1 sz3 rfl rfl rfl rfl) ?_
    refine Run.do_ (Ev.storeBox X rfl rfl rfl rfl rfl rfl rfl) ?_
    refine Run.go (Ev.e_nc rfl rfl rfl rfl) ?_
    refine Run.go (Ev.fieldBoxN fo46_2 sz3 rfl rfl rfl rfl) ?_
    refine Run.do_ (Ev.storeBox X rfl rfl rfl rfl rfl rfl rfl) ?_
    refine Run.nil ?_
    cases h
    exact FinM.of 100000 [(1, 1), (2, 2)] (inlR.many' (X := X) rfl .nil rfl) rfl rfl rfl rfl ⟨(.inl ⟨rfl, _, rfl, .box, fun _ => rfl⟩), (.inl ⟨rfl, _, rfl, .box, fun _ => rfl⟩), trivial⟩
  · replace h := ifF hb1 h
    refine T.skip ?_
    cases h
    exact FinM.of 100000 [(1, 1), (2, 2)] (inlR.many' (X := X) rfl .nil rfl) rfl rfl rfl rfl ⟨(.inl ⟨rfl, _, rfl, .box, fun _ => rfl⟩), (.inl ⟨rfl, _, rfl, .box, fun _ => rfl⟩), trivial⟩
theorem en86 : Enters Tryz.prog 86 := ⟨_, Tryz.func86, rfl, rfl⟩
theorem k_triviumref17_Keywords  {y : (List ByteArray)} (h : m_triviumref17_Keywords  = some y) : Spec Tryz.prog 86 [] (.v (.sl .str) y) [] := by
  rw [m_triviumref17_Keywords] at h
  refine enterN [] 2 Tryz.func86 rfl rfl rfl ?_
  refine T.seq ?_
  refine T.region ?_
  refine Run.go (Ev.assign rfl rfl) ?_
  refine Run.nil ?_
  refine T.seq ?_
  refine T.region ?_
  refine Run.go (Ev.build X 1 rfl rfl rfl rfl rfl rfl rfl rfl) ?_
  refine Run.go (Ev.assign rfl rfl) ?_
  refine Run.nil ?_
  refine T.ret ?_
  cases h
  exact Fin.one rfl (.own rfl)
theorem en70 : Enters Tryz.prog 70 := ⟨_, Tryz.func70, rfl, rfl⟩
theorem k_triviumref17_Keyword {p0 : ByteArray} {y : Bool} (h : m_triviumref17_Keyword p0 = some y) : Spec Tryz.prog 70 [(.v .str p0)] (.v .bool y) [] := by
  rw [m_triviumref17_Keyword] at h
  refine enterN [(.v .str p0)] 18 Tryz.func70 rfl rfl rfl ?_
  refine T.seq ?_
  refine T.region ?_
  refine Run.go (Ev.assign rfl rfl) ?_
  refine Run.nil ?_
  refine T.seq ?_
  refine T.region ?_
  obtain ⟨x1, e2, h⟩ := bdS h
  refine Run.go (Ev.callC en86 (k_triviumref17_Keywords e2) rfl .nil rfl rfl) ?_
  refine Run.go (Ev.assign rfl rfl) ?_
  refine Run.nil ?_
  refine T.seq ?_
  refine T.seq ?_
  refine T.region ?_
  refine Run.go (Ev.assign rfl rfl) ?_
  refine Run.nil ?_
  refine T.block ?_
  refine T.loop (LoopT.ghost (Ghost.only [] [0, 3, 4] rfl) (LoopT.run (fun q : Int => (⟨[(0, .v .str p0), (3, .v (.sl .str) x1), (4, .v (.int .i64) q)], [], 18⟩ : St)) (fun v3 z1 h hz1 => ?_) h))
  rw [m_triviumref17_Keyword_l1] at h
  refine T.seq ?_
  refine T.seq ?_
  refine T.region ?_
  refine Run.go (Ev.move rfl rfl) ?_
  refine Run.go (Ev.move rfl rfl) ?_
  refine Run.go (Ev.len X rfl rfl rfl rfl) ?_
  refine Run.go (Ev.int rfl rfl rfl rfl trivial) ?_
  refine Run.nil ?_
  refine T.cond rfl (fun hb4 => ?_) (fun hb4 => ?_)
  · replace h := ifT hb4 h
    refine T.skip ?_
    refine T.seq ?_
    refine T.block ?_
    refine T.seq ?_
    refine T.region ?_
    refine Run.go (Ev.move rfl rfl) ?_
    refine Run.go (Ev.move rfl rfl) ?_
    obtain ⟨x5, e6, h⟩ := bdS h
    refine Run.go (Ev.e_rd X e6 rfl rfl rfl rfl) ?_
    refine Run.go (Ev.load X rfl rfl rfl) ?_
    refine Run.go (Ev.move rfl rfl) ?_
    refine Run.go (Ev.strs rfl rfl rfl rfl trivial) ?_
    refine Run.nil ?_
    refine T.cond rfl (fun hb7 => ?_) (fun hb7 => ?_)
    · replace h := ifT hb7 h
      refine T.seq ?_
      refine T.region ?_
      refine Run.go (Ev.assign rfl rfl) ?_
      refine Run.nil ?_
      refine T.ret ?_
      cases h
      cases hz1
      exact Fin.one rfl .v
    · replace h := ifF hb7 h
      refine T.skip ?_
      refine T.region ?_
      refine Run.go (Ev.move rfl rfl) ?_
      refine Run.go (Ev.int rfl rfl rfl rfl trivial) ?_
      refine Run.go (Ev.assign rfl rfl) ?_
      refine Run.nil ?_
      cases h
      exact LoopT.ghost (Ghost.only [] [0, 3, 4] rfl) hz1
  · replace h := ifF hb4 h
    refine T.exit ?_
    refine T.seq ?_
    refine T.region ?_
    refine Run.go (Ev.assign rfl rfl) ?_
    refine Run.nil ?_
    refine T.ret ?_
    cases h
    cases hz1
    exact Fin.one rfl .v
theorem k_triviumref19_Reader_Name_M {o1_0 : (List D_lex_Token)} {o1_1 : Int} {o1_2 : Int} {y : ByteArray × Bool × Int} (h : m_triviumref19_Reader_Name_M o1_0 o1_1 o1_2 = some y) : SpecM Tryz.prog 50 [(.box 1 0)] [(1, .box [.v (.sl Y_lex_Token) o1_0, .v (.int .i64) o1_1, .v (.int .i64) o1_2])] (.tup [.v .str y.1, .v .bool y.2.1]) [(1, .box [.v (.sl Y_lex_Token) o1_0, .v (.int .i64) y.2.2, .v (.int .i64) o1_2])] := by
  rw [m_triviumref19_Reader_Name_M] at h
  refine SpecM.enter 100000 [(.box 1 0)] 62 Tryz.func50 rfl rfl rfl rfl (fun L => ?_)
  refine T.seq ?_
  refine T.region ?_
  refine Run.go (Ev.assign rfl rfl) ?_
  refine Run.go (Ev.assign rfl rfl) ?_
  refine Run.nil ?_
  refine T.seq ?_
  obtain ⟨v1, hv, h⟩ := bdS h
  refine T.cut (fun _ : Unit => (⟨[(0, .box 1 0), (42, .v .bool v1)], [(1, .box [.v (.sl Y_lex_Token) o1_0, .v (.int .i64) o1_1, .v (.int .i64) o1_2]), (100001, .place 1 (L 1).1 (L 1).2)], 62⟩ : St)) (fun _ => True) ?_ (fun _ _ => ?_)
  · replace h := hv
    clear hv
    refine T.drawE [([1], []), ([1], []), ([1], []), ([1], []), ([1], []), ([1], []), ([1], []), ([1], []), ([], []), ([], []), ([], []), ([1], []), ([1], []), ([1], []), ([1], []), ([1], []), ([1], []), ([1], []), ([1], []), ([], []), ([], []), ([], []), ([], []), ([], []), ([], []), ([1], []), ([1], []), ([1], []), ([1], []), ([1], []), ([1], []), ([1], []), ([1], []), ([], []), ([], []), ([], []), ([], []), ([], []), ([], [])] [0, 1, 3, 7, 0, 16, 48, 112, 240, 511, 1023, 2047, 4095, 8191, 16383, 2047, 34815, 100351, 231423, 524287, 1048575, 2097151, 4194303, 8388607, 16777215, 33554431, 67108863, 134217727, 268435455, 33554431, 570425343, 1644167167, 3791650815, 8589934591, 17179869183, 34359738367, 68719476735, 137438953471, 274877906943] (by kernel_rfl) (by kernel_rfl) ?_
    refine RunE.go0 [1] (fun ô hô => Ev.move rfl rfl) rfl rfl ?_
    refine RunE.go0 [1] (fun ô hô => Ev.e_nc rfl (one_box (ka hô rfl rfl)) rfl rfl) rfl rfl ?_
    refine RunE.go0 [1] (fun ô hô => Ev.fieldBox X rfl (ka hô rfl rfl) rfl rfl rfl) rfl rfl ?_
    refine RunE.go0 [1] (fun ô hô => Ev.loadCell X rfl (ka hô rfl rfl) rfl rfl rfl rfl) rfl rfl ?_
    refine RunE.go0 [1] (fun ô hô => Ev.move rfl rfl) rfl rfl ?_
    refine RunE.go0 [1] (fun ô hô => Ev.e_nc rfl (one_box (ka hô rfl rfl)) rfl rfl) rfl rfl ?_
    refine RunE.go0 [1] (fun ô hô => Ev.fieldBox X rfl (ka hô rfl rfl) rfl rfl rfl) rfl rfl ?_
    refine RunE.go0 [1] (fun ô hô => Ev.loadCell X rfl (ka hô rfl rfl) rfl rfl rfl rfl) rfl rfl ?_
    refine RunE.go0 [] (fun ô hô => Ev.len X rfl rfl rfl rfl) rfl rfl ?_
    refine RunE.go0 [] (fun ô hô => Ev.int rfl rfl rfl rfl trivial) rfl rfl ?_
    refine RunE.go0 [] (fun ô hô => Ev.move rfl rfl) rfl rfl ?_
    rcases boolCases (decide (o1_1 < (o1_0.length : Int))) with hb2 | hb2
    · replace h := ifT hb2 h
      refine RunE.on0 [1] rfl rfl rfl hb2 (fun ô hô => Ev.move rfl rfl) rfl rfl ?_
      refine RunE.on0 [1] rfl rfl rfl hb2 (fun ô hô => Ev.e_nc rfl (one_box (ka hô rfl rfl)) rfl rfl) rfl rfl ?_
      refine RunE.on0 [1] rfl rfl rfl hb2 (fun ô hô => Ev.fieldBox X rfl (ka hô rfl rfl) rfl rfl rfl) rfl rfl ?_
      refine RunE.on0 [1] rfl rfl rfl hb2 (fun ô hô => Ev.loadCell X rfl (ka hô rfl rfl) rfl rfl rfl rfl) rfl rfl ?_
      refine RunE.on0 [1] rfl rfl rfl hb2 (fun ô hô => Ev.move rfl rfl) rfl rfl ?_
      refine RunE.on0 [1] rfl rfl rfl hb2 (fun ô hô => Ev.e_nc rfl (one_box (ka hô rfl rfl)) rfl rfl) rfl rfl ?_
      refine RunE.on0 [1] rfl rfl rfl hb2 (fun ô hô => Ev.fieldBox X rfl (ka hô rfl rfl) rfl rfl rfl) rfl rfl ?_
      refine RunE.on0 [1] rfl rfl rfl hb2 (fun ô hô => Ev.loadCell X rfl (ka hô rfl rfl) rfl rfl rfl rfl) rfl rfl ?_
      obtain ⟨x3, e4, h⟩ := bdS h
      refine RunE.on0 [] rfl rfl rfl hb2 (fun ô hô => Ev.e_rd X e4 rfl rfl rfl rfl) rfl rfl ?_
      refine RunE.on0 [] rfl rfl rfl hb2 (fun ô hô => Ev.fieldAddr X rfl rfl rfl rfl) rfl rfl ?_
      refine RunE.on0 [] rfl rfl rfl hb2 (fun ô hô => Ev.load X rfl rfl rfl) rfl rfl ?_
      refine RunE.on0 [] rfl rfl rfl hb2 (fun ô hô => Ev.int rfl rfl rfl rfl trivial) rfl rfl ?_
      refine RunE.go0 [] (fun ô hô => Ev.pickT rfl hb2 rfl rfl) rfl rfl ?_
      refine RunE.go0 [] (fun ô hô => Ev.move rfl rfl) rfl rfl ?_
      rcases boolCases (decide (x3.1 = 1)) with hb5 | hb5
      · replace h := ifT hb5 h
        refine RunE.on0 [1] rfl rfl rfl hb5 (fun ô hô => Ev.move rfl rfl) rfl rfl ?_
        refine RunE.on0 [1] rfl rfl rfl hb5 (fun ô hô => Ev.e_nc rfl (one_box (ka hô rfl rfl)) rfl rfl) rfl rfl ?_
        refine RunE.on0 [1] rfl rfl rfl hb5 (fun ô hô => Ev.fieldBox X rfl (ka hô rfl rfl) rfl rfl rfl) rfl rfl ?_
        refine RunE.on0 [1] rfl rfl rfl hb5 (fun ô hô => Ev.loadCell X rfl (ka hô rfl rfl) rfl rfl rfl rfl) rfl rfl ?_
        refine RunE.on0 [1] rfl rfl rfl hb5 (fun ô hô => Ev.move rfl rfl) rfl rfl ?_
        refine RunE.on0 [1] rfl rfl rfl hb5 (fun ô hô => Ev.e_nc rfl (one_box (ka hô rfl rfl)) rfl rfl) rfl rfl ?_
        refine RunE.on0 [1] rfl rfl rfl hb5 (fun ô hô => Ev.fieldBox X rfl (ka hô rfl rfl) rfl rfl rfl) rfl rfl ?_
        refine RunE.on0 [1] rfl rfl rfl hb5 (fun ô hô => Ev.loadCell X rfl (ka hô rfl rfl) rfl rfl rfl rfl) rfl rfl ?_
        obtain ⟨x6, e7, h⟩ := bdS h
        refine RunE.on0 [] rfl rfl rfl hb5 (fun ô hô => Ev.e_rd X e7 rfl rfl rfl rfl) rfl rfl ?_
        refine RunE.on0 [] rfl rfl rfl hb5 (fun ô hô => Ev.fieldAddr X rfl rfl rfl rfl) rfl rfl ?_
        refine RunE.on0 [] rfl rfl rfl hb5 (fun ô hô => Ev.load X rfl rfl rfl) rfl rfl ?_
        obtain ⟨x8, e9, h⟩ := bdS h
        refine RunE.on0 [] rfl rfl rfl hb5 (fun ô hô => Ev.callC en70 (k_triviumref17_Keyword e9) rfl (.cons .v .nil) rfl rfl) rfl rfl ?_
        refine RunE.on0 [] rfl rfl rfl hb5 (fun ô hô => Ev.not rfl rfl) rfl rfl ?_
        refine RunE.go0 [] (fun ô hô => Ev.pickT rfl hb5 rfl rfl) rfl rfl ?_
        refine RunE.nil ?_
        cases h
        exact ⟨(), trivial, Ghost.only [(1, 1), (100001, 100001)] [0, 42] rfl⟩
      · replace h := ifF hb5 h
        refine RunE.off rfl rfl rfl rfl hb5 rfl ?_
        refine RunE.off rfl rfl rfl rfl hb5 rfl ?_
        refine RunE.off rfl rfl rfl rfl hb5 rfl ?_
        refine RunE.off rfl rfl rfl rfl hb5 rfl ?_
        refine RunE.off rfl rfl rfl rfl hb5 rfl ?_
        refine RunE.off rfl rfl rfl rfl hb5 rfl ?_
        refine RunE.off rfl rfl rfl rfl hb5 rfl ?_
        refine RunE.off rfl rfl rfl rfl hb5 rfl ?_
        refine RunE.off rfl rfl rfl rfl hb5 rfl ?_
        refine RunE.off rfl rfl rfl rfl hb5 rfl ?_
        refine RunE.off rfl rfl rfl rfl hb5 rfl ?_
        refine RunE.off rfl rfl rfl rfl hb5 rfl ?_
        refine RunE.off rfl rfl rfl rfl hb5 rfl ?_
        refine RunE.go0 [] (fun ô hô => Ev.pickF rfl hb5 rfl rfl) rfl rfl ?_
        refine RunE.nil ?_
        cases h
        exact ⟨(), trivial, Ghost.only [(1, 1), (100001, 100001)] [0, 42] rfl⟩
    · replace h := ifF hb2 h
      refine RunE.off rfl rfl rfl rfl hb2 rfl ?_
      refine RunE.off rfl rfl rfl rfl hb2 rfl ?_
      refine RunE.off rfl rfl rfl rfl hb2 rfl ?_
      refine RunE.off rfl rfl rfl rfl hb2 rfl ?_
      refine RunE.off rfl rfl rfl rfl hb2 rfl ?_
      refine RunE.off rfl rfl rfl rfl hb2 rfl ?_
      refine RunE.off rfl rfl rfl rfl hb2 rfl ?_
      refine RunE.off rfl rfl rfl rfl hb2 rfl ?_
      refine RunE.off rfl rfl rfl rfl hb2 rfl ?_
      refine RunE.off rfl rfl rfl rfl hb2 rfl ?_
      refine RunE.off rfl rfl rfl rfl hb2 rfl ?_
      refine RunE.off rfl rfl rfl rfl hb2 rfl ?_
      refine RunE.go0 [] (fun ô hô => Ev.pickF rfl hb2 rfl rfl) rfl rfl ?_
      refine RunE.go0 [] (fun ô hô => Ev.move rfl rfl) rfl rfl ?_
      refine RunE.off rfl rfl rfl rfl rfl rfl ?_
      refine RunE.off rfl rfl rfl rfl rfl rfl ?_
      refine RunE.off rfl rfl rfl rfl rfl rfl ?_
      refine RunE.off rfl rfl rfl rfl rfl rfl ?_
      refine RunE.off rfl rfl rfl rfl rfl rfl ?_
      refine RunE.off rfl rfl rfl rfl rfl rfl ?_
      refine RunE.off rfl rfl rfl rfl rfl rfl ?_
      refine RunE.off rfl rfl rfl rfl rfl rfl ?_
      refine RunE.off rfl rfl rfl rfl rfl rfl ?_
      refine RunE.off rfl rfl rfl rfl rfl rfl ?_
      refine RunE.off rfl rfl rfl rfl rfl rfl ?_
      refine RunE.off rfl rfl rfl rfl rfl rfl ?_
      refine RunE.off rfl rfl rfl rfl rfl rfl ?_
      refine RunE.go0 [] (fun ô hô => Ev.pickF rfl rfl rfl rfl) rfl rfl ?_
      refine RunE.nil ?_
      cases h
      exact ⟨(), trivial, Ghost.only [(1, 1), (100001, 100001)] [0, 42] rfl⟩
  · refine T.cond rfl (fun hb10 => ?_) (fun hb10 => ?_)
    · replace h := ifT hb10 h
      refine T.seq ?_
      refine T.region ?_
      refine Run.go (Ev.move rfl rfl) ?_
      refine Run.go (Ev.e_nc rfl rfl rfl rfl) ?_
      refine Run.go (Ev.fieldBox X rfl rfl rfl rfl rfl) ?_
      refine Run.go (Ev.loadCell X rfl rfl rfl rfl rfl rfl) ?_
      refine Run.go (Ev.int rfl rfl rfl rfl trivial) ?_
      refine Run.go (Ev.e_nc rfl rfl rfl rfl) ?_
      refine Run.go (Ev.fieldBox X rfl rfl rfl rfl rfl) ?_
      refine Run.do_ (Ev.storeBox X rfl rfl rfl rfl rfl rfl rfl) ?_
      refine Run.nil ?_
      refine T.seq ?_
      refine T.drawE [([1], []), ([1], []), ([1], []), ([1], []), ([1], []), ([1], []), ([1], []), ([1], []), ([], []), ([], []), ([], []), ([], []), ([], []), ([], [])] [0, 1, 3, 7, 0, 16, 48, 112, 240, 511, 1023, 2047, 4095, 8191] (by kernel_rfl) (by kernel_rfl) ?_
      refine RunE.go0 [1] (fun ô hô => Ev.move rfl rfl) rfl rfl ?_
      refine RunE.go0 [1] (fun ô hô => Ev.e_nc rfl (one_box (ka hô rfl rfl)) rfl rfl) rfl rfl ?_
      refine RunE.go0 [1] (fun ô hô => Ev.fieldBox X rfl (ka hô rfl rfl) rfl rfl rfl) rfl rfl ?_
      refine RunE.go0 [1] (fun ô hô => Ev.loadCell X rfl (ka hô rfl rfl) rfl rfl rfl rfl) rfl rfl ?_
      refine RunE.go0 [1] (fun ô hô => Ev.move rfl rfl) rfl rfl ?_
      refine RunE.go0 [1] (fun ô hô => Ev.e_nc rfl (one_box (ka hô rfl rfl)) rfl rfl) rfl rfl ?_
      refine RunE.go0 [1] (fun ô hô => Ev.fieldBox X rfl (ka hô rfl rfl) rfl rfl rfl) rfl rfl ?_
      refine RunE.go0 [1] (fun ô hô => Ev.loadCell X rfl (ka hô rfl rfl) rfl rfl rfl rfl) rfl rfl ?_
      refine RunE.go0 [] (fun ô hô => Ev.int rfl rfl rfl rfl trivial) rfl rfl ?_
      obtain ⟨x11, e12, h⟩ := bdS h
      refine RunE.go0 [] (fun ô hô => Ev.e_rd X e12 rfl rfl rfl rfl) rfl rfl ?_
      refine RunE.go0 [] (fun ô hô => Ev.fieldAddr X rfl rfl rfl rfl) rfl rfl ?_
      refine RunE.go0 [] (fun ô hô => Ev.load X rfl rfl rfl) rfl rfl ?_
      refine RunE.go0 [] (fun ô hô => Ev.assign rfl rfl) rfl rfl ?_
      refine RunE.go0 [] (fun ô hô => Ev.assign rfl rfl) rfl rfl ?_
      refine RunE.nil ?_
      refine T.ret ?_
      cases h
      exact FinM.of 100000 [(1, 1)] (inlR.many' (X := X) rfl (.cons (.tmp rfl) (.cons (.tmp rfl) .nil)) rfl) rfl rfl rfl rfl ⟨(.inl ⟨rfl, _, rfl, .box, fun _ => rfl⟩), trivial⟩
    · replace h := ifF hb10 h
      refine T.skip ?_
      refine T.seq ?_
      refine T.region ?_
      refine Run.go (Ev.assign rfl rfl) ?_
      refine Run.go (Ev.assign rfl rfl) ?_
      refine Run.nil ?_
      refine T.ret ?_
      cases h
      exact FinM.of 100000 [(1, 1)] (inlR.many' (X := X) rfl (.cons (.tmp rfl) (.cons (.tmp rfl) .nil)) rfl) rfl rfl rfl rfl ⟨(.inl ⟨rfl, _, rfl, .box, fun _ => rfl⟩), trivial⟩
end Go.Proofs.YtboghejfmmigkaaGreatDoor.AE
/- The code comes to the printed functions (printed by a program of ours). -/
namespace Go.Proofs.YtboghejfmmigkaaGreatDoor.AE
open Go Go.RowKit Go.Proofs.YtboghejfmmigkaaGreatDoor.AP
set_option linter.unusedVariables false
set_option maxRecDepth 20000
theorem k_triviumref20_Reader_Ident_M {o1_1 : Int} {o1_2 : Int} {o1_3 : Int} {o2_0 : (List D_lex_Token)} {o2_1 : Int} {o2_2 : Int} {y : ByteArray × Int × Int × Int} (h : m_triviumref20_Reader_Ident_M o1_1 o1_2 o1_3 o2_0 o2_1 o2_2 = some y) : SpecM Tryz.prog 29 [(.box 1 0)] [(1, .box [.box 2 0, .v (.int .i64) o1_1, .v (.int .i64) o1_2, .v (.int .i64) o1_3]), (2, .box [.v (.sl Y_lex_Token) o2_0, .v (.int .i64) o2_1, .v (.int .i64) o2_2])] (.v .str y.1) [(1, .box [.box 2 0, .v (.int .i64) y.2.1, .v (.int .i64) y.2.2.1, .v (.int .i64) o1_3]), (2, .box [.v (.sl Y_lex_Token) o2_0, .v (.int .i64) y.2.2.2, .v (.int .i64) o2_2])] := by
  rw [m_triviumref20_Reader_Ident_M] at h
  refine SpecM.enter 100000 [(.box 1 0)] 23 Tryz.func29 rfl rfl rfl rfl (fun L => ?_)
  refine T.seq ?_
  refine T.region ?_
  refine Run.go (Ev.assign rfl rfl) ?_
  refine Run.nil ?_
  refine T.seq ?_
  refine T.seq ?_
  refine T.region ?_
  refine Run.go (Ev.move rfl rfl) ?_
  refine Run.go (Ev.e_nc rfl rfl rfl rfl) ?_
  refine Run.go (Ev.fieldBoxN fo46_1 sz3 rfl rfl rfl rfl) ?_
  refine Run.go (Ev.loadCell X rfl rfl rfl rfl rfl rfl) ?_
  refine Run.go (Ev.int rfl rfl rfl rfl trivial) ?_
  refine Run.nil ?_
  refine T.cond rfl (fun hb1 => ?_) (fun hb1 => ?_)
  · replace h := ifT hb1 h
    refine T.seq ?_
    refine T.region ?_
    refine Run.go (Ev.assign rfl rfl) ?_
    refine Run.nil ?_
    refine T.ret ?_
    cases h
    exact FinM.of 100000 [(1, 1), (2, 2)] (inlR.one' (X := X) rfl (.tmp rfl)) rfl rfl rfl rfl ⟨(.inl ⟨rfl, _, rfl, .box, fun _ => rfl⟩), (.inl ⟨rfl, _, rfl, .box, fun _ => rfl⟩), trivial⟩
  · replace h := ifF hb1 h
    refine T.skip ?_
    refine T.seq ?_
    refine T.region ?_
    refine Run.go (Ev.move rfl rfl) ?_
    refine Run.go (Ev.e_nc rfl rfl rfl rfl) ?_
    refine Run.go (Ev.fieldBoxN fo46_0 sz44 rfl rfl rfl rfl) ?_
    refine Run.go (Ev.loadOne sz44 rfl rfl rfl rfl) ?_
    obtain ⟨x3, e2, h⟩ := bdS h
    refine Run.go (Ev.w1 (Ev.lendM [(2, 1)] [(1, 2)] en50 (k_triviumref19_Reader_Name_M e2) rfl (.cons (.ren rfl) .nil) rfl rfl rfl rfl rfl (A := .tup [.v .str x3.1, .v .bool x3.2.1]) rfl (W := [(2, .box [.v (.sl Y_lex_Token) o2_0, .v (.int .i64) x3.2.2, .v (.int .i64) o2_2])]) rfl rfl)) ?_
    refine Run.go (Ev.move rfl rfl) ?_
    refine Run.go (Ev.extract rfl rfl rfl) ?_
    refine Run.go (Ev.extract rfl rfl rfl) ?_
    refine Run.go (Ev.assign rfl rfl) ?_
    refine Run.go (Ev.assign rfl rfl) ?_
    refine Run.nil ?_
    obtain ⟨⟨v4, v5⟩, hv, h⟩ := bdS h
    refine T.cut (fun _ : Unit => (⟨[(3, .v .str x3.1)], [(1, .box [.box 2 0, .v (.int .i64) v4, .v (.int .i64) v5, .v (.int .i64) o1_3]), (2, .box [.v (.sl Y_lex_Token) o2_0, .v (.int .i64) x3.2.2, .v (.int .i64) o2_2]), (100001, .place 1 (L 1).1 (L 1).2), (100002, .place 2 (L 2).1 (L 2).2)], 23⟩ : St)) (fun _ => True) ?_ (fun _ _ => ?_)
    · replace h := hv
      clear hv
      refine T.seq ?_
      refine T.region ?_
      refine Run.go (Ev.move rfl rfl) ?_
      refine Run.go (Ev.not rfl rfl) ?_
      refine Run.nil ?_
      refine T.cond rfl (fun hb6 => ?_) (fun hb6 => ?_)
      · replace h := ifT hb6 h
        refine T.region ?_
        refine Run.go (Ev.move rfl rfl) ?_
        obtain ⟨x8, e7, h⟩ := bdS h
        refine Run.go (Ev.w2 (Ev.lendM [(1, 1), (2, 2)] [(1, 1), (2, 2)] en28 (k_triviumref20_Reader_Fail_M e7) rfl (.cons (.ren rfl) .nil) rfl rfl rfl rfl rfl (A := .tup []) rfl (W := [(1, .box [.box 2 0, .v (.int .i64) x8.1, .v (.int .i64) x8.2, .v (.int .i64) o1_3]), (2, .box [.v (.sl Y_lex_Token) o2_0, .v (.int .i64) x3.2.2, .v (.int .i64) o2_2])]) rfl rfl)) ?_
        refine Run.nil ?_
        cases h
        exact ⟨(), trivial, Ghost.only [(1, 1), (2, 2), (100001, 100001), (100002, 100002)] [3] rfl⟩
      · replace h := ifF hb6 h
        refine T.skip ?_
        cases h
        exact ⟨(), trivial, Ghost.only [(1, 1), (2, 2), (100001, 100001), (100002, 100002)] [3] rfl⟩
    · refine T.seq ?_
      refine T.region ?_
      refine Run.go (Ev.move rfl rfl) ?_
      refine Run.go (Ev.assign rfl rfl) ?_
      refine Run.nil ?_
      refine T.ret ?_
      cases h
      exact FinM.of 100000 [(1, 1), (2, 2)] (inlR.one' (X := X) rfl (.tmp rfl)) rfl rfl rfl rfl ⟨(.inl ⟨rfl, _, rfl, .box, fun _ => rfl⟩), (.inl ⟨rfl, _, rfl, .box, fun _ => rfl⟩), trivial⟩
theorem k_triviumref19_Reader_Figure_M {o1_0 : (List D_lex_Token)} {o1_1 : Int} {o1_2 : Int} {y : ByteArray × Bool × Int} (h : m_triviumref19_Reader_Figure_M o1_0 o1_1 o1_2 = some y) : SpecM Tryz.prog 51 [(.box 1 0)] [(1, .box [.v (.sl Y_lex_Token) o1_0, .v (.int .i64) o1_1, .v (.int .i64) o1_2])] (.tup [.v .str y.1, .v .bool y.2.1]) [(1, .box [.v (.sl Y_lex_Token) o1_0, .v (.int .i64) y.2.2, .v (.int .i64) o1_2])] := by
  rw [m_triviumref19_Reader_Figure_M] at h
  refine SpecM.enter 100000 [(.box 1 0)] 47 Tryz.func51 rfl rfl rfl rfl (fun L => ?_)
  refine T.seq ?_
  refine T.region ?_
  refine Run.go (Ev.assign rfl rfl) ?_
  refine Run.go (Ev.assign rfl rfl) ?_
  refine Run.nil ?_
  refine T.seq ?_
  obtain ⟨v1, hv, h⟩ := bdS h
  refine T.cut (fun _ : Unit => (⟨[(0, .box 1 0), (27, .v .bool v1)], [(1, .box [.v (.sl Y_lex_Token) o1_0, .v (.int .i64) o1_1, .v (.int .i64) o1_2]), (100001, .place 1 (L 1).1 (L 1).2)], 47⟩ : St)) (fun _ => True) ?_ (fun _ _ => ?_)
  · replace h := hv
    clear hv
    refine T.drawE [([1], []), ([1], []), ([1], []), ([1], []), ([1], []), ([1], []), ([1], []), ([1], []), ([], []), ([], []), ([], []), ([1], []), ([1], []), ([1], []), ([1], []), ([1], []), ([1], []), ([1], []), ([1], []), ([], []), ([], []), ([], []), ([], []), ([], [])] [0, 1, 3, 7, 0, 16, 48, 112, 240, 511, 1023, 2047, 4095, 8191, 16383, 2047, 34815, 100351, 231423, 524287, 1048575, 2097151, 4194303, 8388607] (by kernel_rfl) (by kernel_rfl) ?_
    refine RunE.go0 [1] (fun ô hô => Ev.move rfl rfl) rfl rfl ?_
    refine RunE.go0 [1] (fun ô hô => Ev.e_nc rfl (one_box (ka hô rfl rfl)) rfl rfl) rfl rfl ?_
    refine RunE.go0 [1] (fun ô hô => Ev.fieldBox X rfl (ka hô rfl rfl) rfl rfl rfl) rfl rfl ?_
    refine RunE.go0 [1] (fun ô hô => Ev.loadCell X rfl (ka hô rfl rfl) rfl rfl rfl rfl) rfl rfl ?_
    refine RunE.go0 [1] (fun ô hô => Ev.move rfl rfl) rfl rfl ?_
    refine RunE.go0 [1] (fun ô hô => Ev.e_nc rfl (one_box (ka hô rfl rfl)) rfl rfl) rfl rfl ?_
    refine RunE.go0 [1] (fun ô hô => Ev.fieldBox X rfl (ka hô rfl rfl) rfl rfl rfl) rfl rfl ?_
    refine RunE.go0 [1] (fun ô hô => Ev.loadCell X rfl (ka hô rfl rfl) rfl rfl rfl rfl) rfl rfl ?_
    refine RunE.go0 [] (fun ô hô => Ev.len X rfl rfl rfl rfl) rfl rfl ?_
    refine RunE.go0 [] (fun ô hô => Ev.int rfl rfl rfl rfl trivial) rfl rfl ?_
    refine RunE.go0 [] (fun ô hô => Ev.move rfl rfl) rfl rfl ?_
    rcases boolCases (decide (o1_1 < (o1_0.length : Int))) with hb2 | hb2
    · replace h := ifT hb2 h
      refine RunE.on0 [1] rfl rfl rfl hb2 (fun ô hô => Ev.move rfl rfl) rfl rfl ?_
      refine RunE.on0 [1] rfl rfl rfl hb2 (fun ô hô => Ev.e_nc rfl (one_box (ka hô rfl rfl)) rfl rfl) rfl rfl ?_
      refine RunE.on0 [1] rfl rfl rfl hb2 (fun ô hô => Ev.fieldBox X rfl (ka hô rfl rfl) rfl rfl rfl) rfl rfl ?_
      refine RunE.on0 [1] rfl rfl rfl hb2 (fun ô hô => Ev.loadCell X rfl (ka hô rfl rfl) rfl rfl rfl rfl) rfl rfl ?_
      refine RunE.on0 [1] rfl rfl rfl hb2 (fun ô hô => Ev.move rfl rfl) rfl rfl ?_
      refine RunE.on0 [1] rfl rfl rfl hb2 (fun ô hô => Ev.e_nc rfl (one_box (ka hô rfl rfl)) rfl rfl) rfl rfl ?_
      refine RunE.on0 [1] rfl rfl rfl hb2 (fun ô hô => Ev.fieldBox X rfl (ka hô rfl rfl) rfl rfl rfl) rfl rfl ?_
      refine RunE.on0 [1] rfl rfl rfl hb2 (fun ô hô => Ev.loadCell X rfl (ka hô rfl rfl) rfl rfl rfl rfl) rfl rfl ?_
      obtain ⟨x3, e4, h⟩ := bdS h
      refine RunE.on0 [] rfl rfl rfl hb2 (fun ô hô => Ev.e_rd X e4 rfl rfl rfl rfl) rfl rfl ?_
      refine RunE.on0 [] rfl rfl rfl hb2 (fun ô hô => Ev.fieldAddr X rfl rfl rfl rfl) rfl rfl ?_
      refine RunE.on0 [] rfl rfl rfl hb2 (fun ô hô => Ev.load X rfl rfl rfl) rfl rfl ?_
      refine RunE.on0 [] rfl rfl rfl hb2 (fun ô hô => Ev.int rfl rfl rfl rfl trivial) rfl rfl ?_
      refine RunE.go0 [] (fun ô hô => Ev.pickT rfl hb2 rfl rfl) rfl rfl ?_
      refine RunE.nil ?_
      cases h
      exact ⟨(), trivial, Ghost.only [(1, 1), (100001, 100001)] [0, 27] rfl⟩
    · replace h := ifF hb2 h
      refine RunE.off rfl rfl rfl rfl hb2 rfl ?_
      refine RunE.off rfl rfl rfl rfl hb2 rfl ?_
      refine RunE.off rfl rfl rfl rfl hb2 rfl ?_
      refine RunE.off rfl rfl rfl rfl hb2 rfl ?_
      refine RunE.off rfl rfl rfl rfl hb2 rfl ?_
      refine RunE.off rfl rfl rfl rfl hb2 rfl ?_
      refine RunE.off rfl rfl rfl rfl hb2 rfl ?_
      refine RunE.off rfl rfl rfl rfl hb2 rfl ?_
      refine RunE.off rfl rfl rfl rfl hb2 rfl ?_
      refine RunE.off rfl rfl rfl rfl hb2 rfl ?_
      refine RunE.off rfl rfl rfl rfl hb2 rfl ?_
      refine RunE.off rfl rfl rfl rfl hb2 rfl ?_
      refine RunE.go0 [] (fun ô hô => Ev.pickF rfl hb2 rfl rfl) rfl rfl ?_
      refine RunE.nil ?_
      cases h
      exact ⟨(), trivial, Ghost.only [(1, 1), (100001, 100001)] [0, 27] rfl⟩
  · refine T.cond rfl (fun hb5 => ?_) (fun hb5 => ?_)
    · replace h := ifT hb5 h
      refine T.seq ?_
      refine T.region ?_
      refine Run.go (Ev.move rfl rfl) ?_
      refine Run.go (Ev.e_nc rfl rfl rfl rfl) ?_
      refine Run.go (Ev.fieldBox X rfl rfl rfl rfl rfl) ?_
      refine Run.go (Ev.loadCell X rfl rfl rfl rfl rfl rfl) ?_
      refine Run.go (Ev.int rfl rfl rfl rfl trivial) ?_
      refine Run.go (Ev.e_nc rfl rfl rfl rfl) ?_
      refine Run.go (Ev.fieldBox X rfl rfl rfl rfl rfl) ?_
      refine Run.do_ (Ev.storeBox X rfl rfl rfl rfl rfl rfl rfl) ?_
      refine Run.nil ?_
      refine T.seq ?_
      refine T.drawE [([1], []), ([1], []), ([1], []), ([1], []), ([1], []), ([1], []), ([1], []), ([1], []), ([], []), ([], []), ([], []), ([], []), ([], []), ([], [])] [0, 1, 3, 7, 0, 16, 48, 112, 240, 511, 1023, 2047, 4095, 8191] (by kernel_rfl) (by kernel_rfl) ?_
      refine RunE.go0 [1] (fun ô hô => Ev.move rfl rfl) rfl rfl ?_
      refine RunE.go0 [1] (fun ô hô => Ev.e_nc rfl (one_box (ka hô rfl rfl)) rfl rfl) rfl rfl ?_
      refine RunE.go0 [1] (fun ô hô => Ev.fieldBox X rfl (ka hô rfl rfl) rfl rfl rfl) rfl rfl ?_
      refine RunE.go0 [1] (fun ô hô => Ev.loadCell X rfl (ka hô rfl rfl) rfl rfl rfl rfl) rfl rfl ?_
      refine RunE.go0 [1] (fun ô hô => Ev.move rfl rfl) rfl rfl ?_
      refine RunE.go0 [1] (fun ô hô => Ev.e_nc rfl (one_box (ka hô rfl rfl)) rfl rfl) rfl rfl ?_
      refine RunE.go0 [1] (fun ô hô => Ev.fieldBox X rfl (ka hô rfl rfl) rfl rfl rfl) rfl rfl ?_
      refine RunE.go0 [1] (fun ô hô => Ev.loadCell X rfl (ka hô rfl rfl) rfl rfl rfl rfl) rfl rfl ?_
      refine RunE.go0 [] (fun ô hô => Ev.int rfl rfl rfl rfl trivial) rfl rfl ?_
      obtain ⟨x6, e7, h⟩ := bdS h
      refine RunE.go0 [] (fun ô hô => Ev.e_rd X e7 rfl rfl rfl rfl) rfl rfl ?_
      refine RunE.go0 [] (fun ô hô => Ev.fieldAddr X rfl rfl rfl rfl) rfl rfl ?_
      refine RunE.go0 [] (fun ô hô => Ev.load X rfl rfl rfl) rfl rfl ?_
      refine RunE.go0 [] (fun ô hô => Ev.assign rfl rfl) rfl rfl ?_
      refine RunE.go0 [] (fun ô hô => Ev.assign rfl rfl) rfl rfl ?_
      refine RunE.nil ?_
      refine T.ret ?_
      cases h
      exact FinM.of 100000 [(1, 1)] (inlR.many' (X := X) rfl (.cons (.tmp rfl) (.cons (.tmp rfl) .nil)) rfl) rfl rfl rfl rfl ⟨(.inl ⟨rfl, _, rfl, .box, fun _ => rfl⟩), trivial⟩
    · replace h := ifF hb5 h
      refine T.skip ?_
      refine T.seq ?_
      refine T.region ?_
      refine Run.go (Ev.assign rfl rfl) ?_
      refine Run.go (Ev.assign rfl rfl) ?_
      refine Run.nil ?_
      refine T.ret ?_
      cases h
      exact FinM.of 100000 [(1, 1)] (inlR.many' (X := X) rfl (.cons (.tmp rfl) (.cons (.tmp rfl) .nil)) rfl) rfl rfl rfl rfl ⟨(.inl ⟨rfl, _, rfl, .box, fun _ => rfl⟩), trivial⟩
theorem en71 : Enters Tryz.prog 71 := ⟨_, Tryz.func71, rfl, rfl⟩
set_option maxHeartbeats 1000000 in
theorem k_triviumbase_Split {p0 : ByteArray} {p1 : Int} {y : (List ByteArray)} (h : m_triviumbase_Split p0 p1 = some y) : Spec Tryz.prog 71 [(.v .str p0), (.v (.int .u8) p1)] (.v (.sl .str) y) [] := by
  rw [m_triviumbase_Split] at h
  refine enterN [(.v .str p0), (.v (.int .u8) p1)] 35 Tryz.func71 rfl rfl rfl ?_
  refine T.seq ?_
  refine T.region ?_
  refine Run.go (Ev.assign rfl rfl) ?_
  refine Run.nil ?_
  refine T.seq ?_
  refine T.region ?_
  refine Run.go (Ev.build X 1 rfl rfl rfl rfl rfl rfl rfl rfl) ?_
  refine Run.go (Ev.assign rfl rfl) ?_
  refine Run.nil ?_
  refine T.seq ?_
  refine T.region ?_
  refine Run.go (Ev.assign rfl rfl) ?_
  refine Run.nil ?_
  obtain ⟨⟨v1, v2⟩, hv, h⟩ := bdS h
  refine T.cut (fun _ : Unit => (⟨[(0, .v .str p0), (5, .own 8), (6, .v (.int .i64) v1)], [(8, .arr 9 .str v2)], 35⟩ : St)) (fun _ => True) ?_ (fun _ _ => ?_)
  · replace h := hv
    clear hv
    refine T.seq ?_
    refine T.region ?_
    refine Run.go (Ev.assign rfl rfl) ?_
    refine Run.nil ?_
    refine T.block ?_
    refine T.loop (LoopT.ghost (Ghost.only [(1, 27)] [0, 1, 5, 6, 7] rfl) (LoopT.run (fun q : Int × Int × (List ByteArray) => (⟨[(0, .v .str p0), (1, .v (.int .u8) p1), (5, .own 27), (6, .v (.int .i64) q.1), (7, .v (.int .i64) q.2.1)], [(27, .arr 9 .str q.2.2)], 35⟩ : St)) (fun q z1 h hz1 => ?_) h))
    obtain ⟨v3, v4, v5⟩ := q
    dsimp only
    rw [m_triviumbase_Split_l1] at h
    refine T.seq ?_
    refine T.seq ?_
    refine T.region ?_
    refine Run.go (Ev.move rfl rfl) ?_
    refine Run.go (Ev.move rfl rfl) ?_
    refine Run.go (Ev.len X rfl rfl rfl rfl) ?_
    refine Run.go (Ev.int rfl rfl rfl rfl trivial) ?_
    refine Run.nil ?_
    refine T.cond rfl (fun hb6 => ?_) (fun hb6 => ?_)
    · replace h := ifT hb6 h
      refine T.skip ?_
      obtain ⟨⟨v7, v8⟩, hv, h⟩ := bdS h
      refine T.cut (fun _ : Unit => (⟨[(0, .v .str p0), (1, .v (.int .u8) p1), (5, .own 36), (6, .v (.int .i64) v7), (7, .v (.int .i64) v4)], [(36, .arr 9 .str v8)], 35⟩ : St)) (fun _ => True) ?_ (fun _ _ => ?_)
      · replace h := hv
        clear hv
        refine T.block ?_
        refine T.seq ?_
        refine T.region ?_
        refine Run.go (Ev.move rfl rfl) ?_
        refine Run.go (Ev.move rfl rfl) ?_
        obtain ⟨x9, e10, h⟩ := bdS h
        refine Run.go (Ev.e_bt X e10 rfl rfl rfl rfl) ?_
        refine Run.go (Ev.move rfl rfl) ?_
        refine Run.go (Ev.int rfl rfl rfl rfl trivial) ?_
        refine Run.nil ?_
        refine T.cond rfl (fun hb11 => ?_) (fun hb11 => ?_)
        · replace h := ifT hb11 h
          refine T.seq ?_
          refine T.region ?_
          refine Run.go (Ev.move rfl rfl) ?_
          refine Run.go (Ev.move rfl rfl) ?_
          refine Run.go (Ev.move rfl rfl) ?_
          refine Run.go (Ev.move rfl rfl) ?_
          obtain ⟨x12, e13, h⟩ := bdS h
          refine Run.go (Ev.e_cs X e13 rfl rfl rfl (fun _ _ => cutAt_of rfl) (fun h => by cases h) (fun _ _ => cutAt_of rfl) (fun h => by cases h)) ?_
          refine Run.go (Ev.build X 37 rfl rfl rfl rfl rfl rfl rfl rfl) ?_
          obtain ⟨x14, e15, h⟩ := bdS h
          refine Run.go (Ev.e_ap X 38 e15 rfl rfl rfl (.own rfl) rfl rfl rfl rfl rfl) ?_
          refine Run.go (Ev.assign rfl rfl) ?_
          refine Run.nil ?_
          refine T.region ?_
          refine Run.go (Ev.move rfl rfl) ?_
          refine Run.go (Ev.int rfl rfl rfl rfl trivial) ?_
          refine Run.go (Ev.assign rfl rfl) ?_
          refine Run.nil ?_
          cases h
          exact ⟨(), trivial, Ghost.only [(38, 36)] [0, 1, 5, 6, 7] rfl⟩
        · replace h := ifF hb11 h
          refine T.skip ?_
          cases h
          exact ⟨(), trivial, Ghost.only [(27, 36)] [0, 1, 5, 6, 7] rfl⟩
      · refine T.region ?_
        refine Run.go (Ev.move rfl rfl) ?_
        refine Run.go (Ev.int rfl rfl rfl rfl trivial) ?_
        refine Run.go (Ev.assign rfl rfl) ?_
        refine Run.nil ?_
        cases h
        exact LoopT.ghost (Ghost.only [(36, 27)] [0, 1, 5, 6, 7] rfl) hz1
    · replace h := ifF hb6 h
      refine T.exit ?_
      cases h
      cases hz1
      exact ⟨(), trivial, Ghost.only [(27, 8)] [0, 5, 6] rfl⟩
  · refine T.seq ?_
    refine T.region ?_
    refine Run.go (Ev.move rfl rfl) ?_
    refine Run.go (Ev.move rfl rfl) ?_
    refine Run.go (Ev.move rfl rfl) ?_
    obtain ⟨x16, e17, h⟩ := bdS h
    refine Run.go (Ev.e_cs X e17 rfl rfl rfl (fun _ _ => cutAt_of rfl) (fun h => by cases h) (fun _ h => by cases h) (fun _ => rfl)) ?_
    refine Run.go (Ev.build X 39 rfl rfl rfl rfl rfl rfl rfl rfl) ?_
    obtain ⟨x18, e19, h⟩ := bdS h
    refine Run.go (Ev.e_ap X 40 e19 rfl rfl rfl (.own rfl) rfl rfl rfl rfl rfl) ?_
    refine Run.go (Ev.assign rfl rfl) ?_
    refine Run.nil ?_
    refine T.ret ?_
    cases h
    exact Fin.one rfl (.own rfl)
theorem en72 : Enters Tryz.prog 72 := ⟨_, Tryz.func72, rfl, rfl⟩
set_option maxHeartbeats 1000000 in
theorem k_triviumref18_number {p0 : ByteArray} {y : Int × Bool} (h : m_triviumref18_number p0 = some y) : Spec Tryz.prog 72 [(.v .str p0)] (.tup [.v (.int .i64) y.1, .v .bool y.2]) [] := by
  rw [m_triviumref18_number] at h
  refine enterN [(.v .str p0)] 49 Tryz.func72 rfl rfl rfl ?_
  refine T.seq ?_
  refine T.region ?_
  refine Run.go (Ev.assign rfl rfl) ?_
  refine Run.go (Ev.assign rfl rfl) ?_
  refine Run.nil ?_
  refine T.seq ?_
  obtain ⟨v1, hv, h⟩ := bdS h
  refine T.cut (fun _ : Unit => (⟨[(0, .v .str p0), (23, .v .bool v1)], [], 49⟩ : St)) (fun _ => True) ?_ (fun _ _ => ?_)
  · replace h := hv
    clear hv
    refine T.region ?_
    refine Run.go (Ev.move rfl rfl) ?_
    refine Run.go (Ev.len X rfl rfl rfl rfl) ?_
    refine Run.go (Ev.int rfl rfl rfl rfl trivial) ?_
    refine Run.go (Ev.move rfl rfl) ?_
    rcases boolCases (decide ((p0.size : Int) < 1)) with hb2 | hb2
    · replace h := ifT hb2 h
      refine Run.offT rfl rfl rfl rfl hb2 ?_
      refine Run.offT rfl rfl rfl rfl hb2 ?_
      refine Run.offT rfl rfl rfl rfl hb2 ?_
      refine Run.go (Ev.pickT rfl hb2 rfl rfl) ?_
      refine Run.go (Ev.move rfl rfl) ?_
      refine Run.offT rfl rfl rfl rfl rfl ?_
      refine Run.offT rfl rfl rfl rfl rfl ?_
      refine Run.offT rfl rfl rfl rfl rfl ?_
      refine Run.offT rfl rfl rfl rfl rfl ?_
      refine Run.un rfl rfl rfl ?_
      refine Run.un rfl rfl rfl ?_
      refine Run.un rfl rfl rfl ?_
      refine Run.offT rfl rfl rfl rfl rfl ?_
      refine Run.go (Ev.pickT rfl rfl rfl rfl) ?_
      refine Run.nil ?_
      cases h
      exact ⟨(), trivial, Ghost.only [] [0, 23] rfl⟩
    · replace h := ifF hb2 h
      refine Run.on rfl rfl rfl hb2 (Ev.move rfl rfl) ?_
      refine Run.on rfl rfl rfl hb2 (Ev.len X rfl rfl rfl rfl) ?_
      refine Run.on rfl rfl rfl hb2 (Ev.int rfl rfl rfl rfl trivial) ?_
      refine Run.go (Ev.pickF rfl hb2 rfl rfl) ?_
      refine Run.go (Ev.move rfl rfl) ?_
      rcases boolCases (decide (3 < (p0.size : Int))) with hb3 | hb3
      · replace h := ifT hb3 h
        refine Run.offT rfl rfl rfl rfl hb3 ?_
        refine Run.offT rfl rfl rfl rfl hb3 ?_
        refine Run.offT rfl rfl rfl rfl hb3 ?_
        refine Run.offT rfl rfl rfl rfl hb3 ?_
        refine Run.un rfl rfl rfl ?_
        refine Run.un rfl rfl rfl ?_
        refine Run.un rfl rfl rfl ?_
        refine Run.offT rfl rfl rfl rfl hb3 ?_
        refine Run.go (Ev.pickT rfl hb3 rfl rfl) ?_
        refine Run.nil ?_
        cases h
        exact ⟨(), trivial, Ghost.only [] [0, 23] rfl⟩
      · replace h := ifF hb3 h
        refine Run.on rfl rfl rfl hb3 (Ev.move rfl rfl) ?_
        refine Run.on rfl rfl rfl hb3 (Ev.len X rfl rfl rfl rfl) ?_
        refine Run.on rfl rfl rfl hb3 (Ev.int rfl rfl rfl rfl trivial) ?_
        refine Run.on rfl rfl rfl hb3 (Ev.move rfl rfl) ?_
        rcases boolCases (decide (1 < (p0.size : Int))) with hb4 | hb4
        · replace h := ifT hb4 h
          refine Run.on rfl rfl rfl hb4 (Ev.move rfl rfl) ?_
          obtain ⟨x5, e6, h⟩ := bdS h
          refine Run.on rfl rfl rfl hb4 (Ev.e_bt X e6 rfl rfl rfl rfl) ?_
          refine Run.on rfl rfl rfl hb4 (Ev.int rfl rfl rfl rfl trivial) ?_
          refine Run.on rfl rfl rfl hb3 (Ev.pickT rfl hb4 rfl rfl) ?_
          refine Run.go (Ev.pickF rfl hb3 rfl rfl) ?_
          refine Run.nil ?_
          cases h
          exact ⟨(), trivial, Ghost.only [] [0, 23] rfl⟩
        · replace h := ifF hb4 h
          refine Run.offT rfl rfl rfl rfl hb4 ?_
          refine Run.offT rfl rfl rfl rfl hb4 ?_
          refine Run.offT rfl rfl rfl rfl hb4 ?_
          refine Run.on rfl rfl rfl hb3 (Ev.pickF rfl hb4 rfl rfl) ?_
          refine Run.go (Ev.pickF rfl hb3 rfl rfl) ?_
          refine Run.nil ?_
          cases h
          exact ⟨(), trivial, Ghost.only [] [0, 23] rfl⟩
  · refine T.cond rfl (fun hb7 => ?_) (fun hb7 => ?_)
    · replace h := ifT hb7 h
      refine T.seq ?_
      refine T.region ?_
      refine Run.go (Ev.assign rfl rfl) ?_
      refine Run.go (Ev.assign rfl rfl) ?_
      refine Run.nil ?_
      refine T.ret ?_
      cases h
      exact Fin.many X rfl (.cons (.tmp .v) (.cons (.tmp .v) .nil)) rfl
    · replace h := ifF hb7 h
      refine T.skip ?_
      refine T.seq ?_
      refine T.region ?_
      refine Run.go (Ev.assign rfl rfl) ?_
      refine Run.nil ?_
      refine T.seq ?_
      refine T.seq ?_
      refine T.region ?_
      refine Run.go (Ev.assign rfl rfl) ?_
      refine Run.nil ?_
      refine T.block ?_
      refine T.loop (LoopT.ghost (Ghost.only [] [0, 4, 5] rfl) (LoopT.run (fun q : Int × Int => (⟨[(0, .v .str p0), (4, .v (.int .i64) q.1), (5, .v (.int .i64) q.2)], [], 49⟩ : St)) (fun q z1 h hz1 => ?_) h))
      obtain ⟨v8, v9⟩ := q
      dsimp only
      rw [m_triviumref18_number_l1] at h
      refine T.seq ?_
      refine T.seq ?_
      refine T.region ?_
      refine Run.go (Ev.move rfl rfl) ?_
      refine Run.go (Ev.move rfl rfl) ?_
      refine Run.go (Ev.len X rfl rfl rfl rfl) ?_
      refine Run.go (Ev.int rfl rfl rfl rfl trivial) ?_
      refine Run.nil ?_
      refine T.cond rfl (fun hb10 => ?_) (fun hb10 => ?_)
      · replace h := ifT hb10 h
        refine T.skip ?_
        refine T.seq ?_
        refine T.block ?_
        refine T.seq ?_
        obtain ⟨v11, hv, h⟩ := bdS h
        refine T.cut (fun _ : Unit => (⟨[(0, .v .str p0), (4, .v (.int .i64) v8), (5, .v (.int .i64) v9), (39, .v .bool v11)], [], 49⟩ : St)) (fun _ => True) ?_ (fun _ _ => ?_)
        · replace h := hv
          clear hv
          refine T.region ?_
          refine Run.go (Ev.move rfl rfl) ?_
          refine Run.go (Ev.move rfl rfl) ?_
          obtain ⟨x12, e13, h⟩ := bdS h
          refine Run.go (Ev.e_bt X e13 rfl rfl rfl rfl) ?_
          refine Run.go (Ev.int rfl rfl rfl rfl trivial) ?_
          refine Run.go (Ev.move rfl rfl) ?_
          rcases boolCases (decide (x12 < 48)) with hb14 | hb14
          · replace h := ifT hb14 h
            refine Run.offT rfl rfl rfl rfl hb14 ?_
            refine Run.offT rfl rfl rfl rfl hb14 ?_
            refine Run.offT rfl rfl rfl rfl hb14 ?_
            refine Run.offT rfl rfl rfl rfl hb14 ?_
            refine Run.go (Ev.pickT rfl hb14 rfl rfl) ?_
            refine Run.nil ?_
            cases h
            exact ⟨(), trivial, Ghost.only [] [0, 4, 5, 39] rfl⟩
          · replace h := ifF hb14 h
            refine Run.on rfl rfl rfl hb14 (Ev.move rfl rfl) ?_
            refine Run.on rfl rfl rfl hb14 (Ev.move rfl rfl) ?_
            obtain ⟨x15, e16, h⟩ := bdS h
            refine Run.on rfl rfl rfl hb14 (Ev.e_bt X e16 rfl rfl rfl rfl) ?_
            refine Run.on rfl rfl rfl hb14 (Ev.int rfl rfl rfl rfl trivial) ?_
            refine Run.go (Ev.pickF rfl hb14 rfl rfl) ?_
            refine Run.nil ?_
            cases h
            exact ⟨(), trivial, Ghost.only [] [0, 4, 5, 39] rfl⟩
        · refine T.cond rfl (fun hb17 => ?_) (fun hb17 => ?_)
          · replace h := ifT hb17 h
            refine T.seq ?_
            refine T.region ?_
            refine Run.go (Ev.assign rfl rfl) ?_
            refine Run.go (Ev.assign rfl rfl) ?_
            refine Run.nil ?_
            refine T.ret ?_
            cases h
            cases hz1
            exact Fin.many X rfl (.cons (.tmp .v) (.cons (.tmp .v) .nil)) rfl
          · replace h := ifF hb17 h
            refine T.skip ?_
            refine T.region ?_
            refine Run.go (Ev.move rfl rfl) ?_
            refine Run.go (Ev.int rfl rfl rfl rfl trivial) ?_
            refine Run.go (Ev.move rfl rfl) ?_
            refine Run.go (Ev.move rfl rfl) ?_
            obtain ⟨x18, e19, h⟩ := bdS h
            refine Run.go (Ev.e_bt X e19 rfl rfl rfl rfl) ?_
            refine Run.go (Ev.int rfl rfl rfl rfl trivial) ?_
            refine Run.go (Ev.conv X rfl rfl rfl rfl) ?_
            refine Run.go (Ev.int rfl rfl rfl rfl trivial) ?_
            obtain ⟨x20, e21, h⟩ := ltS h
            refine Run.go (Ev.avs (Ev.assign rfl rfl) e21) ?_
            refine Run.nil ?_
            refine T.region ?_
            refine Run.go (Ev.move rfl rfl) ?_
            refine Run.go (Ev.int rfl rfl rfl rfl trivial) ?_
            refine Run.go (Ev.assign rfl rfl) ?_
            refine Run.nil ?_
            cases h
            exact LoopT.ghost (Ghost.only [] [0, 4, 5] rfl) hz1
      · replace h := ifF hb10 h
        refine T.exit ?_
        refine T.seq ?_
        refine T.region ?_
        refine Run.go (Ev.move rfl rfl) ?_
        refine Run.go (Ev.assign rfl rfl) ?_
        refine Run.go (Ev.assign rfl rfl) ?_
        refine Run.nil ?_
        refine T.ret ?_
        cases h
        cases hz1
        exact Fin.many X rfl (.cons (.tmp .v) (.cons (.tmp .v) .nil)) rfl
theorem en54 : Enters Tryz.prog 54 := ⟨_, Tryz.func54, rfl, rfl⟩
set_option maxHeartbeats 1000000 in
theorem k_triviumref18_Parse {p0 : ByteArray} {y : Int × Int} (h : m_triviumref18_Parse p0 = some y) : Spec Tryz.prog 54 [(.v .str p0)] (.tup [.v (.int .u32) y.1, .v (.int .i64) y.2]) [] := by
  rw [m_triviumref18_Parse] at h
  refine enterN [(.v .str p0)] 41 Tryz.func54 rfl rfl rfl ?_
  refine T.seq ?_
  refine T.region ?_
  refine Run.go (Ev.assign rfl rfl) ?_
  refine Run.go (Ev.assign rfl rfl) ?_
  refine Run.nil ?_
  refine T.seq ?_
  refine T.region ?_
  refine Run.go (Ev.move rfl rfl) ?_
  obtain ⟨x1, e2, h⟩ := bdS h
  refine Run.go (Ev.callC en71 (k_triviumbase_Split e2) rfl (.cons .v (.cons .v .nil)) rfl rfl) ?_
  refine Run.go (Ev.assign rfl rfl) ?_
  refine Run.nil ?_
  refine T.seq ?_
  refine T.seq ?_
  refine T.region ?_
  refine Run.go (Ev.move rfl rfl) ?_
  refine Run.go (Ev.len X rfl rfl rfl rfl) ?_
  refine Run.go (Ev.int rfl rfl rfl rfl trivial) ?_
  refine Run.nil ?_
  refine T.cond rfl (fun hb3 => ?_) (fun hb3 => ?_)
  · replace h := ifT hb3 h
    refine T.seq ?_
    refine T.region ?_
    refine Run.go (Ev.assign rfl rfl) ?_
    refine Run.go (Ev.assign rfl rfl) ?_
    refine Run.nil ?_
    refine T.ret ?_
    cases h
    exact Fin.many X rfl (.cons (.tmp .v) (.cons (.tmp .v) .nil)) rfl
  · replace h := ifF hb3 h
    refine T.skip ?_
    refine T.seq ?_
    refine T.region ?_
    refine Run.go (Ev.assign rfl rfl) ?_
    refine Run.go (Ev.assign rfl rfl) ?_
    refine Run.nil ?_
    refine T.seq ?_
    refine T.seq ?_
    refine T.region ?_
    refine Run.go (Ev.assign rfl rfl) ?_
    refine Run.nil ?_
    refine T.block ?_
    refine T.loop (LoopT.ghost (Ghost.only [] [4, 5, 6, 7] rfl) (LoopT.run (fun q : Int × Int × Int => (⟨[(4, .v (.sl .str) x1), (5, .v (.int .u32) q.1), (6, .v (.int .i64) q.2.1), (7, .v (.int .i64) q.2.2)], [], 41⟩ : St)) (fun q z1 h hz1 => ?_) h))
    obtain ⟨v4, v5, v6⟩ := q
    dsimp only
    rw [m_triviumref18_Parse_l1] at h
    refine T.seq ?_
    refine T.seq ?_
    refine T.region ?_
    refine Run.go (Ev.move rfl rfl) ?_
    refine Run.go (Ev.int rfl rfl rfl rfl trivial) ?_
    refine Run.nil ?_
    refine T.cond rfl (fun hb7 => ?_) (fun hb7 => ?_)
    · replace h := ifT hb7 h
      refine T.skip ?_
      refine T.seq ?_
      refine T.block ?_
      refine T.seq ?_
      refine T.region ?_
      refine Run.go (Ev.move rfl rfl) ?_
      refine Run.go (Ev.move rfl rfl) ?_
      obtain ⟨x8, e9, h⟩ := bdS h
      refine Run.go (Ev.e_rd X e9 rfl rfl rfl rfl) ?_
      refine Run.go (Ev.load X rfl rfl rfl) ?_
      obtain ⟨x10, e11, h⟩ := bdS h
      refine Run.go (Ev.callC en72 (k_triviumref18_number e11) rfl (.cons .v .nil) rfl rfl) ?_
      refine Run.go (Ev.move rfl rfl) ?_
      refine Run.go (Ev.extract rfl rfl rfl) ?_
      refine Run.go (Ev.extract rfl rfl rfl) ?_
      refine Run.go (Ev.assign rfl rfl) ?_
      refine Run.go (Ev.assign rfl rfl) ?_
      refine Run.nil ?_
      refine T.seq ?_
      refine T.seq ?_
      refine T.region ?_
      refine Run.go (Ev.move rfl rfl) ?_
      refine Run.go (Ev.not rfl rfl) ?_
      refine Run.nil ?_
      refine T.cond rfl (fun hb12 => ?_) (fun hb12 => ?_)
      · replace h := ifT hb12 h
        refine T.seq ?_
        refine T.region ?_
        refine Run.go (Ev.assign rfl rfl) ?_
        refine Run.go (Ev.assign rfl rfl) ?_
        refine Run.nil ?_
        refine T.ret ?_
        cases h
        cases hz1
        exact Fin.many X rfl (.cons (.tmp .v) (.cons (.tmp .v) .nil)) rfl
      · replace h := ifF hb12 h
        refine T.skip ?_
        obtain ⟨v13, hv, h⟩ := bdS h
        refine T.cut (fun _ : Unit => (⟨[(4, .v (.sl .str) x1), (5, .v (.int .u32) v4), (6, .v (.int .i64) v13), (7, .v (.int .i64) v6), (8, .v (.int .i64) x10.1)], [], 41⟩ : St)) (fun _ => True) ?_ (fun _ _ => ?_)
        · replace h := hv
          clear hv
          refine T.seq ?_
          refine T.region ?_
          refine Run.go (Ev.move rfl rfl) ?_
          refine Run.go (Ev.int rfl rfl rfl rfl trivial) ?_
          refine Run.nil ?_
          refine T.cond rfl (fun hb14 => ?_) (fun hb14 => ?_)
          · replace h := ifT hb14 h
            refine T.region ?_
            refine Run.go (Ev.assign rfl rfl) ?_
            refine Run.nil ?_
            cases h
            exact ⟨(), trivial, Ghost.only [] [4, 5, 6, 7, 8] rfl⟩
          · replace h := ifF hb14 h
            refine T.skip ?_
            cases h
            exact ⟨(), trivial, Ghost.only [] [4, 5, 6, 7, 8] rfl⟩
        · refine T.region ?_
          refine Run.go (Ev.move rfl rfl) ?_
          refine Run.go (Ev.int rfl rfl rfl rfl trivial) ?_
          refine Run.go (Ev.move rfl rfl) ?_
          obtain ⟨x15, e16, h⟩ := bdS h
          refine Run.go (Ev.e_rm e16 rfl rfl rfl) ?_
          refine Run.go (Ev.conv X rfl rfl rfl rfl) ?_
          refine Run.go (Ev.int rfl rfl rfl rfl trivial) ?_
          obtain ⟨x17, e18, h⟩ := ltS h
          refine Run.go (Ev.avs (Ev.assign rfl rfl) e18) ?_
          refine Run.nil ?_
          refine T.region ?_
          refine Run.go (Ev.move rfl rfl) ?_
          refine Run.go (Ev.int rfl rfl rfl rfl trivial) ?_
          refine Run.go (Ev.assign rfl rfl) ?_
          refine Run.nil ?_
          cases h
          exact LoopT.ghost (Ghost.only [] [4, 5, 6, 7] rfl) hz1
    · replace h := ifF hb7 h
      refine T.exit ?_
      refine T.seq ?_
      refine T.seq ?_
      refine T.region ?_
      refine Run.go (Ev.move rfl rfl) ?_
      refine Run.go (Ev.int rfl rfl rfl rfl trivial) ?_
      refine Run.nil ?_
      refine T.cond rfl (fun hb19 => ?_) (fun hb19 => ?_)
      · replace h := ifT hb19 h
        refine T.seq ?_
        refine T.region ?_
        refine Run.go (Ev.move rfl rfl) ?_
        refine Run.go (Ev.assign rfl rfl) ?_
        refine Run.go (Ev.assign rfl rfl) ?_
        refine Run.nil ?_
        refine T.ret ?_
        cases h
        cases hz1
        exact Fin.many X rfl (.cons (.tmp .v) (.cons (.tmp .v) .nil)) rfl
      · replace h := ifF hb19 h
        refine T.skip ?_
        refine T.seq ?_
        refine T.region ?_
        refine Run.go (Ev.move rfl rfl) ?_
        refine Run.go (Ev.assign rfl rfl) ?_
        refine Run.go (Ev.assign rfl rfl) ?_
        refine Run.nil ?_
        refine T.ret ?_
        cases h
        cases hz1
        exact Fin.many X rfl (.cons (.tmp .v) (.cons (.tmp .v) .nil)) rfl
theorem en87 : Enters Tryz.prog 87 := ⟨_, Tryz.func87, rfl, rfl⟩
theorem k_triviumref18_Size {p0 : Int} {y : Int} (h : m_triviumref18_Size p0 = some y) : Spec Tryz.prog 87 [(.v (.int .i64) p0)] (.v (.int .u64) y) [] := by
  rw [m_triviumref18_Size] at h
  refine enterN [(.v (.int .i64) p0)] 13 Tryz.func87 rfl rfl rfl ?_
  refine T.seq ?_
  refine T.region ?_
  refine Run.go (Ev.assign rfl rfl) ?_
  refine Run.nil ?_
  refine T.seq ?_
  refine T.region ?_
  refine Run.go (Ev.assign rfl rfl) ?_
  refine Run.nil ?_
  obtain ⟨v1, hv, h⟩ := bdS h
  refine T.cut (fun _ : Unit => (⟨[(3, .v (.int .u64) v1)], [], 13⟩ : St)) (fun _ => True) ?_ (fun _ _ => ?_)
  · replace h := hv
    clear hv
    refine T.seq ?_
    refine T.region ?_
    refine Run.go (Ev.move rfl rfl) ?_
    refine Run.go (Ev.assign rfl rfl) ?_
    refine Run.nil ?_
    refine T.block ?_
    refine T.loop (LoopT.ghost (Ghost.only [] [3, 4] rfl) (LoopT.run (fun q : Int × Int => (⟨[(3, .v (.int .u64) q.1), (4, .v (.int .i64) q.2)], [], 13⟩ : St)) (fun q z1 h hz1 => ?_) h))
    obtain ⟨v2, v3⟩ := q
    dsimp only
    rw [m_triviumref18_Size_l1] at h
    refine T.seq ?_
    refine T.seq ?_
    refine T.region ?_
    refine Run.go (Ev.move rfl rfl) ?_
    refine Run.go (Ev.int rfl rfl rfl rfl trivial) ?_
    refine Run.nil ?_
    refine T.cond rfl (fun hb4 => ?_) (fun hb4 => ?_)
    · replace h := ifT hb4 h
      refine T.skip ?_
      refine T.seq ?_
      refine T.block ?_
      refine T.region ?_
      refine Run.go (Ev.move rfl rfl) ?_
      refine Run.go (Ev.int rfl rfl rfl rfl trivial) ?_
      refine Run.go (Ev.assign rfl rfl) ?_
      refine Run.nil ?_
      refine T.region ?_
      refine Run.go (Ev.move rfl rfl) ?_
      refine Run.go (Ev.int rfl rfl rfl rfl trivial) ?_
      refine Run.go (Ev.assign rfl rfl) ?_
      refine Run.nil ?_
      cases h
      exact LoopT.ghost (Ghost.only [] [3, 4] rfl) hz1
    · replace h := ifF hb4 h
      refine T.exit ?_
      cases h
      cases hz1
      exact ⟨(), trivial, Ghost.only [] [3] rfl⟩
  · refine T.seq ?_
    refine T.region ?_
    refine Run.go (Ev.move rfl rfl) ?_
    refine Run.go (Ev.assign rfl rfl) ?_
    refine Run.nil ?_
    refine T.ret ?_
    cases h
    exact Fin.one rfl .v
theorem en73 : Enters Tryz.prog 73 := ⟨_, Tryz.func73, rfl, rfl⟩
theorem k_triviumref18_May {p0 : D_api_Prefix} {y : Bool} (h : m_triviumref18_May p0 = some y) : Spec Tryz.prog 73 [(.v Y_api_Prefix p0)] (.v .bool y) [] := by
  rw [m_triviumref18_May] at h
  refine enterN [(.v Y_api_Prefix p0)] 21 Tryz.func73 rfl rfl rfl ?_
  refine T.seq ?_
  refine T.region ?_
  refine Run.go (Ev.box 1 rfl rfl rfl rfl) ?_
  refine Run.go (Ev.assign rfl rfl) ?_
  refine Run.nil ?_
  refine T.seq ?_
  refine T.drawM [] [0, 1, 3, 7, 15, 31, 63, 127, 255, 511, 1023, 2047, 511, 4607, 12799, 32767, 65535, 131071, 262143] (by kernel_rfl) (by kernel_rfl) ?_
  refine RunD.a rfl rfl (Ev.fieldBox X rfl rfl rfl rfl rfl) ?_
  refine RunD.a rfl rfl (Ev.loadCell X rfl rfl rfl rfl rfl rfl) ?_
  refine RunD.w (fun _ => Ev.int rfl rfl rfl rfl trivial) ?_
  refine RunD.w (fun _ => Ev.move rfl rfl) ?_
  rcases boolCases (decide (0 ≤ p0.2)) with hb1 | hb1
  · replace h := ifT hb1 h
    refine RunD.on rfl rfl rfl hb1 rfl (fun ô hô => by obtain rfl := hô.resolve_left (by decide); exact Ev.fieldBox X rfl rfl rfl rfl rfl) ?_
    refine RunD.on rfl rfl rfl hb1 rfl (fun ô hô => by obtain rfl := hô.resolve_left (by decide); exact Ev.loadCell X rfl rfl rfl rfl rfl rfl) ?_
    refine RunD.on rfl rfl rfl hb1 rfl (fun _ _ => Ev.int rfl rfl rfl rfl trivial) ?_
    refine RunD.w (fun _ => Ev.pickT rfl hb1 rfl rfl) ?_
    refine RunD.w (fun _ => Ev.move rfl rfl) ?_
    rcases boolCases (decide (p0.2 ≤ 32)) with hb2 | hb2
    · replace h := ifT hb2 h
      refine RunD.on rfl rfl rfl hb2 rfl (fun ô hô => by obtain rfl := hô.resolve_left (by decide); exact Ev.fieldBox X rfl rfl rfl rfl rfl) ?_
      refine RunD.on rfl rfl rfl hb2 rfl (fun ô hô => by obtain rfl := hô.resolve_left (by decide); exact Ev.loadCell X rfl rfl rfl rfl rfl rfl) ?_
      refine RunD.on rfl rfl rfl hb2 rfl (fun ô hô => by obtain rfl := hô.resolve_left (by decide); exact Ev.conv X rfl rfl rfl rfl) ?_
      refine RunD.on rfl rfl rfl hb2 rfl (fun ô hô => by obtain rfl := hô.resolve_left (by decide); exact Ev.fieldBox X rfl rfl rfl rfl rfl) ?_
      refine RunD.on rfl rfl rfl hb2 rfl (fun ô hô => by obtain rfl := hô.resolve_left (by decide); exact Ev.loadCell X rfl rfl rfl rfl rfl rfl) ?_
      obtain ⟨x3, e4, h⟩ := bdS h
      refine RunD.on rfl rfl rfl hb2 rfl (fun ô hô => by obtain rfl := hô.resolve_left (by decide); exact Ev.callC en87 (k_triviumref18_Size e4) rfl (.cons .v .nil) rfl rfl) ?_
      obtain ⟨x5, e6, h⟩ := bdS h
      refine RunD.on rfl rfl rfl hb2 rfl (fun _ _ => Ev.e_rm e6 rfl rfl rfl) ?_
      refine RunD.on rfl rfl rfl hb2 rfl (fun _ _ => Ev.int rfl rfl rfl rfl trivial) ?_
      refine RunD.w (fun _ => Ev.pickT rfl hb2 rfl rfl) ?_
      refine RunD.w (fun _ => Ev.assign rfl rfl) ?_
      refine RunD.nil ?_
      refine T.ret ?_
      cases h
      exact Fin.one rfl .v
    · replace h := ifF hb2 h
      refine RunD.offT rfl rfl rfl rfl hb2 ?_
      refine RunD.offT rfl rfl rfl rfl hb2 ?_
      refine RunD.offT rfl rfl rfl rfl hb2 ?_
      refine RunD.offT rfl rfl rfl rfl hb2 ?_
      refine RunD.offT rfl rfl rfl rfl hb2 ?_
      refine RunD.offT rfl rfl rfl rfl hb2 ?_
      refine RunD.offT rfl rfl rfl rfl hb2 ?_
      refine RunD.offT rfl rfl rfl rfl hb2 ?_
      refine RunD.w (fun _ => Ev.pickF rfl hb2 rfl rfl) ?_
      refine RunD.w (fun _ => Ev.assign rfl rfl) ?_
      refine RunD.nil ?_
      refine T.ret ?_
      cases h
      exact Fin.one rfl .v
  · replace h := ifF hb1 h
    refine RunD.offT rfl rfl rfl rfl hb1 ?_
    refine RunD.offT rfl rfl rfl rfl hb1 ?_
    refine RunD.offT rfl rfl rfl rfl hb1 ?_
    refine RunD.w (fun _ => Ev.pickF rfl hb1 rfl rfl) ?_
    refine RunD.w (fun _ => Ev.move rfl rfl) ?_
    refine RunD.offT rfl rfl rfl rfl rfl ?_
    refine RunD.offT rfl rfl rfl rfl rfl ?_
    refine RunD.offT rfl rfl rfl rfl rfl ?_
    refine RunD.offT rfl rfl rfl rfl rfl ?_
    refine RunD.offT rfl rfl rfl rfl rfl ?_
    refine RunD.offT rfl rfl rfl rfl rfl ?_
    refine RunD.offT rfl rfl rfl rfl rfl ?_
    refine RunD.offT rfl rfl rfl rfl rfl ?_
    refine RunD.w (fun _ => Ev.pickF rfl rfl rfl rfl) ?_
    refine RunD.w (fun _ => Ev.assign rfl rfl) ?_
    refine RunD.nil ?_
    refine T.ret ?_
    cases h
    exact Fin.one rfl .v
theorem en52 : Enters Tryz.prog 52 := ⟨_, Tryz.func52, rfl, rfl⟩
set_option maxHeartbeats 1000000 in
theorem k_triviumref18_Prefix {p0 : ByteArray} {y : D_api_Prefix × Int} (h : m_triviumref18_Prefix p0 = some y) : Spec Tryz.prog 52 [(.v .str p0)] (.tup [.v Y_api_Prefix y.1, .v (.int .i64) y.2]) [] := by
  rw [m_triviumref18_Prefix] at h
  refine enterN [(.v .str p0)] 49 Tryz.func52 rfl rfl rfl ?_
  refine T.seq ?_
  refine T.region ?_
  refine Run.go (Ev.allocN X 1 rfl rfl rfl) ?_
  refine Run.go (Ev.assign rfl rfl) ?_
  refine Run.nil ?_
  refine T.seq ?_
  refine T.region ?_
  refine Run.go (Ev.move rfl rfl) ?_
  obtain ⟨x1, e2, h⟩ := bdS h
  refine Run.go (Ev.callC en71 (k_triviumbase_Split e2) rfl (.cons .v (.cons .v .nil)) rfl rfl) ?_
  refine Run.go (Ev.assign rfl rfl) ?_
  refine Run.nil ?_
  refine T.seq ?_
  refine T.seq ?_
  refine T.region ?_
  refine Run.go (Ev.move rfl rfl) ?_
  refine Run.go (Ev.len X rfl rfl rfl rfl) ?_
  refine Run.go (Ev.int rfl rfl rfl rfl trivial) ?_
  refine Run.nil ?_
  refine T.cond rfl (fun hb3 => ?_) (fun hb3 => ?_)
  · replace h := ifT hb3 h
    refine T.seq ?_
    refine T.region ?_
    refine Run.go (Ev.structC pl37 zs37 rfl rfl rfl) ?_
    refine Run.do_ (Ev.storeC sz37 rfl rfl rfl rfl rfl rfl) ?_
    refine Run.go (Ev.assign rfl rfl) ?_
    refine Run.nil ?_
    refine T.ret ?_
    cases h
    exact Fin.many X rfl (.cons (.cell rfl rfl rfl rfl) (.cons (.tmp .v) .nil)) rfl
  · replace h := ifF hb3 h
    refine T.skip ?_
    refine T.seq ?_
    refine T.region ?_
    refine Run.go (Ev.move rfl rfl) ?_
    obtain ⟨x4, e5, h⟩ := bdS h
    refine Run.go (Ev.e_rd X e5 rfl rfl rfl rfl) ?_
    refine Run.go (Ev.load X rfl rfl rfl) ?_
    obtain ⟨x6, e7, h⟩ := bdS h
    refine Run.go (Ev.callC en54 (k_triviumref18_Parse e7) rfl (.cons .v .nil) rfl rfl) ?_
    refine Run.go (Ev.move rfl rfl) ?_
    refine Run.go (Ev.extract rfl rfl rfl) ?_
    refine Run.go (Ev.extract rfl rfl rfl) ?_
    refine Run.go (Ev.assign rfl rfl) ?_
    refine Run.go (Ev.assign rfl rfl) ?_
    refine Run.nil ?_
    refine T.seq ?_
    refine T.region ?_
    refine Run.go (Ev.move rfl rfl) ?_
    obtain ⟨x8, e9, h⟩ := bdS h
    refine Run.go (Ev.e_rd X e9 rfl rfl rfl rfl) ?_
    refine Run.go (Ev.load X rfl rfl rfl) ?_
    obtain ⟨x10, e11, h⟩ := bdS h
    refine Run.go (Ev.callC en72 (k_triviumref18_number e11) rfl (.cons .v .nil) rfl rfl) ?_
    refine Run.go (Ev.move rfl rfl) ?_
    refine Run.go (Ev.extract rfl rfl rfl) ?_
    refine Run.go (Ev.extract rfl rfl rfl) ?_
    refine Run.go (Ev.assign rfl rfl) ?_
    refine Run.go (Ev.assign rfl rfl) ?_
    refine Run.nil ?_
    refine T.seq ?_
    obtain ⟨v12, hv, h⟩ := bdS h
    refine T.cut (fun _ : Unit => (⟨[(2, .box 1 0), (5, .v (.int .u32) x6.1), (6, .v (.int .i64) x6.2), (7, .v (.int .i64) x10.1), (35, .v .bool v12)], [(1, .box [.v (.int .u32) (0 : Int), .v (.int .i64) (0 : Int)])], 49⟩ : St)) (fun _ => True) ?_ (fun _ _ => ?_)
    · replace h := hv
      clear hv
      refine T.region ?_
      refine Run.go (Ev.move rfl rfl) ?_
      refine Run.go (Ev.int rfl rfl rfl rfl trivial) ?_
      refine Run.go (Ev.move rfl rfl) ?_
      rcases boolCases (decide (x6.2 = 5)) with hb13 | hb13
      · replace h := ifT hb13 h
        refine Run.offT rfl rfl rfl rfl hb13 ?_
        refine Run.offT rfl rfl rfl rfl hb13 ?_
        refine Run.go (Ev.pickT rfl hb13 rfl rfl) ?_
        refine Run.nil ?_
        cases h
        exact ⟨(), trivial, Ghost.only [(1, 1)] [2, 5, 6, 7, 35] rfl⟩
      · replace h := ifF hb13 h
        refine Run.on rfl rfl rfl hb13 (Ev.move rfl rfl) ?_
        refine Run.on rfl rfl rfl hb13 (Ev.not rfl rfl) ?_
        refine Run.go (Ev.pickF rfl hb13 rfl rfl) ?_
        refine Run.nil ?_
        cases h
        exact ⟨(), trivial, Ghost.only [(1, 1)] [2, 5, 6, 7, 35] rfl⟩
    · refine T.cond rfl (fun hb14 => ?_) (fun hb14 => ?_)
      · replace h := ifT hb14 h
        refine T.seq ?_
        refine T.region ?_
        refine Run.go (Ev.structC pl37 zs37 rfl rfl rfl) ?_
        refine Run.do_ (Ev.storeC sz37 rfl rfl rfl rfl rfl rfl) ?_
        refine Run.go (Ev.assign rfl rfl) ?_
        refine Run.nil ?_
        refine T.ret ?_
        cases h
        exact Fin.many X rfl (.cons (.cell rfl rfl rfl rfl) (.cons (.tmp .v) .nil)) rfl
      · replace h := ifF hb14 h
        refine T.skip ?_
        refine T.seq ?_
        refine T.region ?_
        refine Run.go (Ev.move rfl rfl) ?_
        refine Run.go (Ev.move rfl rfl) ?_
        refine Run.go (Ev.struct X pl37 rfl rfl rfl rfl rfl rfl rfl rfl) ?_
        refine Run.go (Ev.allocN X 3 rfl rfl rfl) ?_
        refine Run.do_ (Ev.storeBox X rfl rfl rfl rfl rfl rfl rfl) ?_
        refine Run.nil ?_
        refine T.seq ?_
        obtain ⟨v15, hv, h⟩ := bdS h
        refine T.cut (fun _ : Unit => (⟨[(2, .box 1 0), (9, .box 3 0), (46, .v .bool v15)], [(1, .box [.v (.int .u32) (0 : Int), .v (.int .i64) (0 : Int)]), (3, .box [.v (.int .u32) x6.1, .v (.int .i64) x10.1])], 49⟩ : St)) (fun _ => True) ?_ (fun _ _ => ?_)
        · replace h := hv
          clear hv
          refine T.region ?_
          refine Run.go (Ev.move rfl rfl) ?_
          refine Run.go (Ev.int rfl rfl rfl rfl trivial) ?_
          refine Run.go (Ev.move rfl rfl) ?_
          rcases boolCases (!decide (x6.2 = 0)) with hb16 | hb16
          · replace h := ifT hb16 h
            refine Run.offT rfl rfl rfl rfl hb16 ?_
            refine Run.offT rfl rfl rfl rfl hb16 ?_
            refine Run.offT rfl rfl rfl rfl hb16 ?_
            refine Run.go (Ev.pickT rfl hb16 rfl rfl) ?_
            refine Run.nil ?_
            cases h
            exact ⟨(), trivial, Ghost.only [(1, 1), (3, 3)] [2, 9, 46] rfl⟩
          · replace h := ifF hb16 h
            refine Run.on rfl rfl rfl hb16 (Ev.loadBox X rfl rfl rfl rfl rfl) ?_
            obtain ⟨x17, e18, h⟩ := bdS h
            refine Run.on rfl rfl rfl hb16 (Ev.callC en73 (k_triviumref18_May e18) rfl (.cons .v .nil) rfl rfl) ?_
            refine Run.on rfl rfl rfl hb16 (Ev.not rfl rfl) ?_
            refine Run.go (Ev.pickF rfl hb16 rfl rfl) ?_
            refine Run.nil ?_
            cases h
            exact ⟨(), trivial, Ghost.only [(1, 1), (3, 3)] [2, 9, 46] rfl⟩
        · refine T.cond rfl (fun hb19 => ?_) (fun hb19 => ?_)
          · replace h := ifT hb19 h
            refine T.seq ?_
            refine T.region ?_
            refine Run.go (Ev.structC pl37 zs37 rfl rfl rfl) ?_
            refine Run.do_ (Ev.storeC sz37 rfl rfl rfl rfl rfl rfl) ?_
            refine Run.go (Ev.assign rfl rfl) ?_
            refine Run.nil ?_
            refine T.ret ?_
            cases h
            exact Fin.many X rfl (.cons (.cell rfl rfl rfl rfl) (.cons (.tmp .v) .nil)) rfl
          · replace h := ifF hb19 h
            refine T.skip ?_
            refine T.seq ?_
            refine T.region ?_
            refine Run.go (Ev.loadBox X rfl rfl rfl rfl rfl) ?_
            refine Run.do_ (Ev.storeBox X rfl rfl rfl rfl rfl rfl rfl) ?_
            refine Run.go (Ev.assign rfl rfl) ?_
            refine Run.nil ?_
            refine T.ret ?_
            cases h
            exact Fin.many X rfl (.cons (.cell rfl rfl rfl rfl) (.cons (.tmp .v) .nil)) rfl
theorem k_triviumref20_Reader_Mark_M {p1 : Int} {o1_1 : Int} {o1_2 : Int} {o1_3 : Int} {o2_0 : (List D_lex_Token)} {o2_1 : Int} {o2_2 : Int} {y : Int} (h : m_triviumref20_Reader_Mark_M p1 o1_1 o1_2 o1_3 o2_0 o2_1 o2_2 = some y) : SpecM Tryz.prog 53 [(.box 1 0), (.v (.int .i64) p1)] [(1, .box [.box 2 0, .v (.int .i64) o1_1, .v (.int .i64) o1_2, .v (.int .i64) o1_3]), (2, .box [.v (.sl Y_lex_Token) o2_0, .v (.int .i64) o2_1, .v (.int .i64) o2_2])] (.tup []) [(1, .box [.box 2 0, .v (.int .i64) o1_1, .v (.int .i64) o1_2, .v (.int .i64) y]), (2, .box [.v (.sl Y_lex_Token) o2_0, .v (.int .i64) o2_1, .v (.int .i64) o2_2])] := by
  rw [m_triviumref20_Reader_Mark_M] at h
  refine SpecM.enter 100000 [(.box 1 0), (.v (.int .i64) p1)] 13 Tryz.func53 rfl rfl rfl rfl (fun L => ?_)
  refine T.seq ?_
  refine T.region ?_
  refine Run.go (Ev.move rfl rfl) ?_
  refine Run.go (Ev.e_nc rfl rfl rfl rfl) ?_
  refine Run.go (Ev.fieldBoxN fo46_3 sz3 rfl rfl rfl rfl) ?_
  refine Run.go (Ev.loadCell X rfl rfl rfl rfl rfl rfl) ?_
  refine Run.go (Ev.int rfl rfl rfl rfl trivial) ?_
  refine Run.nil ?_
  refine T.cond rfl (fun hb1 => ?_) (fun hb1 => ?_)
  · replace h := ifT hb1 h
    refine T.region ?_
    refine Run.go (Ev.move rfl rfl) ?_
    refine Run.go (Ev.move rfl rfl) ?_
    refine Run.go (Ev.e_nc rfl rfl rfl rfl) ?_
    refine Run.go (Ev.fieldBoxN fo46_3 sz3 rfl rfl rfl rfl) ?_
    refine Run.do_ (Ev.storeBox X rfl rfl rfl rfl rfl rfl rfl) ?_
    refine Run.nil ?_
    cases h
    exact FinM.of 100000 [(1, 1), (2, 2)] (inlR.many' (X := X) rfl .nil rfl) rfl rfl rfl rfl ⟨(.inl ⟨rfl, _, rfl, .box, fun _ => rfl⟩), (.inl ⟨rfl, _, rfl, .box, fun _ => rfl⟩), trivial⟩
  · replace h := ifF hb1 h
    refine T.skip ?_
    cases h
    exact FinM.of 100000 [(1, 1), (2, 2)] (inlR.many' (X := X) rfl .nil rfl) rfl rfl rfl rfl ⟨(.inl ⟨rfl, _, rfl, .box, fun _ => rfl⟩), (.inl ⟨rfl, _, rfl, .box, fun _ => rfl⟩), trivial⟩
theorem k_triviumref20_Reader_Prefix_M {o1_1 : Int} {o1_2 : Int} {o1_3 : Int} {o2_0 : (List D_lex_Token)} {o2_1 : Int} {o2_2 : Int} {y : D_api_Prefix × Int × Int × Int × Int} (h : m_triviumref20_Reader_Prefix_M o1_1 o1_2 o1_3 o2_0 o2_1 o2_2 = some y) : SpecM Tryz.prog 30 [(.box 1 0)] [(1, .box [.box 2 0, .v (.int .i64) o1_1, .v (.int .i64) o1_2, .v (.int .i64) o1_3]), (2, .box [.v (.sl Y_lex_Token) o2_0, .v (.int .i64) o2_1, .v (.int .i64) o2_2])] (.v Y_api_Prefix y.1) [(1, .box [.box 2 0, .v (.int .i64) y.2.1, .v (.int .i64) y.2.2.1, .v (.int .i64) y.2.2.2.1]), (2, .box [.v (.sl Y_lex_Token) o2_0, .v (.int .i64) y.2.2.2.2, .v (.int .i64) o2_2])] := by
  rw [m_triviumref20_Reader_Prefix_M] at h
  refine SpecM.enter 100000 [(.box 1 0)] 62 Tryz.func30 rfl rfl rfl rfl (fun L => ?_)
  refine T.seq ?_
  refine T.region ?_
  refine Run.go (Ev.allocN X 10 rfl rfl rfl) ?_
  refine Run.nil ?_
  refine T.seq ?_
  refine T.seq ?_
  refine T.region ?_
  refine Run.go (Ev.move rfl rfl) ?_
  refine Run.go (Ev.e_nc rfl rfl rfl rfl) ?_
  refine Run.go (Ev.fieldBoxN fo46_1 sz3 rfl rfl rfl rfl) ?_
  refine Run.go (Ev.loadCell X rfl rfl rfl rfl rfl rfl) ?_
  refine Run.go (Ev.int rfl rfl rfl rfl trivial) ?_
  refine Run.nil ?_
  refine T.cond rfl (fun hb1 => ?_) (fun hb1 => ?_)
  · replace h := ifT hb1 h
    refine T.seq ?_
    refine T.region ?_
    refine Run.go (Ev.structC pl37 zs37 rfl rfl rfl) ?_
    refine Run.do_ (Ev.storeC sz37 rfl rfl rfl rfl rfl rfl) ?_
    refine Run.nil ?_
    refine T.ret ?_
    cases h
    exact FinM.of 100000 [(1, 1), (2, 2)] (inlR.one' (X := X) rfl (.cell rfl rfl rfl rfl)) rfl rfl rfl rfl ⟨(.inl ⟨rfl, _, rfl, .box, fun _ => rfl⟩), (.inl ⟨rfl, _, rfl, .box, fun _ => rfl⟩), trivial⟩
  · replace h := ifF hb1 h
    refine T.skip ?_
    refine T.seq ?_
    refine T.drawE [([1], []), ([1], []), ([1], []), ([1], []), ([2], []), ([1], []), ([1], []), ([1], []), ([1], []), ([2], []), ([2], []), ([2], []), ([], []), ([], [])] [0, 1, 3, 7, 15, 0, 32, 96, 224, 480, 992, 2016, 31, 8191] (by kernel_rfl) (by kernel_rfl) ?_
    refine RunE.go0 [1] (fun ô hô => Ev.move rfl rfl) rfl rfl ?_
    refine RunE.go0 [1] (fun ô hô => Ev.e_nc rfl (one_box (ka hô rfl rfl)) rfl rfl) rfl rfl ?_
    refine RunE.go0 [1] (fun ô hô => Ev.fieldBoxN fo46_0 sz44 rfl (ka hô rfl rfl) rfl rfl) rfl rfl ?_
    refine RunE.go0 [1] (fun ô hô => Ev.loadOne sz44 rfl (ka hô rfl rfl) rfl rfl) rfl rfl ?_
    obtain ⟨x3, e2, h⟩ := bdS h
    refine RunE.go [2] [] (fun ô hô => Ev.lendE hô [(2, 1)] [(1, 2)] rfl en49 (k_triviumref19_Reader_Line_M e2) rfl (.cons (.ren rfl) .nil) rfl rfl rfl rfl rfl (A := .v (.int .i64) x3) rfl (W := [(2, .box [.v (.sl Y_lex_Token) o2_0, .v (.int .i64) o2_1, .v (.int .i64) o2_2])]) rfl (.inl ⟨rfl, rfl, rfl⟩) rfl rfl) rfl rfl ?_
    refine RunE.go0 [1] (fun ô hô => Ev.move rfl rfl) rfl rfl ?_
    refine RunE.go0 [1] (fun ô hô => Ev.e_nc rfl (one_box (ka hô rfl rfl)) rfl rfl) rfl rfl ?_
    refine RunE.go0 [1] (fun ô hô => Ev.fieldBoxN fo46_0 sz44 rfl (ka hô rfl rfl) rfl rfl) rfl rfl ?_
    refine RunE.go0 [1] (fun ô hô => Ev.loadOne sz44 rfl (ka hô rfl rfl) rfl rfl) rfl rfl ?_
    refine RunE.go0 [2] (fun ô hô => Ev.e_nc rfl (one_box (ka hô rfl rfl)) rfl rfl) rfl rfl ?_
    refine RunE.go0 [2] (fun ô hô => Ev.fieldBox X rfl (ka hô rfl rfl) rfl rfl rfl) rfl rfl ?_
    refine RunE.go0 [2] (fun ô hô => Ev.loadCell X rfl (ka hô rfl rfl) rfl rfl rfl rfl) rfl rfl ?_
    refine RunE.go0 [] (fun ô hô => Ev.assign rfl rfl) rfl rfl ?_
    refine RunE.go0 [] (fun ô hô => Ev.assign rfl rfl) rfl rfl ?_
    refine RunE.nil ?_
    refine T.seq ?_
    refine T.region ?_
    refine Run.go (Ev.move rfl rfl) ?_
    refine Run.go (Ev.e_nc rfl rfl rfl rfl) ?_
    refine Run.go (Ev.fieldBoxN fo46_0 sz44 rfl rfl rfl rfl) ?_
    refine Run.go (Ev.loadOne sz44 rfl rfl rfl rfl) ?_
    obtain ⟨x5, e4, h⟩ := bdS h
    refine Run.go (Ev.w1 (Ev.lendM [(2, 1)] [(1, 2)] en51 (k_triviumref19_Reader_Figure_M e4) rfl (.cons (.ren rfl) .nil) rfl rfl rfl rfl rfl (A := .tup [.v .str x5.1, .v .bool x5.2.1]) rfl (W := [(2, .box [.v (.sl Y_lex_Token) o2_0, .v (.int .i64) x5.2.2, .v (.int .i64) o2_2])]) rfl rfl)) ?_
    refine Run.go (Ev.move rfl rfl) ?_
    refine Run.go (Ev.extract rfl rfl rfl) ?_
    refine Run.go (Ev.extract rfl rfl rfl) ?_
    refine Run.go (Ev.assign rfl rfl) ?_
    refine Run.go (Ev.assign rfl rfl) ?_
    refine Run.nil ?_
    refine T.seq ?_
    refine T.region ?_
    refine Run.go (Ev.move rfl rfl) ?_
    obtain ⟨x6, e7, h⟩ := bdS h
    refine Run.go (Ev.callC en52 (k_triviumref18_Prefix e7) rfl (.cons .v .nil) rfl rfl) ?_
    refine Run.go (Ev.move rfl rfl) ?_
    refine Run.go (Ev.extract rfl rfl rfl) ?_
    refine Run.go (Ev.extract rfl rfl rfl) ?_
    refine Run.go (Ev.allocN X 11 rfl rfl rfl) ?_
    refine Run.do_ (Ev.storeBox X rfl rfl rfl rfl rfl rfl rfl) ?_
    refine Run.go (Ev.assign rfl rfl) ?_
    refine Run.nil ?_
    refine T.seq ?_
    obtain ⟨v8, hv, h⟩ := bdS h
    refine T.cut (fun _ : Unit => (⟨[(0, .box 1 0), (2, .box 10 0), (3, .v (.int .i64) x3), (4, .v (.int .i64) o2_1), (7, .box 11 0), (8, .v (.int .i64) x6.2), (45, .v .bool v8)], [(1, .box [.box 2 0, .v (.int .i64) o1_1, .v (.int .i64) o1_2, .v (.int .i64) o1_3]), (2, .box [.v (.sl Y_lex_Token) o2_0, .v (.int .i64) x5.2.2, .v (.int .i64) o2_2]), (10, .box [.v (.int .u32) (0 : Int), .v (.int .i64) (0 : Int)]), (11, .box [.v (.int .u32) x6.1.1, .v (.int .i64) x6.1.2]), (100001, .place 1 (L 1).1 (L 1).2), (100002, .place 2 (L 2).1 (L 2).2)], 62⟩ : St)) (fun _ => True) ?_ (fun _ _ => ?_)
    · replace h := hv
      clear hv
      refine T.region ?_
      refine Run.go (Ev.move rfl rfl) ?_
      refine Run.go (Ev.not rfl rfl) ?_
      refine Run.go (Ev.move rfl rfl) ?_
      rcases boolCases (!x5.2.1) with hb9 | hb9
      · replace h := ifT hb9 h
        refine Run.offT rfl rfl rfl rfl hb9 ?_
        refine Run.offT rfl rfl rfl rfl hb9 ?_
        refine Run.go (Ev.pickT rfl hb9 rfl rfl) ?_
        refine Run.nil ?_
        cases h
        exact ⟨(), trivial, Ghost.only [(1, 1), (2, 2), (10, 10), (11, 11), (100001, 100001), (100002, 100002)] [0, 2, 3, 4, 7, 8, 45] rfl⟩
      · replace h := ifF hb9 h
        refine Run.on rfl rfl rfl hb9 (Ev.move rfl rfl) ?_
        refine Run.on rfl rfl rfl hb9 (Ev.int rfl rfl rfl rfl trivial) ?_
        refine Run.go (Ev.pickF rfl hb9 rfl rfl) ?_
        refine Run.nil ?_
        cases h
        exact ⟨(), trivial, Ghost.only [(1, 1), (2, 2), (10, 10), (11, 11), (100001, 100001), (100002, 100002)] [0, 2, 3, 4, 7, 8, 45] rfl⟩
    · refine T.cond rfl (fun hb10 => ?_) (fun hb10 => ?_)
      · replace h := ifT hb10 h
        refine T.seq ?_
        refine T.region ?_
        refine Run.go (Ev.move rfl rfl) ?_
        refine Run.go (Ev.e_nc rfl rfl rfl rfl) ?_
        refine Run.go (Ev.fieldBoxN fo46_0 sz44 rfl rfl rfl rfl) ?_
        refine Run.go (Ev.loadOne sz44 rfl rfl rfl rfl) ?_
        refine Run.go (Ev.move rfl rfl) ?_
        refine Run.go (Ev.e_nc rfl rfl rfl rfl) ?_
        refine Run.go (Ev.fieldBox X rfl rfl rfl rfl rfl) ?_
        refine Run.do_ (Ev.storeBox X rfl rfl rfl rfl rfl rfl rfl) ?_
        refine Run.nil ?_
        refine T.seq ?_
        refine T.region ?_
        refine Run.go (Ev.move rfl rfl) ?_
        obtain ⟨x12, e11, h⟩ := bdS h
        refine Run.go (Ev.w2 (Ev.lendM [(1, 1), (2, 2)] [(1, 1), (2, 2)] en28 (k_triviumref20_Reader_Fail_M e11) rfl (.cons (.ren rfl) .nil) rfl rfl rfl rfl rfl (A := .tup []) rfl (W := [(1, .box [.box 2 0, .v (.int .i64) x12.1, .v (.int .i64) x12.2, .v (.int .i64) o1_3]), (2, .box [.v (.sl Y_lex_Token) o2_0, .v (.int .i64) o2_1, .v (.int .i64) o2_2])]) rfl rfl)) ?_
        refine Run.nil ?_
        refine T.seq ?_
        refine T.region ?_
        refine Run.go (Ev.structC pl37 zs37 rfl rfl rfl) ?_
        refine Run.do_ (Ev.storeC sz37 rfl rfl rfl rfl rfl rfl) ?_
        refine Run.nil ?_
        refine T.ret ?_
        cases h
        exact FinM.of 100000 [(1, 1), (2, 2)] (inlR.one' (X := X) rfl (.cell rfl rfl rfl rfl)) rfl rfl rfl rfl ⟨(.inl ⟨rfl, _, rfl, .box, fun _ => rfl⟩), (.inl ⟨rfl, _, rfl, .box, fun _ => rfl⟩), trivial⟩
      · replace h := ifF hb10 h
        refine T.skip ?_
        obtain ⟨v13, hv, h⟩ := bdS h
        refine T.cut (fun _ : Unit => (⟨[(2, .box 10 0), (7, .box 11 0)], [(1, .box [.box 2 0, .v (.int .i64) o1_1, .v (.int .i64) o1_2, .v (.int .i64) v13]), (2, .box [.v (.sl Y_lex_Token) o2_0, .v (.int .i64) x5.2.2, .v (.int .i64) o2_2]), (10, .box [.v (.int .u32) (0 : Int), .v (.int .i64) (0 : Int)]), (11, .box [.v (.int .u32) x6.1.1, .v (.int .i64) x6.1.2]), (100001, .place 1 (L 1).1 (L 1).2), (100002, .place 2 (L 2).1 (L 2).2)], 62⟩ : St)) (fun _ => True) ?_ (fun _ _ => ?_)
        · replace h := hv
          clear hv
          refine T.seq ?_
          refine T.region ?_
          refine Run.go (Ev.move rfl rfl) ?_
          refine Run.go (Ev.int rfl rfl rfl rfl trivial) ?_
          refine Run.nil ?_
          refine T.cond rfl (fun hb14 => ?_) (fun hb14 => ?_)
          · replace h := ifT hb14 h
            refine T.region ?_
            refine Run.go (Ev.move rfl rfl) ?_
            refine Run.go (Ev.move rfl rfl) ?_
            obtain ⟨x16, e15, h⟩ := bdS h
            refine Run.go (Ev.w2 (Ev.lendM [(1, 1), (2, 2)] [(1, 1), (2, 2)] en53 (k_triviumref20_Reader_Mark_M e15) rfl (.cons (.ren rfl) (.cons (.ren rfl) .nil)) rfl rfl rfl rfl rfl (A := .tup []) rfl (W := [(1, .box [.box 2 0, .v (.int .i64) o1_1, .v (.int .i64) o1_2, .v (.int .i64) x16]), (2, .box [.v (.sl Y_lex_Token) o2_0, .v (.int .i64) x5.2.2, .v (.int .i64) o2_2])]) rfl rfl)) ?_
            refine Run.nil ?_
            cases h
            exact ⟨(), trivial, Ghost.only [(1, 1), (2, 2), (10, 10), (11, 11), (100001, 100001), (100002, 100002)] [2, 7] rfl⟩
          · replace h := ifF hb14 h
            refine T.skip ?_
            cases h
            exact ⟨(), trivial, Ghost.only [(1, 1), (2, 2), (10, 10), (11, 11), (100001, 100001), (100002, 100002)] [2, 7] rfl⟩
        · refine T.seq ?_
          refine T.region ?_
          refine Run.go (Ev.loadBox X rfl rfl rfl rfl rfl) ?_
          refine Run.do_ (Ev.storeBox X rfl rfl rfl rfl rfl rfl rfl) ?_
          refine Run.nil ?_
          refine T.ret ?_
          cases h
          exact FinM.of 100000 [(1, 1), (2, 2)] (inlR.one' (X := X) rfl (.cell rfl rfl rfl rfl)) rfl rfl rfl rfl ⟨(.inl ⟨rfl, _, rfl, .box, fun _ => rfl⟩), (.inl ⟨rfl, _, rfl, .box, fun _ => rfl⟩), trivial⟩
end Go.Proofs.YtboghejfmmigkaaGreatDoor.AE
/- The code comes to the printed functions (printed by a program of ours). -/
namespace Go.Proofs.YtboghejfmmigkaaGreatDoor.AE
open Go Go.RowKit Go.Proofs.YtboghejfmmigkaaGreatDoor.AP
set_option linter.unusedVariables false
set_option maxRecDepth 20000
theorem k_triviumref21_address_M {o1_1 : Int} {o1_2 : Int} {o1_3 : Int} {o2_0 : (List D_lex_Token)} {o2_1 : Int} {o2_2 : Int} {y : Int × Int × Int × Int × Int} (h : m_triviumref21_address_M o1_1 o1_2 o1_3 o2_0 o2_1 o2_2 = some y) : SpecM Tryz.prog 31 [(.box 1 0)] [(1, .box [.box 2 0, .v (.int .i64) o1_1, .v (.int .i64) o1_2, .v (.int .i64) o1_3]), (2, .box [.v (.sl Y_lex_Token) o2_0, .v (.int .i64) o2_1, .v (.int .i64) o2_2])] (.v (.int .u32) y.1) [(1, .box [.box 2 0, .v (.int .i64) y.2.1, .v (.int .i64) y.2.2.1, .v (.int .i64) y.2.2.2.1]), (2, .box [.v (.sl Y_lex_Token) o2_0, .v (.int .i64) y.2.2.2.2, .v (.int .i64) o2_2])] := by
  rw [m_triviumref21_address_M] at h
  refine SpecM.enter 100000 [(.box 1 0)] 60 Tryz.func31 rfl rfl rfl rfl (fun L => ?_)
  refine T.seq ?_
  refine T.region ?_
  refine Run.go (Ev.assign rfl rfl) ?_
  refine Run.nil ?_
  refine T.seq ?_
  refine T.seq ?_
  refine T.region ?_
  refine Run.go (Ev.move rfl rfl) ?_
  refine Run.go (Ev.e_nc rfl rfl rfl rfl) ?_
  refine Run.go (Ev.fieldBoxN fo46_1 sz3 rfl rfl rfl rfl) ?_
  refine Run.go (Ev.loadCell X rfl rfl rfl rfl rfl rfl) ?_
  refine Run.go (Ev.int rfl rfl rfl rfl trivial) ?_
  refine Run.nil ?_
  refine T.cond rfl (fun hb1 => ?_) (fun hb1 => ?_)
  · replace h := ifT hb1 h
    refine T.seq ?_
    refine T.region ?_
    refine Run.go (Ev.assign rfl rfl) ?_
    refine Run.nil ?_
    refine T.ret ?_
    cases h
    exact FinM.of 100000 [(1, 1), (2, 2)] (inlR.one' (X := X) rfl (.tmp rfl)) rfl rfl rfl rfl ⟨(.inl ⟨rfl, _, rfl, .box, fun _ => rfl⟩), (.inl ⟨rfl, _, rfl, .box, fun _ => rfl⟩), trivial⟩
  · replace h := ifF hb1 h
    refine T.skip ?_
    refine T.seq ?_
    refine T.drawE [([1], []), ([1], []), ([1], []), ([1], []), ([2], []), ([1], []), ([1], []), ([1], []), ([1], []), ([2], []), ([2], []), ([2], []), ([], []), ([], [])] [0, 1, 3, 7, 15, 0, 32, 96, 224, 480, 992, 2016, 31, 8191] (by kernel_rfl) (by kernel_rfl) ?_
    refine RunE.go0 [1] (fun ô hô => Ev.move rfl rfl) rfl rfl ?_
    refine RunE.go0 [1] (fun ô hô => Ev.e_nc rfl (one_box (ka hô rfl rfl)) rfl rfl) rfl rfl ?_
    refine RunE.go0 [1] (fun ô hô => Ev.fieldBoxN fo46_0 sz44 rfl (ka hô rfl rfl) rfl rfl) rfl rfl ?_
    refine RunE.go0 [1] (fun ô hô => Ev.loadOne sz44 rfl (ka hô rfl rfl) rfl rfl) rfl rfl ?_
    obtain ⟨x3, e2, h⟩ := bdS h
    refine RunE.go [2] [] (fun ô hô => Ev.lendE hô [(2, 1)] [(1, 2)] rfl en49 (k_triviumref19_Reader_Line_M e2) rfl (.cons (.ren rfl) .nil) rfl rfl rfl rfl rfl (A := .v (.int .i64) x3) rfl (W := [(2, .box [.v (.sl Y_lex_Token) o2_0, .v (.int .i64) o2_1, .v (.int .i64) o2_2])]) rfl (.inl ⟨rfl, rfl, rfl⟩) rfl rfl) rfl rfl ?_
    refine RunE.go0 [1] (fun ô hô => Ev.move rfl rfl) rfl rfl ?_
    refine RunE.go0 [1] (fun ô hô => Ev.e_nc rfl (one_box (ka hô rfl rfl)) rfl rfl) rfl rfl ?_
    refine RunE.go0 [1] (fun ô hô => Ev.fieldBoxN fo46_0 sz44 rfl (ka hô rfl rfl) rfl rfl) rfl rfl ?_
    refine RunE.go0 [1] (fun ô hô => Ev.loadOne sz44 rfl (ka hô rfl rfl) rfl rfl) rfl rfl ?_
    refine RunE.go0 [2] (fun ô hô => Ev.e_nc rfl (one_box (ka hô rfl rfl)) rfl rfl) rfl rfl ?_
    refine RunE.go0 [2] (fun ô hô => Ev.fieldBox X rfl (ka hô rfl rfl) rfl rfl rfl) rfl rfl ?_
    refine RunE.go0 [2] (fun ô hô => Ev.loadCell X rfl (ka hô rfl rfl) rfl rfl rfl rfl) rfl rfl ?_
    refine RunE.go0 [] (fun ô hô => Ev.assign rfl rfl) rfl rfl ?_
    refine RunE.go0 [] (fun ô hô => Ev.assign rfl rfl) rfl rfl ?_
    refine RunE.nil ?_
    refine T.seq ?_
    refine T.region ?_
    refine Run.go (Ev.move rfl rfl) ?_
    refine Run.go (Ev.e_nc rfl rfl rfl rfl) ?_
    refine Run.go (Ev.fieldBoxN fo46_0 sz44 rfl rfl rfl rfl) ?_
    refine Run.go (Ev.loadOne sz44 rfl rfl rfl rfl) ?_
    obtain ⟨x5, e4, h⟩ := bdS h
    refine Run.go (Ev.w1 (Ev.lendM [(2, 1)] [(1, 2)] en51 (k_triviumref19_Reader_Figure_M e4) rfl (.cons (.ren rfl) .nil) rfl rfl rfl rfl rfl (A := .tup [.v .str x5.1, .v .bool x5.2.1]) rfl (W := [(2, .box [.v (.sl Y_lex_Token) o2_0, .v (.int .i64) x5.2.2, .v (.int .i64) o2_2])]) rfl rfl)) ?_
    refine Run.go (Ev.move rfl rfl) ?_
    refine Run.go (Ev.extract rfl rfl rfl) ?_
    refine Run.go (Ev.extract rfl rfl rfl) ?_
    refine Run.go (Ev.assign rfl rfl) ?_
    refine Run.go (Ev.assign rfl rfl) ?_
    refine Run.nil ?_
    refine T.seq ?_
    refine T.region ?_
    refine Run.go (Ev.move rfl rfl) ?_
    obtain ⟨x6, e7, h⟩ := bdS h
    refine Run.go (Ev.callC en54 (k_triviumref18_Parse e7) rfl (.cons .v .nil) rfl rfl) ?_
    refine Run.go (Ev.move rfl rfl) ?_
    refine Run.go (Ev.extract rfl rfl rfl) ?_
    refine Run.go (Ev.extract rfl rfl rfl) ?_
    refine Run.go (Ev.assign rfl rfl) ?_
    refine Run.go (Ev.assign rfl rfl) ?_
    refine Run.nil ?_
    refine T.seq ?_
    obtain ⟨v8, hv, h⟩ := bdS h
    refine T.cut (fun _ : Unit => (⟨[(0, .box 1 0), (3, .v (.int .i64) x3), (4, .v (.int .i64) o2_1), (7, .v (.int .u32) x6.1), (8, .v (.int .i64) x6.2), (44, .v .bool v8)], [(1, .box [.box 2 0, .v (.int .i64) o1_1, .v (.int .i64) o1_2, .v (.int .i64) o1_3]), (2, .box [.v (.sl Y_lex_Token) o2_0, .v (.int .i64) x5.2.2, .v (.int .i64) o2_2]), (100001, .place 1 (L 1).1 (L 1).2), (100002, .place 2 (L 2).1 (L 2).2)], 60⟩ : St)) (fun _ => True) ?_ (fun _ _ => ?_)
    · replace h := hv
      clear hv
      refine T.region ?_
      refine Run.go (Ev.move rfl rfl) ?_
      refine Run.go (Ev.not rfl rfl) ?_
      refine Run.go (Ev.move rfl rfl) ?_
      rcases boolCases (!x5.2.1) with hb9 | hb9
      · replace h := ifT hb9 h
        refine Run.offT rfl rfl rfl rfl hb9 ?_
        refine Run.offT rfl rfl rfl rfl hb9 ?_
        refine Run.go (Ev.pickT rfl hb9 rfl rfl) ?_
        refine Run.nil ?_
        cases h
        exact ⟨(), trivial, Ghost.only [(1, 1), (2, 2), (100001, 100001), (100002, 100002)] [0, 3, 4, 7, 8, 44] rfl⟩
      · replace h := ifF hb9 h
        refine Run.on rfl rfl rfl hb9 (Ev.move rfl rfl) ?_
        refine Run.on rfl rfl rfl hb9 (Ev.int rfl rfl rfl rfl trivial) ?_
        refine Run.go (Ev.pickF rfl hb9 rfl rfl) ?_
        refine Run.nil ?_
        cases h
        exact ⟨(), trivial, Ghost.only [(1, 1), (2, 2), (100001, 100001), (100002, 100002)] [0, 3, 4, 7, 8, 44] rfl⟩
    · refine T.cond rfl (fun hb10 => ?_) (fun hb10 => ?_)
      · replace h := ifT hb10 h
        refine T.seq ?_
        refine T.region ?_
        refine Run.go (Ev.move rfl rfl) ?_
        refine Run.go (Ev.e_nc rfl rfl rfl rfl) ?_
        refine Run.go (Ev.fieldBoxN fo46_0 sz44 rfl rfl rfl rfl) ?_
        refine Run.go (Ev.loadOne sz44 rfl rfl rfl rfl) ?_
        refine Run.go (Ev.move rfl rfl) ?_
        refine Run.go (Ev.e_nc rfl rfl rfl rfl) ?_
        refine Run.go (Ev.fieldBox X rfl rfl rfl rfl rfl) ?_
        refine Run.do_ (Ev.storeBox X rfl rfl rfl rfl rfl rfl rfl) ?_
        refine Run.nil ?_
        refine T.seq ?_
        refine T.region ?_
        refine Run.go (Ev.move rfl rfl) ?_
        obtain ⟨x12, e11, h⟩ := bdS h
        refine Run.go (Ev.w2 (Ev.lendM [(1, 1), (2, 2)] [(1, 1), (2, 2)] en28 (k_triviumref20_Reader_Fail_M e11) rfl (.cons (.ren rfl) .nil) rfl rfl rfl rfl rfl (A := .tup []) rfl (W := [(1, .box [.box 2 0, .v (.int .i64) x12.1, .v (.int .i64) x12.2, .v (.int .i64) o1_3]), (2, .box [.v (.sl Y_lex_Token) o2_0, .v (.int .i64) o2_1, .v (.int .i64) o2_2])]) rfl rfl)) ?_
        refine Run.nil ?_
        refine T.seq ?_
        refine T.region ?_
        refine Run.go (Ev.assign rfl rfl) ?_
        refine Run.nil ?_
        refine T.ret ?_
        cases h
        exact FinM.of 100000 [(1, 1), (2, 2)] (inlR.one' (X := X) rfl (.tmp rfl)) rfl rfl rfl rfl ⟨(.inl ⟨rfl, _, rfl, .box, fun _ => rfl⟩), (.inl ⟨rfl, _, rfl, .box, fun _ => rfl⟩), trivial⟩
      · replace h := ifF hb10 h
        refine T.skip ?_
        obtain ⟨v13, hv, h⟩ := bdS h
        refine T.cut (fun _ : Unit => (⟨[(7, .v (.int .u32) x6.1)], [(1, .box [.box 2 0, .v (.int .i64) o1_1, .v (.int .i64) o1_2, .v (.int .i64) v13]), (2, .box [.v (.sl Y_lex_Token) o2_0, .v (.int .i64) x5.2.2, .v (.int .i64) o2_2]), (100001, .place 1 (L 1).1 (L 1).2), (100002, .place 2 (L 2).1 (L 2).2)], 60⟩ : St)) (fun _ => True) ?_ (fun _ _ => ?_)
        · replace h := hv
          clear hv
          refine T.seq ?_
          refine T.region ?_
          refine Run.go (Ev.move rfl rfl) ?_
          refine Run.go (Ev.int rfl rfl rfl rfl trivial) ?_
          refine Run.nil ?_
          refine T.cond rfl (fun hb14 => ?_) (fun hb14 => ?_)
          · replace h := ifT hb14 h
            refine T.region ?_
            refine Run.go (Ev.move rfl rfl) ?_
            refine Run.go (Ev.move rfl rfl) ?_
            obtain ⟨x16, e15, h⟩ := bdS h
            refine Run.go (Ev.w2 (Ev.lendM [(1, 1), (2, 2)] [(1, 1), (2, 2)] en53 (k_triviumref20_Reader_Mark_M e15) rfl (.cons (.ren rfl) (.cons (.ren rfl) .nil)) rfl rfl rfl rfl rfl (A := .tup []) rfl (W := [(1, .box [.box 2 0, .v (.int .i64) o1_1, .v (.int .i64) o1_2, .v (.int .i64) x16]), (2, .box [.v (.sl Y_lex_Token) o2_0, .v (.int .i64) x5.2.2, .v (.int .i64) o2_2])]) rfl rfl)) ?_
            refine Run.nil ?_
            cases h
            exact ⟨(), trivial, Ghost.only [(1, 1), (2, 2), (100001, 100001), (100002, 100002)] [7] rfl⟩
          · replace h := ifF hb14 h
            refine T.skip ?_
            cases h
            exact ⟨(), trivial, Ghost.only [(1, 1), (2, 2), (100001, 100001), (100002, 100002)] [7] rfl⟩
        · refine T.seq ?_
          refine T.region ?_
          refine Run.go (Ev.move rfl rfl) ?_
          refine Run.go (Ev.assign rfl rfl) ?_
          refine Run.nil ?_
          refine T.ret ?_
          cases h
          exact FinM.of 100000 [(1, 1), (2, 2)] (inlR.one' (X := X) rfl (.tmp rfl)) rfl rfl rfl rfl ⟨(.inl ⟨rfl, _, rfl, .box, fun _ => rfl⟩), (.inl ⟨rfl, _, rfl, .box, fun _ => rfl⟩), trivial⟩
theorem en88 : Enters Tryz.prog 88 := ⟨_, Tryz.func88, rfl, rfl⟩
theorem k_triviumref02_Trim {p0 : (List Int)} {y : (List Int)} (h : m_triviumref02_Trim p0 = some y) : Spec Tryz.prog 88 [(.v (.sl (.int .i64)) p0)] (.v (.sl (.int .i64)) y) [] := by
  rw [m_triviumref02_Trim] at h
  refine enterN [(.v (.sl (.int .i64)) p0)] 23 Tryz.func88 rfl rfl rfl ?_
  refine T.seq ?_
  refine T.region ?_
  refine Run.go (Ev.assign rfl rfl) ?_
  refine Run.nil ?_
  refine T.seq ?_
  refine T.region ?_
  refine Run.go (Ev.move rfl rfl) ?_
  refine Run.go (Ev.len X rfl rfl rfl rfl) ?_
  refine Run.go (Ev.assign rfl rfl) ?_
  refine Run.nil ?_
  obtain ⟨v1, hv, h⟩ := bdS h
  refine T.cut (fun _ : Unit => (⟨[(0, .v (.sl (.int .i64)) p0), (3, .v (.int .i64) v1)], [], 23⟩ : St)) (fun _ => True) ?_ (fun _ _ => ?_)
  · replace h := hv
    clear hv
    refine T.block ?_
    refine T.loop (LoopT.ghost (Ghost.only [] [0, 3] rfl) (LoopT.run (fun q : Int => (⟨[(0, .v (.sl (.int .i64)) p0), (3, .v (.int .i64) q)], [], 23⟩ : St)) (fun v2 z1 h hz1 => ?_) h))
    rw [m_triviumref02_Trim_l1] at h
    refine T.seq ?_
    obtain ⟨v3, hv, h⟩ := bdS h
    refine T.cut (fun _ : Unit => (⟨[(0, .v (.sl (.int .i64)) p0), (3, .v (.int .i64) v2), (15, .v .bool v3)], [], 23⟩ : St)) (fun _ => True) ?_ (fun _ _ => ?_)
    · replace h := hv
      clear hv
      refine T.region ?_
      refine Run.go (Ev.move rfl rfl) ?_
      refine Run.go (Ev.int rfl rfl rfl rfl trivial) ?_
      refine Run.go (Ev.move rfl rfl) ?_
      rcases boolCases (decide (0 < v2)) with hb4 | hb4
      · replace h := ifT hb4 h
        refine Run.on rfl rfl rfl hb4 (Ev.move rfl rfl) ?_
        refine Run.on rfl rfl rfl hb4 (Ev.move rfl rfl) ?_
        refine Run.on rfl rfl rfl hb4 (Ev.int rfl rfl rfl rfl trivial) ?_
        obtain ⟨x5, e6, h⟩ := bdS h
        refine Run.on rfl rfl rfl hb4 (Ev.e_rd X e6 rfl rfl rfl rfl) ?_
        refine Run.on rfl rfl rfl hb4 (Ev.load X rfl rfl rfl) ?_
        refine Run.on rfl rfl rfl hb4 (Ev.int rfl rfl rfl rfl trivial) ?_
        refine Run.go (Ev.pickT rfl hb4 rfl rfl) ?_
        refine Run.nil ?_
        cases h
        exact ⟨(), trivial, Ghost.only [] [0, 3, 15] rfl⟩
      · replace h := ifF hb4 h
        refine Run.offT rfl rfl rfl rfl hb4 ?_
        refine Run.offT rfl rfl rfl rfl hb4 ?_
        refine Run.offT rfl rfl rfl rfl hb4 ?_
        refine Run.offT rfl rfl rfl rfl hb4 ?_
        refine Run.offT rfl rfl rfl rfl hb4 ?_
        refine Run.offT rfl rfl rfl rfl hb4 ?_
        refine Run.go (Ev.pickF rfl hb4 rfl rfl) ?_
        refine Run.nil ?_
        cases h
        exact ⟨(), trivial, Ghost.only [] [0, 3, 15] rfl⟩
    · refine T.cond rfl (fun hb7 => ?_) (fun hb7 => ?_)
      · replace h := ifT hb7 h
        refine T.skip ?_
        refine T.block ?_
        refine T.region ?_
        refine Run.go (Ev.move rfl rfl) ?_
        refine Run.go (Ev.int rfl rfl rfl rfl trivial) ?_
        refine Run.go (Ev.assign rfl rfl) ?_
        refine Run.nil ?_
        cases h
        exact LoopT.ghost (Ghost.only [] [0, 3] rfl) hz1
      · replace h := ifF hb7 h
        refine T.exit ?_
        cases h
        cases hz1
        exact ⟨(), trivial, Ghost.only [] [0, 3] rfl⟩
  · refine T.seq ?_
    refine T.region ?_
    refine Run.go (Ev.build X 1 rfl rfl rfl rfl rfl rfl rfl rfl) ?_
    refine Run.go (Ev.move rfl rfl) ?_
    refine Run.go (Ev.move rfl rfl) ?_
    obtain ⟨x8, e9, h⟩ := bdS h
    refine Run.go (Ev.e_ct X e9 rfl rfl rfl (fun _ h => by cases h) (fun _ => rfl) (fun _ _ => cutAt_of rfl) (fun h => by cases h)) ?_
    obtain ⟨x10, e11, h⟩ := bdS h
    refine Run.go (Ev.e_ap X 2 e11 rfl rfl rfl .v rfl rfl rfl rfl rfl) ?_
    refine Run.go (Ev.assign rfl rfl) ?_
    refine Run.nil ?_
    refine T.ret ?_
    cases h
    exact Fin.one rfl (.own rfl)
theorem en74 : Enters Tryz.prog 74 := ⟨_, Tryz.func74, rfl, rfl⟩
set_option maxHeartbeats 1000000 in
theorem k_triviumref02_MulAdd {p0 : (List Int)} {p1 : Int} {p2 : Int} {y : (List Int)} (h : m_triviumref02_MulAdd p0 p1 p2 = some y) : Spec Tryz.prog 74 [(.v (.sl (.int .i64)) p0), (.v (.int .i64) p1), (.v (.int .i64) p2)] (.v (.sl (.int .i64)) y) [] := by
  rw [m_triviumref02_MulAdd] at h
  refine enterN [(.v (.sl (.int .i64)) p0), (.v (.int .i64) p1), (.v (.int .i64) p2)] 42 Tryz.func74 rfl rfl rfl ?_
  refine T.seq ?_
  refine T.region ?_
  refine Run.go (Ev.assign rfl rfl) ?_
  refine Run.nil ?_
  refine T.seq ?_
  refine T.region ?_
  refine Run.go (Ev.build X 1 rfl rfl rfl rfl rfl rfl rfl rfl) ?_
  refine Run.go (Ev.assign rfl rfl) ?_
  refine Run.nil ?_
  obtain ⟨⟨v1, v2⟩, hv, h⟩ := bdS h
  refine T.cut (fun _ : Unit => (⟨[(2, .v (.int .i64) v1), (7, .own 5)], [(5, .arr 3 (.int .i64) v2)], 42⟩ : St)) (fun _ => True) ?_ (fun _ _ => ?_)
  · replace h := hv
    clear hv
    refine T.seq ?_
    refine T.region ?_
    refine Run.go (Ev.assign rfl rfl) ?_
    refine Run.nil ?_
    refine T.block ?_
    refine T.loop (LoopT.ghost (Ghost.only [(1, 15)] [0, 1, 2, 7, 8] rfl) (LoopT.run (fun q : Int × Int × (List Int) => (⟨[(0, .v (.sl (.int .i64)) p0), (1, .v (.int .i64) p1), (2, .v (.int .i64) q.1), (7, .own 15), (8, .v (.int .i64) q.2.1)], [(15, .arr 3 (.int .i64) q.2.2)], 42⟩ : St)) (fun q z1 h hz1 => ?_) h))
    obtain ⟨v3, v4, v5⟩ := q
    dsimp only
    rw [m_triviumref02_MulAdd_l1] at h
    refine T.seq ?_
    refine T.seq ?_
    refine T.region ?_
    refine Run.go (Ev.move rfl rfl) ?_
    refine Run.go (Ev.move rfl rfl) ?_
    refine Run.go (Ev.len X rfl rfl rfl rfl) ?_
    refine Run.go (Ev.int rfl rfl rfl rfl trivial) ?_
    refine Run.nil ?_
    refine T.cond rfl (fun hb6 => ?_) (fun hb6 => ?_)
    · replace h := ifT hb6 h
      refine T.skip ?_
      refine T.seq ?_
      refine T.block ?_
      refine T.seq ?_
      refine T.region ?_
      refine Run.go (Ev.move rfl rfl) ?_
      refine Run.go (Ev.move rfl rfl) ?_
      refine Run.go (Ev.move rfl rfl) ?_
      obtain ⟨x7, e8, h⟩ := bdS h
      refine Run.go (Ev.e_rd X e8 rfl rfl rfl rfl) ?_
      refine Run.go (Ev.load X rfl rfl rfl) ?_
      refine Run.go (Ev.move rfl rfl) ?_
      refine Run.go (Ev.int rfl rfl rfl rfl trivial) ?_
      refine Run.go (Ev.int rfl rfl rfl rfl trivial) ?_
      refine Run.go (Ev.assign rfl rfl) ?_
      refine Run.nil ?_
      refine T.seq ?_
      refine T.region ?_
      refine Run.go (Ev.move rfl rfl) ?_
      refine Run.go (Ev.move rfl rfl) ?_
      obtain ⟨x9, e10, h⟩ := bdS h
      refine Run.go (Ev.e_rm e10 rfl rfl rfl) ?_
      refine Run.go (Ev.build X 19 rfl rfl rfl rfl rfl rfl rfl rfl) ?_
      obtain ⟨x11, e12, h⟩ := bdS h
      refine Run.go (Ev.e_ap X 20 e12 rfl rfl rfl (.own rfl) rfl rfl rfl rfl rfl) ?_
      refine Run.go (Ev.assign rfl rfl) ?_
      refine Run.nil ?_
      refine T.region ?_
      refine Run.go (Ev.move rfl rfl) ?_
      obtain ⟨x13, e14, h⟩ := bdS h
      refine Run.go (Ev.e_qd e14 rfl rfl rfl) ?_
      refine Run.go (Ev.assign rfl rfl) ?_
      refine Run.nil ?_
      refine T.region ?_
      refine Run.go (Ev.move rfl rfl) ?_
      refine Run.go (Ev.int rfl rfl rfl rfl trivial) ?_
      refine Run.go (Ev.assign rfl rfl) ?_
      refine Run.nil ?_
      cases h
      exact LoopT.ghost (Ghost.only [(20, 15)] [0, 1, 2, 7, 8] rfl) hz1
    · replace h := ifF hb6 h
      refine T.exit ?_
      cases h
      cases hz1
      exact ⟨(), trivial, Ghost.only [(15, 5)] [2, 7] rfl⟩
  · obtain ⟨v15, hv, h⟩ := bdS h
    refine T.cut (fun _ : Unit => (⟨[(7, .own 24)], [(24, .arr 3 (.int .i64) v15)], 42⟩ : St)) (fun _ => True) ?_ (fun _ _ => ?_)
    · replace h := hv
      clear hv
      refine T.block ?_
      refine T.loop (LoopT.ghost (Ghost.only [(5, 34)] [2, 7] rfl) (LoopT.run (fun q : Int × (List Int) => (⟨[(2, .v (.int .i64) q.1), (7, .own 34)], [(34, .arr 3 (.int .i64) q.2)], 42⟩ : St)) (fun q z1 h hz1 => ?_) h))
      obtain ⟨v16, v17⟩ := q
      dsimp only
      rw [m_triviumref02_MulAdd_l2] at h
      refine T.seq ?_
      refine T.seq ?_
      refine T.region ?_
      refine Run.go (Ev.move rfl rfl) ?_
      refine Run.go (Ev.int rfl rfl rfl rfl trivial) ?_
      refine Run.nil ?_
      refine T.cond rfl (fun hb18 => ?_) (fun hb18 => ?_)
      · replace h := ifT hb18 h
        refine T.skip ?_
        refine T.block ?_
        refine T.seq ?_
        refine T.region ?_
        refine Run.go (Ev.move rfl rfl) ?_
        refine Run.go (Ev.move rfl rfl) ?_
        obtain ⟨x19, e20, h⟩ := bdS h
        refine Run.go (Ev.e_rm e20 rfl rfl rfl) ?_
        refine Run.go (Ev.build X 38 rfl rfl rfl rfl rfl rfl rfl rfl) ?_
        obtain ⟨x21, e22, h⟩ := bdS h
        refine Run.go (Ev.e_ap X 39 e22 rfl rfl rfl (.own rfl) rfl rfl rfl rfl rfl) ?_
        refine Run.go (Ev.assign rfl rfl) ?_
        refine Run.nil ?_
        refine T.region ?_
        refine Run.go (Ev.move rfl rfl) ?_
        obtain ⟨x23, e24, h⟩ := bdS h
        refine Run.go (Ev.e_qd e24 rfl rfl rfl) ?_
        refine Run.go (Ev.assign rfl rfl) ?_
        refine Run.nil ?_
        cases h
        exact LoopT.ghost (Ghost.only [(39, 34)] [2, 7] rfl) hz1
      · replace h := ifF hb18 h
        refine T.exit ?_
        cases h
        cases hz1
        exact ⟨(), trivial, Ghost.only [(34, 24)] [7] rfl⟩
    · refine T.seq ?_
      refine T.region ?_
      refine Run.go (Ev.move rfl rfl) ?_
      refine Run.ghost (Ghost.firmAll (id := 24) rfl) ?_
      obtain ⟨x25, e26, h⟩ := bdS h
      refine Run.go (Ev.callC en88 (k_triviumref02_Trim e26) rfl (.cons .v .nil) rfl rfl) ?_
      refine Run.go (Ev.assign rfl rfl) ?_
      refine Run.nil ?_
      refine T.ret ?_
      cases h
      exact Fin.one rfl .v
theorem en76 : Enters Tryz.prog 76 := ⟨_, Tryz.func76, rfl, rfl⟩
theorem k_triviumref02_Num {p0 : Int} {y : (List Int)} (h : m_triviumref02_Num p0 = some y) : Spec Tryz.prog 76 [(.v (.int .i64) p0)] (.v (.sl (.int .i64)) y) [] := by
  rw [m_triviumref02_Num] at h
  refine enterN [(.v (.int .i64) p0)] 6 Tryz.func76 rfl rfl rfl ?_
  refine T.seq ?_
  refine T.region ?_
  refine Run.go (Ev.assign rfl rfl) ?_
  refine Run.nil ?_
  refine T.seq ?_
  refine T.region ?_
  refine Run.go (Ev.build X 1 rfl rfl rfl rfl rfl rfl rfl rfl) ?_
  refine Run.go (Ev.move rfl rfl) ?_
  refine Run.ghost (Ghost.firmAll (id := 1) rfl) ?_
  obtain ⟨x1, e2, h⟩ := bdS h
  refine Run.go (Ev.callC en74 (k_triviumref02_MulAdd e2) rfl (.cons .v (.cons .v (.cons .v .nil))) rfl rfl) ?_
  refine Run.go (Ev.assign rfl rfl) ?_
  refine Run.nil ?_
  refine T.ret ?_
  cases h
  exact Fin.one rfl .v
theorem en75 : Enters Tryz.prog 75 := ⟨_, Tryz.func75, rfl, rfl⟩
set_option maxHeartbeats 1000000 in
theorem k_triviumref02_Cmp {p0 : (List Int)} {p1 : (List Int)} {y : Int} (h : m_triviumref02_Cmp p0 p1 = some y) : Spec Tryz.prog 75 [(.v (.sl (.int .i64)) p0), (.v (.sl (.int .i64)) p1)] (.v (.int .i64) y) [] := by
  rw [m_triviumref02_Cmp] at h
  refine enterN [(.v (.sl (.int .i64)) p0), (.v (.sl (.int .i64)) p1)] 41 Tryz.func75 rfl rfl rfl ?_
  refine T.seq ?_
  refine T.region ?_
  refine Run.go (Ev.assign rfl rfl) ?_
  refine Run.nil ?_
  refine T.seq ?_
  refine T.seq ?_
  refine T.region ?_
  refine Run.go (Ev.move rfl rfl) ?_
  refine Run.go (Ev.len X rfl rfl rfl rfl) ?_
  refine Run.go (Ev.move rfl rfl) ?_
  refine Run.go (Ev.len X rfl rfl rfl rfl) ?_
  refine Run.go (Ev.int rfl rfl rfl rfl trivial) ?_
  refine Run.nil ?_
  refine T.cond rfl (fun hb1 => ?_) (fun hb1 => ?_)
  · replace h := ifT hb1 h
    refine T.seq ?_
    refine T.seq ?_
    refine T.region ?_
    refine Run.go (Ev.move rfl rfl) ?_
    refine Run.go (Ev.len X rfl rfl rfl rfl) ?_
    refine Run.go (Ev.move rfl rfl) ?_
    refine Run.go (Ev.len X rfl rfl rfl rfl) ?_
    refine Run.go (Ev.int rfl rfl rfl rfl trivial) ?_
    refine Run.nil ?_
    refine T.cond rfl (fun hb2 => ?_) (fun hb2 => ?_)
    · replace h := ifT hb2 h
      refine T.seq ?_
      refine T.region ?_
      refine Run.go (Ev.assign rfl rfl) ?_
      refine Run.nil ?_
      refine T.ret ?_
      cases h
      exact Fin.one rfl .v
    · replace h := ifF hb2 h
      refine T.skip ?_
      refine T.seq ?_
      refine T.region ?_
      refine Run.go (Ev.assign rfl rfl) ?_
      refine Run.nil ?_
      refine T.ret ?_
      cases h
      exact Fin.one rfl .v
  · replace h := ifF hb1 h
    refine T.skip ?_
    refine T.seq ?_
    refine T.seq ?_
    refine T.region ?_
    refine Run.go (Ev.move rfl rfl) ?_
    refine Run.go (Ev.len X rfl rfl rfl rfl) ?_
    refine Run.go (Ev.int rfl rfl rfl rfl trivial) ?_
    refine Run.go (Ev.assign rfl rfl) ?_
    refine Run.nil ?_
    refine T.block ?_
    refine T.loop (LoopT.ghost (Ghost.only [] [0, 1, 5] rfl) (LoopT.run (fun q : Int => (⟨[(0, .v (.sl (.int .i64)) p0), (1, .v (.sl (.int .i64)) p1), (5, .v (.int .i64) q)], [], 41⟩ : St)) (fun v3 z1 h hz1 => ?_) h))
    rw [m_triviumref02_Cmp_l1] at h
    refine T.seq ?_
    refine T.seq ?_
    refine T.region ?_
    refine Run.go (Ev.move rfl rfl) ?_
    refine Run.go (Ev.int rfl rfl rfl rfl trivial) ?_
    refine Run.nil ?_
    refine T.cond rfl (fun hb4 => ?_) (fun hb4 => ?_)
    · replace h := ifT hb4 h
      refine T.skip ?_
      refine T.seq ?_
      refine T.block ?_
      refine T.seq ?_
      refine T.seq ?_
      refine T.drawM [] [0, 0, 3, 7, 0, 0, 48, 112, 255] (by kernel_rfl) (by kernel_rfl) ?_
      refine RunD.w (fun _ => Ev.move rfl rfl) ?_
      refine RunD.w (fun _ => Ev.move rfl rfl) ?_
      obtain ⟨x5, e6, h⟩ := bdS h
      refine RunD.a rfl rfl (Ev.e_rd X e6 rfl rfl rfl rfl) ?_
      refine RunD.a rfl rfl (Ev.load X rfl rfl rfl) ?_
      refine RunD.w (fun _ => Ev.move rfl rfl) ?_
      refine RunD.w (fun _ => Ev.move rfl rfl) ?_
      obtain ⟨x7, e8, h⟩ := bdS h
      refine RunD.a rfl rfl (Ev.e_rd X e8 rfl rfl rfl rfl) ?_
      refine RunD.a rfl rfl (Ev.load X rfl rfl rfl) ?_
      refine RunD.w (fun _ => Ev.int rfl rfl rfl rfl trivial) ?_
      refine RunD.nil ?_
      refine T.cond rfl (fun hb9 => ?_) (fun hb9 => ?_)
      · replace h := ifT hb9 h
        refine T.seq ?_
        refine T.region ?_
        refine Run.go (Ev.assign rfl rfl) ?_
        refine Run.nil ?_
        refine T.ret ?_
        cases h
        cases hz1
        exact Fin.one rfl .v
      · replace h := ifF hb9 h
        refine T.skip ?_
        refine T.seq ?_
        refine T.drawM [] [0, 0, 3, 7, 0, 0, 48, 112, 255] (by kernel_rfl) (by kernel_rfl) ?_
        refine RunD.w (fun _ => Ev.move rfl rfl) ?_
        refine RunD.w (fun _ => Ev.move rfl rfl) ?_
        obtain ⟨x10, e11, h⟩ := bdS h
        refine RunD.a rfl rfl (Ev.e_rd X e11 rfl rfl rfl rfl) ?_
        refine RunD.a rfl rfl (Ev.load X rfl rfl rfl) ?_
        refine RunD.w (fun _ => Ev.move rfl rfl) ?_
        refine RunD.w (fun _ => Ev.move rfl rfl) ?_
        obtain ⟨x12, e13, h⟩ := bdS h
        refine RunD.a rfl rfl (Ev.e_rd X e13 rfl rfl rfl rfl) ?_
        refine RunD.a rfl rfl (Ev.load X rfl rfl rfl) ?_
        refine RunD.w (fun _ => Ev.int rfl rfl rfl rfl trivial) ?_
        refine RunD.nil ?_
        refine T.cond rfl (fun hb14 => ?_) (fun hb14 => ?_)
        · replace h := ifT hb14 h
          refine T.seq ?_
          refine T.region ?_
          refine Run.go (Ev.assign rfl rfl) ?_
          refine Run.nil ?_
          refine T.ret ?_
          cases h
          cases hz1
          exact Fin.one rfl .v
        · replace h := ifF hb14 h
          refine T.skip ?_
          refine T.region ?_
          refine Run.go (Ev.move rfl rfl) ?_
          refine Run.go (Ev.int rfl rfl rfl rfl trivial) ?_
          refine Run.go (Ev.assign rfl rfl) ?_
          refine Run.nil ?_
          cases h
          exact LoopT.ghost (Ghost.only [] [0, 1, 5] rfl) hz1
    · replace h := ifF hb4 h
      refine T.exit ?_
      refine T.seq ?_
      refine T.region ?_
      refine Run.go (Ev.assign rfl rfl) ?_
      refine Run.nil ?_
      refine T.ret ?_
      cases h
      cases hz1
      exact Fin.one rfl .v
theorem en55 : Enters Tryz.prog 55 := ⟨_, Tryz.func55, rfl, rfl⟩
set_option maxHeartbeats 1000000 in
theorem k_triviumref20_Count {p0 : ByteArray} {y : Int × Int} (h : m_triviumref20_Count p0 = some y) : Spec Tryz.prog 55 [(.v .str p0)] (.tup [.v (.int .i64) y.1, .v (.int .i64) y.2]) [] := by
  rw [m_triviumref20_Count] at h
  refine enterN [(.v .str p0)] 54 Tryz.func55 rfl rfl rfl ?_
  refine T.seq ?_
  refine T.region ?_
  refine Run.go (Ev.assign rfl rfl) ?_
  refine Run.go (Ev.assign rfl rfl) ?_
  refine Run.nil ?_
  refine T.seq ?_
  refine T.region ?_
  refine Run.go (Ev.build X 1 rfl rfl rfl rfl rfl rfl rfl rfl) ?_
  refine Run.go (Ev.assign rfl rfl) ?_
  refine Run.nil ?_
  refine T.cut (fun i : (List Int) => (⟨[(0, .v .str p0), (4, .v (.sl (.int .i64)) i)], [], 54⟩ : St)) (fun i => m_triviumref20_Count_k1 p0 i = some y) ?_ ?_
  · refine T.seq ?_
    refine T.region ?_
    refine Run.go (Ev.assign rfl rfl) ?_
    refine Run.nil ?_
    refine T.block ?_
    refine T.loop (LoopT.ghost (Ghost.trans (Ghost.firmAll (id := 1) rfl) (Ghost.only [] [0, 4, 5] rfl)) (LoopT.run (fun q : (List Int) × Int => (⟨[(0, .v .str p0), (4, .v (.sl (.int .i64)) q.1), (5, .v (.int .i64) q.2)], [], 54⟩ : St)) (fun q z1 h hz1 => ?_) h))
    obtain ⟨v14, v15⟩ := q
    dsimp only
    rw [m_triviumref20_Count_l2] at h
    refine T.seq ?_
    refine T.seq ?_
    refine T.region ?_
    refine Run.go (Ev.move rfl rfl) ?_
    refine Run.go (Ev.move rfl rfl) ?_
    refine Run.go (Ev.len X rfl rfl rfl rfl) ?_
    refine Run.go (Ev.int rfl rfl rfl rfl trivial) ?_
    refine Run.nil ?_
    refine T.cond rfl (fun hb16 => ?_) (fun hb16 => ?_)
    · replace h := ifT hb16 h
      refine T.skip ?_
      refine T.seq ?_
      refine T.block ?_
      refine T.seq ?_
      obtain ⟨v17, hv, h⟩ := bdS h
      refine T.cut (fun _ : Unit => (⟨[(0, .v .str p0), (4, .v (.sl (.int .i64)) v14), (5, .v (.int .i64) v15), (24, .v .bool v17)], [], 54⟩ : St)) (fun _ => True) ?_ (fun _ _ => ?_)
      · replace h := hv
        clear hv
        refine T.region ?_
        refine Run.go (Ev.move rfl rfl) ?_
        refine Run.go (Ev.move rfl rfl) ?_
        obtain ⟨x18, e19, h⟩ := bdS h
        refine Run.go (Ev.e_bt X e19 rfl rfl rfl rfl) ?_
        refine Run.go (Ev.int rfl rfl rfl rfl trivial) ?_
        refine Run.go (Ev.move rfl rfl) ?_
        rcases boolCases (decide (x18 < 48)) with hb20 | hb20
        · replace h := ifT hb20 h
          refine Run.offT rfl rfl rfl rfl hb20 ?_
          refine Run.offT rfl rfl rfl rfl hb20 ?_
          refine Run.offT rfl rfl rfl rfl hb20 ?_
          refine Run.offT rfl rfl rfl rfl hb20 ?_
          refine Run.go (Ev.pickT rfl hb20 rfl rfl) ?_
          refine Run.nil ?_
          cases h
          exact ⟨(), trivial, Ghost.only [] [0, 4, 5, 24] rfl⟩
        · replace h := ifF hb20 h
          refine Run.on rfl rfl rfl hb20 (Ev.move rfl rfl) ?_
          refine Run.on rfl rfl rfl hb20 (Ev.move rfl rfl) ?_
          obtain ⟨x21, e22, h⟩ := bdS h
          refine Run.on rfl rfl rfl hb20 (Ev.e_bt X e22 rfl rfl rfl rfl) ?_
          refine Run.on rfl rfl rfl hb20 (Ev.int rfl rfl rfl rfl trivial) ?_
          refine Run.go (Ev.pickF rfl hb20 rfl rfl) ?_
          refine Run.nil ?_
          cases h
          exact ⟨(), trivial, Ghost.only [] [0, 4, 5, 24] rfl⟩
      · refine T.cond rfl (fun hb23 => ?_) (fun hb23 => ?_)
        · replace h := ifT hb23 h
          refine T.seq ?_
          refine T.region ?_
          refine Run.go (Ev.assign rfl rfl) ?_
          refine Run.go (Ev.assign rfl rfl) ?_
          refine Run.nil ?_
          refine T.ret ?_
          cases h
          cases hz1
          exact Fin.many X rfl (.cons (.tmp .v) (.cons (.tmp .v) .nil)) rfl
        · replace h := ifF hb23 h
          refine T.skip ?_
          refine T.region ?_
          refine Run.go (Ev.move rfl rfl) ?_
          refine Run.go (Ev.move rfl rfl) ?_
          refine Run.go (Ev.move rfl rfl) ?_
          obtain ⟨x24, e25, h⟩ := bdS h
          refine Run.go (Ev.e_bt X e25 rfl rfl rfl rfl) ?_
          refine Run.go (Ev.int rfl rfl rfl rfl trivial) ?_
          refine Run.go (Ev.conv X rfl rfl rfl rfl) ?_
          obtain ⟨x26, e27, h⟩ := bdS h
          refine Run.go (Ev.callC en74 (k_triviumref02_MulAdd e27) rfl (.cons .v (.cons .v (.cons .v .nil))) rfl rfl) ?_
          refine Run.go (Ev.assign rfl rfl) ?_
          refine Run.nil ?_
          refine T.region ?_
          refine Run.go (Ev.move rfl rfl) ?_
          refine Run.go (Ev.int rfl rfl rfl rfl trivial) ?_
          refine Run.go (Ev.assign rfl rfl) ?_
          refine Run.nil ?_
          cases h
          exact LoopT.ghost (Ghost.only [] [0, 4, 5] rfl) hz1
    · replace h := ifF hb16 h
      refine T.exit ?_
      obtain ⟨u28, h28_, rfl⟩ := upS h
      cases hz1
      exact ⟨(v14), h28_, Ghost.only [] [0, 4] rfl⟩
  · rintro v1 h
    rw [m_triviumref20_Count_k1] at h
    refine T.seq ?_
    refine T.seq ?_
    refine T.region ?_
    refine Run.go (Ev.move rfl rfl) ?_
    refine Run.go (Ev.len X rfl rfl rfl rfl) ?_
    refine Run.go (Ev.int rfl rfl rfl rfl trivial) ?_
    refine Run.nil ?_
    refine T.cond rfl (fun hb2 => ?_) (fun hb2 => ?_)
    · replace h := ifT hb2 h
      refine T.seq ?_
      refine T.region ?_
      refine Run.go (Ev.assign rfl rfl) ?_
      refine Run.go (Ev.assign rfl rfl) ?_
      refine Run.nil ?_
      refine T.ret ?_
      cases h
      exact Fin.many X rfl (.cons (.tmp .v) (.cons (.tmp .v) .nil)) rfl
    · replace h := ifF hb2 h
      refine T.skip ?_
      refine T.seq ?_
      refine T.seq ?_
      refine T.region ?_
      refine Run.go (Ev.move rfl rfl) ?_
      obtain ⟨x3, e4, h⟩ := bdS h
      refine Run.go (Ev.callC en76 (k_triviumref02_Num e4) rfl (.cons .v .nil) rfl rfl) ?_
      obtain ⟨x5, e6, h⟩ := bdS h
      refine Run.go (Ev.callC en75 (k_triviumref02_Cmp e6) rfl (.cons .v (.cons .v .nil)) rfl rfl) ?_
      refine Run.go (Ev.int rfl rfl rfl rfl trivial) ?_
      refine Run.nil ?_
      refine T.cond rfl (fun hb7 => ?_) (fun hb7 => ?_)
      · replace h := ifT hb7 h
        refine T.seq ?_
        refine T.region ?_
        refine Run.go (Ev.assign rfl rfl) ?_
        refine Run.go (Ev.assign rfl rfl) ?_
        refine Run.nil ?_
        refine T.ret ?_
        cases h
        exact Fin.many X rfl (.cons (.tmp .v) (.cons (.tmp .v) .nil)) rfl
      · replace h := ifF hb7 h
        refine T.skip ?_
        refine T.seq ?_
        refine T.region ?_
        refine Run.go (Ev.assign rfl rfl) ?_
        refine Run.nil ?_
        obtain ⟨v8, hv, h⟩ := bdS h
        refine T.cut (fun _ : Unit => (⟨[(6, .v (.int .i64) v8)], [], 54⟩ : St)) (fun _ => True) ?_ (fun _ _ => ?_)
        · replace h := hv
          clear hv
          refine T.seq ?_
          refine T.region ?_
          refine Run.go (Ev.move rfl rfl) ?_
          refine Run.go (Ev.len X rfl rfl rfl rfl) ?_
          refine Run.go (Ev.int rfl rfl rfl rfl trivial) ?_
          refine Run.go (Ev.assign rfl rfl) ?_
          refine Run.nil ?_
          refine T.block ?_
          refine T.loop (LoopT.ghost (Ghost.only [] [4, 6, 7] rfl) (LoopT.run (fun q : Int × Int => (⟨[(4, .v (.sl (.int .i64)) v1), (6, .v (.int .i64) q.1), (7, .v (.int .i64) q.2)], [], 54⟩ : St)) (fun q z1 h hz1 => ?_) h))
          obtain ⟨v9, v10⟩ := q
          dsimp only
          rw [m_triviumref20_Count_l1] at h
          refine T.seq ?_
          refine T.seq ?_
          refine T.region ?_
          refine Run.go (Ev.move rfl rfl) ?_
          refine Run.go (Ev.int rfl rfl rfl rfl trivial) ?_
          refine Run.nil ?_
          refine T.cond rfl (fun hb11 => ?_) (fun hb11 => ?_)
          · replace h := ifT hb11 h
            refine T.skip ?_
            refine T.seq ?_
            refine T.block ?_
            refine T.region ?_
            refine Run.go (Ev.move rfl rfl) ?_
            refine Run.go (Ev.int rfl rfl rfl rfl trivial) ?_
            refine Run.go (Ev.move rfl rfl) ?_
            refine Run.go (Ev.move rfl rfl) ?_
            obtain ⟨x12, e13, h⟩ := bdS h
            refine Run.go (Ev.e_rd X e13 rfl rfl rfl rfl) ?_
            refine Run.go (Ev.load X rfl rfl rfl) ?_
            refine Run.go (Ev.int rfl rfl rfl rfl trivial) ?_
            refine Run.go (Ev.assign rfl rfl) ?_
            refine Run.nil ?_
            refine T.region ?_
            refine Run.go (Ev.move rfl rfl) ?_
            refine Run.go (Ev.int rfl rfl rfl rfl trivial) ?_
            refine Run.go (Ev.assign rfl rfl) ?_
            refine Run.nil ?_
            cases h
            exact LoopT.ghost (Ghost.only [] [4, 6, 7] rfl) hz1
          · replace h := ifF hb11 h
            refine T.exit ?_
            cases h
            cases hz1
            exact ⟨(), trivial, Ghost.only [] [6] rfl⟩
        · refine T.seq ?_
          refine T.region ?_
          refine Run.go (Ev.move rfl rfl) ?_
          refine Run.go (Ev.assign rfl rfl) ?_
          refine Run.go (Ev.assign rfl rfl) ?_
          refine Run.nil ?_
          refine T.ret ?_
          cases h
          exact Fin.many X rfl (.cons (.tmp .v) (.cons (.tmp .v) .nil)) rfl
theorem k_triviumref20_Reader_Number_M {o1_1 : Int} {o1_2 : Int} {o1_3 : Int} {o2_0 : (List D_lex_Token)} {o2_1 : Int} {o2_2 : Int} {y : Int × Int × Int × Int} (h : m_triviumref20_Reader_Number_M o1_1 o1_2 o1_3 o2_0 o2_1 o2_2 = some y) : SpecM Tryz.prog 32 [(.box 1 0)] [(1, .box [.box 2 0, .v (.int .i64) o1_1, .v (.int .i64) o1_2, .v (.int .i64) o1_3]), (2, .box [.v (.sl Y_lex_Token) o2_0, .v (.int .i64) o2_1, .v (.int .i64) o2_2])] (.v (.int .i64) y.1) [(1, .box [.box 2 0, .v (.int .i64) y.2.1, .v (.int .i64) y.2.2.1, .v (.int .i64) o1_3]), (2, .box [.v (.sl Y_lex_Token) o2_0, .v (.int .i64) y.2.2.2, .v (.int .i64) o2_2])] := by
  rw [m_triviumref20_Reader_Number_M] at h
  refine SpecM.enter 100000 [(.box 1 0)] 49 Tryz.func32 rfl rfl rfl rfl (fun L => ?_)
  refine T.seq ?_
  refine T.region ?_
  refine Run.go (Ev.assign rfl rfl) ?_
  refine Run.nil ?_
  refine T.seq ?_
  refine T.seq ?_
  refine T.region ?_
  refine Run.go (Ev.move rfl rfl) ?_
  refine Run.go (Ev.e_nc rfl rfl rfl rfl) ?_
  refine Run.go (Ev.fieldBoxN fo46_1 sz3 rfl rfl rfl rfl) ?_
  refine Run.go (Ev.loadCell X rfl rfl rfl rfl rfl rfl) ?_
  refine Run.go (Ev.int rfl rfl rfl rfl trivial) ?_
  refine Run.nil ?_
  refine T.cond rfl (fun hb1 => ?_) (fun hb1 => ?_)
  · replace h := ifT hb1 h
    refine T.seq ?_
    refine T.region ?_
    refine Run.go (Ev.assign rfl rfl) ?_
    refine Run.nil ?_
    refine T.ret ?_
    cases h
    exact FinM.of 100000 [(1, 1), (2, 2)] (inlR.one' (X := X) rfl (.tmp rfl)) rfl rfl rfl rfl ⟨(.inl ⟨rfl, _, rfl, .box, fun _ => rfl⟩), (.inl ⟨rfl, _, rfl, .box, fun _ => rfl⟩), trivial⟩
  · replace h := ifF hb1 h
    refine T.skip ?_
    refine T.seq ?_
    refine T.region ?_
    refine Run.go (Ev.move rfl rfl) ?_
    refine Run.go (Ev.e_nc rfl rfl rfl rfl) ?_
    refine Run.go (Ev.fieldBoxN fo46_0 sz44 rfl rfl rfl rfl) ?_
    refine Run.go (Ev.loadOne sz44 rfl rfl rfl rfl) ?_
    refine Run.go (Ev.e_nc rfl rfl rfl rfl) ?_
    refine Run.go (Ev.fieldBox X rfl rfl rfl rfl rfl) ?_
    refine Run.go (Ev.loadCell X rfl rfl rfl rfl rfl rfl) ?_
    refine Run.go (Ev.assign rfl rfl) ?_
    refine Run.nil ?_
    refine T.seq ?_
    refine T.region ?_
    refine Run.go (Ev.move rfl rfl) ?_
    refine Run.go (Ev.e_nc rfl rfl rfl rfl) ?_
    refine Run.go (Ev.fieldBoxN fo46_0 sz44 rfl rfl rfl rfl) ?_
    refine Run.go (Ev.loadOne sz44 rfl rfl rfl rfl) ?_
    obtain ⟨x3, e2, h⟩ := bdS h
    refine Run.go (Ev.w1 (Ev.lendM [(2, 1)] [(1, 2)] en51 (k_triviumref19_Reader_Figure_M e2) rfl (.cons (.ren rfl) .nil) rfl rfl rfl rfl rfl (A := .tup [.v .str x3.1, .v .bool x3.2.1]) rfl (W := [(2, .box [.v (.sl Y_lex_Token) o2_0, .v (.int .i64) x3.2.2, .v (.int .i64) o2_2])]) rfl rfl)) ?_
    refine Run.go (Ev.move rfl rfl) ?_
    refine Run.go (Ev.extract rfl rfl rfl) ?_
    refine Run.go (Ev.extract rfl rfl rfl) ?_
    refine Run.go (Ev.assign rfl rfl) ?_
    refine Run.go (Ev.assign rfl rfl) ?_
    refine Run.nil ?_
    refine T.seq ?_
    refine T.region ?_
    refine Run.go (Ev.move rfl rfl) ?_
    obtain ⟨x4, e5, h⟩ := bdS h
    refine Run.go (Ev.callC en55 (k_triviumref20_Count e5) rfl (.cons .v .nil) rfl rfl) ?_
    refine Run.go (Ev.move rfl rfl) ?_
    refine Run.go (Ev.extract rfl rfl rfl) ?_
    refine Run.go (Ev.extract rfl rfl rfl) ?_
    refine Run.go (Ev.assign rfl rfl) ?_
    refine Run.go (Ev.assign rfl rfl) ?_
    refine Run.nil ?_
    refine T.seq ?_
    obtain ⟨v6, hv, h⟩ := bdS h
    refine T.cut (fun _ : Unit => (⟨[(0, .box 1 0), (3, .v (.int .i64) o2_1), (6, .v (.int .i64) x4.1), (38, .v .bool v6)], [(1, .box [.box 2 0, .v (.int .i64) o1_1, .v (.int .i64) o1_2, .v (.int .i64) o1_3]), (2, .box [.v (.sl Y_lex_Token) o2_0, .v (.int .i64) x3.2.2, .v (.int .i64) o2_2]), (100001, .place 1 (L 1).1 (L 1).2), (100002, .place 2 (L 2).1 (L 2).2)], 49⟩ : St)) (fun _ => True) ?_ (fun _ _ => ?_)
    · replace h := hv
      clear hv
      refine T.region ?_
      refine Run.go (Ev.move rfl rfl) ?_
      refine Run.go (Ev.not rfl rfl) ?_
      refine Run.go (Ev.move rfl rfl) ?_
      rcases boolCases (!x3.2.1) with hb7 | hb7
      · replace h := ifT hb7 h
        refine Run.offT rfl rfl rfl rfl hb7 ?_
        refine Run.offT rfl rfl rfl rfl hb7 ?_
        refine Run.go (Ev.pickT rfl hb7 rfl rfl) ?_
        refine Run.nil ?_
        cases h
        exact ⟨(), trivial, Ghost.only [(1, 1), (2, 2), (100001, 100001), (100002, 100002)] [0, 3, 6, 38] rfl⟩
      · replace h := ifF hb7 h
        refine Run.on rfl rfl rfl hb7 (Ev.move rfl rfl) ?_
        refine Run.on rfl rfl rfl hb7 (Ev.int rfl rfl rfl rfl trivial) ?_
        refine Run.go (Ev.pickF rfl hb7 rfl rfl) ?_
        refine Run.nil ?_
        cases h
        exact ⟨(), trivial, Ghost.only [(1, 1), (2, 2), (100001, 100001), (100002, 100002)] [0, 3, 6, 38] rfl⟩
    · refine T.cond rfl (fun hb8 => ?_) (fun hb8 => ?_)
      · replace h := ifT hb8 h
        refine T.seq ?_
        refine T.region ?_
        refine Run.go (Ev.move rfl rfl) ?_
        refine Run.go (Ev.e_nc rfl rfl rfl rfl) ?_
        refine Run.go (Ev.fieldBoxN fo46_0 sz44 rfl rfl rfl rfl) ?_
        refine Run.go (Ev.loadOne sz44 rfl rfl rfl rfl) ?_
        refine Run.go (Ev.move rfl rfl) ?_
        refine Run.go (Ev.e_nc rfl rfl rfl rfl) ?_
        refine Run.go (Ev.fieldBox X rfl rfl rfl rfl rfl) ?_
        refine Run.do_ (Ev.storeBox X rfl rfl rfl rfl rfl rfl rfl) ?_
        refine Run.nil ?_
        refine T.seq ?_
        refine T.region ?_
        refine Run.go (Ev.move rfl rfl) ?_
        obtain ⟨x10, e9, h⟩ := bdS h
        refine Run.go (Ev.w2 (Ev.lendM [(1, 1), (2, 2)] [(1, 1), (2, 2)] en28 (k_triviumref20_Reader_Fail_M e9) rfl (.cons (.ren rfl) .nil) rfl rfl rfl rfl rfl (A := .tup []) rfl (W := [(1, .box [.box 2 0, .v (.int .i64) x10.1, .v (.int .i64) x10.2, .v (.int .i64) o1_3]), (2, .box [.v (.sl Y_lex_Token) o2_0, .v (.int .i64) o2_1, .v (.int .i64) o2_2])]) rfl rfl)) ?_
        refine Run.nil ?_
        refine T.seq ?_
        refine T.region ?_
        refine Run.go (Ev.assign rfl rfl) ?_
        refine Run.nil ?_
        refine T.ret ?_
        cases h
        exact FinM.of 100000 [(1, 1), (2, 2)] (inlR.one' (X := X) rfl (.tmp rfl)) rfl rfl rfl rfl ⟨(.inl ⟨rfl, _, rfl, .box, fun _ => rfl⟩), (.inl ⟨rfl, _, rfl, .box, fun _ => rfl⟩), trivial⟩
      · replace h := ifF hb8 h
        refine T.skip ?_
        refine T.seq ?_
        refine T.region ?_
        refine Run.go (Ev.move rfl rfl) ?_
        refine Run.go (Ev.assign rfl rfl) ?_
        refine Run.nil ?_
        refine T.ret ?_
        cases h
        exact FinM.of 100000 [(1, 1), (2, 2)] (inlR.one' (X := X) rfl (.tmp rfl)) rfl rfl rfl rfl ⟨(.inl ⟨rfl, _, rfl, .box, fun _ => rfl⟩), (.inl ⟨rfl, _, rfl, .box, fun _ => rfl⟩), trivial⟩
theorem k_triviumref20_Reader_Must_M {p1 : ByteArray} {o1_1 : Int} {o1_2 : Int} {o1_3 : Int} {o2_0 : (List D_lex_Token)} {o2_1 : Int} {o2_2 : Int} {y : Int × Int × Int} (h : m_triviumref20_Reader_Must_M p1 o1_1 o1_2 o1_3 o2_0 o2_1 o2_2 = some y) : SpecM Tryz.prog 33 [(.box 1 0), (.v .str p1)] [(1, .box [.box 2 0, .v (.int .i64) o1_1, .v (.int .i64) o1_2, .v (.int .i64) o1_3]), (2, .box [.v (.sl Y_lex_Token) o2_0, .v (.int .i64) o2_1, .v (.int .i64) o2_2])] (.tup []) [(1, .box [.box 2 0, .v (.int .i64) y.1, .v (.int .i64) y.2.1, .v (.int .i64) o1_3]), (2, .box [.v (.sl Y_lex_Token) o2_0, .v (.int .i64) y.2.2, .v (.int .i64) o2_2])] := by
  rw [m_triviumref20_Reader_Must_M] at h
  refine SpecM.enter 100000 [(.box 1 0), (.v .str p1)] 20 Tryz.func33 rfl rfl rfl rfl (fun L => ?_)
  obtain ⟨⟨v1, v2⟩, hv, h⟩ := bdS h
  refine T.cut (fun _ : Unit => (⟨[(0, .box 1 0), (17, .v .bool v1)], [(1, .box [.box 2 0, .v (.int .i64) o1_1, .v (.int .i64) o1_2, .v (.int .i64) o1_3]), (2, .box [.v (.sl Y_lex_Token) o2_0, .v (.int .i64) v2, .v (.int .i64) o2_2]), (100001, .place 1 (L 1).1 (L 1).2), (100002, .place 2 (L 2).1 (L 2).2)], 20⟩ : St)) (fun _ => True) ?_ (fun _ _ => ?_)
  · replace h := hv
    clear hv
    refine T.region ?_
    refine Run.go (Ev.move rfl rfl) ?_
    refine Run.go (Ev.e_nc rfl rfl rfl rfl) ?_
    refine Run.go (Ev.fieldBoxN fo46_1 sz3 rfl rfl rfl rfl) ?_
    refine Run.go (Ev.loadCell X rfl rfl rfl rfl rfl rfl) ?_
    refine Run.go (Ev.int rfl rfl rfl rfl trivial) ?_
    refine Run.go (Ev.move rfl rfl) ?_
    rcases boolCases (decide (o1_1 = 0)) with hb3 | hb3
    · replace h := ifT hb3 h
      refine Run.on rfl rfl rfl hb3 (Ev.move rfl rfl) ?_
      refine Run.on rfl rfl rfl hb3 (Ev.e_nc rfl rfl rfl rfl) ?_
      refine Run.on rfl rfl rfl hb3 (Ev.fieldBoxN fo46_0 sz44 rfl rfl rfl rfl) ?_
      refine Run.on rfl rfl rfl hb3 (Ev.loadOne sz44 rfl rfl rfl rfl) ?_
      refine Run.on rfl rfl rfl hb3 (Ev.move rfl rfl) ?_
      obtain ⟨x5, e4, h⟩ := bdS h
      refine Run.on rfl rfl rfl hb3 (Ev.w1 (Ev.lendM [(2, 1)] [(1, 2)] en48 (k_triviumref19_Reader_Take_M e4) rfl (.cons (.ren rfl) (.cons (.ren rfl) .nil)) rfl rfl rfl rfl rfl (A := .v .bool x5.1) rfl (W := [(2, .box [.v (.sl Y_lex_Token) o2_0, .v (.int .i64) x5.2, .v (.int .i64) o2_2])]) rfl rfl)) ?_
      refine Run.on rfl rfl rfl hb3 (Ev.not rfl rfl) ?_
      refine Run.go (Ev.pickT rfl hb3 rfl rfl) ?_
      refine Run.nil ?_
      cases h
      exact ⟨(), trivial, Ghost.only [(1, 1), (2, 2), (100001, 100001), (100002, 100002)] [0, 17] rfl⟩
    · replace h := ifF hb3 h
      refine Run.offT rfl rfl rfl rfl hb3 ?_
      refine Run.offT rfl rfl rfl rfl hb3 ?_
      refine Run.offT rfl rfl rfl rfl hb3 ?_
      refine Run.offT rfl rfl rfl rfl hb3 ?_
      refine Run.offT rfl rfl rfl rfl hb3 ?_
      refine Run.offT rfl rfl rfl rfl hb3 ?_
      refine Run.offT rfl rfl rfl rfl hb3 ?_
      refine Run.go (Ev.pickF rfl hb3 rfl rfl) ?_
      refine Run.nil ?_
      cases h
      exact ⟨(), trivial, Ghost.only [(1, 1), (2, 2), (100001, 100001), (100002, 100002)] [0, 17] rfl⟩
  · refine T.cond rfl (fun hb6 => ?_) (fun hb6 => ?_)
    · replace h := ifT hb6 h
      refine T.region ?_
      refine Run.go (Ev.move rfl rfl) ?_
      obtain ⟨x8, e7, h⟩ := bdS h
      refine Run.go (Ev.w2 (Ev.lendM [(1, 1), (2, 2)] [(1, 1), (2, 2)] en28 (k_triviumref20_Reader_Fail_M e7) rfl (.cons (.ren rfl) .nil) rfl rfl rfl rfl rfl (A := .tup []) rfl (W := [(1, .box [.box 2 0, .v (.int .i64) x8.1, .v (.int .i64) x8.2, .v (.int .i64) o1_3]), (2, .box [.v (.sl Y_lex_Token) o2_0, .v (.int .i64) v2, .v (.int .i64) o2_2])]) rfl rfl)) ?_
      refine Run.nil ?_
      cases h
      exact FinM.of 100000 [(1, 1), (2, 2)] (inlR.many' (X := X) rfl .nil rfl) rfl rfl rfl rfl ⟨(.inl ⟨rfl, _, rfl, .box, fun _ => rfl⟩), (.inl ⟨rfl, _, rfl, .box, fun _ => rfl⟩), trivial⟩
    · replace h := ifF hb6 h
      refine T.skip ?_
      cases h
      exact FinM.of 100000 [(1, 1), (2, 2)] (inlR.many' (X := X) rfl .nil rfl) rfl rfl rfl rfl ⟨(.inl ⟨rfl, _, rfl, .box, fun _ => rfl⟩), (.inl ⟨rfl, _, rfl, .box, fun _ => rfl⟩), trivial⟩
end Go.Proofs.YtboghejfmmigkaaGreatDoor.AE
/- The code comes to the printed functions (printed by a program of ours). -/
namespace Go.Proofs.YtboghejfmmigkaaGreatDoor.AE
open Go Go.RowKit Go.Proofs.YtboghejfmmigkaaGreatDoor.AP
set_option linter.unusedVariables false
set_option maxRecDepth 20000
theorem k_triviumref21_query_M {o1_1 : Int} {o1_2 : Int} {o1_3 : Int} {o2_0 : (List D_lex_Token)} {o2_1 : Int} {o2_2 : Int} {y : D_api_Query × Int × Int × Int × Int} (h : m_triviumref21_query_M o1_1 o1_2 o1_3 o2_0 o2_1 o2_2 = some y) : SpecM Tryz.prog 12 [(.box 1 0)] [(1, .box [.box 2 0, .v (.int .i64) o1_1, .v (.int .i64) o1_2, .v (.int .i64) o1_3]), (2, .box [.v (.sl Y_lex_Token) o2_0, .v (.int .i64) o2_1, .v (.int .i64) o2_2])] (.v Y_api_Query y.1) [(1, .box [.box 2 0, .v (.int .i64) y.2.1, .v (.int .i64) y.2.2.1, .v (.int .i64) y.2.2.2.1]), (2, .box [.v (.sl Y_lex_Token) o2_0, .v (.int .i64) y.2.2.2.2, .v (.int .i64) o2_2])] := by
  rw [m_triviumref21_query_M] at h
  refine SpecM.enter 100000 [(.box 1 0)] 49 Tryz.func12 rfl rfl rfl rfl (fun L => ?_)
  refine T.seq ?_
  refine T.region ?_
  refine Run.go (Ev.allocN X 14 rfl rfl rfl) ?_
  refine Run.nil ?_
  refine T.seq ?_
  refine T.region ?_
  refine Run.go (Ev.structC pl39 zs39 rfl rfl rfl) ?_
  refine Run.go (Ev.allocN X 15 rfl rfl rfl) ?_
  refine Run.do_ (Ev.storeC sz39 rfl rfl rfl rfl rfl rfl) ?_
  refine Run.nil ?_
  obtain ⟨⟨v1, v2, v3, v4⟩, hv, h⟩ := bdS h
  refine T.cut (fun _ : Unit => (⟨[(0, .box 1 0), (2, .box 14 0), (3, .box 15 0)], [(1, .box [.box 2 0, .v (.int .i64) v1, .v (.int .i64) v2, .v (.int .i64) o1_3]), (2, .box [.v (.sl Y_lex_Token) o2_0, .v (.int .i64) v3, .v (.int .i64) o2_2]), (14, .box [.v (.int .i64) (0 : Int), .v .str ((bs []) : ByteArray), .v .str ((bs []) : ByteArray), .v .str ((bs []) : ByteArray), .v (.int .u32) (0 : Int), .v (.int .u32) (0 : Int), .v (.int .i64) (0 : Int), .v (.int .i64) (0 : Int)]), (15, .box [.v (.int .i64) v4, .v .str ((bs []) : ByteArray), .v .str ((bs []) : ByteArray), .v .str ((bs []) : ByteArray), .v (.int .u32) (0 : Int), .v (.int .u32) (0 : Int), .v (.int .i64) (0 : Int), .v (.int .i64) (0 : Int)]), (100001, .place 1 (L 1).1 (L 1).2), (100002, .place 2 (L 2).1 (L 2).2)], 49⟩ : St)) (fun _ => True) ?_ (fun _ _ => ?_)
  · replace h := hv
    clear hv
    refine T.seq ?_
    refine T.region ?_
    refine Run.go (Ev.move rfl rfl) ?_
    obtain ⟨x6, e5, h⟩ := bdS h
    refine Run.go (Ev.w2 (Ev.lendM [(1, 1), (2, 2)] [(1, 1), (2, 2)] en27 (k_triviumref20_Reader_May_M e5) rfl (.cons (.ren rfl) (.cons (.ren rfl) .nil)) rfl rfl rfl rfl rfl (A := .v .bool x6.1) rfl (W := [(1, .box [.box 2 0, .v (.int .i64) o1_1, .v (.int .i64) o1_2, .v (.int .i64) o1_3]), (2, .box [.v (.sl Y_lex_Token) o2_0, .v (.int .i64) x6.2, .v (.int .i64) o2_2])]) rfl rfl)) ?_
    refine Run.nil ?_
    refine T.cond rfl (fun hb7 => ?_) (fun hb7 => ?_)
    · replace h := ifT hb7 h
      refine T.region ?_
      refine Run.go (Ev.fieldBox X rfl rfl rfl rfl rfl) ?_
      refine Run.do_ (Ev.storeBox X rfl rfl rfl rfl rfl rfl rfl) ?_
      refine Run.nil ?_
      cases h
      exact ⟨(), trivial, Ghost.only [(1, 1), (2, 2), (14, 14), (15, 15), (100001, 100001), (100002, 100002)] [0, 2, 3] rfl⟩
    · replace h := ifF hb7 h
      refine T.seq ?_
      refine T.region ?_
      refine Run.go (Ev.move rfl rfl) ?_
      obtain ⟨x9, e8, h⟩ := bdS h
      refine Run.go (Ev.w2 (Ev.lendM [(1, 1), (2, 2)] [(1, 1), (2, 2)] en27 (k_triviumref20_Reader_May_M e8) rfl (.cons (.ren rfl) (.cons (.ren rfl) .nil)) rfl rfl rfl rfl rfl (A := .v .bool x9.1) rfl (W := [(1, .box [.box 2 0, .v (.int .i64) o1_1, .v (.int .i64) o1_2, .v (.int .i64) o1_3]), (2, .box [.v (.sl Y_lex_Token) o2_0, .v (.int .i64) x9.2, .v (.int .i64) o2_2])]) rfl rfl)) ?_
      refine Run.nil ?_
      refine T.cond rfl (fun hb10 => ?_) (fun hb10 => ?_)
      · replace h := ifT hb10 h
        refine T.region ?_
        refine Run.go (Ev.fieldBox X rfl rfl rfl rfl rfl) ?_
        refine Run.do_ (Ev.storeBox X rfl rfl rfl rfl rfl rfl rfl) ?_
        refine Run.nil ?_
        cases h
        exact ⟨(), trivial, Ghost.only [(1, 1), (2, 2), (14, 14), (15, 15), (100001, 100001), (100002, 100002)] [0, 2, 3] rfl⟩
      · replace h := ifF hb10 h
        refine T.seq ?_
        refine T.region ?_
        refine Run.go (Ev.move rfl rfl) ?_
        obtain ⟨x12, e11, h⟩ := bdS h
        refine Run.go (Ev.w2 (Ev.lendM [(1, 1), (2, 2)] [(1, 1), (2, 2)] en27 (k_triviumref20_Reader_May_M e11) rfl (.cons (.ren rfl) (.cons (.ren rfl) .nil)) rfl rfl rfl rfl rfl (A := .v .bool x12.1) rfl (W := [(1, .box [.box 2 0, .v (.int .i64) o1_1, .v (.int .i64) o1_2, .v (.int .i64) o1_3]), (2, .box [.v (.sl Y_lex_Token) o2_0, .v (.int .i64) x12.2, .v (.int .i64) o2_2])]) rfl rfl)) ?_
        refine Run.nil ?_
        refine T.cond rfl (fun hb13 => ?_) (fun hb13 => ?_)
        · replace h := ifT hb13 h
          refine T.region ?_
          refine Run.go (Ev.fieldBox X rfl rfl rfl rfl rfl) ?_
          refine Run.do_ (Ev.storeBox X rfl rfl rfl rfl rfl rfl rfl) ?_
          refine Run.nil ?_
          cases h
          exact ⟨(), trivial, Ghost.only [(1, 1), (2, 2), (14, 14), (15, 15), (100001, 100001), (100002, 100002)] [0, 2, 3] rfl⟩
        · replace h := ifF hb13 h
          refine T.seq ?_
          refine T.region ?_
          refine Run.go (Ev.move rfl rfl) ?_
          obtain ⟨x15, e14, h⟩ := bdS h
          refine Run.go (Ev.w2 (Ev.lendM [(1, 1), (2, 2)] [(1, 1), (2, 2)] en27 (k_triviumref20_Reader_May_M e14) rfl (.cons (.ren rfl) (.cons (.ren rfl) .nil)) rfl rfl rfl rfl rfl (A := .v .bool x15.1) rfl (W := [(1, .box [.box 2 0, .v (.int .i64) o1_1, .v (.int .i64) o1_2, .v (.int .i64) o1_3]), (2, .box [.v (.sl Y_lex_Token) o2_0, .v (.int .i64) x15.2, .v (.int .i64) o2_2])]) rfl rfl)) ?_
          refine Run.nil ?_
          refine T.cond rfl (fun hb16 => ?_) (fun hb16 => ?_)
          · replace h := ifT hb16 h
            refine T.region ?_
            refine Run.go (Ev.fieldBox X rfl rfl rfl rfl rfl) ?_
            refine Run.do_ (Ev.storeBox X rfl rfl rfl rfl rfl rfl rfl) ?_
            refine Run.nil ?_
            cases h
            exact ⟨(), trivial, Ghost.only [(1, 1), (2, 2), (14, 14), (15, 15), (100001, 100001), (100002, 100002)] [0, 2, 3] rfl⟩
          · replace h := ifF hb16 h
            refine T.region ?_
            refine Run.go (Ev.move rfl rfl) ?_
            obtain ⟨x18, e17, h⟩ := bdS h
            refine Run.go (Ev.w2 (Ev.lendM [(1, 1), (2, 2)] [(1, 1), (2, 2)] en28 (k_triviumref20_Reader_Fail_M e17) rfl (.cons (.ren rfl) .nil) rfl rfl rfl rfl rfl (A := .tup []) rfl (W := [(1, .box [.box 2 0, .v (.int .i64) x18.1, .v (.int .i64) x18.2, .v (.int .i64) o1_3]), (2, .box [.v (.sl Y_lex_Token) o2_0, .v (.int .i64) x15.2, .v (.int .i64) o2_2])]) rfl rfl)) ?_
            refine Run.nil ?_
            cases h
            exact ⟨(), trivial, Ghost.only [(1, 1), (2, 2), (14, 14), (15, 15), (100001, 100001), (100002, 100002)] [0, 2, 3] rfl⟩
  · refine T.seq ?_
    refine T.region ?_
    refine Run.go (Ev.move rfl rfl) ?_
    obtain ⟨x20, e19, h⟩ := bdS h
    refine Run.go (Ev.w2 (Ev.lendM [(1, 1), (2, 2)] [(1, 1), (2, 2)] en29 (k_triviumref20_Reader_Ident_M e19) rfl (.cons (.ren rfl) .nil) rfl rfl rfl rfl rfl (A := .v .str x20.1) rfl (W := [(1, .box [.box 2 0, .v (.int .i64) x20.2.1, .v (.int .i64) x20.2.2.1, .v (.int .i64) o1_3]), (2, .box [.v (.sl Y_lex_Token) o2_0, .v (.int .i64) x20.2.2.2, .v (.int .i64) o2_2])]) rfl rfl)) ?_
    refine Run.go (Ev.fieldBox X rfl rfl rfl rfl rfl) ?_
    refine Run.do_ (Ev.storeBox X rfl rfl rfl rfl rfl rfl rfl) ?_
    refine Run.nil ?_
    obtain ⟨⟨v21, v22, v23, v24⟩, hv, h⟩ := bdS h
    refine T.cut (fun _ : Unit => (⟨[(0, .box 1 0), (2, .box 14 0), (3, .box 15 0)], [(1, .box [.box 2 0, .v (.int .i64) v21, .v (.int .i64) v22, .v (.int .i64) o1_3]), (2, .box [.v (.sl Y_lex_Token) o2_0, .v (.int .i64) v23, .v (.int .i64) o2_2]), (14, .box [.v (.int .i64) (0 : Int), .v .str ((bs []) : ByteArray), .v .str ((bs []) : ByteArray), .v .str ((bs []) : ByteArray), .v (.int .u32) (0 : Int), .v (.int .u32) (0 : Int), .v (.int .i64) (0 : Int), .v (.int .i64) (0 : Int)]), (15, .box [.v (.int .i64) v4, .v .str x20.1, .v .str v24, .v .str ((bs []) : ByteArray), .v (.int .u32) (0 : Int), .v (.int .u32) (0 : Int), .v (.int .i64) (0 : Int), .v (.int .i64) (0 : Int)]), (100001, .place 1 (L 1).1 (L 1).2), (100002, .place 2 (L 2).1 (L 2).2)], 49⟩ : St)) (fun _ => True) ?_ (fun _ _ => ?_)
    · replace h := hv
      clear hv
      refine T.seq ?_
      refine T.region ?_
      refine Run.go (Ev.fieldBox X rfl rfl rfl rfl rfl) ?_
      refine Run.go (Ev.loadCell X rfl rfl rfl rfl rfl rfl) ?_
      refine Run.go (Ev.int rfl rfl rfl rfl trivial) ?_
      refine Run.nil ?_
      refine T.cond rfl (fun hb25 => ?_) (fun hb25 => ?_)
      · replace h := ifT hb25 h
        refine T.region ?_
        refine Run.go (Ev.move rfl rfl) ?_
        obtain ⟨x27, e26, h⟩ := bdS h
        refine Run.go (Ev.w2 (Ev.lendM [(1, 1), (2, 2)] [(1, 1), (2, 2)] en29 (k_triviumref20_Reader_Ident_M e26) rfl (.cons (.ren rfl) .nil) rfl rfl rfl rfl rfl (A := .v .str x27.1) rfl (W := [(1, .box [.box 2 0, .v (.int .i64) x27.2.1, .v (.int .i64) x27.2.2.1, .v (.int .i64) o1_3]), (2, .box [.v (.sl Y_lex_Token) o2_0, .v (.int .i64) x27.2.2.2, .v (.int .i64) o2_2])]) rfl rfl)) ?_
        refine Run.go (Ev.fieldBox X rfl rfl rfl rfl rfl) ?_
        refine Run.do_ (Ev.storeBox X rfl rfl rfl rfl rfl rfl rfl) ?_
        refine Run.nil ?_
        cases h
        exact ⟨(), trivial, Ghost.only [(1, 1), (2, 2), (14, 14), (15, 15), (100001, 100001), (100002, 100002)] [0, 2, 3] rfl⟩
      · replace h := ifF hb25 h
        refine T.skip ?_
        cases h
        exact ⟨(), trivial, Ghost.only [(1, 1), (2, 2), (14, 14), (15, 15), (100001, 100001), (100002, 100002)] [0, 2, 3] rfl⟩
    · refine T.seq ?_
      refine T.region ?_
      refine Run.go (Ev.move rfl rfl) ?_
      obtain ⟨x29, e28, h⟩ := bdS h
      refine Run.go (Ev.w2 (Ev.lendM [(1, 1), (2, 2)] [(1, 1), (2, 2)] en29 (k_triviumref20_Reader_Ident_M e28) rfl (.cons (.ren rfl) .nil) rfl rfl rfl rfl rfl (A := .v .str x29.1) rfl (W := [(1, .box [.box 2 0, .v (.int .i64) x29.2.1, .v (.int .i64) x29.2.2.1, .v (.int .i64) o1_3]), (2, .box [.v (.sl Y_lex_Token) o2_0, .v (.int .i64) x29.2.2.2, .v (.int .i64) o2_2])]) rfl rfl)) ?_
      refine Run.go (Ev.fieldBox X rfl rfl rfl rfl rfl) ?_
      refine Run.do_ (Ev.storeBox X rfl rfl rfl rfl rfl rfl rfl) ?_
      refine Run.nil ?_
      obtain ⟨⟨v30, v31, v32, v33, v34, v35, v36⟩, hv, h⟩ := bdS h
      refine T.cut (fun _ : Unit => (⟨[(0, .box 1 0), (2, .box 14 0), (3, .box 15 0)], [(1, .box [.box 2 0, .v (.int .i64) v30, .v (.int .i64) v31, .v (.int .i64) v32]), (2, .box [.v (.sl Y_lex_Token) o2_0, .v (.int .i64) v33, .v (.int .i64) o2_2]), (14, .box [.v (.int .i64) (0 : Int), .v .str ((bs []) : ByteArray), .v .str ((bs []) : ByteArray), .v .str ((bs []) : ByteArray), .v (.int .u32) (0 : Int), .v (.int .u32) (0 : Int), .v (.int .i64) (0 : Int), .v (.int .i64) (0 : Int)]), (15, .box [.v (.int .i64) v4, .v .str x20.1, .v .str v24, .v .str x29.1, .v (.int .u32) v34, .v (.int .u32) v35, .v (.int .i64) v36, .v (.int .i64) (0 : Int)]), (100001, .place 1 (L 1).1 (L 1).2), (100002, .place 2 (L 2).1 (L 2).2)], 49⟩ : St)) (fun _ => True) ?_ (fun _ _ => ?_)
      · replace h := hv
        clear hv
        refine T.seq ?_
        refine T.region ?_
        refine Run.go (Ev.fieldBox X rfl rfl rfl rfl rfl) ?_
        refine Run.go (Ev.loadCell X rfl rfl rfl rfl rfl rfl) ?_
        refine Run.go (Ev.int rfl rfl rfl rfl trivial) ?_
        refine Run.nil ?_
        refine T.cond rfl (fun hb37 => ?_) (fun hb37 => ?_)
        · replace h := ifT hb37 h
          refine T.region ?_
          refine Run.go (Ev.move rfl rfl) ?_
          obtain ⟨x39, e38, h⟩ := bdS h
          refine Run.go (Ev.w2 (Ev.lendM [(1, 1), (2, 2)] [(1, 1), (2, 2)] en30 (k_triviumref20_Reader_Prefix_M e38) rfl (.cons (.ren rfl) .nil) rfl rfl rfl rfl rfl (A := .v Y_api_Prefix x39.1) rfl (W := [(1, .box [.box 2 0, .v (.int .i64) x39.2.1, .v (.int .i64) x39.2.2.1, .v (.int .i64) x39.2.2.2.1]), (2, .box [.v (.sl Y_lex_Token) o2_0, .v (.int .i64) x39.2.2.2.2, .v (.int .i64) o2_2])]) rfl rfl)) ?_
          refine Run.go (Ev.fieldBox X rfl rfl rfl rfl rfl) ?_
          refine Run.do_ (Ev.storeBox X rfl rfl rfl rfl rfl rfl rfl) ?_
          refine Run.nil ?_
          cases h
          exact ⟨(), trivial, Ghost.only [(1, 1), (2, 2), (14, 14), (15, 15), (100001, 100001), (100002, 100002)] [0, 2, 3] rfl⟩
        · replace h := ifF hb37 h
          refine T.region ?_
          refine Run.go (Ev.move rfl rfl) ?_
          obtain ⟨x41, e40, h⟩ := bdS h
          refine Run.go (Ev.w2 (Ev.lendM [(1, 1), (2, 2)] [(1, 1), (2, 2)] en31 (k_triviumref21_address_M e40) rfl (.cons (.ren rfl) .nil) rfl rfl rfl rfl rfl (A := .v (.int .u32) x41.1) rfl (W := [(1, .box [.box 2 0, .v (.int .i64) x41.2.1, .v (.int .i64) x41.2.2.1, .v (.int .i64) x41.2.2.2.1]), (2, .box [.v (.sl Y_lex_Token) o2_0, .v (.int .i64) x41.2.2.2.2, .v (.int .i64) o2_2])]) rfl rfl)) ?_
          refine Run.go (Ev.fieldBox X rfl rfl rfl rfl rfl) ?_
          refine Run.do_ (Ev.storeBox X rfl rfl rfl rfl rfl rfl rfl) ?_
          refine Run.nil ?_
          cases h
          exact ⟨(), trivial, Ghost.only [(1, 1), (2, 2), (14, 14), (15, 15), (100001, 100001), (100002, 100002)] [0, 2, 3] rfl⟩
      · obtain ⟨⟨v42, v43, v44, v45⟩, hv, h⟩ := bdS h
        refine T.cut (fun _ : Unit => (⟨[(0, .box 1 0), (2, .box 14 0), (3, .box 15 0)], [(1, .box [.box 2 0, .v (.int .i64) v42, .v (.int .i64) v43, .v (.int .i64) v32]), (2, .box [.v (.sl Y_lex_Token) o2_0, .v (.int .i64) v44, .v (.int .i64) o2_2]), (14, .box [.v (.int .i64) (0 : Int), .v .str ((bs []) : ByteArray), .v .str ((bs []) : ByteArray), .v .str ((bs []) : ByteArray), .v (.int .u32) (0 : Int), .v (.int .u32) (0 : Int), .v (.int .i64) (0 : Int), .v (.int .i64) (0 : Int)]), (15, .box [.v (.int .i64) v4, .v .str x20.1, .v .str v24, .v .str x29.1, .v (.int .u32) v34, .v (.int .u32) v35, .v (.int .i64) v36, .v (.int .i64) v45]), (100001, .place 1 (L 1).1 (L 1).2), (100002, .place 2 (L 2).1 (L 2).2)], 49⟩ : St)) (fun _ => True) ?_ (fun _ _ => ?_)
        · replace h := hv
          clear hv
          refine T.seq ?_
          refine T.region ?_
          refine Run.go (Ev.fieldBox X rfl rfl rfl rfl rfl) ?_
          refine Run.go (Ev.loadCell X rfl rfl rfl rfl rfl rfl) ?_
          refine Run.go (Ev.int rfl rfl rfl rfl trivial) ?_
          refine Run.nil ?_
          refine T.cond rfl (fun hb46 => ?_) (fun hb46 => ?_)
          · replace h := ifT hb46 h
            refine T.region ?_
            refine Run.go (Ev.move rfl rfl) ?_
            obtain ⟨x48, e47, h⟩ := bdS h
            refine Run.go (Ev.w2 (Ev.lendM [(1, 1), (2, 2)] [(1, 1), (2, 2)] en32 (k_triviumref20_Reader_Number_M e47) rfl (.cons (.ren rfl) .nil) rfl rfl rfl rfl rfl (A := .v (.int .i64) x48.1) rfl (W := [(1, .box [.box 2 0, .v (.int .i64) x48.2.1, .v (.int .i64) x48.2.2.1, .v (.int .i64) v32]), (2, .box [.v (.sl Y_lex_Token) o2_0, .v (.int .i64) x48.2.2.2, .v (.int .i64) o2_2])]) rfl rfl)) ?_
            refine Run.go (Ev.fieldBox X rfl rfl rfl rfl rfl) ?_
            refine Run.do_ (Ev.storeBox X rfl rfl rfl rfl rfl rfl rfl) ?_
            refine Run.nil ?_
            cases h
            exact ⟨(), trivial, Ghost.only [(1, 1), (2, 2), (14, 14), (15, 15), (100001, 100001), (100002, 100002)] [0, 2, 3] rfl⟩
          · replace h := ifF hb46 h
            refine T.skip ?_
            cases h
            exact ⟨(), trivial, Ghost.only [(1, 1), (2, 2), (14, 14), (15, 15), (100001, 100001), (100002, 100002)] [0, 2, 3] rfl⟩
        · refine T.seq ?_
          refine T.region ?_
          refine Run.go (Ev.move rfl rfl) ?_
          obtain ⟨x50, e49, h⟩ := bdS h
          refine Run.go (Ev.w2 (Ev.lendM [(1, 1), (2, 2)] [(1, 1), (2, 2)] en33 (k_triviumref20_Reader_Must_M e49) rfl (.cons (.ren rfl) (.cons (.ren rfl) .nil)) rfl rfl rfl rfl rfl (A := .tup []) rfl (W := [(1, .box [.box 2 0, .v (.int .i64) x50.1, .v (.int .i64) x50.2.1, .v (.int .i64) v32]), (2, .box [.v (.sl Y_lex_Token) o2_0, .v (.int .i64) x50.2.2, .v (.int .i64) o2_2])]) rfl rfl)) ?_
          refine Run.nil ?_
          refine T.seq ?_
          refine T.region ?_
          refine Run.go (Ev.loadBox X rfl rfl rfl rfl rfl) ?_
          refine Run.do_ (Ev.storeBox X rfl rfl rfl rfl rfl rfl rfl) ?_
          refine Run.nil ?_
          refine T.ret ?_
          cases h
          exact FinM.of 100000 [(1, 1), (2, 2)] (inlR.one' (X := X) rfl (.cell rfl rfl rfl rfl)) rfl rfl rfl rfl ⟨(.inl ⟨rfl, _, rfl, .box, fun _ => rfl⟩), (.inl ⟨rfl, _, rfl, .box, fun _ => rfl⟩), trivial⟩
theorem k_triviumref20_Reader_Told_M {o1_1 : Int} {o1_2 : Int} {o1_3 : Int} {o2_0 : (List D_lex_Token)} {o2_1 : Int} {o2_2 : Int} {y : Int × Int} (h : m_triviumref20_Reader_Told_M o1_1 o1_2 o1_3 o2_0 o2_1 o2_2 = some y) : SpecM Tryz.prog 13 [(.box 1 0)] [(1, .box [.box 2 0, .v (.int .i64) o1_1, .v (.int .i64) o1_2, .v (.int .i64) o1_3]), (2, .box [.v (.sl Y_lex_Token) o2_0, .v (.int .i64) o2_1, .v (.int .i64) o2_2])] (.tup [.v (.int .i64) y.1, .v (.int .i64) y.2]) [(1, .box [.box 2 0, .v (.int .i64) o1_1, .v (.int .i64) o1_2, .v (.int .i64) o1_3]), (2, .box [.v (.sl Y_lex_Token) o2_0, .v (.int .i64) o2_1, .v (.int .i64) o2_2])] := by
  rw [m_triviumref20_Reader_Told_M] at h
  refine SpecM.enter 100000 [(.box 1 0)] 22 Tryz.func13 rfl rfl rfl rfl (fun L => ?_)
  refine T.seq ?_
  refine T.region ?_
  refine Run.go (Ev.assign rfl rfl) ?_
  refine Run.go (Ev.assign rfl rfl) ?_
  refine Run.nil ?_
  refine T.seq ?_
  refine T.seq ?_
  refine T.region ?_
  refine Run.go (Ev.move rfl rfl) ?_
  refine Run.go (Ev.e_nc rfl rfl rfl rfl) ?_
  refine Run.go (Ev.fieldBoxN fo46_1 sz3 rfl rfl rfl rfl) ?_
  refine Run.go (Ev.loadCell X rfl rfl rfl rfl rfl rfl) ?_
  refine Run.go (Ev.int rfl rfl rfl rfl trivial) ?_
  refine Run.nil ?_
  refine T.cond rfl (fun hb1 => ?_) (fun hb1 => ?_)
  · replace h := ifT hb1 h
    refine T.seq ?_
    refine T.region ?_
    refine Run.go (Ev.move rfl rfl) ?_
    refine Run.go (Ev.e_nc rfl rfl rfl rfl) ?_
    refine Run.go (Ev.fieldBoxN fo46_2 sz3 rfl rfl rfl rfl) ?_
    refine Run.go (Ev.loadCell X rfl rfl rfl rfl rfl rfl) ?_
    refine Run.go (Ev.assign rfl rfl) ?_
    refine Run.go (Ev.assign rfl rfl) ?_
    refine Run.nil ?_
    refine T.ret ?_
    cases h
    exact FinM.of 100000 [(1, 1), (2, 2)] (inlR.many' (X := X) rfl (.cons (.tmp rfl) (.cons (.tmp rfl) .nil)) rfl) rfl rfl rfl rfl ⟨(.inl ⟨rfl, _, rfl, .box, fun _ => rfl⟩), (.inl ⟨rfl, _, rfl, .box, fun _ => rfl⟩), trivial⟩
  · replace h := ifF hb1 h
    refine T.skip ?_
    refine T.seq ?_
    refine T.seq ?_
    refine T.region ?_
    refine Run.go (Ev.move rfl rfl) ?_
    refine Run.go (Ev.e_nc rfl rfl rfl rfl) ?_
    refine Run.go (Ev.fieldBoxN fo46_3 sz3 rfl rfl rfl rfl) ?_
    refine Run.go (Ev.loadCell X rfl rfl rfl rfl rfl rfl) ?_
    refine Run.go (Ev.int rfl rfl rfl rfl trivial) ?_
    refine Run.nil ?_
    refine T.cond rfl (fun hb2 => ?_) (fun hb2 => ?_)
    · replace h := ifT hb2 h
      refine T.seq ?_
      refine T.region ?_
      refine Run.go (Ev.move rfl rfl) ?_
      refine Run.go (Ev.e_nc rfl rfl rfl rfl) ?_
      refine Run.go (Ev.fieldBoxN fo46_3 sz3 rfl rfl rfl rfl) ?_
      refine Run.go (Ev.loadCell X rfl rfl rfl rfl rfl rfl) ?_
      refine Run.go (Ev.assign rfl rfl) ?_
      refine Run.go (Ev.assign rfl rfl) ?_
      refine Run.nil ?_
      refine T.ret ?_
      cases h
      exact FinM.of 100000 [(1, 1), (2, 2)] (inlR.many' (X := X) rfl (.cons (.tmp rfl) (.cons (.tmp rfl) .nil)) rfl) rfl rfl rfl rfl ⟨(.inl ⟨rfl, _, rfl, .box, fun _ => rfl⟩), (.inl ⟨rfl, _, rfl, .box, fun _ => rfl⟩), trivial⟩
    · replace h := ifF hb2 h
      refine T.skip ?_
      refine T.seq ?_
      refine T.region ?_
      refine Run.go (Ev.assign rfl rfl) ?_
      refine Run.go (Ev.assign rfl rfl) ?_
      refine Run.nil ?_
      refine T.ret ?_
      cases h
      exact FinM.of 100000 [(1, 1), (2, 2)] (inlR.many' (X := X) rfl (.cons (.tmp rfl) (.cons (.tmp rfl) .nil)) rfl) rfl rfl rfl rfl ⟨(.inl ⟨rfl, _, rfl, .box, fun _ => rfl⟩), (.inl ⟨rfl, _, rfl, .box, fun _ => rfl⟩), trivial⟩
theorem en5 : Enters Tryz.prog 5 := ⟨_, Tryz.func5, rfl, rfl⟩
set_option maxHeartbeats 1000000 in
theorem k_triviumref21_Read {p0 : ByteArray} {y : (List D_api_Query) × Int × Int} (h : m_triviumref21_Read p0 = some y) : Spec Tryz.prog 5 [(.v .str p0)] (.tup [.v (.sl Y_api_Query) y.1, .v (.int .i64) y.2.1, .v (.int .i64) y.2.2]) [] := by
  rw [m_triviumref21_Read] at h
  refine enterN [(.v .str p0)] 58 Tryz.func5 rfl rfl rfl ?_
  refine T.seq ?_
  refine T.region ?_
  refine Run.go (Ev.assign rfl rfl) ?_
  refine Run.go (Ev.assign rfl rfl) ?_
  refine Run.go (Ev.assign rfl rfl) ?_
  refine Run.nil ?_
  refine T.seq ?_
  refine T.region ?_
  refine Run.go (Ev.move rfl rfl) ?_
  obtain ⟨x2, e1, h⟩ := bdS h
  rcases x2 with v3a | v3b
  · replace h := altL h
    refine Run.go (Ev.w0 (Ev.lendM [] [] en11 (k_triviumref20_Begin_M e1) rfl (.cons (.ren rfl) .nil) rfl rfl rfl rfl rfl (A := .tup [.nilp, .v (.int .i64) v3a, .v .bool false]) rfl (W := []) rfl rfl)) ?_
    refine Run.go (Ev.move rfl rfl) ?_
    refine Run.go (Ev.extract rfl rfl rfl) ?_
    refine Run.go (Ev.extract rfl rfl rfl) ?_
    refine Run.go (Ev.extract rfl rfl rfl) ?_
    refine Run.go (Ev.assign rfl rfl) ?_
    refine Run.go (Ev.assign rfl rfl) ?_
    refine Run.go (Ev.assign rfl rfl) ?_
    refine Run.nil ?_
    refine T.seq ?_
    refine T.seq ?_
    refine T.region ?_
    refine Run.go (Ev.move rfl rfl) ?_
    refine Run.go (Ev.not rfl rfl) ?_
    refine Run.nil ?_
    refine T.cond rfl (fun hb4 => ?_) (fun hb4 => ?_)
    · replace h := ifT hb4 h
      refine T.seq ?_
      refine T.region ?_
      refine Run.go (Ev.move rfl rfl) ?_
      refine Run.go (Ev.assign rfl rfl) ?_
      refine Run.go (Ev.assign rfl rfl) ?_
      refine Run.go (Ev.assign rfl rfl) ?_
      refine Run.nil ?_
      refine T.ret ?_
      cases h
      exact Fin.many X rfl (.cons (.tmp .nilv) (.cons (.tmp .v) (.cons (.tmp .v) .nil))) rfl
    · replace h := ifF hb4 h
      refine T.skip ?_
      refine T.seq ?_
      refine T.region ?_
      refine Run.go (Ev.build X 1 rfl rfl rfl rfl rfl rfl rfl rfl) ?_
      refine Run.go (Ev.assign rfl rfl) ?_
      refine Run.nil ?_
      refine T.seq ?_
      refine T.block ?_
      refine T.loop (LoopT.ghost (Ghost.only [(1, 1)] [5, 8] rfl) (LoopT.run (fun q : Unit => (⟨[(5, .nilp), (8, .own 1)], [(1, .arr 39 Y_api_Query ([] : List D_api_Query))], 58⟩ : St)) (fun q z1 h hz1 => ?_) h))
      rw [m_triviumref21_Read_l1] at h
      refine T.seq ?_
      refine T.seq ?_
      cases h
  · replace h := altR h
    refine Run.go (Ev.w2 (Ev.lendM [] [(3, 6), (2, 7)] en11 (k_triviumref20_Begin_M e1) rfl (.cons (.ren rfl) .nil) rfl rfl rfl rfl rfl (A := .tup [.box 6 0, .v (.int .i64) v3b.1, .v .bool true]) rfl (W := [(6, .box [.box 7 0, .v (.int .i64) (0 : Int), .v (.int .i64) (0 : Int), .v (.int .i64) (0 : Int)]), (7, .box [.v (.sl Y_triviumref19_Token) v3b.2.1, .v (.int .i64) (0 : Int), .v (.int .i64) v3b.2.2])]) rfl rfl)) ?_
    refine Run.go (Ev.move rfl rfl) ?_
    refine Run.go (Ev.extract rfl rfl rfl) ?_
    refine Run.go (Ev.extract rfl rfl rfl) ?_
    refine Run.go (Ev.extract rfl rfl rfl) ?_
    refine Run.go (Ev.assign rfl rfl) ?_
    refine Run.go (Ev.assign rfl rfl) ?_
    refine Run.go (Ev.assign rfl rfl) ?_
    refine Run.nil ?_
    refine T.seq ?_
    refine T.seq ?_
    refine T.region ?_
    refine Run.go (Ev.move rfl rfl) ?_
    refine Run.go (Ev.not rfl rfl) ?_
    refine Run.nil ?_
    refine T.cond rfl (fun hb5 => ?_) (fun hb5 => ?_)
    · replace h := ifT hb5 h
      refine T.seq ?_
      refine T.region ?_
      refine Run.go (Ev.move rfl rfl) ?_
      refine Run.go (Ev.assign rfl rfl) ?_
      refine Run.go (Ev.assign rfl rfl) ?_
      refine Run.go (Ev.assign rfl rfl) ?_
      refine Run.nil ?_
      refine T.ret ?_
      cases h
      exact Fin.many X rfl (.cons (.tmp .nilv) (.cons (.tmp .v) (.cons (.tmp .v) .nil))) rfl
    · replace h := ifF hb5 h
      refine T.skip ?_
      refine T.seq ?_
      refine T.region ?_
      refine Run.go (Ev.build X 8 rfl rfl rfl rfl rfl rfl rfl rfl) ?_
      refine Run.go (Ev.assign rfl rfl) ?_
      refine Run.nil ?_
      obtain ⟨⟨v6, v7, v8, v9, v10⟩, hv, h⟩ := bdS h
      refine T.cut (fun _ : Unit => (⟨[(5, .box 6 0), (8, .own 18)], [(6, .box [.box 7 0, .v (.int .i64) v6, .v (.int .i64) v7, .v (.int .i64) v8]), (18, .arr 39 Y_api_Query v9), (7, .box [.v (.sl Y_triviumref19_Token) v3b.2.1, .v (.int .i64) v10, .v (.int .i64) v3b.2.2])], 58⟩ : St)) (fun _ => True) ?_ (fun _ _ => ?_)
      · replace h := hv
        clear hv
        refine T.block ?_
        refine T.loop (LoopT.ghost (Ghost.only [(6, 6), (8, 45), (7, 7)] [5, 8] rfl) (LoopT.run (fun q : Int × Int × Int × (List D_api_Query) × Int => (⟨[(5, .box 6 0), (8, .own 45)], [(6, .box [.box 7 0, .v (.int .i64) q.1, .v (.int .i64) q.2.1, .v (.int .i64) q.2.2.1]), (45, .arr 39 Y_api_Query q.2.2.2.1), (7, .box [.v (.sl Y_triviumref19_Token) v3b.2.1, .v (.int .i64) q.2.2.2.2, .v (.int .i64) v3b.2.2])], 58⟩ : St)) (fun q z1 h hz1 => ?_) h))
        obtain ⟨v11, v12, v13, v14, v15⟩ := q
        dsimp only
        rw [m_triviumref21_Read_l2] at h
        refine T.seq ?_
        obtain ⟨v16, hv, h⟩ := bdS h
        refine T.cut (fun _ : Unit => (⟨[(5, .box 6 0), (8, .own 45), (42, .v .bool v16)], [(6, .box [.box 7 0, .v (.int .i64) v11, .v (.int .i64) v12, .v (.int .i64) v13]), (45, .arr 39 Y_api_Query v14), (7, .box [.v (.sl Y_triviumref19_Token) v3b.2.1, .v (.int .i64) v15, .v (.int .i64) v3b.2.2])], 58⟩ : St)) (fun _ => True) ?_ (fun _ _ => ?_)
        · replace h := hv
          clear hv
          refine T.drawE [([6], []), ([6], []), ([6], []), ([6], []), ([], []), ([], []), ([6], []), ([6], []), ([6], []), ([6], []), ([7], []), ([7], []), ([7], []), ([6], []), ([6], []), ([6], []), ([6], []), ([7], []), ([7], []), ([7], []), ([], []), ([], []), ([], [])] [0, 1, 3, 7, 15, 31, 63, 127, 255, 511, 1023, 2047, 4095, 63, 8255, 24639, 57407, 122943, 254015, 516159, 1040447, 2097151, 4194303] (by kernel_rfl) (by kernel_rfl) ?_
          refine RunE.go0 [6] (fun ô hô => Ev.move rfl rfl) rfl rfl ?_
          refine RunE.go0 [6] (fun ô hô => Ev.e_nc rfl (one_box (ka hô rfl rfl)) rfl rfl) rfl rfl ?_
          refine RunE.go0 [6] (fun ô hô => Ev.fieldBoxN fo46_1 sz3 rfl (ka hô rfl rfl) rfl rfl) rfl rfl ?_
          refine RunE.go0 [6] (fun ô hô => Ev.loadCell X rfl (ka hô rfl rfl) rfl rfl rfl rfl) rfl rfl ?_
          refine RunE.go0 [] (fun ô hô => Ev.int rfl rfl rfl rfl trivial) rfl rfl ?_
          refine RunE.go0 [] (fun ô hô => Ev.move rfl rfl) rfl rfl ?_
          rcases boolCases (decide (v11 = 0)) with hb17 | hb17
          · replace h := ifT hb17 h
            refine RunE.on0 [6] rfl rfl rfl hb17 (fun ô hô => Ev.move rfl rfl) rfl rfl ?_
            refine RunE.on0 [6] rfl rfl rfl hb17 (fun ô hô => Ev.e_nc rfl (one_box (ka hô rfl rfl)) rfl rfl) rfl rfl ?_
            refine RunE.on0 [6] rfl rfl rfl hb17 (fun ô hô => Ev.fieldBoxN fo46_0 sz44 rfl (ka hô rfl rfl) rfl rfl) rfl rfl ?_
            refine RunE.on0 [6] rfl rfl rfl hb17 (fun ô hô => Ev.loadOne sz44 rfl (ka hô rfl rfl) rfl rfl) rfl rfl ?_
            refine RunE.on0 [7] rfl rfl rfl hb17 (fun ô hô => Ev.e_nc rfl (one_box (ka hô rfl rfl)) rfl rfl) rfl rfl ?_
            refine RunE.on0 [7] rfl rfl rfl hb17 (fun ô hô => Ev.fieldBox X rfl (ka hô rfl rfl) rfl rfl rfl) rfl rfl ?_
            refine RunE.on0 [7] rfl rfl rfl hb17 (fun ô hô => Ev.loadCell X rfl (ka hô rfl rfl) rfl rfl rfl rfl) rfl rfl ?_
            refine RunE.on0 [6] rfl rfl rfl hb17 (fun ô hô => Ev.move rfl rfl) rfl rfl ?_
            refine RunE.on0 [6] rfl rfl rfl hb17 (fun ô hô => Ev.e_nc rfl (one_box (ka hô rfl rfl)) rfl rfl) rfl rfl ?_
            refine RunE.on0 [6] rfl rfl rfl hb17 (fun ô hô => Ev.fieldBoxN fo46_0 sz44 rfl (ka hô rfl rfl) rfl rfl) rfl rfl ?_
            refine RunE.on0 [6] rfl rfl rfl hb17 (fun ô hô => Ev.loadOne sz44 rfl (ka hô rfl rfl) rfl rfl) rfl rfl ?_
            refine RunE.on0 [7] rfl rfl rfl hb17 (fun ô hô => Ev.e_nc rfl (one_box (ka hô rfl rfl)) rfl rfl) rfl rfl ?_
            refine RunE.on0 [7] rfl rfl rfl hb17 (fun ô hô => Ev.fieldBox X rfl (ka hô rfl rfl) rfl rfl rfl) rfl rfl ?_
            refine RunE.on0 [7] rfl rfl rfl hb17 (fun ô hô => Ev.loadCell X rfl (ka hô rfl rfl) rfl rfl rfl rfl) rfl rfl ?_
            refine RunE.on0 [] rfl rfl rfl hb17 (fun ô hô => Ev.len X rfl rfl rfl rfl) rfl rfl ?_
            refine RunE.on0 [] rfl rfl rfl hb17 (fun ô hô => Ev.int rfl rfl rfl rfl trivial) rfl rfl ?_
            refine RunE.go0 [] (fun ô hô => Ev.pickT rfl hb17 rfl rfl) rfl rfl ?_
            refine RunE.nil ?_
            cases h
            exact ⟨(), trivial, Ghost.only [(6, 6), (45, 45), (7, 7)] [5, 8, 42] rfl⟩
          · replace h := ifF hb17 h
            refine RunE.off rfl rfl rfl rfl hb17 rfl ?_
            refine RunE.off rfl rfl rfl rfl hb17 rfl ?_
            refine RunE.off rfl rfl rfl rfl hb17 rfl ?_
            refine RunE.off rfl rfl rfl rfl hb17 rfl ?_
            refine RunE.off rfl rfl rfl rfl hb17 rfl ?_
            refine RunE.off rfl rfl rfl rfl hb17 rfl ?_
            refine RunE.off rfl rfl rfl rfl hb17 rfl ?_
            refine RunE.off rfl rfl rfl rfl hb17 rfl ?_
            refine RunE.off rfl rfl rfl rfl hb17 rfl ?_
            refine RunE.off rfl rfl rfl rfl hb17 rfl ?_
            refine RunE.off rfl rfl rfl rfl hb17 rfl ?_
            refine RunE.off rfl rfl rfl rfl hb17 rfl ?_
            refine RunE.off rfl rfl rfl rfl hb17 rfl ?_
            refine RunE.off rfl rfl rfl rfl hb17 rfl ?_
            refine RunE.off rfl rfl rfl rfl hb17 rfl ?_
            refine RunE.off rfl rfl rfl rfl hb17 rfl ?_
            refine RunE.go0 [] (fun ô hô => Ev.pickF rfl hb17 rfl rfl) rfl rfl ?_
            refine RunE.nil ?_
            cases h
            exact ⟨(), trivial, Ghost.only [(6, 6), (45, 45), (7, 7)] [5, 8, 42] rfl⟩
        · refine T.cond rfl (fun hb18 => ?_) (fun hb18 => ?_)
          · replace h := ifT hb18 h
            refine T.skip ?_
            refine T.block ?_
            refine T.region ?_
            refine Run.go (Ev.move rfl rfl) ?_
            refine Run.go (Ev.move rfl rfl) ?_
            obtain ⟨x20, e19, h⟩ := bdS h
            refine Run.go (Ev.w2 (Ev.lendM [(6, 1), (7, 2)] [(1, 6), (2, 7)] en12 (k_triviumref21_query_M e19) rfl (.cons (.ren rfl) .nil) rfl rfl rfl rfl rfl (A := .v Y_api_Query x20.1) rfl (W := [(6, .box [.box 7 0, .v (.int .i64) x20.2.1, .v (.int .i64) x20.2.2.1, .v (.int .i64) x20.2.2.2.1]), (7, .box [.v (.sl Y_lex_Token) v3b.2.1, .v (.int .i64) x20.2.2.2.2, .v (.int .i64) v3b.2.2])]) rfl rfl)) ?_
            refine Run.go (Ev.build X 58 rfl rfl rfl rfl rfl rfl rfl rfl) ?_
            obtain ⟨x21, e22, h⟩ := bdS h
            refine Run.go (Ev.e_ap X 59 e22 rfl rfl rfl (.own rfl) rfl rfl rfl rfl rfl) ?_
            refine Run.go (Ev.assign rfl rfl) ?_
            refine Run.nil ?_
            cases h
            exact LoopT.ghost (Ghost.only [(6, 6), (59, 45), (7, 7)] [5, 8] rfl) hz1
          · replace h := ifF hb18 h
            refine T.exit ?_
            cases h
            cases hz1
            exact ⟨(), trivial, Ghost.only [(6, 6), (45, 18), (7, 7)] [5, 8] rfl⟩
      · refine T.seq ?_
        refine T.region ?_
        refine Run.go (Ev.move rfl rfl) ?_
        obtain ⟨x24, e23, h⟩ := bdS h
        refine Run.go (Ev.w2 (Ev.lendM [(6, 1), (7, 2)] [(1, 6), (2, 7)] en13 (k_triviumref20_Reader_Told_M e23) rfl (.cons (.ren rfl) .nil) rfl rfl rfl rfl rfl (A := .tup [.v (.int .i64) x24.1, .v (.int .i64) x24.2]) rfl (W := [(6, .box [.box 7 0, .v (.int .i64) v6, .v (.int .i64) v7, .v (.int .i64) v8]), (7, .box [.v (.sl Y_lex_Token) v3b.2.1, .v (.int .i64) v10, .v (.int .i64) v3b.2.2])]) rfl rfl)) ?_
        refine Run.go (Ev.move rfl rfl) ?_
        refine Run.go (Ev.extract rfl rfl rfl) ?_
        refine Run.go (Ev.extract rfl rfl rfl) ?_
        refine Run.go (Ev.assign rfl rfl) ?_
        refine Run.go (Ev.assign rfl rfl) ?_
        refine Run.nil ?_
        refine T.seq ?_
        refine T.seq ?_
        refine T.region ?_
        refine Run.go (Ev.move rfl rfl) ?_
        refine Run.go (Ev.int rfl rfl rfl rfl trivial) ?_
        refine Run.nil ?_
        refine T.cond rfl (fun hb25 => ?_) (fun hb25 => ?_)
        · replace h := ifT hb25 h
          refine T.seq ?_
          refine T.region ?_
          refine Run.go (Ev.move rfl rfl) ?_
          refine Run.go (Ev.move rfl rfl) ?_
          refine Run.go (Ev.assign rfl rfl) ?_
          refine Run.go (Ev.assign rfl rfl) ?_
          refine Run.go (Ev.assign rfl rfl) ?_
          refine Run.nil ?_
          refine T.ret ?_
          cases h
          exact Fin.many X rfl (.cons (.tmp .nilv) (.cons (.tmp .v) (.cons (.tmp .v) .nil))) rfl
        · replace h := ifF hb25 h
          refine T.skip ?_
          refine T.seq ?_
          refine T.region ?_
          refine Run.go (Ev.move rfl rfl) ?_
          refine Run.go (Ev.assign rfl rfl) ?_
          refine Run.go (Ev.assign rfl rfl) ?_
          refine Run.go (Ev.assign rfl rfl) ?_
          refine Run.nil ?_
          refine T.ret ?_
          cases h
          exact Fin.many X rfl (.cons (.tmp (.own rfl)) (.cons (.tmp .v) (.cons (.tmp .v) .nil))) rfl
theorem en6 : Enters Tryz.prog 6 := ⟨_, Tryz.func6, rfl, rfl⟩
theorem k_triviumref21_Same {p0 : (List D_api_Query)} {p1 : (List D_api_Query)} {y : Bool} (h : m_triviumref21_Same p0 p1 = some y) : Spec Tryz.prog 6 [(.v (.sl Y_api_Query) p0), (.v (.sl Y_api_Query) p1)] (.v .bool y) [] := by
  rw [m_triviumref21_Same] at h
  refine enterN [(.v (.sl Y_api_Query) p0), (.v (.sl Y_api_Query) p1)] 26 Tryz.func6 rfl rfl rfl ?_
  refine T.seq ?_
  refine T.region ?_
  refine Run.go (Ev.assign rfl rfl) ?_
  refine Run.nil ?_
  refine T.seq ?_
  refine T.seq ?_
  refine T.region ?_
  refine Run.go (Ev.move rfl rfl) ?_
  refine Run.go (Ev.len X rfl rfl rfl rfl) ?_
  refine Run.go (Ev.move rfl rfl) ?_
  refine Run.go (Ev.len X rfl rfl rfl rfl) ?_
  refine Run.go (Ev.int rfl rfl rfl rfl trivial) ?_
  refine Run.nil ?_
  refine T.cond rfl (fun hb1 => ?_) (fun hb1 => ?_)
  · replace h := ifT hb1 h
    refine T.seq ?_
    refine T.region ?_
    refine Run.go (Ev.assign rfl rfl) ?_
    refine Run.nil ?_
    refine T.ret ?_
    cases h
    exact Fin.one rfl .v
  · replace h := ifF hb1 h
    refine T.skip ?_
    refine T.seq ?_
    refine T.seq ?_
    refine T.region ?_
    refine Run.go (Ev.assign rfl rfl) ?_
    refine Run.nil ?_
    refine T.block ?_
    refine T.loop (LoopT.ghost (Ghost.only [] [0, 1, 5] rfl) (LoopT.run (fun q : Int => (⟨[(0, .v (.sl Y_api_Query) p0), (1, .v (.sl Y_api_Query) p1), (5, .v (.int .i64) q)], [], 26⟩ : St)) (fun v2 z1 h hz1 => ?_) h))
    rw [m_triviumref21_Same_l1] at h
    refine T.seq ?_
    refine T.seq ?_
    refine T.region ?_
    refine Run.go (Ev.move rfl rfl) ?_
    refine Run.go (Ev.move rfl rfl) ?_
    refine Run.go (Ev.len X rfl rfl rfl rfl) ?_
    refine Run.go (Ev.int rfl rfl rfl rfl trivial) ?_
    refine Run.nil ?_
    refine T.cond rfl (fun hb3 => ?_) (fun hb3 => ?_)
    · replace h := ifT hb3 h
      refine T.skip ?_
      refine T.seq ?_
      refine T.block ?_
      refine T.seq ?_
      refine T.drawM [] [0, 0, 3, 7, 0, 0, 48, 112, 255] (by kernel_rfl) (by kernel_rfl) ?_
      refine RunD.w (fun _ => Ev.move rfl rfl) ?_
      refine RunD.w (fun _ => Ev.move rfl rfl) ?_
      obtain ⟨x4, e5, h⟩ := bdS h
      refine RunD.a rfl rfl (Ev.e_rd X e5 rfl rfl rfl rfl) ?_
      refine RunD.a rfl rfl (Ev.load X rfl rfl rfl) ?_
      refine RunD.w (fun _ => Ev.move rfl rfl) ?_
      refine RunD.w (fun _ => Ev.move rfl rfl) ?_
      obtain ⟨x6, e7, h⟩ := bdS h
      refine RunD.a rfl rfl (Ev.e_rd X e7 rfl rfl rfl rfl) ?_
      refine RunD.a rfl rfl (Ev.load X rfl rfl rfl) ?_
      refine RunD.w (fun _ => Ev.e_eq (τ := Y_api_Query) (p := (x4 : D_api_Query)) (q := (x6 : D_api_Query)) eq39 rfl (.inr ⟨rfl, rfl⟩) rfl rfl rfl) ?_
      refine RunD.nil ?_
      refine T.cond rfl (fun hb8 => ?_) (fun hb8 => ?_)
      · replace h := ifT hb8 h
        refine T.seq ?_
        refine T.region ?_
        refine Run.go (Ev.assign rfl rfl) ?_
        refine Run.nil ?_
        refine T.ret ?_
        cases h
        cases hz1
        exact Fin.one rfl .v
      · replace h := ifF hb8 h
        refine T.skip ?_
        refine T.region ?_
        refine Run.go (Ev.move rfl rfl) ?_
        refine Run.go (Ev.int rfl rfl rfl rfl trivial) ?_
        refine Run.go (Ev.assign rfl rfl) ?_
        refine Run.nil ?_
        cases h
        exact LoopT.ghost (Ghost.only [] [0, 1, 5] rfl) hz1
    · replace h := ifF hb3 h
      refine T.exit ?_
      refine T.seq ?_
      refine T.region ?_
      refine Run.go (Ev.assign rfl rfl) ?_
      refine Run.nil ?_
      refine T.ret ?_
      cases h
      cases hz1
      exact Fin.one rfl .v
theorem en7 : Enters Tryz.prog 7 := ⟨_, Tryz.func7, rfl, rfl⟩
set_option maxHeartbeats 1000000 in
theorem k_triviumlaw21_works  {y : Bool} (h : m_triviumlaw21_works  = some y) : Spec Tryz.prog 7 [] (.v .bool y) [] := by
  rw [m_triviumlaw21_works] at h
  refine enterN [] 27 Tryz.func7 rfl rfl rfl ?_
  refine T.seq ?_
  refine T.region ?_
  refine Run.go (Ev.assign rfl rfl) ?_
  refine Run.nil ?_
  refine T.seq ?_
  refine T.region ?_
  obtain ⟨x1, e2, h⟩ := bdS h
  refine Run.go (Ev.callC en4 (k_askread_Read e2) rfl (.cons .v .nil) rfl rfl) ?_
  refine Run.go (Ev.move rfl rfl) ?_
  refine Run.go (Ev.extract rfl rfl rfl) ?_
  refine Run.go (Ev.extract rfl rfl rfl) ?_
  refine Run.go (Ev.extract rfl rfl rfl) ?_
  refine Run.go (Ev.assign rfl rfl) ?_
  refine Run.go (Ev.assign rfl rfl) ?_
  refine Run.go (Ev.assign rfl rfl) ?_
  refine Run.nil ?_
  refine T.seq ?_
  refine T.region ?_
  refine Run.go (Ev.move rfl rfl) ?_
  refine Run.go (Ev.int rfl rfl rfl rfl trivial) ?_
  refine Run.go (Ev.move rfl rfl) ?_
  rcases boolCases (decide (x1.2.2 = 0)) with hb3 | hb3
  · replace h := ifT hb3 h
    refine Run.on rfl rfl rfl hb3 (Ev.move rfl rfl) ?_
    refine Run.on rfl rfl rfl hb3 (Ev.int rfl rfl rfl rfl trivial) ?_
    refine Run.go (Ev.pickT rfl hb3 rfl rfl) ?_
    refine Run.go (Ev.move rfl rfl) ?_
    rcases boolCases (decide (x1.2.1 = 0)) with hb4 | hb4
    · replace h := ifT hb4 h
      refine Run.on rfl rfl rfl hb4 (Ev.move rfl rfl) ?_
      refine Run.on rfl rfl rfl hb4 (Ev.len X rfl rfl rfl rfl) ?_
      refine Run.on rfl rfl rfl hb4 (Ev.int rfl rfl rfl rfl trivial) ?_
      refine Run.go (Ev.pickT rfl hb4 rfl rfl) ?_
      refine Run.go (Ev.move rfl rfl) ?_
      rcases boolCases (decide ((x1.1.length : Int) = 1)) with hb5 | hb5
      · replace h := ifT hb5 h
        refine Run.on rfl rfl rfl hb5 (Ev.move rfl rfl) ?_
        obtain ⟨x6, e7, h⟩ := bdS h
        refine Run.on rfl rfl rfl hb5 (Ev.e_rd X e7 rfl rfl rfl rfl) ?_
        refine Run.on rfl rfl rfl hb5 (Ev.load X rfl rfl rfl) ?_
        refine Run.on rfl rfl rfl hb5 (Ev.structC pl39 zs39 rfl rfl rfl) ?_
        refine Run.ghost (Ghost.stv (t := 24) (τ := Y_api_Query) (y := ((1, (bs [97]), (bs []), (bs [114]), 167772161, (0, 0), 0) : D_api_Query)) rfl rfl rfl) ?_
        refine Run.on rfl rfl rfl hb5 (Ev.e_eq (τ := Y_api_Query) (p := (x6 : D_api_Query)) (q := ((1, (bs [97]), (bs []), (bs [114]), 167772161, (0, 0), 0) : D_api_Query)) eq39 rfl (.inl ⟨rfl, rfl⟩) rfl rfl rfl) ?_
        refine Run.go (Ev.pickT rfl hb5 rfl rfl) ?_
        obtain ⟨x8, e9, h⟩ := ltS h
        refine Run.go (Ev.avs (Ev.assign rfl rfl) e9) ?_
        refine Run.nil ?_
        refine T.ret ?_
        cases h
        exact Fin.one rfl .v
      · replace h := ifF hb5 h
        refine Run.offT rfl rfl rfl rfl hb5 ?_
        refine Run.offT rfl rfl rfl rfl hb5 ?_
        refine Run.offT rfl rfl rfl rfl hb5 ?_
        refine Run.offT rfl rfl rfl rfl hb5 ?_
        refine Run.offT rfl rfl rfl rfl hb5 ?_
        refine Run.go (Ev.pickF rfl hb5 rfl rfl) ?_
        refine Run.go (Ev.assign rfl rfl) ?_
        refine Run.nil ?_
        refine T.ret ?_
        cases h
        exact Fin.one rfl .v
    · replace h := ifF hb4 h
      refine Run.offT rfl rfl rfl rfl hb4 ?_
      refine Run.offT rfl rfl rfl rfl hb4 ?_
      refine Run.offT rfl rfl rfl rfl hb4 ?_
      refine Run.go (Ev.pickF rfl hb4 rfl rfl) ?_
      refine Run.go (Ev.move rfl rfl) ?_
      refine Run.offT rfl rfl rfl rfl rfl ?_
      refine Run.offT rfl rfl rfl rfl rfl ?_
      refine Run.offT rfl rfl rfl rfl rfl ?_
      refine Run.offT rfl rfl rfl rfl rfl ?_
      refine Run.offT rfl rfl rfl rfl rfl ?_
      refine Run.go (Ev.pickF rfl rfl rfl rfl) ?_
      refine Run.go (Ev.assign rfl rfl) ?_
      refine Run.nil ?_
      refine T.ret ?_
      cases h
      exact Fin.one rfl .v
  · replace h := ifF hb3 h
    refine Run.offT rfl rfl rfl rfl hb3 ?_
    refine Run.offT rfl rfl rfl rfl hb3 ?_
    refine Run.go (Ev.pickF rfl hb3 rfl rfl) ?_
    refine Run.go (Ev.move rfl rfl) ?_
    refine Run.offT rfl rfl rfl rfl rfl ?_
    refine Run.offT rfl rfl rfl rfl rfl ?_
    refine Run.offT rfl rfl rfl rfl rfl ?_
    refine Run.go (Ev.pickF rfl rfl rfl rfl) ?_
    refine Run.go (Ev.move rfl rfl) ?_
    refine Run.offT rfl rfl rfl rfl rfl ?_
    refine Run.offT rfl rfl rfl rfl rfl ?_
    refine Run.offT rfl rfl rfl rfl rfl ?_
    refine Run.offT rfl rfl rfl rfl rfl ?_
    refine Run.offT rfl rfl rfl rfl rfl ?_
    refine Run.go (Ev.pickF rfl rfl rfl rfl) ?_
    refine Run.go (Ev.assign rfl rfl) ?_
    refine Run.nil ?_
    refine T.ret ?_
    cases h
    exact Fin.one rfl .v
set_option maxHeartbeats 1000000 in
theorem k_triviumlaw21_AskreadReads {p0 : ByteArray} {y : Bool} (h : m_triviumlaw21_AskreadReads p0 = some y) : Spec Tryz.prog 3 [(.v .str p0)] (.v .bool y) [] := by
  rw [m_triviumlaw21_AskreadReads] at h
  refine enterN [(.v .str p0)] 42 Tryz.func3 rfl rfl rfl ?_
  refine T.seq ?_
  refine T.region ?_
  refine Run.go (Ev.assign rfl rfl) ?_
  refine Run.nil ?_
  refine T.seq ?_
  refine T.region ?_
  refine Run.go (Ev.move rfl rfl) ?_
  refine Run.go (Ev.move rfl rfl) ?_
  refine Run.go (Ev.len X rfl rfl rfl rfl) ?_
  refine Run.go (Ev.min rfl rfl rfl) ?_
  obtain ⟨x1, e2, h⟩ := bdS h
  refine Run.go (Ev.e_cs X e2 rfl rfl rfl (fun _ h => by cases h) (fun _ => rfl) (fun _ _ => cutAt_of rfl) (fun h => by cases h)) ?_
  refine Run.go (Ev.assign rfl rfl) ?_
  refine Run.nil ?_
  refine T.seq ?_
  refine T.region ?_
  refine Run.go (Ev.move rfl rfl) ?_
  obtain ⟨x3, e4, h⟩ := bdS h
  refine Run.go (Ev.callC en4 (k_askread_Read e4) rfl (.cons .v .nil) rfl rfl) ?_
  refine Run.go (Ev.move rfl rfl) ?_
  refine Run.go (Ev.extract rfl rfl rfl) ?_
  refine Run.go (Ev.extract rfl rfl rfl) ?_
  refine Run.go (Ev.extract rfl rfl rfl) ?_
  refine Run.go (Ev.assign rfl rfl) ?_
  refine Run.go (Ev.assign rfl rfl) ?_
  refine Run.go (Ev.assign rfl rfl) ?_
  refine Run.nil ?_
  refine T.seq ?_
  refine T.region ?_
  refine Run.go (Ev.move rfl rfl) ?_
  obtain ⟨x5, e6, h⟩ := bdS h
  refine Run.go (Ev.callC en5 (k_triviumref21_Read e6) rfl (.cons .v .nil) rfl rfl) ?_
  refine Run.go (Ev.move rfl rfl) ?_
  refine Run.go (Ev.extract rfl rfl rfl) ?_
  refine Run.go (Ev.extract rfl rfl rfl) ?_
  refine Run.go (Ev.extract rfl rfl rfl) ?_
  refine Run.go (Ev.assign rfl rfl) ?_
  refine Run.go (Ev.assign rfl rfl) ?_
  refine Run.go (Ev.assign rfl rfl) ?_
  refine Run.nil ?_
  refine T.seq ?_
  refine T.region ?_
  refine Run.go (Ev.move rfl rfl) ?_
  refine Run.go (Ev.move rfl rfl) ?_
  refine Run.go (Ev.int rfl rfl rfl rfl trivial) ?_
  refine Run.go (Ev.move rfl rfl) ?_
  rcases boolCases (decide (x3.2.1 = x5.2.1)) with hb7 | hb7
  · replace h := ifT hb7 h
    refine Run.on rfl rfl rfl hb7 (Ev.move rfl rfl) ?_
    refine Run.on rfl rfl rfl hb7 (Ev.move rfl rfl) ?_
    refine Run.on rfl rfl rfl hb7 (Ev.int rfl rfl rfl rfl trivial) ?_
    refine Run.go (Ev.pickT rfl hb7 rfl rfl) ?_
    refine Run.go (Ev.move rfl rfl) ?_
    rcases boolCases (decide (x3.2.2 = x5.2.2)) with hb8 | hb8
    · replace h := ifT hb8 h
      refine Run.on rfl rfl rfl hb8 (Ev.move rfl rfl) ?_
      refine Run.on rfl rfl rfl hb8 (Ev.move rfl rfl) ?_
      obtain ⟨x9, e10, h⟩ := bdS h
      refine Run.on rfl rfl rfl hb8 (Ev.callC en6 (k_triviumref21_Same e10) rfl (.cons .v (.cons .v .nil)) rfl rfl) ?_
      refine Run.go (Ev.pickT rfl hb8 rfl rfl) ?_
      refine Run.go (Ev.move rfl rfl) ?_
      rcases boolCases x9 with hb11 | hb11
      · replace h := ifT hb11 h
        obtain ⟨x12, e13, h⟩ := bdS h
        refine Run.on rfl rfl rfl hb11 (Ev.callC en7 (k_triviumlaw21_works e13) rfl .nil rfl rfl) ?_
        refine Run.go (Ev.pickT rfl hb11 rfl rfl) ?_
        refine Run.go (Ev.assign rfl rfl) ?_
        refine Run.nil ?_
        refine T.ret ?_
        cases h
        exact Fin.one rfl .v
      · replace h := ifF hb11 h
        refine Run.offT rfl rfl rfl rfl hb11 ?_
        refine Run.go (Ev.pickF rfl hb11 rfl rfl) ?_
        refine Run.go (Ev.assign rfl rfl) ?_
        refine Run.nil ?_
        refine T.ret ?_
        cases h
        exact Fin.one rfl .v
    · replace h := ifF hb8 h
      refine Run.offT rfl rfl rfl rfl hb8 ?_
      refine Run.offT rfl rfl rfl rfl hb8 ?_
      refine Run.offT rfl rfl rfl rfl hb8 ?_
      refine Run.go (Ev.pickF rfl hb8 rfl rfl) ?_
      refine Run.go (Ev.move rfl rfl) ?_
      refine Run.offT rfl rfl rfl rfl rfl ?_
      refine Run.go (Ev.pickF rfl rfl rfl rfl) ?_
      refine Run.go (Ev.assign rfl rfl) ?_
      refine Run.nil ?_
      refine T.ret ?_
      cases h
      exact Fin.one rfl .v
  · replace h := ifF hb7 h
    refine Run.offT rfl rfl rfl rfl hb7 ?_
    refine Run.offT rfl rfl rfl rfl hb7 ?_
    refine Run.offT rfl rfl rfl rfl hb7 ?_
    refine Run.go (Ev.pickF rfl hb7 rfl rfl) ?_
    refine Run.go (Ev.move rfl rfl) ?_
    refine Run.offT rfl rfl rfl rfl rfl ?_
    refine Run.offT rfl rfl rfl rfl rfl ?_
    refine Run.offT rfl rfl rfl rfl rfl ?_
    refine Run.go (Ev.pickF rfl rfl rfl rfl) ?_
    refine Run.go (Ev.move rfl rfl) ?_
    refine Run.offT rfl rfl rfl rfl rfl ?_
    refine Run.go (Ev.pickF rfl rfl rfl rfl) ?_
    refine Run.go (Ev.assign rfl rfl) ?_
    refine Run.nil ?_
    refine T.ret ?_
    cases h
    exact Fin.one rfl .v
end Go.Proofs.YtboghejfmmigkaaGreatDoor.AE
/- From a law's contract to its row: how what is handed in reads. -/
namespace Go.Proofs.YtboghejfmmigkaaGreatDoor.AE
open Go Go.RowKit Go.WideShapes Go.ChangeAt Go.ChangeShapes

/-- values as a program has them -/
def Ty.ok : (t : Ty) → t.den → Prop
  | .int k, n => (Lit.int k n).wf = true
  | .bool, _ => True
  | .str, s => ByteArray.size s ≤ 9223372036854775807
  | .sl t, l => List.length (α := t.den) l ≤ 9223372036854775807 ∧ ∀ (i : Nat) (x : t.den), at? (α := t.den) l i = some x → t.ok x
  | .wrap t, x => t.ok x
  | .pair a b, x => a.ok x.1 ∧ b.ok x.2

theorem listed {α : Type} {Q : Nat → α → Prop} : ∀ n : Nat, (∀ i, i < n → ∃ y, Q i y) → ∃ l : List α, l.length = n ∧ ∀ (i : Nat) (x : α), at? l i = some x → Q i x
  | 0, _ => ⟨[], rfl, fun i x h => by cases h⟩
  | n + 1, h => by
    obtain ⟨l, h1, h2⟩ := listed n fun i hi => h i (by omega)
    obtain ⟨y, hy⟩ := h n (by omega)
    refine ⟨l ++ [y], by simp [h1], fun i x hx => ?_⟩
    unfold at? at hx
    by_cases hi : i < n
    · rw [List.getElem?_append_left (by omega)] at hx; exact h2 i x hx
    · have : i < (l ++ [y]).length := (List.getElem?_eq_some_iff.1 hx).1
      simp at this
      obtain rfl : i = n := by omega
      rw [List.getElem?_append_right (by omega)] at hx
      simp [h1] at hx
      exact hx ▸ hy

section
variable {H : Type} {enc : TypeId × Value → H} {P : Program} {w : World}
abbrev N0 : Nat → Prop := fun _ => False

def OpenT (enc : TypeId × Value → H) (P : Program) (w : World) (t : Ty) : Prop := ∀ (n : Nat) (i : TypeId) (fuel : Nat) (cs : List Value) (x : DataW H × List MemPlace),
  chk P n t i = true → DataW.trod enc P w 0 (fun _ => true) true fuel i cs = some x → ∃ y : t.den, t.relc w N0 y cs ∧ t.ok y
def OpenR (enc : TypeId × Value → H) (P : Program) (w : World) (t : Ty) : Prop := ∀ (n : Nat) (fs : List Field) (off : Nat) (m : Nat) (cs : List Value),
  chkR (chk P n) t fs off = true → cs.length = off + t.sz → (∀ (j : Nat) f, fs[j]? = some f → ∃ z, DataW.trod enc P w 0 (fun _ => true) true m f.type ((cs.drop f.offset).take (P.cellsOf f.type)) = some z) →
    ∃ y : t.den, t.relc w N0 y (cs.drop off) ∧ t.ok y
theorem chk_cells {n : Nat} {t : Ty} {i : TypeId} (h : chk P n t i = true) : P.cellsOf i = t.sz := by
  obtain ⟨f, z, h1, h2, _⟩ := Is.info ⟨n, h⟩
  simp [Program.cellsOf, h1, h2]
theorem openR_one {t : Ty} (ht : OpenT enc P w t) {n : Nat} {f : Field} {off m : Nat} {cs : List Value} (h : (f.offset == off && chk P n t f.type) = true) (hl : cs.length = off + t.sz)
    (hz : ∃ z, DataW.trod enc P w 0 (fun _ => true) true m f.type ((cs.drop f.offset).take (P.cellsOf f.type)) = some z) : ∃ y : t.den, t.relc w N0 y (cs.drop off) ∧ t.ok y := by
  rw [Bool.and_eq_true, beq_iff_eq] at h
  obtain ⟨rfl, hc⟩ := h
  obtain ⟨z, hz⟩ := hz
  rw [chk_cells hc, List.take_of_length_le (by rw [List.length_drop]; omega)] at hz
  exact ht n _ _ _ _ hc hz
theorem open_all (t : Ty) : OpenT enc P w t ∧ OpenR enc P w t := by
  have base : ∀ t : Ty, (∀ a b, t ≠ .pair a b) → OpenT enc P w t → OpenR enc P w t := by
    intro t hn ht n fs off m cs h hl hz
    cases fs with
    | nil => simp [chkR] at h
    | cons f r =>
      cases r with
      | nil => exact openR_one ht (by cases t <;> simpa [chkR] using h) hl (hz 0 f rfl)
      | cons g r => cases t <;> first | exact absurd rfl (hn _ _) | simp [chkR] at h
  induction t with
  | int k =>
    refine (fun h => ⟨h, base _ (fun _ _ h => by cases h) h⟩) ?_
    intro n i fuel cs x hc hx
    obtain ⟨z, h1, _, h2⟩ := DataW.trod_int (Is.desc ⟨n, hc⟩) hx
    exact ⟨z, h1, h2⟩
  | bool =>
    refine (fun h => ⟨h, base _ (fun _ _ h => by cases h) h⟩) ?_
    intro n i fuel cs x hc hx
    obtain ⟨z, h1, _⟩ := DataW.trod_bool (Is.desc ⟨n, hc⟩) hx
    exact ⟨z, h1, trivial⟩
  | str =>
    refine (fun h => ⟨h, base _ (fun _ _ h => by cases h) h⟩) ?_
    intro n i fuel cs x hc hx
    obtain ⟨z, h1, _, h2⟩ := DataW.trod_string (Is.desc ⟨n, hc⟩) hx
    exact ⟨z, h1, h2⟩
  | sl t ih =>
    refine (fun h => ⟨h, base _ (fun _ _ h => by cases h) h⟩) ?_
    intro n i fuel cs x hc hx
    obtain ⟨e, h1, h2⟩ := Is.desc ⟨n, hc⟩
    obtain ⟨k, h2⟩ := h2
    rcases DataW.trod_slice h1 hx with ⟨rfl, _⟩ | ⟨a, len, cap, elems, rest, m, _, rfl, _, _, hl, hm, hel, hcell, _⟩
    · exact ⟨([] : List t.den), ⟨none, 0, rfl, Nat.le_refl _, Nat.zero_le _, fun h => absurd h (Nat.lt_irrefl _)⟩, Nat.zero_le _, fun i x h => by cases h⟩
    · rw [chk_cells h2] at hcell
      obtain ⟨l, hll, hlq⟩ := listed (Q := fun j (y : t.den) => ∃ ds, t.relc w N0 y ds ∧ t.ok y ∧ ∀ (q : Nat) u, ds[q]? = some u → w.cell? (a.add (j * t.sz + q)) = some u) len (by
        intro j hj
        have hb := hcell j hj
        obtain ⟨el, hel'⟩ : ∃ z, elems[j]? = some z := ⟨_, List.getElem?_eq_getElem (by omega)⟩
        rw [hel'] at hb
        obtain ⟨ds, hd1, hd2⟩ := Option.bind_eq_some_iff.1 hb
        obtain ⟨_, hlen, hcs⟩ := World.cells?_some hd1
        obtain ⟨y, hy1, hy2⟩ := ih.1 k e m ds el h2 hd2
        refine ⟨y, ds, hy1, hy2, fun q u hu => ?_⟩
        have hq : q < t.sz := by have := (List.getElem?_eq_some_iff.1 hu).1; omega
        have := hcs q hq
        rw [Addr.add_add] at this
        rw [this, hu])
      refine ⟨l, ⟨some a, cap, by show _ = [Value.slice (some a) (List.length l) cap]; rw [hll], by show List.length l ≤ cap; omega, hm, fun _ => ⟨a, rfl, fun h => h, fun i x hx => ?_⟩⟩, by show List.length l ≤ _; have : maxLen = 9223372036854775807 := rfl; omega, fun i x hx => ?_⟩
      · obtain ⟨ds, h3, _, h4⟩ := hlq i x hx; exact ⟨ds, h3, h4⟩
      · obtain ⟨ds, _, h3, _⟩ := hlq i x hx; exact h3
  | wrap t ih =>
    refine (fun h => ⟨h, base _ (fun _ _ h => by cases h) h⟩) ?_
    intro n i fuel cs x hc hx
    obtain ⟨f, h1, h2, k, h3⟩ := Is.desc ⟨n, hc⟩
    obtain ⟨xs, m, _, _, hl, hlen, hf⟩ := DataW.trod_struct h1 hx
    rw [chk_cells hc] at hl
    have h4 := hf 0 f rfl
    rw [h2, chk_cells h3, List.drop_zero, List.take_of_length_le (by rw [hl]; exact Nat.le_refl _)] at h4
    obtain ⟨z, hz⟩ : ∃ z, xs[0]? = some z := ⟨_, List.getElem?_eq_getElem (by rw [hlen]; exact Nat.one_pos)⟩
    rw [hz] at h4
    exact ih.1 k _ _ _ _ h3 h4
  | pair a b iha ihb =>
    have hT : OpenT enc P w (.pair a b) := by
      intro n i fuel cs x hc hx
      obtain ⟨f, g, r, h1, h2, k, h3, h4⟩ := Is.desc ⟨n, hc⟩
      obtain ⟨xs, m, _, _, hl, hlen, hf⟩ := DataW.trod_struct h1 hx
      rw [chk_cells hc] at hl
      have hl : cs.length = a.sz + b.sz := hl
      have hsome : ∀ (j : Nat) f', (f :: g :: r)[j]? = some f' → ∃ z, DataW.trod enc P w 0 (fun _ => true) true m f'.type ((cs.drop f'.offset).take (P.cellsOf f'.type)) = some z := by
        intro j f' hj
        have h5 := hf j f' (by simpa using hj)
        have hj' : j < xs.length := by rw [hlen]; simpa using (List.getElem?_eq_some_iff.1 hj).1
        exact ⟨xs[j], by rw [h5, List.getElem?_eq_getElem hj']⟩
      obtain ⟨z, hz⟩ := hsome 0 f rfl
      rw [h2, chk_cells h3, List.drop_zero] at hz
      obtain ⟨y1, r1, o1⟩ := iha.1 k _ _ _ _ h3 hz
      obtain ⟨y2, r2, o2⟩ := ihb.2 k (g :: r) a.sz m cs h4 hl (fun j f' hj => hsome (j + 1) f' (by simpa using hj))
      exact ⟨(y1, y2), ⟨_, _, (List.take_append_drop a.sz cs).symm, r1, r2⟩, o1, o2⟩
    refine ⟨hT, ?_⟩
    intro n fs off m cs h hl hz
    cases fs with
    | nil => simp [chkR] at h
    | cons f r =>
      cases r with
      | nil => exact openR_one hT (by simpa [chkR] using h) hl (hz 0 f rfl)
      | cons g r =>
        simp only [chkR, Bool.and_eq_true, beq_iff_eq] at h
        obtain ⟨⟨rfl, hc⟩, hr⟩ := h
        have hl : cs.length = f.offset + (a.sz + b.sz) := hl
        obtain ⟨z, hz0⟩ := hz 0 f rfl
        rw [chk_cells hc] at hz0
        obtain ⟨y1, r1, o1⟩ := iha.1 n _ _ _ _ hc hz0
        obtain ⟨y2, r2, o2⟩ := ihb.2 n (g :: r) (f.offset + a.sz) m cs hr (by omega) (fun j f' hj => hz (j + 1) f' (by simpa using hj))
        refine ⟨(y1, y2), ⟨_, _, ?_, r1, r2⟩, o1, o2⟩
        rw [← List.drop_drop, List.take_append_drop]

/-- What is handed in is a value. -/
theorem open_v {t : Ty} {i : TypeId} {b0 : Nat} {r : Reach} {v : Value} {d : DataW H} {p : List MemPlace} (hi : Is P t i) (hv : Value.okWide P w r b0 i v) (h : DataW.Trod enc P w 0 (fun _ => true) true i v d p) :
    ∃ y : t.den, t.ok y ∧ t.rel w N0 y v := by
  obtain ⟨fuel, hf⟩ := h
  obtain ⟨n, hn⟩ := hi
  obtain ⟨y, h1, h2⟩ := (open_all (enc := enc) (P := P) (w := w) t).1 n i fuel _ _ hn hf
  refine ⟨y, h2, _, h1, ?_⟩
  have hd := Is.desc ⟨n, hn⟩
  have flat : t.agg = false → v.cells = #[v] → v = t.val v.cells.toList := by
    intro ha hc
    rw [hc]
    unfold Ty.val
    rw [ha]
    rfl
  have aggr : t.agg = true → (∃ cs, v = .agg cs) → v = t.val v.cells.toList := by
    rintro ha ⟨cs, rfl⟩
    unfold Ty.val
    rw [ha]
    rfl
  cases t with
  | int k => obtain ⟨z, rfl⟩ := okWide_int hd hv; exact flat rfl rfl
  | bool => obtain ⟨z, rfl⟩ := okWide_bool hd hv; exact flat rfl rfl
  | str => obtain ⟨z, rfl⟩ := okWide_string hd hv; exact flat rfl rfl
  | sl t => obtain ⟨e, hd, _⟩ := hd; obtain ⟨a, l, c, rfl⟩ := okWide_slice hd hv; exact flat rfl rfl
  | wrap t => obtain ⟨f, hd, _⟩ := hd; obtain ⟨cs, rfl, _⟩ := okWide_struct hd hv; exact aggr rfl ⟨_, rfl⟩
  | pair a b => obtain ⟨f, g, r, hd, _⟩ := hd; obtain ⟨cs, rfl, _⟩ := okWide_struct hd hv; exact aggr rfl ⟨_, rfl⟩
end

/-- a law holds of all arguments -/
def LawArgs : List Ty → (List AV → Prop) → Prop
  | [], Q => Q []
  | t :: r, Q => ∀ y : t.den, t.ok y → LawArgs r (fun l => Q (.v t y :: l))
theorem law_calls {P : Program} {f : Nat} {avs : List AV} {W : World} {args : List Value} (hG : Glo W) (h : Spec P f avs (.v .bool true) []) (hr : AV.rels W N0 (fun _ => (0, 0)) [] avs args) :
    Calls P f args.toArray W fun e W' => e = .returned (.bool true) ∧ Below W.heap.size W W' := by
  refine (h N0 W args hG (fun _ h => h.elim) hr).mono fun e W' ⟨u, loc, he, _, hu, hb⟩ => ?_
  obtain ⟨cs, hc, rfl⟩ := hu
  have hc : cs = [.bool true] := hc
  subst hc
  exact ⟨he, hb⟩
end Go.Proofs.YtboghejfmmigkaaGreatDoor.AE
/- Plain facts on numbers by digits of any base, and on lists: no program in sight. -/
namespace Go.Proofs.YtboghejfmmigkaaGreatDoor.Tri

def dv (B : Int) : List Int → Int
  | [] => 0
  | x :: xs => x + B * dv B xs

def Dig (B : Int) (l : List Int) : Prop := ∀ x, x ∈ l → 0 ≤ x ∧ x < B

/-- no nought at the end -/
def Top (l : List Int) : Prop := l.getLast? ≠ some 0

def Can (B : Int) (l : List Int) : Prop := Dig B l ∧ Top l

theorem dv_nil (B : Int) : dv B [] = 0 := rfl
theorem dv_cons (B x : Int) (xs : List Int) : dv B (x :: xs) = x + B * dv B xs := rfl
theorem dv_one (B x : Int) : dv B [x] = x := by simp [dv]

theorem dv_append (B : Int) (a b : List Int) : dv B (a ++ b) = dv B a + B ^ a.length * dv B b := by
  induction a with
  | nil => simp [dv]
  | cons x xs ih =>
    simp only [List.cons_append, dv, ih, List.length_cons, Int.pow_succ]
    grind

theorem dv_snoc (B : Int) (a : List Int) (x : Int) : dv B (a ++ [x]) = dv B a + B ^ a.length * x := by
  rw [dv_append, dv_one]

theorem Dig.nil (B : Int) : Dig B [] := fun _ h => by simp at h
theorem Dig.cons {B x : Int} {l : List Int} (h : 0 ≤ x ∧ x < B) (hl : Dig B l) : Dig B (x :: l) := by
  intro y hy
  rcases List.mem_cons.1 hy with rfl | hy
  · exact h
  · exact hl y hy
theorem Dig.head {B x : Int} {l : List Int} (h : Dig B (x :: l)) : 0 ≤ x ∧ x < B := h x (by simp)
theorem Dig.tail {B x : Int} {l : List Int} (h : Dig B (x :: l)) : Dig B l := fun y hy => h y (by simp [hy])
theorem Dig.append {B : Int} {a b : List Int} (ha : Dig B a) (hb : Dig B b) : Dig B (a ++ b) := by
  intro y hy
  rcases List.mem_append.1 hy with hy | hy
  · exact ha y hy
  · exact hb y hy
theorem Dig.snoc {B x : Int} {l : List Int} (hl : Dig B l) (h : 0 ≤ x ∧ x < B) : Dig B (l ++ [x]) :=
  hl.append (Dig.cons h (Dig.nil B))
theorem Dig.left {B : Int} {a b : List Int} (h : Dig B (a ++ b)) : Dig B a := fun y hy => h y (by simp [hy])
theorem Dig.right {B : Int} {a b : List Int} (h : Dig B (a ++ b)) : Dig B b := fun y hy => h y (by simp [hy])
theorem Dig.take {B : Int} {a : List Int} (h : Dig B a) (n : Nat) : Dig B (a.take n) := fun y hy => h y (List.mem_of_mem_take hy)
theorem Dig.drop {B : Int} {a : List Int} (h : Dig B a) (n : Nat) : Dig B (a.drop n) := fun y hy => h y (List.mem_of_mem_drop hy)
theorem Dig.set {B : Int} {a : List Int} (h : Dig B a) (n : Nat) {v : Int} (hv : 0 ≤ v ∧ v < B) : Dig B (a.set n v) := by
  intro y hy
  rcases List.mem_or_eq_of_mem_set hy with hy | rfl
  · exact h y hy
  · exact hv
theorem Dig.replicate {B : Int} (hB : 0 < B) (n : Nat) : Dig B (List.replicate n 0) := by
  intro y hy
  have := (List.mem_replicate.1 hy).2
  subst this; omega

theorem dv_nonneg {B : Int} (hB : 0 < B) {l : List Int} (h : Dig B l) : 0 ≤ dv B l := by
  induction l with
  | nil => simp [dv]
  | cons x xs ih =>
    have h1 := h.head
    have h2 := ih h.tail
    have := Int.mul_nonneg (Int.le_of_lt hB) h2
    simp only [dv]; omega

theorem pow_pos' {B : Int} (hB : 0 < B) (n : Nat) : 0 < B ^ n := Int.pow_pos hB

theorem dv_lt {B : Int} (hB : 0 < B) {l : List Int} (h : Dig B l) : dv B l < B ^ l.length := by
  induction l with
  | nil => simp [dv]
  | cons x xs ih =>
    have h1 := h.head
    have h2 := ih h.tail
    have : B * (dv B xs + 1) ≤ B * B ^ xs.length := Int.mul_le_mul_of_nonneg_left (by omega) (Int.le_of_lt hB)
    simp only [dv, List.length_cons, Int.pow_succ]
    grind

/-- two lists of digits of one length and one value are the same -/
theorem dv_inj_len {B : Int} (hB : 0 < B) : ∀ {a b : List Int}, Dig B a → Dig B b → a.length = b.length → dv B a = dv B b → a = b
  | [], [], _, _, _, _ => rfl
  | [], _ :: _, _, _, h, _ => by simp at h
  | _ :: _, [], _, _, h, _ => by simp at h
  | x :: xs, y :: ys, ha, hb, hl, hv => by
    have h1 := ha.head
    have h2 := hb.head
    simp only [dv] at hv
    have e1 : (x + B * dv B xs) % B = x := by rw [Int.add_mul_emod_self_left, Int.emod_eq_of_lt h1.1 h1.2]
    have e2 : (y + B * dv B ys) % B = y := by rw [Int.add_mul_emod_self_left, Int.emod_eq_of_lt h2.1 h2.2]
    have hxy : x = y := by rw [← e1, ← e2, hv]
    subst hxy
    have h3 : B * dv B xs = B * dv B ys := by omega
    have h4 : dv B xs = dv B ys := Int.eq_of_mul_eq_mul_left (by omega) h3
    rw [dv_inj_len hB ha.tail hb.tail (by simpa using hl) h4]

theorem Top.nil : Top [] := by simp [Top]
theorem Top.snoc {l : List Int} {x : Int} : Top (l ++ [x]) ↔ x ≠ 0 := by simp [Top]
theorem Can.nil (B : Int) : Can B [] := ⟨Dig.nil B, Top.nil⟩

theorem eq_snoc {α : Type} {l : List α} (h : l ≠ []) : ∃ a x, l = a ++ [x] :=
  ⟨l.dropLast, l.getLast h, (List.dropLast_concat_getLast h).symm⟩

theorem Can.ge {B : Int} (hB : 0 < B) {l : List Int} (h : Can B l) (hl : l ≠ []) : B ^ (l.length - 1) ≤ dv B l := by
  obtain ⟨a, x, rfl⟩ := eq_snoc hl
  have hx := Top.snoc.1 h.2
  have hd := h.1.right.head
  have ha := dv_nonneg hB h.1.left
  rw [dv_snoc]
  have : B ^ a.length * 1 ≤ B ^ a.length * x := Int.mul_le_mul_of_nonneg_left (by omega) (Int.le_of_lt (pow_pos' hB _))
  simp only [List.length_append, List.length_cons, List.length_nil, Nat.add_sub_cancel, Nat.zero_add]
  omega

theorem Can.pos {B : Int} (hB : 0 < B) {l : List Int} (h : Can B l) (hl : l ≠ []) : 0 < dv B l := by
  have := h.ge hB hl
  have := pow_pos' hB (l.length - 1)
  omega

theorem Can.eq_nil {B : Int} (hB : 0 < B) {l : List Int} (h : Can B l) : l = [] ↔ dv B l = 0 := by
  constructor
  · rintro rfl; rfl
  · intro hv
    apply Classical.byContradiction
    intro hl
    have := h.pos hB hl
    omega

theorem pow_mono {B : Int} (hB : 0 < B) {m n : Nat} (h : m ≤ n) : B ^ m ≤ B ^ n := by
  obtain ⟨d, rfl⟩ := Nat.exists_eq_add_of_le h
  rw [Int.pow_add]
  have h1 := pow_pos' hB m
  have h2 := pow_pos' hB d
  have : B ^ m * 1 ≤ B ^ m * B ^ d := Int.mul_le_mul_of_nonneg_left (by omega) (Int.le_of_lt h1)
  omega

/-- of two canonical lists the longer one is the greater -/
theorem Can.lt_of_length {B : Int} (hB : 0 < B) {a b : List Int} (ha : Dig B a) (hb : Can B b) (h : a.length < b.length) : dv B a < dv B b := by
  have h1 := dv_lt hB ha
  have hne : b ≠ [] := by rintro rfl; simp at h
  have h2 := hb.ge hB hne
  have h3 := pow_mono hB (show a.length ≤ b.length - 1 by omega)
  omega

theorem Can.inj {B : Int} (hB : 0 < B) {a b : List Int} (ha : Can B a) (hb : Can B b) (hv : dv B a = dv B b) : a = b := by
  rcases Nat.lt_trichotomy a.length b.length with h | h | h
  · have := Can.lt_of_length hB ha.1 hb h; omega
  · exact dv_inj_len hB ha.1 hb.1 h hv
  · have := Can.lt_of_length hB hb.1 ha h; omega

/-- without noughts at the end -/
def trimz : List Int → List Int
  | [] => []
  | x :: xs => if trimz xs = [] ∧ x = 0 then [] else x :: trimz xs

theorem trimz_dig {B : Int} {l : List Int} (h : Dig B l) : Dig B (trimz l) := by
  induction l with
  | nil => exact h
  | cons x xs ih =>
    simp only [trimz]; split
    · exact Dig.nil B
    · exact Dig.cons h.head (ih h.tail)

theorem trimz_top (l : List Int) : Top (trimz l) := by
  induction l with
  | nil => exact Top.nil
  | cons x xs ih =>
    simp only [trimz]; split
    · exact Top.nil
    · rename_i hn
      by_cases he : trimz xs = []
      · rw [he]; simp [Top]; intro hx; exact hn ⟨he, hx⟩
      · unfold Top; rw [List.getLast?_cons_of_ne_nil he]; exact ih

theorem trimz_dv (B : Int) (l : List Int) : dv B (trimz l) = dv B l := by
  induction l with
  | nil => rfl
  | cons x xs ih =>
    simp only [trimz]; split
    · rename_i h
      rw [h.1] at ih; simp only [dv] at *; rw [← ih, h.2]; simp
    · simp only [dv, ih]

theorem trimz_can {B : Int} {l : List Int} (h : Dig B l) : Can B (trimz l) := ⟨trimz_dig h, trimz_top l⟩

theorem trimz_snoc_zero (l : List Int) : trimz (l ++ [0]) = trimz l := by
  induction l with
  | nil => simp [trimz]
  | cons x xs ih => simp only [List.cons_append, trimz, ih]

theorem trimz_of_top {l : List Int} (h : Top l) : trimz l = l := by
  induction l with
  | nil => rfl
  | cons x xs ih =>
    simp only [trimz]
    by_cases he : xs = []
    · subst he
      have : x ≠ 0 := by simpa [Top] using h
      simp [trimz, this]
    · have ht : Top xs := by unfold Top at *; rwa [List.getLast?_cons_of_ne_nil he] at h
      rw [ih ht, if_neg (by simp [he])]

end Go.Proofs.YtboghejfmmigkaaGreatDoor.Tri
