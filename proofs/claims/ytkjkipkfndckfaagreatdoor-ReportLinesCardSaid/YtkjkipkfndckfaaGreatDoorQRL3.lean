/- The code comes to the printed functions (printed by a program of ours). -/
import Derived.Test.YtkjkipkfndckfaaGreatDoorQRL2
import Derived.Test.YtkjkipkfndckfaaGreatDoorProg
import Derived.Shelf.LaysM
import Derived.Shelf.Strconv.Itoa3
import Derived.Shelf.Strings.OnBuilder
import Derived.Lib.SmallJoins
import Derived.Lib.AppendIntMem
/- Arrays of two: built, and one of both taken. -/
namespace Go.Proofs.YtkjkipkfndckfaaGreatDoor.AE
open Go Go.RowKit Go.Proofs.YtkjkipkfndckfaaGreatDoor.AP
set_option linter.unusedSimpArgs false
set_option linter.unusedVariables false
/-- An array type of two elements. -/
def A2 (P : Program) (t e : TypeId) : Prop := P.underlying t = some (.array 2 e)
theorem A2.of {P : Program} {t e : TypeId} (h : (match P.underlying t with | some (.array 2 e') => Nat.beq e' e | _ => false) = true) : A2 P t e := by
  unfold A2
  split at h
  · rename_i e' hu
    rw [hu, Nat.eq_of_beq_eq_true h]
  · cases h
section
variable {P : Program} {s : List (Nat × AV)} {o : Objs} {n d : Nat} {ty : TypeId} {pos : String} {after : Array Edge} {gd : Option (Nat × Bool)} {t e : TypeId}
theorem Ev.e_build2 (X : Cx P) {τ : Ty} {x0 x1 : Operand} {A0 A1 : List AV} {zc : List Value} (hu : A2 P t e) (hz : ZS P t zc) (hzl : Nat.beq zc.length (τ.sz + τ.sz) = true) (he : X.ty e = some τ) (h0 : spreadC o (V s o n x0) = some A0) (h1 : spreadC o (V s o n x1) = some A1) (l0 : Nat.beq A0.length τ.sz = true) (l1 : Nat.beq A1.length τ.sz = true) (hd : Nat.blt d n = true) :
    Ev P ⟨some d, .build t #[(0, x0), (1, x1)], ty, pos, after, gd⟩ s o n (.st (A0 ++ A1)) o :=
  Ev.pure hd (fun N w0 loc a w hlk => by
    obtain ⟨f, z, hf, hfz, rfl⟩ := hz
    obtain ⟨ie, zz, hie, hsz, _⟩ := (X.ok _ _ he).info
    have hzl := Nat.eq_of_beq_eq_true hzl
    have l0 := Nat.eq_of_beq_eq_true l0
    have l1 := Nat.eq_of_beq_eq_true l1
    obtain ⟨c0, k0, r0, _⟩ := spreadC_rel h0 (hlk.val x0 (by simp [Op.operands]))
    obtain ⟨c1, k1, r1, _⟩ := spreadC_rel h1 (hlk.val x1 (by simp [Op.operands]))
    have n0 : (a.eval x0).cells.size = τ.sz := by rw [k0, List.size_toArray, rels_len r0, l0]
    have n1 : (a.eval x1).cells.size = τ.sz := by rw [k1, List.size_toArray, rels_len r1, l1]
    have hfm : ([a.eval x0, a.eval x1].flatMap fun v => v.cells.toList) = c0 ++ c1 := by
      rw [List.flatMap_cons, List.flatMap_cons, List.flatMap_nil, List.append_nil, k0, k1, List.toList_toArray, List.toList_toArray]
    have q0 := rels_len r0
    have q1 := rels_len r1
    obtain ⟨r, g1, g2⟩ := fill_fits (fun i => some (i * ie.size, ie.size)) [a.eval x0, a.eval x1] 0 0 z.cells ⟨by show some (0 * ie.size, ie.size) = some (0, (a.eval x0).cells.size); rw [hsz, n0, Nat.zero_mul], by show some (1 * ie.size, ie.size) = some (0 + (a.eval x0).cells.size, (a.eval x1).cells.size); rw [hsz, n0, n1, Nat.one_mul, Nat.zero_add], trivial⟩ (by rw [hfm, List.length_append, ← Array.length_toList]; omega)
    have hb : P.built t ((#[(0, x0), (1, x1)] : Array (Nat × Operand)).map fun (i, x) => (i, a.eval x)).toList = some r := by
      unfold Program.built
      rw [hf, hu]
      dsimp only
      rw [hfz, hie]
      simpa using g1
    refine ⟨.agg r, run_v (run_build w t _ r hb), ?_⟩
    rw [AV.rel]
    refine ⟨c0 ++ c1, ?_, rels_app r0 r1⟩
    congr 1
    apply Array.toList_inj.1
    rw [g2, hfm, List.take_zero, List.nil_append, List.drop_of_length_le (by rw [List.length_append]; omega), List.append_nil])
theorem Ev.e_index2 (X : Cx P) {τ : Ty} {x y : Operand} {L : List AV} {k : IntKind} {w0 w1 v : τ.den} {i : Int} (h : rd [w0, w1] i = some v) (hx : V s o n x = .st L) (hy : V s o n y = .v (.int k) i) (hu : A2 P t e) (he : X.ty e = some τ) (ha : τ.agg = true) (hl : Nat.beq L.length (τ.sz + τ.sz) = true) (g0 : gath τ (L.take τ.sz) = some w0) (g1 : gath τ (L.drop τ.sz) = some w1) (hd : Nat.blt d n = true) :
    Ev P ⟨some d, .index t x y, ty, pos, after, gd⟩ s o n (.v τ v) o :=
  Ev.pure hd (fun N wb loc a w hlk => by
    have hl := Nat.eq_of_beq_eq_true hl
    have hX := hlk.look (by simp [Op.operands]) hx
    have hY := of_int (hlk.look (by simp [Op.operands]) hy)
    rw [AV.rel] at hX
    obtain ⟨us, hX, hr⟩ := hX
    obtain ⟨t0, t1⟩ := rels_take τ.sz hr
    have hlen := rels_len hr
    have hO := X.ok _ _ he
    have hsz := hO.run_size w
    have hag := hO.run_agg w
    rw [ha] at hag
    have hlt := rd_lt h
    have hlt2 : i < 2 := hlt.2
    have hi : i = 0 ∨ i = 1 := by omega
    have hb : (0 ≤ i ∧ i < (2 : Int)) := ⟨hlt.1, hlt2⟩
    have hu : P.underlying t = some (.array 2 e) := hu
    have hval : ∀ cs : List Value, τ.val cs = .agg cs.toArray := fun cs => by unfold Ty.val; rw [if_pos ha]
    rcases hi with rfl | rfl
    · obtain rfl : w0 = v := Option.some.inj h
      refine ⟨.agg (us.toArray.extract 0 (0 + τ.sz)), ?_, ?_⟩
      · simp [execOp, hX, hY, Instr.index, asIntOf, Go.underlying, hu, part, hsz, hag]
      · rw [AV.rel]
        refine ⟨us.take τ.sz, gath_rel τ _ _ _ g0 t0, ?_⟩
        rw [hval]
        congr 1
        apply Array.toList_inj.1
        simp
    · obtain rfl : w1 = v := Option.some.inj h
      refine ⟨.agg (us.toArray.extract τ.sz (τ.sz + τ.sz)), ?_, ?_⟩
      · simp [execOp, hX, hY, Instr.index, asIntOf, Go.underlying, hu, part, hsz, hag]
      · rw [AV.rel]
        refine ⟨us.drop τ.sz, gath_rel τ _ _ _ g1 t1, ?_⟩
        rw [hval]
        congr 1
        apply Array.toList_inj.1
        simp
        rw [List.take_of_length_le (by rw [List.length_drop]; omega)])
end
/-- The same, told as a state that is given. -/
theorem Ghost.onlyK {s : List (Nat × AV)} {o : Objs} {n : Nat} {σ : St} (rs : List (Nat × Nat)) (ts : List Nat) (hok : okRen rs = true) (he : (⟨keepR rs s ts, mapO rs o rs, n⟩ : St) = σ) : Ghost ⟨s, o, n⟩ σ := he ▸ Ghost.only rs ts hok
end Go.Proofs.YtkjkipkfndckfaaGreatDoor.AE
/- Values of the program's structs. -/
namespace Go.Proofs.YtkjkipkfndckfaaGreatDoor.AP
abbrev D_api_Prefix : Type := (Int × Int)
abbrev D_api_Query : Type := (Int × ByteArray × ByteArray × ByteArray × Int × D_api_Prefix × Int)
abbrev D_api_Int : Type := (Bool × (List Int))
abbrev D_api_Rat : Type := (D_api_Int × (List Int))
abbrev D_triviumlaw38_Told : Type := (Int × Int × Bool × Bool × Bool × Int × D_api_Rat × D_api_Rat × D_api_Rat)
abbrev D_absorb_Measure : Type := (D_api_Rat × D_api_Rat × D_api_Rat)
abbrev D_hops_Mean : Type := (Bool × D_api_Rat)
abbrev D_compare_Witness : Type := (Bool × Int × D_api_Rat × D_api_Rat)
abbrev D_compare_Verdict : Type := (Int × D_compare_Witness × D_compare_Witness)
abbrev D_engine_Answer : Type := (Int × D_absorb_Measure × D_hops_Mean × D_api_Rat × D_compare_Verdict)
abbrev D_triviumref07_Z : Type := (Bool × (List Int))
abbrev D_triviumref08_Q : Type := (D_triviumref07_Z × (List Int))
abbrev D_triviumref34_Measure : Type := (D_triviumref08_Q × D_triviumref08_Q × D_triviumref08_Q)
abbrev D_triviumref35_Mean : Type := (Bool × D_triviumref08_Q)
abbrev D_triviumref36_Witness : Type := (Bool × Int × D_triviumref08_Q × D_triviumref08_Q)
abbrev D_triviumref36_Verdict : Type := (Int × D_triviumref36_Witness × D_triviumref36_Witness)
abbrev D_triviumref37_Answer : Type := (Int × D_triviumref34_Measure × D_triviumref35_Mean × D_triviumref08_Q × D_triviumref36_Verdict)
end Go.Proofs.YtkjkipkfndckfaaGreatDoor.AP
/- Types of the printed functions, and what the proofs say of them. -/
namespace Go.Proofs.YtkjkipkfndckfaaGreatDoor.AE
open Go Go.RowKit Go.Proofs.YtkjkipkfndckfaaGreatDoor.AP
abbrev Y_api_Prefix : Ty := (.pair (.int .u32) (.int .i64))
abbrev Y_api_Query : Ty := (.pair (.int .i64) (.pair .str (.pair .str (.pair .str (.pair (.int .u32) (.pair Y_api_Prefix (.int .i64)))))))
abbrev Y_api_Int : Ty := (.pair .bool (.sl (.int .u64)))
abbrev Y_api_Rat : Ty := (.pair Y_api_Int (.sl (.int .u64)))
abbrev Y_triviumlaw38_Told : Ty := (.pair (.int .i64) (.pair (.int .i64) (.pair .bool (.pair .bool (.pair .bool (.pair (.int .u32) (.pair Y_api_Rat (.pair Y_api_Rat Y_api_Rat))))))))
abbrev Y_absorb_Measure : Ty := (.pair Y_api_Rat (.pair Y_api_Rat Y_api_Rat))
abbrev Y_hops_Mean : Ty := (.pair .bool Y_api_Rat)
abbrev Y_compare_Witness : Ty := (.pair .bool (.pair (.int .u32) (.pair Y_api_Rat Y_api_Rat)))
abbrev Y_compare_Verdict : Ty := (.pair (.int .i64) (.pair Y_compare_Witness Y_compare_Witness))
abbrev Y_engine_Answer : Ty := (.pair (.int .i64) (.pair Y_absorb_Measure (.pair Y_hops_Mean (.pair Y_api_Rat Y_compare_Verdict))))
abbrev Y_triviumref07_Z : Ty := (.pair .bool (.sl (.int .i64)))
abbrev Y_triviumref08_Q : Ty := (.pair Y_triviumref07_Z (.sl (.int .i64)))
abbrev Y_triviumref34_Measure : Ty := (.pair Y_triviumref08_Q (.pair Y_triviumref08_Q Y_triviumref08_Q))
abbrev Y_triviumref35_Mean : Ty := (.pair .bool Y_triviumref08_Q)
abbrev Y_triviumref36_Witness : Ty := (.pair .bool (.pair (.int .u32) (.pair Y_triviumref08_Q Y_triviumref08_Q)))
abbrev Y_triviumref36_Verdict : Ty := (.pair (.int .i64) (.pair Y_triviumref36_Witness Y_triviumref36_Witness))
abbrev Y_triviumref37_Answer : Ty := (.pair (.int .i64) (.pair Y_triviumref34_Measure (.pair Y_triviumref35_Mean (.pair Y_triviumref08_Q Y_triviumref36_Verdict))))
def tab : Tab := [(3, (.int .i64), 0), (4, .bool, 0), (5, (.int .u8), 0), (9, .str, 0), (22, (.int .u32), 0), (24, Y_api_Prefix, 2), (26, Y_api_Query, 7), (27, (.sl (.int .u64)), 0), (28, (.sl (.int .u64)), 0), (30, Y_api_Int, 2), (32, Y_api_Rat, 2), (34, Y_triviumlaw38_Told, 9), (37, Y_absorb_Measure, 3), (39, Y_hops_Mean, 2), (41, Y_compare_Witness, 4), (43, Y_compare_Verdict, 3), (45, Y_engine_Answer, 5), (47, (.sl (.int .i64)), 0), (49, Y_triviumref07_Z, 2), (51, Y_triviumref08_Q, 2), (53, Y_triviumref34_Measure, 3), (55, Y_triviumref35_Mean, 2), (57, Y_triviumref36_Witness, 4), (59, Y_triviumref36_Verdict, 3), (61, Y_triviumref37_Answer, 5), (71, (.sl .str), 0), (92, (.sl (.int .u8)), 0), (104, (.int .u64), 0)]
def els : Els := [(27, 104, 8), (28, 104, 8), (47, 3, 8), (71, 9, 16), (92, 5, 1)]
def X : Cx Tryz.prog := Cx.of tab els (by kernel_rfl) (by kernel_rfl)
theorem pl26 : placesOf Tryz.prog 26 = some [(0, 1), (1, 1), (2, 1), (3, 1), (4, 1), (5, 2), (7, 1)] := by kernel_rfl
theorem pl30 : placesOf Tryz.prog 30 = some [(0, 1), (1, 1)] := by kernel_rfl
theorem pl32 : placesOf Tryz.prog 32 = some [(0, 2), (2, 1)] := by kernel_rfl
theorem pl37 : placesOf Tryz.prog 37 = some [(0, 3), (3, 3), (6, 3)] := by kernel_rfl
theorem pl39 : placesOf Tryz.prog 39 = some [(0, 1), (1, 3)] := by kernel_rfl
theorem pl41 : placesOf Tryz.prog 41 = some [(0, 1), (1, 1), (2, 3), (5, 3)] := by kernel_rfl
theorem pl43 : placesOf Tryz.prog 43 = some [(0, 1), (1, 8), (9, 8)] := by kernel_rfl
theorem pl45 : placesOf Tryz.prog 45 = some [(0, 1), (1, 9), (10, 4), (14, 3), (17, 17)] := by kernel_rfl
theorem pl49 : placesOf Tryz.prog 49 = some [(0, 1), (1, 1)] := by kernel_rfl
theorem pl51 : placesOf Tryz.prog 51 = some [(0, 2), (2, 1)] := by kernel_rfl
theorem pl53 : placesOf Tryz.prog 53 = some [(0, 3), (3, 3), (6, 3)] := by kernel_rfl
theorem pl55 : placesOf Tryz.prog 55 = some [(0, 1), (1, 3)] := by kernel_rfl
theorem pl57 : placesOf Tryz.prog 57 = some [(0, 1), (1, 1), (2, 3), (5, 3)] := by kernel_rfl
theorem pl59 : placesOf Tryz.prog 59 = some [(0, 1), (1, 8), (9, 8)] := by kernel_rfl
theorem pl61 : placesOf Tryz.prog 61 = some [(0, 1), (1, 9), (10, 4), (14, 3), (17, 17)] := by kernel_rfl
theorem zs26 : ZS Tryz.prog 26 (([.int .i64, .str, .str, .str, .int .u32, .int .u32, .int .i64, .int .i64] : List ZK).map ZK.val) := ZS.of (by kernel_rfl)
theorem zs32 : ZS Tryz.prog 32 (([.bool, .sl, .sl] : List ZK).map ZK.val) := ZS.of (by kernel_rfl)
theorem zs43 : ZS Tryz.prog 43 (([.int .i64, .bool, .int .u32, .bool, .sl, .sl, .bool, .sl, .sl, .bool, .int .u32, .bool, .sl, .sl, .bool, .sl, .sl] : List ZK).map ZK.val) := ZS.of (by kernel_rfl)
theorem zs45 : ZS Tryz.prog 45 (([.int .i64, .bool, .sl, .sl, .bool, .sl, .sl, .bool, .sl, .sl, .bool, .bool, .sl, .sl, .bool, .sl, .sl, .int .i64, .bool, .int .u32, .bool, .sl, .sl, .bool, .sl, .sl, .bool, .int .u32, .bool, .sl, .sl, .bool, .sl, .sl] : List ZK).map ZK.val) := ZS.of (by kernel_rfl)
theorem zs59 : ZS Tryz.prog 59 (([.int .i64, .bool, .int .u32, .bool, .sl, .sl, .bool, .sl, .sl, .bool, .int .u32, .bool, .sl, .sl, .bool, .sl, .sl] : List ZK).map ZK.val) := ZS.of (by kernel_rfl)
theorem zs61 : ZS Tryz.prog 61 (([.int .i64, .bool, .sl, .sl, .bool, .sl, .sl, .bool, .sl, .sl, .bool, .bool, .sl, .sl, .bool, .sl, .sl, .int .i64, .bool, .int .u32, .bool, .sl, .sl, .bool, .sl, .sl, .bool, .int .u32, .bool, .sl, .sl, .bool, .sl, .sl] : List ZK).map ZK.val) := ZS.of (by kernel_rfl)
theorem zs94 : ZS Tryz.prog 94 (([.ptr, .sl] : List ZK).map ZK.val) := ZS.of (by kernel_rfl)
theorem zs133 : ZS Tryz.prog 133 (([.bool, .int .u32, .bool, .sl, .sl, .bool, .sl, .sl, .bool, .int .u32, .bool, .sl, .sl, .bool, .sl, .sl] : List ZK).map ZK.val) := ZS.of (by kernel_rfl)
theorem ar133 : A2 Tryz.prog 133 41 := A2.of (by kernel_rfl)
theorem sz26 : SZ Tryz.prog 26 true 8 := SZ.of (by kernel_rfl)
theorem sz32 : SZ Tryz.prog 32 true 3 := SZ.of (by kernel_rfl)
theorem sz45 : SZ Tryz.prog 45 true 34 := SZ.of (by kernel_rfl)
theorem sz61 : SZ Tryz.prog 61 true 34 := SZ.of (by kernel_rfl)
theorem sz91 : SZ Tryz.prog 91 false 1 := SZ.of (by kernel_rfl)
theorem sz92 : SZ Tryz.prog 92 false 1 := SZ.of (by kernel_rfl)
theorem fo94_0 : FO Tryz.prog 94 0 0 91 := FO.of (by kernel_rfl)
theorem fo94_1 : FO Tryz.prog 94 1 1 92 := FO.of (by kernel_rfl)
theorem en27 : Enters Tryz.prog 27 := ⟨_, Tryz.func27, rfl, rfl⟩
theorem en28 : Enters Tryz.prog 28 := ⟨_, Tryz.func28, rfl, rfl⟩
theorem en56 : Enters Tryz.prog 56 := ⟨_, Tryz.func56, rfl, rfl⟩
theorem en129 : Enters Tryz.prog 129 := ⟨_, Tryz.func129, rfl, rfl⟩
theorem en130 : Enters Tryz.prog 130 := ⟨_, Tryz.func130, rfl, rfl⟩
theorem pt91 : PT Tryz.prog 91 := PT.of (by kernel_rfl)
theorem up91_142 : UP Tryz.prog 91 142 := UP.of (by kernel_rfl)
theorem ul142_91_94_2 : UL Tryz.prog 142 91 94 2 := UL.of (by kernel_rfl)
theorem us121_5 : US Tryz.prog 121 5 := US.of (by kernel_rfl)
theorem ne78 : NE Tryz.prog 78 := ⟨_, Tryz.func78, by kernel_rfl, by kernel_rfl, by kernel_rfl, by kernel_rfl⟩
end Go.Proofs.YtkjkipkfndckfaaGreatDoor.AE
/- The library's contracts that this seat uses, laid at its dump. -/
namespace Go.Proofs
open Go.Shelf
def Tryz.lays156_ren : Go.Shelf.Ren := ⟨fun | 156 => 15 | 165 => 32 | 166 => 27 | 169 => 28 | 240 => 56 | 241 => 58 | 276 => 78 | 277 => 83 | n => n, fun | 31 => 71 | 9 => 9 | 3 => 3 | 4 => 4 | 0 => 0 | 20 => 20 | 72 => 94 | 76 => 97 | 70 => 91 | 37 => 92 | 75 => 96 | 127 => 121 | 164 => 142 | 5 => 5 | 80 => 99 | n => n, fun | n => n⟩
theorem Tryz.lays156 : Go.Proofs.Lays.n156 Tryz.prog Tryz.lays156_ren := {
  mixed := by kernel_rfl
  f156 := Tryz.func15.trans (congrArg some (by kernel_rfl))
  f165 := Tryz.func32.trans (congrArg some (by kernel_rfl))
  f166 := Tryz.func27.trans (congrArg some (by kernel_rfl))
  f169 := Tryz.func28.trans (congrArg some (by kernel_rfl))
  f240 := Tryz.func56.trans (congrArg some (by kernel_rfl))
  f241 := Tryz.func58.trans (congrArg some (by kernel_rfl))
  f276 := Tryz.func78.trans (congrArg some (by kernel_rfl))
  f277 := Tryz.func83.trans (congrArg some (by kernel_rfl))
  t0 := Tryz.underlying0
  a0 := Tryz.isAgg0
  z0 := Tryz.sizeOf0
  v0 := Tryz.zeroValue0
  t3 := Tryz.underlying3
  a3 := Tryz.isAgg3
  z3 := Tryz.sizeOf3
  v3 := Tryz.zeroValue3
  t4 := Tryz.underlying4
  a4 := Tryz.isAgg4
  z4 := Tryz.sizeOf4
  v4 := Tryz.zeroValue4
  t9 := Tryz.underlying9
  a9 := Tryz.isAgg9
  z9 := Tryz.sizeOf9
  v9 := Tryz.zeroValue9
  t20 := Tryz.underlying20
  a20 := Tryz.isAgg20
  z20 := Tryz.sizeOf20
  v20 := Tryz.zeroValue20
  t31 := Tryz.underlying71
  a31 := Tryz.isAgg71
  z31 := Tryz.sizeOf71
  v31 := Tryz.zeroValue71
  t37 := Tryz.underlying92
  a37 := Tryz.isAgg92
  z37 := Tryz.sizeOf92
  v37 := Tryz.zeroValue92
  t70 := Tryz.underlying91
  a70 := Tryz.isAgg91
  z70 := Tryz.sizeOf91
  v70 := Tryz.zeroValue91
  t72 := Tryz.underlying94
  a72 := Tryz.isAgg94
  z72 := Tryz.sizeOf94
  v72 := Tryz.zeroValue94
  t75 := Tryz.underlying96
  a75 := Tryz.isAgg96
  z75 := Tryz.sizeOf96
  v75 := Tryz.zeroValue96
  t76 := Tryz.underlying97
  a76 := Tryz.isAgg97
  z76 := Tryz.sizeOf97
  v76 := Tryz.zeroValue97
  t127 := Tryz.underlying121
  a127 := Tryz.isAgg121
  z127 := Tryz.sizeOf121
  v127 := Tryz.zeroValue121
  t164 := Tryz.underlying142
  a164 := Tryz.isAgg142
  z164 := Tryz.sizeOf142
  v164 := Tryz.zeroValue142 }
theorem Tryz.Builder_Extra_156 : Builder.Extra Tryz.prog Tryz.lays156_ren := {
  sizeBuilder := by kernel_rfl
  liesBuilder := by kernel_rfl
  t5 := Tryz.underlying5
  a5 := Tryz.isAgg5
  z5 := Tryz.sizeOf5
  v5 := Tryz.zeroValue5
  infoByte := by kernel_rfl
  cellsByte := by kernel_rfl
  sizeByte := by kernel_rfl
  neB5 := by decide }
open Go.RowKit in
theorem Tryz.strings_Join_none (a : Option Addr) (c : Nat) (sep : ByteArray) (w : World) :
    Calls Tryz.prog 15 #[.slice a 0 c, .string sep] w fun e w' => e = .returned (.string ⟨#[]⟩) ∧ w' = w := Any.strings_Join_none Tryz.lays156 Tryz.Builder_Extra_156 a c sep w
open Go.RowKit in
theorem Tryz.strings_Join (bk o c : Nat) (xs : List ByteArray) (sep : ByteArray) (w : World) (hcells : ∀ (j : Nat) x, xs[j]? = some x → w.cell? ⟨bk, o + j, none⟩ = some (.string x)) (hbk : bk < w.heap.size) (hN : xs.length ≤ 140737488355328) (hcap : xs.length ≤ c) (hlen : (Lib.join (xs.map (·.data.toList)) sep.data.toList).length ≤ 140737488355328) :
    Calls Tryz.prog 15 #[.slice (some ⟨bk, o, none⟩) xs.length c, .string sep] w fun e w' => e = .returned (.string ⟨(Lib.join (xs.map (·.data.toList)) sep.data.toList).toArray⟩) ∧ Below w.heap.size w w' := Any.strings_Join Tryz.lays156 Tryz.Builder_Extra_156 bk o c xs sep w hcells hbk hN hcap hlen
def Tryz.laysM171_ren : Go.Shelf.Ren := ⟨fun | 171 => 44 | 243 => 70 | 246 => 88 | 283 => 103 | 284 => 104 | 285 => 105 | 286 => 106 | 129 => 115 | 317 => 114 | 318 => 116 | 319 => 117 | 320 => 118 | 337 => 124 | 338 => 125 | n => n, fun | 3 => 3 | 9 => 9 | 2 => 2 | 4 => 4 | 171 => 168 | 0 => 0 | 53 => 104 | 37 => 92 | 5 => 5 | 173 => 171 | 212 => 185 | 51 => 22 | 20 => 20 | 213 => 186 | 46 => 145 | 232 => 202 | 233 => 203 | n => n, fun | 17 => 1 | 18 => 2 | 19 => 3 | n => n⟩
theorem Tryz.laysM171 : Go.Proofs.LaysM.n171 Tryz.prog Tryz.laysM171_ren := {
  mixed := by kernel_rfl
  f129 := Tryz.func115.trans (congrArg some (by kernel_rfl))
  f171 := Tryz.func44.trans (congrArg some (by kernel_rfl))
  f243 := Tryz.func70.trans (congrArg some (by kernel_rfl))
  f246 := Tryz.func88.trans (congrArg some (by kernel_rfl))
  f283 := Tryz.func103.trans (congrArg some (by kernel_rfl))
  f284 := Tryz.func104.trans (congrArg some (by kernel_rfl))
  f285 := Tryz.func105.trans (congrArg some (by kernel_rfl))
  f286 := Tryz.func106.trans (congrArg some (by kernel_rfl))
  f317 := Tryz.func114.trans (congrArg some (by kernel_rfl))
  f318 := Tryz.func116.trans (congrArg some (by kernel_rfl))
  f319 := Tryz.func117.trans (congrArg some (by kernel_rfl))
  f320 := Tryz.func118.trans (congrArg some (by kernel_rfl))
  f337 := Tryz.func124.trans (congrArg some (by kernel_rfl))
  f338 := Tryz.func125.trans (congrArg some (by kernel_rfl))
  t0 := Tryz.underlying0
  a0 := Tryz.isAgg0
  z0 := Tryz.sizeOf0
  v0 := Tryz.zeroValue0
  t2 := Tryz.underlying2
  a2 := Tryz.isAgg2
  z2 := Tryz.sizeOf2
  v2 := Tryz.zeroValue2
  t3 := Tryz.underlying3
  a3 := Tryz.isAgg3
  z3 := Tryz.sizeOf3
  v3 := Tryz.zeroValue3
  t4 := Tryz.underlying4
  a4 := Tryz.isAgg4
  z4 := Tryz.sizeOf4
  v4 := Tryz.zeroValue4
  t5 := Tryz.underlying5
  a5 := Tryz.isAgg5
  z5 := Tryz.sizeOf5
  v5 := Tryz.zeroValue5
  t9 := Tryz.underlying9
  a9 := Tryz.isAgg9
  z9 := Tryz.sizeOf9
  v9 := Tryz.zeroValue9
  t20 := Tryz.underlying20
  a20 := Tryz.isAgg20
  z20 := Tryz.sizeOf20
  v20 := Tryz.zeroValue20
  t37 := Tryz.underlying92
  a37 := Tryz.isAgg92
  z37 := Tryz.sizeOf92
  v37 := Tryz.zeroValue92
  t46 := Tryz.underlying145
  a46 := Tryz.isAgg145
  z46 := Tryz.sizeOf145
  v46 := Tryz.zeroValue145
  t51 := Tryz.underlying22
  a51 := Tryz.isAgg22
  z51 := Tryz.sizeOf22
  v51 := Tryz.zeroValue22
  t53 := Tryz.underlying104
  a53 := Tryz.isAgg104
  z53 := Tryz.sizeOf104
  v53 := Tryz.zeroValue104
  t171 := Tryz.underlying168
  a171 := Tryz.isAgg168
  z171 := Tryz.sizeOf168
  v171 := Tryz.zeroValue168
  t173 := Tryz.underlying171
  a173 := Tryz.isAgg171
  z173 := Tryz.sizeOf171
  v173 := Tryz.zeroValue171
  t212 := Tryz.underlying185
  a212 := Tryz.isAgg185
  z212 := Tryz.sizeOf185
  v212 := Tryz.zeroValue185
  t213 := Tryz.underlying186
  a213 := Tryz.isAgg186
  z213 := Tryz.sizeOf186
  t232 := Tryz.underlying202
  a232 := Tryz.isAgg202
  z232 := Tryz.sizeOf202
  v232 := Tryz.zeroValue202
  t233 := Tryz.underlying203
  a233 := Tryz.isAgg203
  z233 := Tryz.sizeOf203
  v233 := Tryz.zeroValue203
  g17 := by kernel_rfl
  g18 := by kernel_rfl
  g19 := by kernel_rfl
  i0 := by kernel_rfl
  i2 := by kernel_rfl
  i3 := by kernel_rfl
  i4 := by kernel_rfl
  i5 := by kernel_rfl
  i9 := by kernel_rfl
  i20 := by kernel_rfl
  i37 := by kernel_rfl
  i46 := by kernel_rfl
  i51 := by kernel_rfl
  i53 := by kernel_rfl
  i171 := by kernel_rfl
  i173 := by kernel_rfl
  i212 := by kernel_rfl
  i232 := by kernel_rfl
  i233 := by kernel_rfl
  m17 := by kernel_rfl
  m18 := by kernel_rfl
  m19 := by kernel_rfl }
open Go.RowKit Go.Sort Go.Lib in
theorem Tryz.strconv_Itoa (n : Int) (h0 : -9223372036854775808 ≤ n) (h1 : n ≤ 9223372036854775807) (w : World) (htab : Lib.TabIs Tryz.prog w "internal/strconv.uint64pow10" .u64 Lib.pow10Tab) :
    Calls Tryz.prog 44 #[.int .i64 n] w fun e w' => e = .returned (.string ⟨(Lib.itoa n).toArray⟩) ∧ ∃ k os, w' = grow (w.drewN k) os := Any.strconv_Itoa Tryz.laysM171 n h0 h1 w htab
end Go.Proofs
/- Contracts of the library's functions, in our form. -/
namespace Go.Proofs.YtkjkipkfndckfaaGreatDoor.AP
open Go
set_option linter.unusedVariables false
noncomputable section
def m_strings_Join (l : List ByteArray) (s : ByteArray) : Option ByteArray :=
  if l.length ≤ 140737488355328 ∧ (Lib.join (l.map (·.data.toList)) s.data.toList).length ≤ 140737488355328 then some ⟨(Lib.join (l.map (·.data.toList)) s.data.toList).toArray⟩ else none
def m_strconv_Itoa (n : Int) : Option ByteArray := if -9223372036854775808 ≤ n ∧ n ≤ 9223372036854775807 then some ⟨(Lib.itoa n).toArray⟩ else none
end
end Go.Proofs.YtkjkipkfndckfaaGreatDoor.AP
namespace Go.Proofs.YtkjkipkfndckfaaGreatDoor.AE
open Go Go.RowKit Go.Proofs.YtkjkipkfndckfaaGreatDoor.AP
set_option linter.unusedVariables false
theorem spec_of {P : Program} {g : Nat} {avs : List AV} {t : Ty} {y : t.den} (h : ∀ (N : Nat → Prop) (w : World) (vs : List Value), Glo w → AV.rels w N (fun _ => (0, 0)) [] avs vs →
    Calls P g vs.toArray w fun e w' => (∃ u, e = .returned u ∧ t.rel w' (fun _ => False) y u) ∧ Below w.heap.size w w') (hc : ∀ (w : World) (M M' : Nat → Prop) u, t.rel w M y u → t.rel w M' y u) : Spec P g avs (.v t y) [] :=
  fun N w vs hG hN hr => (h N w vs hG hr).mono fun e w' ⟨⟨u, he, hu⟩, hb⟩ => ⟨u, fun _ => (0, 0), he, Rep.none_, hc _ _ _ _ hu, hb⟩
theorem en15 : Enters Tryz.prog 15 := ⟨_, Tryz.func15, rfl, rfl⟩
theorem en44 : Enters Tryz.prog 44 := ⟨_, Tryz.func44, rfl, rfl⟩
theorem k_strconv_Itoa {p0 : Int} {y : ByteArray} (h : m_strconv_Itoa p0 = some y) : Spec Tryz.prog 44 [.v (.int .i64) p0] (.v .str y) [] := by
  unfold m_strconv_Itoa at h
  by_cases hc : -9223372036854775808 ≤ p0 ∧ p0 ≤ 9223372036854775807
  · rw [if_pos hc] at h
    obtain rfl := Option.some.inj h
    refine spec_of (t := .str) (fun N w vs hG hr => ?_) (fun _ _ _ _ h => h)
    obtain ⟨u, us, rfl, ⟨cs, h1, rfl⟩, h2⟩ := hr
    have h2 : us = [] := h2
    have h1 : cs = [.int .i64 p0] := h1
    subst h1 h2
    exact (Tryz.strconv_Itoa p0 hc.1 hc.2 w hG).mono fun e w' ⟨he, k, os, hw⟩ => ⟨⟨_, he, _, rfl, rfl⟩, by subst hw; exact Lib.below_grow _ w (Nat.le_refl _) k os⟩
  · rw [if_neg hc] at h; cases h
theorem k_strings_Join {p0 : List ByteArray} {p1 : ByteArray} {y : ByteArray} (h : m_strings_Join p0 p1 = some y) : Spec Tryz.prog 15 [.v (.sl .str) p0, .v .str p1] (.v .str y) [] := by
  unfold m_strings_Join at h
  by_cases hc : p0.length ≤ 140737488355328 ∧ (Lib.join (p0.map (·.data.toList)) p1.data.toList).length ≤ 140737488355328
  · rw [if_pos hc] at h
    obtain rfl := Option.some.inj h
    refine spec_of (t := .str) (fun N w vs hG hr => ?_) (fun _ _ _ _ h => h)
    obtain ⟨u, us, rfl, ⟨cs, h1, rfl⟩, u2, us2, rfl, ⟨cs2, h2, rfl⟩, h3⟩ := hr
    have h3 : us2 = [] := h3
    have h2 : cs2 = [.string p1] := h2
    subst h2 h3
    obtain ⟨A, c, rfl, hl, hm, hcell⟩ := h1
    have hl : p0.length ≤ c := hl
    have hcell : 0 < p0.length → ∃ ad : Addr, A = some ad ∧ ¬ N ad.block ∧ ∀ (i : Nat) (x : ByteArray), p0[i]? = some x → ∃ ds, ds = [Value.string x] ∧ ∀ (j : Nat) u, ds[j]? = some u → w.cell? (ad.add (i * 1 + j)) = some u := hcell
    cases p0 with
    | nil => exact (Tryz.strings_Join_none A c p1 w).mono fun e w' ⟨he, hw⟩ => ⟨⟨_, he, _, rfl, rfl⟩, by subst hw; exact Below.refl _ _⟩
    | cons x xs =>
      obtain ⟨ad, rfl, _, hx⟩ := hcell (Nat.zero_lt_succ _)
      have hget : ∀ (j : Nat) z, (x :: xs)[j]? = some z → w.cell? (ad.add j) = some (.string z) := fun j z hz => by
        obtain ⟨ds, rfl, hd⟩ := hx j z hz
        have := hd 0 _ rfl
        rwa [Nat.mul_one, Nat.add_zero] at this
      obtain ⟨b, o, s⟩ := ad
      have hs : s = none := by
        have h0 := hget 0 x rfl
        have e0 : (⟨b, o, s⟩ : Addr).add 0 = ⟨b, o, s⟩ := rfl
        rw [e0] at h0
        unfold World.cell? at h0
        cases s with
        | none => rfl
        | some v => split at h0 <;> simp at h0
      subst hs
      have hc2 : ∀ (j : Nat) z, (x :: xs)[j]? = some z → w.cell? ⟨b, o + j, none⟩ = some (.string z) := fun j z hz => by
        have := hget j z hz
        have e1 : (⟨b, o, none⟩ : Addr).add j = ⟨b, o + j, none⟩ := by unfold Addr.add; split <;> simp_all
        rwa [e1] at this
      exact (Tryz.strings_Join b o c (x :: xs) p1 w hc2 (cell_lt (hc2 0 x rfl)) hc.1 hl hc.2).mono fun e w' ⟨he, hw⟩ => ⟨⟨_, he, _, rfl, rfl⟩, hw⟩
  · rw [if_neg hc] at h; cases h
end Go.Proofs.YtkjkipkfndckfaaGreatDoor.AE
/- Functions of the program, as Lean functions (printed by a program of ours). -/
namespace Go.Proofs.YtkjkipkfndckfaaGreatDoor.AP
open Go
set_option linter.unusedVariables false
noncomputable section
def m_triviumref22_short (p0 : ByteArray) : Option (ByteArray) :=
  bd (cs p0 0 (min (p0.size : Int) 20)) fun x1 =>
  some x1
def m_triviumref22_CleanQuery (p0 : D_api_Query) : Option (D_api_Query) :=
  bd (m_triviumref22_short p0.2.1) fun x1 =>
  bd (m_triviumref22_short p0.2.2.1) fun x3 =>
  bd (m_triviumref22_short p0.2.2.2.1) fun x5 =>
  bd (
    bd (
      if decide (p0.2.2.2.2.2.2 < (-1000000)) then (
        some true)
      else (
        some (decide (2147483648 < p0.2.2.2.2.2.2)))) fun v8 =>
    if v8 then (
      some 3)
    else (
      some p0.2.2.2.2.2.2)) fun v7 =>
  some (p0.1, x1, x3, x5, p0.2.2.2.2.1, (p0.2.2.2.2.2.1.1, p0.2.2.2.2.2.1.2), v7)
def m_triviumref02_Clean_l1 (p0 : (List Int)) (p1 : Int) : (Int × (List Int)) → Option ((Int × (List Int)) ⊕ ((List Int)))
  | (v2, v3) =>
    bd (
      if decide (v2 < (p0.length : Int)) then (
        some (decide (v2 < p1)))
      else (
        some false)) fun v4 =>
    if v4 then (
      bd (rd p0 v2) fun x7 =>
      bd (rm .u64 x7 4294967296) fun x9 =>
      bd (ap 8 v3 [x9]) fun x11 =>
      some (.inl (wi64 (v2 + 1), x11)))
    else (
      some (.inr v3))
def m_triviumref02_Clean_l2  : (List Int) → Option (((List Int)) ⊕ ((List Int)))
  | v14 =>
    bd (
      if decide (0 < (v14.length : Int)) then (
        bd (rd v14 (wi64 ((v14.length : Int) - 1))) fun x17 =>
        some (decide (x17 = 0)))
      else (
        some false)) fun v15 =>
    if v15 then (
      bd (ct v14 0 (wi64 ((v14.length : Int) - 1))) fun x20 =>
      some (.inl x20))
    else (
      some (.inr v14))
def m_triviumref02_Clean (p0 : (List Int)) (p1 : Int) : Option ((List Int)) :=
  bd (lp (m_triviumref02_Clean_l1 p0 p1) (0, [])) fun v1 =>
  bd (lp (m_triviumref02_Clean_l2) v1) fun v13 =>
  some v13
def m_triviumref07_Clean (p0 : D_api_Int) (p1 : Int) : Option (D_api_Int) :=
  bd (m_triviumref02_Clean p0.2 p1) fun x1 =>
  if p0.1 then (
    some (decide (0 < (x1.length : Int)), x1))
  else (
    some (false, x1))
def m_triviumref02_Trim_l1 (p0 : (List Int)) : Int → Option ((Int) ⊕ (Int))
  | v2 =>
    bd (
      if decide (0 < v2) then (
        bd (rd p0 (wi64 (v2 - 1))) fun x5 =>
        some (decide (x5 = 0)))
      else (
        some false)) fun v3 =>
    if v3 then (
      some (.inl (wi64 (v2 - 1))))
    else (
      some (.inr v2))
def m_triviumref02_Trim (p0 : (List Int)) : Option ((List Int)) :=
  bd (lp (m_triviumref02_Trim_l1 p0) (p0.length : Int)) fun v1 =>
  bd (ct p0 0 v1) fun x8 =>
  bd (ap 8 [] x8) fun x10 =>
  some x10
def m_triviumref02_MulAdd_l1 (p0 : (List Int)) (p1 : Int) : (Int × Int × (List Int)) → Option ((Int × Int × (List Int)) ⊕ (Int × (List Int)))
  | (v3, v4, v5) =>
    if decide (v4 < (p0.length : Int)) then (
      bd (rd p0 v4) fun x7 =>
      bd (rm .i64 (wi64 (v3 + (wi64 (x7 * p1)))) 10000) fun x9 =>
      bd (ap 8 v5 [x9]) fun x11 =>
      bd (qd .i64 (wi64 (v3 + (wi64 (x7 * p1)))) 10000) fun x13 =>
      some (.inl (x13, wi64 (v4 + 1), x11)))
    else (
      some (.inr (v3, v5)))
def m_triviumref02_MulAdd_l2  : (Int × (List Int)) → Option ((Int × (List Int)) ⊕ ((List Int)))
  | (v16, v17) =>
    if decide (0 < v16) then (
      bd (rm .i64 v16 10000) fun x19 =>
      bd (ap 8 v17 [x19]) fun x21 =>
      bd (qd .i64 v16 10000) fun x23 =>
      some (.inl (x23, x21)))
    else (
      some (.inr v17))
def m_triviumref02_MulAdd (p0 : (List Int)) (p1 : Int) (p2 : Int) : Option ((List Int)) :=
  bd (lp (m_triviumref02_MulAdd_l1 p0 p1) (p2, 0, [])) fun (v1, v2) =>
  bd (lp (m_triviumref02_MulAdd_l2) (v1, v2)) fun v15 =>
  bd (m_triviumref02_Trim v15) fun x25 =>
  some x25
def m_triviumref02_Of_l1 (p0 : (List Int)) : ((List Int) × Int) → Option (((List Int) × Int) ⊕ ((List Int)))
  | (v2, v3) =>
    if decide (0 ≤ v3) then (
      bd (rd p0 v3) fun x5 =>
      bd (rm .u64 x5 4294967296) fun x7 =>
      bd (m_triviumref02_MulAdd v2 4294967296 (wi64 x7)) fun x9 =>
      some (.inl (x9, wi64 (v3 - 1))))
    else (
      some (.inr v2))
def m_triviumref02_Of (p0 : (List Int)) : Option ((List Int)) :=
  bd (lp (m_triviumref02_Of_l1 p0) ([], wi64 ((p0.length : Int) - 1))) fun v1 =>
  some v1
def m_triviumref07_made (p0 : Bool) (p1 : (List Int)) : Option (D_triviumref07_Z) :=
  if p0 then (
    some (decide (0 < (p1.length : Int)), p1))
  else (
    some (false, p1))
def m_triviumref07_Of (p0 : D_api_Int) : Option (D_triviumref07_Z) :=
  bd (m_triviumref02_Of p0.2) fun x1 =>
  bd (m_triviumref07_made p0.1 x1) fun x3 =>
  some (x3.1, x3.2)
def m_triviumref02_Cmp_l1 (p0 : (List Int)) (p1 : (List Int)) : Int → Option ((Int) ⊕ (Int))
  | v3 =>
    if decide (0 ≤ v3) then (
      bd (rd p0 v3) fun x5 =>
      bd (rd p1 v3) fun x7 =>
      if decide (x5 < x7) then (
        some (.inr (-1)))
      else (
        bd (rd p0 v3) fun x10 =>
        bd (rd p1 v3) fun x12 =>
        if decide (x12 < x10) then (
          some (.inr 1))
        else (
          some (.inl (wi64 (v3 - 1))))))
    else (
      some (.inr 0))
def m_triviumref02_Cmp (p0 : (List Int)) (p1 : (List Int)) : Option (Int) :=
  if !decide ((p0.length : Int) = (p1.length : Int)) then (
    if decide ((p0.length : Int) < (p1.length : Int)) then (
      some (-1))
    else (
      some 1))
  else (
    lp (m_triviumref02_Cmp_l1 p0 p1) (wi64 ((p0.length : Int) - 1)))
def m_triviumref02_Sub_l1 (p0 : (List Int)) (p1 : (List Int)) : (Int × Int × (List Int)) → Option ((Int × Int × (List Int)) ⊕ ((List Int)))
  | (v2, v3, v4) =>
    if decide (v3 < (p0.length : Int)) then (
      bd (rd p0 v3) fun x6 =>
      bd (
        if decide (v3 < (p1.length : Int)) then (
          bd (rd p1 v3) fun x10 =>
          some (wi64 ((wi64 (x6 - v2)) - x10)))
        else (
          some (wi64 (x6 - v2)))) fun v8 =>
      bd (
        if decide (v8 < 0) then (
          some (1, wi64 (v8 + 10000)))
        else (
          some (0, v8))) fun (v12, v13) =>
      bd (ap 8 v4 [v13]) fun x15 =>
      some (.inl (v12, wi64 (v3 + 1), x15)))
    else (
      some (.inr v4))
def m_triviumref02_Sub (p0 : (List Int)) (p1 : (List Int)) : Option ((List Int)) :=
  bd (lp (m_triviumref02_Sub_l1 p0 p1) (0, 0, [])) fun v1 =>
  bd (m_triviumref02_Trim v1) fun x17 =>
  some x17
def m_triviumref02_Div_l2 (p1 : (List Int)) (x15 : (List Int)) : (Int × Int) → Option ((Int × Int) ⊕ (Int))
  | (v18, v19) =>
    if decide (1 < (wi64 (v19 - v18))) then (
      bd (qd .i64 (wi64 (v18 + v19)) 2) fun x21 =>
      bd (m_triviumref02_MulAdd p1 x21 0) fun x23 =>
      bd (m_triviumref02_Cmp x23 x15) fun x25 =>
      if decide (x25 ≤ 0) then (
        some (.inl (x21, v19)))
      else (
        some (.inl (v18, x21))))
    else (
      some (.inr v18))
def m_triviumref02_Div_l1 (p0 : (List Int)) (p1 : (List Int)) : ((List Int) × Int × (List Int)) → Option (((List Int) × Int × (List Int)) ⊕ ((List Int) × (List Int)))
  | (v5, v6, v7) =>
    if decide (0 ≤ v6) then (
      bd (
        bd (rd p0 v6) fun x11 =>
        bd (ap 8 [x11] v5) fun x13 =>
        bd (m_triviumref02_Trim x13) fun x15 =>
        bd (lp (m_triviumref02_Div_l2 p1 x15) (0, 10000)) fun v17 =>
        bd (ix v7 v6) fun j28 =>
        lt (v7.set j28 v17) fun x30 =>
        bd (m_triviumref02_MulAdd p1 v17 0) fun x32 =>
        bd (m_triviumref02_Sub x15 x32) fun x34 =>
        some (x34, x30)) fun (v9, v10) =>
      some (.inl (v9, wi64 (v6 - 1), v10)))
    else (
      some (.inr (v5, v7)))
def m_triviumref02_Div (p0 : (List Int)) (p1 : (List Int)) : Option ((List Int) × (List Int)) :=
  bd (mk 8 0 (p0.length : Int) (p0.length : Int)) fun x1 =>
  bd (lp (m_triviumref02_Div_l1 p0 p1) ([], wi64 ((p0.length : Int) - 1), x1)) fun (v3, v4) =>
  bd (m_triviumref02_Trim v4) fun x36 =>
  some (x36, v3)
def m_triviumref02_Gcd_l1  : ((List Int) × (List Int)) → Option (((List Int) × (List Int)) ⊕ ((List Int)))
  | (v2, v3) =>
    if decide (0 < (v3.length : Int)) then (
      bd (m_triviumref02_Div v2 v3) fun x5 =>
      some (.inl (v3, x5.2)))
    else (
      some (.inr v2))
def m_triviumref02_Gcd (p0 : (List Int)) (p1 : (List Int)) : Option ((List Int)) :=
  bd (lp (m_triviumref02_Gcd_l1) (p0, p1)) fun v1 =>
  some v1
def m_triviumref08_Low (p0 : D_triviumref07_Z) (p1 : (List Int)) : Option (D_triviumref08_Q) :=
  bd (m_triviumref02_Gcd p0.2 p1) fun x1 =>
  bd (m_triviumref02_Div p0.2 x1) fun x3 =>
  bd (m_triviumref02_Div p1 x1) fun x5 =>
  if p0.1 then (
    some ((decide (0 < (x3.1.length : Int)), x3.1), x5.1))
  else (
    some ((false, x3.1), x5.1))
def m_triviumref02_DivSmall_l1 (p0 : (List Int)) (p1 : Int) : (Int × Int × (List Int)) → Option ((Int × Int × (List Int)) ⊕ (Int × (List Int)))
  | (v5, v6, v7) =>
    if decide (0 ≤ v6) then (
      bd (rd p0 v6) fun x9 =>
      bd (qd .i64 (wi64 ((wi64 (10000 * v5)) + x9)) p1) fun x11 =>
      bd (ix v7 v6) fun j13 =>
      lt (v7.set j13 x11) fun x15 =>
      bd (rm .i64 (wi64 ((wi64 (10000 * v5)) + x9)) p1) fun x17 =>
      some (.inl (x17, wi64 (v6 - 1), x15)))
    else (
      some (.inr (v5, v7)))
def m_triviumref02_DivSmall (p0 : (List Int)) (p1 : Int) : Option ((List Int) × Int) :=
  bd (mk 8 0 (p0.length : Int) (p0.length : Int)) fun x1 =>
  bd (lp (m_triviumref02_DivSmall_l1 p0 p1) (0, wi64 ((p0.length : Int) - 1), x1)) fun (v3, v4) =>
  bd (m_triviumref02_Trim v4) fun x19 =>
  some (x19, v3)
def m_triviumref02_Back_l1  : ((List Int) × (List Int)) → Option (((List Int) × (List Int)) ⊕ ((List Int)))
  | (v2, v3) =>
    if decide (0 < (v2.length : Int)) then (
      bd (m_triviumref02_DivSmall v2 4294967296) fun x5 =>
      bd (ap 8 v3 [wu64 x5.2]) fun x7 =>
      some (.inl (x5.1, x7)))
    else (
      some (.inr v3))
def m_triviumref02_Back (p0 : (List Int)) : Option ((List Int)) :=
  bd (lp (m_triviumref02_Back_l1) (p0, [])) fun v1 =>
  some v1
def m_triviumref07_Back (p0 : D_triviumref07_Z) : Option (D_api_Int) :=
  bd (m_triviumref02_Back p0.2) fun x1 =>
  some (p0.1, x1)
def m_triviumref08_Back (p0 : D_triviumref08_Q) : Option (D_api_Rat) :=
  bd (m_triviumref07_Back (p0.1.1, p0.1.2)) fun x1 =>
  bd (m_triviumref02_Back p0.2) fun x3 =>
  some ((x1.1, x1.2), x3)
def m_triviumref08_Clean (p0 : D_api_Rat) (p1 : Int) : Option (D_api_Rat) :=
  bd (m_triviumref02_Clean p0.2 p1) fun x1 =>
  bd (
    if decide ((x1.length : Int) = 0) then (
      some [1])
    else (
      some x1)) fun v3 =>
  bd (m_triviumref07_Clean (p0.1.1, p0.1.2) p1) fun x5 =>
  bd (m_triviumref07_Of x5) fun x7 =>
  bd (m_triviumref02_Of v3) fun x9 =>
  bd (m_triviumref08_Low x7 x9) fun x11 =>
  bd (m_triviumref08_Back x11) fun x13 =>
  some ((x13.1.1, x13.1.2), x13.2)
def m_triviumref08_Of (p0 : D_api_Rat) : Option (D_triviumref08_Q) :=
  bd (m_triviumref07_Of (p0.1.1, p0.1.2)) fun x1 =>
  bd (m_triviumref02_Of p0.2) fun x3 =>
  some ((x1.1, x1.2), x3)
def m_triviumlaw38_both (p0 : D_triviumlaw38_Told) : Option (D_engine_Answer × D_triviumref37_Answer) :=
  bd (m_triviumref08_Clean ((p0.2.2.2.2.2.2.1.1.1, p0.2.2.2.2.2.2.1.1.2), p0.2.2.2.2.2.2.1.2) 1) fun x1 =>
  bd (m_triviumref08_Clean ((p0.2.2.2.2.2.2.2.1.1.1, p0.2.2.2.2.2.2.2.1.1.2), p0.2.2.2.2.2.2.2.1.2) 1) fun x3 =>
  bd (m_triviumref08_Clean ((p0.2.2.2.2.2.2.2.2.1.1, p0.2.2.2.2.2.2.2.2.1.2), p0.2.2.2.2.2.2.2.2.2) 1) fun x5 =>
  bd (m_triviumref08_Of ((x1.1.1, x1.1.2), x1.2)) fun x7 =>
  bd (m_triviumref08_Of ((x3.1.1, x3.1.2), x3.2)) fun x9 =>
  bd (m_triviumref08_Of ((x5.1.1, x5.1.2), x5.2)) fun x11 =>
  bd (
    if p0.2.2.2.1 then (
      some (true, p0.2.2.2.2.2.1, x1.1.1, x1.1.2, x1.2, x3.1.1, x3.1.2, x3.2, true, p0.2.2.2.2.2.1, x7.1.1, x7.1.2, x7.2, x9.1.1, x9.1.2, x9.2))
    else (
      some (false, 0, false, [], [], false, [], [], false, 0, false, [], [], false, [], []))) fun (v13, v14, v15, v16, v17, v18, v19, v20, v21, v22, v23, v24, v25, v26, v27, v28) =>
  bd (
    if p0.2.2.2.2.1 then (
      bd (qd .u32 p0.2.2.2.2.2.1 2) fun x47 =>
      bd (qd .u32 p0.2.2.2.2.2.1 2) fun x49 =>
      some (true, x47, x3.1.1, x3.1.2, x3.2, x5.1.1, x5.1.2, x5.2, true, x49, x9.1.1, x9.1.2, x9.2, x11.1.1, x11.1.2, x11.2))
    else (
      some (false, 0, false, [], [], false, [], [], false, 0, false, [], [], false, [], []))) fun (v30, v31, v32, v33, v34, v35, v36, v37, v38, v39, v40, v41, v42, v43, v44, v45) =>
  some ((p0.1, (((x1.1.1, x1.1.2), x1.2), ((x3.1.1, x3.1.2), x3.2), ((x5.1.1, x5.1.2), x5.2)), (p0.2.2.1, ((x1.1.1, x1.1.2), x1.2)), ((x3.1.1, x3.1.2), x3.2), (p0.2.1, (v13, v14, ((v15, v16), v17), ((v18, v19), v20)), (v30, v31, ((v32, v33), v34), ((v35, v36), v37)))), (p0.1, (((x7.1.1, x7.1.2), x7.2), ((x9.1.1, x9.1.2), x9.2), ((x11.1.1, x11.1.2), x11.2)), (p0.2.2.1, ((x7.1.1, x7.1.2), x7.2)), ((x9.1.1, x9.1.2), x9.2), (p0.2.1, (v21, v22, ((v23, v24), v25), ((v26, v27), v28)), (v38, v39, ((v40, v41), v42), ((v43, v44), v45)))))
def m_digits_based (p0 : Int) : Option (Int) :=
  bd (
    if decide (p0 < 2) then (
      some true)
    else (
      some (decide (36 < p0)))) fun v1 =>
  if v1 then (
    some 2)
  else (
    some 0)
def m_digits_chunk_l1 (p0 : Int) : (Int × Int) → Option ((Int × Int) ⊕ (Int × Int))
  | (v3, v4) =>
    if decide ((wu64 (v3 * (wu64 p0))) < 4294967296) then (
      some (.inl (wu64 (v3 * (wu64 p0)), wi64 (v4 + 1))))
    else (
      some (.inr (v3, v4)))
def m_digits_chunk (p0 : Int) : Option (Int × Int) :=
  bd (lp (m_digits_chunk_l1 p0) (wu64 p0, 1)) fun (v1, v2) =>
  some (v1, v2)
def m_nat_trim_l1 (p0 : (List Int)) : Int → Option ((Int) ⊕ (Int))
  | v2 =>
    bd (
      if decide (0 < v2) then (
        bd (rd p0 (wi64 (v2 - 1))) fun x5 =>
        some (decide (x5 = 0)))
      else (
        some false)) fun v3 =>
    if v3 then (
      some (.inl (wi64 (v2 - 1))))
    else (
      some (.inr v2))
def m_nat_trim (p0 : (List Int)) : Option ((List Int)) :=
  bd (lp (m_nat_trim_l1 p0) (p0.length : Int)) fun v1 =>
  bd (ct p0 0 v1) fun x8 =>
  some x8
def m_nat_Make_l1 (p0 : (List Int)) : (Int × (List Int)) → Option ((Int × (List Int)) ⊕ ((List Int) × Int))
  | (v3, v4) =>
    if decide (v3 < (p0.length : Int)) then (
      bd (rd p0 v3) fun x6 =>
      if decide (4294967296 ≤ x6) then (
        some (.inr ([], 2)))
      else (
        bd (ap 8 v4 [x6]) fun x9 =>
        some (.inl (wi64 (v3 + 1), x9))))
    else (
      bd (m_nat_trim v4) fun x11 =>
      some (.inr (x11, 0)))
def m_nat_Make (p0 : (List Int)) : Option ((List Int) × Int) :=
  bd (mk 8 0 0 (p0.length : Int)) fun x1 =>
  lp (m_nat_Make_l1 p0) (0, x1)
def m_limb_Div (p0 : Int) (p1 : Int) (p2 : Int) : Option (Int × Int × Int) :=
  lt (decide ((Go.bits .and .u64 p2 4294967295) = 0)) fun x1 =>
  if x1 then (
    some (0, 0, 3))
  else (
    lt (decide ((Go.bits .and .u64 p2 4294967295) ≤ (Go.bits .and .u64 p0 4294967295))) fun x4 =>
    if x4 then (
      some (0, 0, 2))
    else (
      bd (sh .u64 (Go.bits .and .u64 p0 4294967295) 32) fun x7 =>
      lt (Go.bits .or .u64 x7 (Go.bits .and .u64 p1 4294967295)) fun x9 =>
      bd (qd .u64 x9 (Go.bits .and .u64 p2 4294967295)) fun x11 =>
      bd (rm .u64 x9 (Go.bits .and .u64 p2 4294967295)) fun x13 =>
      some (x11, x13, 0)))
def m_divide_Small_l1 (p0 : (List Int)) (p1 : Int) : (Int × Int × (List Int)) → Option ((Int × Int × (List Int)) ⊕ (Int × (List Int)))
  | (v8, v9, v10) =>
    if decide (v9 < (p0.length : Int)) then (
      lt (wi64 ((wi64 ((p0.length : Int) - 1)) - v9)) fun x12 =>
      bd (rd p0 x12) fun x14 =>
      bd (m_limb_Div v8 x14 p1) fun x16 =>
      bd (ix v10 x12) fun j18 =>
      lt (v10.set j18 x16.1) fun x20 =>
      some (.inl (x16.2.1, wi64 (v9 + 1), x20)))
    else (
      some (.inr (v8, v10)))
def m_divide_Small (p0 : (List Int)) (p1 : Int) : Option ((List Int) × Int × Int) :=
  bd (rm .u64 p1 4294967296) fun x1 =>
  if decide (x1 = 0) then (
    some ([], 0, 3))
  else (
    bd (mk 8 0 (p0.length : Int) (p0.length : Int)) fun x4 =>
    bd (lp (m_divide_Small_l1 p0 p1) (0, 0, x4)) fun (v6, v7) =>
    bd (m_nat_Make v7) fun x22 =>
    some (x22.1, v6, 0))
def m_digits_piece_l1 (p1 : Int) (p2 : Int) : (Int × Int × (List Int)) → Option ((Int × Int × (List Int)) ⊕ ((List Int)))
  | (v4, v5, v6) =>
    if decide (v5 < p2) then (
      bd (rm .u64 v4 (wu64 p1)) fun x8 =>
      bd (bt (bs [48, 49, 50, 51, 52, 53, 54, 55, 56, 57, 97, 98, 99, 100, 101, 102, 103, 104, 105, 106, 107, 108, 109, 110, 111, 112, 113, 114, 115, 116, 117, 118, 119, 120, 121, 122]) x8) fun x10 =>
      bd (ix v6 (wi64 ((wi64 (p2 - 1)) - v5))) fun j12 =>
      lt (v6.set j12 x10) fun x14 =>
      bd (qd .u64 v4 (wu64 p1)) fun x16 =>
      some (.inl (x16, wi64 (v5 + 1), x14)))
    else (
      some (.inr v6))
def m_digits_piece (p0 : Int) (p1 : Int) (p2 : Int) : Option (ByteArray) :=
  bd (mk 1 0 p2 p2) fun x1 =>
  bd (lp (m_digits_piece_l1 p1 p2) (p0, 0, x1)) fun v3 =>
  some (tx v3)
def m_strings_Builder_copyCheck_M (o1_0 : Bool) (o2 : (List Int)) : Option (Bool) :=
  if o1_0 then (
    some false)
  else (
    some o1_0)
def m_strings_Builder_WriteString_M (p1 : ByteArray) (o1_0 : Bool) (o2 : (List Int)) : Option (Bool × (List Int)) :=
  bd (m_strings_Builder_copyCheck_M o1_0 o2) fun x2 =>
  bd (apS_ o2 p1) fun x3 =>
  some (x2, x3)
def m_strings_Builder_String_M (o1_0 : Bool) (o2 : (List Int)) : Option (ByteArray) :=
  if decide (o2.length = 0) then (
    some (bs []))
  else (
    bd (ust o2) fun x2 =>
    some x2)
def m_strings_trimLeftByte_l1 (p1 : Int) : ByteArray → Option ((ByteArray) ⊕ (ByteArray))
  | v2 =>
    bd (
      if decide (0 < (v2.size : Int)) then (
        bd (bt v2 0) fun x5 =>
        some (decide (x5 = p1)))
      else (
        some false)) fun v3 =>
    if v3 then (
      bd (cs v2 1 v2.size) fun x8 =>
      some (.inl x8))
    else (
      some (.inr v2))
def m_strings_trimLeftByte (p0 : ByteArray) (p1 : Int) : Option (ByteArray) :=
  bd (lp (m_strings_trimLeftByte_l1 p1) p0) fun v1 =>
  some v1
def m_strings_TrimLeft (p0 : ByteArray) (p1 : ByteArray) : Option (ByteArray) :=
  bd (
    if sq p0 (bs []) then (
      some true)
    else (
      some (sq p1 (bs [])))) fun v1 =>
  if v1 then (
    some p0)
  else (
    bd (
      if decide ((p1.size : Int) = 1) then (
        bd (bt p1 0) fun x6 =>
        some (decide (x6 < 128)))
      else (
        some false)) fun v4 =>
    if v4 then (
      bd (bt p1 0) fun x9 =>
      bd (m_strings_trimLeftByte p0 x9) fun x11 =>
      some x11)
    else (
      none))
def m_digits_In_l1 (p1 : Int) (x4 : (Int × Int)) : ((List Int) × (List ByteArray)) → Option (((List Int) × (List ByteArray)) ⊕ ((List ByteArray)))
  | (v9, v10) =>
    if decide (0 < (v9.length : Int)) then (
      bd (m_divide_Small v9 x4.1) fun x12 =>
      bd (m_digits_piece x12.2.1 p1 x4.2) fun x14 =>
      bd (ap 16 v10 [x14]) fun x16 =>
      some (.inl (x12.1, x16)))
    else (
      some (.inr v10))
def m_digits_In_l2 (v8 : (List ByteArray)) : (Int × Bool × (List Int)) → Option ((Int × Bool × (List Int)) ⊕ (Bool × (List Int)))
  | (v20, v21, v22) =>
    if decide (v20 < (v8.length : Int)) then (
      bd (rd v8 (wi64 ((wi64 ((v8.length : Int) - 1)) - v20))) fun x24 =>
      bd (m_strings_Builder_WriteString_M x24 v21 v22) fun x27 =>
      some (.inl (wi64 (v20 + 1), x27.1, x27.2)))
    else (
      some (.inr (v21, v22)))
def m_digits_In (p0 : (List Int)) (p1 : Int) : Option (ByteArray × Int) :=
  bd (m_digits_based p1) fun x1 =>
  if !decide (x1 = 0) then (
    some ((bs []), x1))
  else (
    bd (m_digits_chunk p1) fun x4 =>
    bd (m_nat_Make p0) fun x6 =>
    bd (lp (m_digits_In_l1 p1 x4) (x6.1, [])) fun v8 =>
    bd (lp (m_digits_In_l2 v8) (0, true, [])) fun (v18, v19) =>
    bd (m_strings_Builder_String_M v18 v19) fun x29 =>
    bd (m_strings_TrimLeft x29 (bs [48])) fun x30 =>
    bd (
      if sq x30 (bs []) then (
        some (bs [48]))
      else (
        some x30)) fun v32 =>
    some (v32, 0))
def m_digits_Print (p0 : (List Int)) : Option (ByteArray) :=
  bd (m_digits_In p0 10) fun x1 =>
  some x1.1
def m_whole_Print (p0 : D_api_Int) : Option (ByteArray) :=
  if p0.1 then (
    bd (m_digits_Print p0.2) fun x2 =>
    bd (cat (bs [45]) x2) fun x4 =>
    some x4)
  else (
    bd (m_digits_Print p0.2) fun x6 =>
    some x6)
def m_nat_Of (p0 : Int) : Option ((List Int)) :=
  bd (rm .u64 p0 4294967296) fun x1 =>
  bd (sr .u64 p0 32) fun x3 =>
  bd (m_nat_trim [x1, x3]) fun x5 =>
  some x5
def m_nat_Cmp_l1 (p0 : (List Int)) (p1 : (List Int)) : Int → Option ((Int) ⊕ (Int))
  | v7 =>
    if decide (0 ≤ v7) then (
      bd (rd p0 v7) fun x9 =>
      bd (rd p1 v7) fun x11 =>
      if decide (x9 < x11) then (
        some (.inr (-1)))
      else (
        bd (rd p0 v7) fun x14 =>
        bd (rd p1 v7) fun x16 =>
        if decide (x16 < x14) then (
          some (.inr 1))
        else (
          some (.inl (wi64 (v7 - 1))))))
    else (
      some (.inr 0))
def m_nat_Cmp (p0 : (List Int)) (p1 : (List Int)) : Option (Int) :=
  lt (decide ((p0.length : Int) < (p1.length : Int))) fun x1 =>
  if x1 then (
    some (-1))
  else (
    lt (decide ((p1.length : Int) < (p0.length : Int))) fun x4 =>
    if x4 then (
      some 1)
    else (
      lp (m_nat_Cmp_l1 p0 p1) (wi64 ((p0.length : Int) - 1))))
def m_ratio_Print (p0 : D_api_Rat) : Option (ByteArray) :=
  bd (m_whole_Print (p0.1.1, p0.1.2)) fun x1 =>
  bd (m_nat_Of 1) fun x3 =>
  bd (m_nat_Cmp p0.2 x3) fun x5 =>
  if decide (x5 = 0) then (
    some x1)
  else (
    bd (cat x1 (bs [47])) fun x8 =>
    bd (m_digits_Print p0.2) fun x10 =>
    bd (cat x8 x10) fun x12 =>
    some x12)
def m_report_Words (p0 : (List ByteArray)) : Option (ByteArray) :=
  bd (m_strings_Join p0 (bs [32])) fun x1 =>
  some x1
def m_report_Verdict (p0 : Int) : Option (ByteArray) :=
  if decide (p0 = 1) then (
    some (bs [101, 113, 117, 97, 108]))
  else (
    if decide (p0 = 2) then (
      lt (bs [65, 32, 100, 111, 109, 105, 110, 97, 116, 101, 115]) fun x3 =>
      some x3)
    else (
      if decide (p0 = 3) then (
        lt (bs [66, 32, 100, 111, 109, 105, 110, 97, 116, 101, 115]) fun x6 =>
        some x6)
      else (
        if decide (p0 = 4) then (
          lt (bs [105, 110, 99, 111, 109, 112, 97, 114, 97, 98, 108, 101]) fun x9 =>
          some x9)
        else (
          some (bs [])))))
def m_addr_Print_l1 (p0 : Int) (x1 : (List ByteArray)) : (Int × (List ByteArray)) → Option ((Int × (List ByteArray)) ⊕ ((List ByteArray)))
  | (v4, v5) =>
    if decide (v4 < (x1.length : Int)) then (
      bd (sr .u32 p0 (wi64 (8 * (wi64 (3 - v4))))) fun x7 =>
      bd (m_strconv_Itoa (wi64 (Go.bits .and .u32 x7 255))) fun x9 =>
      bd (ix v5 v4) fun j11 =>
      lt (v5.set j11 x9) fun x13 =>
      some (.inl (wi64 (v4 + 1), x13)))
    else (
      some (.inr v5))
def m_addr_Print (p0 : Int) : Option (ByteArray) :=
  bd (mk 16 (bs []) 4 4) fun x1 =>
  bd (lp (m_addr_Print_l1 p0 x1) (0, x1)) fun v3 =>
  bd (m_strings_Join v3 (bs [46])) fun x15 =>
  some x15
def m_report_verdict_l1 (p0 : D_compare_Verdict) : (Int × (List ByteArray)) → Option ((Int × (List ByteArray)) ⊕ ((List ByteArray)))
  | (v4, v5) =>
    if decide (v4 < 2) then (
      bd (
        bd (rd [(p0.2.1.1, p0.2.1.2.1, ((p0.2.1.2.2.1.1.1, p0.2.1.2.2.1.1.2), p0.2.1.2.2.1.2), ((p0.2.1.2.2.2.1.1, p0.2.1.2.2.2.1.2), p0.2.1.2.2.2.2)), (p0.2.2.1, p0.2.2.2.1, ((p0.2.2.2.2.1.1.1, p0.2.2.2.2.1.1.2), p0.2.2.2.2.1.2), ((p0.2.2.2.2.2.1.1, p0.2.2.2.2.2.1.2), p0.2.2.2.2.2.2))] v4) fun x8 =>
        if x8.1 then (
          bd (m_addr_Print x8.2.1) fun x11 =>
          bd (m_ratio_Print ((x8.2.2.1.1.1, x8.2.2.1.1.2), x8.2.2.1.2)) fun x13 =>
          bd (m_ratio_Print ((x8.2.2.2.1.1, x8.2.2.2.1.2), x8.2.2.2.2)) fun x15 =>
          bd (ap 16 v5 [(bs [97, 116]), x11, x13, x15]) fun x17 =>
          some x17)
        else (
          some v5)) fun v7 =>
      some (.inl (wi64 (v4 + 1), v7)))
    else (
      some (.inr v5))
def m_report_verdict (p0 : D_compare_Verdict) : Option (ByteArray) :=
  bd (m_report_Verdict p0.1) fun x1 =>
  bd (lp (m_report_verdict_l1 p0) (0, [x1])) fun v3 =>
  bd (m_report_Words v3) fun x19 =>
  some x19
def m_report_told (p0 : D_engine_Answer) : Option (ByteArray × Bool) :=
  if decide (p0.1 = 1) then (
    bd (m_ratio_Print ((p0.2.1.1.1.1, p0.2.1.1.1.2), p0.2.1.1.2)) fun x2 =>
    bd (m_ratio_Print ((p0.2.1.2.1.1.1, p0.2.1.2.1.1.2), p0.2.1.2.1.2)) fun x4 =>
    bd (m_ratio_Print ((p0.2.1.2.2.1.1, p0.2.1.2.2.1.2), p0.2.1.2.2.2)) fun x6 =>
    bd (m_report_Words [(bs [100, 101, 108, 105, 118, 101, 114]), x2, (bs [100, 114, 111, 112]), x4, (bs [108, 111, 111, 112]), x6]) fun x8 =>
    some (x8, true))
  else (
    if decide (p0.1 = 2) then (
      if !p0.2.2.1.1 then (
        lt (bs [117, 110, 100, 101, 102, 105, 110, 101, 100]) fun x12 =>
        some (x12, true))
      else (
        bd (m_ratio_Print ((p0.2.2.1.2.1.1, p0.2.2.1.2.1.2), p0.2.2.1.2.2)) fun x14 =>
        some (x14, true)))
    else (
      if decide (p0.1 = 3) then (
        bd (m_ratio_Print ((p0.2.2.2.1.1.1, p0.2.2.2.1.1.2), p0.2.2.2.1.2)) fun x17 =>
        some (x17, true))
      else (
        if decide (p0.1 = 4) then (
          bd (m_report_verdict (p0.2.2.2.2.1, (p0.2.2.2.2.2.1.1, p0.2.2.2.2.2.1.2.1, ((p0.2.2.2.2.2.1.2.2.1.1.1, p0.2.2.2.2.2.1.2.2.1.1.2), p0.2.2.2.2.2.1.2.2.1.2), ((p0.2.2.2.2.2.1.2.2.2.1.1, p0.2.2.2.2.2.1.2.2.2.1.2), p0.2.2.2.2.2.1.2.2.2.2)), (p0.2.2.2.2.2.2.1, p0.2.2.2.2.2.2.2.1, ((p0.2.2.2.2.2.2.2.2.1.1.1, p0.2.2.2.2.2.2.2.2.1.1.2), p0.2.2.2.2.2.2.2.2.1.2), ((p0.2.2.2.2.2.2.2.2.2.1.1, p0.2.2.2.2.2.2.2.2.2.1.2), p0.2.2.2.2.2.2.2.2.2.2)))) fun x20 =>
          some (x20, true))
        else (
          some ((bs []), false)))))
def m_canon_words (p0 : (List ByteArray)) : Option (ByteArray) :=
  bd (m_strings_Join p0 (bs [32])) fun x1 =>
  some x1
def m_addr_Mask (p0 : Int) : Option (Int) :=
  bd (sh .u64 4294967295 (wi64 (32 - (min (max p0 0) 32)))) fun x1 =>
  some (wu32 x1)
def m_addr_May (p0 : D_api_Prefix) : Option (Bool) :=
  if decide (0 ≤ p0.2) then (
    if decide (p0.2 ≤ 32) then (
      bd (m_addr_Mask p0.2) fun x3 =>
      lt (decide ((Go.bits .andNot .u32 p0.1 x3) = 0)) fun x5 =>
      some x5)
    else (
      some false))
  else (
    some false)
def m_addr_Text (p0 : D_api_Prefix) : Option (ByteArray) :=
  bd (m_addr_May (p0.1, p0.2)) fun x1 =>
  if !x1 then (
    some (bs []))
  else (
    bd (m_addr_Print p0.1) fun x4 =>
    bd (cat x4 (bs [47])) fun x6 =>
    bd (m_strconv_Itoa p0.2) fun x8 =>
    bd (cat x6 x8) fun x10 =>
    some x10)
def m_canon_Query (p0 : D_api_Query) : Option (ByteArray) :=
  bd (m_addr_Print p0.2.2.2.2.1) fun x1 =>
  if decide (p0.1 = 1) then (
    bd (m_canon_words [(bs [112, 114, 111, 98]), p0.2.1, p0.2.2.2.1, x1]) fun x4 =>
    bd (cat x4 (bs [59])) fun x6 =>
    some x6)
  else (
    if decide (p0.1 = 2) then (
      bd (m_canon_words [(bs [104, 111, 112, 115]), p0.2.1, p0.2.2.2.1, x1]) fun x9 =>
      bd (cat x9 (bs [59])) fun x11 =>
      some x11)
    else (
      if decide (p0.1 = 3) then (
        bd (m_strconv_Itoa p0.2.2.2.2.2.2) fun x14 =>
        bd (m_canon_words [(bs [119, 105, 116, 104, 105, 110]), p0.2.1, p0.2.2.2.1, x1, x14]) fun x16 =>
        bd (cat x16 (bs [59])) fun x18 =>
        some x18)
      else (
        if decide (p0.1 = 4) then (
          bd (m_addr_Text (p0.2.2.2.2.2.1.1, p0.2.2.2.2.2.1.2)) fun x21 =>
          bd (m_canon_words [(bs [99, 111, 109, 112, 97, 114, 101]), p0.2.1, p0.2.2.1, p0.2.2.2.1, x21]) fun x23 =>
          bd (cat x23 (bs [59])) fun x25 =>
          some x25)
        else (
          some (bs [])))))
def m_internal_stringslite_HasSuffix (p0 : ByteArray) (p1 : ByteArray) : Option (Bool) :=
  if decide ((p1.size : Int) ≤ (p0.size : Int)) then (
    bd (cs p0 (wi64 ((p0.size : Int) - (p1.size : Int))) p0.size) fun x2 =>
    some (sq x2 p1))
  else (
    some false)
def m_internal_stringslite_TrimSuffix (p0 : ByteArray) (p1 : ByteArray) : Option (ByteArray) :=
  bd (m_internal_stringslite_HasSuffix p0 p1) fun x1 =>
  if x1 then (
    bd (cs p0 0 (wi64 ((p0.size : Int) - (p1.size : Int)))) fun x4 =>
    some x4)
  else (
    some p0)
def m_strings_TrimSuffix (p0 : ByteArray) (p1 : ByteArray) : Option (ByteArray) :=
  bd (m_internal_stringslite_TrimSuffix p0 p1) fun x1 =>
  some x1
def m_report_Line (p0 : D_api_Query) (p1 : D_engine_Answer) : Option (ByteArray) :=
  bd (m_report_told (p1.1, (((p1.2.1.1.1.1, p1.2.1.1.1.2), p1.2.1.1.2), ((p1.2.1.2.1.1.1, p1.2.1.2.1.1.2), p1.2.1.2.1.2), ((p1.2.1.2.2.1.1, p1.2.1.2.2.1.2), p1.2.1.2.2.2)), (p1.2.2.1.1, ((p1.2.2.1.2.1.1, p1.2.2.1.2.1.2), p1.2.2.1.2.2)), ((p1.2.2.2.1.1.1, p1.2.2.2.1.1.2), p1.2.2.2.1.2), (p1.2.2.2.2.1, (p1.2.2.2.2.2.1.1, p1.2.2.2.2.2.1.2.1, ((p1.2.2.2.2.2.1.2.2.1.1.1, p1.2.2.2.2.2.1.2.2.1.1.2), p1.2.2.2.2.2.1.2.2.1.2), ((p1.2.2.2.2.2.1.2.2.2.1.1, p1.2.2.2.2.2.1.2.2.2.1.2), p1.2.2.2.2.2.1.2.2.2.2)), (p1.2.2.2.2.2.2.1, p1.2.2.2.2.2.2.2.1, ((p1.2.2.2.2.2.2.2.2.1.1.1, p1.2.2.2.2.2.2.2.2.1.1.2), p1.2.2.2.2.2.2.2.2.1.2), ((p1.2.2.2.2.2.2.2.2.2.1.1, p1.2.2.2.2.2.2.2.2.2.1.2), p1.2.2.2.2.2.2.2.2.2.2))))) fun x1 =>
  if !x1.2 then (
    some (bs []))
  else (
    bd (m_canon_Query (p0.1, p0.2.1, p0.2.2.1, p0.2.2.2.1, p0.2.2.2.2.1, (p0.2.2.2.2.2.1.1, p0.2.2.2.2.2.1.2), p0.2.2.2.2.2.2)) fun x4 =>
    bd (m_strings_TrimSuffix x4 (bs [59])) fun x6 =>
    bd (cat x6 (bs [58])) fun x8 =>
    bd (m_report_Words [x8, x1.1]) fun x10 =>
    some x10)
def m_triviumbase_Itoa_l1  : (ByteArray × Int) → Option ((ByteArray × Int) ⊕ (ByteArray))
  | (v3, v4) =>
    if !decide (v4 = 0) then (
      bd (rm .i64 v4 10) fun x6 =>
      bd (
        if decide (x6 < 0) then (
          some (wi64 (0 - x6)))
        else (
          some x6)) fun v8 =>
      bd (cat (tx [wu8 (wi64 (48 + v8))]) v3) fun x10 =>
      bd (qd .i64 v4 10) fun x12 =>
      some (.inl (x10, x12)))
    else (
      some (.inr v3))
def m_triviumbase_Itoa (p0 : Int) : Option (ByteArray) :=
  if decide (p0 = 0) then (
    some (bs [48]))
  else (
    bd (lp (m_triviumbase_Itoa_l1) ((bs []), p0)) fun v2 =>
    bd (
      if decide (p0 < 0) then (
        bd (cat (bs [45]) v2) fun x16 =>
        some x16)
      else (
        some v2)) fun v14 =>
    some v14)
def m_triviumref18_Print (p0 : Int) : Option (ByteArray) :=
  bd (qd .u32 p0 16777216) fun x1 =>
  bd (m_triviumbase_Itoa (wi64 x1)) fun x3 =>
  bd (cat x3 (bs [46])) fun x5 =>
  bd (qd .u32 p0 65536) fun x7 =>
  bd (rm .u32 x7 256) fun x9 =>
  bd (m_triviumbase_Itoa (wi64 x9)) fun x11 =>
  bd (cat x5 x11) fun x13 =>
  bd (cat x13 (bs [46])) fun x15 =>
  bd (qd .u32 p0 256) fun x17 =>
  bd (rm .u32 x17 256) fun x19 =>
  bd (m_triviumbase_Itoa (wi64 x19)) fun x21 =>
  bd (cat x15 x21) fun x23 =>
  bd (cat x23 (bs [46])) fun x25 =>
  bd (rm .u32 p0 256) fun x27 =>
  bd (m_triviumbase_Itoa (wi64 x27)) fun x29 =>
  bd (cat x25 x29) fun x31 =>
  some x31
def m_triviumref18_Size_l1  : (Int × Int) → Option ((Int × Int) ⊕ (Int))
  | (v2, v3) =>
    if decide (v3 < 32) then (
      some (.inl (wu64 (2 * v2), wi64 (v3 + 1))))
    else (
      some (.inr v2))
def m_triviumref18_Size (p0 : Int) : Option (Int) :=
  bd (lp (m_triviumref18_Size_l1) (1, p0)) fun v1 =>
  some v1
def m_triviumref18_May (p0 : D_api_Prefix) : Option (Bool) :=
  if decide (0 ≤ p0.2) then (
    if decide (p0.2 ≤ 32) then (
      bd (m_triviumref18_Size p0.2) fun x3 =>
      bd (rm .u64 (wu64 p0.1) x3) fun x5 =>
      some (decide (x5 = 0)))
    else (
      some false))
  else (
    some false)
def m_triviumref18_Text (p0 : D_api_Prefix) : Option (ByteArray) :=
  bd (m_triviumref18_May (p0.1, p0.2)) fun x1 =>
  if !x1 then (
    some (bs []))
  else (
    bd (m_triviumref18_Print p0.1) fun x4 =>
    bd (cat x4 (bs [47])) fun x6 =>
    bd (m_triviumbase_Itoa p0.2) fun x8 =>
    bd (cat x6 x8) fun x10 =>
    some x10)
def m_triviumref22_Query (p0 : D_api_Query) : Option (ByteArray) :=
  if decide (p0.1 = 1) then (
    bd (cat (bs [112, 114, 111, 98, 32]) p0.2.1) fun x2 =>
    bd (cat x2 (bs [32])) fun x4 =>
    bd (cat x4 p0.2.2.2.1) fun x6 =>
    bd (cat x6 (bs [32])) fun x8 =>
    bd (m_triviumref18_Print p0.2.2.2.2.1) fun x10 =>
    bd (cat x8 x10) fun x12 =>
    bd (cat x12 (bs [59])) fun x14 =>
    some x14)
  else (
    if decide (p0.1 = 2) then (
      bd (cat (bs [104, 111, 112, 115, 32]) p0.2.1) fun x17 =>
      bd (cat x17 (bs [32])) fun x19 =>
      bd (cat x19 p0.2.2.2.1) fun x21 =>
      bd (cat x21 (bs [32])) fun x23 =>
      bd (m_triviumref18_Print p0.2.2.2.2.1) fun x25 =>
      bd (cat x23 x25) fun x27 =>
      bd (cat x27 (bs [59])) fun x29 =>
      some x29)
    else (
      if decide (p0.1 = 3) then (
        bd (cat (bs [119, 105, 116, 104, 105, 110, 32]) p0.2.1) fun x32 =>
        bd (cat x32 (bs [32])) fun x34 =>
        bd (cat x34 p0.2.2.2.1) fun x36 =>
        bd (cat x36 (bs [32])) fun x38 =>
        bd (m_triviumref18_Print p0.2.2.2.2.1) fun x40 =>
        bd (cat x38 x40) fun x42 =>
        bd (cat x42 (bs [32])) fun x44 =>
        bd (m_triviumbase_Itoa p0.2.2.2.2.2.2) fun x46 =>
        bd (cat x44 x46) fun x48 =>
        bd (cat x48 (bs [59])) fun x50 =>
        some x50)
      else (
        if decide (p0.1 = 4) then (
          bd (cat (bs [99, 111, 109, 112, 97, 114, 101, 32]) p0.2.1) fun x53 =>
          bd (cat x53 (bs [32])) fun x55 =>
          bd (cat x55 p0.2.2.1) fun x57 =>
          bd (cat x57 (bs [32])) fun x59 =>
          bd (cat x59 p0.2.2.2.1) fun x61 =>
          bd (cat x61 (bs [32])) fun x63 =>
          bd (m_triviumref18_Text (p0.2.2.2.2.2.1.1, p0.2.2.2.2.2.1.2)) fun x65 =>
          bd (cat x63 x65) fun x67 =>
          bd (cat x67 (bs [59])) fun x69 =>
          some x69)
        else (
          some (bs [])))))
def m_triviumref02_Num (p0 : Int) : Option ((List Int)) :=
  bd (m_triviumref02_MulAdd [] 1 p0) fun x1 =>
  some x1
def m_triviumref02_Text_l1  : ((List Int) × (List Int)) → Option (((List Int) × (List Int)) ⊕ ((List Int)))
  | (v3, v4) =>
    if decide (0 < (v3.length : Int)) then (
      bd (m_triviumref02_DivSmall v3 10) fun x6 =>
      bd (ap 1 [wu8 (wi64 (48 + x6.2))] v4) fun x8 =>
      some (.inl (x6.1, x8)))
    else (
      some (.inr v4))
def m_triviumref02_Text (p0 : (List Int)) : Option (ByteArray) :=
  if decide ((p0.length : Int) = 0) then (
    some (bs [48]))
  else (
    bd (lp (m_triviumref02_Text_l1) (p0, [])) fun v2 =>
    some (tx v2))
def m_triviumref07_Print (p0 : D_triviumref07_Z) : Option (ByteArray) :=
  if p0.1 then (
    bd (m_triviumref02_Text p0.2) fun x2 =>
    bd (cat (bs [45]) x2) fun x4 =>
    some x4)
  else (
    bd (m_triviumref02_Text p0.2) fun x6 =>
    some x6)
def m_triviumref09_Print (p0 : D_triviumref08_Q) : Option (ByteArray) :=
  bd (m_triviumref02_Num 1) fun x1 =>
  bd (m_triviumref02_Cmp p0.2 x1) fun x3 =>
  if decide (x3 = 0) then (
    bd (m_triviumref07_Print (p0.1.1, p0.1.2)) fun x6 =>
    some x6)
  else (
    bd (m_triviumref07_Print (p0.1.1, p0.1.2)) fun x8 =>
    bd (cat x8 (bs [47])) fun x10 =>
    bd (m_triviumref02_Text p0.2) fun x12 =>
    bd (cat x10 x12) fun x14 =>
    some x14)
def m_triviumref38_Verdict (p0 : Int) : Option (ByteArray) :=
  bd (
    if decide (p0 < 0) then (
      some true)
    else (
      some (decide (4 < p0)))) fun v1 =>
  if v1 then (
    some (bs []))
  else (
    bd (rd [(bs []), (bs [101, 113, 117, 97, 108]), (bs [65, 32, 100, 111, 109, 105, 110, 97, 116, 101, 115]), (bs [66, 32, 100, 111, 109, 105, 110, 97, 116, 101, 115]), (bs [105, 110, 99, 111, 109, 112, 97, 114, 97, 98, 108, 101])] p0) fun x4 =>
    some x4)
def m_triviumref38_at (p0 : D_triviumref36_Witness) : Option (ByteArray) :=
  if !p0.1 then (
    some (bs []))
  else (
    bd (m_triviumref18_Print p0.2.1) fun x2 =>
    bd (cat (bs [32, 97, 116, 32]) x2) fun x4 =>
    bd (cat x4 (bs [32])) fun x6 =>
    bd (m_triviumref09_Print ((p0.2.2.1.1.1, p0.2.2.1.1.2), p0.2.2.1.2)) fun x8 =>
    bd (cat x6 x8) fun x10 =>
    bd (cat x10 (bs [32])) fun x12 =>
    bd (m_triviumref09_Print ((p0.2.2.2.1.1, p0.2.2.2.1.2), p0.2.2.2.2)) fun x14 =>
    bd (cat x12 x14) fun x16 =>
    some x16)
def m_triviumref38_Line (p0 : D_api_Query) (p1 : D_triviumref37_Answer) : Option (ByteArray) :=
  bd (m_triviumref22_Query (p0.1, p0.2.1, p0.2.2.1, p0.2.2.2.1, p0.2.2.2.2.1, (p0.2.2.2.2.2.1.1, p0.2.2.2.2.2.1.2), p0.2.2.2.2.2.2)) fun x1 =>
  bd (
    if decide (0 < (x1.size : Int)) then (
      bd (cs x1 0 (wi64 ((x1.size : Int) - 1))) fun x5 =>
      some x5)
    else (
      some x1)) fun v3 =>
  bd (cat v3 (bs [58, 32])) fun x7 =>
  if decide (p1.1 = 1) then (
    bd (cat x7 (bs [100, 101, 108, 105, 118, 101, 114, 32])) fun x10 =>
    bd (m_triviumref09_Print ((p1.2.1.1.1.1, p1.2.1.1.1.2), p1.2.1.1.2)) fun x12 =>
    bd (cat x10 x12) fun x14 =>
    bd (cat x14 (bs [32, 100, 114, 111, 112, 32])) fun x16 =>
    bd (m_triviumref09_Print ((p1.2.1.2.1.1.1, p1.2.1.2.1.1.2), p1.2.1.2.1.2)) fun x18 =>
    bd (cat x16 x18) fun x20 =>
    bd (cat x20 (bs [32, 108, 111, 111, 112, 32])) fun x22 =>
    bd (m_triviumref09_Print ((p1.2.1.2.2.1.1, p1.2.1.2.2.1.2), p1.2.1.2.2.2)) fun x24 =>
    bd (cat x22 x24) fun x26 =>
    some x26)
  else (
    bd (
      if decide (p1.1 = 2) then (
        some (!p1.2.2.1.1))
      else (
        some false)) fun v28 =>
    if v28 then (
      bd (cat x7 (bs [117, 110, 100, 101, 102, 105, 110, 101, 100])) fun x31 =>
      some x31)
    else (
      if decide (p1.1 = 2) then (
        bd (m_triviumref09_Print ((p1.2.2.1.2.1.1, p1.2.2.1.2.1.2), p1.2.2.1.2.2)) fun x34 =>
        bd (cat x7 x34) fun x36 =>
        some x36)
      else (
        if decide (p1.1 = 3) then (
          bd (m_triviumref09_Print ((p1.2.2.2.1.1.1, p1.2.2.2.1.1.2), p1.2.2.2.1.2)) fun x39 =>
          bd (cat x7 x39) fun x41 =>
          some x41)
        else (
          if decide (p1.1 = 4) then (
            bd (m_triviumref38_Verdict p1.2.2.2.2.1) fun x44 =>
            bd (cat x7 x44) fun x46 =>
            bd (m_triviumref38_at (p1.2.2.2.2.2.1.1, p1.2.2.2.2.2.1.2.1, ((p1.2.2.2.2.2.1.2.2.1.1.1, p1.2.2.2.2.2.1.2.2.1.1.2), p1.2.2.2.2.2.1.2.2.1.2), ((p1.2.2.2.2.2.1.2.2.2.1.1, p1.2.2.2.2.2.1.2.2.2.1.2), p1.2.2.2.2.2.1.2.2.2.2))) fun x48 =>
            bd (cat x46 x48) fun x50 =>
            bd (m_triviumref38_at (p1.2.2.2.2.2.2.1, p1.2.2.2.2.2.2.2.1, ((p1.2.2.2.2.2.2.2.2.1.1.1, p1.2.2.2.2.2.2.2.2.1.1.2), p1.2.2.2.2.2.2.2.2.1.2), ((p1.2.2.2.2.2.2.2.2.2.1.1, p1.2.2.2.2.2.2.2.2.2.1.2), p1.2.2.2.2.2.2.2.2.2.2))) fun x52 =>
            bd (cat x50 x52) fun x54 =>
            some x54)
          else (
            some (bs []))))))
def m_nat_at (p0 : (List Int)) (p1 : Int) : Option (Int) :=
  if decide ((p0.length : Int) ≤ p1) then (
    some 0)
  else (
    bd (rd p0 p1) fun x2 =>
    some x2)
def m_limb_Add (p0 : Int) (p1 : Int) (p2 : Int) : Option (Int × Int) :=
  lt (wu64 ((wu64 ((Go.bits .and .u64 p0 4294967295) + (Go.bits .and .u64 p1 4294967295))) + (Go.bits .and .u64 p2 4294967295))) fun x1 =>
  bd (sr .u64 x1 32) fun x3 =>
  some (Go.bits .and .u64 x1 4294967295, x3)
def m_nat_Add_l1 (p0 : (List Int)) (p1 : (List Int)) (x1 : Int) : (Int × Int × (List Int)) → Option ((Int × Int × (List Int)) ⊕ (Int × (List Int)))
  | (v7, v8, v9) =>
    if decide (v8 < x1) then (
      bd (m_nat_at p0 v8) fun x11 =>
      bd (m_nat_at p1 v8) fun x13 =>
      bd (m_limb_Add x11 x13 v7) fun x15 =>
      bd (ix v9 v8) fun j17 =>
      lt (v9.set j17 x15.1) fun x19 =>
      some (.inl (x15.2, wi64 (v8 + 1), x19)))
    else (
      some (.inr (v7, v9)))
def m_nat_Add (p0 : (List Int)) (p1 : (List Int)) : Option ((List Int)) :=
  lt (max (p0.length : Int) (p1.length : Int)) fun x1 =>
  bd (mk 8 0 (wi64 (x1 + 1)) (wi64 (x1 + 1))) fun x3 =>
  bd (lp (m_nat_Add_l1 p0 p1 x1) (0, 0, x3)) fun (v5, v6) =>
  bd (ix v6 x1) fun j21 =>
  lt (v6.set j21 v5) fun x23 =>
  bd (m_nat_trim x23) fun x25 =>
  some x25
def m_whole_Made (p0 : Bool) (p1 : (List Int)) : Option (D_api_Int) :=
  bd (m_nat_Make p1) fun x1 =>
  if p0 then (
    some (decide (0 < (x1.1.length : Int)), x1.1))
  else (
    some (false, x1.1))
def m_whole_Of (p0 : Int) : Option (D_api_Int) :=
  if decide (p0 < 0) then (
    bd (m_nat_Of (wu64 (wi64 (0 - (wi64 (p0 + 1)))))) fun x2 =>
    bd (m_nat_Of 1) fun x4 =>
    bd (m_nat_Add x2 x4) fun x6 =>
    bd (m_whole_Made true x6) fun x8 =>
    some (x8.1, x8.2))
  else (
    bd (m_nat_Of (wu64 p0)) fun x10 =>
    bd (m_whole_Made false x10) fun x12 =>
    some (x12.1, x12.2))
def m_whole_Sign (p0 : D_api_Int) : Option (Int) :=
  if decide ((p0.2.length : Int) = 0) then (
    some 0)
  else (
    if p0.1 then (
      some (-1))
    else (
      some 1))
def m_nat_May_l1 (p0 : (List Int)) : Int → Option ((Int) ⊕ (Bool))
  | v1 =>
    if decide (v1 < (p0.length : Int)) then (
      bd (rd p0 v1) fun x3 =>
      if decide (4294967296 ≤ x3) then (
        some (.inr false))
      else (
        some (.inl (wi64 (v1 + 1)))))
    else (
      if decide ((p0.length : Int) = 0) then (
        some (.inr true))
      else (
        bd (rd p0 (wi64 ((p0.length : Int) - 1))) fun x7 =>
        some (.inr (!decide (x7 = 0)))))
def m_nat_May (p0 : (List Int)) : Option (Bool) :=
  lp (m_nat_May_l1 p0) 0
def m_limb_Bits_l1 (p0 : Int) : (Int × Int) → Option ((Int × Int) ⊕ (Int))
  | (v2, v3) =>
    if decide (v3 < 32) then (
      bd (
        bd (sr .u64 p0 v3) fun x6 =>
        if decide ((Go.bits .and .u64 x6 1) = 1) then (
          some (wi64 (v3 + 1)))
        else (
          some v2)) fun v5 =>
      some (.inl (v5, wi64 (v3 + 1))))
    else (
      some (.inr v2))
def m_limb_Bits (p0 : Int) : Option (Int) :=
  bd (lp (m_limb_Bits_l1 p0) (0, 0)) fun v1 =>
  some v1
def m_nat_shift (p0 : Int) : Option (Int) :=
  bd (
    if decide (p0 < 0) then (
      some true)
    else (
      some (decide (100000 < p0)))) fun v1 =>
  if v1 then (
    some 2)
  else (
    some 0)
def m_nat_Shl_l1 (p0 : (List Int)) (p1 : Int) : (Int × (List Int)) → Option ((Int × (List Int)) ⊕ ((List Int)))
  | (v11, v12) =>
    if decide (v11 < (p0.length : Int)) then (
      bd (rd p0 v11) fun x14 =>
      bd (qd .i64 p1 32) fun x16 =>
      bd (rm .i64 p1 32) fun x18 =>
      bd (sh .u64 x14 x18) fun x20 =>
      bd (rd v12 (wi64 (v11 + x16))) fun x22 =>
      bd (rm .u64 x20 4294967296) fun x24 =>
      bd (ix v12 (wi64 (v11 + x16))) fun j26 =>
      lt (v12.set j26 (Go.bits .or .u64 x22 x24)) fun x28 =>
      bd (sr .u64 x20 32) fun x30 =>
      bd (ix x28 (wi64 ((wi64 (v11 + x16)) + 1))) fun j32 =>
      lt (x28.set j32 x30) fun x34 =>
      some (.inl (wi64 (v11 + 1), x34)))
    else (
      some (.inr v12))
def m_nat_Shl (p0 : (List Int)) (p1 : Int) : Option ((List Int) × Int) :=
  bd (m_nat_shift p1) fun x1 =>
  bd (
    if !decide (x1 = 0) then (
      some true)
    else (
      some (decide ((p0.length : Int) = 0)))) fun v3 =>
  if v3 then (
    some ([], x1))
  else (
    bd (qd .i64 p1 32) fun x6 =>
    bd (mk 8 0 (wi64 ((wi64 ((p0.length : Int) + x6)) + 1)) (wi64 ((wi64 ((p0.length : Int) + x6)) + 1))) fun x8 =>
    bd (lp (m_nat_Shl_l1 p0 p1) (0, x8)) fun v10 =>
    bd (m_nat_trim v10) fun x36 =>
    some (x36, 0))
def m_divide_guess_l1 (p0 : (List Int)) (p1 : Int) (p2 : (List Int)) : (Int × Int) → Option ((Int × Int) ⊕ (Int))
  | (v16, v17) =>
    bd (
      if decide (4294967296 ≤ v16) then (
        some true)
      else (
        bd (rd p2 (wi64 ((p2.length : Int) - 2))) fun x20 =>
        bd (sh .u64 v17 32) fun x22 =>
        bd (rd p0 (wi64 ((wi64 (p1 + (p2.length : Int))) - 2))) fun x24 =>
        some (decide ((Go.bits .or .u64 x22 x24) < (wu64 (v16 * x20)))))) fun v18 =>
    if v18 then (
      bd (rd p2 (wi64 ((p2.length : Int) - 1))) fun x27 =>
      if decide (4294967296 ≤ (wu64 (v17 + x27))) then (
        some (.inr (wu64 (v16 - 1))))
      else (
        some (.inl (wu64 (v16 - 1), wu64 (v17 + x27)))))
    else (
      some (.inr v16))
def m_divide_guess (p0 : (List Int)) (p1 : Int) (p2 : (List Int)) : Option (Int) :=
  bd (rd p0 (wi64 (p1 + (p2.length : Int)))) fun x1 =>
  bd (sh .u64 x1 32) fun x3 =>
  bd (rd p0 (wi64 ((wi64 (p1 + (p2.length : Int))) - 1))) fun x5 =>
  bd (rd p2 (wi64 ((p2.length : Int) - 1))) fun x7 =>
  bd (qd .u64 (Go.bits .or .u64 x3 x5) x7) fun x9 =>
  bd (rd p2 (wi64 ((p2.length : Int) - 1))) fun x11 =>
  bd (rm .u64 (Go.bits .or .u64 x3 x5) x11) fun x13 =>
  bd (lp (m_divide_guess_l1 p0 p1 p2) (x9, x13)) fun v15 =>
  some v15
def m_divide_at (p0 : (List Int)) (p1 : Int) : Option (Int) :=
  if decide ((p0.length : Int) ≤ p1) then (
    some 0)
  else (
    bd (rd p0 p1) fun x2 =>
    some x2)
def m_limb_Mul (p0 : Int) (p1 : Int) (p2 : Int) (p3 : Int) : Option (Int × Int) :=
  lt (wu64 ((wu64 ((wu64 ((Go.bits .and .u64 p0 4294967295) * (Go.bits .and .u64 p1 4294967295))) + (Go.bits .and .u64 p2 4294967295))) + (Go.bits .and .u64 p3 4294967295))) fun x1 =>
  bd (sr .u64 x1 32) fun x3 =>
  some (Go.bits .and .u64 x1 4294967295, x3)
def m_limb_Sub (p0 : Int) (p1 : Int) (p2 : Int) : Option (Int × Int) :=
  lt (wu64 ((Go.bits .and .u64 p1 4294967295) + (Go.bits .and .u64 p2 4294967295))) fun x1 =>
  bd (
    if decide ((Go.bits .and .u64 p0 4294967295) < x1) then (
      bd (sr .u64 (wu64 ((wu64 (x1 - (Go.bits .and .u64 p0 4294967295))) + 4294967295)) 32) fun x5 =>
      some x5)
    else (
      some 0)) fun v3 =>
  bd (sh .u64 v3 32) fun x7 =>
  lt (wu64 ((wu64 ((Go.bits .and .u64 p0 4294967295) + x7)) - x1)) fun x9 =>
  some (x9, v3)
def m_divide_take_M_l1 (p1 : Int) (p2 : (List Int)) (p3 : Int) : (Int × Int × Int × (List Int)) → Option ((Int × Int × Int × (List Int)) ⊕ (Int × (List Int)))
  | (v3, v4, v5, v6) =>
    if decide (v5 < (wi64 ((p2.length : Int) + 1))) then (
      bd (m_divide_at p2 v5) fun x8 =>
      bd (m_limb_Mul p3 x8 v3 0) fun x10 =>
      bd (rd v6 (wi64 (p1 + v5))) fun x12 =>
      bd (m_limb_Sub x12 x10.1 v4) fun x14 =>
      bd (ix v6 (wi64 (p1 + v5))) fun j16 =>
      lt (v6.set j16 x14.1) fun x18 =>
      some (.inl (x10.2, x14.2, wi64 (v5 + 1), x18)))
    else (
      some (.inr (v4, v6)))
def m_divide_take_M (p1 : Int) (p2 : (List Int)) (p3 : Int) (o1 : (List Int)) : Option (Bool × (List Int)) :=
  bd (lp (m_divide_take_M_l1 p1 p2 p3) (0, 0, 0, o1)) fun (v1, v2) =>
  bd (eln o1 v2) fun _ =>
  some (decide (0 < v1), v2)
def m_divide_give_M_l1 (p1 : Int) (p2 : (List Int)) (o1 : (List Int)) : (Int × Int × (List Int)) → Option ((Int × Int × (List Int)) ⊕ ((List Int)))
  | (v1, v2, v3) =>
    if decide (v2 < (wi64 ((p2.length : Int) + 1))) then (
      bd (rd v3 (wi64 (p1 + v2))) fun x5 =>
      bd (m_divide_at p2 v2) fun x7 =>
      bd (m_limb_Add x5 x7 v1) fun x9 =>
      bd (ix v3 (wi64 (p1 + v2))) fun j11 =>
      lt (v3.set j11 x9.1) fun x13 =>
      some (.inl (x9.2, wi64 (v2 + 1), x13)))
    else (
      bd (eln o1 v3) fun _ =>
      some (.inr v3))
def m_divide_give_M (p1 : Int) (p2 : (List Int)) (o1 : (List Int)) : Option ((List Int)) :=
  lp (m_divide_give_M_l1 p1 p2 o1) (0, 0, o1)
def m_nat_Shr_l1 (p0 : (List Int)) (p1 : Int) (x10 : (List Int)) : (Int × (List Int)) → Option ((Int × (List Int)) ⊕ ((List Int)))
  | (v13, v14) =>
    if decide (v13 < (x10.length : Int)) then (
      bd (qd .i64 p1 32) fun x16 =>
      bd (rd p0 (wi64 (v13 + x16))) fun x18 =>
      bd (m_nat_at p0 (wi64 ((wi64 (v13 + x16)) + 1))) fun x20 =>
      bd (sh .u64 x20 32) fun x22 =>
      bd (rm .i64 p1 32) fun x24 =>
      bd (sr .u64 (Go.bits .or .u64 x18 x22) x24) fun x26 =>
      bd (rm .u64 x26 4294967296) fun x28 =>
      bd (ix v14 v13) fun j30 =>
      lt (v14.set j30 x28) fun x32 =>
      some (.inl (wi64 (v13 + 1), x32)))
    else (
      some (.inr v14))
def m_nat_Shr (p0 : (List Int)) (p1 : Int) : Option ((List Int) × Int) :=
  bd (m_nat_shift p1) fun x1 =>
  bd (
    if !decide (x1 = 0) then (
      some true)
    else (
      bd (qd .i64 p1 32) fun x5 =>
      some (decide ((p0.length : Int) ≤ x5)))) fun v3 =>
  if v3 then (
    some ([], x1))
  else (
    bd (qd .i64 p1 32) fun x8 =>
    bd (mk 8 0 (wi64 ((p0.length : Int) - x8)) (wi64 ((p0.length : Int) - x8))) fun x10 =>
    bd (lp (m_nat_Shr_l1 p0 p1 x10) (0, x10)) fun v12 =>
    bd (m_nat_trim v12) fun x34 =>
    some (x34, 0))
def m_divide_knuth_l1 (x5 : ((List Int) × Int)) : (Int × (List Int) × (List Int)) → Option ((Int × (List Int) × (List Int)) ⊕ ((List Int) × (List Int)))
  | (v19, v20, v21) =>
    if decide (0 ≤ v19) then (
      bd (
        bd (m_divide_guess v20 v19 x5.1) fun x25 =>
        bd (ix v21 v19) fun j27 =>
        lt (v21.set j27 x25) fun x29 =>
        bd (rd x29 v19) fun x31 =>
        bd (m_divide_take_M v19 x5.1 x31 v20) fun x34 =>
        if x34.1 then (
          bd (rd x29 v19) fun x36 =>
          bd (ix x29 v19) fun j38 =>
          lt (x29.set j38 (wu64 (x36 - 1))) fun x40 =>
          bd (m_divide_give_M v19 x5.1 x34.2) fun x43 =>
          some (x43, x40))
        else (
          some (x34.2, x29))) fun (v23, v24) =>
      some (.inl (wi64 (v19 - 1), v23, v24)))
    else (
      some (.inr (v20, v21)))
def m_divide_knuth (p0 : (List Int)) (p1 : (List Int)) : Option ((List Int) × (List Int)) :=
  bd (rd p1 (wi64 ((p1.length : Int) - 1))) fun x1 =>
  bd (m_limb_Bits x1) fun x3 =>
  bd (m_nat_Shl p1 (wi64 (32 - x3))) fun x5 =>
  bd (mk 8 0 (wi64 ((p0.length : Int) + 1)) (wi64 ((p0.length : Int) + 1))) fun x7 =>
  bd (m_nat_Shl p0 (wi64 (32 - x3))) fun x9 =>
  bd (cpy x7 0 x9.1) fun x11 =>
  bd (mk 8 0 (wi64 ((wi64 ((p0.length : Int) - (p1.length : Int))) + 1)) (wi64 ((wi64 ((p0.length : Int) - (p1.length : Int))) + 1))) fun x13 =>
  bd (
    lt (wi64 ((p0.length : Int) - (p1.length : Int))) fun x17 =>
    lp (m_divide_knuth_l1 x5) (x17, x11, x13)) fun (v15, v16) =>
  bd (m_nat_Make v16) fun x44 =>
  bd (m_nat_Make v15) fun x46 =>
  bd (m_nat_Shr x46.1 (wi64 (32 - x3))) fun x48 =>
  some (x44.1, x48.1)
def m_divide_Div (p0 : (List Int)) (p1 : (List Int)) : Option ((List Int) × (List Int) × Int) :=
  if decide ((p1.length : Int) = 0) then (
    some ([], [], 3))
  else (
    bd (
      bd (m_nat_May p0) fun x3 =>
      if !x3 then (
        some true)
      else (
        bd (m_nat_May p1) fun x6 =>
        some (!x6))) fun v2 =>
    if v2 then (
      some ([], [], 2))
    else (
      bd (m_nat_Cmp p0 p1) fun x9 =>
      if decide (x9 < 0) then (
        bd (m_nat_Make p0) fun x12 =>
        some ([], x12.1, x12.2))
      else (
        if decide ((p1.length : Int) = 1) then (
          bd (rd p1 0) fun x15 =>
          bd (m_divide_Small p0 x15) fun x17 =>
          bd (m_nat_Of x17.2.1) fun x19 =>
          some (x17.1, x19, x17.2.2))
        else (
          bd (m_divide_knuth p0 p1) fun x21 =>
          some (x21.1, x21.2, 0)))))
def m_divide_Mod (p0 : (List Int)) (p1 : (List Int)) : Option ((List Int) × Int) :=
  bd (m_divide_Div p0 p1) fun x1 =>
  some (x1.2.1, x1.2.2)
def m_gcd_Euclid_l1  : ((List Int) × (List Int)) → Option (((List Int) × (List Int)) ⊕ ((List Int)))
  | (v6, v7) =>
    if decide (0 < (v7.length : Int)) then (
      bd (m_divide_Mod v6 v7) fun x9 =>
      some (.inl (v7, x9.1)))
    else (
      some (.inr v6))
def m_gcd_Euclid (p0 : (List Int)) (p1 : (List Int)) : Option ((List Int)) :=
  bd (m_nat_Make p0) fun x1 =>
  bd (m_nat_Make p1) fun x3 =>
  bd (lp (m_gcd_Euclid_l1) (x1.1, x3.1)) fun v5 =>
  some v5
def m_divide_Exact (p0 : (List Int)) (p1 : (List Int)) : Option ((List Int) × Int) :=
  bd (m_divide_Div p0 p1) fun x1 =>
  if !decide (x1.2.2 = 0) then (
    some ([], x1.2.2))
  else (
    if decide (0 < (x1.2.1.length : Int)) then (
      some ([], 4))
    else (
      some (x1.1, x1.2.2)))
def m_rat_low (p0 : D_api_Int) (p1 : (List Int)) : Option (D_api_Rat) :=
  bd (m_gcd_Euclid p0.2 p1) fun x1 =>
  bd (m_divide_Exact p0.2 x1) fun x3 =>
  bd (m_divide_Exact p1 x1) fun x5 =>
  bd (m_whole_Made p0.1 x3.1) fun x7 =>
  some ((x7.1, x7.2), x5.1)
def m_rat_Make (p0 : D_api_Int) (p1 : D_api_Int) : Option (D_api_Rat × Int) :=
  bd (m_whole_Sign (p1.1, p1.2)) fun x1 =>
  if decide (x1 = 0) then (
    some (((false, []), []), 3))
  else (
    bd (m_whole_Made (!(p0.1 == p1.1)) p0.2) fun x4 =>
    bd (m_rat_low x4 p1.2) fun x6 =>
    some (((x6.1.1, x6.1.2), x6.2), 0))
def m_rat_Frac (p0 : Int) (p1 : Int) : Option (D_api_Rat × Int) :=
  bd (m_whole_Of p0) fun x1 =>
  bd (m_whole_Of p1) fun x3 =>
  bd (m_rat_Make x1 x3) fun x5 =>
  some (((x5.1.1.1, x5.1.1.2), x5.1.2), x5.2)
def m_rat_one  : Option ((List Int)) :=
  bd (m_nat_Of 1) fun x1 =>
  some x1
def m_rat_Of (p0 : Int) : Option (D_api_Rat) :=
  bd (m_whole_Of p0) fun x1 =>
  bd (m_rat_one) fun x3 =>
  some ((x1.1, x1.2), x3)
def m_triviumlaw38_works  : Option (Bool) :=
  bd (m_rat_Frac 2 3) fun x1 =>
  bd (m_rat_Frac 1 3) fun x3 =>
  bd (m_rat_Of 0) fun x5 =>
  bd (m_report_Line (1, (bs [97]), (bs []), (bs [115]), 16843009, (0, 0), 0) (1, (((x1.1.1.1, x1.1.1.2), x1.1.2), ((x3.1.1.1, x3.1.1.2), x3.1.2), ((x5.1.1, x5.1.2), x5.2)), (false, ((false, []), [])), ((false, []), []), (0, (false, 0, ((false, []), []), ((false, []), [])), (false, 0, ((false, []), []), ((false, []), []))))) fun x7 =>
  lt (sq x7 (bs [112, 114, 111, 98, 32, 97, 32, 115, 32, 49, 46, 49, 46, 49, 46, 49, 58, 32, 100, 101, 108, 105, 118, 101, 114, 32, 50, 47, 51, 32, 100, 114, 111, 112, 32, 49, 47, 51, 32, 108, 111, 111, 112, 32, 48])) fun x9 =>
  some x9
def m_triviumlaw38_ReportLines (p0 : D_api_Query) (p1 : D_triviumlaw38_Told) (p2 : Int) : Option (Bool) :=
  bd (m_triviumref22_CleanQuery (p0.1, p0.2.1, p0.2.2.1, p0.2.2.2.1, p0.2.2.2.2.1, (p0.2.2.2.2.2.1.1, p0.2.2.2.2.2.1.2), p0.2.2.2.2.2.2)) fun x1 =>
  bd (m_triviumlaw38_both (p1.1, p1.2.1, p1.2.2.1, p1.2.2.2.1, p1.2.2.2.2.1, p1.2.2.2.2.2.1, ((p1.2.2.2.2.2.2.1.1.1, p1.2.2.2.2.2.2.1.1.2), p1.2.2.2.2.2.2.1.2), ((p1.2.2.2.2.2.2.2.1.1.1, p1.2.2.2.2.2.2.2.1.1.2), p1.2.2.2.2.2.2.2.1.2), ((p1.2.2.2.2.2.2.2.2.1.1, p1.2.2.2.2.2.2.2.2.1.2), p1.2.2.2.2.2.2.2.2.2))) fun x3 =>
  bd (m_report_Line (x1.1, x1.2.1, x1.2.2.1, x1.2.2.2.1, x1.2.2.2.2.1, (x1.2.2.2.2.2.1.1, x1.2.2.2.2.2.1.2), x1.2.2.2.2.2.2) (x3.1.1, (((x3.1.2.1.1.1.1, x3.1.2.1.1.1.2), x3.1.2.1.1.2), ((x3.1.2.1.2.1.1.1, x3.1.2.1.2.1.1.2), x3.1.2.1.2.1.2), ((x3.1.2.1.2.2.1.1, x3.1.2.1.2.2.1.2), x3.1.2.1.2.2.2)), (x3.1.2.2.1.1, ((x3.1.2.2.1.2.1.1, x3.1.2.2.1.2.1.2), x3.1.2.2.1.2.2)), ((x3.1.2.2.2.1.1.1, x3.1.2.2.2.1.1.2), x3.1.2.2.2.1.2), (x3.1.2.2.2.2.1, (x3.1.2.2.2.2.2.1.1, x3.1.2.2.2.2.2.1.2.1, ((x3.1.2.2.2.2.2.1.2.2.1.1.1, x3.1.2.2.2.2.2.1.2.2.1.1.2), x3.1.2.2.2.2.2.1.2.2.1.2), ((x3.1.2.2.2.2.2.1.2.2.2.1.1, x3.1.2.2.2.2.2.1.2.2.2.1.2), x3.1.2.2.2.2.2.1.2.2.2.2)), (x3.1.2.2.2.2.2.2.1, x3.1.2.2.2.2.2.2.2.1, ((x3.1.2.2.2.2.2.2.2.2.1.1.1, x3.1.2.2.2.2.2.2.2.2.1.1.2), x3.1.2.2.2.2.2.2.2.2.1.2), ((x3.1.2.2.2.2.2.2.2.2.2.1.1, x3.1.2.2.2.2.2.2.2.2.2.1.2), x3.1.2.2.2.2.2.2.2.2.2.2))))) fun x5 =>
  bd (m_triviumref38_Line (x1.1, x1.2.1, x1.2.2.1, x1.2.2.2.1, x1.2.2.2.2.1, (x1.2.2.2.2.2.1.1, x1.2.2.2.2.2.1.2), x1.2.2.2.2.2.2) (x3.2.1, (((x3.2.2.1.1.1.1, x3.2.2.1.1.1.2), x3.2.2.1.1.2), ((x3.2.2.1.2.1.1.1, x3.2.2.1.2.1.1.2), x3.2.2.1.2.1.2), ((x3.2.2.1.2.2.1.1, x3.2.2.1.2.2.1.2), x3.2.2.1.2.2.2)), (x3.2.2.2.1.1, ((x3.2.2.2.1.2.1.1, x3.2.2.2.1.2.1.2), x3.2.2.2.1.2.2)), ((x3.2.2.2.2.1.1.1, x3.2.2.2.2.1.1.2), x3.2.2.2.2.1.2), (x3.2.2.2.2.2.1, (x3.2.2.2.2.2.2.1.1, x3.2.2.2.2.2.2.1.2.1, ((x3.2.2.2.2.2.2.1.2.2.1.1.1, x3.2.2.2.2.2.2.1.2.2.1.1.2), x3.2.2.2.2.2.2.1.2.2.1.2), ((x3.2.2.2.2.2.2.1.2.2.2.1.1, x3.2.2.2.2.2.2.1.2.2.2.1.2), x3.2.2.2.2.2.2.1.2.2.2.2)), (x3.2.2.2.2.2.2.2.1, x3.2.2.2.2.2.2.2.2.1, ((x3.2.2.2.2.2.2.2.2.2.1.1.1, x3.2.2.2.2.2.2.2.2.2.1.1.2), x3.2.2.2.2.2.2.2.2.2.1.2), ((x3.2.2.2.2.2.2.2.2.2.2.1.1, x3.2.2.2.2.2.2.2.2.2.2.1.2), x3.2.2.2.2.2.2.2.2.2.2.2))))) fun x7 =>
  if sq x5 x7 then (
    bd (m_report_Verdict p2) fun x10 =>
    bd (m_triviumref38_Verdict p2) fun x12 =>
    if sq x10 x12 then (
      bd (m_triviumlaw38_works) fun x15 =>
      some x15)
    else (
      some false))
  else (
    some false)
end
end Go.Proofs.YtkjkipkfndckfaaGreatDoor.AP
/- The code comes to the printed functions (printed by a program of ours). -/
namespace Go.Proofs.YtkjkipkfndckfaaGreatDoor.AE
open Go Go.RowKit Go.Proofs.YtkjkipkfndckfaaGreatDoor.AP
set_option linter.unusedVariables false
set_option maxRecDepth 20000
theorem en16 : Enters Tryz.prog 16 := ⟨_, Tryz.func16, rfl, rfl⟩
theorem k_triviumref22_short {p0 : ByteArray} {y : ByteArray} (h : m_triviumref22_short p0 = some y) : Spec Tryz.prog 16 [(.v .str p0)] (.v .str y) [] := by
  rw [m_triviumref22_short] at h
  refine enterN [(.v .str p0)] 8 Tryz.func16 rfl rfl rfl ?_
  refine T.seq ?_
  refine T.region ?_
  refine Run.go (Ev.assign rfl rfl) ?_
  refine Run.nil ?_
  refine T.seq ?_
  refine T.region ?_
  refine Run.go (Ev.move rfl rfl) ?_
  refine Run.go (Ev.move rfl rfl) ?_
  refine Run.go (Ev.len X rfl rfl rfl rfl) ?_
  refine Run.go (Ev.min rfl rfl rfl) ?_
  obtain ⟨x1, e2, h⟩ := bdS h
  refine Run.go (Ev.e_cs X e2 rfl rfl rfl (fun _ h => by cases h) (fun _ => rfl) (fun _ _ => cutAt_of rfl) (fun h => by cases h)) ?_
  refine Run.go (Ev.assign rfl rfl) ?_
  refine Run.nil ?_
  refine T.ret ?_
  cases h
  exact Fin.one rfl .v
theorem en5 : Enters Tryz.prog 5 := ⟨_, Tryz.func5, rfl, rfl⟩
set_option maxHeartbeats 1000000 in
theorem k_triviumref22_CleanQuery {p0 : D_api_Query} {y : D_api_Query} (h : m_triviumref22_CleanQuery p0 = some y) : Spec Tryz.prog 5 [(.v Y_api_Query p0)] (.v Y_api_Query y) [] := by
  rw [m_triviumref22_CleanQuery] at h
  refine enterN [(.v Y_api_Query p0)] 25 Tryz.func5 rfl rfl rfl ?_
  refine T.seq ?_
  refine T.region ?_
  refine Run.go (Ev.box 1 rfl rfl rfl rfl) ?_
  refine Run.go (Ev.allocN X 2 rfl rfl rfl) ?_
  refine Run.nil ?_
  refine T.seq ?_
  refine T.drawM [10, 12, 14] [0, 1, 3, 0, 8, 31, 0, 64, 255, 223, 1023, 2047, 4095, 8191, 16383] (by kernel_rfl) (by kernel_rfl) ?_
  refine RunD.a rfl rfl (Ev.fieldBox X rfl rfl rfl rfl rfl) ?_
  refine RunD.a rfl rfl (Ev.loadCell X rfl rfl rfl rfl rfl rfl) ?_
  obtain ⟨x1, e2, h⟩ := bdS h
  refine RunD.a rfl rfl (Ev.callC en16 (k_triviumref22_short e2) rfl (.cons .v .nil) rfl rfl) ?_
  refine RunD.a rfl rfl (Ev.fieldBox X rfl rfl rfl rfl rfl) ?_
  refine RunD.a rfl rfl (Ev.loadCell X rfl rfl rfl rfl rfl rfl) ?_
  obtain ⟨x3, e4, h⟩ := bdS h
  refine RunD.a rfl rfl (Ev.callC en16 (k_triviumref22_short e4) rfl (.cons .v .nil) rfl rfl) ?_
  refine RunD.a rfl rfl (Ev.fieldBox X rfl rfl rfl rfl rfl) ?_
  refine RunD.a rfl rfl (Ev.loadCell X rfl rfl rfl rfl rfl rfl) ?_
  obtain ⟨x5, e6, h⟩ := bdS h
  refine RunD.a rfl rfl (Ev.callC en16 (k_triviumref22_short e6) rfl (.cons .v .nil) rfl rfl) ?_
  refine RunD.a rfl rfl (Ev.fieldBox X rfl rfl rfl rfl rfl) ?_
  refine RunD.mN rfl (Ev.storeBox X rfl rfl rfl rfl rfl rfl rfl) ?_
  refine RunD.a rfl rfl (Ev.fieldBox X rfl rfl rfl rfl rfl) ?_
  refine RunD.mN rfl (Ev.storeBox X rfl rfl rfl rfl rfl rfl rfl) ?_
  refine RunD.a rfl rfl (Ev.fieldBox X rfl rfl rfl rfl rfl) ?_
  refine RunD.mN rfl (Ev.storeBox X rfl rfl rfl rfl rfl rfl rfl) ?_
  refine RunD.nil ?_
  obtain ⟨v7, hv, h⟩ := bdS h
  refine T.cut (fun _ : Unit => (⟨[(1, .box 1 0), (2, .box 2 0)], [(1, .box [.v (.int .i64) p0.1, .v .str x1, .v .str x3, .v .str x5, .v (.int .u32) p0.2.2.2.2.1, .v (.int .u32) p0.2.2.2.2.2.1.1, .v (.int .i64) p0.2.2.2.2.2.1.2, .v (.int .i64) v7]), (2, .box [.v (.int .i64) (0 : Int), .v .str ((bs []) : ByteArray), .v .str ((bs []) : ByteArray), .v .str ((bs []) : ByteArray), .v (.int .u32) (0 : Int), .v (.int .u32) (0 : Int), .v (.int .i64) (0 : Int), .v (.int .i64) (0 : Int)])], 25⟩ : St)) (fun _ => True) ?_ (fun _ _ => ?_)
  · replace h := hv
    clear hv
    obtain ⟨v8, hv, h⟩ := bdS h
    refine T.cut (fun _ : Unit => (⟨[(1, .box 1 0), (2, .box 2 0), (22, .v .bool v8)], [(1, .box [.v (.int .i64) p0.1, .v .str x1, .v .str x3, .v .str x5, .v (.int .u32) p0.2.2.2.2.1, .v (.int .u32) p0.2.2.2.2.2.1.1, .v (.int .i64) p0.2.2.2.2.2.1.2, .v (.int .i64) p0.2.2.2.2.2.2]), (2, .box [.v (.int .i64) (0 : Int), .v .str ((bs []) : ByteArray), .v .str ((bs []) : ByteArray), .v .str ((bs []) : ByteArray), .v (.int .u32) (0 : Int), .v (.int .u32) (0 : Int), .v (.int .i64) (0 : Int), .v (.int .i64) (0 : Int)])], 25⟩ : St)) (fun _ => True) ?_ (fun _ _ => ?_)
    · replace h := hv
      clear hv
      refine T.region ?_
      refine Run.go (Ev.fieldBox X rfl rfl rfl rfl rfl) ?_
      refine Run.go (Ev.loadCell X rfl rfl rfl rfl rfl rfl) ?_
      refine Run.go (Ev.int rfl rfl rfl rfl trivial) ?_
      refine Run.go (Ev.move rfl rfl) ?_
      rcases boolCases (decide (p0.2.2.2.2.2.2 < (-1000000))) with hb9 | hb9
      · replace h := ifT hb9 h
        refine Run.offT rfl rfl rfl rfl hb9 ?_
        refine Run.offT rfl rfl rfl rfl hb9 ?_
        refine Run.offT rfl rfl rfl rfl hb9 ?_
        refine Run.go (Ev.pickT rfl hb9 rfl rfl) ?_
        refine Run.nil ?_
        cases h
        exact ⟨(), trivial, Ghost.only [(1, 1), (2, 2)] [1, 2, 22] rfl⟩
      · replace h := ifF hb9 h
        refine Run.on rfl rfl rfl hb9 (Ev.fieldBox X rfl rfl rfl rfl rfl) ?_
        refine Run.on rfl rfl rfl hb9 (Ev.loadCell X rfl rfl rfl rfl rfl rfl) ?_
        refine Run.on rfl rfl rfl hb9 (Ev.int rfl rfl rfl rfl trivial) ?_
        refine Run.go (Ev.pickF rfl hb9 rfl rfl) ?_
        refine Run.nil ?_
        cases h
        exact ⟨(), trivial, Ghost.only [(1, 1), (2, 2)] [1, 2, 22] rfl⟩
    · refine T.cond rfl (fun hb10 => ?_) (fun hb10 => ?_)
      · replace h := ifT hb10 h
        refine T.region ?_
        refine Run.go (Ev.fieldBox X rfl rfl rfl rfl rfl) ?_
        refine Run.do_ (Ev.storeBox X rfl rfl rfl rfl rfl rfl rfl) ?_
        refine Run.nil ?_
        cases h
        exact ⟨(), trivial, Ghost.only [(1, 1), (2, 2)] [1, 2] rfl⟩
      · replace h := ifF hb10 h
        refine T.skip ?_
        cases h
        exact ⟨(), trivial, Ghost.only [(1, 1), (2, 2)] [1, 2] rfl⟩
  · refine T.seq ?_
    refine T.region ?_
    refine Run.go (Ev.loadBox X rfl rfl rfl rfl rfl) ?_
    refine Run.do_ (Ev.storeBox X rfl rfl rfl rfl rfl rfl rfl) ?_
    refine Run.nil ?_
    refine T.ret ?_
    cases h
    exact Fin.cell X rfl rfl rfl rfl rfl
theorem en33 : Enters Tryz.prog 33 := ⟨_, Tryz.func33, rfl, rfl⟩
set_option maxHeartbeats 1000000 in
theorem k_triviumref02_Clean {p0 : (List Int)} {p1 : Int} {y : (List Int)} (h : m_triviumref02_Clean p0 p1 = some y) : Spec Tryz.prog 33 [(.v (.sl (.int .u64)) p0), (.v (.int .i64) p1)] (.v (.sl (.int .u64)) y) [] := by
  rw [m_triviumref02_Clean] at h
  refine enterN [(.v (.sl (.int .u64)) p0), (.v (.int .i64) p1)] 45 Tryz.func33 rfl rfl rfl ?_
  refine T.seq ?_
  refine T.region ?_
  refine Run.go (Ev.assign rfl rfl) ?_
  refine Run.nil ?_
  refine T.seq ?_
  refine T.region ?_
  refine Run.go (Ev.build X 1 rfl rfl rfl rfl rfl rfl rfl rfl) ?_
  refine Run.go (Ev.assign rfl rfl) ?_
  refine Run.nil ?_
  obtain ⟨v1, hv, h⟩ := bdS h
  refine T.cut (fun _ : Unit => (⟨[(5, .own 6)], [(6, .arr 104 (.int .u64) v1)], 45⟩ : St)) (fun _ => True) ?_ (fun _ _ => ?_)
  · replace h := hv
    clear hv
    refine T.seq ?_
    refine T.region ?_
    refine Run.go (Ev.assign rfl rfl) ?_
    refine Run.nil ?_
    refine T.block ?_
    refine T.loop (LoopT.ghost (Ghost.only [(1, 19)] [0, 1, 5, 6] rfl) (LoopT.run (fun q : Int × (List Int) => (⟨[(0, .v (.sl (.int .u64)) p0), (1, .v (.int .i64) p1), (5, .own 19), (6, .v (.int .i64) q.1)], [(19, .arr 104 (.int .u64) q.2)], 45⟩ : St)) (fun q z1 h hz1 => ?_) h))
    obtain ⟨v2, v3⟩ := q
    dsimp only
    rw [m_triviumref02_Clean_l1] at h
    refine T.seq ?_
    obtain ⟨v4, hv, h⟩ := bdS h
    refine T.cut (fun _ : Unit => (⟨[(0, .v (.sl (.int .u64)) p0), (1, .v (.int .i64) p1), (5, .own 19), (6, .v (.int .i64) v2), (16, .v .bool v4)], [(19, .arr 104 (.int .u64) v3)], 45⟩ : St)) (fun _ => True) ?_ (fun _ _ => ?_)
    · replace h := hv
      clear hv
      refine T.region ?_
      refine Run.go (Ev.move rfl rfl) ?_
      refine Run.go (Ev.move rfl rfl) ?_
      refine Run.go (Ev.len X rfl rfl rfl rfl) ?_
      refine Run.go (Ev.int rfl rfl rfl rfl trivial) ?_
      refine Run.go (Ev.move rfl rfl) ?_
      rcases boolCases (decide (v2 < (p0.length : Int))) with hb5 | hb5
      · replace h := ifT hb5 h
        refine Run.on rfl rfl rfl hb5 (Ev.move rfl rfl) ?_
        refine Run.on rfl rfl rfl hb5 (Ev.move rfl rfl) ?_
        refine Run.on rfl rfl rfl hb5 (Ev.int rfl rfl rfl rfl trivial) ?_
        refine Run.go (Ev.pickT rfl hb5 rfl rfl) ?_
        refine Run.nil ?_
        cases h
        exact ⟨(), trivial, Ghost.only [(19, 19)] [0, 1, 5, 6, 16] rfl⟩
      · replace h := ifF hb5 h
        refine Run.offT rfl rfl rfl rfl hb5 ?_
        refine Run.offT rfl rfl rfl rfl hb5 ?_
        refine Run.offT rfl rfl rfl rfl hb5 ?_
        refine Run.go (Ev.pickF rfl hb5 rfl rfl) ?_
        refine Run.nil ?_
        cases h
        exact ⟨(), trivial, Ghost.only [(19, 19)] [0, 1, 5, 6, 16] rfl⟩
    · refine T.cond rfl (fun hb6 => ?_) (fun hb6 => ?_)
      · replace h := ifT hb6 h
        refine T.skip ?_
        refine T.seq ?_
        refine T.block ?_
        refine T.region ?_
        refine Run.go (Ev.move rfl rfl) ?_
        refine Run.go (Ev.move rfl rfl) ?_
        refine Run.go (Ev.move rfl rfl) ?_
        obtain ⟨x7, e8, h⟩ := bdS h
        refine Run.go (Ev.e_rd X e8 rfl rfl rfl rfl) ?_
        refine Run.go (Ev.load X rfl rfl rfl) ?_
        obtain ⟨x9, e10, h⟩ := bdS h
        refine Run.go (Ev.e_rm e10 rfl rfl rfl) ?_
        refine Run.go (Ev.build X 25 rfl rfl rfl rfl rfl rfl rfl rfl) ?_
        obtain ⟨x11, e12, h⟩ := bdS h
        refine Run.go (Ev.e_ap X 26 e12 rfl rfl rfl (.own rfl) rfl rfl rfl rfl rfl) ?_
        refine Run.go (Ev.assign rfl rfl) ?_
        refine Run.nil ?_
        refine T.region ?_
        refine Run.go (Ev.move rfl rfl) ?_
        refine Run.go (Ev.int rfl rfl rfl rfl trivial) ?_
        refine Run.go (Ev.assign rfl rfl) ?_
        refine Run.nil ?_
        cases h
        exact LoopT.ghost (Ghost.only [(26, 19)] [0, 1, 5, 6] rfl) hz1
      · replace h := ifF hb6 h
        refine T.exit ?_
        cases h
        cases hz1
        exact ⟨(), trivial, Ghost.only [(19, 6)] [5] rfl⟩
  · obtain ⟨v13, hv, h⟩ := bdS h
    refine T.cut (fun _ : Unit => (⟨[(5, .v (.sl (.int .u64)) v13)], [], 45⟩ : St)) (fun _ => True) ?_ (fun _ _ => ?_)
    · replace h := hv
      clear hv
      refine T.block ?_
      refine T.loop (LoopT.ghost (Ghost.trans (Ghost.firmAll (id := 6) rfl) (Ghost.only [] [5] rfl)) (LoopT.run (fun q : (List Int) => (⟨[(5, .v (.sl (.int .u64)) q)], [], 45⟩ : St)) (fun v14 z1 h hz1 => ?_) h))
      rw [m_triviumref02_Clean_l2] at h
      refine T.seq ?_
      obtain ⟨v15, hv, h⟩ := bdS h
      refine T.cut (fun _ : Unit => (⟨[(5, .v (.sl (.int .u64)) v14), (38, .v .bool v15)], [], 45⟩ : St)) (fun _ => True) ?_ (fun _ _ => ?_)
      · replace h := hv
        clear hv
        refine T.region ?_
        refine Run.go (Ev.move rfl rfl) ?_
        refine Run.go (Ev.len X rfl rfl rfl rfl) ?_
        refine Run.go (Ev.int rfl rfl rfl rfl trivial) ?_
        refine Run.go (Ev.move rfl rfl) ?_
        rcases boolCases (decide (0 < (v14.length : Int))) with hb16 | hb16
        · replace h := ifT hb16 h
          refine Run.on rfl rfl rfl hb16 (Ev.move rfl rfl) ?_
          refine Run.on rfl rfl rfl hb16 (Ev.move rfl rfl) ?_
          refine Run.on rfl rfl rfl hb16 (Ev.len X rfl rfl rfl rfl) ?_
          refine Run.on rfl rfl rfl hb16 (Ev.int rfl rfl rfl rfl trivial) ?_
          obtain ⟨x17, e18, h⟩ := bdS h
          refine Run.on rfl rfl rfl hb16 (Ev.e_rd X e18 rfl rfl rfl rfl) ?_
          refine Run.on rfl rfl rfl hb16 (Ev.load X rfl rfl rfl) ?_
          refine Run.on rfl rfl rfl hb16 (Ev.int rfl rfl rfl rfl trivial) ?_
          refine Run.go (Ev.pickT rfl hb16 rfl rfl) ?_
          refine Run.nil ?_
          cases h
          exact ⟨(), trivial, Ghost.only [] [5, 38] rfl⟩
        · replace h := ifF hb16 h
          refine Run.offT rfl rfl rfl rfl hb16 ?_
          refine Run.offT rfl rfl rfl rfl hb16 ?_
          refine Run.offT rfl rfl rfl rfl hb16 ?_
          refine Run.offT rfl rfl rfl rfl hb16 ?_
          refine Run.offT rfl rfl rfl rfl hb16 ?_
          refine Run.offT rfl rfl rfl rfl hb16 ?_
          refine Run.offT rfl rfl rfl rfl hb16 ?_
          refine Run.go (Ev.pickF rfl hb16 rfl rfl) ?_
          refine Run.nil ?_
          cases h
          exact ⟨(), trivial, Ghost.only [] [5, 38] rfl⟩
      · refine T.cond rfl (fun hb19 => ?_) (fun hb19 => ?_)
        · replace h := ifT hb19 h
          refine T.skip ?_
          refine T.block ?_
          refine T.region ?_
          refine Run.go (Ev.move rfl rfl) ?_
          refine Run.go (Ev.move rfl rfl) ?_
          refine Run.go (Ev.len X rfl rfl rfl rfl) ?_
          refine Run.go (Ev.int rfl rfl rfl rfl trivial) ?_
          obtain ⟨x20, e21, h⟩ := bdS h
          refine Run.go (Ev.e_ct X e21 rfl rfl rfl (fun _ h => by cases h) (fun _ => rfl) (fun _ _ => cutAt_of rfl) (fun h => by cases h)) ?_
          refine Run.go (Ev.assign rfl rfl) ?_
          refine Run.nil ?_
          cases h
          exact LoopT.ghost (Ghost.only [] [5] rfl) hz1
        · replace h := ifF hb19 h
          refine T.exit ?_
          cases h
          cases hz1
          exact ⟨(), trivial, Ghost.only [] [5] rfl⟩
    · refine T.seq ?_
      refine T.region ?_
      refine Run.go (Ev.move rfl rfl) ?_
      refine Run.go (Ev.assign rfl rfl) ?_
      refine Run.nil ?_
      refine T.ret ?_
      cases h
      exact Fin.one rfl .v
theorem en37 : Enters Tryz.prog 37 := ⟨_, Tryz.func37, rfl, rfl⟩
theorem k_triviumref07_Clean {p0 : D_api_Int} {p1 : Int} {y : D_api_Int} (h : m_triviumref07_Clean p0 p1 = some y) : Spec Tryz.prog 37 [(.v Y_api_Int p0), (.v (.int .i64) p1)] (.v Y_api_Int y) [] := by
  rw [m_triviumref07_Clean] at h
  refine enterN [(.v Y_api_Int p0), (.v (.int .i64) p1)] 19 Tryz.func37 rfl rfl rfl ?_
  refine T.seq ?_
  refine T.region ?_
  refine Run.go (Ev.box 1 rfl rfl rfl rfl) ?_
  refine Run.go (Ev.allocN X 2 rfl rfl rfl) ?_
  refine Run.nil ?_
  refine T.seq ?_
  refine T.region ?_
  refine Run.go (Ev.fieldBox X rfl rfl rfl rfl rfl) ?_
  refine Run.go (Ev.loadCell X rfl rfl rfl rfl rfl rfl) ?_
  refine Run.go (Ev.move rfl rfl) ?_
  obtain ⟨x1, e2, h⟩ := bdS h
  refine Run.go (Ev.callC en33 (k_triviumref02_Clean e2) rfl (.cons .v (.cons .v .nil)) rfl rfl) ?_
  refine Run.go (Ev.assign rfl rfl) ?_
  refine Run.nil ?_
  refine T.seq ?_
  refine T.region ?_
  refine Run.go (Ev.fieldBox X rfl rfl rfl rfl rfl) ?_
  refine Run.go (Ev.loadCell X rfl rfl rfl rfl rfl rfl) ?_
  refine Run.go (Ev.move rfl rfl) ?_
  rcases boolCases p0.1 with hb3 | hb3
  · replace h := ifT hb3 h
    refine Run.on rfl rfl rfl hb3 (Ev.move rfl rfl) ?_
    refine Run.on rfl rfl rfl hb3 (Ev.len X rfl rfl rfl rfl) ?_
    refine Run.on rfl rfl rfl hb3 (Ev.int rfl rfl rfl rfl trivial) ?_
    refine Run.go (Ev.pickT rfl hb3 rfl rfl) ?_
    refine Run.go (Ev.move rfl rfl) ?_
    refine Run.go (Ev.struct X pl30 rfl rfl rfl rfl rfl rfl rfl rfl) ?_
    refine Run.do_ (Ev.storeBox X rfl rfl rfl rfl rfl rfl rfl) ?_
    refine Run.nil ?_
    refine T.ret ?_
    cases h
    exact Fin.cell X rfl rfl rfl rfl rfl
  · replace h := ifF hb3 h
    refine Run.offT rfl rfl rfl rfl hb3 ?_
    refine Run.offT rfl rfl rfl rfl hb3 ?_
    refine Run.offT rfl rfl rfl rfl hb3 ?_
    refine Run.go (Ev.pickF rfl hb3 rfl rfl) ?_
    refine Run.go (Ev.move rfl rfl) ?_
    refine Run.go (Ev.struct X pl30 rfl rfl rfl rfl rfl rfl rfl rfl) ?_
    refine Run.do_ (Ev.storeBox X rfl rfl rfl rfl rfl rfl rfl) ?_
    refine Run.nil ?_
    refine T.ret ?_
    cases h
    exact Fin.cell X rfl rfl rfl rfl rfl
theorem en84 : Enters Tryz.prog 84 := ⟨_, Tryz.func84, rfl, rfl⟩
theorem k_triviumref02_Trim {p0 : (List Int)} {y : (List Int)} (h : m_triviumref02_Trim p0 = some y) : Spec Tryz.prog 84 [(.v (.sl (.int .i64)) p0)] (.v (.sl (.int .i64)) y) [] := by
  rw [m_triviumref02_Trim] at h
  refine enterN [(.v (.sl (.int .i64)) p0)] 23 Tryz.func84 rfl rfl rfl ?_
  refine T.seq ?_
  refine T.region ?_
  refine Run.go (Ev.assign rfl rfl) ?_
  refine Run.nil ?_
  refine T.seq ?_
  refine T.region ?_
  refine Run.go (Ev.move rfl rfl) ?_
  refine Run.go (Ev.len X rfl rfl rfl rfl) ?_
  refine Run.go (Ev.assign rfl rfl) ?_
  refine Run.nil ?_
  obtain ⟨v1, hv, h⟩ := bdS h
  refine T.cut (fun _ : Unit => (⟨[(0, .v (.sl (.int .i64)) p0), (3, .v (.int .i64) v1)], [], 23⟩ : St)) (fun _ => True) ?_ (fun _ _ => ?_)
  · replace h := hv
    clear hv
    refine T.block ?_
    refine T.loop (LoopT.ghost (Ghost.only [] [0, 3] rfl) (LoopT.run (fun q : Int => (⟨[(0, .v (.sl (.int .i64)) p0), (3, .v (.int .i64) q)], [], 23⟩ : St)) (fun v2 z1 h hz1 => ?_) h))
    rw [m_triviumref02_Trim_l1] at h
    refine T.seq ?_
    obtain ⟨v3, hv, h⟩ := bdS h
    refine T.cut (fun _ : Unit => (⟨[(0, .v (.sl (.int .i64)) p0), (3, .v (.int .i64) v2), (15, .v .bool v3)], [], 23⟩ : St)) (fun _ => True) ?_ (fun _ _ => ?_)
    · replace h := hv
      clear hv
      refine T.region ?_
      refine Run.go (Ev.move rfl rfl) ?_
      refine Run.go (Ev.int rfl rfl rfl rfl trivial) ?_
      refine Run.go (Ev.move rfl rfl) ?_
      rcases boolCases (decide (0 < v2)) with hb4 | hb4
      · replace h := ifT hb4 h
        refine Run.on rfl rfl rfl hb4 (Ev.move rfl rfl) ?_
        refine Run.on rfl rfl rfl hb4 (Ev.move rfl rfl) ?_
        refine Run.on rfl rfl rfl hb4 (Ev.int rfl rfl rfl rfl trivial) ?_
        obtain ⟨x5, e6, h⟩ := bdS h
        refine Run.on rfl rfl rfl hb4 (Ev.e_rd X e6 rfl rfl rfl rfl) ?_
        refine Run.on rfl rfl rfl hb4 (Ev.load X rfl rfl rfl) ?_
        refine Run.on rfl rfl rfl hb4 (Ev.int rfl rfl rfl rfl trivial) ?_
        refine Run.go (Ev.pickT rfl hb4 rfl rfl) ?_
        refine Run.nil ?_
        cases h
        exact ⟨(), trivial, Ghost.only [] [0, 3, 15] rfl⟩
      · replace h := ifF hb4 h
        refine Run.offT rfl rfl rfl rfl hb4 ?_
        refine Run.offT rfl rfl rfl rfl hb4 ?_
        refine Run.offT rfl rfl rfl rfl hb4 ?_
        refine Run.offT rfl rfl rfl rfl hb4 ?_
        refine Run.offT rfl rfl rfl rfl hb4 ?_
        refine Run.offT rfl rfl rfl rfl hb4 ?_
        refine Run.go (Ev.pickF rfl hb4 rfl rfl) ?_
        refine Run.nil ?_
        cases h
        exact ⟨(), trivial, Ghost.only [] [0, 3, 15] rfl⟩
    · refine T.cond rfl (fun hb7 => ?_) (fun hb7 => ?_)
      · replace h := ifT hb7 h
        refine T.skip ?_
        refine T.block ?_
        refine T.region ?_
        refine Run.go (Ev.move rfl rfl) ?_
        refine Run.go (Ev.int rfl rfl rfl rfl trivial) ?_
        refine Run.go (Ev.assign rfl rfl) ?_
        refine Run.nil ?_
        cases h
        exact LoopT.ghost (Ghost.only [] [0, 3] rfl) hz1
      · replace h := ifF hb7 h
        refine T.exit ?_
        cases h
        cases hz1
        exact ⟨(), trivial, Ghost.only [] [0, 3] rfl⟩
  · refine T.seq ?_
    refine T.region ?_
    refine Run.go (Ev.build X 1 rfl rfl rfl rfl rfl rfl rfl rfl) ?_
    refine Run.go (Ev.move rfl rfl) ?_
    refine Run.go (Ev.move rfl rfl) ?_
    obtain ⟨x8, e9, h⟩ := bdS h
    refine Run.go (Ev.e_ct X e9 rfl rfl rfl (fun _ h => by cases h) (fun _ => rfl) (fun _ _ => cutAt_of rfl) (fun h => by cases h)) ?_
    obtain ⟨x10, e11, h⟩ := bdS h
    refine Run.go (Ev.e_ap X 2 e11 rfl rfl rfl .v rfl rfl rfl rfl rfl) ?_
    refine Run.go (Ev.assign rfl rfl) ?_
    refine Run.nil ?_
    refine T.ret ?_
    cases h
    exact Fin.one rfl (.own rfl)
theorem en64 : Enters Tryz.prog 64 := ⟨_, Tryz.func64, rfl, rfl⟩
set_option maxHeartbeats 1000000 in
theorem k_triviumref02_MulAdd {p0 : (List Int)} {p1 : Int} {p2 : Int} {y : (List Int)} (h : m_triviumref02_MulAdd p0 p1 p2 = some y) : Spec Tryz.prog 64 [(.v (.sl (.int .i64)) p0), (.v (.int .i64) p1), (.v (.int .i64) p2)] (.v (.sl (.int .i64)) y) [] := by
  rw [m_triviumref02_MulAdd] at h
  refine enterN [(.v (.sl (.int .i64)) p0), (.v (.int .i64) p1), (.v (.int .i64) p2)] 42 Tryz.func64 rfl rfl rfl ?_
  refine T.seq ?_
  refine T.region ?_
  refine Run.go (Ev.assign rfl rfl) ?_
  refine Run.nil ?_
  refine T.seq ?_
  refine T.region ?_
  refine Run.go (Ev.build X 1 rfl rfl rfl rfl rfl rfl rfl rfl) ?_
  refine Run.go (Ev.assign rfl rfl) ?_
  refine Run.nil ?_
  obtain ⟨⟨v1, v2⟩, hv, h⟩ := bdS h
  refine T.cut (fun _ : Unit => (⟨[(2, .v (.int .i64) v1), (7, .own 5)], [(5, .arr 3 (.int .i64) v2)], 42⟩ : St)) (fun _ => True) ?_ (fun _ _ => ?_)
  · replace h := hv
    clear hv
    refine T.seq ?_
    refine T.region ?_
    refine Run.go (Ev.assign rfl rfl) ?_
    refine Run.nil ?_
    refine T.block ?_
    refine T.loop (LoopT.ghost (Ghost.only [(1, 15)] [0, 1, 2, 7, 8] rfl) (LoopT.run (fun q : Int × Int × (List Int) => (⟨[(0, .v (.sl (.int .i64)) p0), (1, .v (.int .i64) p1), (2, .v (.int .i64) q.1), (7, .own 15), (8, .v (.int .i64) q.2.1)], [(15, .arr 3 (.int .i64) q.2.2)], 42⟩ : St)) (fun q z1 h hz1 => ?_) h))
    obtain ⟨v3, v4, v5⟩ := q
    dsimp only
    rw [m_triviumref02_MulAdd_l1] at h
    refine T.seq ?_
    refine T.seq ?_
    refine T.region ?_
    refine Run.go (Ev.move rfl rfl) ?_
    refine Run.go (Ev.move rfl rfl) ?_
    refine Run.go (Ev.len X rfl rfl rfl rfl) ?_
    refine Run.go (Ev.int rfl rfl rfl rfl trivial) ?_
    refine Run.nil ?_
    refine T.cond rfl (fun hb6 => ?_) (fun hb6 => ?_)
    · replace h := ifT hb6 h
      refine T.skip ?_
      refine T.seq ?_
      refine T.block ?_
      refine T.seq ?_
      refine T.region ?_
      refine Run.go (Ev.move rfl rfl) ?_
      refine Run.go (Ev.move rfl rfl) ?_
      refine Run.go (Ev.move rfl rfl) ?_
      obtain ⟨x7, e8, h⟩ := bdS h
      refine Run.go (Ev.e_rd X e8 rfl rfl rfl rfl) ?_
      refine Run.go (Ev.load X rfl rfl rfl) ?_
      refine Run.go (Ev.move rfl rfl) ?_
      refine Run.go (Ev.int rfl rfl rfl rfl trivial) ?_
      refine Run.go (Ev.int rfl rfl rfl rfl trivial) ?_
      refine Run.go (Ev.assign rfl rfl) ?_
      refine Run.nil ?_
      refine T.seq ?_
      refine T.region ?_
      refine Run.go (Ev.move rfl rfl) ?_
      refine Run.go (Ev.move rfl rfl) ?_
      obtain ⟨x9, e10, h⟩ := bdS h
      refine Run.go (Ev.e_rm e10 rfl rfl rfl) ?_
      refine Run.go (Ev.build X 19 rfl rfl rfl rfl rfl rfl rfl rfl) ?_
      obtain ⟨x11, e12, h⟩ := bdS h
      refine Run.go (Ev.e_ap X 20 e12 rfl rfl rfl (.own rfl) rfl rfl rfl rfl rfl) ?_
      refine Run.go (Ev.assign rfl rfl) ?_
      refine Run.nil ?_
      refine T.region ?_
      refine Run.go (Ev.move rfl rfl) ?_
      obtain ⟨x13, e14, h⟩ := bdS h
      refine Run.go (Ev.e_qd e14 rfl rfl rfl) ?_
      refine Run.go (Ev.assign rfl rfl) ?_
      refine Run.nil ?_
      refine T.region ?_
      refine Run.go (Ev.move rfl rfl) ?_
      refine Run.go (Ev.int rfl rfl rfl rfl trivial) ?_
      refine Run.go (Ev.assign rfl rfl) ?_
      refine Run.nil ?_
      cases h
      exact LoopT.ghost (Ghost.only [(20, 15)] [0, 1, 2, 7, 8] rfl) hz1
    · replace h := ifF hb6 h
      refine T.exit ?_
      cases h
      cases hz1
      exact ⟨(), trivial, Ghost.only [(15, 5)] [2, 7] rfl⟩
  · obtain ⟨v15, hv, h⟩ := bdS h
    refine T.cut (fun _ : Unit => (⟨[(7, .own 24)], [(24, .arr 3 (.int .i64) v15)], 42⟩ : St)) (fun _ => True) ?_ (fun _ _ => ?_)
    · replace h := hv
      clear hv
      refine T.block ?_
      refine T.loop (LoopT.ghost (Ghost.only [(5, 34)] [2, 7] rfl) (LoopT.run (fun q : Int × (List Int) => (⟨[(2, .v (.int .i64) q.1), (7, .own 34)], [(34, .arr 3 (.int .i64) q.2)], 42⟩ : St)) (fun q z1 h hz1 => ?_) h))
      obtain ⟨v16, v17⟩ := q
      dsimp only
      rw [m_triviumref02_MulAdd_l2] at h
      refine T.seq ?_
      refine T.seq ?_
      refine T.region ?_
      refine Run.go (Ev.move rfl rfl) ?_
      refine Run.go (Ev.int rfl rfl rfl rfl trivial) ?_
      refine Run.nil ?_
      refine T.cond rfl (fun hb18 => ?_) (fun hb18 => ?_)
      · replace h := ifT hb18 h
        refine T.skip ?_
        refine T.block ?_
        refine T.seq ?_
        refine T.region ?_
        refine Run.go (Ev.move rfl rfl) ?_
        refine Run.go (Ev.move rfl rfl) ?_
        obtain ⟨x19, e20, h⟩ := bdS h
        refine Run.go (Ev.e_rm e20 rfl rfl rfl) ?_
        refine Run.go (Ev.build X 38 rfl rfl rfl rfl rfl rfl rfl rfl) ?_
        obtain ⟨x21, e22, h⟩ := bdS h
        refine Run.go (Ev.e_ap X 39 e22 rfl rfl rfl (.own rfl) rfl rfl rfl rfl rfl) ?_
        refine Run.go (Ev.assign rfl rfl) ?_
        refine Run.nil ?_
        refine T.region ?_
        refine Run.go (Ev.move rfl rfl) ?_
        obtain ⟨x23, e24, h⟩ := bdS h
        refine Run.go (Ev.e_qd e24 rfl rfl rfl) ?_
        refine Run.go (Ev.assign rfl rfl) ?_
        refine Run.nil ?_
        cases h
        exact LoopT.ghost (Ghost.only [(39, 34)] [2, 7] rfl) hz1
      · replace h := ifF hb18 h
        refine T.exit ?_
        cases h
        cases hz1
        exact ⟨(), trivial, Ghost.only [(34, 24)] [7] rfl⟩
    · refine T.seq ?_
      refine T.region ?_
      refine Run.go (Ev.move rfl rfl) ?_
      refine Run.ghost (Ghost.firmAll (id := 24) rfl) ?_
      obtain ⟨x25, e26, h⟩ := bdS h
      refine Run.go (Ev.callC en84 (k_triviumref02_Trim e26) rfl (.cons .v .nil) rfl rfl) ?_
      refine Run.go (Ev.assign rfl rfl) ?_
      refine Run.nil ?_
      refine T.ret ?_
      cases h
      exact Fin.one rfl .v
theorem en38 : Enters Tryz.prog 38 := ⟨_, Tryz.func38, rfl, rfl⟩
theorem k_triviumref02_Of {p0 : (List Int)} {y : (List Int)} (h : m_triviumref02_Of p0 = some y) : Spec Tryz.prog 38 [(.v (.sl (.int .u64)) p0)] (.v (.sl (.int .i64)) y) [] := by
  rw [m_triviumref02_Of] at h
  refine enterN [(.v (.sl (.int .u64)) p0)] 22 Tryz.func38 rfl rfl rfl ?_
  refine T.seq ?_
  refine T.region ?_
  refine Run.go (Ev.assign rfl rfl) ?_
  refine Run.nil ?_
  refine T.seq ?_
  refine T.region ?_
  refine Run.go (Ev.build X 1 rfl rfl rfl rfl rfl rfl rfl rfl) ?_
  refine Run.go (Ev.assign rfl rfl) ?_
  refine Run.nil ?_
  obtain ⟨v1, hv, h⟩ := bdS h
  refine T.cut (fun _ : Unit => (⟨[(3, .v (.sl (.int .i64)) v1)], [], 22⟩ : St)) (fun _ => True) ?_ (fun _ _ => ?_)
  · replace h := hv
    clear hv
    refine T.seq ?_
    refine T.region ?_
    refine Run.go (Ev.move rfl rfl) ?_
    refine Run.go (Ev.len X rfl rfl rfl rfl) ?_
    refine Run.go (Ev.int rfl rfl rfl rfl trivial) ?_
    refine Run.go (Ev.assign rfl rfl) ?_
    refine Run.nil ?_
    refine T.block ?_
    refine T.loop (LoopT.ghost (Ghost.trans (Ghost.firmAll (id := 1) rfl) (Ghost.only [] [0, 3, 4] rfl)) (LoopT.run (fun q : (List Int) × Int => (⟨[(0, .v (.sl (.int .u64)) p0), (3, .v (.sl (.int .i64)) q.1), (4, .v (.int .i64) q.2)], [], 22⟩ : St)) (fun q z1 h hz1 => ?_) h))
    obtain ⟨v2, v3⟩ := q
    dsimp only
    rw [m_triviumref02_Of_l1] at h
    refine T.seq ?_
    refine T.seq ?_
    refine T.region ?_
    refine Run.go (Ev.move rfl rfl) ?_
    refine Run.go (Ev.int rfl rfl rfl rfl trivial) ?_
    refine Run.nil ?_
    refine T.cond rfl (fun hb4 => ?_) (fun hb4 => ?_)
    · replace h := ifT hb4 h
      refine T.skip ?_
      refine T.seq ?_
      refine T.block ?_
      refine T.region ?_
      refine Run.go (Ev.move rfl rfl) ?_
      refine Run.go (Ev.move rfl rfl) ?_
      refine Run.go (Ev.move rfl rfl) ?_
      obtain ⟨x5, e6, h⟩ := bdS h
      refine Run.go (Ev.e_rd X e6 rfl rfl rfl rfl) ?_
      refine Run.go (Ev.load X rfl rfl rfl) ?_
      obtain ⟨x7, e8, h⟩ := bdS h
      refine Run.go (Ev.e_rm e8 rfl rfl rfl) ?_
      refine Run.go (Ev.conv X rfl rfl rfl rfl) ?_
      obtain ⟨x9, e10, h⟩ := bdS h
      refine Run.go (Ev.callC en64 (k_triviumref02_MulAdd e10) rfl (.cons .v (.cons .v (.cons .v .nil))) rfl rfl) ?_
      refine Run.go (Ev.assign rfl rfl) ?_
      refine Run.nil ?_
      refine T.region ?_
      refine Run.go (Ev.move rfl rfl) ?_
      refine Run.go (Ev.int rfl rfl rfl rfl trivial) ?_
      refine Run.go (Ev.assign rfl rfl) ?_
      refine Run.nil ?_
      cases h
      exact LoopT.ghost (Ghost.only [] [0, 3, 4] rfl) hz1
    · replace h := ifF hb4 h
      refine T.exit ?_
      cases h
      cases hz1
      exact ⟨(), trivial, Ghost.only [] [3] rfl⟩
  · refine T.seq ?_
    refine T.region ?_
    refine Run.go (Ev.move rfl rfl) ?_
    refine Run.go (Ev.assign rfl rfl) ?_
    refine Run.nil ?_
    refine T.ret ?_
    cases h
    exact Fin.one rfl .v
theorem en63 : Enters Tryz.prog 63 := ⟨_, Tryz.func63, rfl, rfl⟩
theorem k_triviumref07_made {p0 : Bool} {p1 : (List Int)} {y : D_triviumref07_Z} (h : m_triviumref07_made p0 p1 = some y) : Spec Tryz.prog 63 [(.v .bool p0), (.v (.sl (.int .i64)) p1)] (.v Y_triviumref07_Z y) [] := by
  rw [m_triviumref07_made] at h
  refine enterN [(.v .bool p0), (.v (.sl (.int .i64)) p1)] 13 Tryz.func63 rfl rfl rfl ?_
  refine T.seq ?_
  refine T.region ?_
  refine Run.go (Ev.allocN X 1 rfl rfl rfl) ?_
  refine Run.nil ?_
  refine T.seq ?_
  refine T.region ?_
  refine Run.go (Ev.move rfl rfl) ?_
  refine Run.go (Ev.move rfl rfl) ?_
  rcases boolCases p0 with hb1 | hb1
  · replace h := ifT hb1 h
    refine Run.on rfl rfl rfl hb1 (Ev.move rfl rfl) ?_
    refine Run.on rfl rfl rfl hb1 (Ev.len X rfl rfl rfl rfl) ?_
    refine Run.on rfl rfl rfl hb1 (Ev.int rfl rfl rfl rfl trivial) ?_
    refine Run.go (Ev.pickT rfl hb1 rfl rfl) ?_
    refine Run.go (Ev.move rfl rfl) ?_
    refine Run.go (Ev.struct X pl49 rfl rfl rfl rfl rfl rfl rfl rfl) ?_
    refine Run.do_ (Ev.storeBox X rfl rfl rfl rfl rfl rfl rfl) ?_
    refine Run.nil ?_
    refine T.ret ?_
    cases h
    exact Fin.cell X rfl rfl rfl rfl rfl
  · replace h := ifF hb1 h
    refine Run.offT rfl rfl rfl rfl hb1 ?_
    refine Run.offT rfl rfl rfl rfl hb1 ?_
    refine Run.offT rfl rfl rfl rfl hb1 ?_
    refine Run.go (Ev.pickF rfl hb1 rfl rfl) ?_
    refine Run.go (Ev.move rfl rfl) ?_
    refine Run.go (Ev.struct X pl49 rfl rfl rfl rfl rfl rfl rfl rfl) ?_
    refine Run.do_ (Ev.storeBox X rfl rfl rfl rfl rfl rfl rfl) ?_
    refine Run.nil ?_
    refine T.ret ?_
    cases h
    exact Fin.cell X rfl rfl rfl rfl rfl
theorem en36 : Enters Tryz.prog 36 := ⟨_, Tryz.func36, rfl, rfl⟩
theorem k_triviumref07_Of {p0 : D_api_Int} {y : D_triviumref07_Z} (h : m_triviumref07_Of p0 = some y) : Spec Tryz.prog 36 [(.v Y_api_Int p0)] (.v Y_triviumref07_Z y) [] := by
  rw [m_triviumref07_Of] at h
  refine enterN [(.v Y_api_Int p0)] 9 Tryz.func36 rfl rfl rfl ?_
  refine T.seq ?_
  refine T.region ?_
  refine Run.go (Ev.box 1 rfl rfl rfl rfl) ?_
  refine Run.go (Ev.allocN X 2 rfl rfl rfl) ?_
  refine Run.nil ?_
  refine T.seq ?_
  refine T.drawM [6] [0, 1, 0, 4, 12, 31, 63] (by kernel_rfl) (by kernel_rfl) ?_
  refine RunD.a rfl rfl (Ev.fieldBox X rfl rfl rfl rfl rfl) ?_
  refine RunD.a rfl rfl (Ev.loadCell X rfl rfl rfl rfl rfl rfl) ?_
  refine RunD.a rfl rfl (Ev.fieldBox X rfl rfl rfl rfl rfl) ?_
  refine RunD.a rfl rfl (Ev.loadCell X rfl rfl rfl rfl rfl rfl) ?_
  obtain ⟨x1, e2, h⟩ := bdS h
  refine RunD.a rfl rfl (Ev.callC en38 (k_triviumref02_Of e2) rfl (.cons .v .nil) rfl rfl) ?_
  obtain ⟨x3, e4, h⟩ := bdS h
  refine RunD.a rfl rfl (Ev.callC en63 (k_triviumref07_made e4) rfl (.cons .v (.cons .v .nil)) rfl rfl) ?_
  refine RunD.mN rfl (Ev.storeBox X rfl rfl rfl rfl rfl rfl rfl) ?_
  refine RunD.nil ?_
  refine T.ret ?_
  cases h
  exact Fin.cell X rfl rfl rfl rfl rfl
theorem en49 : Enters Tryz.prog 49 := ⟨_, Tryz.func49, rfl, rfl⟩
set_option maxHeartbeats 1000000 in
theorem k_triviumref02_Cmp {p0 : (List Int)} {p1 : (List Int)} {y : Int} (h : m_triviumref02_Cmp p0 p1 = some y) : Spec Tryz.prog 49 [(.v (.sl (.int .i64)) p0), (.v (.sl (.int .i64)) p1)] (.v (.int .i64) y) [] := by
  rw [m_triviumref02_Cmp] at h
  refine enterN [(.v (.sl (.int .i64)) p0), (.v (.sl (.int .i64)) p1)] 41 Tryz.func49 rfl rfl rfl ?_
  refine T.seq ?_
  refine T.region ?_
  refine Run.go (Ev.assign rfl rfl) ?_
  refine Run.nil ?_
  refine T.seq ?_
  refine T.seq ?_
  refine T.region ?_
  refine Run.go (Ev.move rfl rfl) ?_
  refine Run.go (Ev.len X rfl rfl rfl rfl) ?_
  refine Run.go (Ev.move rfl rfl) ?_
  refine Run.go (Ev.len X rfl rfl rfl rfl) ?_
  refine Run.go (Ev.int rfl rfl rfl rfl trivial) ?_
  refine Run.nil ?_
  refine T.cond rfl (fun hb1 => ?_) (fun hb1 => ?_)
  · replace h := ifT hb1 h
    refine T.seq ?_
    refine T.seq ?_
    refine T.region ?_
    refine Run.go (Ev.move rfl rfl) ?_
    refine Run.go (Ev.len X rfl rfl rfl rfl) ?_
    refine Run.go (Ev.move rfl rfl) ?_
    refine Run.go (Ev.len X rfl rfl rfl rfl) ?_
    refine Run.go (Ev.int rfl rfl rfl rfl trivial) ?_
    refine Run.nil ?_
    refine T.cond rfl (fun hb2 => ?_) (fun hb2 => ?_)
    · replace h := ifT hb2 h
      refine T.seq ?_
      refine T.region ?_
      refine Run.go (Ev.assign rfl rfl) ?_
      refine Run.nil ?_
      refine T.ret ?_
      cases h
      exact Fin.one rfl .v
    · replace h := ifF hb2 h
      refine T.skip ?_
      refine T.seq ?_
      refine T.region ?_
      refine Run.go (Ev.assign rfl rfl) ?_
      refine Run.nil ?_
      refine T.ret ?_
      cases h
      exact Fin.one rfl .v
  · replace h := ifF hb1 h
    refine T.skip ?_
    refine T.seq ?_
    refine T.seq ?_
    refine T.region ?_
    refine Run.go (Ev.move rfl rfl) ?_
    refine Run.go (Ev.len X rfl rfl rfl rfl) ?_
    refine Run.go (Ev.int rfl rfl rfl rfl trivial) ?_
    refine Run.go (Ev.assign rfl rfl) ?_
    refine Run.nil ?_
    refine T.block ?_
    refine T.loop (LoopT.ghost (Ghost.only [] [0, 1, 5] rfl) (LoopT.run (fun q : Int => (⟨[(0, .v (.sl (.int .i64)) p0), (1, .v (.sl (.int .i64)) p1), (5, .v (.int .i64) q)], [], 41⟩ : St)) (fun v3 z1 h hz1 => ?_) h))
    rw [m_triviumref02_Cmp_l1] at h
    refine T.seq ?_
    refine T.seq ?_
    refine T.region ?_
    refine Run.go (Ev.move rfl rfl) ?_
    refine Run.go (Ev.int rfl rfl rfl rfl trivial) ?_
    refine Run.nil ?_
    refine T.cond rfl (fun hb4 => ?_) (fun hb4 => ?_)
    · replace h := ifT hb4 h
      refine T.skip ?_
      refine T.seq ?_
      refine T.block ?_
      refine T.seq ?_
      refine T.seq ?_
      refine T.drawM [] [0, 0, 3, 7, 0, 0, 48, 112, 255] (by kernel_rfl) (by kernel_rfl) ?_
      refine RunD.w (fun _ => Ev.move rfl rfl) ?_
      refine RunD.w (fun _ => Ev.move rfl rfl) ?_
      obtain ⟨x5, e6, h⟩ := bdS h
      refine RunD.a rfl rfl (Ev.e_rd X e6 rfl rfl rfl rfl) ?_
      refine RunD.a rfl rfl (Ev.load X rfl rfl rfl) ?_
      refine RunD.w (fun _ => Ev.move rfl rfl) ?_
      refine RunD.w (fun _ => Ev.move rfl rfl) ?_
      obtain ⟨x7, e8, h⟩ := bdS h
      refine RunD.a rfl rfl (Ev.e_rd X e8 rfl rfl rfl rfl) ?_
      refine RunD.a rfl rfl (Ev.load X rfl rfl rfl) ?_
      refine RunD.w (fun _ => Ev.int rfl rfl rfl rfl trivial) ?_
      refine RunD.nil ?_
      refine T.cond rfl (fun hb9 => ?_) (fun hb9 => ?_)
      · replace h := ifT hb9 h
        refine T.seq ?_
        refine T.region ?_
        refine Run.go (Ev.assign rfl rfl) ?_
        refine Run.nil ?_
        refine T.ret ?_
        cases h
        cases hz1
        exact Fin.one rfl .v
      · replace h := ifF hb9 h
        refine T.skip ?_
        refine T.seq ?_
        refine T.drawM [] [0, 0, 3, 7, 0, 0, 48, 112, 255] (by kernel_rfl) (by kernel_rfl) ?_
        refine RunD.w (fun _ => Ev.move rfl rfl) ?_
        refine RunD.w (fun _ => Ev.move rfl rfl) ?_
        obtain ⟨x10, e11, h⟩ := bdS h
        refine RunD.a rfl rfl (Ev.e_rd X e11 rfl rfl rfl rfl) ?_
        refine RunD.a rfl rfl (Ev.load X rfl rfl rfl) ?_
        refine RunD.w (fun _ => Ev.move rfl rfl) ?_
        refine RunD.w (fun _ => Ev.move rfl rfl) ?_
        obtain ⟨x12, e13, h⟩ := bdS h
        refine RunD.a rfl rfl (Ev.e_rd X e13 rfl rfl rfl rfl) ?_
        refine RunD.a rfl rfl (Ev.load X rfl rfl rfl) ?_
        refine RunD.w (fun _ => Ev.int rfl rfl rfl rfl trivial) ?_
        refine RunD.nil ?_
        refine T.cond rfl (fun hb14 => ?_) (fun hb14 => ?_)
        · replace h := ifT hb14 h
          refine T.seq ?_
          refine T.region ?_
          refine Run.go (Ev.assign rfl rfl) ?_
          refine Run.nil ?_
          refine T.ret ?_
          cases h
          cases hz1
          exact Fin.one rfl .v
        · replace h := ifF hb14 h
          refine T.skip ?_
          refine T.region ?_
          refine Run.go (Ev.move rfl rfl) ?_
          refine Run.go (Ev.int rfl rfl rfl rfl trivial) ?_
          refine Run.go (Ev.assign rfl rfl) ?_
          refine Run.nil ?_
          cases h
          exact LoopT.ghost (Ghost.only [] [0, 1, 5] rfl) hz1
    · replace h := ifF hb4 h
      refine T.exit ?_
      refine T.seq ?_
      refine T.region ?_
      refine Run.go (Ev.assign rfl rfl) ?_
      refine Run.nil ?_
      refine T.ret ?_
      cases h
      cases hz1
      exact Fin.one rfl .v
theorem en85 : Enters Tryz.prog 85 := ⟨_, Tryz.func85, rfl, rfl⟩
set_option maxHeartbeats 1000000 in
theorem k_triviumref02_Sub {p0 : (List Int)} {p1 : (List Int)} {y : (List Int)} (h : m_triviumref02_Sub p0 p1 = some y) : Spec Tryz.prog 85 [(.v (.sl (.int .i64)) p0), (.v (.sl (.int .i64)) p1)] (.v (.sl (.int .i64)) y) [] := by
  rw [m_triviumref02_Sub] at h
  refine enterN [(.v (.sl (.int .i64)) p0), (.v (.sl (.int .i64)) p1)] 42 Tryz.func85 rfl rfl rfl ?_
  refine T.seq ?_
  refine T.region ?_
  refine Run.go (Ev.assign rfl rfl) ?_
  refine Run.nil ?_
  refine T.seq ?_
  refine T.region ?_
  refine Run.go (Ev.build X 1 rfl rfl rfl rfl rfl rfl rfl rfl) ?_
  refine Run.go (Ev.assign rfl rfl) ?_
  refine Run.go (Ev.assign rfl rfl) ?_
  refine Run.nil ?_
  obtain ⟨v1, hv, h⟩ := bdS h
  refine T.cut (fun _ : Unit => (⟨[(5, .own 7)], [(7, .arr 3 (.int .i64) v1)], 42⟩ : St)) (fun _ => True) ?_ (fun _ _ => ?_)
  · replace h := hv
    clear hv
    refine T.seq ?_
    refine T.region ?_
    refine Run.go (Ev.assign rfl rfl) ?_
    refine Run.nil ?_
    refine T.block ?_
    refine T.loop (LoopT.ghost (Ghost.only [(1, 23)] [0, 1, 5, 6, 7] rfl) (LoopT.run (fun q : Int × Int × (List Int) => (⟨[(0, .v (.sl (.int .i64)) p0), (1, .v (.sl (.int .i64)) p1), (5, .own 23), (6, .v (.int .i64) q.1), (7, .v (.int .i64) q.2.1)], [(23, .arr 3 (.int .i64) q.2.2)], 42⟩ : St)) (fun q z1 h hz1 => ?_) h))
    obtain ⟨v2, v3, v4⟩ := q
    dsimp only
    rw [m_triviumref02_Sub_l1] at h
    refine T.seq ?_
    refine T.seq ?_
    refine T.region ?_
    refine Run.go (Ev.move rfl rfl) ?_
    refine Run.go (Ev.move rfl rfl) ?_
    refine Run.go (Ev.len X rfl rfl rfl rfl) ?_
    refine Run.go (Ev.int rfl rfl rfl rfl trivial) ?_
    refine Run.nil ?_
    refine T.cond rfl (fun hb5 => ?_) (fun hb5 => ?_)
    · replace h := ifT hb5 h
      refine T.skip ?_
      refine T.seq ?_
      refine T.block ?_
      refine T.seq ?_
      refine T.region ?_
      refine Run.go (Ev.move rfl rfl) ?_
      refine Run.go (Ev.move rfl rfl) ?_
      obtain ⟨x6, e7, h⟩ := bdS h
      refine Run.go (Ev.e_rd X e7 rfl rfl rfl rfl) ?_
      refine Run.go (Ev.load X rfl rfl rfl) ?_
      refine Run.go (Ev.move rfl rfl) ?_
      refine Run.go (Ev.int rfl rfl rfl rfl trivial) ?_
      refine Run.go (Ev.assign rfl rfl) ?_
      refine Run.nil ?_
      obtain ⟨v8, hv, h⟩ := bdS h
      refine T.cut (fun _ : Unit => (⟨[(0, .v (.sl (.int .i64)) p0), (1, .v (.sl (.int .i64)) p1), (5, .own 23), (7, .v (.int .i64) v3), (8, .v (.int .i64) v8)], [(23, .arr 3 (.int .i64) v4)], 42⟩ : St)) (fun _ => True) ?_ (fun _ _ => ?_)
      · replace h := hv
        clear hv
        refine T.seq ?_
        refine T.region ?_
        refine Run.go (Ev.move rfl rfl) ?_
        refine Run.go (Ev.move rfl rfl) ?_
        refine Run.go (Ev.len X rfl rfl rfl rfl) ?_
        refine Run.go (Ev.int rfl rfl rfl rfl trivial) ?_
        refine Run.nil ?_
        refine T.cond rfl (fun hb9 => ?_) (fun hb9 => ?_)
        · replace h := ifT hb9 h
          refine T.region ?_
          refine Run.go (Ev.move rfl rfl) ?_
          refine Run.go (Ev.move rfl rfl) ?_
          refine Run.go (Ev.move rfl rfl) ?_
          obtain ⟨x10, e11, h⟩ := bdS h
          refine Run.go (Ev.e_rd X e11 rfl rfl rfl rfl) ?_
          refine Run.go (Ev.load X rfl rfl rfl) ?_
          refine Run.go (Ev.int rfl rfl rfl rfl trivial) ?_
          refine Run.go (Ev.assign rfl rfl) ?_
          refine Run.nil ?_
          cases h
          exact ⟨(), trivial, Ghost.only [(23, 23)] [0, 1, 5, 7, 8] rfl⟩
        · replace h := ifF hb9 h
          refine T.skip ?_
          cases h
          exact ⟨(), trivial, Ghost.only [(23, 23)] [0, 1, 5, 7, 8] rfl⟩
      · refine T.seq ?_
        refine T.region ?_
        refine Run.go (Ev.assign rfl rfl) ?_
        refine Run.nil ?_
        obtain ⟨⟨v12, v13⟩, hv, h⟩ := bdS h
        refine T.cut (fun _ : Unit => (⟨[(0, .v (.sl (.int .i64)) p0), (1, .v (.sl (.int .i64)) p1), (5, .own 23), (6, .v (.int .i64) v12), (7, .v (.int .i64) v3), (8, .v (.int .i64) v13)], [(23, .arr 3 (.int .i64) v4)], 42⟩ : St)) (fun _ => True) ?_ (fun _ _ => ?_)
        · replace h := hv
          clear hv
          refine T.seq ?_
          refine T.region ?_
          refine Run.go (Ev.move rfl rfl) ?_
          refine Run.go (Ev.int rfl rfl rfl rfl trivial) ?_
          refine Run.nil ?_
          refine T.cond rfl (fun hb14 => ?_) (fun hb14 => ?_)
          · replace h := ifT hb14 h
            refine T.region ?_
            refine Run.go (Ev.move rfl rfl) ?_
            refine Run.go (Ev.int rfl rfl rfl rfl trivial) ?_
            refine Run.go (Ev.assign rfl rfl) ?_
            refine Run.go (Ev.assign rfl rfl) ?_
            refine Run.nil ?_
            cases h
            exact ⟨(), trivial, Ghost.only [(23, 23)] [0, 1, 5, 6, 7, 8] rfl⟩
          · replace h := ifF hb14 h
            refine T.skip ?_
            cases h
            exact ⟨(), trivial, Ghost.only [(23, 23)] [0, 1, 5, 6, 7, 8] rfl⟩
        · refine T.region ?_
          refine Run.go (Ev.move rfl rfl) ?_
          refine Run.go (Ev.move rfl rfl) ?_
          refine Run.go (Ev.build X 31 rfl rfl rfl rfl rfl rfl rfl rfl) ?_
          obtain ⟨x15, e16, h⟩ := bdS h
          refine Run.go (Ev.e_ap X 32 e16 rfl rfl rfl (.own rfl) rfl rfl rfl rfl rfl) ?_
          refine Run.go (Ev.assign rfl rfl) ?_
          refine Run.nil ?_
          refine T.region ?_
          refine Run.go (Ev.move rfl rfl) ?_
          refine Run.go (Ev.int rfl rfl rfl rfl trivial) ?_
          refine Run.go (Ev.assign rfl rfl) ?_
          refine Run.nil ?_
          cases h
          exact LoopT.ghost (Ghost.only [(32, 23)] [0, 1, 5, 6, 7] rfl) hz1
    · replace h := ifF hb5 h
      refine T.exit ?_
      cases h
      cases hz1
      exact ⟨(), trivial, Ghost.only [(23, 7)] [5] rfl⟩
  · refine T.seq ?_
    refine T.region ?_
    refine Run.go (Ev.move rfl rfl) ?_
    refine Run.ghost (Ghost.firmAll (id := 7) rfl) ?_
    obtain ⟨x17, e18, h⟩ := bdS h
    refine Run.go (Ev.callC en84 (k_triviumref02_Trim e18) rfl (.cons .v .nil) rfl rfl) ?_
    refine Run.go (Ev.assign rfl rfl) ?_
    refine Run.nil ?_
    refine T.ret ?_
    cases h
    exact Fin.one rfl .v
theorem en62 : Enters Tryz.prog 62 := ⟨_, Tryz.func62, rfl, rfl⟩
set_option maxHeartbeats 1000000 in
theorem k_triviumref02_Div {p0 : (List Int)} {p1 : (List Int)} {y : (List Int) × (List Int)} (h : m_triviumref02_Div p0 p1 = some y) : Spec Tryz.prog 62 [(.v (.sl (.int .i64)) p0), (.v (.sl (.int .i64)) p1)] (.tup [.v (.sl (.int .i64)) y.1, .v (.sl (.int .i64)) y.2]) [] := by
  rw [m_triviumref02_Div] at h
  refine enterN [(.v (.sl (.int .i64)) p0), (.v (.sl (.int .i64)) p1)] 59 Tryz.func62 rfl rfl rfl ?_
  refine T.seq ?_
  refine T.region ?_
  refine Run.go (Ev.assign rfl rfl) ?_
  refine Run.go (Ev.assign rfl rfl) ?_
  refine Run.nil ?_
  refine T.seq ?_
  refine T.region ?_
  refine Run.go (Ev.move rfl rfl) ?_
  refine Run.go (Ev.len X rfl rfl rfl rfl) ?_
  obtain ⟨x1, e2, h⟩ := bdS h
  refine Run.go (Ev.e_mk X 1 e2 rfl rfl rfl rfl rfl rfl) ?_
  refine Run.go (Ev.build X 2 rfl rfl rfl rfl rfl rfl rfl rfl) ?_
  refine Run.go (Ev.assign rfl rfl) ?_
  refine Run.go (Ev.assign rfl rfl) ?_
  refine Run.nil ?_
  obtain ⟨⟨v3, v4⟩, hv, h⟩ := bdS h
  refine T.cut (fun _ : Unit => (⟨[(6, .own 1), (7, .v (.sl (.int .i64)) v3)], [(1, .arr 3 (.int .i64) v4)], 59⟩ : St)) (fun _ => True) ?_ (fun _ _ => ?_)
  · replace h := hv
    clear hv
    refine T.seq ?_
    refine T.region ?_
    refine Run.go (Ev.move rfl rfl) ?_
    refine Run.go (Ev.len X rfl rfl rfl rfl) ?_
    refine Run.go (Ev.int rfl rfl rfl rfl trivial) ?_
    refine Run.go (Ev.assign rfl rfl) ?_
    refine Run.nil ?_
    refine T.block ?_
    refine T.loop (LoopT.ghost (Ghost.trans (Ghost.firmAll (id := 2) rfl) (Ghost.only [(1, 1)] [0, 1, 6, 7, 8] rfl)) (LoopT.run (fun q : (List Int) × Int × (List Int) => (⟨[(0, .v (.sl (.int .i64)) p0), (1, .v (.sl (.int .i64)) p1), (6, .own 1), (7, .v (.sl (.int .i64)) q.1), (8, .v (.int .i64) q.2.1)], [(1, .arr 3 (.int .i64) q.2.2)], 59⟩ : St)) (fun q z1 h hz1 => ?_) h))
    obtain ⟨v5, v6, v7⟩ := q
    dsimp only
    rw [m_triviumref02_Div_l1] at h
    refine T.seq ?_
    refine T.seq ?_
    refine T.region ?_
    refine Run.go (Ev.move rfl rfl) ?_
    refine Run.go (Ev.int rfl rfl rfl rfl trivial) ?_
    refine Run.nil ?_
    refine T.cond rfl (fun hb8 => ?_) (fun hb8 => ?_)
    · replace h := ifT hb8 h
      refine T.skip ?_
      obtain ⟨⟨v9, v10⟩, hv, h⟩ := bdS h
      refine T.cut (fun _ : Unit => (⟨[(0, .v (.sl (.int .i64)) p0), (1, .v (.sl (.int .i64)) p1), (6, .own 1), (7, .v (.sl (.int .i64)) v9), (8, .v (.int .i64) v6)], [(1, .arr 3 (.int .i64) v10)], 59⟩ : St)) (fun _ => True) ?_ (fun _ _ => ?_)
      · replace h := hv
        clear hv
        refine T.block ?_
        refine T.seq ?_
        refine T.region ?_
        refine Run.go (Ev.move rfl rfl) ?_
        refine Run.go (Ev.move rfl rfl) ?_
        obtain ⟨x11, e12, h⟩ := bdS h
        refine Run.go (Ev.e_rd X e12 rfl rfl rfl rfl) ?_
        refine Run.go (Ev.load X rfl rfl rfl) ?_
        refine Run.go (Ev.build X 117 rfl rfl rfl rfl rfl rfl rfl rfl) ?_
        refine Run.go (Ev.move rfl rfl) ?_
        obtain ⟨x13, e14, h⟩ := bdS h
        refine Run.go (Ev.e_ap X 118 e14 rfl rfl rfl .v rfl rfl rfl rfl rfl) ?_
        refine Run.ghost (Ghost.firmAll (id := 118) rfl) ?_
        obtain ⟨x15, e16, h⟩ := bdS h
        refine Run.go (Ev.callC en84 (k_triviumref02_Trim e16) rfl (.cons .v .nil) rfl rfl) ?_
        refine Run.go (Ev.assign rfl rfl) ?_
        refine Run.nil ?_
        refine T.seq ?_
        refine T.region ?_
        refine Run.go (Ev.assign rfl rfl) ?_
        refine Run.go (Ev.assign rfl rfl) ?_
        refine Run.nil ?_
        obtain ⟨v17, hv, h⟩ := bdS h
        refine T.cut (fun _ : Unit => (⟨[(0, .v (.sl (.int .i64)) p0), (1, .v (.sl (.int .i64)) p1), (6, .own 1), (7, .v (.sl (.int .i64)) x15), (8, .v (.int .i64) v6), (9, .v (.int .i64) v17)], [(1, .arr 3 (.int .i64) v7)], 59⟩ : St)) (fun _ => True) ?_ (fun _ _ => ?_)
        · replace h := hv
          clear hv
          refine T.block ?_
          refine T.loop (LoopT.ghost (Ghost.only [(1, 1)] [0, 1, 6, 7, 8, 9, 10] rfl) (LoopT.run (fun q : Int × Int => (⟨[(0, .v (.sl (.int .i64)) p0), (1, .v (.sl (.int .i64)) p1), (6, .own 1), (7, .v (.sl (.int .i64)) x15), (8, .v (.int .i64) v6), (9, .v (.int .i64) q.1), (10, .v (.int .i64) q.2)], [(1, .arr 3 (.int .i64) v7)], 59⟩ : St)) (fun q z2 h hz2 => ?_) h))
          obtain ⟨v18, v19⟩ := q
          dsimp only
          rw [m_triviumref02_Div_l2] at h
          refine T.seq ?_
          refine T.seq ?_
          refine T.region ?_
          refine Run.go (Ev.move rfl rfl) ?_
          refine Run.go (Ev.move rfl rfl) ?_
          refine Run.go (Ev.int rfl rfl rfl rfl trivial) ?_
          refine Run.go (Ev.int rfl rfl rfl rfl trivial) ?_
          refine Run.nil ?_
          refine T.cond rfl (fun hb20 => ?_) (fun hb20 => ?_)
          · replace h := ifT hb20 h
            refine T.skip ?_
            refine T.block ?_
            refine T.seq ?_
            refine T.region ?_
            refine Run.go (Ev.move rfl rfl) ?_
            refine Run.go (Ev.move rfl rfl) ?_
            refine Run.go (Ev.int rfl rfl rfl rfl trivial) ?_
            obtain ⟨x21, e22, h⟩ := bdS h
            refine Run.go (Ev.e_qd e22 rfl rfl rfl) ?_
            refine Run.go (Ev.assign rfl rfl) ?_
            refine Run.nil ?_
            refine T.seq ?_
            refine T.region ?_
            refine Run.go (Ev.move rfl rfl) ?_
            refine Run.go (Ev.move rfl rfl) ?_
            obtain ⟨x23, e24, h⟩ := bdS h
            refine Run.go (Ev.callC en64 (k_triviumref02_MulAdd e24) rfl (.cons .v (.cons .v (.cons .v .nil))) rfl rfl) ?_
            refine Run.go (Ev.move rfl rfl) ?_
            obtain ⟨x25, e26, h⟩ := bdS h
            refine Run.go (Ev.callC en49 (k_triviumref02_Cmp e26) rfl (.cons .v (.cons .v .nil)) rfl rfl) ?_
            refine Run.go (Ev.int rfl rfl rfl rfl trivial) ?_
            refine Run.nil ?_
            refine T.cond rfl (fun hb27 => ?_) (fun hb27 => ?_)
            · replace h := ifT hb27 h
              refine T.region ?_
              refine Run.go (Ev.move rfl rfl) ?_
              refine Run.go (Ev.assign rfl rfl) ?_
              refine Run.nil ?_
              cases h
              exact LoopT.ghost (Ghost.only [(1, 1)] [0, 1, 6, 7, 8, 9, 10] rfl) hz2
            · replace h := ifF hb27 h
              refine T.region ?_
              refine Run.go (Ev.move rfl rfl) ?_
              refine Run.go (Ev.assign rfl rfl) ?_
              refine Run.nil ?_
              cases h
              exact LoopT.ghost (Ghost.only [(1, 1)] [0, 1, 6, 7, 8, 9, 10] rfl) hz2
          · replace h := ifF hb20 h
            refine T.exit ?_
            cases h
            cases hz2
            exact ⟨(), trivial, Ghost.only [(1, 1)] [0, 1, 6, 7, 8, 9] rfl⟩
        · refine T.seq ?_
          refine T.region ?_
          refine Run.go (Ev.move rfl rfl) ?_
          refine Run.go (Ev.move rfl rfl) ?_
          refine Run.go (Ev.move rfl rfl) ?_
          obtain ⟨j28, e29, h⟩ := bdS h
          refine Run.go (Ev.e_ixO X e29 rfl rfl rfl rfl rfl) ?_
          obtain ⟨x30, e31, h⟩ := ltS h
          refine Run.do_ (Ev.asO (Ev.storeEl X rfl rfl rfl rfl rfl) e31) ?_
          refine Run.nil ?_
          refine T.region ?_
          refine Run.go (Ev.move rfl rfl) ?_
          refine Run.go (Ev.move rfl rfl) ?_
          refine Run.go (Ev.move rfl rfl) ?_
          obtain ⟨x32, e33, h⟩ := bdS h
          refine Run.go (Ev.callC en64 (k_triviumref02_MulAdd e33) rfl (.cons .v (.cons .v (.cons .v .nil))) rfl rfl) ?_
          obtain ⟨x34, e35, h⟩ := bdS h
          refine Run.go (Ev.callC en85 (k_triviumref02_Sub e35) rfl (.cons .v (.cons .v .nil)) rfl rfl) ?_
          refine Run.go (Ev.assign rfl rfl) ?_
          refine Run.nil ?_
          cases h
          exact ⟨(), trivial, Ghost.only [(1, 1)] [0, 1, 6, 7, 8] rfl⟩
      · refine T.region ?_
        refine Run.go (Ev.move rfl rfl) ?_
        refine Run.go (Ev.int rfl rfl rfl rfl trivial) ?_
        refine Run.go (Ev.assign rfl rfl) ?_
        refine Run.nil ?_
        cases h
        exact LoopT.ghost (Ghost.only [(1, 1)] [0, 1, 6, 7, 8] rfl) hz1
    · replace h := ifF hb8 h
      refine T.exit ?_
      cases h
      cases hz1
      exact ⟨(), trivial, Ghost.only [(1, 1)] [6, 7] rfl⟩
  · refine T.seq ?_
    refine T.region ?_
    refine Run.go (Ev.move rfl rfl) ?_
    refine Run.ghost (Ghost.firmAll (id := 1) rfl) ?_
    obtain ⟨x36, e37, h⟩ := bdS h
    refine Run.go (Ev.callC en84 (k_triviumref02_Trim e37) rfl (.cons .v .nil) rfl rfl) ?_
    refine Run.go (Ev.move rfl rfl) ?_
    refine Run.go (Ev.assign rfl rfl) ?_
    refine Run.go (Ev.assign rfl rfl) ?_
    refine Run.nil ?_
    refine T.ret ?_
    cases h
    exact Fin.many X rfl (.cons (.tmp .v) (.cons (.tmp .v) .nil)) rfl
theorem en61 : Enters Tryz.prog 61 := ⟨_, Tryz.func61, rfl, rfl⟩
theorem k_triviumref02_Gcd {p0 : (List Int)} {p1 : (List Int)} {y : (List Int)} (h : m_triviumref02_Gcd p0 p1 = some y) : Spec Tryz.prog 61 [(.v (.sl (.int .i64)) p0), (.v (.sl (.int .i64)) p1)] (.v (.sl (.int .i64)) y) [] := by
  rw [m_triviumref02_Gcd] at h
  refine enterN [(.v (.sl (.int .i64)) p0), (.v (.sl (.int .i64)) p1)] 19 Tryz.func61 rfl rfl rfl ?_
  refine T.seq ?_
  refine T.region ?_
  refine Run.go (Ev.assign rfl rfl) ?_
  refine Run.nil ?_
  obtain ⟨v1, hv, h⟩ := bdS h
  refine T.cut (fun _ : Unit => (⟨[(0, .v (.sl (.int .i64)) v1)], [], 19⟩ : St)) (fun _ => True) ?_ (fun _ _ => ?_)
  · replace h := hv
    clear hv
    refine T.block ?_
    refine T.loop (LoopT.ghost (Ghost.only [] [0, 1] rfl) (LoopT.run (fun q : (List Int) × (List Int) => (⟨[(0, .v (.sl (.int .i64)) q.1), (1, .v (.sl (.int .i64)) q.2)], [], 19⟩ : St)) (fun q z1 h hz1 => ?_) h))
    obtain ⟨v2, v3⟩ := q
    dsimp only
    rw [m_triviumref02_Gcd_l1] at h
    refine T.seq ?_
    refine T.seq ?_
    refine T.region ?_
    refine Run.go (Ev.move rfl rfl) ?_
    refine Run.go (Ev.len X rfl rfl rfl rfl) ?_
    refine Run.go (Ev.int rfl rfl rfl rfl trivial) ?_
    refine Run.nil ?_
    refine T.cond rfl (fun hb4 => ?_) (fun hb4 => ?_)
    · replace h := ifT hb4 h
      refine T.skip ?_
      refine T.block ?_
      refine T.seq ?_
      refine T.region ?_
      refine Run.go (Ev.move rfl rfl) ?_
      refine Run.go (Ev.move rfl rfl) ?_
      obtain ⟨x5, e6, h⟩ := bdS h
      refine Run.go (Ev.callC en62 (k_triviumref02_Div e6) rfl (.cons .v (.cons .v .nil)) rfl rfl) ?_
      refine Run.go (Ev.move rfl rfl) ?_
      refine Run.go (Ev.extract rfl rfl rfl) ?_
      refine Run.go (Ev.extract rfl rfl rfl) ?_
      refine Run.go (Ev.assign rfl rfl) ?_
      refine Run.go (Ev.assign rfl rfl) ?_
      refine Run.nil ?_
      refine T.region ?_
      refine Run.go (Ev.move rfl rfl) ?_
      refine Run.go (Ev.move rfl rfl) ?_
      refine Run.go (Ev.assign rfl rfl) ?_
      refine Run.go (Ev.assign rfl rfl) ?_
      refine Run.nil ?_
      cases h
      exact LoopT.ghost (Ghost.only [] [0, 1] rfl) hz1
    · replace h := ifF hb4 h
      refine T.exit ?_
      cases h
      cases hz1
      exact ⟨(), trivial, Ghost.only [] [0] rfl⟩
  · refine T.seq ?_
    refine T.region ?_
    refine Run.go (Ev.move rfl rfl) ?_
    refine Run.go (Ev.assign rfl rfl) ?_
    refine Run.nil ?_
    refine T.ret ?_
    cases h
    exact Fin.one rfl .v
theorem en35 : Enters Tryz.prog 35 := ⟨_, Tryz.func35, rfl, rfl⟩
theorem k_triviumref08_Low {p0 : D_triviumref07_Z} {p1 : (List Int)} {y : D_triviumref08_Q} (h : m_triviumref08_Low p0 p1 = some y) : Spec Tryz.prog 35 [(.v Y_triviumref07_Z p0), (.v (.sl (.int .i64)) p1)] (.v Y_triviumref08_Q y) [] := by
  rw [m_triviumref08_Low] at h
  refine enterN [(.v Y_triviumref07_Z p0), (.v (.sl (.int .i64)) p1)] 38 Tryz.func35 rfl rfl rfl ?_
  refine T.seq ?_
  refine T.region ?_
  refine Run.go (Ev.box 1 rfl rfl rfl rfl) ?_
  refine Run.go (Ev.allocN X 2 rfl rfl rfl) ?_
  refine Run.nil ?_
  refine T.seq ?_
  refine T.region ?_
  refine Run.go (Ev.fieldBox X rfl rfl rfl rfl rfl) ?_
  refine Run.go (Ev.loadCell X rfl rfl rfl rfl rfl rfl) ?_
  refine Run.go (Ev.move rfl rfl) ?_
  obtain ⟨x1, e2, h⟩ := bdS h
  refine Run.go (Ev.callC en61 (k_triviumref02_Gcd e2) rfl (.cons .v (.cons .v .nil)) rfl rfl) ?_
  refine Run.go (Ev.assign rfl rfl) ?_
  refine Run.nil ?_
  refine T.seq ?_
  refine T.region ?_
  refine Run.go (Ev.fieldBox X rfl rfl rfl rfl rfl) ?_
  refine Run.go (Ev.loadCell X rfl rfl rfl rfl rfl rfl) ?_
  refine Run.go (Ev.move rfl rfl) ?_
  obtain ⟨x3, e4, h⟩ := bdS h
  refine Run.go (Ev.callC en62 (k_triviumref02_Div e4) rfl (.cons .v (.cons .v .nil)) rfl rfl) ?_
  refine Run.go (Ev.move rfl rfl) ?_
  refine Run.go (Ev.extract rfl rfl rfl) ?_
  refine Run.go (Ev.extract rfl rfl rfl) ?_
  refine Run.go (Ev.assign rfl rfl) ?_
  refine Run.go (Ev.assign rfl rfl) ?_
  refine Run.nil ?_
  refine T.seq ?_
  refine T.region ?_
  refine Run.go (Ev.move rfl rfl) ?_
  refine Run.go (Ev.move rfl rfl) ?_
  obtain ⟨x5, e6, h⟩ := bdS h
  refine Run.go (Ev.callC en62 (k_triviumref02_Div e6) rfl (.cons .v (.cons .v .nil)) rfl rfl) ?_
  refine Run.go (Ev.move rfl rfl) ?_
  refine Run.go (Ev.extract rfl rfl rfl) ?_
  refine Run.go (Ev.extract rfl rfl rfl) ?_
  refine Run.go (Ev.assign rfl rfl) ?_
  refine Run.go (Ev.assign rfl rfl) ?_
  refine Run.nil ?_
  refine T.seq ?_
  refine T.region ?_
  refine Run.go (Ev.fieldBox X rfl rfl rfl rfl rfl) ?_
  refine Run.go (Ev.loadCell X rfl rfl rfl rfl rfl rfl) ?_
  refine Run.go (Ev.move rfl rfl) ?_
  rcases boolCases p0.1 with hb7 | hb7
  · replace h := ifT hb7 h
    refine Run.on rfl rfl rfl hb7 (Ev.move rfl rfl) ?_
    refine Run.on rfl rfl rfl hb7 (Ev.len X rfl rfl rfl rfl) ?_
    refine Run.on rfl rfl rfl hb7 (Ev.int rfl rfl rfl rfl trivial) ?_
    refine Run.go (Ev.pickT rfl hb7 rfl rfl) ?_
    refine Run.go (Ev.move rfl rfl) ?_
    refine Run.go (Ev.struct X pl49 rfl rfl rfl rfl rfl rfl rfl rfl) ?_
    refine Run.go (Ev.move rfl rfl) ?_
    refine Run.go (Ev.struct X pl51 rfl rfl rfl rfl rfl rfl rfl rfl) ?_
    refine Run.do_ (Ev.storeBox X rfl rfl rfl rfl rfl rfl rfl) ?_
    refine Run.nil ?_
    refine T.ret ?_
    cases h
    exact Fin.cell X rfl rfl rfl rfl rfl
  · replace h := ifF hb7 h
    refine Run.offT rfl rfl rfl rfl hb7 ?_
    refine Run.offT rfl rfl rfl rfl hb7 ?_
    refine Run.offT rfl rfl rfl rfl hb7 ?_
    refine Run.go (Ev.pickF rfl hb7 rfl rfl) ?_
    refine Run.go (Ev.move rfl rfl) ?_
    refine Run.go (Ev.struct X pl49 rfl rfl rfl rfl rfl rfl rfl rfl) ?_
    refine Run.go (Ev.move rfl rfl) ?_
    refine Run.go (Ev.struct X pl51 rfl rfl rfl rfl rfl rfl rfl rfl) ?_
    refine Run.do_ (Ev.storeBox X rfl rfl rfl rfl rfl rfl rfl) ?_
    refine Run.nil ?_
    refine T.ret ?_
    cases h
    exact Fin.cell X rfl rfl rfl rfl rfl
end Go.Proofs.YtkjkipkfndckfaaGreatDoor.AE
/- The code comes to the printed functions (printed by a program of ours). -/
namespace Go.Proofs.YtkjkipkfndckfaaGreatDoor.AE
open Go Go.RowKit Go.Proofs.YtkjkipkfndckfaaGreatDoor.AP
set_option linter.unusedVariables false
set_option maxRecDepth 20000
theorem en73 : Enters Tryz.prog 73 := ⟨_, Tryz.func73, rfl, rfl⟩
theorem k_triviumref02_DivSmall {p0 : (List Int)} {p1 : Int} {y : (List Int) × Int} (h : m_triviumref02_DivSmall p0 p1 = some y) : Spec Tryz.prog 73 [(.v (.sl (.int .i64)) p0), (.v (.int .i64) p1)] (.tup [.v (.sl (.int .i64)) y.1, .v (.int .i64) y.2]) [] := by
  rw [m_triviumref02_DivSmall] at h
  refine enterN [(.v (.sl (.int .i64)) p0), (.v (.int .i64) p1)] 38 Tryz.func73 rfl rfl rfl ?_
  refine T.seq ?_
  refine T.region ?_
  refine Run.go (Ev.assign rfl rfl) ?_
  refine Run.go (Ev.assign rfl rfl) ?_
  refine Run.nil ?_
  refine T.seq ?_
  refine T.region ?_
  refine Run.go (Ev.move rfl rfl) ?_
  refine Run.go (Ev.len X rfl rfl rfl rfl) ?_
  obtain ⟨x1, e2, h⟩ := bdS h
  refine Run.go (Ev.e_mk X 1 e2 rfl rfl rfl rfl rfl rfl) ?_
  refine Run.go (Ev.assign rfl rfl) ?_
  refine Run.go (Ev.assign rfl rfl) ?_
  refine Run.nil ?_
  obtain ⟨⟨v3, v4⟩, hv, h⟩ := bdS h
  refine T.cut (fun _ : Unit => (⟨[(6, .own 1), (7, .v (.int .i64) v3)], [(1, .arr 3 (.int .i64) v4)], 38⟩ : St)) (fun _ => True) ?_ (fun _ _ => ?_)
  · replace h := hv
    clear hv
    refine T.seq ?_
    refine T.region ?_
    refine Run.go (Ev.move rfl rfl) ?_
    refine Run.go (Ev.len X rfl rfl rfl rfl) ?_
    refine Run.go (Ev.int rfl rfl rfl rfl trivial) ?_
    refine Run.go (Ev.assign rfl rfl) ?_
    refine Run.nil ?_
    refine T.block ?_
    refine T.loop (LoopT.ghost (Ghost.only [(1, 1)] [0, 1, 6, 7, 8] rfl) (LoopT.run (fun q : Int × Int × (List Int) => (⟨[(0, .v (.sl (.int .i64)) p0), (1, .v (.int .i64) p1), (6, .own 1), (7, .v (.int .i64) q.1), (8, .v (.int .i64) q.2.1)], [(1, .arr 3 (.int .i64) q.2.2)], 38⟩ : St)) (fun q z1 h hz1 => ?_) h))
    obtain ⟨v5, v6, v7⟩ := q
    dsimp only
    rw [m_triviumref02_DivSmall_l1] at h
    refine T.seq ?_
    refine T.seq ?_
    refine T.region ?_
    refine Run.go (Ev.move rfl rfl) ?_
    refine Run.go (Ev.int rfl rfl rfl rfl trivial) ?_
    refine Run.nil ?_
    refine T.cond rfl (fun hb8 => ?_) (fun hb8 => ?_)
    · replace h := ifT hb8 h
      refine T.skip ?_
      refine T.seq ?_
      refine T.block ?_
      refine T.seq ?_
      refine T.region ?_
      refine Run.go (Ev.move rfl rfl) ?_
      refine Run.go (Ev.int rfl rfl rfl rfl trivial) ?_
      refine Run.go (Ev.move rfl rfl) ?_
      refine Run.go (Ev.move rfl rfl) ?_
      obtain ⟨x9, e10, h⟩ := bdS h
      refine Run.go (Ev.e_rd X e10 rfl rfl rfl rfl) ?_
      refine Run.go (Ev.load X rfl rfl rfl) ?_
      refine Run.go (Ev.int rfl rfl rfl rfl trivial) ?_
      refine Run.go (Ev.assign rfl rfl) ?_
      refine Run.nil ?_
      refine T.seq ?_
      refine T.region ?_
      refine Run.go (Ev.move rfl rfl) ?_
      refine Run.go (Ev.move rfl rfl) ?_
      refine Run.go (Ev.move rfl rfl) ?_
      refine Run.go (Ev.move rfl rfl) ?_
      obtain ⟨x11, e12, h⟩ := bdS h
      refine Run.go (Ev.e_qd e12 rfl rfl rfl) ?_
      obtain ⟨j13, e14, h⟩ := bdS h
      refine Run.go (Ev.e_ixO X e14 rfl rfl rfl rfl rfl) ?_
      obtain ⟨x15, e16, h⟩ := ltS h
      refine Run.do_ (Ev.asO (Ev.storeEl X rfl rfl rfl rfl rfl) e16) ?_
      refine Run.nil ?_
      refine T.region ?_
      refine Run.go (Ev.move rfl rfl) ?_
      refine Run.go (Ev.move rfl rfl) ?_
      obtain ⟨x17, e18, h⟩ := bdS h
      refine Run.go (Ev.e_rm e18 rfl rfl rfl) ?_
      refine Run.go (Ev.assign rfl rfl) ?_
      refine Run.nil ?_
      refine T.region ?_
      refine Run.go (Ev.move rfl rfl) ?_
      refine Run.go (Ev.int rfl rfl rfl rfl trivial) ?_
      refine Run.go (Ev.assign rfl rfl) ?_
      refine Run.nil ?_
      cases h
      exact LoopT.ghost (Ghost.only [(1, 1)] [0, 1, 6, 7, 8] rfl) hz1
    · replace h := ifF hb8 h
      refine T.exit ?_
      cases h
      cases hz1
      exact ⟨(), trivial, Ghost.only [(1, 1)] [6, 7] rfl⟩
  · refine T.seq ?_
    refine T.region ?_
    refine Run.go (Ev.move rfl rfl) ?_
    refine Run.ghost (Ghost.firmAll (id := 1) rfl) ?_
    obtain ⟨x19, e20, h⟩ := bdS h
    refine Run.go (Ev.callC en84 (k_triviumref02_Trim e20) rfl (.cons .v .nil) rfl rfl) ?_
    refine Run.go (Ev.move rfl rfl) ?_
    refine Run.go (Ev.assign rfl rfl) ?_
    refine Run.go (Ev.assign rfl rfl) ?_
    refine Run.nil ?_
    refine T.ret ?_
    cases h
    exact Fin.many X rfl (.cons (.tmp .v) (.cons (.tmp .v) .nil)) rfl
theorem en60 : Enters Tryz.prog 60 := ⟨_, Tryz.func60, rfl, rfl⟩
theorem k_triviumref02_Back {p0 : (List Int)} {y : (List Int)} (h : m_triviumref02_Back p0 = some y) : Spec Tryz.prog 60 [(.v (.sl (.int .i64)) p0)] (.v (.sl (.int .u64)) y) [] := by
  rw [m_triviumref02_Back] at h
  refine enterN [(.v (.sl (.int .i64)) p0)] 22 Tryz.func60 rfl rfl rfl ?_
  refine T.seq ?_
  refine T.region ?_
  refine Run.go (Ev.assign rfl rfl) ?_
  refine Run.nil ?_
  refine T.seq ?_
  refine T.region ?_
  refine Run.go (Ev.build X 1 rfl rfl rfl rfl rfl rfl rfl rfl) ?_
  refine Run.go (Ev.assign rfl rfl) ?_
  refine Run.nil ?_
  obtain ⟨v1, hv, h⟩ := bdS h
  refine T.cut (fun _ : Unit => (⟨[(3, .own 5)], [(5, .arr 104 (.int .u64) v1)], 22⟩ : St)) (fun _ => True) ?_ (fun _ _ => ?_)
  · replace h := hv
    clear hv
    refine T.block ?_
    refine T.loop (LoopT.ghost (Ghost.only [(1, 15)] [0, 3] rfl) (LoopT.run (fun q : (List Int) × (List Int) => (⟨[(0, .v (.sl (.int .i64)) q.1), (3, .own 15)], [(15, .arr 104 (.int .u64) q.2)], 22⟩ : St)) (fun q z1 h hz1 => ?_) h))
    obtain ⟨v2, v3⟩ := q
    dsimp only
    rw [m_triviumref02_Back_l1] at h
    refine T.seq ?_
    refine T.seq ?_
    refine T.region ?_
    refine Run.go (Ev.move rfl rfl) ?_
    refine Run.go (Ev.len X rfl rfl rfl rfl) ?_
    refine Run.go (Ev.int rfl rfl rfl rfl trivial) ?_
    refine Run.nil ?_
    refine T.cond rfl (fun hb4 => ?_) (fun hb4 => ?_)
    · replace h := ifT hb4 h
      refine T.skip ?_
      refine T.block ?_
      refine T.seq ?_
      refine T.region ?_
      refine Run.go (Ev.move rfl rfl) ?_
      obtain ⟨x5, e6, h⟩ := bdS h
      refine Run.go (Ev.callC en73 (k_triviumref02_DivSmall e6) rfl (.cons .v (.cons .v .nil)) rfl rfl) ?_
      refine Run.go (Ev.move rfl rfl) ?_
      refine Run.go (Ev.extract rfl rfl rfl) ?_
      refine Run.go (Ev.extract rfl rfl rfl) ?_
      refine Run.go (Ev.assign rfl rfl) ?_
      refine Run.go (Ev.assign rfl rfl) ?_
      refine Run.nil ?_
      refine T.seq ?_
      refine T.region ?_
      refine Run.go (Ev.move rfl rfl) ?_
      refine Run.go (Ev.move rfl rfl) ?_
      refine Run.go (Ev.conv X rfl rfl rfl rfl) ?_
      refine Run.go (Ev.build X 19 rfl rfl rfl rfl rfl rfl rfl rfl) ?_
      obtain ⟨x7, e8, h⟩ := bdS h
      refine Run.go (Ev.e_ap X 20 e8 rfl rfl rfl (.own rfl) rfl rfl rfl rfl rfl) ?_
      refine Run.go (Ev.assign rfl rfl) ?_
      refine Run.nil ?_
      refine T.region ?_
      refine Run.go (Ev.move rfl rfl) ?_
      refine Run.go (Ev.assign rfl rfl) ?_
      refine Run.nil ?_
      cases h
      exact LoopT.ghost (Ghost.only [(20, 15)] [0, 3] rfl) hz1
    · replace h := ifF hb4 h
      refine T.exit ?_
      cases h
      cases hz1
      exact ⟨(), trivial, Ghost.only [(15, 5)] [3] rfl⟩
  · refine T.seq ?_
    refine T.region ?_
    refine Run.go (Ev.move rfl rfl) ?_
    refine Run.go (Ev.assign rfl rfl) ?_
    refine Run.nil ?_
    refine T.ret ?_
    cases h
    exact Fin.one rfl (.own rfl)
theorem en59 : Enters Tryz.prog 59 := ⟨_, Tryz.func59, rfl, rfl⟩
theorem k_triviumref07_Back {p0 : D_triviumref07_Z} {y : D_api_Int} (h : m_triviumref07_Back p0 = some y) : Spec Tryz.prog 59 [(.v Y_triviumref07_Z p0)] (.v Y_api_Int y) [] := by
  rw [m_triviumref07_Back] at h
  refine enterN [(.v Y_triviumref07_Z p0)] 9 Tryz.func59 rfl rfl rfl ?_
  refine T.seq ?_
  refine T.region ?_
  refine Run.go (Ev.box 1 rfl rfl rfl rfl) ?_
  refine Run.go (Ev.allocN X 2 rfl rfl rfl) ?_
  refine Run.nil ?_
  refine T.seq ?_
  refine T.drawM [6] [0, 1, 0, 4, 12, 31, 63] (by kernel_rfl) (by kernel_rfl) ?_
  refine RunD.a rfl rfl (Ev.fieldBox X rfl rfl rfl rfl rfl) ?_
  refine RunD.a rfl rfl (Ev.loadCell X rfl rfl rfl rfl rfl rfl) ?_
  refine RunD.a rfl rfl (Ev.fieldBox X rfl rfl rfl rfl rfl) ?_
  refine RunD.a rfl rfl (Ev.loadCell X rfl rfl rfl rfl rfl rfl) ?_
  obtain ⟨x1, e2, h⟩ := bdS h
  refine RunD.a rfl rfl (Ev.callC en60 (k_triviumref02_Back e2) rfl (.cons .v .nil) rfl rfl) ?_
  refine RunD.w (fun _ => Ev.struct X pl30 rfl rfl rfl rfl rfl rfl rfl rfl) ?_
  refine RunD.mN rfl (Ev.storeBox X rfl rfl rfl rfl rfl rfl rfl) ?_
  refine RunD.nil ?_
  refine T.ret ?_
  cases h
  exact Fin.cell X rfl rfl rfl rfl rfl
theorem en34 : Enters Tryz.prog 34 := ⟨_, Tryz.func34, rfl, rfl⟩
theorem k_triviumref08_Back {p0 : D_triviumref08_Q} {y : D_api_Rat} (h : m_triviumref08_Back p0 = some y) : Spec Tryz.prog 34 [(.v Y_triviumref08_Q p0)] (.v Y_api_Rat y) [] := by
  rw [m_triviumref08_Back] at h
  refine enterN [(.v Y_triviumref08_Q p0)] 10 Tryz.func34 rfl rfl rfl ?_
  refine T.seq ?_
  refine T.region ?_
  refine Run.go (Ev.box 1 rfl rfl rfl rfl) ?_
  refine Run.go (Ev.allocN X 2 rfl rfl rfl) ?_
  refine Run.nil ?_
  refine T.seq ?_
  refine T.drawM [7] [0, 1, 3, 0, 8, 31, 63, 127] (by kernel_rfl) (by kernel_rfl) ?_
  refine RunD.a rfl rfl (Ev.fieldBox X rfl rfl rfl rfl rfl) ?_
  refine RunD.a rfl rfl (Ev.loadBox X rfl rfl rfl rfl rfl) ?_
  obtain ⟨x1, e2, h⟩ := bdS h
  refine RunD.a rfl rfl (Ev.callC en59 (k_triviumref07_Back e2) rfl (.cons .v .nil) rfl rfl) ?_
  refine RunD.a rfl rfl (Ev.fieldBox X rfl rfl rfl rfl rfl) ?_
  refine RunD.a rfl rfl (Ev.loadCell X rfl rfl rfl rfl rfl rfl) ?_
  obtain ⟨x3, e4, h⟩ := bdS h
  refine RunD.a rfl rfl (Ev.callC en60 (k_triviumref02_Back e4) rfl (.cons .v .nil) rfl rfl) ?_
  refine RunD.w (fun _ => Ev.struct X pl32 rfl rfl rfl rfl rfl rfl rfl rfl) ?_
  refine RunD.mN rfl (Ev.storeBox X rfl rfl rfl rfl rfl rfl rfl) ?_
  refine RunD.nil ?_
  refine T.ret ?_
  cases h
  exact Fin.cell X rfl rfl rfl rfl rfl
theorem en17 : Enters Tryz.prog 17 := ⟨_, Tryz.func17, rfl, rfl⟩
theorem k_triviumref08_Clean {p0 : D_api_Rat} {p1 : Int} {y : D_api_Rat} (h : m_triviumref08_Clean p0 p1 = some y) : Spec Tryz.prog 17 [(.v Y_api_Rat p0), (.v (.int .i64) p1)] (.v Y_api_Rat y) [] := by
  rw [m_triviumref08_Clean] at h
  refine enterN [(.v Y_api_Rat p0), (.v (.int .i64) p1)] 23 Tryz.func17 rfl rfl rfl ?_
  refine T.seq ?_
  refine T.region ?_
  refine Run.go (Ev.box 1 rfl rfl rfl rfl) ?_
  refine Run.go (Ev.allocN X 2 rfl rfl rfl) ?_
  refine Run.nil ?_
  refine T.seq ?_
  refine T.region ?_
  refine Run.go (Ev.fieldBox X rfl rfl rfl rfl rfl) ?_
  refine Run.go (Ev.loadCell X rfl rfl rfl rfl rfl rfl) ?_
  refine Run.go (Ev.move rfl rfl) ?_
  obtain ⟨x1, e2, h⟩ := bdS h
  refine Run.go (Ev.callC en33 (k_triviumref02_Clean e2) rfl (.cons .v (.cons .v .nil)) rfl rfl) ?_
  refine Run.go (Ev.assign rfl rfl) ?_
  refine Run.nil ?_
  obtain ⟨v3, hv, h⟩ := bdS h
  refine T.cut (fun _ : Unit => (⟨[(1, .v (.int .i64) p1), (2, .box 1 0), (4, .box 2 0), (5, .v (.sl (.int .u64)) v3)], [(1, .box [.v .bool p0.1.1, .v (.sl (.int .u64)) p0.1.2, .v (.sl (.int .u64)) p0.2]), (2, .box [.v .bool false, .nil, .nil])], 23⟩ : St)) (fun _ => True) ?_ (fun _ _ => ?_)
  · replace h := hv
    clear hv
    refine T.seq ?_
    refine T.region ?_
    refine Run.go (Ev.move rfl rfl) ?_
    refine Run.go (Ev.len X rfl rfl rfl rfl) ?_
    refine Run.go (Ev.int rfl rfl rfl rfl trivial) ?_
    refine Run.nil ?_
    refine T.cond rfl (fun hb4 => ?_) (fun hb4 => ?_)
    · replace h := ifT hb4 h
      refine T.region ?_
      refine Run.go (Ev.build X 6 rfl rfl rfl rfl rfl rfl rfl rfl) ?_
      refine Run.go (Ev.assign rfl rfl) ?_
      refine Run.nil ?_
      cases h
      exact ⟨(), trivial, Ghost.trans (Ghost.firmAll (id := 6) rfl) (Ghost.only [(1, 1), (2, 2)] [1, 2, 4, 5] rfl)⟩
    · replace h := ifF hb4 h
      refine T.skip ?_
      cases h
      exact ⟨(), trivial, Ghost.only [(1, 1), (2, 2)] [1, 2, 4, 5] rfl⟩
  · refine T.seq ?_
    refine T.region ?_
    refine Run.go (Ev.fieldBox X rfl rfl rfl rfl rfl) ?_
    refine Run.go (Ev.loadBox X rfl rfl rfl rfl rfl) ?_
    refine Run.go (Ev.move rfl rfl) ?_
    obtain ⟨x5, e6, h⟩ := bdS h
    refine Run.go (Ev.callC en37 (k_triviumref07_Clean e6) rfl (.cons .v (.cons .v .nil)) rfl rfl) ?_
    obtain ⟨x7, e8, h⟩ := bdS h
    refine Run.go (Ev.callC en36 (k_triviumref07_Of e8) rfl (.cons .v .nil) rfl rfl) ?_
    refine Run.go (Ev.move rfl rfl) ?_
    obtain ⟨x9, e10, h⟩ := bdS h
    refine Run.go (Ev.callC en38 (k_triviumref02_Of e10) rfl (.cons .v .nil) rfl rfl) ?_
    obtain ⟨x11, e12, h⟩ := bdS h
    refine Run.go (Ev.callC en35 (k_triviumref08_Low e12) rfl (.cons .v (.cons .v .nil)) rfl rfl) ?_
    obtain ⟨x13, e14, h⟩ := bdS h
    refine Run.go (Ev.callC en34 (k_triviumref08_Back e14) rfl (.cons .v .nil) rfl rfl) ?_
    refine Run.do_ (Ev.storeBox X rfl rfl rfl rfl rfl rfl rfl) ?_
    refine Run.nil ?_
    refine T.ret ?_
    cases h
    exact Fin.cell X rfl rfl rfl rfl rfl
theorem en18 : Enters Tryz.prog 18 := ⟨_, Tryz.func18, rfl, rfl⟩
theorem k_triviumref08_Of {p0 : D_api_Rat} {y : D_triviumref08_Q} (h : m_triviumref08_Of p0 = some y) : Spec Tryz.prog 18 [(.v Y_api_Rat p0)] (.v Y_triviumref08_Q y) [] := by
  rw [m_triviumref08_Of] at h
  refine enterN [(.v Y_api_Rat p0)] 10 Tryz.func18 rfl rfl rfl ?_
  refine T.seq ?_
  refine T.region ?_
  refine Run.go (Ev.box 1 rfl rfl rfl rfl) ?_
  refine Run.go (Ev.allocN X 2 rfl rfl rfl) ?_
  refine Run.nil ?_
  refine T.seq ?_
  refine T.drawM [7] [0, 1, 3, 0, 8, 31, 63, 127] (by kernel_rfl) (by kernel_rfl) ?_
  refine RunD.a rfl rfl (Ev.fieldBox X rfl rfl rfl rfl rfl) ?_
  refine RunD.a rfl rfl (Ev.loadBox X rfl rfl rfl rfl rfl) ?_
  obtain ⟨x1, e2, h⟩ := bdS h
  refine RunD.a rfl rfl (Ev.callC en36 (k_triviumref07_Of e2) rfl (.cons .v .nil) rfl rfl) ?_
  refine RunD.a rfl rfl (Ev.fieldBox X rfl rfl rfl rfl rfl) ?_
  refine RunD.a rfl rfl (Ev.loadCell X rfl rfl rfl rfl rfl rfl) ?_
  obtain ⟨x3, e4, h⟩ := bdS h
  refine RunD.a rfl rfl (Ev.callC en38 (k_triviumref02_Of e4) rfl (.cons .v .nil) rfl rfl) ?_
  refine RunD.w (fun _ => Ev.struct X pl51 rfl rfl rfl rfl rfl rfl rfl rfl) ?_
  refine RunD.mN rfl (Ev.storeBox X rfl rfl rfl rfl rfl rfl rfl) ?_
  refine RunD.nil ?_
  refine T.ret ?_
  cases h
  exact Fin.cell X rfl rfl rfl rfl rfl
theorem en6 : Enters Tryz.prog 6 := ⟨_, Tryz.func6, rfl, rfl⟩
set_option maxHeartbeats 1000000 in
theorem k_triviumlaw38_both {p0 : D_triviumlaw38_Told} {y : D_engine_Answer × D_triviumref37_Answer} (h : m_triviumlaw38_both p0 = some y) : Spec Tryz.prog 6 [(.v Y_triviumlaw38_Told p0)] (.tup [.v Y_engine_Answer y.1, .v Y_triviumref37_Answer y.2]) [] := by
  rw [m_triviumlaw38_both] at h
  refine enterN [(.v Y_triviumlaw38_Told p0)] 93 Tryz.func6 rfl rfl rfl ?_
  refine T.seq ?_
  refine T.region ?_
  refine Run.go (Ev.box 1 rfl rfl rfl rfl) ?_
  refine Run.go (Ev.allocN X 2 rfl rfl rfl) ?_
  refine Run.go (Ev.allocN X 3 rfl rfl rfl) ?_
  refine Run.nil ?_
  refine T.seq ?_
  refine T.drawE [([1], []), ([1], []), ([], []), ([1], []), ([1], []), ([], []), ([1], []), ([1], []), ([], []), ([7], [7]), ([8], [8]), ([9], [9]), ([7], [7]), ([8], [8]), ([9], [9])] [0, 1, 3, 0, 8, 31, 0, 64, 255, 0, 0, 0, 4095, 8191, 16383] (by kernel_rfl) (by kernel_rfl) ?_
  refine RunE.go0 [1] (fun ô hô => Ev.fieldBox X rfl (ka hô rfl rfl) rfl rfl rfl) rfl rfl ?_
  refine RunE.go0 [1] (fun ô hô => Ev.loadBox X rfl (ka hô rfl rfl) rfl rfl rfl) rfl rfl ?_
  obtain ⟨x1, e2, h⟩ := bdS h
  refine RunE.go0 [] (fun ô hô => Ev.callC en17 (k_triviumref08_Clean e2) rfl (.cons .v (.cons .v .nil)) rfl rfl) rfl rfl ?_
  refine RunE.go0 [1] (fun ô hô => Ev.fieldBox X rfl (ka hô rfl rfl) rfl rfl rfl) rfl rfl ?_
  refine RunE.go0 [1] (fun ô hô => Ev.loadBox X rfl (ka hô rfl rfl) rfl rfl rfl) rfl rfl ?_
  obtain ⟨x3, e4, h⟩ := bdS h
  refine RunE.go0 [] (fun ô hô => Ev.callC en17 (k_triviumref08_Clean e4) rfl (.cons .v (.cons .v .nil)) rfl rfl) rfl rfl ?_
  refine RunE.go0 [1] (fun ô hô => Ev.fieldBox X rfl (ka hô rfl rfl) rfl rfl rfl) rfl rfl ?_
  refine RunE.go0 [1] (fun ô hô => Ev.loadBox X rfl (ka hô rfl rfl) rfl rfl rfl) rfl rfl ?_
  obtain ⟨x5, e6, h⟩ := bdS h
  refine RunE.go0 [] (fun ô hô => Ev.callC en17 (k_triviumref08_Clean e6) rfl (.cons .v (.cons .v .nil)) rfl rfl) rfl rfl ?_
  refine RunE.go1 [7] (fun ô hô => Ev.allocN X 7 rfl (ka hô rfl rfl) rfl) rfl rfl ?_
  refine RunE.go1 [8] (fun ô hô => Ev.allocN X 8 rfl (ka hô rfl rfl) rfl) rfl rfl ?_
  refine RunE.go1 [9] (fun ô hô => Ev.allocN X 9 rfl (ka hô rfl rfl) rfl) rfl rfl ?_
  refine RunE.do1 [7] (fun ô hô => Ev.storeBox X rfl (ka hô rfl rfl) rfl rfl rfl rfl rfl) rfl rfl ?_
  refine RunE.do1 [8] (fun ô hô => Ev.storeBox X rfl (ka hô rfl rfl) rfl rfl rfl rfl rfl) rfl rfl ?_
  refine RunE.do1 [9] (fun ô hô => Ev.storeBox X rfl (ka hô rfl rfl) rfl rfl rfl rfl rfl) rfl rfl ?_
  refine RunE.nil ?_
  refine T.seq ?_
  refine T.drawE [([7], []), ([], []), ([8], []), ([], []), ([9], []), ([], []), ([13], [13]), ([14], [14]), ([15], [15]), ([13], [13]), ([14], [14]), ([15], [15])] [0, 1, 0, 7, 0, 31, 0, 0, 0, 511, 1023, 2047] (by kernel_rfl) (by kernel_rfl) ?_
  refine RunE.go0 [7] (fun ô hô => Ev.loadBox X rfl (ka hô rfl rfl) rfl rfl rfl) rfl rfl ?_
  obtain ⟨x7, e8, h⟩ := bdS h
  refine RunE.go0 [] (fun ô hô => Ev.callC en18 (k_triviumref08_Of e8) rfl (.cons .v .nil) rfl rfl) rfl rfl ?_
  refine RunE.go0 [8] (fun ô hô => Ev.loadBox X rfl (ka hô rfl rfl) rfl rfl rfl) rfl rfl ?_
  obtain ⟨x9, e10, h⟩ := bdS h
  refine RunE.go0 [] (fun ô hô => Ev.callC en18 (k_triviumref08_Of e10) rfl (.cons .v .nil) rfl rfl) rfl rfl ?_
  refine RunE.go0 [9] (fun ô hô => Ev.loadBox X rfl (ka hô rfl rfl) rfl rfl rfl) rfl rfl ?_
  obtain ⟨x11, e12, h⟩ := bdS h
  refine RunE.go0 [] (fun ô hô => Ev.callC en18 (k_triviumref08_Of e12) rfl (.cons .v .nil) rfl rfl) rfl rfl ?_
  refine RunE.go1 [13] (fun ô hô => Ev.allocN X 13 rfl (ka hô rfl rfl) rfl) rfl rfl ?_
  refine RunE.go1 [14] (fun ô hô => Ev.allocN X 14 rfl (ka hô rfl rfl) rfl) rfl rfl ?_
  refine RunE.go1 [15] (fun ô hô => Ev.allocN X 15 rfl (ka hô rfl rfl) rfl) rfl rfl ?_
  refine RunE.do1 [13] (fun ô hô => Ev.storeBox X rfl (ka hô rfl rfl) rfl rfl rfl rfl rfl) rfl rfl ?_
  refine RunE.do1 [14] (fun ô hô => Ev.storeBox X rfl (ka hô rfl rfl) rfl rfl rfl rfl rfl) rfl rfl ?_
  refine RunE.do1 [15] (fun ô hô => Ev.storeBox X rfl (ka hô rfl rfl) rfl rfl rfl rfl rfl) rfl rfl ?_
  refine RunE.nil ?_
  refine T.seq ?_
  refine T.region ?_
  refine Run.go (Ev.fieldBox X rfl rfl rfl rfl rfl) ?_
  refine Run.go (Ev.loadCell X rfl rfl rfl rfl rfl rfl) ?_
  refine Run.go (Ev.loadBox X rfl rfl rfl rfl rfl) ?_
  refine Run.go (Ev.loadBox X rfl rfl rfl rfl rfl) ?_
  refine Run.go (Ev.loadBox X rfl rfl rfl rfl rfl) ?_
  refine Run.go (Ev.struct X pl37 rfl rfl rfl rfl rfl rfl rfl rfl) ?_
  refine Run.go (Ev.fieldBox X rfl rfl rfl rfl rfl) ?_
  refine Run.go (Ev.loadCell X rfl rfl rfl rfl rfl rfl) ?_
  refine Run.go (Ev.loadBox X rfl rfl rfl rfl rfl) ?_
  refine Run.go (Ev.struct X pl39 rfl rfl rfl rfl rfl rfl rfl rfl) ?_
  refine Run.go (Ev.loadBox X rfl rfl rfl rfl rfl) ?_
  refine Run.go (Ev.fieldBox X rfl rfl rfl rfl rfl) ?_
  refine Run.go (Ev.loadCell X rfl rfl rfl rfl rfl rfl) ?_
  refine Run.go (Ev.structC pl43 zs43 rfl rfl rfl) ?_
  refine Run.go (Ev.structC pl45 zs45 rfl rfl rfl) ?_
  refine Run.go (Ev.allocN X 16 rfl rfl rfl) ?_
  refine Run.do_ (Ev.storeC sz45 rfl rfl rfl rfl (by kernel_rfl) (by kernel_rfl)) ?_
  refine Run.nil ?_
  refine T.seq ?_
  refine T.region ?_
  refine Run.go (Ev.fieldBox X rfl rfl rfl rfl rfl) ?_
  refine Run.go (Ev.loadCell X rfl rfl rfl rfl rfl rfl) ?_
  refine Run.go (Ev.loadBox X rfl rfl rfl rfl rfl) ?_
  refine Run.go (Ev.loadBox X rfl rfl rfl rfl rfl) ?_
  refine Run.go (Ev.loadBox X rfl rfl rfl rfl rfl) ?_
  refine Run.go (Ev.struct X pl53 rfl rfl rfl rfl rfl rfl rfl rfl) ?_
  refine Run.go (Ev.fieldBox X rfl rfl rfl rfl rfl) ?_
  refine Run.go (Ev.loadCell X rfl rfl rfl rfl rfl rfl) ?_
  refine Run.go (Ev.loadBox X rfl rfl rfl rfl rfl) ?_
  refine Run.go (Ev.struct X pl55 rfl rfl rfl rfl rfl rfl rfl rfl) ?_
  refine Run.go (Ev.loadBox X rfl rfl rfl rfl rfl) ?_
  refine Run.go (Ev.fieldBox X rfl rfl rfl rfl rfl) ?_
  refine Run.go (Ev.loadCell X rfl rfl rfl rfl rfl rfl) ?_
  refine Run.go (Ev.structC pl59 zs59 rfl rfl rfl) ?_
  refine Run.go (Ev.structC pl61 zs61 rfl rfl rfl) ?_
  refine Run.go (Ev.allocN X 17 rfl rfl rfl) ?_
  refine Run.do_ (Ev.storeC sz61 rfl rfl rfl rfl (by kernel_rfl) (by kernel_rfl)) ?_
  refine Run.nil ?_
  obtain ⟨⟨v13, v14, v15, v16, v17, v18, v19, v20, v21, v22, v23, v24, v25, v26, v27, v28⟩, hv, h⟩ := bdS h
  refine T.cut (fun _ : Unit => (⟨[(1, .box 1 0), (2, .box 2 0), (3, .box 3 0), (5, .box 8 0), (6, .box 9 0), (8, .box 14 0), (9, .box 15 0), (10, .box 16 0), (11, .box 17 0)], [(1, .box [.v (.int .i64) p0.1, .v (.int .i64) p0.2.1, .v .bool p0.2.2.1, .v .bool p0.2.2.2.1, .v .bool p0.2.2.2.2.1, .v (.int .u32) p0.2.2.2.2.2.1, .v .bool p0.2.2.2.2.2.2.1.1.1, .v (.sl (.int .u64)) p0.2.2.2.2.2.2.1.1.2, .v (.sl (.int .u64)) p0.2.2.2.2.2.2.1.2, .v .bool p0.2.2.2.2.2.2.2.1.1.1, .v (.sl (.int .u64)) p0.2.2.2.2.2.2.2.1.1.2, .v (.sl (.int .u64)) p0.2.2.2.2.2.2.2.1.2, .v .bool p0.2.2.2.2.2.2.2.2.1.1, .v (.sl (.int .u64)) p0.2.2.2.2.2.2.2.2.1.2, .v (.sl (.int .u64)) p0.2.2.2.2.2.2.2.2.2]), (2, .box [.v (.int .i64) (0 : Int), .v .bool false, .nil, .nil, .v .bool false, .nil, .nil, .v .bool false, .nil, .nil, .v .bool false, .v .bool false, .nil, .nil, .v .bool false, .nil, .nil, .v (.int .i64) (0 : Int), .v .bool false, .v (.int .u32) (0 : Int), .v .bool false, .nil, .nil, .v .bool false, .nil, .nil, .v .bool false, .v (.int .u32) (0 : Int), .v .bool false, .nil, .nil, .v .bool false, .nil, .nil]), (3, .box [.v (.int .i64) (0 : Int), .v .bool false, .nil, .nil, .v .bool false, .nil, .nil, .v .bool false, .nil, .nil, .v .bool false, .v .bool false, .nil, .nil, .v .bool false, .nil, .nil, .v (.int .i64) (0 : Int), .v .bool false, .v (.int .u32) (0 : Int), .v .bool false, .nil, .nil, .v .bool false, .nil, .nil, .v .bool false, .v (.int .u32) (0 : Int), .v .bool false, .nil, .nil, .v .bool false, .nil, .nil]), (8, .box [.v .bool x3.1.1, .v (.sl (.int .u64)) x3.1.2, .v (.sl (.int .u64)) x3.2]), (9, .box [.v .bool x5.1.1, .v (.sl (.int .u64)) x5.1.2, .v (.sl (.int .u64)) x5.2]), (14, .box [.v .bool x9.1.1, .v (.sl (.int .i64)) x9.1.2, .v (.sl (.int .i64)) x9.2]), (15, .box [.v .bool x11.1.1, .v (.sl (.int .i64)) x11.1.2, .v (.sl (.int .i64)) x11.2]), (16, .box [.v (.int .i64) p0.1, .v .bool x1.1.1, .v (.sl (.int .u64)) x1.1.2, .v (.sl (.int .u64)) x1.2, .v .bool x3.1.1, .v (.sl (.int .u64)) x3.1.2, .v (.sl (.int .u64)) x3.2, .v .bool x5.1.1, .v (.sl (.int .u64)) x5.1.2, .v (.sl (.int .u64)) x5.2, .v .bool p0.2.2.1, .v .bool x1.1.1, .v (.sl (.int .u64)) x1.1.2, .v (.sl (.int .u64)) x1.2, .v .bool x3.1.1, .v (.sl (.int .u64)) x3.1.2, .v (.sl (.int .u64)) x3.2, .v (.int .i64) p0.2.1, .v .bool v13, .v (.int .u32) v14, .v .bool v15, .v (.sl (.int .u64)) v16, .v (.sl (.int .u64)) v17, .v .bool v18, .v (.sl (.int .u64)) v19, .v (.sl (.int .u64)) v20, .v .bool false, .v (.int .u32) (0 : Int), .v .bool false, .nil, .nil, .v .bool false, .nil, .nil]), (17, .box [.v (.int .i64) p0.1, .v .bool x7.1.1, .v (.sl (.int .i64)) x7.1.2, .v (.sl (.int .i64)) x7.2, .v .bool x9.1.1, .v (.sl (.int .i64)) x9.1.2, .v (.sl (.int .i64)) x9.2, .v .bool x11.1.1, .v (.sl (.int .i64)) x11.1.2, .v (.sl (.int .i64)) x11.2, .v .bool p0.2.2.1, .v .bool x7.1.1, .v (.sl (.int .i64)) x7.1.2, .v (.sl (.int .i64)) x7.2, .v .bool x9.1.1, .v (.sl (.int .i64)) x9.1.2, .v (.sl (.int .i64)) x9.2, .v (.int .i64) p0.2.1, .v .bool v21, .v (.int .u32) v22, .v .bool v23, .v (.sl (.int .i64)) v24, .v (.sl (.int .i64)) v25, .v .bool v26, .v (.sl (.int .i64)) v27, .v (.sl (.int .i64)) v28, .v .bool false, .v (.int .u32) (0 : Int), .v .bool false, .nil, .nil, .v .bool false, .nil, .nil])], 93⟩ : St)) (fun _ => True) ?_ (fun _ _ => ?_)
  · replace h := hv
    clear hv
    refine T.seq ?_
    refine T.region ?_
    refine Run.go (Ev.fieldBox X rfl rfl rfl rfl rfl) ?_
    refine Run.go (Ev.loadCell X rfl rfl rfl rfl rfl rfl) ?_
    refine Run.nil ?_
    refine T.cond rfl (fun hb29 => ?_) (fun hb29 => ?_)
    · replace h := ifT hb29 h
      refine T.seq ?_
      refine T.region ?_
      refine Run.go (Ev.fieldBox X rfl rfl rfl rfl rfl) ?_
      refine Run.go (Ev.loadCell X rfl rfl rfl rfl rfl rfl) ?_
      refine Run.go (Ev.loadBox X rfl rfl rfl rfl rfl) ?_
      refine Run.go (Ev.loadBox X rfl rfl rfl rfl rfl) ?_
      refine Run.go (Ev.struct X pl41 rfl rfl rfl rfl rfl rfl rfl rfl) ?_
      refine Run.go (Ev.fieldBox X rfl rfl rfl rfl rfl) ?_
      refine Run.go (Ev.fieldBox X rfl rfl rfl rfl rfl) ?_
      refine Run.do_ (Ev.storeBox X rfl rfl rfl rfl rfl rfl rfl) ?_
      refine Run.nil ?_
      refine T.region ?_
      refine Run.go (Ev.fieldBox X rfl rfl rfl rfl rfl) ?_
      refine Run.go (Ev.loadCell X rfl rfl rfl rfl rfl rfl) ?_
      refine Run.go (Ev.loadBox X rfl rfl rfl rfl rfl) ?_
      refine Run.go (Ev.loadBox X rfl rfl rfl rfl rfl) ?_
      refine Run.go (Ev.struct X pl57 rfl rfl rfl rfl rfl rfl rfl rfl) ?_
      refine Run.go (Ev.fieldBox X rfl rfl rfl rfl rfl) ?_
      refine Run.go (Ev.fieldBox X rfl rfl rfl rfl rfl) ?_
      refine Run.do_ (Ev.storeBox X rfl rfl rfl rfl rfl rfl rfl) ?_
      refine Run.nil ?_
      cases h
      exact ⟨(), trivial, Ghost.onlyK [(1, 1), (2, 2), (3, 3), (8, 8), (9, 9), (14, 14), (15, 15), (16, 16), (17, 17)] [1, 2, 3, 5, 6, 8, 9, 10, 11] rfl (by kernel_rfl)⟩
    · replace h := ifF hb29 h
      refine T.skip ?_
      cases h
      exact ⟨(), trivial, Ghost.trans (Ghost.nilvC (id := 17) (j := 21) (τ := (.int .i64)) rfl (by kernel_rfl)) (Ghost.trans (Ghost.nilvC (id := 17) (j := 22) (τ := (.int .i64)) rfl (by kernel_rfl)) (Ghost.trans (Ghost.nilvC (id := 17) (j := 24) (τ := (.int .i64)) rfl (by kernel_rfl)) (Ghost.trans (Ghost.nilvC (id := 17) (j := 25) (τ := (.int .i64)) rfl (by kernel_rfl)) (Ghost.trans (Ghost.nilvC (id := 16) (j := 21) (τ := (.int .u64)) rfl (by kernel_rfl)) (Ghost.trans (Ghost.nilvC (id := 16) (j := 22) (τ := (.int .u64)) rfl (by kernel_rfl)) (Ghost.trans (Ghost.nilvC (id := 16) (j := 24) (τ := (.int .u64)) rfl (by kernel_rfl)) (Ghost.trans (Ghost.nilvC (id := 16) (j := 25) (τ := (.int .u64)) rfl (by kernel_rfl)) (Ghost.onlyK [(1, 1), (2, 2), (3, 3), (8, 8), (9, 9), (14, 14), (15, 15), (16, 16), (17, 17)] [1, 2, 3, 5, 6, 8, 9, 10, 11] rfl (by kernel_rfl)))))))))⟩
  · obtain ⟨⟨v30, v31, v32, v33, v34, v35, v36, v37, v38, v39, v40, v41, v42, v43, v44, v45⟩, hv, h⟩ := bdS h
    refine T.cut (fun _ : Unit => (⟨[(2, .box 2 0), (3, .box 3 0), (10, .box 16 0), (11, .box 17 0)], [(2, .box [.v (.int .i64) (0 : Int), .v .bool false, .nil, .nil, .v .bool false, .nil, .nil, .v .bool false, .nil, .nil, .v .bool false, .v .bool false, .nil, .nil, .v .bool false, .nil, .nil, .v (.int .i64) (0 : Int), .v .bool false, .v (.int .u32) (0 : Int), .v .bool false, .nil, .nil, .v .bool false, .nil, .nil, .v .bool false, .v (.int .u32) (0 : Int), .v .bool false, .nil, .nil, .v .bool false, .nil, .nil]), (3, .box [.v (.int .i64) (0 : Int), .v .bool false, .nil, .nil, .v .bool false, .nil, .nil, .v .bool false, .nil, .nil, .v .bool false, .v .bool false, .nil, .nil, .v .bool false, .nil, .nil, .v (.int .i64) (0 : Int), .v .bool false, .v (.int .u32) (0 : Int), .v .bool false, .nil, .nil, .v .bool false, .nil, .nil, .v .bool false, .v (.int .u32) (0 : Int), .v .bool false, .nil, .nil, .v .bool false, .nil, .nil]), (16, .box [.v (.int .i64) p0.1, .v .bool x1.1.1, .v (.sl (.int .u64)) x1.1.2, .v (.sl (.int .u64)) x1.2, .v .bool x3.1.1, .v (.sl (.int .u64)) x3.1.2, .v (.sl (.int .u64)) x3.2, .v .bool x5.1.1, .v (.sl (.int .u64)) x5.1.2, .v (.sl (.int .u64)) x5.2, .v .bool p0.2.2.1, .v .bool x1.1.1, .v (.sl (.int .u64)) x1.1.2, .v (.sl (.int .u64)) x1.2, .v .bool x3.1.1, .v (.sl (.int .u64)) x3.1.2, .v (.sl (.int .u64)) x3.2, .v (.int .i64) p0.2.1, .v .bool v13, .v (.int .u32) v14, .v .bool v15, .v (.sl (.int .u64)) v16, .v (.sl (.int .u64)) v17, .v .bool v18, .v (.sl (.int .u64)) v19, .v (.sl (.int .u64)) v20, .v .bool v30, .v (.int .u32) v31, .v .bool v32, .v (.sl (.int .u64)) v33, .v (.sl (.int .u64)) v34, .v .bool v35, .v (.sl (.int .u64)) v36, .v (.sl (.int .u64)) v37]), (17, .box [.v (.int .i64) p0.1, .v .bool x7.1.1, .v (.sl (.int .i64)) x7.1.2, .v (.sl (.int .i64)) x7.2, .v .bool x9.1.1, .v (.sl (.int .i64)) x9.1.2, .v (.sl (.int .i64)) x9.2, .v .bool x11.1.1, .v (.sl (.int .i64)) x11.1.2, .v (.sl (.int .i64)) x11.2, .v .bool p0.2.2.1, .v .bool x7.1.1, .v (.sl (.int .i64)) x7.1.2, .v (.sl (.int .i64)) x7.2, .v .bool x9.1.1, .v (.sl (.int .i64)) x9.1.2, .v (.sl (.int .i64)) x9.2, .v (.int .i64) p0.2.1, .v .bool v21, .v (.int .u32) v22, .v .bool v23, .v (.sl (.int .i64)) v24, .v (.sl (.int .i64)) v25, .v .bool v26, .v (.sl (.int .i64)) v27, .v (.sl (.int .i64)) v28, .v .bool v38, .v (.int .u32) v39, .v .bool v40, .v (.sl (.int .i64)) v41, .v (.sl (.int .i64)) v42, .v .bool v43, .v (.sl (.int .i64)) v44, .v (.sl (.int .i64)) v45])], 93⟩ : St)) (fun _ => True) ?_ (fun _ _ => ?_)
    · replace h := hv
      clear hv
      refine T.seq ?_
      refine T.region ?_
      refine Run.go (Ev.fieldBox X rfl rfl rfl rfl rfl) ?_
      refine Run.go (Ev.loadCell X rfl rfl rfl rfl rfl rfl) ?_
      refine Run.nil ?_
      refine T.cond rfl (fun hb46 => ?_) (fun hb46 => ?_)
      · replace h := ifT hb46 h
        refine T.seq ?_
        refine T.region ?_
        refine Run.go (Ev.fieldBox X rfl rfl rfl rfl rfl) ?_
        refine Run.go (Ev.loadCell X rfl rfl rfl rfl rfl rfl) ?_
        obtain ⟨x47, e48, h⟩ := bdS h
        refine Run.go (Ev.e_qd e48 rfl rfl rfl) ?_
        refine Run.go (Ev.loadBox X rfl rfl rfl rfl rfl) ?_
        refine Run.go (Ev.loadBox X rfl rfl rfl rfl rfl) ?_
        refine Run.go (Ev.struct X pl41 rfl rfl rfl rfl rfl rfl rfl rfl) ?_
        refine Run.go (Ev.fieldBox X rfl rfl rfl rfl rfl) ?_
        refine Run.go (Ev.fieldBox X rfl rfl rfl rfl rfl) ?_
        refine Run.do_ (Ev.storeBox X rfl rfl rfl rfl rfl rfl rfl) ?_
        refine Run.nil ?_
        refine T.region ?_
        refine Run.go (Ev.fieldBox X rfl rfl rfl rfl rfl) ?_
        refine Run.go (Ev.loadCell X rfl rfl rfl rfl rfl rfl) ?_
        obtain ⟨x49, e50, h⟩ := bdS h
        refine Run.go (Ev.e_qd e50 rfl rfl rfl) ?_
        refine Run.go (Ev.loadBox X rfl rfl rfl rfl rfl) ?_
        refine Run.go (Ev.loadBox X rfl rfl rfl rfl rfl) ?_
        refine Run.go (Ev.struct X pl57 rfl rfl rfl rfl rfl rfl rfl rfl) ?_
        refine Run.go (Ev.fieldBox X rfl rfl rfl rfl rfl) ?_
        refine Run.go (Ev.fieldBox X rfl rfl rfl rfl rfl) ?_
        refine Run.do_ (Ev.storeBox X rfl rfl rfl rfl rfl rfl rfl) ?_
        refine Run.nil ?_
        cases h
        exact ⟨(), trivial, Ghost.onlyK [(2, 2), (3, 3), (16, 16), (17, 17)] [2, 3, 10, 11] rfl (by kernel_rfl)⟩
      · replace h := ifF hb46 h
        refine T.skip ?_
        cases h
        exact ⟨(), trivial, Ghost.trans (Ghost.nilvC (id := 17) (j := 29) (τ := (.int .i64)) rfl (by kernel_rfl)) (Ghost.trans (Ghost.nilvC (id := 17) (j := 30) (τ := (.int .i64)) rfl (by kernel_rfl)) (Ghost.trans (Ghost.nilvC (id := 17) (j := 32) (τ := (.int .i64)) rfl (by kernel_rfl)) (Ghost.trans (Ghost.nilvC (id := 17) (j := 33) (τ := (.int .i64)) rfl (by kernel_rfl)) (Ghost.trans (Ghost.nilvC (id := 16) (j := 29) (τ := (.int .u64)) rfl (by kernel_rfl)) (Ghost.trans (Ghost.nilvC (id := 16) (j := 30) (τ := (.int .u64)) rfl (by kernel_rfl)) (Ghost.trans (Ghost.nilvC (id := 16) (j := 32) (τ := (.int .u64)) rfl (by kernel_rfl)) (Ghost.trans (Ghost.nilvC (id := 16) (j := 33) (τ := (.int .u64)) rfl (by kernel_rfl)) (Ghost.onlyK [(2, 2), (3, 3), (16, 16), (17, 17)] [2, 3, 10, 11] rfl (by kernel_rfl)))))))))⟩
    · refine T.seq ?_
      refine T.drawE [([16], []), ([17], []), ([2], [2]), ([3], [3])] [0, 0, 1, 7] (by kernel_rfl) (by kernel_rfl) ?_
      refine RunE.go0 [16] (fun ô hô => Ev.loadBox X rfl (ka hô rfl rfl) rfl rfl rfl) rfl rfl ?_
      refine RunE.go0 [17] (fun ô hô => Ev.loadBox X rfl (ka hô rfl rfl) rfl rfl rfl) rfl rfl ?_
      refine RunE.do1 [2] (fun ô hô => Ev.storeBox X rfl (ka hô rfl rfl) rfl rfl rfl rfl rfl) rfl rfl ?_
      refine RunE.do1 [3] (fun ô hô => Ev.storeBox X rfl (ka hô rfl rfl) rfl rfl rfl rfl rfl) rfl rfl ?_
      refine RunE.nil ?_
      refine T.ret ?_
      cases h
      exact Fin.many X rfl (.cons (.cell rfl rfl rfl rfl) (.cons (.cell rfl rfl rfl rfl) .nil)) rfl
theorem en98 : Enters Tryz.prog 98 := ⟨_, Tryz.func98, rfl, rfl⟩
theorem k_digits_based {p0 : Int} {y : Int} (h : m_digits_based p0 = some y) : Spec Tryz.prog 98 [(.v (.int .i64) p0)] (.v (.int .i64) y) [] := by
  rw [m_digits_based] at h
  refine enterN [(.v (.int .i64) p0)] 9 Tryz.func98 rfl rfl rfl ?_
  refine T.seq ?_
  refine T.region ?_
  refine Run.go (Ev.assign rfl rfl) ?_
  refine Run.nil ?_
  refine T.seq ?_
  obtain ⟨v1, hv, h⟩ := bdS h
  refine T.cut (fun _ : Unit => (⟨[(8, .v .bool v1)], [], 9⟩ : St)) (fun _ => True) ?_ (fun _ _ => ?_)
  · replace h := hv
    clear hv
    refine T.region ?_
    refine Run.go (Ev.move rfl rfl) ?_
    refine Run.go (Ev.int rfl rfl rfl rfl trivial) ?_
    refine Run.go (Ev.move rfl rfl) ?_
    rcases boolCases (decide (p0 < 2)) with hb2 | hb2
    · replace h := ifT hb2 h
      refine Run.offT rfl rfl rfl rfl hb2 ?_
      refine Run.offT rfl rfl rfl rfl hb2 ?_
      refine Run.go (Ev.pickT rfl hb2 rfl rfl) ?_
      refine Run.nil ?_
      cases h
      exact ⟨(), trivial, Ghost.only [] [8] rfl⟩
    · replace h := ifF hb2 h
      refine Run.on rfl rfl rfl hb2 (Ev.move rfl rfl) ?_
      refine Run.on rfl rfl rfl hb2 (Ev.int rfl rfl rfl rfl trivial) ?_
      refine Run.go (Ev.pickF rfl hb2 rfl rfl) ?_
      refine Run.nil ?_
      cases h
      exact ⟨(), trivial, Ghost.only [] [8] rfl⟩
  · refine T.cond rfl (fun hb3 => ?_) (fun hb3 => ?_)
    · replace h := ifT hb3 h
      refine T.seq ?_
      refine T.region ?_
      refine Run.go (Ev.assign rfl rfl) ?_
      refine Run.nil ?_
      refine T.ret ?_
      cases h
      exact Fin.one rfl .v
    · replace h := ifF hb3 h
      refine T.skip ?_
      refine T.seq ?_
      refine T.region ?_
      refine Run.go (Ev.assign rfl rfl) ?_
      refine Run.nil ?_
      refine T.ret ?_
      cases h
      exact Fin.one rfl .v
theorem en99 : Enters Tryz.prog 99 := ⟨_, Tryz.func99, rfl, rfl⟩
theorem k_digits_chunk {p0 : Int} {y : Int × Int} (h : m_digits_chunk p0 = some y) : Spec Tryz.prog 99 [(.v (.int .i64) p0)] (.tup [.v (.int .u64) y.1, .v (.int .i64) y.2]) [] := by
  rw [m_digits_chunk] at h
  refine enterN [(.v (.int .i64) p0)] 21 Tryz.func99 rfl rfl rfl ?_
  refine T.seq ?_
  refine T.region ?_
  refine Run.go (Ev.assign rfl rfl) ?_
  refine Run.go (Ev.assign rfl rfl) ?_
  refine Run.nil ?_
  refine T.seq ?_
  refine T.region ?_
  refine Run.go (Ev.move rfl rfl) ?_
  refine Run.go (Ev.conv X rfl rfl rfl rfl) ?_
  refine Run.go (Ev.assign rfl rfl) ?_
  refine Run.go (Ev.assign rfl rfl) ?_
  refine Run.nil ?_
  obtain ⟨⟨v1, v2⟩, hv, h⟩ := bdS h
  refine T.cut (fun _ : Unit => (⟨[(4, .v (.int .u64) v1), (5, .v (.int .i64) v2)], [], 21⟩ : St)) (fun _ => True) ?_ (fun _ _ => ?_)
  · replace h := hv
    clear hv
    refine T.block ?_
    refine T.loop (LoopT.ghost (Ghost.only [] [0, 4, 5] rfl) (LoopT.run (fun q : Int × Int => (⟨[(0, .v (.int .i64) p0), (4, .v (.int .u64) q.1), (5, .v (.int .i64) q.2)], [], 21⟩ : St)) (fun q z1 h hz1 => ?_) h))
    obtain ⟨v3, v4⟩ := q
    dsimp only
    rw [m_digits_chunk_l1] at h
    refine T.seq ?_
    refine T.seq ?_
    refine T.region ?_
    refine Run.go (Ev.move rfl rfl) ?_
    refine Run.go (Ev.move rfl rfl) ?_
    refine Run.go (Ev.conv X rfl rfl rfl rfl) ?_
    refine Run.go (Ev.int rfl rfl rfl rfl trivial) ?_
    refine Run.go (Ev.int rfl rfl rfl rfl trivial) ?_
    refine Run.nil ?_
    refine T.cond rfl (fun hb5 => ?_) (fun hb5 => ?_)
    · replace h := ifT hb5 h
      refine T.skip ?_
      refine T.block ?_
      refine T.seq ?_
      refine T.region ?_
      refine Run.go (Ev.move rfl rfl) ?_
      refine Run.go (Ev.move rfl rfl) ?_
      refine Run.go (Ev.conv X rfl rfl rfl rfl) ?_
      refine Run.go (Ev.int rfl rfl rfl rfl trivial) ?_
      refine Run.go (Ev.assign rfl rfl) ?_
      refine Run.nil ?_
      refine T.region ?_
      refine Run.go (Ev.move rfl rfl) ?_
      refine Run.go (Ev.int rfl rfl rfl rfl trivial) ?_
      refine Run.go (Ev.assign rfl rfl) ?_
      refine Run.nil ?_
      cases h
      exact LoopT.ghost (Ghost.only [] [0, 4, 5] rfl) hz1
    · replace h := ifF hb5 h
      refine T.exit ?_
      cases h
      cases hz1
      exact ⟨(), trivial, Ghost.only [] [4, 5] rfl⟩
  · refine T.seq ?_
    refine T.region ?_
    refine Run.go (Ev.move rfl rfl) ?_
    refine Run.go (Ev.move rfl rfl) ?_
    refine Run.go (Ev.assign rfl rfl) ?_
    refine Run.go (Ev.assign rfl rfl) ?_
    refine Run.nil ?_
    refine T.ret ?_
    cases h
    exact Fin.many X rfl (.cons (.tmp .v) (.cons (.tmp .v) .nil)) rfl
theorem en86 : Enters Tryz.prog 86 := ⟨_, Tryz.func86, rfl, rfl⟩
theorem k_nat_trim {p0 : (List Int)} {y : (List Int)} (h : m_nat_trim p0 = some y) : Spec Tryz.prog 86 [(.v (.sl (.int .u64)) p0)] (.v (.sl (.int .u64)) y) [] := by
  rw [m_nat_trim] at h
  refine enterN [(.v (.sl (.int .u64)) p0)] 21 Tryz.func86 rfl rfl rfl ?_
  refine T.seq ?_
  refine T.region ?_
  refine Run.go (Ev.assign rfl rfl) ?_
  refine Run.nil ?_
  refine T.seq ?_
  refine T.region ?_
  refine Run.go (Ev.move rfl rfl) ?_
  refine Run.go (Ev.len X rfl rfl rfl rfl) ?_
  refine Run.go (Ev.assign rfl rfl) ?_
  refine Run.nil ?_
  obtain ⟨v1, hv, h⟩ := bdS h
  refine T.cut (fun _ : Unit => (⟨[(0, .v (.sl (.int .u64)) p0), (3, .v (.int .i64) v1)], [], 21⟩ : St)) (fun _ => True) ?_ (fun _ _ => ?_)
  · replace h := hv
    clear hv
    refine T.block ?_
    refine T.loop (LoopT.ghost (Ghost.only [] [0, 3] rfl) (LoopT.run (fun q : Int => (⟨[(0, .v (.sl (.int .u64)) p0), (3, .v (.int .i64) q)], [], 21⟩ : St)) (fun v2 z1 h hz1 => ?_) h))
    rw [m_nat_trim_l1] at h
    refine T.seq ?_
    obtain ⟨v3, hv, h⟩ := bdS h
    refine T.cut (fun _ : Unit => (⟨[(0, .v (.sl (.int .u64)) p0), (3, .v (.int .i64) v2), (15, .v .bool v3)], [], 21⟩ : St)) (fun _ => True) ?_ (fun _ _ => ?_)
    · replace h := hv
      clear hv
      refine T.region ?_
      refine Run.go (Ev.move rfl rfl) ?_
      refine Run.go (Ev.int rfl rfl rfl rfl trivial) ?_
      refine Run.go (Ev.move rfl rfl) ?_
      rcases boolCases (decide (0 < v2)) with hb4 | hb4
      · replace h := ifT hb4 h
        refine Run.on rfl rfl rfl hb4 (Ev.move rfl rfl) ?_
        refine Run.on rfl rfl rfl hb4 (Ev.move rfl rfl) ?_
        refine Run.on rfl rfl rfl hb4 (Ev.int rfl rfl rfl rfl trivial) ?_
        obtain ⟨x5, e6, h⟩ := bdS h
        refine Run.on rfl rfl rfl hb4 (Ev.e_rd X e6 rfl rfl rfl rfl) ?_
        refine Run.on rfl rfl rfl hb4 (Ev.load X rfl rfl rfl) ?_
        refine Run.on rfl rfl rfl hb4 (Ev.int rfl rfl rfl rfl trivial) ?_
        refine Run.go (Ev.pickT rfl hb4 rfl rfl) ?_
        refine Run.nil ?_
        cases h
        exact ⟨(), trivial, Ghost.only [] [0, 3, 15] rfl⟩
      · replace h := ifF hb4 h
        refine Run.offT rfl rfl rfl rfl hb4 ?_
        refine Run.offT rfl rfl rfl rfl hb4 ?_
        refine Run.offT rfl rfl rfl rfl hb4 ?_
        refine Run.offT rfl rfl rfl rfl hb4 ?_
        refine Run.offT rfl rfl rfl rfl hb4 ?_
        refine Run.offT rfl rfl rfl rfl hb4 ?_
        refine Run.go (Ev.pickF rfl hb4 rfl rfl) ?_
        refine Run.nil ?_
        cases h
        exact ⟨(), trivial, Ghost.only [] [0, 3, 15] rfl⟩
    · refine T.cond rfl (fun hb7 => ?_) (fun hb7 => ?_)
      · replace h := ifT hb7 h
        refine T.skip ?_
        refine T.block ?_
        refine T.region ?_
        refine Run.go (Ev.move rfl rfl) ?_
        refine Run.go (Ev.int rfl rfl rfl rfl trivial) ?_
        refine Run.go (Ev.assign rfl rfl) ?_
        refine Run.nil ?_
        cases h
        exact LoopT.ghost (Ghost.only [] [0, 3] rfl) hz1
      · replace h := ifF hb7 h
        refine T.exit ?_
        cases h
        cases hz1
        exact ⟨(), trivial, Ghost.only [] [0, 3] rfl⟩
  · refine T.seq ?_
    refine T.region ?_
    refine Run.go (Ev.move rfl rfl) ?_
    refine Run.go (Ev.move rfl rfl) ?_
    obtain ⟨x8, e9, h⟩ := bdS h
    refine Run.go (Ev.e_ct X e9 rfl rfl rfl (fun _ h => by cases h) (fun _ => rfl) (fun _ _ => cutAt_of rfl) (fun h => by cases h)) ?_
    refine Run.go (Ev.assign rfl rfl) ?_
    refine Run.nil ?_
    refine T.ret ?_
    cases h
    exact Fin.one rfl .v
theorem en93 : Enters Tryz.prog 93 := ⟨_, Tryz.func93, rfl, rfl⟩
theorem k_nat_Make {p0 : (List Int)} {y : (List Int) × Int} (h : m_nat_Make p0 = some y) : Spec Tryz.prog 93 [(.v (.sl (.int .u64)) p0)] (.tup [.v (.sl (.int .u64)) y.1, .v (.int .i64) y.2]) [] := by
  rw [m_nat_Make] at h
  refine enterN [(.v (.sl (.int .u64)) p0)] 25 Tryz.func93 rfl rfl rfl ?_
  refine T.seq ?_
  refine T.region ?_
  refine Run.go (Ev.assign rfl rfl) ?_
  refine Run.go (Ev.assign rfl rfl) ?_
  refine Run.nil ?_
  refine T.seq ?_
  refine T.region ?_
  refine Run.go (Ev.move rfl rfl) ?_
  refine Run.go (Ev.len X rfl rfl rfl rfl) ?_
  obtain ⟨x1, e2, h⟩ := bdS h
  refine Run.go (Ev.e_mk X 1 e2 rfl rfl rfl rfl rfl rfl) ?_
  refine Run.go (Ev.assign rfl rfl) ?_
  refine Run.nil ?_
  refine T.seq ?_
  refine T.seq ?_
  refine T.region ?_
  refine Run.go (Ev.move rfl rfl) ?_
  refine Run.go (Ev.len X rfl rfl rfl rfl) ?_
  refine Run.go (Ev.move rfl rfl) ?_
  refine Run.nil ?_
  refine T.block ?_
  refine T.loop (LoopT.ghost (Ghost.only [(1, 5)] [4, 10, 11, 12] rfl) (LoopT.run (fun q : Int × (List Int) => (⟨[(4, .own 5), (10, .v (.sl (.int .u64)) p0), (11, .v (.int .i64) ((p0.length : Int) : Int)), (12, .v (.int .i64) q.1)], [(5, .arr 104 (.int .u64) q.2)], 25⟩ : St)) (fun q z1 h hz1 => ?_) h))
  obtain ⟨v3, v4⟩ := q
  dsimp only
  rw [m_nat_Make_l1] at h
  refine T.seq ?_
  refine T.region ?_
  refine Run.go (Ev.int rfl rfl rfl rfl trivial) ?_
  refine Run.nil ?_
  refine T.seq ?_
  refine T.cond rfl (fun hb5 => ?_) (fun hb5 => ?_)
  · replace h := ifT hb5 h
    refine T.skip ?_
    refine T.seq ?_
    refine T.block ?_
    refine T.seq ?_
    refine T.region ?_
    obtain ⟨x6, e7, h⟩ := bdS h
    refine Run.go (Ev.e_rd X e7 rfl rfl rfl rfl) ?_
    refine Run.go (Ev.load X rfl rfl rfl) ?_
    refine Run.go (Ev.assign rfl rfl) ?_
    refine Run.nil ?_
    refine T.seq ?_
    refine T.seq ?_
    refine T.region ?_
    refine Run.go (Ev.move rfl rfl) ?_
    refine Run.go (Ev.int rfl rfl rfl rfl trivial) ?_
    refine Run.nil ?_
    refine T.cond rfl (fun hb8 => ?_) (fun hb8 => ?_)
    · replace h := ifT hb8 h
      refine T.seq ?_
      refine T.region ?_
      refine Run.go (Ev.assign rfl rfl) ?_
      refine Run.go (Ev.assign rfl rfl) ?_
      refine Run.nil ?_
      refine T.ret ?_
      cases h
      cases hz1
      exact Fin.many X rfl (.cons (.tmp .nilv) (.cons (.tmp .v) .nil)) rfl
    · replace h := ifF hb8 h
      refine T.skip ?_
      refine T.region ?_
      refine Run.go (Ev.move rfl rfl) ?_
      refine Run.go (Ev.move rfl rfl) ?_
      refine Run.go (Ev.build X 9 rfl rfl rfl rfl rfl rfl rfl rfl) ?_
      obtain ⟨x9, e10, h⟩ := bdS h
      refine Run.go (Ev.e_ap X 10 e10 rfl rfl rfl (.own rfl) rfl rfl rfl rfl rfl) ?_
      refine Run.go (Ev.assign rfl rfl) ?_
      refine Run.nil ?_
      refine T.region ?_
      refine Run.go (Ev.int rfl rfl rfl rfl trivial) ?_
      refine Run.go (Ev.move rfl rfl) ?_
      refine Run.nil ?_
      cases h
      exact LoopT.ghost (Ghost.only [(10, 5)] [4, 10, 11, 12] rfl) hz1
  · replace h := ifF hb5 h
    refine T.exit ?_
    refine T.seq ?_
    refine T.region ?_
    refine Run.go (Ev.move rfl rfl) ?_
    refine Run.ghost (Ghost.firmAll (id := 5) rfl) ?_
    obtain ⟨x11, e12, h⟩ := bdS h
    refine Run.go (Ev.callC en86 (k_nat_trim e12) rfl (.cons .v .nil) rfl rfl) ?_
    refine Run.go (Ev.assign rfl rfl) ?_
    refine Run.go (Ev.assign rfl rfl) ?_
    refine Run.nil ?_
    refine T.ret ?_
    cases h
    cases hz1
    exact Fin.many X rfl (.cons (.tmp .v) (.cons (.tmp .v) .nil)) rfl
theorem en109 : Enters Tryz.prog 109 := ⟨_, Tryz.func109, rfl, rfl⟩
theorem k_limb_Div {p0 : Int} {p1 : Int} {p2 : Int} {y : Int × Int × Int} (h : m_limb_Div p0 p1 p2 = some y) : Spec Tryz.prog 109 [(.v (.int .u64) p0), (.v (.int .u64) p1), (.v (.int .u64) p2)] (.tup [.v (.int .u64) y.1, .v (.int .u64) y.2.1, .v (.int .i64) y.2.2]) [] := by
  rw [m_limb_Div] at h
  refine enterN [(.v (.int .u64) p0), (.v (.int .u64) p1), (.v (.int .u64) p2)] 33 Tryz.func109 rfl rfl rfl ?_
  refine T.seq ?_
  refine T.region ?_
  refine Run.go (Ev.assign rfl rfl) ?_
  refine Run.go (Ev.assign rfl rfl) ?_
  refine Run.go (Ev.assign rfl rfl) ?_
  refine Run.nil ?_
  refine T.seq ?_
  refine T.region ?_
  refine Run.go (Ev.move rfl rfl) ?_
  refine Run.go (Ev.int rfl rfl rfl rfl trivial) ?_
  refine Run.go (Ev.move rfl rfl) ?_
  refine Run.go (Ev.int rfl rfl rfl rfl trivial) ?_
  refine Run.go (Ev.move rfl rfl) ?_
  refine Run.go (Ev.int rfl rfl rfl rfl trivial) ?_
  refine Run.go (Ev.assign rfl rfl) ?_
  refine Run.go (Ev.assign rfl rfl) ?_
  refine Run.go (Ev.assign rfl rfl) ?_
  refine Run.nil ?_
  refine T.seq ?_
  refine T.block ?_
  refine T.seq ?_
  refine T.region ?_
  refine Run.go (Ev.move rfl rfl) ?_
  refine Run.go (Ev.int rfl rfl rfl rfl trivial) ?_
  obtain ⟨x1, e2, h⟩ := ltS h
  refine Run.go (Ev.avs (Ev.assign rfl rfl) e2) ?_
  refine Run.nil ?_
  refine T.cond rfl (fun hb3 => ?_) (fun hb3 => ?_)
  · replace h := ifT hb3 h
    refine T.seq ?_
    refine T.region ?_
    refine Run.go (Ev.assign rfl rfl) ?_
    refine Run.go (Ev.assign rfl rfl) ?_
    refine Run.go (Ev.assign rfl rfl) ?_
    refine Run.nil ?_
    refine T.ret ?_
    cases h
    exact Fin.many X rfl (.cons (.tmp .v) (.cons (.tmp .v) (.cons (.tmp .v) .nil))) rfl
  · replace h := ifF hb3 h
    refine T.seq ?_
    refine T.region ?_
    refine Run.go (Ev.move rfl rfl) ?_
    refine Run.go (Ev.move rfl rfl) ?_
    refine Run.go (Ev.int rfl rfl rfl rfl trivial) ?_
    obtain ⟨x4, e5, h⟩ := ltS h
    refine Run.go (Ev.avs (Ev.assign rfl rfl) e5) ?_
    refine Run.nil ?_
    refine T.cond rfl (fun hb6 => ?_) (fun hb6 => ?_)
    · replace h := ifT hb6 h
      refine T.seq ?_
      refine T.region ?_
      refine Run.go (Ev.assign rfl rfl) ?_
      refine Run.go (Ev.assign rfl rfl) ?_
      refine Run.go (Ev.assign rfl rfl) ?_
      refine Run.nil ?_
      refine T.ret ?_
      cases h
      exact Fin.many X rfl (.cons (.tmp .v) (.cons (.tmp .v) (.cons (.tmp .v) .nil))) rfl
    · replace h := ifF hb6 h
      refine T.skip ?_
      refine T.seq ?_
      refine T.region ?_
      refine Run.go (Ev.move rfl rfl) ?_
      obtain ⟨x7, e8, h⟩ := bdS h
      refine Run.go (Ev.e_sh e8 rfl rfl rfl) ?_
      refine Run.go (Ev.move rfl rfl) ?_
      refine Run.go (Ev.int rfl rfl rfl rfl trivial) ?_
      obtain ⟨x9, e10, h⟩ := ltS h
      refine Run.go (Ev.avs (Ev.assign rfl rfl) e10) ?_
      refine Run.nil ?_
      refine T.seq ?_
      refine T.drawM [] [0, 0, 3, 0, 0, 24, 7, 127, 255] (by kernel_rfl) (by kernel_rfl) ?_
      refine RunD.w (fun _ => Ev.move rfl rfl) ?_
      refine RunD.w (fun _ => Ev.move rfl rfl) ?_
      obtain ⟨x11, e12, h⟩ := bdS h
      refine RunD.w (fun _ => Ev.e_qd e12 rfl rfl rfl) ?_
      refine RunD.w (fun _ => Ev.move rfl rfl) ?_
      refine RunD.w (fun _ => Ev.move rfl rfl) ?_
      obtain ⟨x13, e14, h⟩ := bdS h
      refine RunD.w (fun _ => Ev.e_rm e14 rfl rfl rfl) ?_
      refine RunD.w (fun _ => Ev.assign rfl rfl) ?_
      refine RunD.w (fun _ => Ev.assign rfl rfl) ?_
      refine RunD.w (fun _ => Ev.assign rfl rfl) ?_
      refine RunD.nil ?_
      refine T.ret ?_
      cases h
      exact Fin.many X rfl (.cons (.tmp .v) (.cons (.tmp .v) (.cons (.tmp .v) .nil))) rfl
theorem en100 : Enters Tryz.prog 100 := ⟨_, Tryz.func100, rfl, rfl⟩
set_option maxHeartbeats 1000000 in
theorem k_divide_Small {p0 : (List Int)} {p1 : Int} {y : (List Int) × Int × Int} (h : m_divide_Small p0 p1 = some y) : Spec Tryz.prog 100 [(.v (.sl (.int .u64)) p0), (.v (.int .u64) p1)] (.tup [.v (.sl (.int .u64)) y.1, .v (.int .u64) y.2.1, .v (.int .i64) y.2.2]) [] := by
  rw [m_divide_Small] at h
  refine enterN [(.v (.sl (.int .u64)) p0), (.v (.int .u64) p1)] 51 Tryz.func100 rfl rfl rfl ?_
  refine T.seq ?_
  refine T.region ?_
  refine Run.go (Ev.assign rfl rfl) ?_
  refine Run.go (Ev.assign rfl rfl) ?_
  refine Run.go (Ev.assign rfl rfl) ?_
  refine Run.nil ?_
  refine T.seq ?_
  refine T.seq ?_
  refine T.region ?_
  refine Run.go (Ev.move rfl rfl) ?_
  obtain ⟨x1, e2, h⟩ := bdS h
  refine Run.go (Ev.e_rm e2 rfl rfl rfl) ?_
  refine Run.go (Ev.int rfl rfl rfl rfl trivial) ?_
  refine Run.nil ?_
  refine T.cond rfl (fun hb3 => ?_) (fun hb3 => ?_)
  · replace h := ifT hb3 h
    refine T.seq ?_
    refine T.region ?_
    refine Run.go (Ev.assign rfl rfl) ?_
    refine Run.go (Ev.assign rfl rfl) ?_
    refine Run.go (Ev.assign rfl rfl) ?_
    refine Run.nil ?_
    refine T.ret ?_
    cases h
    exact Fin.many X rfl (.cons (.tmp .nilv) (.cons (.tmp .v) (.cons (.tmp .v) .nil))) rfl
  · replace h := ifF hb3 h
    refine T.skip ?_
    refine T.seq ?_
    refine T.region ?_
    refine Run.go (Ev.move rfl rfl) ?_
    refine Run.go (Ev.len X rfl rfl rfl rfl) ?_
    obtain ⟨x4, e5, h⟩ := bdS h
    refine Run.go (Ev.e_mk X 1 e5 rfl rfl rfl rfl rfl rfl) ?_
    refine Run.go (Ev.assign rfl rfl) ?_
    refine Run.nil ?_
    refine T.seq ?_
    refine T.region ?_
    refine Run.go (Ev.assign rfl rfl) ?_
    refine Run.nil ?_
    obtain ⟨⟨v6, v7⟩, hv, h⟩ := bdS h
    refine T.cut (fun _ : Unit => (⟨[(7, .own 1), (8, .v (.int .u64) v6)], [(1, .arr 104 (.int .u64) v7)], 51⟩ : St)) (fun _ => True) ?_ (fun _ _ => ?_)
    · replace h := hv
      clear hv
      refine T.seq ?_
      refine T.region ?_
      refine Run.go (Ev.move rfl rfl) ?_
      refine Run.go (Ev.len X rfl rfl rfl rfl) ?_
      refine Run.go (Ev.move rfl rfl) ?_
      refine Run.nil ?_
      refine T.block ?_
      refine T.loop (LoopT.ghost (Ghost.only [(1, 1)] [0, 1, 7, 8, 20, 21] rfl) (LoopT.run (fun q : Int × Int × (List Int) => (⟨[(0, .v (.sl (.int .u64)) p0), (1, .v (.int .u64) p1), (7, .own 1), (8, .v (.int .u64) q.1), (20, .v (.int .i64) ((p0.length : Int) : Int)), (21, .v (.int .i64) q.2.1)], [(1, .arr 104 (.int .u64) q.2.2)], 51⟩ : St)) (fun q z1 h hz1 => ?_) h))
      obtain ⟨v8, v9, v10⟩ := q
      dsimp only
      rw [m_divide_Small_l1] at h
      refine T.seq ?_
      refine T.region ?_
      refine Run.go (Ev.int rfl rfl rfl rfl trivial) ?_
      refine Run.nil ?_
      refine T.seq ?_
      refine T.cond rfl (fun hb11 => ?_) (fun hb11 => ?_)
      · replace h := ifT hb11 h
        refine T.skip ?_
        refine T.seq ?_
        refine T.block ?_
        refine T.seq ?_
        refine T.region ?_
        refine Run.go (Ev.move rfl rfl) ?_
        refine Run.go (Ev.assign rfl rfl) ?_
        refine Run.nil ?_
        refine T.seq ?_
        refine T.region ?_
        refine Run.go (Ev.move rfl rfl) ?_
        refine Run.go (Ev.len X rfl rfl rfl rfl) ?_
        refine Run.go (Ev.int rfl rfl rfl rfl trivial) ?_
        refine Run.go (Ev.move rfl rfl) ?_
        refine Run.go (Ev.int rfl rfl rfl rfl trivial) ?_
        obtain ⟨x12, e13, h⟩ := ltS h
        refine Run.go (Ev.avs (Ev.assign rfl rfl) e13) ?_
        refine Run.nil ?_
        refine T.region ?_
        refine Run.go (Ev.move rfl rfl) ?_
        refine Run.go (Ev.move rfl rfl) ?_
        refine Run.go (Ev.move rfl rfl) ?_
        refine Run.go (Ev.move rfl rfl) ?_
        refine Run.go (Ev.move rfl rfl) ?_
        obtain ⟨x14, e15, h⟩ := bdS h
        refine Run.go (Ev.e_rd X e15 rfl rfl rfl rfl) ?_
        refine Run.go (Ev.load X rfl rfl rfl) ?_
        refine Run.go (Ev.move rfl rfl) ?_
        obtain ⟨x16, e17, h⟩ := bdS h
        refine Run.go (Ev.callC en109 (k_limb_Div e17) rfl (.cons .v (.cons .v (.cons .v .nil))) rfl rfl) ?_
        refine Run.go (Ev.move rfl rfl) ?_
        refine Run.go (Ev.extract rfl rfl rfl) ?_
        refine Run.go (Ev.extract rfl rfl rfl) ?_
        refine Run.go (Ev.extract rfl rfl rfl) ?_
        obtain ⟨j18, e19, h⟩ := bdS h
        refine Run.go (Ev.e_ixO X e19 rfl rfl rfl rfl rfl) ?_
        obtain ⟨x20, e21, h⟩ := ltS h
        refine Run.do_ (Ev.asO (Ev.storeEl X rfl rfl rfl rfl rfl) e21) ?_
        refine Run.go (Ev.assign rfl rfl) ?_
        refine Run.nil ?_
        refine T.region ?_
        refine Run.go (Ev.int rfl rfl rfl rfl trivial) ?_
        refine Run.go (Ev.move rfl rfl) ?_
        refine Run.nil ?_
        cases h
        exact LoopT.ghost (Ghost.only [(1, 1)] [0, 1, 7, 8, 20, 21] rfl) hz1
      · replace h := ifF hb11 h
        refine T.exit ?_
        cases h
        cases hz1
        exact ⟨(), trivial, Ghost.only [(1, 1)] [7, 8] rfl⟩
    · refine T.seq ?_
      refine T.region ?_
      refine Run.go (Ev.move rfl rfl) ?_
      refine Run.ghost (Ghost.firmAll (id := 1) rfl) ?_
      obtain ⟨x22, e23, h⟩ := bdS h
      refine Run.go (Ev.callC en93 (k_nat_Make e23) rfl (.cons .v .nil) rfl rfl) ?_
      refine Run.go (Ev.move rfl rfl) ?_
      refine Run.go (Ev.extract rfl rfl rfl) ?_
      refine Run.go (Ev.extract rfl rfl rfl) ?_
      refine Run.go (Ev.assign rfl rfl) ?_
      refine Run.go (Ev.assign rfl rfl) ?_
      refine Run.nil ?_
      refine T.seq ?_
      refine T.region ?_
      refine Run.go (Ev.move rfl rfl) ?_
      refine Run.go (Ev.move rfl rfl) ?_
      refine Run.go (Ev.assign rfl rfl) ?_
      refine Run.go (Ev.assign rfl rfl) ?_
      refine Run.go (Ev.assign rfl rfl) ?_
      refine Run.nil ?_
      refine T.ret ?_
      cases h
      exact Fin.many X rfl (.cons (.tmp .v) (.cons (.tmp .v) (.cons (.tmp .v) .nil))) rfl
theorem en101 : Enters Tryz.prog 101 := ⟨_, Tryz.func101, rfl, rfl⟩
theorem k_digits_piece {p0 : Int} {p1 : Int} {p2 : Int} {y : ByteArray} (h : m_digits_piece p0 p1 p2 = some y) : Spec Tryz.prog 101 [(.v (.int .u64) p0), (.v (.int .i64) p1), (.v (.int .i64) p2)] (.v .str y) [] := by
  rw [m_digits_piece] at h
  refine enterN [(.v (.int .u64) p0), (.v (.int .i64) p1), (.v (.int .i64) p2)] 33 Tryz.func101 rfl rfl rfl ?_
  refine T.seq ?_
  refine T.region ?_
  refine Run.go (Ev.assign rfl rfl) ?_
  refine Run.nil ?_
  refine T.seq ?_
  refine T.region ?_
  refine Run.go (Ev.move rfl rfl) ?_
  obtain ⟨x1, e2, h⟩ := bdS h
  refine Run.go (Ev.e_mk X 1 e2 rfl rfl rfl rfl rfl rfl) ?_
  refine Run.go (Ev.assign rfl rfl) ?_
  refine Run.nil ?_
  obtain ⟨v3, hv, h⟩ := bdS h
  refine T.cut (fun _ : Unit => (⟨[(7, .own 1)], [(1, .arr 5 (.int .u8) v3)], 33⟩ : St)) (fun _ => True) ?_ (fun _ _ => ?_)
  · replace h := hv
    clear hv
    refine T.seq ?_
    refine T.region ?_
    refine Run.go (Ev.move rfl rfl) ?_
    refine Run.go (Ev.move rfl rfl) ?_
    refine Run.nil ?_
    refine T.block ?_
    refine T.loop (LoopT.ghost (Ghost.only [(1, 1)] [0, 1, 2, 7, 11, 12] rfl) (LoopT.run (fun q : Int × Int × (List Int) => (⟨[(0, .v (.int .u64) q.1), (1, .v (.int .i64) p1), (2, .v (.int .i64) p2), (7, .own 1), (11, .v (.int .i64) p2), (12, .v (.int .i64) q.2.1)], [(1, .arr 5 (.int .u8) q.2.2)], 33⟩ : St)) (fun q z1 h hz1 => ?_) h))
    obtain ⟨v4, v5, v6⟩ := q
    dsimp only
    rw [m_digits_piece_l1] at h
    refine T.seq ?_
    refine T.region ?_
    refine Run.go (Ev.int rfl rfl rfl rfl trivial) ?_
    refine Run.nil ?_
    refine T.seq ?_
    refine T.cond rfl (fun hb7 => ?_) (fun hb7 => ?_)
    · replace h := ifT hb7 h
      refine T.skip ?_
      refine T.seq ?_
      refine T.block ?_
      refine T.seq ?_
      refine T.region ?_
      refine Run.go (Ev.move rfl rfl) ?_
      refine Run.go (Ev.assign rfl rfl) ?_
      refine Run.nil ?_
      refine T.seq ?_
      refine T.region ?_
      refine Run.go (Ev.move rfl rfl) ?_
      refine Run.go (Ev.move rfl rfl) ?_
      refine Run.go (Ev.int rfl rfl rfl rfl trivial) ?_
      refine Run.go (Ev.move rfl rfl) ?_
      refine Run.go (Ev.int rfl rfl rfl rfl trivial) ?_
      refine Run.go (Ev.move rfl rfl) ?_
      refine Run.go (Ev.move rfl rfl) ?_
      refine Run.go (Ev.conv X rfl rfl rfl rfl) ?_
      obtain ⟨x8, e9, h⟩ := bdS h
      refine Run.go (Ev.e_rm e9 rfl rfl rfl) ?_
      obtain ⟨x10, e11, h⟩ := bdS h
      refine Run.go (Ev.e_bt X e11 rfl rfl rfl rfl) ?_
      obtain ⟨j12, e13, h⟩ := bdS h
      refine Run.go (Ev.e_ixO X e13 rfl rfl rfl rfl rfl) ?_
      obtain ⟨x14, e15, h⟩ := ltS h
      refine Run.do_ (Ev.asO (Ev.storeEl X rfl rfl rfl rfl rfl) e15) ?_
      refine Run.nil ?_
      refine T.region ?_
      refine Run.go (Ev.move rfl rfl) ?_
      refine Run.go (Ev.move rfl rfl) ?_
      refine Run.go (Ev.conv X rfl rfl rfl rfl) ?_
      obtain ⟨x16, e17, h⟩ := bdS h
      refine Run.go (Ev.e_qd e17 rfl rfl rfl) ?_
      refine Run.go (Ev.assign rfl rfl) ?_
      refine Run.nil ?_
      refine T.region ?_
      refine Run.go (Ev.int rfl rfl rfl rfl trivial) ?_
      refine Run.go (Ev.move rfl rfl) ?_
      refine Run.nil ?_
      cases h
      exact LoopT.ghost (Ghost.only [(1, 1)] [0, 1, 2, 7, 11, 12] rfl) hz1
    · replace h := ifF hb7 h
      refine T.exit ?_
      cases h
      cases hz1
      exact ⟨(), trivial, Ghost.only [(1, 1)] [7] rfl⟩
  · refine T.seq ?_
    refine T.region ?_
    refine Run.go (Ev.move rfl rfl) ?_
    refine Run.ghost (Ghost.firmAll (id := 1) rfl) ?_
    refine Run.go (Ev.e_b2s (e := 0) X rfl rfl rfl rfl) ?_
    refine Run.go (Ev.assign rfl rfl) ?_
    refine Run.nil ?_
    refine T.ret ?_
    cases h
    exact Fin.one rfl .v
theorem k_strings_Builder_copyCheck_M {o1_0 : Bool} {o2 : (List Int)} {y : Bool} (h : m_strings_Builder_copyCheck_M o1_0 o2 = some y) : SpecM Tryz.prog 56 [(.box 1 0)] [(1, .box [.pn o1_0 1 0 94, .owz 2]), (2, .arr 5 (.int .u8) o2)] (.tup []) [(1, .box [.pn y 1 0 94, .owz 2]), (2, .arr 5 (.int .u8) o2)] := by
  rw [m_strings_Builder_copyCheck_M] at h
  refine SpecM.enter 100000 [(.box 1 0)] 20 Tryz.func56 rfl rfl rfl rfl (fun L => ?_)
  refine T.seq ?_
  refine T.region ?_
  refine Run.go (Ev.move rfl rfl) ?_
  refine Run.go (Ev.e_nc rfl rfl rfl rfl) ?_
  refine Run.go (Ev.fieldBoxN fo94_0 sz91 rfl rfl rfl rfl) ?_
  refine Run.go (Ev.loadOne sz91 rfl rfl rfl rfl) ?_
  refine Run.go (Ev.e_pnil pt91 (.inl ⟨rfl, rfl⟩) rfl (.pn rfl) rfl rfl) ?_
  refine Run.nil ?_
  refine T.cond rfl (fun hb1 => ?_) (fun hb1 => ?_)
  · replace h := ifT hb1 h
    refine T.region ?_
    refine Run.go (Ev.move rfl rfl) ?_
    refine Run.go (Ev.move rfl rfl) ?_
    refine Run.go (Ev.e_toU up91_142 rfl rfl rfl rfl) ?_
    refine Run.go (Ev.e_noesc ne78 rfl rfl rfl) ?_
    refine Run.go (Ev.e_fromU ul142_91_94_2 rfl rfl rfl) ?_
    refine Run.go (Ev.e_nc rfl rfl rfl rfl) ?_
    refine Run.go (Ev.fieldBoxN fo94_0 sz91 rfl rfl rfl rfl) ?_
    refine Run.do_ (Ev.e_stPn sz91 rfl rfl rfl) ?_
    refine Run.nil ?_
    cases h
    exact FinM.of 100000 [(1, 1), (2, 2)] (inlR.many' (X := X) rfl .nil rfl) rfl rfl rfl rfl ⟨(.inl ⟨rfl, _, rfl, .box, fun _ => rfl⟩), (.inl ⟨rfl, _, rfl, .refl, fun _ => rfl⟩), trivial⟩
  · replace h := ifF hb1 h
    refine T.seq ?_
    refine T.region ?_
    refine Run.go (Ev.move rfl rfl) ?_
    refine Run.go (Ev.e_nc rfl rfl rfl rfl) ?_
    refine Run.go (Ev.fieldBoxN fo94_0 sz91 rfl rfl rfl rfl) ?_
    refine Run.go (Ev.loadOne sz91 rfl rfl rfl rfl) ?_
    refine Run.go (Ev.move rfl rfl) ?_
    refine Run.go (Ev.e_pself pt91 (.inr ⟨rfl, rfl⟩) rfl rfl rfl rfl) ?_
    refine Run.nil ?_
    refine T.condF rfl hb1 ?_
    refine T.skip ?_
    cases h
    exact FinM.of 100000 [(1, 1), (2, 2)] (inlR.many' (X := X) rfl .nil rfl) rfl rfl rfl rfl ⟨(.inl ⟨rfl, _, rfl, .box, fun _ => rfl⟩), (.inl ⟨rfl, _, rfl, .refl, fun _ => rfl⟩), trivial⟩
end Go.Proofs.YtkjkipkfndckfaaGreatDoor.AE
