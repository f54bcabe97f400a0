/- The code comes to the printed functions (printed by a program of ours). -/
import Derived.Test.YtboghejfmmigkaaDoorQAB22
import Derived.Lib.AppendStr
import Derived.Lib.UnsafeStr
import Derived.Laws.Externs
import Derived.Lib.Bytealg
import Derived.Test.YtboghejfmmigkaaDoorProg
import Derived.RangeFuncNested
import Derived.RangeFuncBound
import Derived.RangeFuncCalls
import Derived.RangeFuncLeaves
import Derived.RangeFuncBox
import Derived.Shelf.Abstract
import Derived.Shelf.RegionOpen
import Derived.WalkKit
import Derived.OwnWalkIn
import Derived.TacticsInMore
import Derived.LoopNIn
import Derived.LoopIn
import Derived.Maps.AppendAt
/- The text builder: appends of texts to bytes, unsafe ways from bytes to a text, a pointer turned and turned back. -/
namespace Go.Proofs.YtboghejfmmigkaaDoor.AE
open Go Go.RowKit Go.Proofs.YtboghejfmmigkaaDoor.AP
set_option linter.unusedSimpArgs false
set_option linter.unusedVariables false

theorem flat_str {w : World} {M : Nat → Prop} (b : ByteArray) : Flat w M (.int .u8) (by_ b) (Lib.strCells b) := by
  unfold by_ Lib.strCells
  generalize b.data.toList = l
  induction l with
  | nil => rfl
  | cons x l ih => exact ⟨[.int .u8 (x.toNat : Int)], _, rfl, rfl, ih⟩
theorem by_length (b : ByteArray) : (by_ b).length = b.size := by
  unfold by_
  rw [List.length_map, Array.length_toList]
  rfl
section
variable {P : Program} {s : List (Nat × AV)} {o : Objs} {n d : Nat} {ty : TypeId} {pos : String} {after : Array Edge} {gd : Option (Nat × Bool)} {t t' : TypeId} {x y : Operand}
theorem run_app2 (ρ : Operand → Value) (x y : Operand) (t t' : TypeId) {u : Value} {w w' : World} (h : (Builtin.append_ #[t, t'] ty #[ρ x, ρ y]).run P w = .ok u w') :
    (execOp ρ ⟨some d, .call ⟨.builtin .append, #[x, y], #[t, t']⟩, ty, pos, after, gd⟩).run P w = .ok (.value u) w' := by
  simp only [execOp, resolve]
  simp [invoke, builtin, h]
theorem append_coreS (z : Bool) (X : Cx P) (id' : Nat) {id E : Nat} {l : List Int} {b : ByteArray} {N : Nat → Prop} {w0 : Base} {loc : Nat → Nat × Nat} {a : Act} {w : World} {F : Nat → AV} (hs : SatF N w0 o n F loc a w) (hX0 : AV.rel w (Muts N loc o) loc o (if z then .owz id else .own id) (a.eval x)) (hY : a.eval y = .string b) (ho : lookO o id = some (.arr E (.int .u8) l)) (ht : X.ty t = some (.sl (.int .u8))) (ht' : X.ty t' = some .str) (he : X.el t = some (E, 1))
    (hid' : lookO o id' = none) (hd : Nat.blt d n = true) (hfit : l.length + b.size ≤ 140737488355328) (Q : Exit → Act → World → Prop) (K : Act → World → Prop)
    (hK : ∀ loc' a' w', SatF N w0 ((id', .arr E (.int .u8) (l ++ by_ b)) :: (id, .dead) :: o) n (upd F (some d) (if z then .owz id' else .own id')) loc' a' w' → K a' w') :
    Oper.wp P ⟨some d, .call ⟨.builtin .append, #[x, y], #[t, t']⟩, ty, pos, after, gd⟩ a w K Q := by
  obtain ⟨A0, hX, hA0, hAz⟩ : ∃ A0, a.eval x = .slice A0 l.length (loc id).2 ∧ (0 < (loc id).2 → A0 = some ⟨(loc id).1, 0, none⟩) ∧ (z = true → (loc id).2 = 0 → A0 = none) := by
    cases z with
    | false => obtain ⟨A0, h1, h2⟩ := own_at ho hX0; exact ⟨A0, h1, h2, fun h => by cases h⟩
    | true =>
      have hX0 : AV.rel w (Muts N loc o) loc o (.owz id) (a.eval x) := hX0
      rw [AV.rel] at hX0
      obtain ⟨ob, h1, h2⟩ := hX0
      rw [ho] at h1; cases h1
      obtain ⟨A0, e1, e2, e3⟩ := h2 _ _ _ rfl
      exact ⟨A0, e1, e2, fun _ => e3⟩
  have hob := hs.rep.obs id _ ho
  obtain ⟨hu, hbi⟩ := X.elok t E 1 he
  obtain ⟨e, hu', hi⟩ := (X.ok _ _ ht).desc
  rw [hu] at hu'
  cases hu'
  have hut : P.underlying t' = some .string := (X.ok _ _ ht').desc
  obtain ⟨f, z, hf, hfs, hz, hzc, _⟩ := hi.info
  rw [hf] at hbi
  have hfb : f.bytes = 1 := Option.some.inj hbi
  have hfs : f.size = 1 := hfs
  have hz0 : z = .int .u8 0 := by
    obtain ⟨z', h1, h2, h3⟩ := hi.run_zero w
    have : z' = z := by
      simp [zeroValue, typeInfo, hf, hz] at h1
      exact h1.symm
    rw [← this, h3]; rfl
  subst hz0
  have hle : l.length ≤ (loc id).2 := hob.1
  have hmx : (loc id).2 ≤ maxL := hob.2.1
  have hbl := by_length b
  have rel_new : ∀ (g c : Nat) (w' : World) (A2 : Option Addr), (0 < c → A2 = some ⟨g, 0, none⟩) → (z = true → c = 0 → A2 = none) → AV.rel w' (Muts N (put2 loc id' g c) ((id', .arr E (.int .u8) (l ++ by_ b)) :: (id, .dead) :: o)) (put2 loc id' g c) ((id', .arr E (.int .u8) (l ++ by_ b)) :: (id, .dead) :: o) (if z then .owz id' else .own id') (.slice A2 (l.length + b.size) c) := by
    intro g c w' A2 h2 h3
    have e9 : l.length + b.size = (l ++ by_ b).length := by rw [List.length_append, hbl]
    cases z with
    | false =>
      show AV.rel _ _ _ _ (.own id') _
      rw [AV.rel]
      refine ⟨_, by rw [lookO_cons, if_pos rfl], fun E' t' l' e => ?_⟩
      cases e
      rw [put2_same]
      exact ⟨A2, congrArg (fun z => Value.slice A2 z c) e9, h2⟩
    | true =>
      show AV.rel _ _ _ _ (.owz id') _
      rw [AV.rel]
      refine ⟨_, by rw [lookO_cons, if_pos rfl], fun E' t' l' e => ?_⟩
      cases e
      rw [put2_same]
      exact ⟨A2, congrArg (fun z => Value.slice A2 z c) e9, h2, h3 rfl⟩
  have fin : ∀ (base g c : Nat) (w' : World) (xs : List Value), Flat w (Muts N loc o) (.int .u8) l xs → w'.ownsRow base E 1 (.slice (some ⟨g, 0, none⟩) (l.length + b.size) c) (l.length + b.size) (xs ++ Lib.strCells b) → (0 < c → w.heap.size ≤ g ∨ (0 < (loc id).2 ∧ g = (loc id).1)) → (z = true → 0 < c) →
      w'.os = w.os → w'.tape = w.tape → w'.output = w.output → w.heap.size ≤ w'.heap.size → (∀ k, k < w.heap.size → (0 < (loc id).2 → k ≠ (loc id).1) → w'.heap[k]? = w.heap[k]?) →
      (Builtin.append_ #[t, t'] ty #[a.eval x, a.eval y]).run P w = .ok (.slice (some ⟨g, 0, none⟩) (l.length + b.size) c) w' →
      Oper.wp P ⟨some d, .call ⟨.builtin .append, #[x, y], #[t, t']⟩, ty, pos, after, gd⟩ a w K Q := by
    intro base g c w' xs hxs hown hg hz9 h1 h2 h3 h4 h5 hrun
    unfold Oper.wp
    rw [run_app2 _ _ _ _ _ hrun]
    obtain ⟨hlen, hown⟩ := hown
    rcases hown with ⟨h, _⟩ | ⟨g', cap, cur, hv, _, hcur, hle, hmax, hcs, htk⟩
    · cases h
    injection hv with e1 _ e3
    subst e3
    obtain rfl : g = g' := congrArg Addr.block (Option.some.inj e1)
    rw [maxL_eq] at hmax
    have hlen2 : (l ++ by_ b).length = l.length + b.size := by rw [List.length_append, hbl]
    have := hs.move (w' := w') (id' := id') (g := g) (c := c) (ob' := .arr E (.int .u8) (l ++ by_ b)) ho rfl hid' hg h1 h2 h3 h4 h5 (fun M' loc' o' hk ht => flat_arr (t := .int .u8) (Nat.le_trans (Nat.le_of_eq hlen2) hle) hmax (fun _ => ⟨hcur, hcs, (hxs.append (flat_str b)).keeps hk, by have h9 := htk; rw [← hlen2] at h9; exact h9⟩))
    exact hK _ _ _ (this.put hd (rel_new g c w' _ (fun _ => rfl) (fun hz hc => absurd hc (by have := hz9 hz; omega))))
  have hmaxl : l.length + b.size ≤ maxLen := by rw [maxL_eq]; simp only [maxL]; omega
  by_cases hc : 0 < (loc id).2
  · have hA0 := hA0 hc
    subst hA0
    obtain ⟨cur, vs, hcur, hcs, hvs, htk⟩ := arr_flat hob hc
    have hown : w.ownsRow 0 E 1 (a.eval x) l.length vs := ⟨hvs.len, .inr ⟨_, _, cur, hX, Nat.zero_le _, hcur, hob.1, by rw [maxL_eq]; exact hob.2.1, hcs, htk⟩⟩
    obtain ⟨v', w', hrun, hown', hgrow, _⟩ := Lib.run_append_own_string (P := P) w 0 t t' ty E f hu hut hf hz hfs hfb (a.eval x) l.length vs hown b hmaxl hfit (Nat.zero_le _)
    have hat : (∃ c, 0 < c ∧ v' = .slice (some ⟨(loc id).1, 0, none⟩) (l.length + b.size) c) ∨ (∃ c, 0 < c ∧ v' = .slice (some ⟨w.heap.size, 0, none⟩) (l.length + b.size) c) := by
      by_cases hroom : l.length + b.size ≤ (loc id).2
      · have hcs1 : cur.size = (loc id).2 * 1 := hcs
        have := Lib.run_append_room_string (P := P) w t t' ty E f hu hut hf hfs (loc id).1 l.length (loc id).2 cur hcur b hroom (by omega)
        rw [hX] at hrun
        have this := hrun.symm.trans this
        cases this
        exact .inl ⟨_, hc, rfl⟩
      · have holds : ∀ j u, vs[j]? = some u → w.cell? ((⟨(loc id).1, 0, none⟩ : Addr).add j) = some u := hown.cells (g := (loc id).1) (by rw [hX]; rfl)
        have := Lib.run_append_grow_string (P := P) w t t' ty E f (.int .u8 0) hu hut hf hz ⟨(loc id).1, 0, none⟩ l.length (loc id).2 vs (by rw [hfs]; exact hvs.len) holds b (by omega) (by omega) (by rw [hfb]; exact growslice_fits (by omega) (by omega))
        rw [hX] at hrun
        have this := hrun.symm.trans this
        cases this
        exact .inr ⟨_, by have := grownCap_ge w (l.length + b.size) (loc id).2 E; omega, rfl⟩
    have hblk : ∀ k, k < w.heap.size → (0 < (loc id).2 → k ≠ (loc id).1) → w'.heap[k]? = w.heap[k]? := fun k hk hne => hgrow.block k hk (fun e => by
      rw [hX] at e
      simp only [Value.ownBlock, Option.some.injEq] at e
      exact hne hc e)
    rcases hat with ⟨c, hcp, rfl⟩ | ⟨c, hcp, rfl⟩
    · exact fin 0 _ c w' vs hvs hown' (fun _ => .inr ⟨hc, rfl⟩) (fun _ => hcp) hgrow.os hgrow.tape hgrow.output hgrow.size hblk (by rw [hY]; exact hrun)
    · exact fin 0 _ c w' vs hvs hown' (fun _ => .inl (Nat.le_refl _)) (fun _ => hcp) hgrow.os hgrow.tape hgrow.output hgrow.size hblk (by rw [hY]; exact hrun)
  · have hl0 : l = [] := List.eq_nil_of_length_eq_zero (by omega)
    subst hl0
    have hc0 : (loc id).2 = 0 := by omega
    rw [hc0] at hX
    have hX : a.eval x = .slice A0 0 0 := hX
    by_cases hb : b.size = 0
    · have hb0 : by_ b = [] := List.eq_nil_of_length_eq_zero (by omega)
      have hrun : (Builtin.append_ #[t, t'] ty #[a.eval x, a.eval y]).run P w = .ok (.slice A0 0 0) w := by
        rw [hX, hY]
        have h2 := Lib.run_firstCells_string (P := P) w 1 b
        rw [hb] at h2
        have h3 : Lib.strCells b = [] := List.eq_nil_of_length_eq_zero (by rw [Lib.strCells_length]; exact hb)
        rw [h3] at h2
        cases A0 <;> simp [Builtin.append_, run_underlying hu, run_underlying hut, sizeOf, typeInfo, hf, hfs, Builtin.lenOf, hb, h2, storeCells]
      unfold Oper.wp
      rw [run_app2 _ _ _ _ _ hrun]
      have := hs.move (w' := w) (id' := id') (g := (loc id).1) (c := 0) (ob' := .arr E (.int .u8) ([] ++ by_ b)) ho rfl hid' (fun h => absurd h (Nat.lt_irrefl _)) rfl rfl rfl (Nat.le_refl _) (fun _ _ _ => rfl) (fun M' loc' o' hk ht => by
        rw [hb0]
        exact flat_arr (t := .int .u8) (vs := []) (cur := #[]) (Nat.le_refl _) (Nat.zero_le _) (fun h => absurd h (Nat.lt_irrefl _)))
      have hr := rel_new (loc id).1 0 w A0 (fun h => absurd h (Nat.lt_irrefl _)) (fun hz _ => hAz hz hc0)
      rw [hb] at hr
      exact hK _ _ _ (this.put hd hr)
    · cases A0 with
      | none =>
        have hown : w.ownsRow 0 E 1 (a.eval x) 0 [] := by rw [hX]; exact World.ownsRow_nil w 0 E 1
        obtain ⟨v', w', hrun, hown', hgrow, _⟩ := Lib.run_append_own_string (P := P) w 0 t t' ty E f hu hut hf hz hfs hfb (a.eval x) 0 [] hown b (by simpa using hmaxl) (by simpa using hfit) (Nat.zero_le _)
        have := run_append_nil_string (P := P) w t t' ty E f (.int .u8 0) hu hut hf hz b (by omega) (by simp at hfit; omega) (by rw [hfb]; simp at hfit; omega)
        rw [hX] at hrun
        have this := hrun.symm.trans this
        obtain ⟨c, hcp, hv⟩ : ∃ c, 0 < c ∧ v' = .slice (some ⟨w.heap.size, 0, none⟩) b.size c := by cases this; exact ⟨_, by have := grownCap_ge w b.size 0 E; omega, rfl⟩
        subst hv
        exact fin 0 w.heap.size c w' [] rfl (by simpa using hown') (fun _ => .inl (Nat.le_refl _)) (fun _ => hcp) hgrow.os hgrow.tape hgrow.output hgrow.size (fun k hk hne => hgrow.block k hk (fun e => by rw [hX] at e; simp [Value.ownBlock] at e)) (by rw [hX, hY]; simpa using hrun)
      | some b0 =>
        have hrun := Lib.run_append_grow_string (P := P) w t t' ty E f (.int .u8 0) hu hut hf hz b0 0 0 [] (by simp) (by simp) b (by omega) (by simp at hfit; omega) (by rw [hfb]; exact growslice_fits (by omega) (by simp at hfit; omega))
        simp only [Nat.zero_add] at hrun
        refine fin 0 w.heap.size (grownCap w b.size 0 E) _ [] rfl ?_ (fun _ => .inl (Nat.le_refl _)) (fun _ => by have := grownCap_ge w b.size 0 E; omega) ?_ ?_ ?_ ?_ ?_ (by rw [hX, hY]; simpa using hrun)
        · have hge := grownCap_ge w b.size 0 E
          have hcm : grownCap w b.size 0 E ≤ maxLen := grownCap_le_maxLen w b.size 0 E (by simpa using hmaxl)
          refine ⟨by rw [List.nil_append, Lib.strCells_length]; simp, .inr ⟨w.heap.size, _, _, rfl, Nat.zero_le _, heap_alloc_new w.drew _, by simpa using hge, hcm, ?_, ?_⟩⟩
          · have hz1 : (Value.int IntKind.u8 0).cells.size = 1 := rfl
            simp only [Array.size_append, List.size_toArray, size_zeroCells, hz1, Lib.strCells_length, List.length_nil]
            omega
          · simp only [Array.toList_append, List.nil_append]
            rw [List.take_left' (by rw [Lib.strCells_length]; simp)]
        · rfl
        · rfl
        · rfl
        · simp
        · intro k hk _; exact Lib.alloc_old w.drew _ k hk
/-- In the builder's row. -/
theorem Ev.e_apZ (X : Cx P) (id' : Nat) {id E : Nat} {l r : List Int} {b : ByteArray} (h : apS_ l b = some r) (hx : V s o n x = .owz id) (ho : lookO o id = some (.arr E (.int .u8) l)) (hy : V s o n y = .v .str b) (ht : X.ty t = some (.sl (.int .u8))) (ht' : X.ty t' = some .str) (he : X.el t = some (E, 1))
    (hid' : lookO o id' = none) (hd : Nat.blt d n = true) : Ev P ⟨some d, .call ⟨.builtin .append, #[x, y], #[t, t']⟩, ty, pos, after, gd⟩ s o n (.owz id') ((id', .arr E (.int .u8) r) :: (id, .dead) :: o) := Ev.mk fun F hF N w0 loc a w _ hs Q K hK => by
  unfold apS_ at h
  split at h
  · rename_i hfit
    cases h
    exact append_coreS true X id' hs ((hs.lk hF).look (by simp [Op.operands, Call.operands]) hx) (of_str ((hs.lk hF).look (by simp [Op.operands, Call.operands]) hy)) ho ht ht' he hid' hd hfit Q K hK
  · cases h
theorem owz_at {w : World} {M : Nat → Prop} {loc : Nat → Nat × Nat} {id E : Nat} {τ : Ty} {l : List τ.den} (ho : lookO o id = some (.arr E τ l)) {u : Value} (h : AV.rel w M loc o (.owz id) u) : ∃ A, u = .slice A l.length (loc id).2 ∧ (0 < (loc id).2 → A = some ⟨(loc id).1, 0, none⟩) ∧ ((loc id).2 = 0 → A = none) := by
  rw [AV.rel] at h
  obtain ⟨ob, h1, h2⟩ := h
  rw [ho] at h1; cases h1
  exact h2 _ _ _ rfl
theorem Ev.e_lenZ (X : Cx P) {id E : Nat} {τ : Ty} {l : List τ.den} (hx : V s o n x = .owz id) (ho : lookO o id = some (.arr E τ l)) (ht : X.ty t = some (.sl τ)) (hd : Nat.blt d n = true) : Ev P ⟨some d, .call ⟨.builtin .len, #[x], #[t]⟩, ty, pos, after, gd⟩ s o n (.v (.int .i64) (l.length : Int)) o :=
  Ev.pure hd (fun N w0 loc a w hs => by
    obtain ⟨A0, hX, _⟩ := owz_at ho (hs.look (by simp [Op.operands, Call.operands]) hx)
    obtain ⟨e, hu, _⟩ := (X.ok _ _ ht).desc
    refine ⟨.int .i64 l.length, run_callBuiltin _ _ _ _ (fun _ => ?_), rel_int⟩
    simp [builtin, Builtin.len_, hX, Go.underlying, hu, goInt])
/-! ### From bytes to a text, without a copy -/
def US (P : Program) (t E : TypeId) : Prop := P.underlying t = some (.pointer E) ∧ P.cellsOf E = 1
def chkUS (P : Program) (t E : TypeId) : Bool := (match P.underlying t with | some (.pointer e) => Nat.beq e E | _ => false) && Nat.beq (P.cellsOf E) 1
theorem US.of {P : Program} {t E : TypeId} (h : chkUS P t E = true) : US P t E := by
  unfold chkUS at h
  rw [Bool.and_eq_true] at h
  refine ⟨?_, Nat.eq_of_beq_eq_true h.2⟩
  have h1 := h.1
  split at h1
  · rename_i e he; rw [he, Nat.eq_of_beq_eq_true h1]
  · cases h1
theorem Ev.e_usd (X : Cx P) {id E : Nat} {τ : Ty} {l : List τ.den} (h : decide (List.length (α := τ.den) l = 0) = false) (hx : V s o n x = .owz id) (ho : lookO o id = some (.arr E τ l)) (hd : Nat.blt d n = true) :
    Ev P ⟨some d, .call ⟨.builtin .unsafeSliceData, #[x], #[t]⟩, ty, pos, after, gd⟩ s o n (.oel id 0 0) o :=
  Ev.pure hd (fun N w0 loc a w hs => by
    obtain ⟨A0, hX, hA0, _⟩ := owz_at ho (hs.look (by simp [Op.operands, Call.operands]) hx)
    have hob := hs.rep.obs id _ ho
    have hl : 0 < List.length (α := τ.den) l := Nat.pos_of_ne_zero (of_decide_eq_false h)
    have h1 : List.length (α := τ.den) l ≤ (loc id).2 := hob.1
    have hc : 0 < (loc id).2 := by omega
    have hA0 := hA0 hc
    subst hA0
    have hrun := Lib.run_unsafeSliceData_row (P := P) w #[t] ty ⟨(loc id).1, 0, none⟩ l.length (loc id).2 (by omega)
    refine ⟨.pointer (some ⟨(loc id).1, 0, none⟩), ?_, ?_⟩
    · simp only [execOp, resolve]
      simp [invoke, builtin, hX, hrun]
    · rw [AV.rel]
      refine ⟨_, ho, fun E' t' l' e => ?_⟩
      cases e
      exact ⟨by omega, by simp⟩)
/-- Of a row of nothing: some pointer. -/
theorem Ev.e_usd0 (X : Cx P) {id E : Nat} {τ : Ty} {l : List τ.den} (h : decide (List.length (α := τ.den) l = 0) = true) (hx : V s o n x = .owz id) (ho : lookO o id = some (.arr E τ l)) (hd : Nat.blt d n = true) :
    Ev P ⟨some d, .call ⟨.builtin .unsafeSliceData, #[x], #[t]⟩, ty, pos, after, gd⟩ s o n .anyp o :=
  Ev.pure hd (fun N w0 loc a w hs => by
    obtain ⟨A0, hX, hA0, hA1⟩ := owz_at ho (hs.look (by simp [Op.operands, Call.operands]) hx)
    have hrel : ∀ q, AV.rel w (Muts N loc o) loc o .anyp (.pointer q) := fun q => by rw [AV.rel]; exact ⟨q, rfl⟩
    by_cases hc : (loc id).2 = 0
    · have hA1 := hA1 hc
      subst hA1
      refine ⟨.pointer none, ?_, hrel _⟩
      simp only [execOp, resolve]
      simp [invoke, builtin, hX, Lib.run_unsafeSliceData_nil]
    · have hA0 := hA0 (Nat.pos_of_ne_zero hc)
      subst hA0
      have hrun := Lib.run_unsafeSliceData_row (P := P) w #[t] ty ⟨(loc id).1, 0, none⟩ l.length (loc id).2 hc
      refine ⟨.pointer (some ⟨(loc id).1, 0, none⟩), ?_, hrel _⟩
      simp only [execOp, resolve]
      simp [invoke, builtin, hX, hrun])
theorem Ev.e_ust0 {id : Nat} {l : List Int} (h : decide (l.length = 0) = true) (hx : V s o n x = .anyp) (hy : V s o n y = .v (.int .i64) (l.length : Int)) (hd : Nat.blt d n = true) :
    Ev P ⟨some d, .call ⟨.builtin .unsafeString, #[x, y], #[t, t']⟩, ty, pos, after, gd⟩ s o n (.v .str (bs [])) ((id, .dead) :: o) := Ev.mk fun F hF N w0 loc a w hN hs Q K hK => by
  have hX := (hs.lk hF).look (by simp [Op.operands, Call.operands]) hx
  rw [AV.rel] at hX
  obtain ⟨q, hX⟩ := hX
  have hY := of_int ((hs.lk hF).look (by simp [Op.operands, Call.operands]) hy)
  have hl : l.length = 0 := of_decide_eq_true h
  have hY : a.eval y = .int .i64 0 := by rw [hY, hl]; rfl
  have hrun := Lib.run_unsafeString_none (P := P) w t t' ty q
  unfold Oper.wp
  have hw : (execOp a.eval ⟨some d, .call ⟨.builtin .unsafeString, #[x, y], #[t, t']⟩, ty, pos, after, gd⟩).run P w = .ok (.value (.string (bs []))) w := by
    simp only [execOp, resolve]
    simp [invoke, builtin, hX, hY, hrun]
    rfl
  rw [hw]
  exact hK _ _ _ (hs.kill0.put hd rel_str)
theorem Ev.e_ust {id E : Nat} {l : List Int} {b : ByteArray} {m : Int} (hE : US P t E) (h : ust l = some b) (hx : V s o n x = .oel id 0 0) (ho : lookO o id = some (.arr E (.int .u8) l)) (hy : V s o n y = .v (.int .i64) m) (hm : m = (l.length : Int)) (hd : Nat.blt d n = true) :
    Ev P ⟨some d, .call ⟨.builtin .unsafeString, #[x, y], #[t, t']⟩, ty, pos, after, gd⟩ s o n (.v .str b) ((id, .dead) :: o) := Ev.mk fun F hF N w0 loc a w hN hs Q K hK => by
  unfold ust at h
  split at h
  · rename_i hc
    cases h
    obtain ⟨hne, hall⟩ := hc
    have hlk := hs.lk hF
    have hX := (oel_at ho (hlk.look (by simp [Op.operands, Call.operands]) hx)).2
    have hY := of_int (hlk.look (by simp [Op.operands, Call.operands]) hy)
    have hob := hs.rep.obs id _ ho
    have hlp : 0 < l.length := by cases l with | nil => exact absurd rfl hne | cons a l => simp
    have h1 : l.length ≤ (loc id).2 := hob.1
    have hcp : 0 < (loc id).2 := by omega
    obtain ⟨cur, hcur, hcs, hrel⟩ := hob.2.2 hcp
    have hcs1 : cur.size = (loc id).2 := by rw [hcs]; exact Nat.mul_one _
    have hlen : (l.map fun n => UInt8.ofNat n.toNat).length = l.length := List.length_map _
    have hrun := Lib.run_unsafeString_row (P := P) w t t' ty E hE.1 hE.2 (loc id).1 cur.size (by simp [World.shape?, hcur]) (l.map fun n => UInt8.ofNat n.toNat) (by simpa using hne) (by rw [hlen]; omega) (by rw [hlen]; have := hob.2.1; unfold maxL at this; omega) (fun j u hj => by
      rw [List.getElem?_map] at hj
      cases hlj : l[j]? with
      | none => rw [hlj] at hj; cases hj
      | some z =>
        rw [hlj] at hj
        cases hj
        obtain ⟨ds, g1, g2⟩ := hrel j z hlj
        cases g1
        have g3 := g2 0 _ rfl
        have hz := List.all_eq_true.1 hall z (List.mem_of_getElem? hlj)
        rw [Bool.and_eq_true] at hz
        have z1 := of_decide_eq_true hz.1
        have z2 := of_decide_eq_true hz.2
        rw [add_lit]
        simp only [World.cell?, hcur]
        have e : (UInt8.ofNat z.toNat).toNat = z.toNat := by
          rw [UInt8.toNat_ofNat']
          exact Nat.mod_eq_of_lt (by omega)
        rw [e]
        have e2 : ((z.toNat : Nat) : Int) = z := by omega
        rw [e2]
        simpa [Ty.sz] using g3)
    rw [hlen] at hrun
    have hX' : a.eval x = .pointer (some ⟨(loc id).1, 0, none⟩) := by rw [hX]; simp
    have hY' : a.eval y = .int .i64 l.length := by rw [hY, hm]
    have hw : (execOp a.eval ⟨some d, .call ⟨.builtin .unsafeString, #[x, y], #[t, t']⟩, ty, pos, after, gd⟩).run P w = .ok (.value (.string (tx l))) (w.freeze ⟨(loc id).1, 0, none⟩ l.length) := by
      simp only [execOp, resolve]
      simp [invoke, builtin, hX', hY', hrun, tx]
    unfold Oper.wp
    rw [hw]
    have hh : Has loc o id (.arr E (.int .u8) l) := ⟨ho, rfl, hcp⟩
    have hlkd : ∀ i, lookO ((id, Ob.dead) :: o) i = if id = i then some .dead else lookO o i := fun i => lookO_cons ..
    have hold : ∀ i ob1, Has loc ((id, .dead) :: o) i ob1 → id ≠ i ∧ Has loc o i ob1 := by
      rintro i ob1 ⟨h1, h2, h3⟩
      rw [hlkd] at h1
      by_cases hi : id = i
      · rw [if_pos hi] at h1; cases h1; cases h2
      · rw [if_neg hi] at h1; exact ⟨hi, h1, h2, h3⟩
    have ht : Turns loc loc o ((id, .dead) :: o) := fun i ob1 h => by
      rw [hlkd]
      by_cases hi : id = i
      · exact ⟨.dead, if_pos hi, .dead, fun _ => rfl⟩
      · exact ⟨ob1, by rw [if_neg hi]; exact h, .refl, fun _ => rfl⟩
    have hfz : ∀ k, k ≠ (loc id).1 → (w.freeze ⟨(loc id).1, 0, none⟩ l.length).heap[k]? = w.heap[k]? := fun k hk => by
      unfold World.freeze
      split
      · rfl
      · simp [Array.getElem?_modify, Ne.symm hk]
    have hfs : (w.freeze ⟨(loc id).1, 0, none⟩ l.length).heap.size = w.heap.size := by
      unfold World.freeze
      split
      · rfl
      · simp
    have hfo : (w.freeze ⟨(loc id).1, 0, none⟩ l.length).os = w.os ∧ (w.freeze ⟨(loc id).1, 0, none⟩ l.length).tape = w.tape ∧ (w.freeze ⟨(loc id).1, 0, none⟩ l.length).output = w.output := by
      unfold World.freeze
      split <;> exact ⟨rfl, rfl, rfl⟩
    have hk : Keeps w (w.freeze ⟨(loc id).1, 0, none⟩ l.length) (Muts N loc o) (Muts N loc ((id, .dead) :: o)) := ⟨by rw [hfs]; exact Nat.le_refl _, fun k _ hm => hfz k (fun e => hm (.inr ⟨id, _, hh, e.symm⟩)), fun k _ hm => by
      rcases hm with h | ⟨i, ob1, h, rfl⟩
      · exact .inl h
      · exact .inr ⟨i, ob1, (hold i ob1 h).2, rfl⟩⟩
    have hbel : Bel w0 (w.freeze ⟨(loc id).1, 0, none⟩ l.length) := ⟨hfo.1.trans hs.below.os, hfo.2.1.trans hs.below.tape, hfo.2.2.trans hs.below.output, by rw [hfs]; exact hs.below.size, fun k hk0 => (hfz k (fun e => hs.rep.new id _ hh (e ▸ hk0))).trans (hs.below.block k hk0)⟩
    have hs2 := hs.chg hbel hk ht ⟨fun i ob1 h => hs.rep.new i ob1 (hold i ob1 h).2, fun i i' ob1 ob2 h1 h2 he => hs.rep.inj i i' ob1 ob2 (hold i ob1 h1).2 (hold i' ob2 h2).2 he, fun i ob1 h => by
      have h0 := h
      rw [hlkd] at h
      by_cases hi : id = i
      · rw [if_pos hi] at h; cases h; trivial
      · rw [if_neg hi] at h
        refine Ob.rel_turns hk ht ob1 (fun hl1 hc1 => hfz _ (fun e => hi ?_)) (hs.rep.obs i ob1 h)
        exact (hs.rep.inj i id ob1 _ ⟨h, hl1, hc1⟩ hh e).symm⟩
    exact hK _ _ _ (hs2.put hd rel_str)
  · cases h

/-! ### Copies -/
/-- A row, as the rest of itself. -/
theorem Ghost.whole {v id : Nat} {ob : Ob} (hv : look s v = .own id) (ho : lookO o id = some ob) : Ghost ⟨s, o, n⟩ ⟨(v, .osl id 0) :: s, o, n⟩ := fun N w0 a w hN ⟨loc, hs⟩ => ⟨loc, hs.say (by
  have h := hs.slots v
  rw [show look s v = .own id from hv, AV.rel] at h
  rw [AV.rel]
  obtain ⟨ob, h1, h2⟩ := h
  refine ⟨ob, h1, fun E t l e => ?_⟩
  obtain ⟨A, e1, e2⟩ := h2 E t l e
  exact ⟨Nat.zero_le _, A, by rw [e1]; simp, fun hc => by rw [e2 hc]; simp⟩)⟩

/-! ### A pointer turned, and turned back -/
def UP (P : Program) (t t' : TypeId) : Prop := ∃ e j, P.underlying t = some (.pointer e) ∧ P.underlying t' = some .unsafePointer ∧ P.info? e = some j ∧ j.size ≠ 0
def chkUP (P : Program) (t t' : TypeId) : Bool := match P.underlying t, P.underlying t' with
  | some (.pointer e), some .unsafePointer => (match P.info? e with | some j => !Nat.beq j.size 0 | none => false)
  | _, _ => false
theorem UP.of {P : Program} {t t' : TypeId} (h : chkUP P t t' = true) : UP P t t' := by
  unfold chkUP at h
  split at h
  · rename_i e h1 h2
    split at h
    · rename_i j hj
      exact ⟨e, j, h1, h2, hj, Nat.ne_of_beq_eq_false (by simpa using h)⟩
    · cases h
  · cases h
theorem Ev.e_toU {id off : Nat} {cells : List AV} (hp : UP P t t') (hx : V s o n x = .box id off) (ho : lookO o id = some (.box cells)) (hoff : Nat.blt off cells.length = true) (hd : Nat.blt d n = true) : Ev P ⟨some d, .convert t t' x, ty, pos, after, gd⟩ s o n (.box id off) o :=
  Ev.pure hd (fun N w0 loc a w hs => by
    have h0 := hs.look (by simp [Op.operands]) hx
    have h1 := box_ptr ho h0
    obtain ⟨_, cur, E, hcur, hrel⟩ := box_at hs.rep ho
    obtain ⟨e, j, h2, h3, h4, h5⟩ := hp
    have hlen := rels_len hrel
    have := Lib.run_to_unsafe (P := P) w (e := E) (cells := cur.size) ⟨(loc id).1, off, none⟩ h2 h3 h4 h5 (by simp [World.shape?, hcur]) (by rw [← Array.length_toList, hlen]; exact blt_lt hoff)
    refine ⟨_, ?_, h0⟩
    rw [h1]
    simp [execOp, h1, this])
/-- A pointer to what is laid so. -/
def UL (P : Program) (t t' T : TypeId) (k : Nat) : Prop := P.underlying t = some .unsafePointer ∧ P.underlying t' = some (.pointer T) ∧ (∃ j, P.info? T = some j) ∧ liesAt P P.depth T (k / P.cellsOf T) 0 T 1 = true
def chkUL (P : Program) (t t' T : TypeId) (k : Nat) : Bool := (match P.underlying t with | some .unsafePointer => true | _ => false) && (match P.underlying t' with | some (.pointer e) => Nat.beq e T | _ => false) && (P.info? T).isSome && liesAt P P.depth T (k / P.cellsOf T) 0 T 1
theorem UL.of {P : Program} {t t' T : TypeId} {k : Nat} (h : chkUL P t t' T k = true) : UL P t t' T k := by
  unfold chkUL at h
  simp only [Bool.and_eq_true] at h
  obtain ⟨⟨⟨h1, h2⟩, h3⟩, h4⟩ := h
  refine ⟨?_, ?_, Option.isSome_iff_exists.1 h3, h4⟩
  · split at h1
    · assumption
    · cases h1
  · split at h2
    · rename_i e he; rw [he, Nat.eq_of_beq_eq_true h2]
    · cases h2
theorem Ev.e_fromU {id T : Nat} {c : Bool} {cells : List AV} (hp : UL P t t' T (cells.length + 1)) (hx : V s o n x = .box id 0) (ho : lookO o id = some (.box (.pn c id 0 T :: cells))) (hd : Nat.blt d n = true) : Ev P ⟨some d, .convert t t' x, ty, pos, after, gd⟩ s o n (.box id 0) o :=
  Ev.pure hd (fun N w0 loc a w hs => by
    have h0 := hs.look (by simp [Op.operands]) hx
    have h1 := box_ptr ho h0
    obtain ⟨hbc, cur, E, hcur, hrel⟩ := box_at hs.rep ho
    obtain ⟨h2, h3, ⟨j, h4⟩, h5⟩ := hp
    have hlen := rels_len hrel
    have hcz : cur.size = cells.length + 1 := by rw [← Array.length_toList, hlen]; rfl
    rw [AV.rels] at hrel
    obtain ⟨u, us, _, hr, _⟩ := hrel
    rw [AV.rel] at hr
    obtain ⟨ob, g1, g2⟩ := hr
    rw [ho] at g1; cases g1
    have hT := (g2 _ rfl).2
    have hT' : (loc id).2 = T + 2 := hT
    have hE : (loc id).2 = E + 2 := hbc.2 cur E hcur (by rw [hT']; exact Nat.le_add_left 2 T)
    obtain rfl : E = T := Nat.add_right_cancel (hE.symm.trans hT')
    have := Lib.run_from_unsafe (P := P) w (e := E) (cells := cur.size) ⟨(loc id).1, 0, none⟩ h2 h3 h4 (by simp [World.shape?, hcur]) (by rw [hcz]; exact h5)
    refine ⟨_, ?_, h0⟩
    rw [h1]
    simp [execOp, h1, this])
/-- What hands back what it is handed. -/
def NE (P : Program) (g : Nat) : Prop := ∃ fn, P.funcs[g]? = some fn ∧ (fn.name == "runtime.NumGoroutine") = false ∧ fn.body.isNone = true ∧ Extern.findNext fn = none ∧ Extern.find fn = some Extern.AbiNoEscape.same
theorem Ev.e_noesc {f : Operand} {ts : Array TypeId} {g : Nat} {A : AV} (hg : NE P g) (hf : V s o n f = .fn g []) (hx : V s o n x = A) (hd : Nat.blt d n = true) : Ev P ⟨some d, .call ⟨.value f, #[x], ts⟩, ty, pos, after, gd⟩ s o n A o :=
  Ev.pure hd (fun N w0 loc a w hs => by
    have h1 := eval_fn hs (by simp [Op.operands, Call.operands]) hf
    have h2 := hs.look (x := x) (by simp [Op.operands, Call.operands]) hx
    obtain ⟨fn, g1, g2, g3, g4, g5⟩ := hg
    have := run_callFunc_extern g1 g2 g3 g4 g5 #[a.eval x] w
    rw [Lib.run_noEscape] at this
    refine ⟨_, ?_, h2⟩
    simp only [Result.andThen] at this
    simp [execOp, resolve, h1, Deferred.ofValue, invoke, this])

/-- Where a byte stands first. -/
def IB (P : Program) (g : Nat) : Prop := ∃ fn, P.funcs[g]? = some fn ∧ (fn.name == "runtime.NumGoroutine") = false ∧ fn.body.isNone = true ∧ Extern.findNext fn = none ∧ Extern.find fn = some Extern.BytealgIndexByte.indexByte
theorem Ev.e_idxb {f : Operand} {ts : Array TypeId} {g : Nat} {b : ByteArray} {c : Int} (hg : IB P g) (hf : V s o n f = .fn g []) (hx : V s o n x = .v .str b) (hy : V s o n y = .v (.int .u8) c) (hd : Nat.blt d n = true) : Ev P ⟨some d, .call ⟨.value f, #[x, y], ts⟩, ty, pos, after, gd⟩ s o n (.v (.int .i64) (ixb b c)) o :=
  Ev.pure hd (fun N w0 loc a w hs => by
    have h1 := eval_fn hs (by simp [Op.operands, Call.operands]) hf
    have h2 := of_str (hs.look (x := x) (by simp [Op.operands, Call.operands]) hx)
    have h3 := of_int (hs.look (x := y) (by simp [Op.operands, Call.operands]) hy)
    obtain ⟨fn, g1, g2, g3, g4, g5⟩ := hg
    have := run_callFunc_extern g1 g2 g3 g4 g5 #[.string b, .int .u8 c] w
    rw [run_indexByte_string] at this
    refine ⟨_, ?_, rel_int⟩
    simp only [Result.andThen] at this
    simp [execOp, resolve, h1, Deferred.ofValue, invoke, h2, h3, this, ixb])

/-! ### The builder's own cells -/
/-- A new builder. -/
theorem Ev.e_allocB (id id2 E2 : Nat) (hz : ZS P t (([.ptr, .sl] : List ZK).map ZK.val)) (hid : lookO o id = none) (hid2 : lookO ((id, Ob.dead) :: o) id2 = none) (hd : Nat.blt d n = true) : Ev P ⟨some d, .alloc t, ty, pos, after, gd⟩ s o n (.box id 0) ((id2, .arr E2 (.int .u8) ([] : List Int)) :: (id, .box [.pn true id 0 t, .owz id2]) :: o) := Ev.mk fun F _ N w0 loc a w _ hs Q K hK => by
  obtain ⟨f, z, hf, hfz, hzl⟩ := hz
  have hrun : (Instr.alloc t true (.tuple #[])).run P w = .ok (.pointer (some ⟨w.heap.size, 0, none⟩)) (w.alloc (.cells z.cells t)) := by
    simp [Instr.alloc, zeroValue, typeInfo, hf, hfz, newVar, newRow]
  unfold Oper.wp
  rw [show (execOp a.eval ⟨some d, .alloc t, ty, pos, after, gd⟩).run P w = .ok (.value (.pointer (some ⟨w.heap.size, 0, none⟩))) (w.alloc (.cells z.cells t)) from run_v hrun]
  have hr : ∀ (M : Nat → Prop) (loc : Nat → Nat × Nat) (o : Objs) (w : World), AV.rels w M loc o [.nilp, .nil] z.cells.toList := by
    intro M loc o w
    rw [hzl]
    rw [AV.rels]
    refine ⟨.pointer none, [.slice none 0 0], rfl, by rw [AV.rel], ?_⟩
    rw [AV.rels]
    exact ⟨_, [], rfl, by rw [AV.rel], by rw [AV.rels]⟩
  have h1 := hs.new (ob := .box [.nilp, .nil]) (c := t + 2) hid (Nat.le_refl _) (below_alloc' w (.cells z.cells t)) (fun M' loc' o' hk ht => ⟨⟨by omega, fun cur E h _ => by rw [alloc_get] at h; cases h; rfl⟩, _, _, alloc_get _ _, hr _ _ _ _⟩)
  have ho1 : lookO ((id, Ob.box [.nilp, .nil]) :: o) id = some (.box [.nilp, .nil]) := by rw [lookO_cons, if_pos rfl]
  obtain ⟨hc, cur, E, hcur, hrel⟩ := h1.rep.obs id _ ho1
  have h2 := h1.set (w' := w.alloc (.cells z.cells t)) (ob := .box [.nilp, .nil]) (ob' := .box [.pn true id 0 t, .nil]) ho1 rfl .box hc.1 rfl rfl rfl (Nat.le_refl _) (fun _ _ _ => rfl) (fun M' o' hk ht => ⟨hc, cur, E, hcur, AV.rels_turns hk ht _ _ (by
    refine cell_set (A := .nilp) (B := .pn true id 0 t) (fun u hu => ?_) [.nilp, .nil] _ 0 rfl hrel
    rw [AV.rel] at hu
    rw [AV.rel.eq_def]
    exact ⟨_, ho1, fun cells _ => ⟨hu, by rw [put2_same]⟩⟩)⟩)
  have h3 : SatF N w0 ((id, .box [.pn true id 0 t, .nil]) :: o) n F (put2 loc id w.heap.size (t + 2)) a (w.alloc (.cells z.cells t)) := h2.alike (fun i => by
    rw [lookO_cons, lookO_cons, lookO_cons]
    by_cases hi : id = i
    · rw [if_pos hi, if_pos hi]
    · rw [if_neg hi, if_neg hi, if_neg hi])
  have hne : id2 ≠ id := by
    intro e; rw [e, lookO_cons, if_pos rfl] at hid2; cases hid2
  have hn2 : lookO ((id, Ob.box [.pn true id 0 t, .nil]) :: o) id2 = none := by
    rw [lookO_cons, if_neg (Ne.symm hne)] at hid2 ⊢; exact hid2
  have h4 := h3.new (w' := w.alloc (.cells z.cells t)) (id := id2) (g := (w.alloc (.cells z.cells t)).heap.size) (c := 0) (ob := .arr E2 (.int .u8) ([] : List Int)) hn2 (Nat.le_refl _) (Below.refl _ _) (fun M' loc' o' hk ht => ⟨Nat.le_refl _, Nat.zero_le _, fun h => absurd h (Nat.lt_irrefl _)⟩)
  have ho4 : lookO ((id2, Ob.arr E2 (.int .u8) ([] : List Int)) :: (id, Ob.box [.pn true id 0 t, .nil]) :: o) id = some (.box [.pn true id 0 t, .nil]) := by
    rw [lookO_cons, if_neg hne, lookO_cons, if_pos rfl]
  have ho5 : lookO ((id2, Ob.arr E2 (.int .u8) ([] : List Int)) :: (id, Ob.box [.pn true id 0 t, .nil]) :: o) id2 = some (.arr E2 (.int .u8) ([] : List Int)) := by
    rw [lookO_cons, if_pos rfl]
  obtain ⟨hc4, cur4, E4, hcur4, hrel4⟩ := h4.rep.obs id _ ho4
  have h5 := h4.set (w' := w.alloc (.cells z.cells t)) (ob := .box [.pn true id 0 t, .nil]) (ob' := .box [.pn true id 0 t, .owz id2]) ho4 rfl .box hc4.1 rfl rfl rfl (Nat.le_refl _) (fun _ _ _ => rfl) (fun M' o' hk ht => ⟨hc4, cur4, E4, hcur4, AV.rels_turns hk ht _ _ (by
    refine cell_set (A := .nil) (B := .owz id2) (fun u hu => ?_) [.pn true id 0 t, .nil] _ 1 rfl hrel4
    rw [AV.rel] at hu
    rw [AV.rel.eq_def]
    refine ⟨_, ho5, fun E' t' l' e => ?_⟩
    cases e
    rw [put2_same]
    exact ⟨none, hu, fun h => absurd h (Nat.lt_irrefl _), fun _ => rfl⟩)⟩)
  refine hK _ _ _ ((h5.alike (o' := (id2, .arr E2 (.int .u8) ([] : List Int)) :: (id, .box [.pn true id 0 t, .owz id2]) :: o) (fun i => ?_)).put hd ?_)
  · rw [lookO_cons, lookO_cons, lookO_cons, lookO_cons, lookO_cons]
    by_cases hi : id = i
    · subst hi
      rw [if_neg hne, if_pos rfl, if_pos rfl]
    · by_cases hi2 : id2 = i
      · rw [if_pos hi2, if_neg hi, if_pos hi2]
      · rw [if_neg hi2, if_neg hi, if_neg hi, if_neg hi2, if_neg hi]
  · rw [AV.rel]
    refine ⟨_, by rw [lookO_cons, if_neg hne, lookO_cons, if_pos rfl], fun c e => ?_⟩
    cases e
    rw [put2_ne (Ne.symm hne), put2_same]
/-- It takes its own address. -/
theorem Ev.e_stPn {id T : Nat} {c : Bool} {cells : List AV} (hz : SZ P t false 1) (hx : V s o n x = .box id 0) (ho : lookO o id = some (.box (.pn c id 0 T :: cells))) (hy : V s o n y = .box id 0) :
    Ev P ⟨none, .store t x y, ty, pos, after, gd⟩ s o n .bot ((id, .box (.pn false id 0 T :: cells)) :: o) := Ev.mk fun F hF N w0 loc a w hN hs Q K hK => by
  obtain ⟨_, _, _, _, hrel0⟩ := box_at hs.rep ho
  rw [AV.rels] at hrel0
  obtain ⟨u0, _, _, hr0, _⟩ := hrel0
  rw [AV.rel] at hr0
  obtain ⟨ob0, g1, g2⟩ := hr0
  rw [ho] at g1; cases g1
  have hT := (g2 _ rfl).2
  have hlk := hs.lk hF
  have h1 := box_ptr ho (hlk.look (by simp [Op.operands]) hx)
  have hy1 := hlk.look (by simp [Op.operands]) hy
  have h1y := box_ptr ho hy1
  obtain ⟨hp, cur, E, hcur, hrel⟩ := box_at hs.rep ho
  have hlen := rels_len hrel
  have hcl : cur.size = cells.length + 1 := by rw [← Array.length_toList]; exact hlen
  have hst := run_storeCells_at (P := P) (loc id).1 0 E [a.eval y] 0 cur w hcur (by simp; omega) (by intro u hu; simp at hu; subst hu; rw [h1y]; simp [Value.oneCell'])
  have hcy : (a.eval y).cells = #[a.eval y] := by rw [h1y]; rfl
  have hrun : (execOp a.eval ⟨none, .store t x y, ty, pos, after, gd⟩).run P w = .ok .skip (w.setRow (loc id).1 (cur.toList.take 0 ++ [a.eval y] ++ cur.toList.drop (0 + 1)).toArray) := by
    have hsz : (a.eval y).cells.size = 1 := by rw [hcy]; rfl
    simp [execOp, h1, Instr.storeAt, Instr.sureAddr, storeVar, hz.size, hsz]
    rw [hcy]
    simp at hst ⊢
    simp [hst]
  unfold Oper.wp
  rw [hrun]
  have hset := setRow_heap w (loc id).1 cur (cur.toList.take 0 ++ [a.eval y] ++ cur.toList.drop (0 + 1)).toArray E (0, 0) hcur
  have := hs.set (w' := w.setRow (loc id).1 (cur.toList.take 0 ++ [a.eval y] ++ cur.toList.drop (0 + 1)).toArray) (ob := .box (.pn c id 0 T :: cells)) (ob' := .box (.pn false id 0 T :: cells)) ho rfl .box hp.1 rfl rfl rfl (by simp [World.setRow]) (fun k _ hk => setRow_other w _ k _ hk) (fun M' o' hk ht => ⟨hp.set hcur hset, _, _, hset, AV.rels_turns hk ht _ _ (by
    rw [List.toList_toArray]
    have := rels_mid (bs := [.pn false id 0 T]) (vs := [a.eval y]) 0 hrel (by
      rw [AV.rels]
      refine ⟨_, [], rfl, ?_, by rw [AV.rels]⟩
      rw [AV.rel]
      exact ⟨_, ho, fun cells _ => ⟨h1y, hT⟩⟩)
    simpa using this)⟩)
  exact hK _ _ _ this
end
end Go.Proofs.YtboghejfmmigkaaDoor.AE
/- Arrays of two: built, and one of both taken. -/
namespace Go.Proofs.YtboghejfmmigkaaDoor.AP
open Go
/-- how often a byte stands in a text -/
def cntb (s : ByteArray) (c : Int) : Int := ((Lib.countByte s.data.toList c.toNat.toUInt8 : Nat) : Int)
end Go.Proofs.YtboghejfmmigkaaDoor.AP
namespace Go.Proofs.YtboghejfmmigkaaDoor.AE
open Go Go.RowKit Go.Proofs.YtboghejfmmigkaaDoor.AP
set_option linter.unusedSimpArgs false
set_option linter.unusedVariables false
/-- An array type of two elements. -/
def A2 (P : Program) (t e : TypeId) : Prop := P.underlying t = some (.array 2 e)
theorem A2.of {P : Program} {t e : TypeId} (h : (match P.underlying t with | some (.array 2 e') => Nat.beq e' e | _ => false) = true) : A2 P t e := by
  unfold A2
  split at h
  · rename_i e' hu
    rw [hu, Nat.eq_of_beq_eq_true h]
  · cases h
section
variable {P : Program} {s : List (Nat × AV)} {o : Objs} {n d : Nat} {ty : TypeId} {pos : String} {after : Array Edge} {gd : Option (Nat × Bool)} {t e : TypeId}
/-- How often a byte stands in a text. -/
def IC (P : Program) (g : Nat) : Prop := ∃ fn, P.funcs[g]? = some fn ∧ (fn.name == "runtime.NumGoroutine") = false ∧ fn.body.isNone = true ∧ Extern.findNext fn = none ∧ Extern.find fn = some Extern.BytealgCount.count
end
end Go.Proofs.YtboghejfmmigkaaDoor.AE
/- Values of the program's structs. -/
namespace Go.Proofs.YtboghejfmmigkaaDoor.AP
abbrev D_api_Prefix : Type := (Int × Int)
abbrev D_api_Query : Type := (Int × ByteArray × ByteArray × ByteArray × Int × D_api_Prefix × Int)
abbrev D_lex_Token : Type := (Int × ByteArray × Int)
abbrev D_lex_Reader : Type := ((List D_lex_Token) × Int)
abbrev D_askread_ask : Type := (ByteArray × Int)
end Go.Proofs.YtboghejfmmigkaaDoor.AP
/- Types of the printed functions, and what the proofs say of them. -/
namespace Go.Proofs.YtboghejfmmigkaaDoor.AE
open Go Go.RowKit Go.Proofs.YtboghejfmmigkaaDoor.AP
abbrev Y_api_Prefix : Ty := (.pair (.int .u32) (.int .i64))
abbrev Y_api_Query : Ty := (.pair (.int .i64) (.pair .str (.pair .str (.pair .str (.pair (.int .u32) (.pair Y_api_Prefix (.int .i64)))))))
abbrev Y_lex_Token : Ty := (.pair (.int .i64) (.pair .str (.int .i64)))
abbrev Y_lex_Reader : Ty := (.pair (.sl Y_lex_Token) (.int .i64))
abbrev Y_askread_ask : Ty := (.pair .str (.int .i64))
def tab : Tab := [(3, (.int .i64), 0), (5, (.int .u8), 0), (9, .str, 0), (21, (.int .i32), 0), (23, (.sl Y_api_Query), 0), (24, (.int .i64), 0), (29, (.int .u32), 0), (31, Y_api_Prefix, 2), (33, Y_api_Query, 7), (41, (.sl Y_lex_Token), 0), (45, Y_lex_Reader, 2), (61, Y_lex_Token, 3), (62, (.sl Y_askread_ask), 0), (65, Y_askread_ask, 2), (72, (.sl (.int .u64)), 0), (73, (.sl (.int .u64)), 0), (77, (.int .u64), 0), (98, (.sl .str), 0), (112, (.sl (.int .u8)), 0)]
def els : Els := [(23, 33, 88), (62, 65, 24), (72, 77, 8), (73, 77, 8), (98, 9, 16), (112, 5, 1)]
def X : Cx Tryd.prog := Cx.of tab els (by kernel_rfl) (by kernel_rfl)
theorem pl31 : placesOf Tryd.prog 31 = some [(0, 1), (1, 1)] := by kernel_rfl
theorem pl33 : placesOf Tryd.prog 33 = some [(0, 1), (1, 1), (2, 1), (3, 1), (4, 1), (5, 2), (7, 1)] := by kernel_rfl
theorem pl39 : placesOf Tryd.prog 39 = some [(0, 1), (1, 1), (2, 1)] := by kernel_rfl
theorem pl45 : placesOf Tryd.prog 45 = some [(0, 1), (1, 1)] := by kernel_rfl
theorem pl65 : placesOf Tryd.prog 65 = some [(0, 1), (1, 1)] := by kernel_rfl
theorem zs31 : ZS Tryd.prog 31 (([.int .u32, .int .i64] : List ZK).map ZK.val) := ZS.of (by kernel_rfl)
theorem zs33 : ZS Tryd.prog 33 (([.int .i64, .str, .str, .str, .int .u32, .int .u32, .int .i64, .int .i64] : List ZK).map ZK.val) := ZS.of (by kernel_rfl)
theorem zs39 : ZS Tryd.prog 39 (([.ptr, .int .i64, .int .i64] : List ZK).map ZK.val) := ZS.of (by kernel_rfl)
theorem zs114 : ZS Tryd.prog 114 (([.ptr, .sl] : List ZK).map ZK.val) := ZS.of (by kernel_rfl)
theorem sz3 : SZ Tryd.prog 3 false 1 := SZ.of (by kernel_rfl)
theorem sz31 : SZ Tryd.prog 31 true 2 := SZ.of (by kernel_rfl)
theorem sz33 : SZ Tryd.prog 33 true 8 := SZ.of (by kernel_rfl)
theorem sz34 : SZ Tryd.prog 34 false 1 := SZ.of (by kernel_rfl)
theorem sz111 : SZ Tryd.prog 111 false 1 := SZ.of (by kernel_rfl)
theorem sz112 : SZ Tryd.prog 112 false 1 := SZ.of (by kernel_rfl)
theorem fo39_0 : FO Tryd.prog 39 0 0 34 := FO.of (by kernel_rfl)
theorem fo39_1 : FO Tryd.prog 39 1 1 3 := FO.of (by kernel_rfl)
theorem fo39_2 : FO Tryd.prog 39 2 2 3 := FO.of (by kernel_rfl)
theorem fo114_0 : FO Tryd.prog 114 0 0 111 := FO.of (by kernel_rfl)
theorem fo114_1 : FO Tryd.prog 114 1 1 112 := FO.of (by kernel_rfl)
theorem en7 : Enters Tryd.prog 7 := ⟨_, Tryd.func7, rfl, rfl⟩
theorem en8 : Enters Tryd.prog 8 := ⟨_, Tryd.func8, rfl, rfl⟩
theorem en9 : Enters Tryd.prog 9 := ⟨_, Tryd.func9, rfl, rfl⟩
theorem en11 : Enters Tryd.prog 11 := ⟨_, Tryd.func11, rfl, rfl⟩
theorem en12 : Enters Tryd.prog 12 := ⟨_, Tryd.func12, rfl, rfl⟩
theorem en13 : Enters Tryd.prog 13 := ⟨_, Tryd.func13, rfl, rfl⟩
theorem en14 : Enters Tryd.prog 14 := ⟨_, Tryd.func14, rfl, rfl⟩
theorem en17 : Enters Tryd.prog 17 := ⟨_, Tryd.func17, rfl, rfl⟩
theorem en19 : Enters Tryd.prog 19 := ⟨_, Tryd.func19, rfl, rfl⟩
theorem en20 : Enters Tryd.prog 20 := ⟨_, Tryd.func20, rfl, rfl⟩
theorem en21 : Enters Tryd.prog 21 := ⟨_, Tryd.func21, rfl, rfl⟩
theorem en24 : Enters Tryd.prog 24 := ⟨_, Tryd.func24, rfl, rfl⟩
theorem en25 : Enters Tryd.prog 25 := ⟨_, Tryd.func25, rfl, rfl⟩
theorem en32 : Enters Tryd.prog 32 := ⟨_, Tryd.func32, rfl, rfl⟩
theorem en38 : Enters Tryd.prog 38 := ⟨_, Tryd.func38, rfl, rfl⟩
theorem en71 : Enters Tryd.prog 71 := ⟨_, Tryd.func71, rfl, rfl⟩
theorem en73 : Enters Tryd.prog 73 := ⟨_, Tryd.func73, rfl, rfl⟩
theorem en78 : Enters Tryd.prog 78 := ⟨_, Tryd.func78, rfl, rfl⟩
theorem eq33 : EQ Tryd.prog Y_api_Query 33 := EQ.of (by kernel_rfl)
theorem pt34 : PT Tryd.prog 34 := PT.of (by kernel_rfl)
theorem pt111 : PT Tryd.prog 111 := PT.of (by kernel_rfl)
theorem up111_134 : UP Tryd.prog 111 134 := UP.of (by kernel_rfl)
theorem ul134_111_114_2 : UL Tryd.prog 134 111 114 2 := UL.of (by kernel_rfl)
theorem us133_5 : US Tryd.prog 133 5 := US.of (by kernel_rfl)
theorem ib56 : IB Tryd.prog 56 := ⟨_, Tryd.func56, by kernel_rfl, by kernel_rfl, by kernel_rfl, by kernel_rfl⟩
theorem ne83 : NE Tryd.prog 83 := ⟨_, Tryd.func83, by kernel_rfl, by kernel_rfl, by kernel_rfl, by kernel_rfl⟩
end Go.Proofs.YtboghejfmmigkaaDoor.AE
/- Functions of the program, as Lean functions (printed by a program of ours). -/
namespace Go.Proofs.YtboghejfmmigkaaDoor.AP
open Go
set_option linter.unusedVariables false
noncomputable section
def m_internal_stringslite_IndexByte (p0 : ByteArray) (p1 : Int) : Option (Int) :=
  some (ixb p0 p1)
def m_strings_IndexByte (p0 : ByteArray) (p1 : Int) : Option (Int) :=
  bd (m_internal_stringslite_IndexByte p0 p1) fun x1 =>
  some x1
def m_lex_kind (p0 : Int) : Option (Int × ByteArray) :=
  bd (m_strings_IndexByte (bs [97, 98, 99, 100, 101, 102, 103, 104, 105, 106, 107, 108, 109, 110, 111, 112, 113, 114, 115, 116, 117, 118, 119, 120, 121, 122]) p0) fun x1 =>
  if decide (0 ≤ x1) then (
    lt (bs [97, 98, 99, 100, 101, 102, 103, 104, 105, 106, 107, 108, 109, 110, 111, 112, 113, 114, 115, 116, 117, 118, 119, 120, 121, 122, 48, 49, 50, 51, 52, 53, 54, 55, 56, 57, 45, 95]) fun x4 =>
    some (1, x4))
  else (
    bd (
      if decide (48 ≤ p0) then (
        some (decide (p0 ≤ 57)))
      else (
        some false)) fun v6 =>
    if v6 then (
      lt (bs [48, 49, 50, 51, 52, 53, 54, 55, 56, 57, 46, 47, 37]) fun x9 =>
      some (2, x9))
    else (
      bd (m_strings_IndexByte (bs [123, 125, 59, 44, 42]) p0) fun x11 =>
      if decide (0 ≤ x11) then (
        some (3, (bs [])))
      else (
        some (0, (bs [])))))
def m_lex_length_l1 (p0 : ByteArray) (p1 : ByteArray) : Int → Option ((Int) ⊕ (Int))
  | v2 =>
    bd (
      if decide (v2 < (p0.size : Int)) then (
        bd (bt p0 v2) fun x5 =>
        bd (m_strings_IndexByte p1 x5) fun x7 =>
        some (decide (0 ≤ x7)))
      else (
        some false)) fun v3 =>
    if v3 then (
      some (.inl (wi64 (v2 + 1))))
    else (
      some (.inr v2))
def m_lex_length (p0 : ByteArray) (p1 : ByteArray) : Option (Int) :=
  bd (lp (m_lex_length_l1 p0 p1) 1) fun v1 =>
  some v1
def m_lex_pass (p0 : ByteArray) : Option (Int) :=
  bd (bt p0 0) fun x1 =>
  if !decide (x1 = 35) then (
    some 1)
  else (
    bd (m_strings_IndexByte p0 10) fun x4 =>
    if decide (0 ≤ x4) then (
      some x4)
    else (
      some (p0.size : Int)))
abbrev Tok := Int × ByteArray × Int
/-- tokens of a text, from a line on; the last one has no kind -/
def tokR : Nat → ByteArray → Int → Option (List Tok)
  | 0, _, _ => none
  | k + 1, s, line =>
    if s.size = 0 then some [(0, s, line)] else
    bd (bt s 0) fun c => bd (m_lex_kind c) fun q => bd (m_strings_IndexByte (bs [32, 9, 10]) c) fun x =>
    if c ≠ 35 ∧ ¬ 0 ≤ x ∧ q.1 = 0 then some [(0, s, line)] else
    bd (m_lex_length s q.2) fun n1 => bd (if c = 35 ∨ 0 ≤ x then m_lex_pass s else some n1) fun n =>
    if 1 ≤ n ∧ n ≤ s.size then
      bd (tokR k (s.extract n.toNat s.size) (if c = 10 then wi64 (line + 1) else line)) fun r =>
      some (if c = 35 ∨ 0 ≤ x then r else (q.1, s.extract 0 n.toNat, line) :: r)
    else none
def kept (l : List Tok) : List Tok := l.filter fun t => t.1 != 0
def lastLine (l : List Tok) : Int := match l.getLast? with | some t => t.2.2 | none => 1
def firstBad (l : List Tok) : Option Tok := l.find? fun t => t.1 == 0 && !(t.2.1.size == 0)
def allR (l : List Tok) : (List D_lex_Token) × Int × Int := match firstBad l with | some t => ([], t.2.2, 21) | none => (kept l, lastLine l, 0)
def m_lex_All (p0 : ByteArray) : Option ((List D_lex_Token) × Int × Int) := bd (tokR (p0.size + 1) p0 1) fun toks => if toks.length * 32 ≤ 140737488355328 then some (allR toks) else none
def m_lex_New_M (p0 : ByteArray) : Option ((Int × Int) ⊕ (Int × Int × (List D_lex_Token) × Int)) :=
  bd (m_lex_All p0) fun x1 =>
  if !decide (x1.2.2 = 0) then (
    some (.inl (x1.2.1, x1.2.2)))
  else (
    some (.inr (x1.2.1, x1.2.2, x1.1, x1.2.1)))
def m_lex_Reader_Done_M  : Option (Unit) :=
  some ()
def m_askread_asks  : Option ((List D_askread_ask)) :=
  some [((bs [112, 114, 111, 98]), 1), ((bs [104, 111, 112, 115]), 2), ((bs [119, 105, 116, 104, 105, 110]), 3), ((bs [99, 111, 109, 112, 97, 114, 101]), 4)]
def m_lex_Reader_Line_M  : Option (Unit) :=
  some ()
def m_askread_reader_wrong_M (p1 : Int) (o1_1 : Int) (o1_2 : Int) : Option (Int) :=
  if decide (o1_1 = 0) then (
    some p1)
  else (
    some o1_1)
def m_askread_reader_kind_M_l1 (o1_1 : Int) (o1_2 : Int) (x1 : (List D_askread_ask)) : Unit → Option ((Unit) ⊕ (Int))
  | _ =>
    if decide (0 < (x1.length : Int)) then (
      bd (rd x1 0) fun x4 =>
      none)
    else (
      bd (m_lex_Reader_Line_M) fun x7 =>
      bd (m_askread_reader_wrong_M 0 o1_1 o1_2) fun x9 =>
      some (.inr x9))
def m_askread_reader_kind_M (o1_1 : Int) (o1_2 : Int) : Option (Int) :=
  bd (m_askread_asks) fun x1 =>
  lp (m_askread_reader_kind_M_l1 o1_1 o1_2 x1) ()
def m_lex_Reader_take__lex_Reader_Name_1_M  : Option (Unit) :=
  bd (m_lex_Reader_Done_M) fun x2 =>
  some ()
def m_lex_Reader_Name_M  : Option (Unit) :=
  bd (m_lex_Reader_take__lex_Reader_Name_1_M) fun x2 =>
  some ()
def m_askread_reader_ident_M (o1_1 : Int) (o1_2 : Int) : Option (Int) :=
  bd (m_lex_Reader_Line_M) fun x2 =>
  if !decide (o1_1 = 0) then (
    some o1_1)
  else (
    bd (m_lex_Reader_Name_M) fun x5 =>
    bd (
      if !false then (
        bd (m_askread_reader_wrong_M 0 o1_1 o1_2) fun x9 =>
        some x9)
      else (
        some o1_1)) fun v6 =>
    some v6)
def m_lex_Reader_take__lex_Reader_Figure_1_M  : Option (Unit) :=
  bd (m_lex_Reader_Done_M) fun x2 =>
  some ()
def m_lex_Reader_Figure_M  : Option (Unit) :=
  bd (m_lex_Reader_take__lex_Reader_Figure_1_M) fun x2 =>
  some ()
def m_internal_stringslite_Index (p0 : ByteArray) (p1 : ByteArray) : Option (Int) :=
  bd (
    if decide ((p1.size : Int) = 0) then (
      some true)
    else (
      some (sq p1 p0))) fun v1 =>
  if v1 then (
    some 0)
  else (
    if decide ((p1.size : Int) = 1) then (
      bd (bt p1 0) fun x5 =>
      bd (m_internal_stringslite_IndexByte p0 x5) fun x7 =>
      some x7)
    else (
      lt (decide ((p0.size : Int) ≤ (p1.size : Int))) fun x9 =>
      if x9 then (
        some (-1))
      else (
        none)))
def m_internal_stringslite_Cut (p0 : ByteArray) (p1 : ByteArray) : Option (ByteArray × ByteArray × Bool) :=
  bd (m_internal_stringslite_Index p0 p1) fun x1 =>
  if decide (0 ≤ x1) then (
    bd (cs p0 0 x1) fun x4 =>
    bd (cs p0 (wi64 (x1 + (p1.size : Int))) p0.size) fun x6 =>
    some (x4, x6, true))
  else (
    some (p0, (bs []), false))
def m_strings_Cut (p0 : ByteArray) (p1 : ByteArray) : Option (ByteArray × ByteArray × Bool) :=
  bd (m_internal_stringslite_Cut p0 p1) fun x1 =>
  some (x1.1, x1.2.1, x1.2.2)
def m_addr_number_l1 (p0 : ByteArray) : (Int × Nat) → Option ((Int × Nat) ⊕ (Int × Int))
  | (v8, v9) =>
    if decide (v9 < p0.size) then (
      bd (
        if decide ((dc1 p0 v9) < 48) then (
          some (dc1 p0 v9, true, dcn p0 v9))
        else (
          some (dc1 p0 v9, decide (57 < (dc1 p0 v9)), dcn p0 v9))) fun (v11, v12, v13) =>
      if v12 then (
        some (.inr (0, 5)))
      else (
        lt (wi64 ((wi64 (10 * v8)) + (wi64 (wi32 (v11 - 48))))) fun x16 =>
        some (.inl (x16, v13))))
    else (
      some (.inr (v8, 0)))
def m_addr_number (p0 : ByteArray) : Option (Int × Int) :=
  bd (
    if sq p0 (bs []) then (
      some true)
    else (
      if decide (3 < (p0.size : Int)) then (
        some true)
      else (
        if decide (1 < (p0.size : Int)) then (
          bd (bt p0 0) fun x5 =>
          some (decide (x5 = 48)))
        else (
          some false)))) fun v1 =>
  if v1 then (
    some (0, 5))
  else (
    lp (m_addr_number_l1 p0) (0, 0))
def m_addr_Parse_l1  : (Int × Bool × ByteArray × Bool × Int) → Option ((Int × Bool × ByteArray × Bool × Int) ⊕ (Int × Int))
  | (v1, v2, v3, v4, v5) =>
    if decide (v5 < 4) then (
      if !v4 then (
        some (.inr (0, 5)))
      else (
        bd (m_strings_Cut v3 (bs [46])) fun x8 =>
        bd (m_addr_number x8.1) fun x10 =>
        if !decide (x10.2 = 0) then (
          some (.inr (0, x10.2)))
        else (
          bd (
            if v2 then (
              some true)
            else (
              some (decide (255 < x10.1)))) fun v13 =>
          bd (sh .u32 v1 8) fun x15 =>
          lt (Go.bits .or .u32 x15 (wu32 (Go.bits .and .i64 x10.1 255))) fun x17 =>
          some (.inl (x17, v13, x8.2.1, x8.2.2, wi64 (v5 + 1))))))
    else (
      if v4 then (
        some (.inr (0, 5)))
      else (
        if v2 then (
          some (.inr (0, 22)))
        else (
          some (.inr (v1, 0)))))
def m_addr_Parse (p0 : ByteArray) : Option (Int × Int) :=
  lp (m_addr_Parse_l1) (0, false, p0, true, 0)
def m_addr_Mask (p0 : Int) : Option (Int) :=
  bd (sh .u64 4294967295 (wi64 (32 - (min (max p0 0) 32)))) fun x1 =>
  some (wu32 x1)
def m_addr_May (p0 : D_api_Prefix) : Option (Bool) :=
  if decide (0 ≤ p0.2) then (
    if decide (p0.2 ≤ 32) then (
      bd (m_addr_Mask p0.2) fun x3 =>
      lt (decide ((Go.bits .andNot .u32 p0.1 x3) = 0)) fun x5 =>
      some x5)
    else (
      some false))
  else (
    some false)
def m_addr_Prefix (p0 : ByteArray) : Option (D_api_Prefix × Int) :=
  bd (m_strings_Cut p0 (bs [47])) fun x1 =>
  bd (m_addr_number x1.2.1) fun x3 =>
  bd (
    if !x1.2.2 then (
      some true)
    else (
      some (!decide (x3.2 = 0)))) fun v5 =>
  if v5 then (
    some ((0, 0), 5))
  else (
    bd (m_addr_Parse x1.1) fun x8 =>
    if !decide (x8.2 = 0) then (
      some ((0, 0), x8.2))
    else (
      bd (m_addr_May (x8.1, x3.1)) fun x11 =>
      if !x11 then (
        some ((0, 0), 22))
      else (
        some ((x8.1, x3.1), x8.2))))
def m_askread_reader_query_1_M (p0 : ByteArray) (o1_0 : Int) (o1_1 : ByteArray) (o1_2 : ByteArray) (o1_3 : ByteArray) (o1_4 : Int) (o1_5 : Int) (o1_6 : Int) (o1_7 : Int) : Option (Int × Int × Int × Int) :=
  if decide (o1_0 = 4) then (
    bd (m_addr_Prefix p0) fun x2 =>
    some (x2.2, o1_4, x2.1.1, x2.1.2))
  else (
    bd (m_addr_Parse p0) fun x4 =>
    some (x4.2, x4.1, o1_5, o1_6))
def m_askread_reader_figure__askread_reader_query_1_M (o1_1 : Int) (o1_2 : Int) (o2_0 : Int) (o2_1 : ByteArray) (o2_2 : ByteArray) (o2_3 : ByteArray) (o2_4 : Int) (o2_5 : Int) (o2_6 : Int) (o2_7 : Int) : Option (Int × Int × Int × Int × Int) :=
  bd (m_lex_Reader_Line_M) fun x2 =>
  if !decide (o1_1 = 0) then (
    some (o1_1, o1_2, o2_4, o2_5, o2_6))
  else (
    bd (m_lex_Reader_Figure_M) fun x5 =>
    if !false then (
      bd (m_askread_reader_wrong_M 0 o1_1 o1_2) fun x8 =>
      some (x8, o1_2, o2_4, o2_5, o2_6))
    else (
      bd (m_askread_reader_query_1_M (bs []) o2_0 o2_1 o2_2 o2_3 o2_4 o2_5 o2_6 o2_7) fun x10 =>
      if decide (x10.1 = 5) then (
        bd (m_askread_reader_wrong_M 0 o1_1 o1_2) fun x13 =>
        some (x13, o1_2, x10.2.1, x10.2.2.1, x10.2.2.2))
      else (
        bd (
          if !decide (x10.1 = 0) then (
            some (decide (o1_2 = 0)))
          else (
            some false)) fun v14 =>
        if v14 then (
          some (o1_1, 0, x10.2.1, x10.2.2.1, x10.2.2.2))
        else (
          some (o1_1, o1_2, x10.2.1, x10.2.2.1, x10.2.2.2)))))
def m_digits_based (p0 : Int) : Option (Int) :=
  bd (
    if decide (p0 < 2) then (
      some true)
    else (
      some (decide (36 < p0)))) fun v1 =>
  if v1 then (
    some 2)
  else (
    some 0)
def m_digits_value (p0 : Int) (p1 : Int) : Option (Int × Bool) :=
  bd (m_strings_IndexByte (bs [48, 49, 50, 51, 52, 53, 54, 55, 56, 57, 97, 98, 99, 100, 101, 102, 103, 104, 105, 106, 107, 108, 109, 110, 111, 112, 113, 114, 115, 116, 117, 118, 119, 120, 121, 122]) (wu8 p0)) fun x1 =>
  if decide (p0 < 128) then (
    if decide (0 ≤ x1) then (
      some (wu64 (max x1 0), decide (x1 < p1)))
    else (
      some (wu64 (max x1 0), false)))
  else (
    some (wu64 (max x1 0), false))
def m_limb_Add (p0 : Int) (p1 : Int) (p2 : Int) : Option (Int × Int) :=
  lt (wu64 ((wu64 ((Go.bits .and .u64 p0 4294967295) + (Go.bits .and .u64 p1 4294967295))) + (Go.bits .and .u64 p2 4294967295))) fun x1 =>
  bd (sr .u64 x1 32) fun x3 =>
  some (Go.bits .and .u64 x1 4294967295, x3)
def m_limb_Mul (p0 : Int) (p1 : Int) (p2 : Int) (p3 : Int) : Option (Int × Int) :=
  lt (wu64 ((wu64 ((wu64 ((Go.bits .and .u64 p0 4294967295) * (Go.bits .and .u64 p1 4294967295))) + (Go.bits .and .u64 p2 4294967295))) + (Go.bits .and .u64 p3 4294967295))) fun x1 =>
  bd (sr .u64 x1 32) fun x3 =>
  some (Go.bits .and .u64 x1 4294967295, x3)
def m_nat_trim_l1 (p0 : (List Int)) : Int → Option ((Int) ⊕ (Int))
  | v2 =>
    bd (
      if decide (0 < v2) then (
        bd (rd p0 (wi64 (v2 - 1))) fun x5 =>
        some (decide (x5 = 0)))
      else (
        some false)) fun v3 =>
    if v3 then (
      some (.inl (wi64 (v2 - 1))))
    else (
      some (.inr v2))
def m_nat_trim (p0 : (List Int)) : Option ((List Int)) :=
  bd (lp (m_nat_trim_l1 p0) (p0.length : Int)) fun v1 =>
  bd (ct p0 0 v1) fun x8 =>
  some x8
def m_nat_Make_l1 (p0 : (List Int)) : (Int × (List Int)) → Option ((Int × (List Int)) ⊕ ((List Int) × Int))
  | (v3, v4) =>
    if decide (v3 < (p0.length : Int)) then (
      bd (rd p0 v3) fun x6 =>
      if decide (4294967296 ≤ x6) then (
        some (.inr ([], 2)))
      else (
        bd (ap 8 v4 [x6]) fun x9 =>
        some (.inl (wi64 (v3 + 1), x9))))
    else (
      bd (m_nat_trim v4) fun x11 =>
      some (.inr (x11, 0)))
def m_nat_Make (p0 : (List Int)) : Option ((List Int) × Int) :=
  bd (mk 8 0 0 (p0.length : Int)) fun x1 =>
  lp (m_nat_Make_l1 p0) (0, x1)
def m_mul_made (p0 : (List Int)) : Option ((List Int)) :=
  bd (m_nat_Make p0) fun x1 =>
  some x1.1
def m_mul_Small_l1 (p0 : (List Int)) (p1 : Int) : (Int × Int × (List Int)) → Option ((Int × Int × (List Int)) ⊕ (Int × (List Int)))
  | (v7, v8, v9) =>
    if decide (v8 < (p0.length : Int)) then (
      bd (rd p0 v8) fun x11 =>
      bd (m_limb_Mul x11 p1 v7 0) fun x13 =>
      bd (ix v9 v8) fun j15 =>
      lt (v9.set j15 x13.1) fun x17 =>
      some (.inl (x13.2, wi64 (v8 + 1), x17)))
    else (
      some (.inr (v7, v9)))
def m_mul_Small (p0 : (List Int)) (p1 : Int) (p2 : Int) : Option ((List Int)) :=
  bd (mk 8 0 (wi64 ((p0.length : Int) + 1)) (wi64 ((p0.length : Int) + 1))) fun x1 =>
  bd (m_limb_Add p2 0 0) fun x3 =>
  bd (lp (m_mul_Small_l1 p0 p1) (x3.1, 0, x1)) fun (v5, v6) =>
  bd (ix v6 (p0.length : Int)) fun j19 =>
  lt (v6.set j19 v5) fun x21 =>
  bd (m_mul_made x21) fun x23 =>
  some x23
def m_digits_From_l1 (p0 : ByteArray) (p1 : Int) : ((List Int) × Int × Int × Nat) → Option (((List Int) × Int × Int × Nat) ⊕ ((List Int) × Int))
  | (v5, v6, v7, v8) =>
    if decide (v8 < p0.size) then (
      bd (m_digits_value (dc1 p0 v8) p1) fun x10 =>
      if !x10.2 then (
        some (.inr ([], 5)))
      else (
        bd (
          if decide (4294967296 ≤ (wu64 (v6 * (wu64 p1)))) then (
            bd (m_mul_Small v5 v6 v7) fun x18 =>
            some (x18, 1, 0, dcn p0 v8))
          else (
            some (v5, v6, v7, dcn p0 v8))) fun (v13, v14, v15, v16) =>
        lt (wu64 ((wu64 (v15 * (wu64 p1))) + x10.1)) fun x20 =>
        some (.inl (v13, wu64 (v14 * (wu64 p1)), x20, v16))))
    else (
      bd (m_mul_Small v5 v6 v7) fun x22 =>
      some (.inr (x22, 0)))
def m_digits_From (p0 : ByteArray) (p1 : Int) : Option ((List Int) × Int) :=
  bd (m_digits_based p1) fun x1 =>
  if !decide (x1 = 0) then (
    some ([], x1))
  else (
    if sq p0 (bs []) then (
      some ([], 5))
    else (
      lp (m_digits_From_l1 p0 p1) ([], 1, 0, 0)))
def m_digits_Parse (p0 : ByteArray) : Option ((List Int) × Int) :=
  bd (m_digits_From p0 10) fun x1 =>
  some (x1.1, x1.2)
def m_digits_chunk_l1 (p0 : Int) : (Int × Int) → Option ((Int × Int) ⊕ (Int × Int))
  | (v3, v4) =>
    if decide ((wu64 (v3 * (wu64 p0))) < 4294967296) then (
      some (.inl (wu64 (v3 * (wu64 p0)), wi64 (v4 + 1))))
    else (
      some (.inr (v3, v4)))
def m_digits_chunk (p0 : Int) : Option (Int × Int) :=
  bd (lp (m_digits_chunk_l1 p0) (wu64 p0, 1)) fun (v1, v2) =>
  some (v1, v2)
def m_limb_Div (p0 : Int) (p1 : Int) (p2 : Int) : Option (Int × Int × Int) :=
  lt (decide ((Go.bits .and .u64 p2 4294967295) = 0)) fun x1 =>
  if x1 then (
    some (0, 0, 3))
  else (
    lt (decide ((Go.bits .and .u64 p2 4294967295) ≤ (Go.bits .and .u64 p0 4294967295))) fun x4 =>
    if x4 then (
      some (0, 0, 2))
    else (
      bd (sh .u64 (Go.bits .and .u64 p0 4294967295) 32) fun x7 =>
      lt (Go.bits .or .u64 x7 (Go.bits .and .u64 p1 4294967295)) fun x9 =>
      bd (qd .u64 x9 (Go.bits .and .u64 p2 4294967295)) fun x11 =>
      bd (rm .u64 x9 (Go.bits .and .u64 p2 4294967295)) fun x13 =>
      some (x11, x13, 0)))
def m_divide_Small_l1 (p0 : (List Int)) (p1 : Int) : (Int × Int × (List Int)) → Option ((Int × Int × (List Int)) ⊕ (Int × (List Int)))
  | (v8, v9, v10) =>
    if decide (v9 < (p0.length : Int)) then (
      lt (wi64 ((wi64 ((p0.length : Int) - 1)) - v9)) fun x12 =>
      bd (rd p0 x12) fun x14 =>
      bd (m_limb_Div v8 x14 p1) fun x16 =>
      bd (ix v10 x12) fun j18 =>
      lt (v10.set j18 x16.1) fun x20 =>
      some (.inl (x16.2.1, wi64 (v9 + 1), x20)))
    else (
      some (.inr (v8, v10)))
def m_divide_Small (p0 : (List Int)) (p1 : Int) : Option ((List Int) × Int × Int) :=
  bd (rm .u64 p1 4294967296) fun x1 =>
  if decide (x1 = 0) then (
    some ([], 0, 3))
  else (
    bd (mk 8 0 (p0.length : Int) (p0.length : Int)) fun x4 =>
    bd (lp (m_divide_Small_l1 p0 p1) (0, 0, x4)) fun (v6, v7) =>
    bd (m_nat_Make v7) fun x22 =>
    some (x22.1, v6, 0))
def m_digits_piece_l1 (p1 : Int) (p2 : Int) : (Int × Int × (List Int)) → Option ((Int × Int × (List Int)) ⊕ ((List Int)))
  | (v4, v5, v6) =>
    if decide (v5 < p2) then (
      bd (rm .u64 v4 (wu64 p1)) fun x8 =>
      bd (bt (bs [48, 49, 50, 51, 52, 53, 54, 55, 56, 57, 97, 98, 99, 100, 101, 102, 103, 104, 105, 106, 107, 108, 109, 110, 111, 112, 113, 114, 115, 116, 117, 118, 119, 120, 121, 122]) x8) fun x10 =>
      bd (ix v6 (wi64 ((wi64 (p2 - 1)) - v5))) fun j12 =>
      lt (v6.set j12 x10) fun x14 =>
      bd (qd .u64 v4 (wu64 p1)) fun x16 =>
      some (.inl (x16, wi64 (v5 + 1), x14)))
    else (
      some (.inr v6))
def m_digits_piece (p0 : Int) (p1 : Int) (p2 : Int) : Option (ByteArray) :=
  bd (mk 1 0 p2 p2) fun x1 =>
  bd (lp (m_digits_piece_l1 p1 p2) (p0, 0, x1)) fun v3 =>
  some (tx v3)
def m_strings_Builder_copyCheck_M (o1_0 : Bool) (o2 : (List Int)) : Option (Bool) :=
  if o1_0 then (
    some false)
  else (
    some o1_0)
def m_strings_Builder_WriteString_M (p1 : ByteArray) (o1_0 : Bool) (o2 : (List Int)) : Option (Bool × (List Int)) :=
  bd (m_strings_Builder_copyCheck_M o1_0 o2) fun x2 =>
  bd (apS_ o2 p1) fun x3 =>
  some (x2, x3)
def m_strings_Builder_String_M (o1_0 : Bool) (o2 : (List Int)) : Option (ByteArray) :=
  if decide (o2.length = 0) then (
    some (bs []))
  else (
    bd (ust o2) fun x2 =>
    some x2)
def m_strings_trimLeftByte_l1 (p1 : Int) : ByteArray → Option ((ByteArray) ⊕ (ByteArray))
  | v2 =>
    bd (
      if decide (0 < (v2.size : Int)) then (
        bd (bt v2 0) fun x5 =>
        some (decide (x5 = p1)))
      else (
        some false)) fun v3 =>
    if v3 then (
      bd (cs v2 1 v2.size) fun x8 =>
      some (.inl x8))
    else (
      some (.inr v2))
def m_strings_trimLeftByte (p0 : ByteArray) (p1 : Int) : Option (ByteArray) :=
  bd (lp (m_strings_trimLeftByte_l1 p1) p0) fun v1 =>
  some v1
def m_strings_TrimLeft (p0 : ByteArray) (p1 : ByteArray) : Option (ByteArray) :=
  bd (
    if sq p0 (bs []) then (
      some true)
    else (
      some (sq p1 (bs [])))) fun v1 =>
  if v1 then (
    some p0)
  else (
    bd (
      if decide ((p1.size : Int) = 1) then (
        bd (bt p1 0) fun x6 =>
        some (decide (x6 < 128)))
      else (
        some false)) fun v4 =>
    if v4 then (
      bd (bt p1 0) fun x9 =>
      bd (m_strings_trimLeftByte p0 x9) fun x11 =>
      some x11)
    else (
      none))
def m_digits_In_l1 (p1 : Int) (x4 : (Int × Int)) : ((List Int) × (List ByteArray)) → Option (((List Int) × (List ByteArray)) ⊕ ((List ByteArray)))
  | (v9, v10) =>
    if decide (0 < (v9.length : Int)) then (
      bd (m_divide_Small v9 x4.1) fun x12 =>
      bd (m_digits_piece x12.2.1 p1 x4.2) fun x14 =>
      bd (ap 16 v10 [x14]) fun x16 =>
      some (.inl (x12.1, x16)))
    else (
      some (.inr v10))
def m_digits_In_l2 (v8 : (List ByteArray)) : (Int × Bool × (List Int)) → Option ((Int × Bool × (List Int)) ⊕ (Bool × (List Int)))
  | (v20, v21, v22) =>
    if decide (v20 < (v8.length : Int)) then (
      bd (rd v8 (wi64 ((wi64 ((v8.length : Int) - 1)) - v20))) fun x24 =>
      bd (m_strings_Builder_WriteString_M x24 v21 v22) fun x27 =>
      some (.inl (wi64 (v20 + 1), x27.1, x27.2)))
    else (
      some (.inr (v21, v22)))
def m_digits_In (p0 : (List Int)) (p1 : Int) : Option (ByteArray × Int) :=
  bd (m_digits_based p1) fun x1 =>
  if !decide (x1 = 0) then (
    some ((bs []), x1))
  else (
    bd (m_digits_chunk p1) fun x4 =>
    bd (m_nat_Make p0) fun x6 =>
    bd (lp (m_digits_In_l1 p1 x4) (x6.1, [])) fun v8 =>
    bd (lp (m_digits_In_l2 v8) (0, true, [])) fun (v18, v19) =>
    bd (m_strings_Builder_String_M v18 v19) fun x29 =>
    bd (m_strings_TrimLeft x29 (bs [48])) fun x30 =>
    bd (
      if sq x30 (bs []) then (
        some (bs [48]))
      else (
        some x30)) fun v32 =>
    some (v32, 0))
def m_digits_Print (p0 : (List Int)) : Option (ByteArray) :=
  bd (m_digits_In p0 10) fun x1 =>
  some x1.1
def m_digits_Count (p0 : (List Int)) : Option (Int) :=
  bd (m_digits_Print p0) fun x1 =>
  some (x1.size : Int)
def m_limb_Bits_l1 (p0 : Int) : (Int × Int) → Option ((Int × Int) ⊕ (Int))
  | (v2, v3) =>
    if decide (v3 < 32) then (
      bd (
        bd (sr .u64 p0 v3) fun x6 =>
        if decide ((Go.bits .and .u64 x6 1) = 1) then (
          some (wi64 (v3 + 1)))
        else (
          some v2)) fun v5 =>
      some (.inl (v5, wi64 (v3 + 1))))
    else (
      some (.inr v2))
def m_limb_Bits (p0 : Int) : Option (Int) :=
  bd (lp (m_limb_Bits_l1 p0) (0, 0)) fun v1 =>
  some v1
def m_nat_Bits (p0 : (List Int)) : Option (Int) :=
  if decide ((wi64 ((p0.length : Int) - 1)) < 0) then (
    some 0)
  else (
    bd (rd p0 (wi64 ((p0.length : Int) - 1))) fun x2 =>
    bd (m_limb_Bits x2) fun x4 =>
    lt (wi64 ((wi64 (32 * (wi64 ((p0.length : Int) - 1)))) + x4)) fun x6 =>
    some x6)
def m_nat_Small_l1 (p0 : (List Int)) : (Int × Int) → Option ((Int × Int) ⊕ (Int))
  | (v5, v6) =>
    if decide (0 ≤ v6) then (
      bd (sh .u64 v5 32) fun x8 =>
      bd (rd p0 v6) fun x10 =>
      some (.inl (Go.bits .or .u64 x8 x10, wi64 (v6 - 1))))
    else (
      some (.inr v5))
def m_nat_Small (p0 : (List Int)) : Option (Int × Bool) :=
  bd (m_nat_Bits p0) fun x1 =>
  if decide (63 < x1) then (
    some (0, false))
  else (
    bd (lp (m_nat_Small_l1 p0) (0, wi64 ((p0.length : Int) - 1))) fun v4 =>
    some (v4, true))
def m_netread_Count (p0 : ByteArray) : Option (Int × Int) :=
  bd (m_digits_Parse p0) fun x1 =>
  if !decide (x1.2 = 0) then (
    some (0, x1.2))
  else (
    bd (m_digits_Count x1.1) fun x4 =>
    if decide (9 < x4) then (
      some (1073741824, x1.2))
    else (
      bd (m_nat_Small x1.1) fun x7 =>
      some (wi64 x7.1, x1.2)))
def m_askread_reader_query_2_M (p0 : ByteArray) (o1_0 : Int) (o1_1 : ByteArray) (o1_2 : ByteArray) (o1_3 : ByteArray) (o1_4 : Int) (o1_5 : Int) (o1_6 : Int) (o1_7 : Int) : Option (Int × Int) :=
  bd (m_netread_Count p0) fun x1 =>
  some (x1.2, x1.1)
def m_askread_reader_figure__askread_reader_query_2_M (o1_1 : Int) (o1_2 : Int) (o2_0 : Int) (o2_1 : ByteArray) (o2_2 : ByteArray) (o2_3 : ByteArray) (o2_4 : Int) (o2_5 : Int) (o2_6 : Int) (o2_7 : Int) : Option (Int × Int × Int) :=
  bd (m_lex_Reader_Line_M) fun x2 =>
  if !decide (o1_1 = 0) then (
    some (o1_1, o1_2, o2_7))
  else (
    bd (m_lex_Reader_Figure_M) fun x5 =>
    if !false then (
      bd (m_askread_reader_wrong_M 0 o1_1 o1_2) fun x8 =>
      some (x8, o1_2, o2_7))
    else (
      bd (m_askread_reader_query_2_M (bs []) o2_0 o2_1 o2_2 o2_3 o2_4 o2_5 o2_6 o2_7) fun x10 =>
      if decide (x10.1 = 5) then (
        bd (m_askread_reader_wrong_M 0 o1_1 o1_2) fun x13 =>
        some (x13, o1_2, x10.2))
      else (
        bd (
          if !decide (x10.1 = 0) then (
            some (decide (o1_2 = 0)))
          else (
            some false)) fun v14 =>
        if v14 then (
          some (o1_1, 0, x10.2))
        else (
          some (o1_1, o1_2, x10.2)))))
def m_lex_Reader_Done_M_2 (o1_0 : (List D_lex_Token)) (o1_1 : Int) : Option (Unit) :=
  some ()
def m_lex_Reader_Is_M (p1 : ByteArray) (o1_0 : (List D_lex_Token)) (o1_1 : Int) : Option (Bool) :=
  bd (m_lex_Reader_Done_M_2 o1_0 o1_1) fun x2 =>
  if !(decide ((o1_0.length : Int) = 0)) then (
    bd (rd o1_0 0) fun x4 =>
    some (sq x4.2.1 p1))
  else (
    some false)
def m_lex_Reader_Take_M (p1 : ByteArray) (o1_0 : (List D_lex_Token)) (o1_1 : Int) : Option (Bool × (List D_lex_Token)) :=
  bd (m_lex_Reader_Is_M p1 o1_0 o1_1) fun x2 =>
  bd (
    if x2 then (
      bd (ct o1_0 1 o1_0.length) fun x5 =>
      some x5)
    else (
      some o1_0)) fun v3 =>
  some (x2, v3)
def m_lex_Reader_Line_M_2 (o1_0 : (List D_lex_Token)) (o1_1 : Int) : Option (Int) :=
  if decide ((o1_0.length : Int) = 0) then (
    some o1_1)
  else (
    bd (rd o1_0 0) fun x2 =>
    some x2.2.2)
def m_askread_reader_wrong_M_2 (p1 : Int) (o1_1 : Int) (o1_2 : Int) (o2_0 : (List D_lex_Token)) (o2_1 : Int) : Option (Int) :=
  if decide (o1_1 = 0) then (
    some p1)
  else (
    some o1_1)
def m_askread_reader_kind_M_2_l1 (o1_1 : Int) (o1_2 : Int) (o2_1 : Int) (x1 : (List D_askread_ask)) : (Int × (List D_lex_Token)) → Option ((Int × (List D_lex_Token)) ⊕ (Int × Int × (List D_lex_Token)))
  | (v3, v4) =>
    if decide (v3 < (x1.length : Int)) then (
      bd (rd x1 v3) fun x6 =>
      bd (m_lex_Reader_Take_M x6.1 v4 o2_1) fun x9 =>
      if x9.1 then (
        some (.inr (x6.2, o1_1, x9.2)))
      else (
        some (.inl (wi64 (v3 + 1), x9.2))))
    else (
      bd (m_lex_Reader_Line_M_2 v4 o2_1) fun x12 =>
      bd (m_askread_reader_wrong_M_2 x12 o1_1 o1_2 v4 o2_1) fun x14 =>
      some (.inr (0, x14, v4)))
def m_askread_reader_kind_M_2 (o1_1 : Int) (o1_2 : Int) (o2_0 : (List D_lex_Token)) (o2_1 : Int) : Option (Int × Int × (List D_lex_Token)) :=
  bd (m_askread_asks) fun x1 =>
  lp (m_askread_reader_kind_M_2_l1 o1_1 o1_2 o2_1 x1) (0, o2_0)
def m_name_letter (p0 : Int) : Option (Bool) :=
  if decide (97 ≤ p0) then (
    some (decide (p0 ≤ 122)))
  else (
    some false)
def m_name_other (p0 : Int) : Option (Bool) :=
  if decide (48 ≤ p0) then (
    if decide (p0 ≤ 57) then (
      some true)
    else (
      if decide (p0 = 45) then (
        some true)
      else (
        some (decide (p0 = 95)))))
  else (
    if decide (p0 = 45) then (
      some true)
    else (
      some (decide (p0 = 95))))
def m_name_Word_l1 (p0 : ByteArray) : Nat → Option ((Nat) ⊕ (Bool))
  | v1 =>
    if decide (v1 < p0.size) then (
      bd (
        bd (m_name_letter (dc1 p0 v1)) fun x5 =>
        if !x5 then (
          if decide ((v1 : Int) = 0) then (
            some (true, dcn p0 v1))
          else (
            bd (m_name_other (dc1 p0 v1)) fun x9 =>
            some (!x9, dcn p0 v1)))
        else (
          some (false, dcn p0 v1))) fun (v3, v4) =>
      if v3 then (
        some (.inr false))
      else (
        some (.inl v4)))
    else (
      some (.inr (!sq p0 (bs []))))
def m_name_Word (p0 : ByteArray) : Option (Bool) :=
  lp (m_name_Word_l1 p0) 0
def m_name_Keywords  : Option ((List ByteArray)) :=
  some [(bs [110, 101, 116, 119, 111, 114, 107]), (bs [110, 111, 100, 101]), (bs [104, 111, 109, 101]), (bs [108, 105, 110, 107]), (bs [102, 97, 105, 108]), (bs [114, 117, 108, 101]), (bs [100, 114, 111, 112]), (bs [118, 105, 97]), (bs [101, 108, 115, 101]), (bs [112, 114, 111, 98]), (bs [104, 111, 112, 115]), (bs [119, 105, 116, 104, 105, 110]), (bs [99, 111, 109, 112, 97, 114, 101])]
def m_slices_Index_string_string_l1 (p0 : (List ByteArray)) (p1 : ByteArray) : Int → Option ((Int) ⊕ (Int))
  | v1 =>
    if decide (v1 < (p0.length : Int)) then (
      bd (rd p0 v1) fun x3 =>
      if sq p1 x3 then (
        some (.inr v1))
      else (
        some (.inl (wi64 (v1 + 1)))))
    else (
      some (.inr (-1)))
def m_slices_Index_string_string (p0 : (List ByteArray)) (p1 : ByteArray) : Option (Int) :=
  lp (m_slices_Index_string_string_l1 p0 p1) 0
def m_slices_Contains_string_string (p0 : (List ByteArray)) (p1 : ByteArray) : Option (Bool) :=
  bd (m_slices_Index_string_string p0 p1) fun x1 =>
  some (decide (0 ≤ x1))
def m_name_Keyword (p0 : ByteArray) : Option (Bool) :=
  bd (m_name_Keywords) fun x1 =>
  bd (m_slices_Contains_string_string x1 p0) fun x3 =>
  some x3
def m_name_Name (p0 : ByteArray) : Option (Bool) :=
  bd (m_name_Word p0) fun x1 =>
  if x1 then (
    bd (m_name_Keyword p0) fun x4 =>
    some (!x4))
  else (
    some false)
def m_lex_Reader_Name_1 (p0 : D_lex_Token) : Option (Bool) :=
  if decide (p0.1 = 1) then (
    bd (m_name_Name p0.2.1) fun x2 =>
    some x2)
  else (
    some false)
def m_lex_Reader_take__lex_Reader_Name_1_M_2 (o1_0 : (List D_lex_Token)) (o1_1 : Int) : Option (ByteArray × Bool × (List D_lex_Token)) :=
  bd (
    bd (m_lex_Reader_Done_M_2 o1_0 o1_1) fun x3 =>
    if decide ((o1_0.length : Int) = 0) then (
      some true)
    else (
      bd (rd o1_0 0) fun x5 =>
      bd (m_lex_Reader_Name_1 x5) fun x7 =>
      some (!x7))) fun v1 =>
  if v1 then (
    some ((bs []), false, o1_0))
  else (
    bd (rd o1_0 0) fun x10 =>
    bd (ct o1_0 1 o1_0.length) fun x12 =>
    some (x10.2.1, true, x12))
def m_lex_Reader_Name_M_2 (o1_0 : (List D_lex_Token)) (o1_1 : Int) : Option (ByteArray × Bool × (List D_lex_Token)) :=
  bd (m_lex_Reader_take__lex_Reader_Name_1_M_2 o1_0 o1_1) fun x2 =>
  some (x2.1, x2.2.1, x2.2.2)
def m_askread_reader_ident_M_2 (o1_1 : Int) (o1_2 : Int) (o2_0 : (List D_lex_Token)) (o2_1 : Int) : Option (ByteArray × Int × (List D_lex_Token)) :=
  bd (m_lex_Reader_Line_M_2 o2_0 o2_1) fun x2 =>
  if !decide (o1_1 = 0) then (
    some ((bs []), o1_1, o2_0))
  else (
    bd (m_lex_Reader_Name_M_2 o2_0 o2_1) fun x5 =>
    bd (
      if !x5.2.1 then (
        bd (m_askread_reader_wrong_M_2 x2 o1_1 o1_2 x5.2.2 o2_1) fun x9 =>
        some x9)
      else (
        some o1_1)) fun v6 =>
    some (x5.1, v6, x5.2.2))
def m_lex_Reader_Figure_1 (p0 : D_lex_Token) : Option (Bool) :=
  some (decide (p0.1 = 2))
def m_lex_Reader_take__lex_Reader_Figure_1_M_2 (o1_0 : (List D_lex_Token)) (o1_1 : Int) : Option (ByteArray × Bool × (List D_lex_Token)) :=
  bd (
    bd (m_lex_Reader_Done_M_2 o1_0 o1_1) fun x3 =>
    if decide ((o1_0.length : Int) = 0) then (
      some true)
    else (
      bd (rd o1_0 0) fun x5 =>
      bd (m_lex_Reader_Figure_1 x5) fun x7 =>
      some (!x7))) fun v1 =>
  if v1 then (
    some ((bs []), false, o1_0))
  else (
    bd (rd o1_0 0) fun x10 =>
    bd (ct o1_0 1 o1_0.length) fun x12 =>
    some (x10.2.1, true, x12))
def m_lex_Reader_Figure_M_2 (o1_0 : (List D_lex_Token)) (o1_1 : Int) : Option (ByteArray × Bool × (List D_lex_Token)) :=
  bd (m_lex_Reader_take__lex_Reader_Figure_1_M_2 o1_0 o1_1) fun x2 =>
  some (x2.1, x2.2.1, x2.2.2)
def m_askread_reader_figure__askread_reader_query_1_M_2 (o1_1 : Int) (o1_2 : Int) (o2_0 : Int) (o2_1 : ByteArray) (o2_2 : ByteArray) (o2_3 : ByteArray) (o2_4 : Int) (o2_5 : Int) (o2_6 : Int) (o2_7 : Int) (o3_0 : (List D_lex_Token)) (o3_1 : Int) : Option (Int × Int × Int × Int × Int × (List D_lex_Token)) :=
  bd (m_lex_Reader_Line_M_2 o3_0 o3_1) fun x2 =>
  if !decide (o1_1 = 0) then (
    some (o1_1, o1_2, o2_4, o2_5, o2_6, o3_0))
  else (
    bd (m_lex_Reader_Figure_M_2 o3_0 o3_1) fun x5 =>
    if !x5.2.1 then (
      bd (m_askread_reader_wrong_M_2 x2 o1_1 o1_2 x5.2.2 o3_1) fun x8 =>
      some (x8, o1_2, o2_4, o2_5, o2_6, x5.2.2))
    else (
      bd (m_askread_reader_query_1_M x5.1 o2_0 o2_1 o2_2 o2_3 o2_4 o2_5 o2_6 o2_7) fun x10 =>
      if decide (x10.1 = 5) then (
        bd (m_askread_reader_wrong_M_2 x2 o1_1 o1_2 x5.2.2 o3_1) fun x13 =>
        some (x13, o1_2, x10.2.1, x10.2.2.1, x10.2.2.2, x5.2.2))
      else (
        bd (
          if !decide (x10.1 = 0) then (
            some (decide (o1_2 = 0)))
          else (
            some false)) fun v14 =>
        if v14 then (
          some (o1_1, x2, x10.2.1, x10.2.2.1, x10.2.2.2, x5.2.2))
        else (
          some (o1_1, o1_2, x10.2.1, x10.2.2.1, x10.2.2.2, x5.2.2)))))
def m_askread_reader_figure__askread_reader_query_2_M_2 (o1_1 : Int) (o1_2 : Int) (o2_0 : Int) (o2_1 : ByteArray) (o2_2 : ByteArray) (o2_3 : ByteArray) (o2_4 : Int) (o2_5 : Int) (o2_6 : Int) (o2_7 : Int) (o3_0 : (List D_lex_Token)) (o3_1 : Int) : Option (Int × Int × Int × (List D_lex_Token)) :=
  bd (m_lex_Reader_Line_M_2 o3_0 o3_1) fun x2 =>
  if !decide (o1_1 = 0) then (
    some (o1_1, o1_2, o2_7, o3_0))
  else (
    bd (m_lex_Reader_Figure_M_2 o3_0 o3_1) fun x5 =>
    if !x5.2.1 then (
      bd (m_askread_reader_wrong_M_2 x2 o1_1 o1_2 x5.2.2 o3_1) fun x8 =>
      some (x8, o1_2, o2_7, x5.2.2))
    else (
      bd (m_askread_reader_query_2_M x5.1 o2_0 o2_1 o2_2 o2_3 o2_4 o2_5 o2_6 o2_7) fun x10 =>
      if decide (x10.1 = 5) then (
        bd (m_askread_reader_wrong_M_2 x2 o1_1 o1_2 x5.2.2 o3_1) fun x13 =>
        some (x13, o1_2, x10.2, x5.2.2))
      else (
        bd (
          if !decide (x10.1 = 0) then (
            some (decide (o1_2 = 0)))
          else (
            some false)) fun v14 =>
        if v14 then (
          some (o1_1, x2, x10.2, x5.2.2))
        else (
          some (o1_1, o1_2, x10.2, x5.2.2)))))
def m_askread_reader_query_M (o1_1 : Int) (o1_2 : Int) (o2_0 : (List D_lex_Token)) (o2_1 : Int) : Option (D_api_Query × Int × Int × (List D_lex_Token)) :=
  bd (m_askread_reader_kind_M_2 o1_1 o1_2 o2_0 o2_1) fun x2 =>
  bd (m_askread_reader_ident_M_2 x2.2.1 o1_2 x2.2.2 o2_1) fun x4 =>
  bd (
    if decide (x2.1 = 4) then (
      bd (m_askread_reader_ident_M_2 x4.2.1 o1_2 x4.2.2 o2_1) fun x10 =>
      some (x10.2.1, x10.2.2, x10.1))
    else (
      some (x4.2.1, x4.2.2, (bs [])))) fun (v5, v6, v7) =>
  bd (m_askread_reader_ident_M_2 v5 o1_2 v6 o2_1) fun x12 =>
  bd (m_askread_reader_figure__askread_reader_query_1_M_2 x12.2.1 o1_2 x2.1 x4.1 v7 x12.1 0 0 0 0 x12.2.2 o2_1) fun x14 =>
  bd (
    if decide (x2.1 = 3) then (
      bd (m_askread_reader_figure__askread_reader_query_2_M_2 x14.1 x14.2.1 x2.1 x4.1 v7 x12.1 x14.2.2.1 x14.2.2.2.1 x14.2.2.2.2.1 0 x14.2.2.2.2.2 o2_1) fun x21 =>
      some (x21.1, x21.2.1, x21.2.2.2, x21.2.2.1))
    else (
      some (x14.1, x14.2.1, x14.2.2.2.2.2, 0))) fun (v15, v16, v17, v18) =>
  bd (
    bd (m_lex_Reader_Line_M_2 v17 o2_1) fun x25 =>
    bd (
      if decide (v15 = 0) then (
        bd (m_lex_Reader_Take_M (bs [59]) v17 o2_1) fun x30 =>
        some (!x30.1, x30.2))
      else (
        some (false, v17))) fun (v26, v27) =>
    if v26 then (
      bd (m_askread_reader_wrong_M_2 x25 v15 v16 v27 o2_1) fun x33 =>
      some (x33, v27))
    else (
      some (v15, v27))) fun (v22, v23) =>
  some ((x2.1, x4.1, v7, x12.1, x14.2.2.1, (x14.2.2.2.1, x14.2.2.2.2.1), v18), v22, v16, v23)
def m_askread_Read_l1  : Unit → Option ((Unit) ⊕ Unit)
  | _ =>
    bd (
      if decide (0 = 0) then (
        bd (m_lex_Reader_Done_M) fun x8 =>
        some (!true))
      else (
        some false)) fun v5 =>
    if v5 then (
      none)
    else (
      some (.inr ()))
def m_askread_Read_l2 (v3b : (Int × Int × (List D_lex_Token) × Int)) : (Int × Int × (List D_api_Query) × (List D_lex_Token)) → Option ((Int × Int × (List D_api_Query) × (List D_lex_Token)) ⊕ (Int × Int × (List D_api_Query) × (List D_lex_Token)))
  | (v16, v17, v18, v19) =>
    bd (
      if decide (v16 = 0) then (
        bd (m_lex_Reader_Done_M_2 v19 v3b.2.2.2) fun x23 =>
        some (!(decide ((v19.length : Int) = 0))))
      else (
        some false)) fun v20 =>
    if v20 then (
      bd (m_askread_reader_query_M v16 v17 v19 v3b.2.2.2) fun x26 =>
      bd (ap 88 v18 [x26.1]) fun x27 =>
      some (.inl (x26.2.1, x26.2.2.1, x27, x26.2.2.2)))
    else (
      some (.inr (v16, v17, v18, v19)))
def m_askread_Read (p0 : ByteArray) : Option ((List D_api_Query) × Int × Int) :=
  bd (m_lex_New_M p0) fun x2 =>
  alt2 x2 (fun v3a =>
    if !decide (v3a.2 = 0) then (
      some ([], v3a.1, v3a.2))
    else (
      bd (lp (m_askread_Read_l1) ()) fun _ =>
      if !decide (0 = 0) then (
        some ([], 0, 21))
      else (
        some ([], 0, 0)))) (fun v3b =>
    if !decide (v3b.2.1 = 0) then (
      some ([], v3b.1, v3b.2.1))
    else (
      bd (lp (m_askread_Read_l2 v3b) (0, 0, [], v3b.2.2.1)) fun (v12, v13, v14, v15) =>
      if !decide (v12 = 0) then (
        some ([], v12, 21))
      else (
        if !decide (v13 = 0) then (
          some ([], v13, 22))
        else (
          some (v14, 0, 0)))))
def m_triviumlaw21_works  : Option (Bool) :=
  bd (m_askread_Read (bs [112, 114, 111, 98, 32, 97, 32, 114, 32, 49, 48, 46, 48, 46, 48, 46, 49, 59])) fun x1 =>
  if decide (x1.2.2 = 0) then (
    if decide (x1.2.1 = 0) then (
      if decide ((x1.1.length : Int) = 1) then (
        bd (rd x1.1 0) fun x6 =>
        lt (decide (x6.1 = 1) && (sq x6.2.1 (bs [97]) && (sq x6.2.2.1 (bs []) && (sq x6.2.2.2.1 (bs [114]) && (decide (x6.2.2.2.2.1 = 167772161) && ((decide (x6.2.2.2.2.2.1.1 = 0) && decide (x6.2.2.2.2.2.1.2 = 0)) && decide (x6.2.2.2.2.2.2 = 0))))))) fun x8 =>
        some x8)
      else (
        some false))
    else (
      some false))
  else (
    some false)
def m_triviumref21_Same_l1 (p0 : (List D_api_Query)) (p1 : (List D_api_Query)) : Int → Option ((Int) ⊕ (Bool))
  | v2 =>
    if decide (v2 < (p0.length : Int)) then (
      bd (rd p0 v2) fun x4 =>
      bd (rd p1 v2) fun x6 =>
      if !((decide (x4.1 = x6.1) && (sq x4.2.1 x6.2.1 && (sq x4.2.2.1 x6.2.2.1 && (sq x4.2.2.2.1 x6.2.2.2.1 && (decide (x4.2.2.2.2.1 = x6.2.2.2.2.1) && ((decide (x4.2.2.2.2.2.1.1 = x6.2.2.2.2.2.1.1) && decide (x4.2.2.2.2.2.1.2 = x6.2.2.2.2.2.1.2)) && decide (x4.2.2.2.2.2.2 = x6.2.2.2.2.2.2)))))))) then (
        some (.inr false))
      else (
        some (.inl (wi64 (v2 + 1)))))
    else (
      some (.inr true))
def m_triviumref21_Same (p0 : (List D_api_Query)) (p1 : (List D_api_Query)) : Option (Bool) :=
  if !decide ((p0.length : Int) = (p1.length : Int)) then (
    some false)
  else (
    lp (m_triviumref21_Same_l1 p0 p1) 0)
def m_triviumlaw21_AskreadBehind (p0 : ByteArray) (p1 : ByteArray) : Option (Bool) :=
  bd (m_triviumlaw21_works) fun x1 =>
  if !x1 then (
    some false)
  else (
    bd (cs p0 0 (min (p0.size : Int) 1500)) fun x4 =>
    bd (cs p1 0 (min (p1.size : Int) 1500)) fun x6 =>
    bd (m_askread_Read x4) fun x8 =>
    bd (m_askread_Read x6) fun x10 =>
    bd (cat x4 (bs [10])) fun x12 =>
    bd (cat x12 x6) fun x14 =>
    bd (m_askread_Read x14) fun x16 =>
    bd (
      if !decide (x8.2.2 = 0) then (
        some true)
      else (
        some (!decide (x10.2.2 = 0)))) fun v18 =>
    if v18 then (
      if decide (x8.2.2 = 21) then (
        some true)
      else (
        if decide (x8.2.2 = 22) then (
          some true)
        else (
          if decide (x10.2.2 = 21) then (
            some true)
          else (
            some (decide (x10.2.2 = 22))))))
    else (
      if decide (x16.2.2 = 0) then (
        bd (ap 88 [] x8.1) fun x25 =>
        bd (ap 88 x25 x10.1) fun x27 =>
        bd (m_triviumref21_Same x16.1 x27) fun x29 =>
        some x29)
      else (
        some false)))
end
end Go.Proofs.YtboghejfmmigkaaDoor.AP
/- The code comes to the printed functions (printed by a program of ours). -/
namespace Go.Proofs.YtboghejfmmigkaaDoor.AE
open Go Go.RowKit Go.Proofs.YtboghejfmmigkaaDoor.AP
set_option linter.unusedVariables false
set_option maxRecDepth 20000
theorem en47 : Enters Tryd.prog 47 := ⟨_, Tryd.func47, rfl, rfl⟩
theorem k_internal_stringslite_IndexByte {p0 : ByteArray} {p1 : Int} {y : Int} (h : m_internal_stringslite_IndexByte p0 p1 = some y) : Spec Tryd.prog 47 [(.v .str p0), (.v (.int .u8) p1)] (.v (.int .i64) y) [] := by
  rw [m_internal_stringslite_IndexByte] at h
  refine enterN [(.v .str p0), (.v (.int .u8) p1)] 8 Tryd.func47 rfl rfl rfl ?_
  refine T.seq ?_
  refine T.region ?_
  refine Run.go (Ev.assign rfl rfl) ?_
  refine Run.nil ?_
  refine T.seq ?_
  refine T.region ?_
  refine Run.go (Ev.move rfl rfl) ?_
  refine Run.go (Ev.move rfl rfl) ?_
  refine Run.go (Ev.e_idxb ib56 rfl rfl rfl rfl) ?_
  refine Run.go (Ev.assign rfl rfl) ?_
  refine Run.nil ?_
  refine T.ret ?_
  cases h
  exact Fin.one rfl .v
theorem en35 : Enters Tryd.prog 35 := ⟨_, Tryd.func35, rfl, rfl⟩
theorem k_strings_IndexByte {p0 : ByteArray} {p1 : Int} {y : Int} (h : m_strings_IndexByte p0 p1 = some y) : Spec Tryd.prog 35 [(.v .str p0), (.v (.int .u8) p1)] (.v (.int .i64) y) [] := by
  rw [m_strings_IndexByte] at h
  refine enterN [(.v .str p0), (.v (.int .u8) p1)] 8 Tryd.func35 rfl rfl rfl ?_
  refine T.seq ?_
  refine T.region ?_
  refine Run.go (Ev.assign rfl rfl) ?_
  refine Run.nil ?_
  refine T.seq ?_
  refine T.region ?_
  refine Run.go (Ev.move rfl rfl) ?_
  refine Run.go (Ev.move rfl rfl) ?_
  obtain ⟨x1, e2, h⟩ := bdS h
  refine Run.go (Ev.callC en47 (k_internal_stringslite_IndexByte e2) rfl (.cons .v (.cons .v .nil)) rfl rfl) ?_
  refine Run.go (Ev.assign rfl rfl) ?_
  refine Run.nil ?_
  refine T.ret ?_
  cases h
  exact Fin.one rfl .v
theorem k_lex_kind {p0 : Int} {y : Int × ByteArray} (h : m_lex_kind p0 = some y) : Spec Tryd.prog 34 [(.v (.int .u8) p0)] (.tup [.v (.int .i64) y.1, .v .str y.2]) [] := by
  rw [m_lex_kind] at h
  refine enterN [(.v (.int .u8) p0)] 19 Tryd.func34 rfl rfl rfl ?_
  refine T.seq ?_
  refine T.region ?_
  refine Run.go (Ev.assign rfl rfl) ?_
  refine Run.go (Ev.assign rfl rfl) ?_
  refine Run.nil ?_
  refine T.seq ?_
  refine T.block ?_
  refine T.seq ?_
  refine T.region ?_
  refine Run.go (Ev.move rfl rfl) ?_
  obtain ⟨x1, e2, h⟩ := bdS h
  refine Run.go (Ev.callC en35 (k_strings_IndexByte e2) rfl (.cons .v (.cons .v .nil)) rfl rfl) ?_
  refine Run.go (Ev.int rfl rfl rfl rfl trivial) ?_
  refine Run.go (Ev.assign rfl rfl) ?_
  refine Run.nil ?_
  refine T.cond rfl (fun hb3 => ?_) (fun hb3 => ?_)
  · replace h := ifT hb3 h
    refine T.seq ?_
    refine T.region ?_
    refine Run.go (Ev.assign rfl rfl) ?_
    obtain ⟨x4, e5, h⟩ := ltS h
    refine Run.go (Ev.avs (Ev.assign rfl rfl) e5) ?_
    refine Run.nil ?_
    refine T.ret ?_
    cases h
    exact Fin.many X rfl (.cons (.tmp .v) (.cons (.tmp .v) .nil)) rfl
  · replace h := ifF hb3 h
    obtain ⟨v6, hv, h⟩ := bdS h
    refine T.cut (fun _ : Unit => (⟨[(0, .v (.int .u8) p0), (8, .v .bool v6)], [], 19⟩ : St)) (fun _ => True) ?_ (fun _ _ => ?_)
    · replace h := hv
      clear hv
      refine T.region ?_
      refine Run.go (Ev.move rfl rfl) ?_
      refine Run.go (Ev.int rfl rfl rfl rfl trivial) ?_
      refine Run.go (Ev.move rfl rfl) ?_
      rcases boolCases (decide (48 ≤ p0)) with hb7 | hb7
      · replace h := ifT hb7 h
        refine Run.on rfl rfl rfl hb7 (Ev.move rfl rfl) ?_
        refine Run.on rfl rfl rfl hb7 (Ev.int rfl rfl rfl rfl trivial) ?_
        refine Run.go (Ev.pickT rfl hb7 rfl rfl) ?_
        refine Run.go (Ev.assign rfl rfl) ?_
        refine Run.nil ?_
        cases h
        exact ⟨(), trivial, Ghost.only [] [0, 8] rfl⟩
      · replace h := ifF hb7 h
        refine Run.offT rfl rfl rfl rfl hb7 ?_
        refine Run.offT rfl rfl rfl rfl hb7 ?_
        refine Run.go (Ev.pickF rfl hb7 rfl rfl) ?_
        refine Run.go (Ev.assign rfl rfl) ?_
        refine Run.nil ?_
        cases h
        exact ⟨(), trivial, Ghost.only [] [0, 8] rfl⟩
    · refine T.cond rfl (fun hb8 => ?_) (fun hb8 => ?_)
      · replace h := ifT hb8 h
        refine T.seq ?_
        refine T.region ?_
        refine Run.go (Ev.assign rfl rfl) ?_
        obtain ⟨x9, e10, h⟩ := ltS h
        refine Run.go (Ev.avs (Ev.assign rfl rfl) e10) ?_
        refine Run.nil ?_
        refine T.ret ?_
        cases h
        exact Fin.many X rfl (.cons (.tmp .v) (.cons (.tmp .v) .nil)) rfl
      · replace h := ifF hb8 h
        refine T.seq ?_
        refine T.region ?_
        refine Run.go (Ev.move rfl rfl) ?_
        obtain ⟨x11, e12, h⟩ := bdS h
        refine Run.go (Ev.callC en35 (k_strings_IndexByte e12) rfl (.cons .v (.cons .v .nil)) rfl rfl) ?_
        refine Run.go (Ev.int rfl rfl rfl rfl trivial) ?_
        refine Run.go (Ev.assign rfl rfl) ?_
        refine Run.nil ?_
        refine T.cond rfl (fun hb13 => ?_) (fun hb13 => ?_)
        · replace h := ifT hb13 h
          refine T.seq ?_
          refine T.region ?_
          refine Run.go (Ev.assign rfl rfl) ?_
          refine Run.go (Ev.assign rfl rfl) ?_
          refine Run.nil ?_
          refine T.ret ?_
          cases h
          exact Fin.many X rfl (.cons (.tmp .v) (.cons (.tmp .v) .nil)) rfl
        · replace h := ifF hb13 h
          refine T.skip ?_
          refine T.seq ?_
          refine T.region ?_
          refine Run.go (Ev.assign rfl rfl) ?_
          refine Run.go (Ev.assign rfl rfl) ?_
          refine Run.nil ?_
          refine T.ret ?_
          cases h
          exact Fin.many X rfl (.cons (.tmp .v) (.cons (.tmp .v) .nil)) rfl
theorem k_lex_length {p0 : ByteArray} {p1 : ByteArray} {y : Int} (h : m_lex_length p0 p1 = some y) : Spec Tryd.prog 36 [(.v .str p0), (.v .str p1)] (.v (.int .i64) y) [] := by
  rw [m_lex_length] at h
  refine enterN [(.v .str p0), (.v .str p1)] 21 Tryd.func36 rfl rfl rfl ?_
  refine T.seq ?_
  refine T.region ?_
  refine Run.go (Ev.assign rfl rfl) ?_
  refine Run.nil ?_
  refine T.seq ?_
  refine T.region ?_
  refine Run.go (Ev.assign rfl rfl) ?_
  refine Run.nil ?_
  obtain ⟨v1, hv, h⟩ := bdS h
  refine T.cut (fun _ : Unit => (⟨[(5, .v (.int .i64) v1)], [], 21⟩ : St)) (fun _ => True) ?_ (fun _ _ => ?_)
  · replace h := hv
    clear hv
    refine T.block ?_
    refine T.loop (LoopT.ghost (Ghost.only [] [0, 1, 5] rfl) (LoopT.run (fun q : Int => (⟨[(0, .v .str p0), (1, .v .str p1), (5, .v (.int .i64) q)], [], 21⟩ : St)) (fun v2 z1 h hz1 => ?_) h))
    rw [m_lex_length_l1] at h
    refine T.seq ?_
    obtain ⟨v3, hv, h⟩ := bdS h
    refine T.cut (fun _ : Unit => (⟨[(0, .v .str p0), (1, .v .str p1), (5, .v (.int .i64) v2), (17, .v .bool v3)], [], 21⟩ : St)) (fun _ => True) ?_ (fun _ _ => ?_)
    · replace h := hv
      clear hv
      refine T.region ?_
      refine Run.go (Ev.move rfl rfl) ?_
      refine Run.go (Ev.move rfl rfl) ?_
      refine Run.go (Ev.len X rfl rfl rfl rfl) ?_
      refine Run.go (Ev.int rfl rfl rfl rfl trivial) ?_
      refine Run.go (Ev.move rfl rfl) ?_
      rcases boolCases (decide (v2 < (p0.size : Int))) with hb4 | hb4
      · replace h := ifT hb4 h
        refine Run.on rfl rfl rfl hb4 (Ev.move rfl rfl) ?_
        refine Run.on rfl rfl rfl hb4 (Ev.move rfl rfl) ?_
        refine Run.on rfl rfl rfl hb4 (Ev.move rfl rfl) ?_
        obtain ⟨x5, e6, h⟩ := bdS h
        refine Run.on rfl rfl rfl hb4 (Ev.e_bt X e6 rfl rfl rfl rfl) ?_
        obtain ⟨x7, e8, h⟩ := bdS h
        refine Run.on rfl rfl rfl hb4 (Ev.callC en35 (k_strings_IndexByte e8) rfl (.cons .v (.cons .v .nil)) rfl rfl) ?_
        refine Run.on rfl rfl rfl hb4 (Ev.int rfl rfl rfl rfl trivial) ?_
        refine Run.go (Ev.pickT rfl hb4 rfl rfl) ?_
        refine Run.nil ?_
        cases h
        exact ⟨(), trivial, Ghost.only [] [0, 1, 5, 17] rfl⟩
      · replace h := ifF hb4 h
        refine Run.offT rfl rfl rfl rfl hb4 ?_
        refine Run.offT rfl rfl rfl rfl hb4 ?_
        refine Run.offT rfl rfl rfl rfl hb4 ?_
        refine Run.offT rfl rfl rfl rfl hb4 ?_
        refine Run.offT rfl rfl rfl rfl hb4 ?_
        refine Run.offT rfl rfl rfl rfl hb4 ?_
        refine Run.go (Ev.pickF rfl hb4 rfl rfl) ?_
        refine Run.nil ?_
        cases h
        exact ⟨(), trivial, Ghost.only [] [0, 1, 5, 17] rfl⟩
    · refine T.cond rfl (fun hb9 => ?_) (fun hb9 => ?_)
      · replace h := ifT hb9 h
        refine T.skip ?_
        refine T.block ?_
        refine T.region ?_
        refine Run.go (Ev.move rfl rfl) ?_
        refine Run.go (Ev.int rfl rfl rfl rfl trivial) ?_
        refine Run.go (Ev.assign rfl rfl) ?_
        refine Run.nil ?_
        cases h
        exact LoopT.ghost (Ghost.only [] [0, 1, 5] rfl) hz1
      · replace h := ifF hb9 h
        refine T.exit ?_
        cases h
        cases hz1
        exact ⟨(), trivial, Ghost.only [] [5] rfl⟩
  · refine T.seq ?_
    refine T.region ?_
    refine Run.go (Ev.move rfl rfl) ?_
    refine Run.go (Ev.assign rfl rfl) ?_
    refine Run.nil ?_
    refine T.ret ?_
    cases h
    exact Fin.one rfl .v
theorem k_lex_pass {p0 : ByteArray} {y : Int} (h : m_lex_pass p0 = some y) : Spec Tryd.prog 37 [(.v .str p0)] (.v (.int .i64) y) [] := by
  rw [m_lex_pass] at h
  refine enterN [(.v .str p0)] 14 Tryd.func37 rfl rfl rfl ?_
  refine T.seq ?_
  refine T.region ?_
  refine Run.go (Ev.assign rfl rfl) ?_
  refine Run.nil ?_
  refine T.seq ?_
  refine T.seq ?_
  refine T.region ?_
  refine Run.go (Ev.move rfl rfl) ?_
  obtain ⟨x1, e2, h⟩ := bdS h
  refine Run.go (Ev.e_bt X e2 rfl rfl rfl rfl) ?_
  refine Run.go (Ev.int rfl rfl rfl rfl trivial) ?_
  refine Run.nil ?_
  refine T.cond rfl (fun hb3 => ?_) (fun hb3 => ?_)
  · replace h := ifT hb3 h
    refine T.seq ?_
    refine T.region ?_
    refine Run.go (Ev.assign rfl rfl) ?_
    refine Run.nil ?_
    refine T.ret ?_
    cases h
    exact Fin.one rfl .v
  · replace h := ifF hb3 h
    refine T.skip ?_
    refine T.seq ?_
    refine T.seq ?_
    refine T.region ?_
    refine Run.go (Ev.move rfl rfl) ?_
    obtain ⟨x4, e5, h⟩ := bdS h
    refine Run.go (Ev.callC en35 (k_strings_IndexByte e5) rfl (.cons .v (.cons .v .nil)) rfl rfl) ?_
    refine Run.go (Ev.assign rfl rfl) ?_
    refine Run.nil ?_
    refine T.seq ?_
    refine T.region ?_
    refine Run.go (Ev.move rfl rfl) ?_
    refine Run.go (Ev.int rfl rfl rfl rfl trivial) ?_
    refine Run.nil ?_
    refine T.cond rfl (fun hb6 => ?_) (fun hb6 => ?_)
    · replace h := ifT hb6 h
      refine T.seq ?_
      refine T.region ?_
      refine Run.go (Ev.move rfl rfl) ?_
      refine Run.go (Ev.assign rfl rfl) ?_
      refine Run.nil ?_
      refine T.ret ?_
      cases h
      exact Fin.one rfl .v
    · replace h := ifF hb6 h
      refine T.skip ?_
      refine T.seq ?_
      refine T.region ?_
      refine Run.go (Ev.move rfl rfl) ?_
      refine Run.go (Ev.len X rfl rfl rfl rfl) ?_
      refine Run.go (Ev.assign rfl rfl) ?_
      refine Run.nil ?_
      refine T.ret ?_
      cases h
      exact Fin.one rfl .v
end Go.Proofs.YtboghejfmmigkaaDoor.AE
/- A range over a function: the statement, and one round of it, by what lies in the heap. -/
namespace Go.Proofs.YtboghejfmmigkaaDoor.RF
open Go Go.RowKit
variable {P : Program}

/-- What stands in the heap for a loop that is under way. -/
def recOf (fn : FuncId) (tmps : Array Value) (ps : Array Tmp) (assign body : Code) (D : Nat) (st : LoopState) (pe : Option Code) : Loop :=
  { state := st, pending := pe, fn := fn, tmps := tmps, params := ps, assign := assign, body := body, defers := D }

/-- The statement, outermost: the function is called with yield; behind it the pending jump is taken. -/
theorem enter {g : Operand} {ps : Array Tmp} {assign body : Code} {Q : Exit → Act → World → Prop} {a : Act} {w : World} {gf : Nat} {lb : Array Value}
    (hg : a.eval g = .func (.func gf) #[] lb) (eg : ∀ args w, (callFunc gf args).run P w = .ok (.enter gf args) w)
    (h : ∀ fn (rc : LoopState → Option Code → Loop), (rc = fun st pe => recOf fn a.tmps ps assign body w.heap.size st pe) → CallsIn Fence.wide 0 P gf (#[.func (.yield (w.heap.size + 1)) #[] #[]] ++ lb)
      ((w.alloc (.deferred (some []))).alloc (.loop (rc .ready none)))
      fun e W => ∃ v st pe, e = .returned v ∧ st ≠ .busy ∧ W.heap[w.heap.size + 1]? = some (.loop (rc st pe)) ∧
        (match pe with
         | none => Q .normal { a with defers := { target := .collected w.heap.size, args := #[] } :: a.defers } (W.putObj (w.heap.size + 1) (.loop (rc .exhausted pe)))
         | some c => c.wpIn Fence.wide 0 P Q { a with defers := { target := .collected w.heap.size, args := #[] } :: a.defers } (W.putObj (w.heap.size + 1) (.loop (rc .exhausted pe))))) :
    (Code.rangeFunc g ps assign body).wpIn Fence.wide 0 P Q a w := by
  refine wpIn_rangeFunc ?_
  intro fn _
  have hw := h fn _ rfl
  rw [show Fence.wide.round = none from rfl]
  obtain ⟨W1, hW1⟩ : ∃ W1, (w.alloc (.deferred (some []))).alloc (.loop (recOf fn a.tmps ps assign body w.heap.size .ready none)) = W1 := ⟨_, rfl⟩
  rw [hW1] at hw
  refine ⟨w.heap.size + 1, [{ target := .collected w.heap.size, args := #[] }], W1, { target := .fn (.func gf) lb, args := #[.func (.yield (w.heap.size + 1)) #[] #[]] }, W1, gf, #[.func (.yield (w.heap.size + 1)) #[] #[]] ++ lb, W1, ?_, ?_, (fun _ _ => trivial), ?_, ?_, ?_⟩
  · rw [← hW1]; exact run_enterLoop_outer _ _ _ _ _
  · simp only [resolve, hg]
    simp [go_sem]
  · simp [invoke, go_sem, eg]
  · intro h0; cases h0
  · refine hw.mono ?_
    rintro e W ⟨v, st, pe, rfl, hst, hl, hq⟩
    refine ⟨pe, _, run_endLoop hl hst, ?_⟩
    cases pe <;> exact hq

/-- what a walk shall leave alone -/
structure Hid (p : Prop) : Prop where
  out : p
/-- One round. -/
theorem round {l : Nat} {r : Loop} {args : Array Value} {W : World} {R : Ending → World → Prop} (hl : W.heap[l]? = some (.loop r)) (hs : args.size = r.params.size)
    (h : r.assign.wpIn (Fence.wide.inRound l) 0 P (Exit.then (fun a₁ W₁ => ∃ r₁, W₁.heap[l]? = some (.loop r₁) ∧ r₁.state = .ready ∧
      ∀ Wb, Hid (Wb = W₁.putObj l (.loop { r₁ with state := .busy })) → r.body.wpIn (Fence.wide.inRound l) 0 P (roundPost P l R) a₁ Wb) (fun _ _ _ => False))
      { tmps := (r.params.zip args).foldl (fun t (p, v) => t.setIfInBounds p v) r.tmps, defers := [] } W) :
    YieldAt Fence.wide 0 P l args W R := by
  refine ⟨r.fn, _, r.assign, r.body, run_yield hl hs, roundIn_of_wpIn trivial (wpIn_mono h ?_)⟩
  intro e a₁ W₁ he
  cases e with
  | normal =>
    obtain ⟨r₁, h1, h2, h3⟩ := he
    exact ⟨_, run_beginRound h1 h2, h3 _ ⟨rfl⟩⟩
  | _ => exact he
end Go.Proofs.YtboghejfmmigkaaDoor.RF
/- The walk of lex.All. -/
namespace Go.Proofs.YtboghejfmmigkaaDoor.RF
open Go Go.RowKit Go.Shelf
attribute [local go_sem] Oper.semAt_some
set_option maxRecDepth 100000 in
set_option maxHeartbeats 1000000 in
theorem tokens_in (s : ByteArray) (w : World) :
    CallsIn Fence.wide 0 Tryd.prog 22 #[.string s] w fun e w' => e = .returned (.func (.func 33) #[] #[.pointer (some ⟨w.heap.size, 0, none⟩)]) ∧ w' = w.alloc (.cells #[.string s] 9) := by
  refine callsIn_of_wp Tryd.func22 rfl trivial ?_ rfl
  simp only [Tryd.ntmps22, List.size_toArray, List.length_cons, List.length_nil, Nat.reduceAdd, Nat.reduceSub, Array.replicate_succ, Array.replicate_zero, List.push_toArray, List.append_toArray, List.nil_append, List.cons_append]
  gi_wp2
  go_ret
  exact ⟨rfl, rfl⟩
end Go.Proofs.YtboghejfmmigkaaDoor.RF
/- The code comes to the printed functions (printed by a program of ours). -/
namespace Go.Proofs.YtboghejfmmigkaaDoor.AE
open Go Go.RowKit Go.Proofs.YtboghejfmmigkaaDoor.AP
open Go.Shelf Go.Proofs.YtboghejfmmigkaaDoor.RF
set_option linter.unusedVariables false
set_option maxRecDepth 20000
theorem en10 : Enters Tryd.prog 10 := ⟨_, Tryd.func10, rfl, rfl⟩
attribute [local go_sem] Oper.semAt_some
def enc (t : Tok) : Value := .agg #[.int .i64 t.1, .string t.2.1, .int .i64 t.2.2]
theorem calls_of_spec {P : Program} {g : Nat} {avs : List AV} {vs : List Value} {r : AV} {w : World} {R : Ending → World → Prop} (h : Spec P g avs r []) (hG : Glo w) (hv : AV.rels w (fun _ => False) (fun _ => (0, 0)) [] avs vs)
    (hR : ∀ u w' M loc, AV.rel w' M loc [] r u → Below w.heap.size w w' → R (.returned u) w') : CallsIn Fence.wide 0 P g vs.toArray w R := by
  refine callsIn_wide.2 ((h (fun _ => False) w vs hG (fun _ h => h.elim) hv).mono ?_)
  rintro e w' ⟨u, loc, rfl, h1, h2, h3⟩
  exact hR u w' _ _ h2 h3
theorem kind_in {c : Int} {q : Int × ByteArray} (h : m_lex_kind c = some q) (w : World) (hG : Glo w) :
    CallsIn Fence.wide 0 Tryd.prog 34 #[.int .u8 c] w fun e w' => e = .returned (.tuple #[.int .i64 q.1, .string q.2]) ∧ Below w.heap.size w w' := by
  refine calls_of_spec (vs := [.int .u8 c]) (k_lex_kind h) hG ?_ ?_
  · rw [AV.rels]; exact ⟨_, [], rfl, rel_int, by rw [AV.rels]⟩
  · intro u w' M loc hu hb
    rw [AV.rel] at hu
    obtain ⟨us, rfl, hu⟩ := hu
    rw [AV.rels] at hu
    obtain ⟨u1, us1, rfl, h1, hu⟩ := hu
    rw [AV.rels] at hu
    obtain ⟨u2, us2, rfl, h2, hu⟩ := hu
    rw [AV.rels] at hu
    subst hu
    rw [of_int h1, of_str h2]
    exact ⟨rfl, hb⟩
theorem ixb_in {s : ByteArray} {c x : Int} (h : m_strings_IndexByte s c = some x) (w : World) (hG : Glo w) :
    CallsIn Fence.wide 0 Tryd.prog 35 #[.string s, .int .u8 c] w fun e w' => e = .returned (.int .i64 x) ∧ Below w.heap.size w w' := by
  refine calls_of_spec (vs := [.string s, .int .u8 c]) (k_strings_IndexByte h) hG ?_ ?_
  · rw [AV.rels]; refine ⟨_, _, rfl, rel_str, ?_⟩; rw [AV.rels]; exact ⟨_, [], rfl, rel_int, by rw [AV.rels]⟩
  · intro u w' M loc hu hb
    rw [of_int hu]; exact ⟨rfl, hb⟩
theorem len_in {s p : ByteArray} {x : Int} (h : m_lex_length s p = some x) (w : World) (hG : Glo w) :
    CallsIn Fence.wide 0 Tryd.prog 36 #[.string s, .string p] w fun e w' => e = .returned (.int .i64 x) ∧ Below w.heap.size w w' := by
  refine calls_of_spec (vs := [.string s, .string p]) (k_lex_length h) hG ?_ ?_
  · rw [AV.rels]; refine ⟨_, _, rfl, rel_str, ?_⟩; rw [AV.rels]; exact ⟨_, [], rfl, rel_str, by rw [AV.rels]⟩
  · intro u w' M loc hu hb
    rw [of_int hu]; exact ⟨rfl, hb⟩
theorem pass_in {s : ByteArray} {x : Int} (h : m_lex_pass s = some x) (w : World) (hG : Glo w) :
    CallsIn Fence.wide 0 Tryd.prog 37 #[.string s] w fun e w' => e = .returned (.int .i64 x) ∧ Below w.heap.size w w' := by
  refine calls_of_spec (vs := [.string s]) (k_lex_pass h) hG ?_ ?_
  · rw [AV.rels]; exact ⟨_, [], rfl, rel_str, by rw [AV.rels]⟩
  · intro u w' M loc hu hb
    rw [of_int hu]; exact ⟨rfl, hb⟩
theorem wi64_wrap (x : Int) : wi64 x = RowKit.wrap64 x := by
  unfold wi64 RowKit.wrap64; exact IntKind.wrap_i64 x
/-- what the walk shall not look into -/
structure Wrap (p : Prop) : Prop where
  out : p
set_option maxRecDepth 100000 in
set_option maxHeartbeats 1000000 in
theorem clo_in {toks : List Tok} (Bs l : Nat) (w0 : World) (hG : ∀ W, Below w0.heap.size w0 W → Glo W) (J Jx : List Tok → World → Prop)
    (hJB : ∀ pre W, J pre W → Below w0.heap.size w0 W) (hJg : ∀ pre W W', J pre W → Below W.heap.size W W' → J pre W')
    (hJs : ∀ pre W u, J pre W → J pre (W.setCell ⟨Bs, 0, none⟩ u))
    (hY : ∀ pre x W, J pre W → pre ++ [x] <+: toks → YieldAt Fence.wide 0 Tryd.prog l #[enc x] W fun e W' =>
      (e = .returned (.bool true) ∧ J (pre ++ [x]) W' ∧ (∀ u, Boxed W Bs 9 u → Boxed W' Bs 9 u)) ∨ (e = .returned (.bool false) ∧ Jx (pre ++ [x]) W'))
    (s : ByteArray) (W : World) (hb : Boxed W Bs 9 (.string s)) (h0 : J [] W) {k : Nat} (hm : tokR k s 1 = some toks) :
    CallsIn Fence.wide 0 Tryd.prog 33 #[.func (.yield l) #[] #[], .pointer (some ⟨Bs, 0, none⟩)] W fun e W' => (∃ v, e = .returned v) ∧ (J toks W' ∨ ∃ pre, pre <+: toks ∧ Jx pre W') := by
  refine callsIn_of_wp Tryd.func33 rfl trivial ?_ rfl
  simp only [Tryd.ntmps33, List.size_toArray, List.length_cons, List.length_nil, Nat.reduceAdd, Nat.reduceSub, Array.replicate_succ, Array.replicate_zero, List.push_toArray, List.append_toArray, List.nil_append, List.cons_append]
  gi_wp2
  gi_loopw [3] (fun p wr => ∃ (pre rest : List Tok) (cur : ByteArray) (line : Int) (k : Nat), p = .int .i64 line ∧ toks = pre ++ rest ∧ tokR k cur line = some rest ∧ Boxed wr Bs 9 (.string cur) ∧ J pre wr)
    (fun _ wr => match wr.cell? ⟨Bs, 0, none⟩ with | some (.string s) => s.size | _ => 0)
  case atStart => exact ⟨[], toks, s, 1, k, rfl, rfl, hm, hb, h0⟩
  case round =>
    obtain ⟨pre, rest, cur, line, k, rfl, hx, ht, hbc, hJ⟩ := hrel
    have hc := hbc.cell
    have hGw := hG wr (hJB pre wr hJ)
    cases k with
    | zero => cases ht
    | succ k =>
    unfold tokR at ht
    by_cases hz : cur.size = 0
    · rw [if_pos hz] at ht
      obtain rfl := Option.some.inj ht
      have hcur : cur = ⟨#[]⟩ := by
        obtain ⟨⟨l⟩⟩ := cur
        have : l = [] := List.eq_nil_of_length_eq_zero hz
        rw [this]
      subst hcur
      have hYY := hY pre (0, ⟨#[]⟩, line) wr hJ (by rw [hx]; exact List.prefix_refl _)
      clear hJ hY hJs hJg hJB hG hm hbc hGw hz
      obtain ⟨fn, tmps, assign, body, hy, hR⟩ := hYY
      dsimp only [enc] at hy
      gi_wp2
      refine ⟨rfl, hR.mono ?_⟩
      rintro e W' (⟨rfl, hJ', hk⟩ | ⟨rfl, hJx'⟩)
      · gi_wp2
        go_end0
        exact ⟨⟨_, rfl⟩, .inl (by rw [hx]; exact hJ')⟩
      · gi_wp2
        go_end0
        exact ⟨⟨_, rfl⟩, .inr ⟨_, by rw [hx]; exact List.prefix_refl _, hJx'⟩⟩
    · rw [if_neg hz] at ht
      obtain ⟨c, e1, ht⟩ := bdS ht
      obtain ⟨q, e2, ht⟩ := bdS ht
      obtain ⟨x, e3, ht⟩ := bdS ht
      have hne : (!cur.toList.isEmpty) = true := by
        obtain ⟨⟨l⟩⟩ := cur
        cases l with
        | nil => exact absurd rfl hz
        | cons b l => simp [ByteArray.toList_eq]
      have hlt := hbc.lt
      have hpos : 0 < cur.size := by omega
      obtain rfl : ((cur[0]'hpos).toNat : Int) = c := by
        have := (btS e1).2
        rw [← this]
        obtain ⟨⟨l⟩⟩ := cur
        cases l with
        | nil => exact absurd rfl hz
        | cons b l => rfl
      have HG : Wrap (∀ W', Below wr.heap.size wr W' → Glo W') := ⟨fun W' hb => hG _ (hJB _ _ (hJg pre wr W' hJ hb))⟩
      have HJ : Wrap (∀ W', Below wr.heap.size wr W' → J pre W') := ⟨fun W' hb => hJg pre wr W' hJ hb⟩
      have HC : Wrap (∀ W', Below wr.heap.size wr W' → Boxed W' Bs 9 (.string cur)) := ⟨fun W' hb => (hb.block Bs hlt).trans hbc⟩
      have HY := Wrap.mk hY
      have HS := Wrap.mk hJs
      clear hJ hY hJs hJg hJB hm hbc hG e1
      by_cases hA : ((cur[0]'hpos).toNat : Int) ≠ 35 ∧ ¬ 0 ≤ x ∧ q.1 = 0
      · rw [if_pos hA] at ht
        obtain rfl := Option.some.inj ht
        have HH := Wrap.mk hA
        obtain ⟨h1, h2, h3⟩ := hA
        have hF1 : (!((cur[0]'hpos).toNat : Int) == 35) = true := by simpa using h1
        have hF2 : (!decide (0 ≤ x)) = true := by simpa using h2
        clear HS ht
        gi_wp2_with (first
          | (refine ⟨trivial, rfl, ?_⟩; refine (kind_in e2 _ hGw).mono ?_; rintro e w1 ⟨rfl, hb1⟩; have hGw1 := HG.out _ hb1; have hc1 := (HC.out _ hb1).cell)
          | (refine ⟨trivial, rfl, ?_⟩; refine (ixb_in e3 _ hGw1).mono ?_; rintro e w2 ⟨rfl, hb2⟩; have hb2' := hb1.trans (hb2.mono hb1.size); have hGw2 := HG.out _ hb2'; have hc2 := (HC.out _ hb2').cell; obtain ⟨fn, tmps, assign, body, hy, hR⟩ := HY.out pre (0, cur, line) w2 (HJ.out _ hb2') (by rw [hx]; exact List.prefix_refl _); dsimp only [enc] at hy)
          | (refine ⟨rfl, hR.mono ?_⟩; rintro e W' (⟨rfl, hJ', hk⟩ | ⟨rfl, hJx'⟩)))
        · go_end0
          exact ⟨⟨_, rfl⟩, .inl (by rw [hx]; exact hJ')⟩
        · go_end0
          exact ⟨⟨_, rfl⟩, .inr ⟨_, by rw [hx]; exact List.prefix_refl _, hJx'⟩⟩
      · rw [if_neg hA] at ht
        obtain ⟨n1, e4, ht⟩ := bdS ht
        obtain ⟨n, e5, ht⟩ := bdS ht
        split at ht
        · rename_i hn
          obtain ⟨r, e6, ht⟩ := bdS ht
          by_cases hB : ((cur[0]'hpos).toNat : Int) = 35 ∨ 0 ≤ x
          · rw [if_pos hB] at ht e5
            obtain rfl := Option.some.inj ht
            have HE := Wrap.mk e6
            have hn1 := hn.1
            have hn2 := hn.2
            by_cases h35 : ((cur[0]'hpos).toNat : Int) = 35
            · have hF1 : (((cur[0]'hpos).toNat : Int) == 35) = true := by simpa using h35
              have h10 : (((cur[0]'hpos).toNat : Int) == 10) = false := by rw [h35]; rfl
              have hAw := Wrap.mk hA
              clear hA hB e6 hn h35
              gi_wp2_with (first
                | (refine ⟨trivial, rfl, ?_⟩; refine (kind_in e2 _ hGw).mono ?_; rintro e w1 ⟨rfl, hb1⟩; have hGw1 := HG.out _ hb1; have hc1 := (HC.out _ hb1).cell)
                | (refine ⟨trivial, rfl, ?_⟩; refine (len_in e4 _ hGw1).mono ?_; rintro e w3 ⟨rfl, hb3⟩; have hb3' := hb1.trans (hb3.mono hb1.size); have hGw3 := HG.out _ hb3'; have hc3 := (HC.out _ hb3').cell)
                | (refine ⟨trivial, rfl, ?_⟩; refine (pass_in e5 _ hGw3).mono ?_; rintro e w4 ⟨rfl, hb4⟩; have hb4' := hb3'.trans (hb4.mono hb3'.size); have hbW := HC.out _ hb4'; have hcW := hbW.cell; have hfW := hbW.frozen)
                | refine ⟨(trivial : Fence.wide.fn 35), ?_⟩)
              refine ⟨⟨pre, _, _, _, k, rfl, hx, ?_, hbW.set _, HS.out _ _ _ (HJ.out _ hb4')⟩, ?_⟩
              · have := HE.out; rw [if_neg (by simpa using h10)] at this; exact this
              · rw [(hbW.set _).cell, hc]; simp; omega
            · have h0x : 0 ≤ x := hB.resolve_left h35
              have hF1 : (((cur[0]'hpos).toNat : Int) == 35) = false := by simpa using h35
              have hAw := Wrap.mk hA
              clear hA hB e6 hn h35
              gi_wp2_with (first
                | (refine ⟨trivial, rfl, ?_⟩; refine (kind_in e2 _ hGw).mono ?_; rintro e w1 ⟨rfl, hb1⟩; have hGw1 := HG.out _ hb1; have hc1 := (HC.out _ hb1).cell)
                | (refine ⟨trivial, rfl, ?_⟩; refine (ixb_in e3 _ hGw1).mono ?_; rintro e w2 ⟨rfl, hb2⟩; have hb2' := hb1.trans (hb2.mono hb1.size); have hGw2 := HG.out _ hb2'; have hc2 := (HC.out _ hb2').cell)
                | (refine ⟨trivial, rfl, ?_⟩; refine (len_in e4 _ hGw2).mono ?_; rintro e w3 ⟨rfl, hb3⟩; have hb3' := hb2'.trans (hb3.mono hb2'.size); have hGw3 := HG.out _ hb3'; have hc3 := (HC.out _ hb3').cell)
                | (refine ⟨trivial, rfl, ?_⟩; refine (pass_in e5 _ hGw3).mono ?_; rintro e w4 ⟨rfl, hb4⟩; have hb4' := hb3'.trans (hb4.mono hb3'.size); have hbW := HC.out _ hb4'; have hcW := hbW.cell; have hfW := hbW.frozen))
              · rename_i h0
                refine ⟨⟨pre, _, _, _, k, rfl, hx, ?_, hbW.set _, HS.out _ _ _ (HJ.out _ hb4')⟩, ?_⟩
                · have := HE.out; rw [if_pos (by simpa using h0), wi64_wrap] at this; exact this
                · rw [(hbW.set _).cell, hc]; simp; omega
              · rename_i h0
                refine ⟨⟨pre, _, _, _, k, rfl, hx, ?_, hbW.set _, HS.out _ _ _ (HJ.out _ hb4')⟩, ?_⟩
                · have := HE.out; rw [if_neg (by simpa using h0)] at this; exact this
                · rw [(hbW.set _).cell, hc]; simp; omega
          · rw [if_neg hB] at ht e5
            obtain rfl := Option.some.inj e5
            obtain rfl := Option.some.inj ht
            have hBw := Wrap.mk hB
            have HE := Wrap.mk e6
            have hF1 : (!((cur[0]'hpos).toNat : Int) == 35) = true := by simpa using fun h => hB (.inl h)
            have hF2 : (!decide (0 ≤ x)) = true := by simpa using fun h => hB (.inr h)
            have hF3 : (q.fst == 0) = false := by
              simp only [beq_eq_false_iff_ne]
              exact fun h => hA ⟨fun h => hB (.inl h), fun h => hB (.inr h), h⟩
            have hAw := Wrap.mk hA
            have hn1 := hn.1
            have hn2 := hn.2
            clear hA hB e6 hn
            gi_wp2_with (first
              | (refine ⟨trivial, rfl, ?_⟩; refine (kind_in e2 _ hGw).mono ?_; rintro e w1 ⟨rfl, hb1⟩; have hGw1 := HG.out _ hb1; have hc1 := (HC.out _ hb1).cell)
              | (refine ⟨trivial, rfl, ?_⟩; refine (ixb_in e3 _ hGw1).mono ?_; rintro e w2 ⟨rfl, hb2⟩; have hb2' := hb1.trans (hb2.mono hb1.size); have hGw2 := HG.out _ hb2'; have hc2 := (HC.out _ hb2').cell)
              | (refine ⟨trivial, rfl, ?_⟩; refine (len_in e4 _ hGw2).mono ?_; rintro e w3 ⟨rfl, hb3⟩; have hb3' := hb2'.trans (hb3.mono hb2'.size); have hc3 := (HC.out _ hb3').cell; obtain ⟨fn, tmps, assign, body, hy, hR⟩ := HY.out pre (q.1, cur.extract 0 n1.toNat, line) w3 (HJ.out _ hb3') ⟨r, by rw [hx]; simp⟩; dsimp only [enc] at hy)
              | (refine ⟨rfl, hR.mono ?_⟩; rintro e W' (⟨rfl, hJ', hk⟩ | ⟨rfl, hJx'⟩); have hbW := hk _ (HC.out _ hb3'); have hcW := hbW.cell; have hfW := hbW.frozen))
            · have h0 : (((cur[0]'hpos).toNat : Int) == 35) = true ∨ 0 ≤ x := by assumption
              rcases h0 with h0 | h0
              · exact absurd (.inl (by simpa using h0)) hBw.out
              · exact absurd (.inr h0) hBw.out
            · rename_i h0
              refine ⟨⟨_, r, _, _, k, rfl, by rw [hx]; simp, ?_, hbW.set _, HS.out _ _ _ hJ'⟩, ?_⟩
              · have := HE.out; rw [if_pos (by simpa using h0), wi64_wrap] at this; exact this
              · rw [(hbW.set _).cell, hc]; simp; omega
            · rename_i h0
              refine ⟨⟨_, r, _, _, k, rfl, by rw [hx]; simp, ?_, hbW.set _, HS.out _ _ _ hJ'⟩, ?_⟩
              · have := HE.out; rw [if_neg (by simpa using h0)] at this; exact this
              · rw [(hbW.set _).cell, hc]; simp; omega
            · refine bodyPost_ret (results_none rfl _ _ _) rfl ?_
              exact ⟨⟨_, rfl⟩, .inr ⟨_, by rw [hx]; simp, hJx'⟩⟩
        · cases ht
def cellsOf (l : List Tok) : List Value := l.flatMap fun t => [.int .i64 t.1, .string t.2.1, .int .i64 t.2.2]
structure JJ (w : World) (r : Loop) (pre : List Tok) (W : World) : Prop where
  below : Below w.heap.size w W
  r0 : Boxed W w.heap.size 41 (.slice none 0 0)
  r1 : Boxed W (w.heap.size + 1) 3 (.int .i64 0)
  r2 : Boxed W (w.heap.size + 2) 24 (.int .i64 0)
  ok : ∀ t ∈ pre, t.1 = 0 → t.2.1.size = 0
  row : ∃ v, Boxed W (w.heap.size + 3) 41 v ∧ W.ownsRow (w.heap.size + 8) 61 3 v (kept pre).length (cellsOf (kept pre))
  line : Boxed W (w.heap.size + 4) 3 (.int .i64 (lastLine pre))
  dfr : W.heap[w.heap.size + 6]? = some (.deferred (some []))
  lp : W.heap[w.heap.size + 7]? = some (.loop r)
structure JX (w : World) (r : Loop) (pre : List Tok) (W : World) : Prop where
  below : Below w.heap.size w W
  tok : ∃ q t, pre = q ++ [t] ∧ t.1 = 0 ∧ t.2.1.size ≠ 0 ∧ (∀ t ∈ q, t.1 = 0 → t.2.1.size = 0) ∧ Boxed W (w.heap.size + 1) 3 (.int .i64 t.2.2)
  r0 : Boxed W w.heap.size 41 (.slice none 0 0)
  r2 : Boxed W (w.heap.size + 2) 24 (.int .i64 21)
  dfr : W.heap[w.heap.size + 6]? = some (.deferred (some []))
  lp : W.heap[w.heap.size + 7]? = some (.loop r)
theorem Below.of_keep {w W W' : World} {n : Nat} (h : Below n w W) (h1 : W'.os = W.os) (h2 : W'.tape = W.tape) (h3 : W'.output = W.output) (h4 : W.heap.size ≤ W'.heap.size)
    (hk : ∀ k, k < n → W'.heap[k]? = W.heap[k]?) : Below n w W' :=
  ⟨h1.trans h.os, h2.trans h.tape, h3.trans h.output, Nat.le_trans h.size h4, fun k hk' => (hk k hk').trans (h.block k hk')⟩
theorem ownsRow_keep {W W' : World} {b e size n : Nat} {v : Value} {xs : List Value} (h : W.ownsRow b e size v n xs) (hk : ∀ k, b ≤ k → k < W.heap.size → W'.heap[k]? = W.heap[k]?) : W'.ownsRow b e size v n xs := by
  obtain ⟨h1, h2⟩ := h
  refine ⟨h1, h2.imp id ?_⟩
  rintro ⟨g, cap, cur, e1, e2, e3, e4⟩
  exact ⟨g, cap, cur, e1, e2, (hk g e2 (Array.getElem?_eq_some_iff.1 e3).1).trans e3, e4⟩
theorem JJ.keep {w W W' : World} {r r' : Loop} {pre : List Tok} (h : JJ w r pre W) (h1 : W'.os = W.os) (h2 : W'.tape = W.tape) (h3 : W'.output = W.output) (h4 : W.heap.size ≤ W'.heap.size)
    (hk : ∀ k, k < W.heap.size → k ≠ w.heap.size + 5 → k ≠ w.heap.size + 7 → W'.heap[k]? = W.heap[k]?) (hl : W'.heap[w.heap.size + 7]? = some (.loop r')) : JJ w r' pre W' := by
  have hlt := (Array.getElem?_eq_some_iff.1 h.lp).1
  have hb : ∀ {B t v}, B ≠ w.heap.size + 5 → B ≠ w.heap.size + 7 → Boxed W B t v → Boxed W' B t v := fun e1 e2 hb => (hk _ hb.lt e1 e2).trans hb
  refine ⟨Below.of_keep h.below h1 h2 h3 h4 fun k hk' => hk k (by omega) (by omega) (by omega), hb (by omega) (by omega) h.r0, hb (by omega) (by omega) h.r1, hb (by omega) (by omega) h.r2, h.ok, ?_, hb (by omega) (by omega) h.line, (hk _ (by omega) (by omega) (by omega)).trans h.dfr, hl⟩
  obtain ⟨v, e1, e2⟩ := h.row
  exact ⟨v, hb (by omega) (by omega) e1, ownsRow_keep e2 fun k g1 g2 => hk k g2 (by omega) (by omega)⟩
theorem line_snoc (pre : List Tok) (t : Tok) : lastLine (pre ++ [t]) = t.2.2 := by simp [lastLine]
theorem JJ.next {w Wb W3 : World} {r r' : Loop} {pre : List Tok} {t : Tok} (h : JJ w r pre Wb) (h1 : W3.os = Wb.os) (h2 : W3.tape = Wb.tape) (h3 : W3.output = Wb.output) (h4 : Wb.heap.size ≤ W3.heap.size)
    (hk : ∀ i, i < w.heap.size + 8 → i ≠ w.heap.size + 3 → i ≠ w.heap.size + 4 → W3.heap[i]? = Wb.heap[i]?) (hok : t.1 = 0 → t.2.1.size = 0)
    (hrow : ∃ v, Boxed W3 (w.heap.size + 3) 41 v ∧ W3.ownsRow (w.heap.size + 8) 61 3 v (kept (pre ++ [t])).length (cellsOf (kept (pre ++ [t])))) (hline : Boxed W3 (w.heap.size + 4) 3 (.int .i64 t.2.2)) (he : ({ r with state := .ready, pending := none } : Loop) = r') :
    JJ w r' (pre ++ [t]) (W3.putObj (w.heap.size + 7) (.loop { r with state := .ready, pending := none })) ∧ ∀ u, Boxed Wb (w.heap.size + 5) 9 u → Boxed (W3.putObj (w.heap.size + 7) (.loop { r with state := .ready, pending := none })) (w.heap.size + 5) 9 u := by
  have hlt := (Array.getElem?_eq_some_iff.1 h.lp).1
  have hp : ∀ i, i ≠ w.heap.size + 7 → (W3.putObj (w.heap.size + 7) (.loop { r with state := .ready, pending := none })).heap[i]? = W3.heap[i]? := fun i hi => World.putObj_heap_other hi
  have hq : ∀ i, i < w.heap.size + 7 → i ≠ w.heap.size + 3 → i ≠ w.heap.size + 4 → (W3.putObj (w.heap.size + 7) (.loop { r with state := .ready, pending := none })).heap[i]? = Wb.heap[i]? := fun i hi e1 e2 => (hp i (by omega)).trans (hk i (by omega) e1 e2)
  refine ⟨⟨Below.of_keep h.below h1 h2 h3 (by simp; omega) fun i hi => hq i (by omega) (by omega) (by omega), (hq _ (by omega) (by omega) (by omega)).trans h.r0, (hq _ (by omega) (by omega) (by omega)).trans h.r1, (hq _ (by omega) (by omega) (by omega)).trans h.r2, ?_, ?_, (by rw [line_snoc]; exact (hp _ (by omega)).trans hline), (hq _ (by omega) (by omega) (by omega)).trans h.dfr, ?_⟩, fun u hu => (hq _ (by omega) (by omega) (by omega)).trans hu⟩
  · intro x hx h0
    rcases List.mem_append.1 hx with hx | hx
    · exact h.ok x hx h0
    · rw [List.mem_singleton.1 hx] at h0 ⊢; exact hok h0
  · obtain ⟨v, e1, e2⟩ := hrow
    exact ⟨v, (hp _ (by omega)).trans e1, ownsRow_keep e2 fun k g1 g2 => hp k (by omega)⟩
  · rw [← he]; exact World.putObj_heap_same (by omega)
theorem JJ.stopOf {w Wb W3 : World} {r r' : Loop} {pre : List Tok} {t : Tok} (h : JJ w r pre Wb) (h0 : t.1 = 0) (hs : t.2.1.size ≠ 0) (he : ({ r with state := .done, pending := some .ret } : Loop) = r')
    (g1 : W3.os = Wb.os) (g2 : W3.tape = Wb.tape) (g3 : W3.output = Wb.output) (hsz : Wb.heap.size ≤ W3.heap.size) (hk : ∀ i, i ≠ w.heap.size → i ≠ w.heap.size + 1 → i ≠ w.heap.size + 2 → i ≠ w.heap.size + 4 → W3.heap[i]? = Wb.heap[i]?)
    (b0 : Boxed W3 w.heap.size 41 (.slice none 0 0)) (b1 : Boxed W3 (w.heap.size + 1) 3 (.int .i64 t.2.2)) (b2 : Boxed W3 (w.heap.size + 2) 24 (.int .i64 21)) :
    W3.heap[w.heap.size + 7]? = some (.loop r) ∧ JX w r' (pre ++ [t]) (W3.putObj (w.heap.size + 7) (.loop { r with state := .done, pending := some .ret })) := by
  have hlt := (Array.getElem?_eq_some_iff.1 h.lp).1
  have hp : ∀ i, i ≠ w.heap.size + 7 → (W3.putObj (w.heap.size + 7) (.loop { r with state := .done, pending := some .ret })).heap[i]? = W3.heap[i]? := fun i hi => World.putObj_heap_other hi
  have hlp : W3.heap[w.heap.size + 7]? = some (.loop r) := (hk _ (by omega) (by omega) (by omega) (by omega)).trans h.lp
  have hdf : W3.heap[w.heap.size + 6]? = some (.deferred (some [])) := (hk _ (by omega) (by omega) (by omega) (by omega)).trans h.dfr
  refine ⟨hlp, ⟨?_, ⟨pre, t, rfl, h0, hs, h.ok, (hp _ (by omega)).trans b1⟩, (hp _ (by omega)).trans b0, (hp _ (by omega)).trans b2, (hp _ (by omega)).trans hdf, ?_⟩⟩
  · exact Below.of_keep h.below g1 g2 g3 (by simp; omega) (fun i hi => (hp i (by omega)).trans (hk i (by omega) (by omega) (by omega) (by omega)))
  · rw [← he]; exact World.putObj_heap_same (by omega)
theorem boxed_drew {W : World} {B : Nat} {t : TypeId} {v : Value} (h : Boxed W B t v) : Boxed W.drew B t v := h
theorem JJ.stop {w Wb : World} {r r' : Loop} {pre : List Tok} {t : Tok} (h : JJ w r pre Wb) (h0 : t.1 = 0) (hs : t.2.1.size ≠ 0) (he : ({ r with state := .done, pending := some .ret } : Loop) = r') :
    ((((Wb.setCell ⟨w.heap.size + 4, 0, none⟩ (.int .i64 t.2.2)).setCell ⟨w.heap.size, 0, none⟩ (.slice none 0 0)).setCell ⟨w.heap.size + 1, 0, none⟩ (.int .i64 t.2.2)).setCell ⟨w.heap.size + 2, 0, none⟩ (.int .i64 21)).drew.heap[w.heap.size + 7]? = some (.loop r) ∧
    JX w r' (pre ++ [t]) (((((Wb.setCell ⟨w.heap.size + 4, 0, none⟩ (.int .i64 t.2.2)).setCell ⟨w.heap.size, 0, none⟩ (.slice none 0 0)).setCell ⟨w.heap.size + 1, 0, none⟩ (.int .i64 t.2.2)).setCell ⟨w.heap.size + 2, 0, none⟩ (.int .i64 21)).drew.putObj (w.heap.size + 7) (.loop { r with state := .done, pending := some .ret })) := by
  refine h.stopOf h0 hs he rfl rfl rfl ?_ ?_ ?_ ?_ ?_
  · exact (((KeepsWalks.setCell Wb _ _).trans (KeepsWalks.setCell _ _ _)).trans ((KeepsWalks.setCell _ _ _).trans (KeepsWalks.setCell _ _ _))).size
  · intro i e0 e1 e2 e4
    exact (Below.heap_setCell _ _ _ i e2).trans ((Below.heap_setCell _ _ _ i e1).trans ((Below.heap_setCell _ _ _ i e0).trans (Below.heap_setCell _ _ _ i e4)))
  · have := (((h.r0.other (B' := w.heap.size + 4) (by omega) (.int .i64 t.2.2)).set (.slice none 0 0)).other (B' := w.heap.size + 1) (by omega) (.int .i64 t.2.2)).other (B' := w.heap.size + 2) (by omega) (.int .i64 21)
    exact boxed_drew this
  · have := (((h.r1.other (B' := w.heap.size + 4) (by omega) (.int .i64 t.2.2)).other (B' := w.heap.size) (by omega) (.slice none 0 0)).set (.int .i64 t.2.2)).other (B' := w.heap.size + 2) (by omega) (.int .i64 21)
    exact boxed_drew this
  · have := (((h.r2.other (B' := w.heap.size + 4) (by omega) (.int .i64 t.2.2)).other (B' := w.heap.size) (by omega) (.slice none 0 0)).other (B' := w.heap.size + 1) (by omega) (.int .i64 t.2.2)).set (.int .i64 21)
    exact boxed_drew this
theorem row_slice {W : World} {b e sz n : Nat} {v : Value} {xs : List Value} (h : W.ownsRow b e sz v n xs) : ∃ A m q, v = .slice A m q := by
  rcases h.2 with ⟨e, _⟩ | ⟨g, cap, cur, e, _⟩
  · exact ⟨_, _, _, e⟩
  · exact ⟨_, _, _, e⟩
theorem results_cells3 {P : Program} (X : Cx P) {fn : Func} {p1 p2 p3 t1 t2 t3 : Nat} {τ1 τ2 τ3 : Ty} (hr : fn.results = #[.cell p1 t1, .cell p2 t2, .cell p3 t3]) {tm : Array Value} {W : World} {a1 a2 a3 : Addr} {v1 v2 v3 : Value}
    (e1 : X.ty t1 = some τ1) (e2 : X.ty t2 = some τ2) (e3 : X.ty t3 = some τ3) (g1 : τ1.agg = false) (g2 : τ2.agg = false) (g3 : τ3.agg = false) (s1 : τ1.sz = 1) (s2 : τ2.sz = 1) (s3 : τ3.sz = 1)
    (q1 : tm.getD p1 undef = .pointer (some a1)) (q2 : tm.getD p2 undef = .pointer (some a2)) (q3 : tm.getD p3 undef = .pointer (some a3))
    (c1 : W.cell? a1 = some v1) (c2 : W.cell? a2 = some v2) (c3 : W.cell? a3 = some v3) : (results fn tm).run P W = .ok (.tuple #[v1, v2, v3]) W := by
  have hz : ∀ a : Addr, a.add 0 = a := fun a => by cases a; rename_i b o p; cases p <;> rfl
  have key : ∀ {t : Nat} {τ : Ty} {a : Addr} {v : Value}, X.ty t = some τ → τ.agg = false → τ.sz = 1 → W.cell? a = some v → (loadVar t a).run P W = .ok v W := by
    intro t τ a v e g s c
    have := run_loadVar (X.ok _ _ e) (w := W) (a := a) (cs := [v]) s.symm (fun j y hj => by
      cases j with
      | zero => rw [hz, c]; exact hj
      | succ j => cases hj) (fun _ => rfl)
    rw [this]; unfold Ty.val; rw [g]; rfl
  simp only [results, hr]
  have k1 := key e1 g1 s1 c1
  have k2 := key e2 g2 s2 c2
  have k3 := key e3 g3 s3 c3
  simp only [Array.getD_eq_getD_getElem?] at q1 q2 q3
  simp [q1, q2, q3, asAddr, k1, k2, k3]
theorem cells_at : ∀ (l : List Tok) (i j : Nat) (x : Tok) (u : Value), l[i]? = some x → [Value.int .i64 x.1, .string x.2.1, .int .i64 x.2.2][j]? = some u → (cellsOf l)[i * 3 + j]? = some u
  | [], _, _, _, _, h, _ => by cases h
  | y :: l, 0, j, x, u, h, hu => by
    cases h
    have hj : j < 3 := (List.getElem?_eq_some_iff.1 hu).1
    rw [Nat.zero_mul, Nat.zero_add]
    show ([Value.int .i64 y.1, .string y.2.1, .int .i64 y.2.2] ++ cellsOf l)[j]? = _
    rw [List.getElem?_append_left hj]; exact hu
  | y :: l, i + 1, j, x, u, h, hu => by
    have := cells_at l i j x u h hu
    show ([Value.int .i64 y.1, .string y.2.1, .int .i64 y.2.2] ++ cellsOf l)[(i + 1) * 3 + j]? = _
    rw [List.getElem?_append_right (by simp; omega)]
    rw [show (i + 1) * 3 + j - [Value.int .i64 y.1, .string y.2.1, .int .i64 y.2.2].length = i * 3 + j by simp; omega]
    exact this
theorem row_of {W : World} {M : Nat → Prop} {b e : Nat} {A : Option Addr} {m q : Nat} {l : List Tok} (h : W.ownsRow b e 3 (.slice A m q) l.length (cellsOf l)) (hM : ∀ k, b ≤ k → ¬ M k) : (Ty.sl Y_lex_Token).rel W M l (.slice A m q) := by
  obtain ⟨h1, h2⟩ := h
  rcases h2 with ⟨e1, e2⟩ | ⟨g, cap, cur, e1, e2, e3, e4, e5, e6, e7⟩
  · cases e1
    obtain rfl := List.eq_nil_of_length_eq_zero e2
    exact ⟨_, ⟨none, 0, rfl, Nat.le_refl _, by decide, fun h => absurd h (Nat.lt_irrefl 0)⟩, rfl⟩
  · cases e1
    refine ⟨_, ⟨_, _, rfl, e4, e5, fun hp => ⟨_, rfl, hM _ e2, fun i x hx => ?_⟩⟩, rfl⟩
    have hx : l[i]? = some x := hx
    refine ⟨[.int .i64 x.1, .string x.2.1, .int .i64 x.2.2], ⟨_, _, rfl, rfl, _, _, rfl, rfl, rfl⟩, fun j u hu => ?_⟩
    have hlt := (List.getElem?_eq_some_iff.1 hx).1
    have hj : j < 3 := (List.getElem?_eq_some_iff.1 hu).1
    have hc : (cellsOf l)[i * 3 + j]? = some u := cells_at l i j x u hx hu
    rw [← e7] at hc
    rw [List.getElem?_take] at hc
    split at hc
    · rw [add_lit]
      show W.cell? ⟨g, 0 + (i * 3 + j), none⟩ = _
      rw [Nat.zero_add]
      simp only [World.cell?, e3]
      simpa using hc
    · cases hc
theorem allR_ok {toks : List Tok} (h : ∀ t ∈ toks, t.1 = 0 → t.2.1.size = 0) : allR toks = (kept toks, lastLine toks, 0) := by
  unfold allR firstBad
  rw [List.find?_eq_none.2 (fun t ht => by
    simp only [Bool.and_eq_true, beq_iff_eq, Bool.not_eq_true', not_and, beq_eq_false_iff_ne]
    intro h0 h1; exact h1 (h t ht h0))]
theorem allR_bad {toks pre q : List Tok} {t : Tok} (hp : pre <+: toks) (hq : pre = q ++ [t]) (h0 : t.1 = 0) (hs : t.2.1.size ≠ 0) (h : ∀ t ∈ q, t.1 = 0 → t.2.1.size = 0) : allR toks = ([], t.2.2, 21) := by
  obtain ⟨r, rfl⟩ := hp
  subst hq
  unfold allR firstBad
  have e : List.find? (fun t : Tok => t.1 == 0 && !(t.2.1.size == 0)) q = none := List.find?_eq_none.2 (fun t ht => by
    simp only [Bool.and_eq_true, beq_iff_eq, Bool.not_eq_true', not_and, beq_eq_false_iff_ne]
    intro h0 h1; exact h1 (h t ht h0))
  rw [List.append_assoc, List.find?_append, e]
  simp [h0, hs]
theorem infoTk : (Tryd.prog.info? 61).map (fun i => (i.zero, i.size, i.bytes)) = some (some (.agg #[.int .i64 0, .string ⟨#[]⟩, .int .i64 0]), 3, 32) := by kernel_rfl
theorem undTs : Tryd.prog.underlying 41 = some (.slice 61) := by kernel_rfl
theorem new3 (W : World) (a b c : Value) (t : TypeId) (j : Nat) (u : Value) (h : [a, b, c][j]? = some u) : (W.alloc (.cells #[a, b, c] t)).cell? (Addr.add ⟨W.heap.size, 0, none⟩ j) = some u := by
  have e := World.alloc_heap_new W (.cells #[a, b, c] t)
  match j, h with
  | 0, h => cases h; rw [show Addr.add ⟨W.heap.size, 0, none⟩ 0 = ⟨W.heap.size, 0, none⟩ from rfl]; unfold World.cell?; dsimp only; rw [e]; rfl
  | 1, h => cases h; rw [show Addr.add ⟨W.heap.size, 0, none⟩ 1 = ⟨W.heap.size, 1, none⟩ from rfl]; unfold World.cell?; dsimp only; rw [e]; rfl
  | 2, h => cases h; rw [show Addr.add ⟨W.heap.size, 0, none⟩ 2 = ⟨W.heap.size, 2, none⟩ from rfl]; unfold World.cell?; dsimp only; rw [e]; rfl
theorem kept_snoc (pre : List Tok) (t : Tok) (h : t.1 ≠ 0) : kept (pre ++ [t]) = kept pre ++ [t] := by simp [kept, h]
theorem kept_skip (pre : List Tok) (t : Tok) (h : t.1 = 0) : kept (pre ++ [t]) = kept pre := by simp [kept, h]
theorem cells_snoc (l : List Tok) (t : Tok) : cellsOf (l ++ [t]) = cellsOf l ++ [.int .i64 t.1, .string t.2.1, .int .i64 t.2.2] := by simp [cellsOf]
theorem all_end {w W : World} {fn : Func} {toks : List Tok} {R : Ending → World → Prop} {v : Value} {l : List Tok} {ln er : Int} (HF : Wrap (∀ v W, Below w.heap.size w W → W.ownsRow (w.heap.size + 8) 61 3 v (allR toks).1.length (cellsOf (allR toks).1) → R (.returned (.tuple #[v, .int .i64 (allR toks).2.1, .int .i64 (allR toks).2.2])) W))
    (hall : allR toks = (l, ln, er)) (hB : Below w.heap.size w W) (y0 : Boxed W w.heap.size 41 v) (y1 : Boxed W (w.heap.size + 1) 3 (.int .i64 ln)) (y2 : Boxed W (w.heap.size + 2) 24 (.int .i64 er))
    (yd : W.heap[w.heap.size + 6]? = some (.deferred (some []))) (yr : W.ownsRow (w.heap.size + 8) 61 3 v l.length (cellsOf l)) (tm : Array Value) (hr : fn.results = #[.cell 2 41, .cell 3 3, .cell 4 24])
    (hq : [tm.getD 2 undef, tm.getD 3 undef, tm.getD 4 undef] = [.pointer (some ⟨w.heap.size, 0, none⟩), .pointer (some ⟨w.heap.size + 1, 0, none⟩), .pointer (some ⟨w.heap.size + 2, 0, none⟩)]) :
    bodyPostM Fence.wide 0 Tryd.prog fn R Exit.ret { tmps := tm, defers := [{ target := .collected (w.heap.size + 6), args := #[] }] } W := by
  have hp : ∀ i, i ≠ w.heap.size + 6 → (W.putObj (w.heap.size + 6) (.deferred none)).heap[i]? = W.heap[i]? := fun i hi => World.putObj_heap_other hi
  injection hq with q1 hq
  injection hq with q2 hq
  injection hq with q3 _
  have z0 : Boxed (W.putObj (w.heap.size + 6) (.deferred none)) w.heap.size 41 v := (hp _ (by omega)).trans y0
  have z1 : Boxed (W.putObj (w.heap.size + 6) (.deferred none)) (w.heap.size + 1) 3 (.int .i64 ln) := (hp _ (by omega)).trans y1
  have z2 : Boxed (W.putObj (w.heap.size + 6) (.deferred none)) (w.heap.size + 2) 24 (.int .i64 er) := (hp _ (by omega)).trans y2
  refine ⟨by simp, .inl ⟨_, _, rfl, run_takeDeferred yd, ?_⟩⟩
  refine ⟨_, results_cells3 X hr (τ1 := .sl Y_lex_Token) (τ2 := .int .i64) (τ3 := .int .i64) rfl rfl rfl rfl rfl rfl rfl rfl rfl q1 q2 q3 z0.cell z1.cell z2.cell, ?_⟩
  have := HF.out v (W.putObj (w.heap.size + 6) (.deferred none)) (Below.of_keep hB rfl rfl rfl (by simp) fun i hi => hp i (by omega))
  rw [hall] at this
  exact this (ownsRow_keep yr fun i hi _ => hp i (by omega))
set_option maxRecDepth 100000 in
set_option maxHeartbeats 1000000 in
theorem all_in (s : ByteArray) (w : World) (hG : Glo w) {toks : List Tok} (hm : tokR (s.size + 1) s 1 = some toks) (hlen : toks.length * 32 ≤ 140737488355328) (R : Ending → World → Prop)
    (HF : Wrap (∀ v W, Below w.heap.size w W → W.ownsRow (w.heap.size + 8) 61 3 v (allR toks).1.length (cellsOf (allR toks).1) → R (.returned (.tuple #[v, .int .i64 (allR toks).2.1, .int .i64 (allR toks).2.2])) W)) :
    CallsIn Fence.wide 0 Tryd.prog 10 #[.string s] w R := by
  refine callsIn_of_wp_marks Tryd.func10 rfl trivial ?_ rfl
  simp only [Tryd.ntmps10, List.size_toArray, List.length_cons, List.length_nil, Nat.reduceAdd, Nat.reduceSub, Array.replicate_succ, Array.replicate_zero, List.push_toArray, List.append_toArray, List.nil_append, List.cons_append]
  gi_wp2_with (refine ⟨trivial, rfl, ?_⟩; refine (tokens_in _ _).mono ?_; rintro e w' ⟨rfl, rfl⟩)
  obtain ⟨W0, hW0⟩ : ∃ W0, ((((((w.alloc (.cells #[.slice none 0 0] 41)).alloc (.cells #[.int .i64 0] 3)).alloc (.cells #[.int .i64 0] 24)).alloc (.cells #[.slice none 0 0] 41)).alloc (.cells #[.int .i64 1] 3)).alloc (.cells #[.string s] 9)) = W0 := ⟨_, rfl⟩
  rw [hW0]
  obtain ⟨z, hz⟩ : ∃ z, w.heap.size = z := ⟨_, rfl⟩
  have hsz : W0.heap.size = z + 6 := by rw [← hW0]; simp; omega
  rw [hz]
  simp only [Nat.add_assoc, Nat.reduceAdd]
  refine RF.enter (gf := 33) (lb := #[.pointer (some ⟨z + 5, 0, none⟩)]) rfl (enters_of Tryd.func33 (by kernel_rfl) rfl) ?_
  intro fn rc hrc
  rw [hsz]
  have b0 : Boxed W0 z 41 (.slice none 0 0) := by rw [← hW0, ← hz]; exact (((((Boxed.new w 41 _).alloc _).alloc _).alloc _).alloc _).alloc _
  have hs1 : ∀ (W : World) (o : Obj), (W.alloc o).heap.size = W.heap.size + 1 := fun W o => by simp
  have b1 : Boxed W0 (z + 1) 3 (.int .i64 0) := by
    rw [← hW0, ← hz]; have := ((((Boxed.new (w.alloc (.cells #[.slice none 0 0] 41)) 3 (.int .i64 0)).alloc (.cells #[.int .i64 0] 24)).alloc (.cells #[.slice none 0 0] 41)).alloc (.cells #[.int .i64 1] 3)).alloc (.cells #[.string s] 9); simpa only [hs1] using this
  have b2 : Boxed W0 (z + 2) 24 (.int .i64 0) := by
    rw [← hW0, ← hz]; have := (((Boxed.new ((w.alloc (.cells #[.slice none 0 0] 41)).alloc (.cells #[.int .i64 0] 3)) 24 (.int .i64 0)).alloc (.cells #[.slice none 0 0] 41)).alloc (.cells #[.int .i64 1] 3)).alloc (.cells #[.string s] 9); simpa only [hs1] using this
  have b3 : Boxed W0 (z + 3) 41 (.slice none 0 0) := by
    rw [← hW0, ← hz]; have := ((Boxed.new (((w.alloc (.cells #[.slice none 0 0] 41)).alloc (.cells #[.int .i64 0] 3)).alloc (.cells #[.int .i64 0] 24)) 41 (.slice none 0 0)).alloc (.cells #[.int .i64 1] 3)).alloc (.cells #[.string s] 9); simpa only [hs1] using this
  have b4 : Boxed W0 (z + 4) 3 (.int .i64 1) := by
    rw [← hW0, ← hz]; have := (Boxed.new ((((w.alloc (.cells #[.slice none 0 0] 41)).alloc (.cells #[.int .i64 0] 3)).alloc (.cells #[.int .i64 0] 24)).alloc (.cells #[.slice none 0 0] 41)) 3 (.int .i64 1)).alloc (.cells #[.string s] 9); simpa only [hs1] using this
  have b5 : Boxed W0 (z + 5) 9 (.string s) := by
    rw [← hW0, ← hz]; have := Boxed.new (((((w.alloc (.cells #[.slice none 0 0] 41)).alloc (.cells #[.int .i64 0] 3)).alloc (.cells #[.int .i64 0] 24)).alloc (.cells #[.slice none 0 0] 41)).alloc (.cells #[.int .i64 1] 3)) 9 (.string s); simpa only [hs1] using this
  have hB0 : Below z w W0 := by
    rw [← hW0, ← hz]
    exact ((((((Below.refl _ w).alloc (Nat.le_refl _) _).alloc (by simp) _).alloc (by simp; omega) _).alloc (by simp; omega) _).alloc (by simp; omega) _).alloc (by simp; omega) _
  clear hW0
  subst hz
  obtain ⟨W1, hW1⟩ : ∃ W1, (W0.alloc (.deferred (some []))).alloc (.loop (rc .ready none)) = W1 := ⟨_, rfl⟩
  rw [hW1]
  have hbox : ∀ {B t v}, Boxed W0 B t v → Boxed W1 B t v := fun h => by rw [← hW1]; exact (h.alloc _).alloc _
  have h0 : JJ w (rc .ready none) [] W1 := by
    refine ⟨by rw [← hW1]; exact (hB0.alloc (by omega) _).alloc (by simp; omega) _, hbox b0, hbox b1, hbox b2, (fun t h => by cases h), ⟨_, hbox b3, World.ownsRow_nil _ _ _ _⟩, hbox b4, ?_, ?_⟩
    · rw [← hW1, ← hsz]; exact (Below.heap_alloc _ _ _ (by simp)).trans (World.alloc_heap_new W0 _)
    · rw [← hW1]; have := World.alloc_heap_new (W0.alloc (.deferred (some []))) (.loop (rc .ready none)); simpa [hsz] using this
  refine (clo_in (toks := toks) (w.heap.size + 5) (w.heap.size + 6 + 1) w ?hG (JJ w (rc .ready none)) (JX w (rc .done (some .ret))) ?hJB ?hJg ?hJs ?hY s W1 (hbox b5) h0 hm).mono ?_
  case hG => exact fun W hb => hG.keeps hb.size hb.block
  case hJB => exact fun pre W h => h.below
  case hJg => exact fun pre W W' h hb => h.keep hb.os hb.tape hb.output hb.size (fun k hk _ _ => hb.block k hk) ((hb.block _ (Array.getElem?_eq_some_iff.1 h.lp).1).trans h.lp)
  case hJs => exact fun pre W u h => h.keep rfl rfl rfl (KeepsWalks.setCell W _ u).size (fun k _ hk _ => Below.heap_setCell W _ u k hk) ((Below.heap_setCell W _ u _ (by simp)).trans h.lp)
  case hY =>
    rintro pre ⟨k, txt, ln⟩ W hJ hp
    suffices h : ∀ RR : Ending → World → Prop, Wrap (∀ e W', ((e = .returned (.bool true) ∧ JJ w (rc .ready none) (pre ++ [(k, txt, ln)]) W' ∧ ∀ u, Boxed W (w.heap.size + 5) 9 u → Boxed W' (w.heap.size + 5) 9 u) ∨ (e = .returned (.bool false) ∧ JX w (rc .done (some .ret)) (pre ++ [(k, txt, ln)]) W')) → RR e W') →
        YieldAt Fence.wide 0 Tryd.prog (w.heap.size + 6 + 1) #[enc (k, txt, ln)] W RR from h _ ⟨fun _ _ h => h⟩
    intro RR HRR
    refine RF.round hJ.lp (by rw [hrc]; rfl) ?_
    have HE1 : Wrap (({ ({ rc .ready none with state := .busy } : Loop) with state := .ready, pending := none } : Loop) = rc .ready none) := ⟨by rw [hrc]; rfl⟩
    have HE2 : Wrap (({ ({ rc .ready none with state := .busy } : Loop) with state := .done, pending := some .ret } : Loop) = rc .done (some .ret)) := ⟨by rw [hrc]; rfl⟩
    have hrs : ∀ st pe, (rc st pe).state = st := by rw [hrc]; intro _ _; rfl
    rw [hrc]
    dsimp only [RF.recOf, enc]
    have hltL := (Array.getElem?_eq_some_iff.1 hJ.lp).1
    gi_wp2
    refine ⟨rc .ready none, (Below.heap_alloc W _ _ hltL).trans hJ.lp, hrs _ _, fun Wb hWb => ?_⟩
    replace hWb := hWb.out
    have HJ2 := hJ.keep (W' := Wb) (r' := { rc .ready none with state := .busy }) (by rw [hWb]; rfl) (by rw [hWb]; rfl) (by rw [hWb]; rfl) (by rw [hWb]; simp)
      (fun k hk _ h7 => by rw [hWb]; exact (World.putObj_heap_other (by omega)).trans (Below.heap_alloc W _ k hk)) (by rw [hWb]; exact World.putObj_heap_same (by simp; omega))
    have hszb : Wb.heap.size = W.heap.size + 1 := by rw [hWb]; simp
    have ht : Wb.heap[W.heap.size]? = some (.cells #[.int .i64 k, .string txt, .int .i64 ln] 61 (0, 0)) := by
      rw [hWb]; exact (World.putObj_heap_other (by omega)).trans (World.alloc_heap_new W _)
    have hB5 : ∀ u, Boxed W (w.heap.size + 5) 9 u → Boxed Wb (w.heap.size + 5) 9 u := fun u hu => by
      rw [hWb]; exact (World.putObj_heap_other (by omega)).trans ((Below.heap_alloc W _ _ hu.lt).trans hu)
    clear hWb
    obtain ⟨zt, hzt⟩ : ∃ zt, W.heap.size = zt := ⟨_, rfl⟩
    rw [hzt] at ht hszb hltL ⊢
    have hT0 : Wb.cell? ⟨zt, 0, none⟩ = some (.int .i64 k) := by simp [World.cell?, ht]
    have hT1 : Wb.cell? ⟨zt, 1, none⟩ = some (.string txt) := by simp [World.cell?, ht]
    have hT2 : Wb.cell? ⟨zt, 2, none⟩ = some (.int .i64 ln) := by simp [World.cell?, ht]
    have h4c := HJ2.line.cell
    have h4f := HJ2.line.frozen
    obtain ⟨Wc, hWc⟩ : ∃ Wc, Wb.setCell ⟨w.heap.size + 4, 0, none⟩ (.int .i64 ln) = Wc := ⟨_, rfl⟩
    have hkc : ∀ i, i ≠ w.heap.size + 4 → Wc.heap[i]? = Wb.heap[i]? := fun i hi => by rw [← hWc]; exact Below.heap_setCell Wb _ _ i hi
    have hszc : Wc.heap.size = zt + 1 := by rw [← hWc, ← hszb]; show (Wb.heap.modify _ _).size = _; rw [Array.size_modify]
    have hU0 : Wc.cell? ⟨zt, 0, none⟩ = some (.int .i64 k) := by simp [World.cell?, hkc zt (by omega), ht]
    have hU1 : Wc.cell? ⟨zt, 1, none⟩ = some (.string txt) := by simp [World.cell?, hkc zt (by omega), ht]
    have hU2 : Wc.cell? ⟨zt, 2, none⟩ = some (.int .i64 ln) := by simp [World.cell?, hkc zt (by omega), ht]
    have hl4 : Boxed Wc (w.heap.size + 4) 3 (.int .i64 ln) := by rw [← hWc]; exact HJ2.line.set _
    have hbx : ∀ (B : Nat) (t : TypeId) (v : Value), B ≠ w.heap.size + 4 → Boxed Wb B t v → Boxed Wc B t v := fun _ _ _ e h => (hkc _ e).trans h
    have hBc : Below w.heap.size w Wc := by rw [← hWc]; exact Below.of_keep HJ2.below rfl rfl rfl (KeepsWalks.setCell Wb _ _).size fun i hi => Below.heap_setCell Wb _ _ i (by simp; omega)
    have HR : Wrap (JJ w { rc .ready none with state := .busy } pre Wb) := ⟨HJ2⟩
    have HB5 := Wrap.mk hB5
    have HX := Wrap.mk hbx
    have HK := Wrap.mk hkc
    have HRS := Wrap.mk hrs
    have HP := Wrap.mk hp
    obtain ⟨v3, hv3, hrow3⟩ := HJ2.row
    have hv3 := hbx _ _ _ (by omega) hv3
    have hrow3 := ownsRow_keep (W' := Wc) hrow3 (fun k hk _ => hkc k (by omega))
    have h3c := hv3.cell
    have hlk : (kept pre).length * 32 + 32 ≤ 140737488355328 := by
      have h1 : (kept pre).length ≤ pre.length := List.length_filter_le _ _
      have h2 := hp.length_le
      simp at h2
      omega
    clear hJ HJ2 hB5 hbx hkc hrs hp hm hG hW1 hbox h0 hB0 b0 b1 b2 b3 b4 b5 ht hs1 hrc
    obtain ⟨i0, hi, hz0, hz1, hz2⟩ := info_parts infoTk
    subst hWc
    by_cases hk : k = 0
    · have hk' : (k == 0) = true := by simpa using hk
      by_cases htx : txt.size = 0
      · have hne : (!txt.toList.isEmpty) = false := by
          obtain ⟨⟨l⟩⟩ := txt
          have : l = [] := List.eq_nil_of_length_eq_zero htx
          subst this
          simp [ByteArray.toList_eq]
        gi_wp2
        have hN := HR.out.next (W3 := Wb.setCell ⟨w.heap.size + 4, 0, none⟩ (.int .i64 ln)) (t := (k, txt, ln)) (r' := rc .ready none)
          rfl rfl rfl (KeepsWalks.setCell Wb _ _).size (fun i _ _ h4 => HK.out i h4) (fun _ => htx)
          ⟨v3, hv3, by rw [kept_skip _ _ hk]; exact hrow3⟩ hl4 HE1.out
        have hl7 : (Wb.setCell ⟨w.heap.size + 4, 0, none⟩ (.int .i64 ln)).heap[w.heap.size + 6 + 1]? = some (.loop { rc .ready none with state := .busy }) := (HK.out _ (by omega)).trans HR.out.lp
        exact ⟨_, _, run_endRound none hl7, HRR.out _ _ (.inl ⟨rfl, hN.1, fun u hu => hN.2 u (HB5.out u hu)⟩)⟩
      · have hne : (!txt.toList.isEmpty) = true := by
          obtain ⟨⟨l⟩⟩ := txt
          cases l with
          | nil => exact absurd rfl htx
          | cons b l => simp [ByteArray.toList_eq]
        have c0 := (HX.out _ _ _ (by omega) HR.out.r0).cell
        have c1 := (HX.out _ _ _ (by omega) HR.out.r1).cell
        have c2 := (HX.out _ _ _ (by omega) HR.out.r2).cell
        have f0 := (HX.out _ _ _ (by omega) HR.out.r0).frozen
        have f1 := (HX.out _ _ _ (by omega) HR.out.r1).frozen
        have f2 := (HX.out _ _ _ (by omega) HR.out.r2).frozen
        have c4 := hl4.cell
        gi_wp2
        have hN := HR.out.stop (t := (k, txt, ln)) (r' := rc .done (some .ret)) hk htx HE2.out
        have HN := Wrap.mk hN
        clear hN
        gi_region
        all_goals (gi_wp2; exact ⟨_, _, run_endRound (some .ret) HN.out.1, HRR.out _ _ (.inr ⟨rfl, HN.out.2⟩)⟩)
    · have hk' : (k == 0) = false := by simpa using hk
      have HN : Wrap (∀ j u, [Value.int .i64 k, .string txt, .int .i64 ln][j]? = some u → ((Wb.setCell ⟨w.heap.size + 4, 0, none⟩ (.int .i64 ln)).alloc (.cells #[.int .i64 k, .string txt, .int .i64 ln] 61)).cell? (Addr.add ⟨zt + 1, 0, none⟩ j) = some u) := ⟨by rw [← hszc]; exact new3 _ _ _ _ _⟩
      have HZ : Wrap (w.heap.size + 8 ≤ ((Wb.setCell ⟨w.heap.size + 4, 0, none⟩ (.int .i64 ln)).alloc (.cells #[.int .i64 k, .string txt, .int .i64 ln] 61)).heap.size) := ⟨by rw [World.size_alloc, hszc]; omega⟩
      gi_wp2_with (gi_at_builtin; refine wpListIn_append_own _ rfl _ _ 41 rfl (w.heap.size + 8) 61 i0 _ 3 32 undTs hi hz0 hz1 hz2 rfl (by decide) _ _ _ rfl (hrow3.alloc _) ⟨zt + 1, 0, none⟩ 1 1 [.int .i64 k, .string txt, .int .i64 ln] rfl rfl HN.out (by simp [Value.oneCell']) (by have : maxLen = 9223372036854775807 := rfl; omega) (by omega) HZ.out ?_; intro v' w1 hown' hgrow _; obtain ⟨g', cap', rfl⟩ := ownsRow_succ hown'; have hv1 : Boxed w1 (w.heap.size + 3) 41 v3 := (hv3.alloc _).kept hgrow (hv3.not_row (by decide) hrow3); have hc1 := hv1.cell; have hf1 := hv1.frozen)
      have hg8 : w.heap.size + 8 ≤ g' := by
        rcases hown'.2 with ⟨e, _⟩ | ⟨g, cap, cur, e, e2, _⟩
        · cases e
        · cases e; exact e2
      have hkk : ∀ i, i < w.heap.size + 8 → i ≠ w.heap.size + 3 → i ≠ w.heap.size + 4 → (w1.setCell ⟨w.heap.size + 3, 0, none⟩ (.slice (some ⟨g', 0, none⟩) ((kept pre).length + 1) cap')).heap[i]? = Wb.heap[i]? := by
        intro i h8 h3 h4
        refine (Below.heap_setCell w1 _ _ i h3).trans ((hgrow.block i (by rw [World.size_alloc, hszc]; omega) ?_).trans ((Below.heap_alloc _ _ i (by rw [hszc]; omega)).trans (HK.out i h4)))
        rcases hrow3.2 with ⟨e, _⟩ | ⟨g, cap, cur, e, e2, _⟩
        · intro hh; rw [e] at hh; cases hh
        · intro hh; rw [e] at hh; injection hh with hh; dsimp only at hh; omega
      have hl4' : Boxed w1 (w.heap.size + 4) 3 (.int .i64 ln) := (hl4.alloc _).kept hgrow (by
        rcases hrow3.2 with ⟨e, _⟩ | ⟨g, cap, cur, e, e2, _⟩
        · intro hh; rw [e] at hh; cases hh
        · intro hh; rw [e] at hh; injection hh with hh; dsimp only at hh; omega)
      have hN := HR.out.next (W3 := w1.setCell ⟨w.heap.size + 3, 0, none⟩ (.slice (some ⟨g', 0, none⟩) ((kept pre).length + 1) cap')) (t := (k, txt, ln)) (r' := rc .ready none)
        (hgrow.os) (hgrow.tape) (hgrow.output) (by have := hgrow.size; have := (KeepsWalks.setCell w1 ⟨w.heap.size + 3, 0, none⟩ (.slice (some ⟨g', 0, none⟩) ((kept pre).length + 1) cap')).size; simp at *; omega) hkk (fun h => absurd h hk)
        ⟨_, hv1.set _, by
          rw [kept_snoc _ _ hk, List.length_append, cells_snoc]
          exact hown'.kept (grownBy_setCell' w1 _ _) (.inr (hv1.not_row (by decide) hown').symm)⟩ (hl4'.other (by omega) _) HE1.out
      have hl7 : (w1.setCell ⟨w.heap.size + 3, 0, none⟩ (.slice (some ⟨g', 0, none⟩) ((kept pre).length + 1) cap')).heap[w.heap.size + 6 + 1]? = some (.loop { rc .ready none with state := .busy }) := (hkk _ (by omega) (by omega) (by omega)).trans HR.out.lp
      exact ⟨_, _, run_endRound none hl7, HRR.out _ _ (.inl ⟨rfl, hN.1, fun u hu => hN.2 u (HB5.out u hu)⟩)⟩


  rintro e W2 ⟨⟨v, rfl⟩, hJ | ⟨pre, hpre, hX⟩⟩
  · refine ⟨v, .ready, none, rfl, by simp, hJ.lp, ?_⟩
    have hlt := (Array.getElem?_eq_some_iff.1 hJ.lp).1
    have hJ3 := hJ.keep (W' := W2.putObj (w.heap.size + 6 + 1) (.loop (rc .exhausted none))) (r' := rc .exhausted none) rfl rfl rfl (by simp) (fun k _ _ h7 => World.putObj_heap_other (by omega)) (World.putObj_heap_same hlt)
    dsimp only
    generalize W2.putObj (w.heap.size + 6 + 1) (.loop (rc .exhausted none)) = W3 at hJ3 ⊢
    have HJ := Wrap.mk hJ3
    obtain ⟨v3, hv3, hrow3⟩ := hJ3.row
    obtain ⟨A3, n3, q3, rfl⟩ := row_slice hrow3
    have c0 := hJ3.r0.cell
    have c1 := hJ3.r1.cell
    have c2 := hJ3.r2.cell
    have c3 := hv3.cell
    have c4 := hJ3.line.cell
    have f0 := hJ3.r0.frozen
    have f1 := hJ3.r1.frozen
    have f2 := hJ3.r2.frozen
    have hd := hJ3.dfr
    clear hJ hJ3 hlt h0 hB0 hbox hW1 hrc b0 b1 b2 b3 b4 b5 hm
    gi_wp2
    gi_region
    all_goals gi_wp2
    have hJ3 := HJ.out
    have hlt3 := (Array.getElem?_eq_some_iff.1 hJ3.lp).1
    have hB3 : Below w.heap.size w (((W3.setCell ⟨w.heap.size, 0, none⟩ (.slice A3 n3 q3)).setCell ⟨w.heap.size + 1, 0, none⟩ (.int .i64 (lastLine toks))).setCell ⟨w.heap.size + 2, 0, none⟩ (.int .i64 0)).drew :=
      Below.of_keep hJ3.below rfl rfl rfl (((KeepsWalks.setCell W3 _ _).trans (KeepsWalks.setCell _ _ _)).trans (KeepsWalks.setCell _ _ _)).size
        fun i hi => (Below.heap_setCell _ _ _ i (by simp; omega)).trans ((Below.heap_setCell _ _ _ i (by simp; omega)).trans (Below.heap_setCell _ _ _ i (by simp; omega)))
    have y0 : Boxed (((W3.setCell ⟨w.heap.size, 0, none⟩ (.slice A3 n3 q3)).setCell ⟨w.heap.size + 1, 0, none⟩ (.int .i64 (lastLine toks))).setCell ⟨w.heap.size + 2, 0, none⟩ (.int .i64 0)).drew w.heap.size 41 (.slice A3 n3 q3) :=
      boxed_drew (((hJ3.r0.set (.slice A3 n3 q3)).other (B' := w.heap.size + 1) (by omega) _).other (B' := w.heap.size + 2) (by omega) _)
    have y1 : Boxed (((W3.setCell ⟨w.heap.size, 0, none⟩ (.slice A3 n3 q3)).setCell ⟨w.heap.size + 1, 0, none⟩ (.int .i64 (lastLine toks))).setCell ⟨w.heap.size + 2, 0, none⟩ (.int .i64 0)).drew (w.heap.size + 1) 3 (.int .i64 (lastLine toks)) :=
      boxed_drew (((hJ3.r1.other (B' := w.heap.size) (by omega) (.slice A3 n3 q3)).set (.int .i64 (lastLine toks))).other (B' := w.heap.size + 2) (by omega) _)
    have y2 : Boxed (((W3.setCell ⟨w.heap.size, 0, none⟩ (.slice A3 n3 q3)).setCell ⟨w.heap.size + 1, 0, none⟩ (.int .i64 (lastLine toks))).setCell ⟨w.heap.size + 2, 0, none⟩ (.int .i64 0)).drew (w.heap.size + 2) 24 (.int .i64 0) :=
      boxed_drew (((hJ3.r2.other (B' := w.heap.size) (by omega) (.slice A3 n3 q3)).other (B' := w.heap.size + 1) (by omega) _).set (.int .i64 0))
    have yd : (((W3.setCell ⟨w.heap.size, 0, none⟩ (.slice A3 n3 q3)).setCell ⟨w.heap.size + 1, 0, none⟩ (.int .i64 (lastLine toks))).setCell ⟨w.heap.size + 2, 0, none⟩ (.int .i64 0)).drew.heap[w.heap.size + 6]? = some (.deferred (some [])) :=
      ((Below.heap_setCell _ _ _ _ (by simp)).trans ((Below.heap_setCell _ _ _ _ (by simp)).trans (Below.heap_setCell _ _ _ _ (by simp)))).trans hd
    have yr := (ownsRow_keep (W' := (((W3.setCell ⟨w.heap.size, 0, none⟩ (.slice A3 n3 q3)).setCell ⟨w.heap.size + 1, 0, none⟩ (.int .i64 (lastLine toks))).setCell ⟨w.heap.size + 2, 0, none⟩ (.int .i64 0)).drew) hrow3
        fun i hi _ => (Below.heap_setCell _ _ _ i (by simp; omega)).trans ((Below.heap_setCell _ _ _ i (by simp; omega)).trans (Below.heap_setCell _ _ _ i (by simp; omega))))
    have hall := allR_ok hJ3.ok
    generalize (((W3.setCell ⟨w.heap.size, 0, none⟩ (.slice A3 n3 q3)).setCell ⟨w.heap.size + 1, 0, none⟩ (.int .i64 (lastLine toks))).setCell ⟨w.heap.size + 2, 0, none⟩ (.int .i64 0)).drew = W4 at hB3 y0 y1 y2 yd yr ⊢
    have HE := all_end (fn := Tryd.f10) HF hall hB3 y0 y1 y2 yd yr
    exact HE _ rfl rfl
  · refine ⟨v, .done, some .ret, rfl, by simp, hX.lp, ?_⟩
    have hlt := (Array.getElem?_eq_some_iff.1 hX.lp).1
    have hp : ∀ i, i ≠ w.heap.size + 7 → (W2.putObj (w.heap.size + 6 + 1) (.loop (rc .exhausted (some .ret)))).heap[i]? = W2.heap[i]? := fun i hi => World.putObj_heap_other hi
    have HB : Below w.heap.size w (W2.putObj (w.heap.size + 6 + 1) (.loop (rc .exhausted (some .ret)))) := Below.of_keep hX.below rfl rfl rfl (by simp) fun i hi => hp i (by omega)
    have x0 : Boxed (W2.putObj (w.heap.size + 6 + 1) (.loop (rc .exhausted (some .ret)))) _ _ _ := (hp _ (by omega)).trans hX.r0
    have x2 : Boxed (W2.putObj (w.heap.size + 6 + 1) (.loop (rc .exhausted (some .ret)))) _ _ _ := (hp _ (by omega)).trans hX.r2
    have hd := (hp _ (by omega)).trans hX.dfr
    obtain ⟨q, t, hq, ht0, hts, hqk, x1⟩ := hX.tok
    have x1 : Boxed (W2.putObj (w.heap.size + 6 + 1) (.loop (rc .exhausted (some .ret)))) _ _ _ := (hp _ (by omega)).trans x1
    have hall := allR_bad hpre hq ht0 hts hqk
    dsimp only
    generalize W2.putObj (w.heap.size + 6 + 1) (.loop (rc .exhausted (some .ret))) = W3 at HB x0 x1 x2 hd ⊢
    clear hp hlt h0 hB0 hbox hW1 hrc b0 b1 b2 b3 b4 b5 hm
    gi_wp2
    have HE := all_end (fn := Tryd.f10) HF hall HB x0 x1 x2 hd (World.ownsRow_nil _ _ _ _)
    exact HE _ rfl rfl
theorem rel_ofv {w : World} {M : Nat → Prop} {loc : Nat → Nat × Nat} {o : Objs} {t : Ty} {x : t.den} {u : Value} (h : t.rel w M x u) : AV.rel w M loc o (.v t x) u := by rw [rel_v]; exact h
theorem k_lex_All {p0 : ByteArray} {y : (List D_lex_Token) × Int × Int} (h : m_lex_All p0 = some y) : Spec Tryd.prog 10 [.v .str p0] (.tup [.v (.sl Y_lex_Token) y.1, .v (.int .i64) y.2.1, .v (.int .i64) y.2.2]) [] := by
  obtain ⟨toks, e1, h⟩ := bdS h
  split at h
  · rename_i hl
    obtain rfl := Option.some.inj h
    intro N w vs hG hN hv
    rw [AV.rels] at hv
    obtain ⟨u, us, rfl, hu, hv⟩ := hv
    rw [AV.rels] at hv
    subst hv
    rw [of_str hu]
    refine callsIn_wide.1 (all_in p0 w hG e1 hl _ ⟨?_⟩)
    intro v W hB hr
    obtain ⟨A, m, q, rfl⟩ := row_slice hr
    refine ⟨_, fun _ => (0, 0), rfl, Rep.none_, ?_, hB⟩
    rw [AV.rel]
    refine ⟨_, rfl, ?_⟩
    rw [AV.rels]
    refine ⟨.slice A m q, _, rfl, ?_, ?_⟩
    · exact rel_ofv (t := .sl Y_lex_Token) (row_of hr (fun k hk hM => by have := hN k (muts_none k hM); omega))
    · rw [AV.rels]
      refine ⟨_, _, rfl, rel_int, ?_⟩
      rw [AV.rels]
      exact ⟨_, [], rfl, rel_int, by rw [AV.rels]⟩
  · cases h
end Go.Proofs.YtboghejfmmigkaaDoor.AE
/- The code comes to the printed functions (printed by a program of ours). -/
namespace Go.Proofs.YtboghejfmmigkaaDoor.AE
open Go Go.RowKit Go.Proofs.YtboghejfmmigkaaDoor.AP
set_option linter.unusedVariables false
set_option maxRecDepth 20000
theorem k_lex_New_M {p0 : ByteArray} {y : (Int × Int) ⊕ (Int × Int × (List D_lex_Token) × Int)} (h : m_lex_New_M p0 = some y) : SpecM Tryd.prog 7 [(.v .str p0)] [] ((match y with | .inl y => .tup [.nilp, .v (.int .i64) y.1, .v (.int .i64) y.2] | .inr y => .tup [.box 2 0, .v (.int .i64) y.1, .v (.int .i64) y.2.1])) (match y with | .inl y => [] | .inr y => [(2, .box [.v (.sl Y_lex_Token) y.2.2.1, .v (.int .i64) y.2.2.2])]) := by
  rw [m_lex_New_M] at h
  refine SpecM.enter 100000 [(.v .str p0)] 24 Tryd.func7 rfl rfl rfl rfl (fun L => ?_)
  refine T.seq ?_
  refine T.region ?_
  refine Run.go (Ev.assign rfl rfl) ?_
  refine Run.go (Ev.assign rfl rfl) ?_
  refine Run.go (Ev.assign rfl rfl) ?_
  refine Run.nil ?_
  refine T.seq ?_
  refine T.region ?_
  refine Run.go (Ev.move rfl rfl) ?_
  obtain ⟨x1, e2, h⟩ := bdS h
  refine Run.go (Ev.callC en10 (k_lex_All e2) rfl (.cons .v .nil) rfl rfl) ?_
  refine Run.go (Ev.move rfl rfl) ?_
  refine Run.go (Ev.extract rfl rfl rfl) ?_
  refine Run.go (Ev.extract rfl rfl rfl) ?_
  refine Run.go (Ev.extract rfl rfl rfl) ?_
  refine Run.go (Ev.assign rfl rfl) ?_
  refine Run.go (Ev.assign rfl rfl) ?_
  refine Run.go (Ev.assign rfl rfl) ?_
  refine Run.nil ?_
  refine T.seq ?_
  refine T.seq ?_
  refine T.region ?_
  refine Run.go (Ev.move rfl rfl) ?_
  refine Run.go (Ev.int rfl rfl rfl rfl trivial) ?_
  refine Run.nil ?_
  refine T.cond rfl (fun hb3 => ?_) (fun hb3 => ?_)
  · replace h := ifT hb3 h
    refine T.seq ?_
    refine T.region ?_
    refine Run.go (Ev.move rfl rfl) ?_
    refine Run.go (Ev.move rfl rfl) ?_
    refine Run.go (Ev.assign rfl rfl) ?_
    refine Run.go (Ev.assign rfl rfl) ?_
    refine Run.go (Ev.assign rfl rfl) ?_
    refine Run.nil ?_
    refine T.ret ?_
    cases h
    exact FinM.of 100000 [] (inlR.many' (X := X) rfl (.cons (.tmp rfl) (.cons (.tmp rfl) (.cons (.tmp rfl) .nil))) rfl) rfl rfl rfl rfl trivial
  · replace h := ifF hb3 h
    refine T.skip ?_
    refine T.seq ?_
    refine T.region ?_
    refine Run.go (Ev.move rfl rfl) ?_
    refine Run.go (Ev.move rfl rfl) ?_
    refine Run.go (Ev.struct X pl45 rfl rfl rfl rfl rfl rfl rfl rfl) ?_
    refine Run.go (Ev.box 4 rfl rfl rfl rfl) ?_
    refine Run.go (Ev.move rfl rfl) ?_
    refine Run.go (Ev.move rfl rfl) ?_
    refine Run.go (Ev.assign rfl rfl) ?_
    refine Run.go (Ev.assign rfl rfl) ?_
    refine Run.go (Ev.assign rfl rfl) ?_
    refine Run.nil ?_
    refine T.ret ?_
    cases h
    exact FinM.of 100000 [(4, 2)] (inlR.many' (X := X) rfl (.cons (.tmp rfl) (.cons (.tmp rfl) (.cons (.tmp rfl) .nil))) rfl) rfl rfl rfl rfl trivial
theorem k_lex_Reader_Done_M  {y : Unit} (h : m_lex_Reader_Done_M = some y) : SpecM Tryd.prog 8 [.nilp] [] (.v .bool true) [] := by
  rw [m_lex_Reader_Done_M] at h
  refine SpecM.enter 100000 [.nilp] 13 Tryd.func8 rfl rfl rfl rfl (fun L => ?_)
  refine T.seq ?_
  refine T.region ?_
  refine Run.go (Ev.assign rfl rfl) ?_
  refine Run.nil ?_
  refine T.seq ?_
  refine T.region ?_
  refine Run.go (Ev.move rfl rfl) ?_
  refine Run.go (Ev.e_pnil pt34 (.inl ⟨rfl, rfl⟩) rfl .nilp rfl rfl) ?_
  refine Run.go (Ev.move rfl rfl) ?_
  refine Run.offT rfl rfl rfl rfl rfl ?_
  refine Run.offT rfl rfl rfl rfl rfl ?_
  refine Run.offT rfl rfl rfl rfl rfl ?_
  refine Run.offT rfl rfl rfl rfl rfl ?_
  refine Run.offT rfl rfl rfl rfl rfl ?_
  refine Run.offT rfl rfl rfl rfl rfl ?_
  refine Run.go (Ev.pickT rfl rfl rfl rfl) ?_
  refine Run.go (Ev.assign rfl rfl) ?_
  refine Run.nil ?_
  refine T.ret ?_
  cases h
  exact FinM.of 100000 [] (inlR.one' (X := X) rfl (.tmp rfl)) rfl rfl rfl rfl trivial
theorem en23 : Enters Tryd.prog 23 := ⟨_, Tryd.func23, rfl, rfl⟩
theorem k_askread_asks  {y : (List D_askread_ask)} (h : m_askread_asks  = some y) : Spec Tryd.prog 23 [] (.v (.sl Y_askread_ask) y) [] := by
  rw [m_askread_asks] at h
  refine enterN [] 6 Tryd.func23 rfl rfl rfl ?_
  refine T.seq ?_
  refine T.region ?_
  refine Run.go (Ev.assign rfl rfl) ?_
  refine Run.nil ?_
  refine T.seq ?_
  refine T.region ?_
  refine Run.go (Ev.struct X pl65 rfl rfl rfl rfl rfl rfl rfl rfl) ?_
  refine Run.go (Ev.struct X pl65 rfl rfl rfl rfl rfl rfl rfl rfl) ?_
  refine Run.go (Ev.struct X pl65 rfl rfl rfl rfl rfl rfl rfl rfl) ?_
  refine Run.go (Ev.struct X pl65 rfl rfl rfl rfl rfl rfl rfl rfl) ?_
  refine Run.go (Ev.build X 1 rfl rfl rfl rfl rfl rfl rfl rfl) ?_
  refine Run.go (Ev.assign rfl rfl) ?_
  refine Run.nil ?_
  refine T.ret ?_
  cases h
  exact Fin.one rfl (.own rfl)
theorem en50 : Enters Tryd.prog 50 := ⟨_, Tryd.func50, rfl, rfl⟩
theorem k_internal_stringslite_Index {p0 : ByteArray} {p1 : ByteArray} {y : Int} (h : m_internal_stringslite_Index p0 p1 = some y) : Spec Tryd.prog 50 [(.v .str p0), (.v .str p1)] (.v (.int .i64) y) [] := by
  rw [m_internal_stringslite_Index] at h
  refine enterN [(.v .str p0), (.v .str p1)] 143 Tryd.func50 rfl rfl rfl ?_
  refine T.seq ?_
  refine T.region ?_
  refine Run.go (Ev.assign rfl rfl) ?_
  refine Run.nil ?_
  refine T.seq ?_
  refine T.region ?_
  refine Run.go (Ev.move rfl rfl) ?_
  refine Run.go (Ev.len X rfl rfl rfl rfl) ?_
  refine Run.go (Ev.assign rfl rfl) ?_
  refine Run.nil ?_
  refine T.seq ?_
  refine T.block ?_
  obtain ⟨v1, hv, h⟩ := bdS h
  refine T.cut (fun _ : Unit => (⟨[(0, .v .str p0), (1, .v .str p1), (5, .v (.int .i64) ((p1.size : Int) : Int)), (16, .v .bool v1)], [], 143⟩ : St)) (fun _ => True) ?_ (fun _ _ => ?_)
  · replace h := hv
    clear hv
    refine T.region ?_
    refine Run.go (Ev.move rfl rfl) ?_
    refine Run.go (Ev.int rfl rfl rfl rfl trivial) ?_
    refine Run.go (Ev.move rfl rfl) ?_
    rcases boolCases (decide ((p1.size : Int) = 0)) with hb2 | hb2
    · replace h := ifT hb2 h
      refine Run.offT rfl rfl rfl rfl hb2 ?_
      refine Run.offT rfl rfl rfl rfl hb2 ?_
      refine Run.offT rfl rfl rfl rfl hb2 ?_
      refine Run.go (Ev.pickT rfl hb2 rfl rfl) ?_
      refine Run.go (Ev.assign rfl rfl) ?_
      refine Run.nil ?_
      cases h
      exact ⟨(), trivial, Ghost.only [] [0, 1, 5, 16] rfl⟩
    · replace h := ifF hb2 h
      refine Run.on rfl rfl rfl hb2 (Ev.move rfl rfl) ?_
      refine Run.on rfl rfl rfl hb2 (Ev.move rfl rfl) ?_
      refine Run.on rfl rfl rfl hb2 (Ev.strs rfl rfl rfl rfl trivial) ?_
      refine Run.go (Ev.pickF rfl hb2 rfl rfl) ?_
      refine Run.go (Ev.assign rfl rfl) ?_
      refine Run.nil ?_
      cases h
      exact ⟨(), trivial, Ghost.only [] [0, 1, 5, 16] rfl⟩
  · refine T.cond rfl (fun hb3 => ?_) (fun hb3 => ?_)
    · replace h := ifT hb3 h
      refine T.seq ?_
      refine T.region ?_
      refine Run.go (Ev.assign rfl rfl) ?_
      refine Run.nil ?_
      refine T.ret ?_
      cases h
      exact Fin.one rfl .v
    · replace h := ifF hb3 h
      refine T.seq ?_
      refine T.region ?_
      refine Run.go (Ev.move rfl rfl) ?_
      refine Run.go (Ev.int rfl rfl rfl rfl trivial) ?_
      refine Run.go (Ev.assign rfl rfl) ?_
      refine Run.nil ?_
      refine T.cond rfl (fun hb4 => ?_) (fun hb4 => ?_)
      · replace h := ifT hb4 h
        refine T.seq ?_
        refine T.region ?_
        refine Run.go (Ev.move rfl rfl) ?_
        refine Run.go (Ev.move rfl rfl) ?_
        obtain ⟨x5, e6, h⟩ := bdS h
        refine Run.go (Ev.e_bt X e6 rfl rfl rfl rfl) ?_
        obtain ⟨x7, e8, h⟩ := bdS h
        refine Run.go (Ev.callC en47 (k_internal_stringslite_IndexByte e8) rfl (.cons .v (.cons .v .nil)) rfl rfl) ?_
        refine Run.go (Ev.assign rfl rfl) ?_
        refine Run.nil ?_
        refine T.ret ?_
        cases h
        exact Fin.one rfl .v
      · replace h := ifF hb4 h
        refine T.seq ?_
        refine T.region ?_
        refine Run.go (Ev.move rfl rfl) ?_
        refine Run.go (Ev.move rfl rfl) ?_
        refine Run.go (Ev.len X rfl rfl rfl rfl) ?_
        refine Run.go (Ev.int rfl rfl rfl rfl trivial) ?_
        obtain ⟨x9, e10, h⟩ := ltS h
        refine Run.go (Ev.avs (Ev.assign rfl rfl) e10) ?_
        refine Run.nil ?_
        refine T.cond rfl (fun hb11 => ?_) (fun hb11 => ?_)
        · replace h := ifT hb11 h
          refine T.seq ?_
          refine T.region ?_
          refine Run.go (Ev.assign rfl rfl) ?_
          refine Run.nil ?_
          refine T.ret ?_
          cases h
          exact Fin.one rfl .v
        · replace h := ifF hb11 h
          refine T.seq ?_
          refine T.region ?_
          refine Run.go (Ev.move rfl rfl) ?_
          cases h
theorem en42 : Enters Tryd.prog 42 := ⟨_, Tryd.func42, rfl, rfl⟩
theorem k_internal_stringslite_Cut {p0 : ByteArray} {p1 : ByteArray} {y : ByteArray × ByteArray × Bool} (h : m_internal_stringslite_Cut p0 p1 = some y) : Spec Tryd.prog 42 [(.v .str p0), (.v .str p1)] (.tup [.v .str y.1, .v .str y.2.1, .v .bool y.2.2]) [] := by
  rw [m_internal_stringslite_Cut] at h
  refine enterN [(.v .str p0), (.v .str p1)] 23 Tryd.func42 rfl rfl rfl ?_
  refine T.seq ?_
  refine T.region ?_
  refine Run.go (Ev.assign rfl rfl) ?_
  refine Run.go (Ev.assign rfl rfl) ?_
  refine Run.go (Ev.assign rfl rfl) ?_
  refine Run.nil ?_
  refine T.seq ?_
  refine T.seq ?_
  refine T.region ?_
  refine Run.go (Ev.move rfl rfl) ?_
  refine Run.go (Ev.move rfl rfl) ?_
  obtain ⟨x1, e2, h⟩ := bdS h
  refine Run.go (Ev.callC en50 (k_internal_stringslite_Index e2) rfl (.cons .v (.cons .v .nil)) rfl rfl) ?_
  refine Run.go (Ev.assign rfl rfl) ?_
  refine Run.nil ?_
  refine T.seq ?_
  refine T.region ?_
  refine Run.go (Ev.move rfl rfl) ?_
  refine Run.go (Ev.int rfl rfl rfl rfl trivial) ?_
  refine Run.nil ?_
  refine T.cond rfl (fun hb3 => ?_) (fun hb3 => ?_)
  · replace h := ifT hb3 h
    refine T.seq ?_
    refine T.drawM [] [0, 0, 3, 0, 0, 0, 32, 112, 248, 7, 1023, 2047] (by kernel_rfl) (by kernel_rfl) ?_
    refine RunD.w (fun _ => Ev.move rfl rfl) ?_
    refine RunD.w (fun _ => Ev.move rfl rfl) ?_
    obtain ⟨x4, e5, h⟩ := bdS h
    refine RunD.a rfl rfl (Ev.e_cs X e5 rfl rfl rfl (fun _ h => by cases h) (fun _ => rfl) (fun _ _ => cutAt_of rfl) (fun h => by cases h)) ?_
    refine RunD.w (fun _ => Ev.move rfl rfl) ?_
    refine RunD.w (fun _ => Ev.move rfl rfl) ?_
    refine RunD.w (fun _ => Ev.move rfl rfl) ?_
    refine RunD.a rfl rfl (Ev.len X rfl rfl rfl rfl) ?_
    refine RunD.w (fun _ => Ev.int rfl rfl rfl rfl trivial) ?_
    obtain ⟨x6, e7, h⟩ := bdS h
    refine RunD.a rfl rfl (Ev.e_cs X e7 rfl rfl rfl (fun _ _ => cutAt_of rfl) (fun h => by cases h) (fun _ h => by cases h) (fun _ => rfl)) ?_
    refine RunD.w (fun _ => Ev.assign rfl rfl) ?_
    refine RunD.w (fun _ => Ev.assign rfl rfl) ?_
    refine RunD.w (fun _ => Ev.assign rfl rfl) ?_
    refine RunD.nil ?_
    refine T.ret ?_
    cases h
    exact Fin.many X rfl (.cons (.tmp .v) (.cons (.tmp .v) (.cons (.tmp .v) .nil))) rfl
  · replace h := ifF hb3 h
    refine T.skip ?_
    refine T.seq ?_
    refine T.region ?_
    refine Run.go (Ev.move rfl rfl) ?_
    refine Run.go (Ev.assign rfl rfl) ?_
    refine Run.go (Ev.assign rfl rfl) ?_
    refine Run.go (Ev.assign rfl rfl) ?_
    refine Run.nil ?_
    refine T.ret ?_
    cases h
    exact Fin.many X rfl (.cons (.tmp .v) (.cons (.tmp .v) (.cons (.tmp .v) .nil))) rfl
theorem en26 : Enters Tryd.prog 26 := ⟨_, Tryd.func26, rfl, rfl⟩
theorem k_strings_Cut {p0 : ByteArray} {p1 : ByteArray} {y : ByteArray × ByteArray × Bool} (h : m_strings_Cut p0 p1 = some y) : Spec Tryd.prog 26 [(.v .str p0), (.v .str p1)] (.tup [.v .str y.1, .v .str y.2.1, .v .bool y.2.2]) [] := by
  rw [m_strings_Cut] at h
  refine enterN [(.v .str p0), (.v .str p1)] 13 Tryd.func26 rfl rfl rfl ?_
  refine T.seq ?_
  refine T.region ?_
  refine Run.go (Ev.assign rfl rfl) ?_
  refine Run.go (Ev.assign rfl rfl) ?_
  refine Run.go (Ev.assign rfl rfl) ?_
  refine Run.nil ?_
  refine T.seq ?_
  refine T.region ?_
  refine Run.go (Ev.move rfl rfl) ?_
  refine Run.go (Ev.move rfl rfl) ?_
  obtain ⟨x1, e2, h⟩ := bdS h
  refine Run.go (Ev.callC en42 (k_internal_stringslite_Cut e2) rfl (.cons .v (.cons .v .nil)) rfl rfl) ?_
  refine Run.go (Ev.extract rfl rfl rfl) ?_
  refine Run.go (Ev.extract rfl rfl rfl) ?_
  refine Run.go (Ev.extract rfl rfl rfl) ?_
  refine Run.go (Ev.assign rfl rfl) ?_
  refine Run.go (Ev.assign rfl rfl) ?_
  refine Run.go (Ev.assign rfl rfl) ?_
  refine Run.nil ?_
  refine T.ret ?_
  cases h
  exact Fin.many X rfl (.cons (.tmp .v) (.cons (.tmp .v) (.cons (.tmp .v) .nil))) rfl
theorem en27 : Enters Tryd.prog 27 := ⟨_, Tryd.func27, rfl, rfl⟩
set_option maxHeartbeats 1000000 in
theorem k_addr_number {p0 : ByteArray} {y : Int × Int} (h : m_addr_number p0 = some y) : Spec Tryd.prog 27 [(.v .str p0)] (.tup [.v (.int .i64) y.1, .v (.int .i64) y.2]) [] := by
  rw [m_addr_number] at h
  refine enterN [(.v .str p0)] 42 Tryd.func27 rfl rfl rfl ?_
  refine T.seq ?_
  refine T.region ?_
  refine Run.go (Ev.assign rfl rfl) ?_
  refine Run.go (Ev.assign rfl rfl) ?_
  refine Run.nil ?_
  refine T.seq ?_
  obtain ⟨v1, hv, h⟩ := bdS h
  refine T.cut (fun _ : Unit => (⟨[(0, .v .str p0), (23, .v .bool v1)], [], 42⟩ : St)) (fun _ => True) ?_ (fun _ _ => ?_)
  · replace h := hv
    clear hv
    refine T.region ?_
    refine Run.go (Ev.move rfl rfl) ?_
    refine Run.go (Ev.strs rfl rfl rfl rfl trivial) ?_
    refine Run.go (Ev.move rfl rfl) ?_
    rcases boolCases (sq p0 (bs [])) with hb2 | hb2
    · replace h := ifT hb2 h
      refine Run.offT rfl rfl rfl rfl hb2 ?_
      refine Run.offT rfl rfl rfl rfl hb2 ?_
      refine Run.offT rfl rfl rfl rfl hb2 ?_
      refine Run.go (Ev.pickT rfl hb2 rfl rfl) ?_
      refine Run.go (Ev.move rfl rfl) ?_
      refine Run.offT rfl rfl rfl rfl rfl ?_
      refine Run.offT rfl rfl rfl rfl rfl ?_
      refine Run.offT rfl rfl rfl rfl rfl ?_
      refine Run.offT rfl rfl rfl rfl rfl ?_
      refine Run.un rfl rfl rfl ?_
      refine Run.un rfl rfl rfl ?_
      refine Run.un rfl rfl rfl ?_
      refine Run.offT rfl rfl rfl rfl rfl ?_
      refine Run.go (Ev.pickT rfl rfl rfl rfl) ?_
      refine Run.nil ?_
      cases h
      exact ⟨(), trivial, Ghost.only [] [0, 23] rfl⟩
    · replace h := ifF hb2 h
      refine Run.on rfl rfl rfl hb2 (Ev.move rfl rfl) ?_
      refine Run.on rfl rfl rfl hb2 (Ev.len X rfl rfl rfl rfl) ?_
      refine Run.on rfl rfl rfl hb2 (Ev.int rfl rfl rfl rfl trivial) ?_
      refine Run.go (Ev.pickF rfl hb2 rfl rfl) ?_
      refine Run.go (Ev.move rfl rfl) ?_
      rcases boolCases (decide (3 < (p0.size : Int))) with hb3 | hb3
      · replace h := ifT hb3 h
        refine Run.offT rfl rfl rfl rfl hb3 ?_
        refine Run.offT rfl rfl rfl rfl hb3 ?_
        refine Run.offT rfl rfl rfl rfl hb3 ?_
        refine Run.offT rfl rfl rfl rfl hb3 ?_
        refine Run.un rfl rfl rfl ?_
        refine Run.un rfl rfl rfl ?_
        refine Run.un rfl rfl rfl ?_
        refine Run.offT rfl rfl rfl rfl hb3 ?_
        refine Run.go (Ev.pickT rfl hb3 rfl rfl) ?_
        refine Run.nil ?_
        cases h
        exact ⟨(), trivial, Ghost.only [] [0, 23] rfl⟩
      · replace h := ifF hb3 h
        refine Run.on rfl rfl rfl hb3 (Ev.move rfl rfl) ?_
        refine Run.on rfl rfl rfl hb3 (Ev.len X rfl rfl rfl rfl) ?_
        refine Run.on rfl rfl rfl hb3 (Ev.int rfl rfl rfl rfl trivial) ?_
        refine Run.on rfl rfl rfl hb3 (Ev.move rfl rfl) ?_
        rcases boolCases (decide (1 < (p0.size : Int))) with hb4 | hb4
        · replace h := ifT hb4 h
          refine Run.on rfl rfl rfl hb4 (Ev.move rfl rfl) ?_
          obtain ⟨x5, e6, h⟩ := bdS h
          refine Run.on rfl rfl rfl hb4 (Ev.e_bt X e6 rfl rfl rfl rfl) ?_
          refine Run.on rfl rfl rfl hb4 (Ev.int rfl rfl rfl rfl trivial) ?_
          refine Run.on rfl rfl rfl hb3 (Ev.pickT rfl hb4 rfl rfl) ?_
          refine Run.go (Ev.pickF rfl hb3 rfl rfl) ?_
          refine Run.nil ?_
          cases h
          exact ⟨(), trivial, Ghost.only [] [0, 23] rfl⟩
        · replace h := ifF hb4 h
          refine Run.offT rfl rfl rfl rfl hb4 ?_
          refine Run.offT rfl rfl rfl rfl hb4 ?_
          refine Run.offT rfl rfl rfl rfl hb4 ?_
          refine Run.on rfl rfl rfl hb3 (Ev.pickF rfl hb4 rfl rfl) ?_
          refine Run.go (Ev.pickF rfl hb3 rfl rfl) ?_
          refine Run.nil ?_
          cases h
          exact ⟨(), trivial, Ghost.only [] [0, 23] rfl⟩
  · refine T.cond rfl (fun hb7 => ?_) (fun hb7 => ?_)
    · replace h := ifT hb7 h
      refine T.seq ?_
      refine T.region ?_
      refine Run.go (Ev.assign rfl rfl) ?_
      refine Run.go (Ev.assign rfl rfl) ?_
      refine Run.nil ?_
      refine T.ret ?_
      cases h
      exact Fin.many X rfl (.cons (.tmp .v) (.cons (.tmp .v) .nil)) rfl
    · replace h := ifF hb7 h
      refine T.skip ?_
      refine T.seq ?_
      refine T.region ?_
      refine Run.go (Ev.assign rfl rfl) ?_
      refine Run.nil ?_
      refine T.seq ?_
      refine T.seq ?_
      refine T.region ?_
      refine Run.go (Ev.move rfl rfl) ?_
      refine Run.go (Ev.e_range X 1 rfl rfl rfl rfl) ?_
      refine Run.nil ?_
      refine T.block ?_
      refine T.loop (LoopT.ghost (Ghost.only [(1, 1)] [4, 25] rfl) (LoopT.run (fun q : Int × Nat => (⟨[(4, .v (.int .i64) q.1), (25, .it 1)], [(1, .siter p0 q.2)], 42⟩ : St)) (fun q z1 h hz1 => ?_) h))
      obtain ⟨v8, v9⟩ := q
      dsimp only
      rw [m_addr_number_l1] at h
      refine T.seq ?_
      refine T.region ?_
      rcases boolCases (decide (v9 < p0.size)) with hb10 | hb10
      · replace h := ifT hb10 h
        refine Run.go (Ev.e_nextT hb10 rfl rfl rfl) ?_
        refine Run.go (Ev.extract rfl rfl rfl) ?_
        refine Run.nil ?_
        refine T.seq ?_
        refine T.condT rfl rfl ?_
        refine T.skip ?_
        refine T.block ?_
        refine T.seq ?_
        refine T.region ?_
        refine Run.go (Ev.extract rfl rfl rfl) ?_
        refine Run.go (Ev.assign rfl rfl) ?_
        refine Run.nil ?_
        refine T.seq ?_
        obtain ⟨⟨v11, v12, v13⟩, hv, h⟩ := bdS h
        refine T.cut (fun _ : Unit => (⟨[(4, .v (.int .i64) v8), (6, .v (.int .i32) v11), (25, .it 1), (34, .v .bool v12)], [(1, .siter p0 v13)], 42⟩ : St)) (fun _ => True) ?_ (fun _ _ => ?_)
        · replace h := hv
          clear hv
          refine T.region ?_
          refine Run.go (Ev.move rfl rfl) ?_
          refine Run.go (Ev.int rfl rfl rfl rfl trivial) ?_
          refine Run.go (Ev.move rfl rfl) ?_
          rcases boolCases (decide ((dc1 p0 v9) < 48)) with hb14 | hb14
          · replace h := ifT hb14 h
            refine Run.offT rfl rfl rfl rfl hb14 ?_
            refine Run.offT rfl rfl rfl rfl hb14 ?_
            refine Run.go (Ev.pickT rfl hb14 rfl rfl) ?_
            refine Run.nil ?_
            cases h
            exact ⟨(), trivial, Ghost.only [(1, 1)] [4, 6, 25, 34] rfl⟩
          · replace h := ifF hb14 h
            refine Run.on rfl rfl rfl hb14 (Ev.move rfl rfl) ?_
            refine Run.on rfl rfl rfl hb14 (Ev.int rfl rfl rfl rfl trivial) ?_
            refine Run.go (Ev.pickF rfl hb14 rfl rfl) ?_
            refine Run.nil ?_
            cases h
            exact ⟨(), trivial, Ghost.only [(1, 1)] [4, 6, 25, 34] rfl⟩
        · refine T.cond rfl (fun hb15 => ?_) (fun hb15 => ?_)
          · replace h := ifT hb15 h
            refine T.seq ?_
            refine T.region ?_
            refine Run.go (Ev.assign rfl rfl) ?_
            refine Run.go (Ev.assign rfl rfl) ?_
            refine Run.nil ?_
            refine T.ret ?_
            cases h
            cases hz1
            exact Fin.many X rfl (.cons (.tmp .v) (.cons (.tmp .v) .nil)) rfl
          · replace h := ifF hb15 h
            refine T.skip ?_
            refine T.region ?_
            refine Run.go (Ev.move rfl rfl) ?_
            refine Run.go (Ev.int rfl rfl rfl rfl trivial) ?_
            refine Run.go (Ev.move rfl rfl) ?_
            refine Run.go (Ev.int rfl rfl rfl rfl trivial) ?_
            refine Run.go (Ev.conv X rfl rfl rfl rfl) ?_
            refine Run.go (Ev.int rfl rfl rfl rfl trivial) ?_
            obtain ⟨x16, e17, h⟩ := ltS h
            refine Run.go (Ev.avs (Ev.assign rfl rfl) e17) ?_
            refine Run.nil ?_
            cases h
            exact LoopT.ghost (Ghost.only [(1, 1)] [4, 25] rfl) hz1
      · replace h := ifF hb10 h
        refine Run.go (Ev.e_nextF hb10 rfl rfl rfl) ?_
        refine Run.go (Ev.extract rfl rfl rfl) ?_
        refine Run.nil ?_
        refine T.seq ?_
        refine T.condF rfl rfl ?_
        refine T.exit ?_
        refine T.seq ?_
        refine T.region ?_
        refine Run.go (Ev.move rfl rfl) ?_
        refine Run.go (Ev.assign rfl rfl) ?_
        refine Run.go (Ev.assign rfl rfl) ?_
        refine Run.nil ?_
        refine T.ret ?_
        cases h
        cases hz1
        exact Fin.many X rfl (.cons (.tmp .v) (.cons (.tmp .v) .nil)) rfl
theorem en16 : Enters Tryd.prog 16 := ⟨_, Tryd.func16, rfl, rfl⟩
set_option maxHeartbeats 1000000 in
theorem k_addr_Parse {p0 : ByteArray} {y : Int × Int} (h : m_addr_Parse p0 = some y) : Spec Tryd.prog 16 [(.v .str p0)] (.tup [.v (.int .u32) y.1, .v (.int .i64) y.2]) [] := by
  rw [m_addr_Parse] at h
  refine enterN [(.v .str p0)] 47 Tryd.func16 rfl rfl rfl ?_
  refine T.seq ?_
  refine T.region ?_
  refine Run.go (Ev.assign rfl rfl) ?_
  refine Run.go (Ev.assign rfl rfl) ?_
  refine Run.nil ?_
  refine T.seq ?_
  refine T.region ?_
  refine Run.go (Ev.assign rfl rfl) ?_
  refine Run.go (Ev.assign rfl rfl) ?_
  refine Run.nil ?_
  refine T.seq ?_
  refine T.region ?_
  refine Run.go (Ev.move rfl rfl) ?_
  refine Run.go (Ev.assign rfl rfl) ?_
  refine Run.go (Ev.assign rfl rfl) ?_
  refine Run.nil ?_
  refine T.seq ?_
  refine T.seq ?_
  refine T.region ?_
  refine Run.go (Ev.move rfl rfl) ?_
  refine Run.nil ?_
  refine T.block ?_
  refine T.loop (LoopT.ghost (Ghost.only [] [4, 5, 6, 7, 12] rfl) (LoopT.run (fun q : Int × Bool × ByteArray × Bool × Int => (⟨[(4, .v (.int .u32) q.1), (5, .v .bool q.2.1), (6, .v .str q.2.2.1), (7, .v .bool q.2.2.2.1), (12, .v (.int .i64) q.2.2.2.2)], [], 47⟩ : St)) (fun q z1 h hz1 => ?_) h))
  obtain ⟨v1, v2, v3, v4, v5⟩ := q
  dsimp only
  rw [m_addr_Parse_l1] at h
  refine T.seq ?_
  refine T.region ?_
  refine Run.go (Ev.int rfl rfl rfl rfl trivial) ?_
  refine Run.nil ?_
  refine T.seq ?_
  refine T.cond rfl (fun hb6 => ?_) (fun hb6 => ?_)
  · replace h := ifT hb6 h
    refine T.skip ?_
    refine T.seq ?_
    refine T.block ?_
    refine T.seq ?_
    refine T.region ?_
    refine Run.go (Ev.assign rfl rfl) ?_
    refine Run.nil ?_
    refine T.seq ?_
    refine T.seq ?_
    refine T.region ?_
    refine Run.go (Ev.move rfl rfl) ?_
    refine Run.go (Ev.not rfl rfl) ?_
    refine Run.nil ?_
    refine T.cond rfl (fun hb7 => ?_) (fun hb7 => ?_)
    · replace h := ifT hb7 h
      refine T.seq ?_
      refine T.region ?_
      refine Run.go (Ev.assign rfl rfl) ?_
      refine Run.go (Ev.assign rfl rfl) ?_
      refine Run.nil ?_
      refine T.ret ?_
      cases h
      cases hz1
      exact Fin.many X rfl (.cons (.tmp .v) (.cons (.tmp .v) .nil)) rfl
    · replace h := ifF hb7 h
      refine T.skip ?_
      refine T.seq ?_
      refine T.region ?_
      refine Run.go (Ev.move rfl rfl) ?_
      obtain ⟨x8, e9, h⟩ := bdS h
      refine Run.go (Ev.callC en26 (k_strings_Cut e9) rfl (.cons .v (.cons .v .nil)) rfl rfl) ?_
      refine Run.go (Ev.move rfl rfl) ?_
      refine Run.go (Ev.extract rfl rfl rfl) ?_
      refine Run.go (Ev.extract rfl rfl rfl) ?_
      refine Run.go (Ev.extract rfl rfl rfl) ?_
      refine Run.go (Ev.assign rfl rfl) ?_
      refine Run.go (Ev.assign rfl rfl) ?_
      refine Run.go (Ev.assign rfl rfl) ?_
      refine Run.nil ?_
      refine T.seq ?_
      refine T.region ?_
      refine Run.go (Ev.move rfl rfl) ?_
      obtain ⟨x10, e11, h⟩ := bdS h
      refine Run.go (Ev.callC en27 (k_addr_number e11) rfl (.cons .v .nil) rfl rfl) ?_
      refine Run.go (Ev.move rfl rfl) ?_
      refine Run.go (Ev.extract rfl rfl rfl) ?_
      refine Run.go (Ev.extract rfl rfl rfl) ?_
      refine Run.go (Ev.assign rfl rfl) ?_
      refine Run.go (Ev.assign rfl rfl) ?_
      refine Run.nil ?_
      refine T.seq ?_
      refine T.seq ?_
      refine T.region ?_
      refine Run.go (Ev.move rfl rfl) ?_
      refine Run.go (Ev.int rfl rfl rfl rfl trivial) ?_
      refine Run.nil ?_
      refine T.cond rfl (fun hb12 => ?_) (fun hb12 => ?_)
      · replace h := ifT hb12 h
        refine T.seq ?_
        refine T.region ?_
        refine Run.go (Ev.move rfl rfl) ?_
        refine Run.go (Ev.assign rfl rfl) ?_
        refine Run.go (Ev.assign rfl rfl) ?_
        refine Run.nil ?_
        refine T.ret ?_
        cases h
        cases hz1
        exact Fin.many X rfl (.cons (.tmp .v) (.cons (.tmp .v) .nil)) rfl
      · replace h := ifF hb12 h
        refine T.skip ?_
        obtain ⟨v13, hv, h⟩ := bdS h
        refine T.cut (fun _ : Unit => (⟨[(4, .v (.int .u32) v1), (5, .v .bool v13), (6, .v .str x8.2.1), (7, .v .bool x8.2.2), (9, .v (.int .i64) x10.1), (12, .v (.int .i64) v5)], [], 47⟩ : St)) (fun _ => True) ?_ (fun _ _ => ?_)
        · replace h := hv
          clear hv
          refine T.region ?_
          refine Run.go (Ev.move rfl rfl) ?_
          refine Run.go (Ev.move rfl rfl) ?_
          rcases boolCases v2 with hb14 | hb14
          · replace h := ifT hb14 h
            refine Run.offT rfl rfl rfl rfl hb14 ?_
            refine Run.offT rfl rfl rfl rfl hb14 ?_
            refine Run.go (Ev.pickT rfl hb14 rfl rfl) ?_
            refine Run.go (Ev.assign rfl rfl) ?_
            refine Run.nil ?_
            cases h
            exact ⟨(), trivial, Ghost.only [] [4, 5, 6, 7, 9, 12] rfl⟩
          · replace h := ifF hb14 h
            refine Run.on rfl rfl rfl hb14 (Ev.move rfl rfl) ?_
            refine Run.on rfl rfl rfl hb14 (Ev.int rfl rfl rfl rfl trivial) ?_
            refine Run.go (Ev.pickF rfl hb14 rfl rfl) ?_
            refine Run.go (Ev.assign rfl rfl) ?_
            refine Run.nil ?_
            cases h
            exact ⟨(), trivial, Ghost.only [] [4, 5, 6, 7, 9, 12] rfl⟩
        · refine T.region ?_
          refine Run.go (Ev.move rfl rfl) ?_
          obtain ⟨x15, e16, h⟩ := bdS h
          refine Run.go (Ev.e_sh e16 rfl rfl rfl) ?_
          refine Run.go (Ev.move rfl rfl) ?_
          refine Run.go (Ev.int rfl rfl rfl rfl trivial) ?_
          refine Run.go (Ev.conv X rfl rfl rfl rfl) ?_
          refine Run.go (Ev.int rfl rfl rfl rfl trivial) ?_
          obtain ⟨x17, e18, h⟩ := ltS h
          refine Run.go (Ev.avs (Ev.assign rfl rfl) e18) ?_
          refine Run.nil ?_
          refine T.region ?_
          refine Run.go (Ev.int rfl rfl rfl rfl trivial) ?_
          refine Run.go (Ev.move rfl rfl) ?_
          refine Run.nil ?_
          cases h
          exact LoopT.ghost (Ghost.only [] [4, 5, 6, 7, 12] rfl) hz1
  · replace h := ifF hb6 h
    refine T.exit ?_
    refine T.seq ?_
    refine T.block ?_
    refine T.seq ?_
    refine T.region ?_
    refine Run.go (Ev.move rfl rfl) ?_
    refine Run.go (Ev.assign rfl rfl) ?_
    refine Run.nil ?_
    refine T.cond rfl (fun hb19 => ?_) (fun hb19 => ?_)
    · replace h := ifT hb19 h
      refine T.seq ?_
      refine T.region ?_
      refine Run.go (Ev.assign rfl rfl) ?_
      refine Run.go (Ev.assign rfl rfl) ?_
      refine Run.nil ?_
      refine T.ret ?_
      cases h
      cases hz1
      exact Fin.many X rfl (.cons (.tmp .v) (.cons (.tmp .v) .nil)) rfl
    · replace h := ifF hb19 h
      refine T.seq ?_
      refine T.region ?_
      refine Run.go (Ev.move rfl rfl) ?_
      refine Run.go (Ev.assign rfl rfl) ?_
      refine Run.nil ?_
      refine T.cond rfl (fun hb20 => ?_) (fun hb20 => ?_)
      · replace h := ifT hb20 h
        refine T.seq ?_
        refine T.region ?_
        refine Run.go (Ev.assign rfl rfl) ?_
        refine Run.go (Ev.assign rfl rfl) ?_
        refine Run.nil ?_
        refine T.ret ?_
        cases h
        cases hz1
        exact Fin.many X rfl (.cons (.tmp .v) (.cons (.tmp .v) .nil)) rfl
      · replace h := ifF hb20 h
        refine T.skip ?_
        refine T.seq ?_
        refine T.region ?_
        refine Run.go (Ev.move rfl rfl) ?_
        refine Run.go (Ev.assign rfl rfl) ?_
        refine Run.go (Ev.assign rfl rfl) ?_
        refine Run.nil ?_
        refine T.ret ?_
        cases h
        cases hz1
        exact Fin.many X rfl (.cons (.tmp .v) (.cons (.tmp .v) .nil)) rfl
theorem en43 : Enters Tryd.prog 43 := ⟨_, Tryd.func43, rfl, rfl⟩
theorem k_addr_Mask {p0 : Int} {y : Int} (h : m_addr_Mask p0 = some y) : Spec Tryd.prog 43 [(.v (.int .i64) p0)] (.v (.int .u32) y) [] := by
  rw [m_addr_Mask] at h
  refine enterN [(.v (.int .i64) p0)] 10 Tryd.func43 rfl rfl rfl ?_
  refine T.seq ?_
  refine T.region ?_
  refine Run.go (Ev.assign rfl rfl) ?_
  refine Run.nil ?_
  refine T.seq ?_
  refine T.region ?_
  refine Run.go (Ev.move rfl rfl) ?_
  refine Run.go (Ev.max rfl rfl rfl) ?_
  refine Run.go (Ev.min rfl rfl rfl) ?_
  refine Run.go (Ev.assign rfl rfl) ?_
  refine Run.nil ?_
  refine T.seq ?_
  refine T.region ?_
  refine Run.go (Ev.move rfl rfl) ?_
  refine Run.go (Ev.int rfl rfl rfl rfl trivial) ?_
  obtain ⟨x1, e2, h⟩ := bdS h
  refine Run.go (Ev.e_sh e2 rfl rfl rfl) ?_
  refine Run.go (Ev.conv X rfl rfl rfl rfl) ?_
  refine Run.go (Ev.assign rfl rfl) ?_
  refine Run.nil ?_
  refine T.ret ?_
  cases h
  exact Fin.one rfl .v
theorem en28 : Enters Tryd.prog 28 := ⟨_, Tryd.func28, rfl, rfl⟩
theorem k_addr_May {p0 : D_api_Prefix} {y : Bool} (h : m_addr_May p0 = some y) : Spec Tryd.prog 28 [(.v Y_api_Prefix p0)] (.v .bool y) [] := by
  rw [m_addr_May] at h
  refine enterN [(.v Y_api_Prefix p0)] 20 Tryd.func28 rfl rfl rfl ?_
  refine T.seq ?_
  refine T.region ?_
  refine Run.go (Ev.box 1 rfl rfl rfl rfl) ?_
  refine Run.go (Ev.assign rfl rfl) ?_
  refine Run.nil ?_
  refine T.seq ?_
  refine T.drawM [] [0, 1, 3, 7, 15, 31, 63, 127, 255, 511, 1023, 511, 2559, 6655, 16383, 32767, 65535, 131071] (by kernel_rfl) (by kernel_rfl) ?_
  refine RunD.a rfl rfl (Ev.fieldBox X rfl rfl rfl rfl rfl) ?_
  refine RunD.a rfl rfl (Ev.loadCell X rfl rfl rfl rfl rfl rfl) ?_
  refine RunD.w (fun _ => Ev.int rfl rfl rfl rfl trivial) ?_
  refine RunD.w (fun _ => Ev.move rfl rfl) ?_
  rcases boolCases (decide (0 ≤ p0.2)) with hb1 | hb1
  · replace h := ifT hb1 h
    refine RunD.on rfl rfl rfl hb1 rfl (fun ô hô => by obtain rfl := hô.resolve_left (by decide); exact Ev.fieldBox X rfl rfl rfl rfl rfl) ?_
    refine RunD.on rfl rfl rfl hb1 rfl (fun ô hô => by obtain rfl := hô.resolve_left (by decide); exact Ev.loadCell X rfl rfl rfl rfl rfl rfl) ?_
    refine RunD.on rfl rfl rfl hb1 rfl (fun _ _ => Ev.int rfl rfl rfl rfl trivial) ?_
    refine RunD.w (fun _ => Ev.pickT rfl hb1 rfl rfl) ?_
    refine RunD.w (fun _ => Ev.move rfl rfl) ?_
    rcases boolCases (decide (p0.2 ≤ 32)) with hb2 | hb2
    · replace h := ifT hb2 h
      refine RunD.on rfl rfl rfl hb2 rfl (fun ô hô => by obtain rfl := hô.resolve_left (by decide); exact Ev.fieldBox X rfl rfl rfl rfl rfl) ?_
      refine RunD.on rfl rfl rfl hb2 rfl (fun ô hô => by obtain rfl := hô.resolve_left (by decide); exact Ev.loadCell X rfl rfl rfl rfl rfl rfl) ?_
      refine RunD.on rfl rfl rfl hb2 rfl (fun ô hô => by obtain rfl := hô.resolve_left (by decide); exact Ev.fieldBox X rfl rfl rfl rfl rfl) ?_
      refine RunD.on rfl rfl rfl hb2 rfl (fun ô hô => by obtain rfl := hô.resolve_left (by decide); exact Ev.loadCell X rfl rfl rfl rfl rfl rfl) ?_
      obtain ⟨x3, e4, h⟩ := bdS h
      refine RunD.on rfl rfl rfl hb2 rfl (fun ô hô => by obtain rfl := hô.resolve_left (by decide); exact Ev.callC en43 (k_addr_Mask e4) rfl (.cons .v .nil) rfl rfl) ?_
      refine RunD.on rfl rfl rfl hb2 rfl (fun _ _ => Ev.int rfl rfl rfl rfl trivial) ?_
      refine RunD.on rfl rfl rfl hb2 rfl (fun _ _ => Ev.int rfl rfl rfl rfl trivial) ?_
      refine RunD.w (fun _ => Ev.pickT rfl hb2 rfl rfl) ?_
      obtain ⟨x5, e6, h⟩ := ltS h
      refine RunD.w (fun _ => Ev.avs (Ev.assign rfl rfl) e6) ?_
      refine RunD.nil ?_
      refine T.ret ?_
      cases h
      exact Fin.one rfl .v
    · replace h := ifF hb2 h
      refine RunD.offT rfl rfl rfl rfl hb2 ?_
      refine RunD.offT rfl rfl rfl rfl hb2 ?_
      refine RunD.offT rfl rfl rfl rfl hb2 ?_
      refine RunD.offT rfl rfl rfl rfl hb2 ?_
      refine RunD.offT rfl rfl rfl rfl hb2 ?_
      refine RunD.offT rfl rfl rfl rfl hb2 ?_
      refine RunD.offT rfl rfl rfl rfl hb2 ?_
      refine RunD.w (fun _ => Ev.pickF rfl hb2 rfl rfl) ?_
      refine RunD.w (fun _ => Ev.assign rfl rfl) ?_
      refine RunD.nil ?_
      refine T.ret ?_
      cases h
      exact Fin.one rfl .v
  · replace h := ifF hb1 h
    refine RunD.offT rfl rfl rfl rfl hb1 ?_
    refine RunD.offT rfl rfl rfl rfl hb1 ?_
    refine RunD.offT rfl rfl rfl rfl hb1 ?_
    refine RunD.w (fun _ => Ev.pickF rfl hb1 rfl rfl) ?_
    refine RunD.w (fun _ => Ev.move rfl rfl) ?_
    refine RunD.offT rfl rfl rfl rfl rfl ?_
    refine RunD.offT rfl rfl rfl rfl rfl ?_
    refine RunD.offT rfl rfl rfl rfl rfl ?_
    refine RunD.offT rfl rfl rfl rfl rfl ?_
    refine RunD.offT rfl rfl rfl rfl rfl ?_
    refine RunD.offT rfl rfl rfl rfl rfl ?_
    refine RunD.offT rfl rfl rfl rfl rfl ?_
    refine RunD.w (fun _ => Ev.pickF rfl rfl rfl rfl) ?_
    refine RunD.w (fun _ => Ev.assign rfl rfl) ?_
    refine RunD.nil ?_
    refine T.ret ?_
    cases h
    exact Fin.one rfl .v
theorem en15 : Enters Tryd.prog 15 := ⟨_, Tryd.func15, rfl, rfl⟩
set_option maxHeartbeats 1000000 in
theorem k_addr_Prefix {p0 : ByteArray} {y : D_api_Prefix × Int} (h : m_addr_Prefix p0 = some y) : Spec Tryd.prog 15 [(.v .str p0)] (.tup [.v Y_api_Prefix y.1, .v (.int .i64) y.2]) [] := by
  rw [m_addr_Prefix] at h
  refine enterN [(.v .str p0)] 47 Tryd.func15 rfl rfl rfl ?_
  refine T.seq ?_
  refine T.region ?_
  refine Run.go (Ev.allocN X 1 rfl rfl rfl) ?_
  refine Run.go (Ev.assign rfl rfl) ?_
  refine Run.nil ?_
  refine T.seq ?_
  refine T.region ?_
  refine Run.go (Ev.move rfl rfl) ?_
  obtain ⟨x1, e2, h⟩ := bdS h
  refine Run.go (Ev.callC en26 (k_strings_Cut e2) rfl (.cons .v (.cons .v .nil)) rfl rfl) ?_
  refine Run.go (Ev.move rfl rfl) ?_
  refine Run.go (Ev.extract rfl rfl rfl) ?_
  refine Run.go (Ev.extract rfl rfl rfl) ?_
  refine Run.go (Ev.extract rfl rfl rfl) ?_
  refine Run.go (Ev.assign rfl rfl) ?_
  refine Run.go (Ev.assign rfl rfl) ?_
  refine Run.go (Ev.assign rfl rfl) ?_
  refine Run.nil ?_
  refine T.seq ?_
  refine T.region ?_
  refine Run.go (Ev.move rfl rfl) ?_
  obtain ⟨x3, e4, h⟩ := bdS h
  refine Run.go (Ev.callC en27 (k_addr_number e4) rfl (.cons .v .nil) rfl rfl) ?_
  refine Run.go (Ev.move rfl rfl) ?_
  refine Run.go (Ev.extract rfl rfl rfl) ?_
  refine Run.go (Ev.extract rfl rfl rfl) ?_
  refine Run.go (Ev.assign rfl rfl) ?_
  refine Run.go (Ev.assign rfl rfl) ?_
  refine Run.nil ?_
  refine T.seq ?_
  obtain ⟨v5, hv, h⟩ := bdS h
  refine T.cut (fun _ : Unit => (⟨[(2, .box 1 0), (4, .v .str x1.1), (7, .v (.int .i64) x3.1), (27, .v .bool v5)], [(1, .box [.v (.int .u32) (0 : Int), .v (.int .i64) (0 : Int)])], 47⟩ : St)) (fun _ => True) ?_ (fun _ _ => ?_)
  · replace h := hv
    clear hv
    refine T.region ?_
    refine Run.go (Ev.move rfl rfl) ?_
    refine Run.go (Ev.not rfl rfl) ?_
    refine Run.go (Ev.move rfl rfl) ?_
    rcases boolCases (!x1.2.2) with hb6 | hb6
    · replace h := ifT hb6 h
      refine Run.offT rfl rfl rfl rfl hb6 ?_
      refine Run.offT rfl rfl rfl rfl hb6 ?_
      refine Run.go (Ev.pickT rfl hb6 rfl rfl) ?_
      refine Run.nil ?_
      cases h
      exact ⟨(), trivial, Ghost.only [(1, 1)] [2, 4, 7, 27] rfl⟩
    · replace h := ifF hb6 h
      refine Run.on rfl rfl rfl hb6 (Ev.move rfl rfl) ?_
      refine Run.on rfl rfl rfl hb6 (Ev.int rfl rfl rfl rfl trivial) ?_
      refine Run.go (Ev.pickF rfl hb6 rfl rfl) ?_
      refine Run.nil ?_
      cases h
      exact ⟨(), trivial, Ghost.only [(1, 1)] [2, 4, 7, 27] rfl⟩
  · refine T.cond rfl (fun hb7 => ?_) (fun hb7 => ?_)
    · replace h := ifT hb7 h
      refine T.seq ?_
      refine T.region ?_
      refine Run.go (Ev.structC pl31 zs31 rfl rfl rfl) ?_
      refine Run.do_ (Ev.storeC sz31 rfl rfl rfl rfl rfl rfl) ?_
      refine Run.go (Ev.assign rfl rfl) ?_
      refine Run.nil ?_
      refine T.ret ?_
      cases h
      exact Fin.many X rfl (.cons (.cell rfl rfl rfl rfl) (.cons (.tmp .v) .nil)) rfl
    · replace h := ifF hb7 h
      refine T.skip ?_
      refine T.seq ?_
      refine T.region ?_
      refine Run.go (Ev.move rfl rfl) ?_
      obtain ⟨x8, e9, h⟩ := bdS h
      refine Run.go (Ev.callC en16 (k_addr_Parse e9) rfl (.cons .v .nil) rfl rfl) ?_
      refine Run.go (Ev.move rfl rfl) ?_
      refine Run.go (Ev.extract rfl rfl rfl) ?_
      refine Run.go (Ev.extract rfl rfl rfl) ?_
      refine Run.go (Ev.assign rfl rfl) ?_
      refine Run.go (Ev.assign rfl rfl) ?_
      refine Run.nil ?_
      refine T.seq ?_
      refine T.seq ?_
      refine T.region ?_
      refine Run.go (Ev.move rfl rfl) ?_
      refine Run.go (Ev.int rfl rfl rfl rfl trivial) ?_
      refine Run.nil ?_
      refine T.cond rfl (fun hb10 => ?_) (fun hb10 => ?_)
      · replace h := ifT hb10 h
        refine T.seq ?_
        refine T.region ?_
        refine Run.go (Ev.structC pl31 zs31 rfl rfl rfl) ?_
        refine Run.go (Ev.move rfl rfl) ?_
        refine Run.do_ (Ev.storeC sz31 rfl rfl rfl rfl rfl rfl) ?_
        refine Run.go (Ev.assign rfl rfl) ?_
        refine Run.nil ?_
        refine T.ret ?_
        cases h
        exact Fin.many X rfl (.cons (.cell rfl rfl rfl rfl) (.cons (.tmp .v) .nil)) rfl
      · replace h := ifF hb10 h
        refine T.skip ?_
        refine T.seq ?_
        refine T.region ?_
        refine Run.go (Ev.move rfl rfl) ?_
        refine Run.go (Ev.move rfl rfl) ?_
        refine Run.go (Ev.struct X pl31 rfl rfl rfl rfl rfl rfl rfl rfl) ?_
        refine Run.go (Ev.allocN X 3 rfl rfl rfl) ?_
        refine Run.do_ (Ev.storeBox X rfl rfl rfl rfl rfl rfl rfl) ?_
        refine Run.nil ?_
        refine T.seq ?_
        refine T.seq ?_
        refine T.region ?_
        refine Run.go (Ev.loadBox X rfl rfl rfl rfl rfl) ?_
        obtain ⟨x11, e12, h⟩ := bdS h
        refine Run.go (Ev.callC en28 (k_addr_May e12) rfl (.cons .v .nil) rfl rfl) ?_
        refine Run.go (Ev.not rfl rfl) ?_
        refine Run.nil ?_
        refine T.cond rfl (fun hb13 => ?_) (fun hb13 => ?_)
        · replace h := ifT hb13 h
          refine T.seq ?_
          refine T.region ?_
          refine Run.go (Ev.structC pl31 zs31 rfl rfl rfl) ?_
          refine Run.do_ (Ev.storeC sz31 rfl rfl rfl rfl rfl rfl) ?_
          refine Run.go (Ev.assign rfl rfl) ?_
          refine Run.nil ?_
          refine T.ret ?_
          cases h
          exact Fin.many X rfl (.cons (.cell rfl rfl rfl rfl) (.cons (.tmp .v) .nil)) rfl
        · replace h := ifF hb13 h
          refine T.skip ?_
          refine T.seq ?_
          refine T.region ?_
          refine Run.go (Ev.loadBox X rfl rfl rfl rfl rfl) ?_
          refine Run.go (Ev.move rfl rfl) ?_
          refine Run.do_ (Ev.storeBox X rfl rfl rfl rfl rfl rfl rfl) ?_
          refine Run.go (Ev.assign rfl rfl) ?_
          refine Run.nil ?_
          refine T.ret ?_
          cases h
          exact Fin.many X rfl (.cons (.cell rfl rfl rfl rfl) (.cons (.tmp .v) .nil)) rfl
theorem k_askread_reader_query_1_M {p0 : ByteArray} {o1_0 : Int} {o1_1 : ByteArray} {o1_2 : ByteArray} {o1_3 : ByteArray} {o1_4 : Int} {o1_5 : Int} {o1_6 : Int} {o1_7 : Int} {y : Int × Int × Int × Int} (h : m_askread_reader_query_1_M p0 o1_0 o1_1 o1_2 o1_3 o1_4 o1_5 o1_6 o1_7 = some y) : SpecM Tryd.prog 14 [(.v .str p0), (.box 1 0)] [(1, .box [.v (.int .i64) o1_0, .v .str o1_1, .v .str o1_2, .v .str o1_3, .v (.int .u32) o1_4, .v (.int .u32) o1_5, .v (.int .i64) o1_6, .v (.int .i64) o1_7])] (.v (.int .i64) y.1) [(1, .box [.v (.int .i64) o1_0, .v .str o1_1, .v .str o1_2, .v .str o1_3, .v (.int .u32) y.2.1, .v (.int .u32) y.2.2.1, .v (.int .i64) y.2.2.2, .v (.int .i64) o1_7])] := by
  rw [m_askread_reader_query_1_M] at h
  refine SpecM.enter 100000 [(.v .str p0), (.box 1 0)] 21 Tryd.func14 rfl rfl rfl rfl (fun L => ?_)
  refine T.seq ?_
  refine T.region ?_
  refine Run.go (Ev.assign rfl rfl) ?_
  refine Run.nil ?_
  refine T.seq ?_
  refine T.seq ?_
  refine T.region ?_
  refine Run.go (Ev.fieldBox X rfl rfl rfl rfl rfl) ?_
  refine Run.go (Ev.loadCell X rfl rfl rfl rfl rfl rfl) ?_
  refine Run.go (Ev.int rfl rfl rfl rfl trivial) ?_
  refine Run.nil ?_
  refine T.cond rfl (fun hb1 => ?_) (fun hb1 => ?_)
  · replace h := ifT hb1 h
    refine T.seq ?_
    refine T.region ?_
    refine Run.go (Ev.move rfl rfl) ?_
    obtain ⟨x2, e3, h⟩ := bdS h
    refine Run.go (Ev.callC en15 (k_addr_Prefix e3) rfl (.cons .v .nil) rfl rfl) ?_
    refine Run.go (Ev.move rfl rfl) ?_
    refine Run.go (Ev.extract rfl rfl rfl) ?_
    refine Run.go (Ev.extract rfl rfl rfl) ?_
    refine Run.go (Ev.fieldBox X rfl rfl rfl rfl rfl) ?_
    refine Run.do_ (Ev.storeBox X rfl rfl rfl rfl rfl rfl rfl) ?_
    refine Run.go (Ev.assign rfl rfl) ?_
    refine Run.nil ?_
    refine T.seq ?_
    refine T.region ?_
    refine Run.go (Ev.move rfl rfl) ?_
    refine Run.go (Ev.assign rfl rfl) ?_
    refine Run.nil ?_
    refine T.ret ?_
    cases h
    exact FinM.of 100000 [(1, 1)] (inlR.one' (X := X) rfl (.tmp rfl)) rfl rfl rfl rfl ⟨(.inl ⟨rfl, _, rfl, .box, fun _ => rfl⟩), trivial⟩
  · replace h := ifF hb1 h
    refine T.skip ?_
    refine T.seq ?_
    refine T.region ?_
    refine Run.go (Ev.move rfl rfl) ?_
    obtain ⟨x4, e5, h⟩ := bdS h
    refine Run.go (Ev.callC en16 (k_addr_Parse e5) rfl (.cons .v .nil) rfl rfl) ?_
    refine Run.go (Ev.move rfl rfl) ?_
    refine Run.go (Ev.extract rfl rfl rfl) ?_
    refine Run.go (Ev.extract rfl rfl rfl) ?_
    refine Run.go (Ev.fieldBox X rfl rfl rfl rfl rfl) ?_
    refine Run.do_ (Ev.storeBox X rfl rfl rfl rfl rfl rfl rfl) ?_
    refine Run.go (Ev.assign rfl rfl) ?_
    refine Run.nil ?_
    refine T.seq ?_
    refine T.region ?_
    refine Run.go (Ev.move rfl rfl) ?_
    refine Run.go (Ev.assign rfl rfl) ?_
    refine Run.nil ?_
    refine T.ret ?_
    cases h
    exact FinM.of 100000 [(1, 1)] (inlR.one' (X := X) rfl (.tmp rfl)) rfl rfl rfl rfl ⟨(.inl ⟨rfl, _, rfl, .box, fun _ => rfl⟩), trivial⟩
end Go.Proofs.YtboghejfmmigkaaDoor.AE
