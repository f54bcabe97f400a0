/- The code comes to the printed functions (printed by a program of ours). -/
import Derived.Test.YtkjkipkfndckfaaGreatDoorQRA2
import Derived.Lib.AppendStr
import Derived.Lib.UnsafeStr
import Derived.Laws.Externs
import Derived.Lib.Bytealg
import Derived.Test.YtkjkipkfndckfaaGreatDoorProg
import Derived.Shelf.LaysM
import Derived.Shelf.Strconv.Itoa3
import Derived.Shelf.Strings.OnBuilder
import Derived.Lib.SmallJoins
import Derived.Lib.AppendIntMem
/- The text builder: appends of texts to bytes, unsafe ways from bytes to a text, a pointer turned and turned back. -/
namespace Go.Proofs.YtkjkipkfndckfaaGreatDoor.AE
open Go Go.RowKit Go.Proofs.YtkjkipkfndckfaaGreatDoor.AP
set_option linter.unusedSimpArgs false
set_option linter.unusedVariables false

theorem flat_str {w : World} {M : Nat → Prop} (b : ByteArray) : Flat w M (.int .u8) (by_ b) (Lib.strCells b) := by
  unfold by_ Lib.strCells
  generalize b.data.toList = l
  induction l with
  | nil => rfl
  | cons x l ih => exact ⟨[.int .u8 (x.toNat : Int)], _, rfl, rfl, ih⟩
theorem by_length (b : ByteArray) : (by_ b).length = b.size := by
  unfold by_
  rw [List.length_map, Array.length_toList]
  rfl
section
variable {P : Program} {s : List (Nat × AV)} {o : Objs} {n d : Nat} {ty : TypeId} {pos : String} {after : Array Edge} {gd : Option (Nat × Bool)} {t t' : TypeId} {x y : Operand}
theorem run_app2 (ρ : Operand → Value) (x y : Operand) (t t' : TypeId) {u : Value} {w w' : World} (h : (Builtin.append_ #[t, t'] ty #[ρ x, ρ y]).run P w = .ok u w') :
    (execOp ρ ⟨some d, .call ⟨.builtin .append, #[x, y], #[t, t']⟩, ty, pos, after, gd⟩).run P w = .ok (.value u) w' := by
  simp only [execOp, resolve]
  simp [invoke, builtin, h]
theorem append_coreS (z : Bool) (X : Cx P) (id' : Nat) {id E : Nat} {l : List Int} {b : ByteArray} {N : Nat → Prop} {w0 : Base} {loc : Nat → Nat × Nat} {a : Act} {w : World} {F : Nat → AV} (hs : SatF N w0 o n F loc a w) (hX0 : AV.rel w (Muts N loc o) loc o (if z then .owz id else .own id) (a.eval x)) (hY : a.eval y = .string b) (ho : lookO o id = some (.arr E (.int .u8) l)) (ht : X.ty t = some (.sl (.int .u8))) (ht' : X.ty t' = some .str) (he : X.el t = some (E, 1))
    (hid' : lookO o id' = none) (hd : Nat.blt d n = true) (hfit : l.length + b.size ≤ 140737488355328) (Q : Exit → Act → World → Prop) (K : Act → World → Prop)
    (hK : ∀ loc' a' w', SatF N w0 ((id', .arr E (.int .u8) (l ++ by_ b)) :: (id, .dead) :: o) n (upd F (some d) (if z then .owz id' else .own id')) loc' a' w' → K a' w') :
    Oper.wp P ⟨some d, .call ⟨.builtin .append, #[x, y], #[t, t']⟩, ty, pos, after, gd⟩ a w K Q := by
  obtain ⟨A0, hX, hA0, hAz⟩ : ∃ A0, a.eval x = .slice A0 l.length (loc id).2 ∧ (0 < (loc id).2 → A0 = some ⟨(loc id).1, 0, none⟩) ∧ (z = true → (loc id).2 = 0 → A0 = none) := by
    cases z with
    | false => obtain ⟨A0, h1, h2⟩ := own_at ho hX0; exact ⟨A0, h1, h2, fun h => by cases h⟩
    | true =>
      have hX0 : AV.rel w (Muts N loc o) loc o (.owz id) (a.eval x) := hX0
      rw [AV.rel] at hX0
      obtain ⟨ob, h1, h2⟩ := hX0
      rw [ho] at h1; cases h1
      obtain ⟨A0, e1, e2, e3⟩ := h2 _ _ _ rfl
      exact ⟨A0, e1, e2, fun _ => e3⟩
  have hob := hs.rep.obs id _ ho
  obtain ⟨hu, hbi⟩ := X.elok t E 1 he
  obtain ⟨e, hu', hi⟩ := (X.ok _ _ ht).desc
  rw [hu] at hu'
  cases hu'
  have hut : P.underlying t' = some .string := (X.ok _ _ ht').desc
  obtain ⟨f, z, hf, hfs, hz, hzc, _⟩ := hi.info
  rw [hf] at hbi
  have hfb : f.bytes = 1 := Option.some.inj hbi
  have hfs : f.size = 1 := hfs
  have hz0 : z = .int .u8 0 := by
    obtain ⟨z', h1, h2, h3⟩ := hi.run_zero w
    have : z' = z := by
      simp [zeroValue, typeInfo, hf, hz] at h1
      exact h1.symm
    rw [← this, h3]; rfl
  subst hz0
  have hle : l.length ≤ (loc id).2 := hob.1
  have hmx : (loc id).2 ≤ maxL := hob.2.1
  have hbl := by_length b
  have rel_new : ∀ (g c : Nat) (w' : World) (A2 : Option Addr), (0 < c → A2 = some ⟨g, 0, none⟩) → (z = true → c = 0 → A2 = none) → AV.rel w' (Muts N (put2 loc id' g c) ((id', .arr E (.int .u8) (l ++ by_ b)) :: (id, .dead) :: o)) (put2 loc id' g c) ((id', .arr E (.int .u8) (l ++ by_ b)) :: (id, .dead) :: o) (if z then .owz id' else .own id') (.slice A2 (l.length + b.size) c) := by
    intro g c w' A2 h2 h3
    have e9 : l.length + b.size = (l ++ by_ b).length := by rw [List.length_append, hbl]
    cases z with
    | false =>
      show AV.rel _ _ _ _ (.own id') _
      rw [AV.rel]
      refine ⟨_, by rw [lookO_cons, if_pos rfl], fun E' t' l' e => ?_⟩
      cases e
      rw [put2_same]
      exact ⟨A2, congrArg (fun z => Value.slice A2 z c) e9, h2⟩
    | true =>
      show AV.rel _ _ _ _ (.owz id') _
      rw [AV.rel]
      refine ⟨_, by rw [lookO_cons, if_pos rfl], fun E' t' l' e => ?_⟩
      cases e
      rw [put2_same]
      exact ⟨A2, congrArg (fun z => Value.slice A2 z c) e9, h2, h3 rfl⟩
  have fin : ∀ (base g c : Nat) (w' : World) (xs : List Value), Flat w (Muts N loc o) (.int .u8) l xs → w'.ownsRow base E 1 (.slice (some ⟨g, 0, none⟩) (l.length + b.size) c) (l.length + b.size) (xs ++ Lib.strCells b) → (0 < c → w.heap.size ≤ g ∨ (0 < (loc id).2 ∧ g = (loc id).1)) → (z = true → 0 < c) →
      w'.os = w.os → w'.tape = w.tape → w'.output = w.output → w.heap.size ≤ w'.heap.size → (∀ k, k < w.heap.size → (0 < (loc id).2 → k ≠ (loc id).1) → w'.heap[k]? = w.heap[k]?) →
      (Builtin.append_ #[t, t'] ty #[a.eval x, a.eval y]).run P w = .ok (.slice (some ⟨g, 0, none⟩) (l.length + b.size) c) w' →
      Oper.wp P ⟨some d, .call ⟨.builtin .append, #[x, y], #[t, t']⟩, ty, pos, after, gd⟩ a w K Q := by
    intro base g c w' xs hxs hown hg hz9 h1 h2 h3 h4 h5 hrun
    unfold Oper.wp
    rw [run_app2 _ _ _ _ _ hrun]
    obtain ⟨hlen, hown⟩ := hown
    rcases hown with ⟨h, _⟩ | ⟨g', cap, cur, hv, _, hcur, hle, hmax, hcs, htk⟩
    · cases h
    injection hv with e1 _ e3
    subst e3
    obtain rfl : g = g' := congrArg Addr.block (Option.some.inj e1)
    rw [maxL_eq] at hmax
    have hlen2 : (l ++ by_ b).length = l.length + b.size := by rw [List.length_append, hbl]
    have := hs.move (w' := w') (id' := id') (g := g) (c := c) (ob' := .arr E (.int .u8) (l ++ by_ b)) ho rfl hid' hg h1 h2 h3 h4 h5 (fun M' loc' o' hk ht => flat_arr (t := .int .u8) (Nat.le_trans (Nat.le_of_eq hlen2) hle) hmax (fun _ => ⟨hcur, hcs, (hxs.append (flat_str b)).keeps hk, by have h9 := htk; rw [← hlen2] at h9; exact h9⟩))
    exact hK _ _ _ (this.put hd (rel_new g c w' _ (fun _ => rfl) (fun hz hc => absurd hc (by have := hz9 hz; omega))))
  have hmaxl : l.length + b.size ≤ maxLen := by rw [maxL_eq]; simp only [maxL]; omega
  by_cases hc : 0 < (loc id).2
  · have hA0 := hA0 hc
    subst hA0
    obtain ⟨cur, vs, hcur, hcs, hvs, htk⟩ := arr_flat hob hc
    have hown : w.ownsRow 0 E 1 (a.eval x) l.length vs := ⟨hvs.len, .inr ⟨_, _, cur, hX, Nat.zero_le _, hcur, hob.1, by rw [maxL_eq]; exact hob.2.1, hcs, htk⟩⟩
    obtain ⟨v', w', hrun, hown', hgrow, _⟩ := Lib.run_append_own_string (P := P) w 0 t t' ty E f hu hut hf hz hfs hfb (a.eval x) l.length vs hown b hmaxl hfit (Nat.zero_le _)
    have hat : (∃ c, 0 < c ∧ v' = .slice (some ⟨(loc id).1, 0, none⟩) (l.length + b.size) c) ∨ (∃ c, 0 < c ∧ v' = .slice (some ⟨w.heap.size, 0, none⟩) (l.length + b.size) c) := by
      by_cases hroom : l.length + b.size ≤ (loc id).2
      · have hcs1 : cur.size = (loc id).2 * 1 := hcs
        have := Lib.run_append_room_string (P := P) w t t' ty E f hu hut hf hfs (loc id).1 l.length (loc id).2 cur hcur b hroom (by omega)
        rw [hX] at hrun
        have this := hrun.symm.trans this
        cases this
        exact .inl ⟨_, hc, rfl⟩
      · have holds : ∀ j u, vs[j]? = some u → w.cell? ((⟨(loc id).1, 0, none⟩ : Addr).add j) = some u := hown.cells (g := (loc id).1) (by rw [hX]; rfl)
        have := Lib.run_append_grow_string (P := P) w t t' ty E f (.int .u8 0) hu hut hf hz ⟨(loc id).1, 0, none⟩ l.length (loc id).2 vs (by rw [hfs]; exact hvs.len) holds b (by omega) (by omega) (by rw [hfb]; exact growslice_fits (by omega) (by omega))
        rw [hX] at hrun
        have this := hrun.symm.trans this
        cases this
        exact .inr ⟨_, by have := grownCap_ge w (l.length + b.size) (loc id).2 E; omega, rfl⟩
    have hblk : ∀ k, k < w.heap.size → (0 < (loc id).2 → k ≠ (loc id).1) → w'.heap[k]? = w.heap[k]? := fun k hk hne => hgrow.block k hk (fun e => by
      rw [hX] at e
      simp only [Value.ownBlock, Option.some.injEq] at e
      exact hne hc e)
    rcases hat with ⟨c, hcp, rfl⟩ | ⟨c, hcp, rfl⟩
    · exact fin 0 _ c w' vs hvs hown' (fun _ => .inr ⟨hc, rfl⟩) (fun _ => hcp) hgrow.os hgrow.tape hgrow.output hgrow.size hblk (by rw [hY]; exact hrun)
    · exact fin 0 _ c w' vs hvs hown' (fun _ => .inl (Nat.le_refl _)) (fun _ => hcp) hgrow.os hgrow.tape hgrow.output hgrow.size hblk (by rw [hY]; exact hrun)
  · have hl0 : l = [] := List.eq_nil_of_length_eq_zero (by omega)
    subst hl0
    have hc0 : (loc id).2 = 0 := by omega
    rw [hc0] at hX
    have hX : a.eval x = .slice A0 0 0 := hX
    by_cases hb : b.size = 0
    · have hb0 : by_ b = [] := List.eq_nil_of_length_eq_zero (by omega)
      have hrun : (Builtin.append_ #[t, t'] ty #[a.eval x, a.eval y]).run P w = .ok (.slice A0 0 0) w := by
        rw [hX, hY]
        have h2 := Lib.run_firstCells_string (P := P) w 1 b
        rw [hb] at h2
        have h3 : Lib.strCells b = [] := List.eq_nil_of_length_eq_zero (by rw [Lib.strCells_length]; exact hb)
        rw [h3] at h2
        cases A0 <;> simp [Builtin.append_, run_underlying hu, run_underlying hut, sizeOf, typeInfo, hf, hfs, Builtin.lenOf, hb, h2, storeCells]
      unfold Oper.wp
      rw [run_app2 _ _ _ _ _ hrun]
      have := hs.move (w' := w) (id' := id') (g := (loc id).1) (c := 0) (ob' := .arr E (.int .u8) ([] ++ by_ b)) ho rfl hid' (fun h => absurd h (Nat.lt_irrefl _)) rfl rfl rfl (Nat.le_refl _) (fun _ _ _ => rfl) (fun M' loc' o' hk ht => by
        rw [hb0]
        exact flat_arr (t := .int .u8) (vs := []) (cur := #[]) (Nat.le_refl _) (Nat.zero_le _) (fun h => absurd h (Nat.lt_irrefl _)))
      have hr := rel_new (loc id).1 0 w A0 (fun h => absurd h (Nat.lt_irrefl _)) (fun hz _ => hAz hz hc0)
      rw [hb] at hr
      exact hK _ _ _ (this.put hd hr)
    · cases A0 with
      | none =>
        have hown : w.ownsRow 0 E 1 (a.eval x) 0 [] := by rw [hX]; exact World.ownsRow_nil w 0 E 1
        obtain ⟨v', w', hrun, hown', hgrow, _⟩ := Lib.run_append_own_string (P := P) w 0 t t' ty E f hu hut hf hz hfs hfb (a.eval x) 0 [] hown b (by simpa using hmaxl) (by simpa using hfit) (Nat.zero_le _)
        have := run_append_nil_string (P := P) w t t' ty E f (.int .u8 0) hu hut hf hz b (by omega) (by simp at hfit; omega) (by rw [hfb]; simp at hfit; omega)
        rw [hX] at hrun
        have this := hrun.symm.trans this
        obtain ⟨c, hcp, hv⟩ : ∃ c, 0 < c ∧ v' = .slice (some ⟨w.heap.size, 0, none⟩) b.size c := by cases this; exact ⟨_, by have := grownCap_ge w b.size 0 E; omega, rfl⟩
        subst hv
        exact fin 0 w.heap.size c w' [] rfl (by simpa using hown') (fun _ => .inl (Nat.le_refl _)) (fun _ => hcp) hgrow.os hgrow.tape hgrow.output hgrow.size (fun k hk hne => hgrow.block k hk (fun e => by rw [hX] at e; simp [Value.ownBlock] at e)) (by rw [hX, hY]; simpa using hrun)
      | some b0 =>
        have hrun := Lib.run_append_grow_string (P := P) w t t' ty E f (.int .u8 0) hu hut hf hz b0 0 0 [] (by simp) (by simp) b (by omega) (by simp at hfit; omega) (by rw [hfb]; exact growslice_fits (by omega) (by simp at hfit; omega))
        simp only [Nat.zero_add] at hrun
        refine fin 0 w.heap.size (grownCap w b.size 0 E) _ [] rfl ?_ (fun _ => .inl (Nat.le_refl _)) (fun _ => by have := grownCap_ge w b.size 0 E; omega) ?_ ?_ ?_ ?_ ?_ (by rw [hX, hY]; simpa using hrun)
        · have hge := grownCap_ge w b.size 0 E
          have hcm : grownCap w b.size 0 E ≤ maxLen := grownCap_le_maxLen w b.size 0 E (by simpa using hmaxl)
          refine ⟨by rw [List.nil_append, Lib.strCells_length]; simp, .inr ⟨w.heap.size, _, _, rfl, Nat.zero_le _, heap_alloc_new w.drew _, by simpa using hge, hcm, ?_, ?_⟩⟩
          · have hz1 : (Value.int IntKind.u8 0).cells.size = 1 := rfl
            simp only [Array.size_append, List.size_toArray, size_zeroCells, hz1, Lib.strCells_length, List.length_nil]
            omega
          · simp only [Array.toList_append, List.nil_append]
            rw [List.take_left' (by rw [Lib.strCells_length]; simp)]
        · rfl
        · rfl
        · rfl
        · simp
        · intro k hk _; exact Lib.alloc_old w.drew _ k hk
/-- In the builder's row. -/
theorem Ev.e_apZ (X : Cx P) (id' : Nat) {id E : Nat} {l r : List Int} {b : ByteArray} (h : apS_ l b = some r) (hx : V s o n x = .owz id) (ho : lookO o id = some (.arr E (.int .u8) l)) (hy : V s o n y = .v .str b) (ht : X.ty t = some (.sl (.int .u8))) (ht' : X.ty t' = some .str) (he : X.el t = some (E, 1))
    (hid' : lookO o id' = none) (hd : Nat.blt d n = true) : Ev P ⟨some d, .call ⟨.builtin .append, #[x, y], #[t, t']⟩, ty, pos, after, gd⟩ s o n (.owz id') ((id', .arr E (.int .u8) r) :: (id, .dead) :: o) := Ev.mk fun F hF N w0 loc a w _ hs Q K hK => by
  unfold apS_ at h
  split at h
  · rename_i hfit
    cases h
    exact append_coreS true X id' hs ((hs.lk hF).look (by simp [Op.operands, Call.operands]) hx) (of_str ((hs.lk hF).look (by simp [Op.operands, Call.operands]) hy)) ho ht ht' he hid' hd hfit Q K hK
  · cases h
theorem owz_at {w : World} {M : Nat → Prop} {loc : Nat → Nat × Nat} {id E : Nat} {τ : Ty} {l : List τ.den} (ho : lookO o id = some (.arr E τ l)) {u : Value} (h : AV.rel w M loc o (.owz id) u) : ∃ A, u = .slice A l.length (loc id).2 ∧ (0 < (loc id).2 → A = some ⟨(loc id).1, 0, none⟩) ∧ ((loc id).2 = 0 → A = none) := by
  rw [AV.rel] at h
  obtain ⟨ob, h1, h2⟩ := h
  rw [ho] at h1; cases h1
  exact h2 _ _ _ rfl
theorem Ev.e_lenZ (X : Cx P) {id E : Nat} {τ : Ty} {l : List τ.den} (hx : V s o n x = .owz id) (ho : lookO o id = some (.arr E τ l)) (ht : X.ty t = some (.sl τ)) (hd : Nat.blt d n = true) : Ev P ⟨some d, .call ⟨.builtin .len, #[x], #[t]⟩, ty, pos, after, gd⟩ s o n (.v (.int .i64) (l.length : Int)) o :=
  Ev.pure hd (fun N w0 loc a w hs => by
    obtain ⟨A0, hX, _⟩ := owz_at ho (hs.look (by simp [Op.operands, Call.operands]) hx)
    obtain ⟨e, hu, _⟩ := (X.ok _ _ ht).desc
    refine ⟨.int .i64 l.length, run_callBuiltin _ _ _ _ (fun _ => ?_), rel_int⟩
    simp [builtin, Builtin.len_, hX, Go.underlying, hu, goInt])
/-! ### From bytes to a text, without a copy -/
def US (P : Program) (t E : TypeId) : Prop := P.underlying t = some (.pointer E) ∧ P.cellsOf E = 1
def chkUS (P : Program) (t E : TypeId) : Bool := (match P.underlying t with | some (.pointer e) => Nat.beq e E | _ => false) && Nat.beq (P.cellsOf E) 1
theorem US.of {P : Program} {t E : TypeId} (h : chkUS P t E = true) : US P t E := by
  unfold chkUS at h
  rw [Bool.and_eq_true] at h
  refine ⟨?_, Nat.eq_of_beq_eq_true h.2⟩
  have h1 := h.1
  split at h1
  · rename_i e he; rw [he, Nat.eq_of_beq_eq_true h1]
  · cases h1
theorem Ev.e_usd (X : Cx P) {id E : Nat} {τ : Ty} {l : List τ.den} (h : decide (List.length (α := τ.den) l = 0) = false) (hx : V s o n x = .owz id) (ho : lookO o id = some (.arr E τ l)) (hd : Nat.blt d n = true) :
    Ev P ⟨some d, .call ⟨.builtin .unsafeSliceData, #[x], #[t]⟩, ty, pos, after, gd⟩ s o n (.oel id 0 0) o :=
  Ev.pure hd (fun N w0 loc a w hs => by
    obtain ⟨A0, hX, hA0, _⟩ := owz_at ho (hs.look (by simp [Op.operands, Call.operands]) hx)
    have hob := hs.rep.obs id _ ho
    have hl : 0 < List.length (α := τ.den) l := Nat.pos_of_ne_zero (of_decide_eq_false h)
    have h1 : List.length (α := τ.den) l ≤ (loc id).2 := hob.1
    have hc : 0 < (loc id).2 := by omega
    have hA0 := hA0 hc
    subst hA0
    have hrun := Lib.run_unsafeSliceData_row (P := P) w #[t] ty ⟨(loc id).1, 0, none⟩ l.length (loc id).2 (by omega)
    refine ⟨.pointer (some ⟨(loc id).1, 0, none⟩), ?_, ?_⟩
    · simp only [execOp, resolve]
      simp [invoke, builtin, hX, hrun]
    · rw [AV.rel]
      refine ⟨_, ho, fun E' t' l' e => ?_⟩
      cases e
      exact ⟨by omega, by simp⟩)
/-- Of a row of nothing: some pointer. -/
theorem Ev.e_usd0 (X : Cx P) {id E : Nat} {τ : Ty} {l : List τ.den} (h : decide (List.length (α := τ.den) l = 0) = true) (hx : V s o n x = .owz id) (ho : lookO o id = some (.arr E τ l)) (hd : Nat.blt d n = true) :
    Ev P ⟨some d, .call ⟨.builtin .unsafeSliceData, #[x], #[t]⟩, ty, pos, after, gd⟩ s o n .anyp o :=
  Ev.pure hd (fun N w0 loc a w hs => by
    obtain ⟨A0, hX, hA0, hA1⟩ := owz_at ho (hs.look (by simp [Op.operands, Call.operands]) hx)
    have hrel : ∀ q, AV.rel w (Muts N loc o) loc o .anyp (.pointer q) := fun q => by rw [AV.rel]; exact ⟨q, rfl⟩
    by_cases hc : (loc id).2 = 0
    · have hA1 := hA1 hc
      subst hA1
      refine ⟨.pointer none, ?_, hrel _⟩
      simp only [execOp, resolve]
      simp [invoke, builtin, hX, Lib.run_unsafeSliceData_nil]
    · have hA0 := hA0 (Nat.pos_of_ne_zero hc)
      subst hA0
      have hrun := Lib.run_unsafeSliceData_row (P := P) w #[t] ty ⟨(loc id).1, 0, none⟩ l.length (loc id).2 hc
      refine ⟨.pointer (some ⟨(loc id).1, 0, none⟩), ?_, hrel _⟩
      simp only [execOp, resolve]
      simp [invoke, builtin, hX, hrun])
theorem Ev.e_ust0 {id : Nat} {l : List Int} (h : decide (l.length = 0) = true) (hx : V s o n x = .anyp) (hy : V s o n y = .v (.int .i64) (l.length : Int)) (hd : Nat.blt d n = true) :
    Ev P ⟨some d, .call ⟨.builtin .unsafeString, #[x, y], #[t, t']⟩, ty, pos, after, gd⟩ s o n (.v .str (bs [])) ((id, .dead) :: o) := Ev.mk fun F hF N w0 loc a w hN hs Q K hK => by
  have hX := (hs.lk hF).look (by simp [Op.operands, Call.operands]) hx
  rw [AV.rel] at hX
  obtain ⟨q, hX⟩ := hX
  have hY := of_int ((hs.lk hF).look (by simp [Op.operands, Call.operands]) hy)
  have hl : l.length = 0 := of_decide_eq_true h
  have hY : a.eval y = .int .i64 0 := by rw [hY, hl]; rfl
  have hrun := Lib.run_unsafeString_none (P := P) w t t' ty q
  unfold Oper.wp
  have hw : (execOp a.eval ⟨some d, .call ⟨.builtin .unsafeString, #[x, y], #[t, t']⟩, ty, pos, after, gd⟩).run P w = .ok (.value (.string (bs []))) w := by
    simp only [execOp, resolve]
    simp [invoke, builtin, hX, hY, hrun]
    rfl
  rw [hw]
  exact hK _ _ _ (hs.kill0.put hd rel_str)
theorem Ev.e_ust {id E : Nat} {l : List Int} {b : ByteArray} {m : Int} (hE : US P t E) (h : ust l = some b) (hx : V s o n x = .oel id 0 0) (ho : lookO o id = some (.arr E (.int .u8) l)) (hy : V s o n y = .v (.int .i64) m) (hm : m = (l.length : Int)) (hd : Nat.blt d n = true) :
    Ev P ⟨some d, .call ⟨.builtin .unsafeString, #[x, y], #[t, t']⟩, ty, pos, after, gd⟩ s o n (.v .str b) ((id, .dead) :: o) := Ev.mk fun F hF N w0 loc a w hN hs Q K hK => by
  unfold ust at h
  split at h
  · rename_i hc
    cases h
    obtain ⟨hne, hall⟩ := hc
    have hlk := hs.lk hF
    have hX := (oel_at ho (hlk.look (by simp [Op.operands, Call.operands]) hx)).2
    have hY := of_int (hlk.look (by simp [Op.operands, Call.operands]) hy)
    have hob := hs.rep.obs id _ ho
    have hlp : 0 < l.length := by cases l with | nil => exact absurd rfl hne | cons a l => simp
    have h1 : l.length ≤ (loc id).2 := hob.1
    have hcp : 0 < (loc id).2 := by omega
    obtain ⟨cur, hcur, hcs, hrel⟩ := hob.2.2 hcp
    have hcs1 : cur.size = (loc id).2 := by rw [hcs]; exact Nat.mul_one _
    have hlen : (l.map fun n => UInt8.ofNat n.toNat).length = l.length := List.length_map _
    have hrun := Lib.run_unsafeString_row (P := P) w t t' ty E hE.1 hE.2 (loc id).1 cur.size (by simp [World.shape?, hcur]) (l.map fun n => UInt8.ofNat n.toNat) (by simpa using hne) (by rw [hlen]; omega) (by rw [hlen]; have := hob.2.1; unfold maxL at this; omega) (fun j u hj => by
      rw [List.getElem?_map] at hj
      cases hlj : l[j]? with
      | none => rw [hlj] at hj; cases hj
      | some z =>
        rw [hlj] at hj
        cases hj
        obtain ⟨ds, g1, g2⟩ := hrel j z hlj
        cases g1
        have g3 := g2 0 _ rfl
        have hz := List.all_eq_true.1 hall z (List.mem_of_getElem? hlj)
        rw [Bool.and_eq_true] at hz
        have z1 := of_decide_eq_true hz.1
        have z2 := of_decide_eq_true hz.2
        rw [add_lit]
        simp only [World.cell?, hcur]
        have e : (UInt8.ofNat z.toNat).toNat = z.toNat := by
          rw [UInt8.toNat_ofNat']
          exact Nat.mod_eq_of_lt (by omega)
        rw [e]
        have e2 : ((z.toNat : Nat) : Int) = z := by omega
        rw [e2]
        simpa [Ty.sz] using g3)
    rw [hlen] at hrun
    have hX' : a.eval x = .pointer (some ⟨(loc id).1, 0, none⟩) := by rw [hX]; simp
    have hY' : a.eval y = .int .i64 l.length := by rw [hY, hm]
    have hw : (execOp a.eval ⟨some d, .call ⟨.builtin .unsafeString, #[x, y], #[t, t']⟩, ty, pos, after, gd⟩).run P w = .ok (.value (.string (tx l))) (w.freeze ⟨(loc id).1, 0, none⟩ l.length) := by
      simp only [execOp, resolve]
      simp [invoke, builtin, hX', hY', hrun, tx]
    unfold Oper.wp
    rw [hw]
    have hh : Has loc o id (.arr E (.int .u8) l) := ⟨ho, rfl, hcp⟩
    have hlkd : ∀ i, lookO ((id, Ob.dead) :: o) i = if id = i then some .dead else lookO o i := fun i => lookO_cons ..
    have hold : ∀ i ob1, Has loc ((id, .dead) :: o) i ob1 → id ≠ i ∧ Has loc o i ob1 := by
      rintro i ob1 ⟨h1, h2, h3⟩
      rw [hlkd] at h1
      by_cases hi : id = i
      · rw [if_pos hi] at h1; cases h1; cases h2
      · rw [if_neg hi] at h1; exact ⟨hi, h1, h2, h3⟩
    have ht : Turns loc loc o ((id, .dead) :: o) := fun i ob1 h => by
      rw [hlkd]
      by_cases hi : id = i
      · exact ⟨.dead, if_pos hi, .dead, fun _ => rfl⟩
      · exact ⟨ob1, by rw [if_neg hi]; exact h, .refl, fun _ => rfl⟩
    have hfz : ∀ k, k ≠ (loc id).1 → (w.freeze ⟨(loc id).1, 0, none⟩ l.length).heap[k]? = w.heap[k]? := fun k hk => by
      unfold World.freeze
      split
      · rfl
      · simp [Array.getElem?_modify, Ne.symm hk]
    have hfs : (w.freeze ⟨(loc id).1, 0, none⟩ l.length).heap.size = w.heap.size := by
      unfold World.freeze
      split
      · rfl
      · simp
    have hfo : (w.freeze ⟨(loc id).1, 0, none⟩ l.length).os = w.os ∧ (w.freeze ⟨(loc id).1, 0, none⟩ l.length).tape = w.tape ∧ (w.freeze ⟨(loc id).1, 0, none⟩ l.length).output = w.output := by
      unfold World.freeze
      split <;> exact ⟨rfl, rfl, rfl⟩
    have hk : Keeps w (w.freeze ⟨(loc id).1, 0, none⟩ l.length) (Muts N loc o) (Muts N loc ((id, .dead) :: o)) := ⟨by rw [hfs]; exact Nat.le_refl _, fun k _ hm => hfz k (fun e => hm (.inr ⟨id, _, hh, e.symm⟩)), fun k _ hm => by
      rcases hm with h | ⟨i, ob1, h, rfl⟩
      · exact .inl h
      · exact .inr ⟨i, ob1, (hold i ob1 h).2, rfl⟩⟩
    have hbel : Bel w0 (w.freeze ⟨(loc id).1, 0, none⟩ l.length) := ⟨hfo.1.trans hs.below.os, hfo.2.1.trans hs.below.tape, hfo.2.2.trans hs.below.output, by rw [hfs]; exact hs.below.size, fun k hk0 => (hfz k (fun e => hs.rep.new id _ hh (e ▸ hk0))).trans (hs.below.block k hk0)⟩
    have hs2 := hs.chg hbel hk ht ⟨fun i ob1 h => hs.rep.new i ob1 (hold i ob1 h).2, fun i i' ob1 ob2 h1 h2 he => hs.rep.inj i i' ob1 ob2 (hold i ob1 h1).2 (hold i' ob2 h2).2 he, fun i ob1 h => by
      have h0 := h
      rw [hlkd] at h
      by_cases hi : id = i
      · rw [if_pos hi] at h; cases h; trivial
      · rw [if_neg hi] at h
        refine Ob.rel_turns hk ht ob1 (fun hl1 hc1 => hfz _ (fun e => hi ?_)) (hs.rep.obs i ob1 h)
        exact (hs.rep.inj i id ob1 _ ⟨h, hl1, hc1⟩ hh e).symm⟩
    exact hK _ _ _ (hs2.put hd rel_str)
  · cases h

/-! ### Copies -/
theorem Ev.e_cp (X : Cx P) {id i E : Nat} {τ : Ty} {l ys r : List τ.den} {A : AV} (h : cpy l i ys = some r) (hx : V s o n x = .osl id i) (ho : lookO o id = some (.arr E τ l)) (hy : V s o n y = A) (hA : Src o A τ ys) (ht : X.ty t = some (.sl τ)) (hd : Nat.blt d n = true) :
    Ev P ⟨some d, .call ⟨.builtin .copy, #[x, y], #[t, t']⟩, ty, pos, after, gd⟩ s o n (.v (.int .i64) (ys.length : Int)) ((id, .arr E τ r) :: o) := by
  unfold cpy at h
  split at h
  · rename_i hc
    cases h
    exact Ev.copy X hx ho hy hA ht hd hc
  · cases h
/-- A row, as the rest of itself. -/
theorem Ghost.whole {v id : Nat} {ob : Ob} (hv : look s v = .own id) (ho : lookO o id = some ob) : Ghost ⟨s, o, n⟩ ⟨(v, .osl id 0) :: s, o, n⟩ := fun N w0 a w hN ⟨loc, hs⟩ => ⟨loc, hs.say (by
  have h := hs.slots v
  rw [show look s v = .own id from hv, AV.rel] at h
  rw [AV.rel]
  obtain ⟨ob, h1, h2⟩ := h
  refine ⟨ob, h1, fun E t l e => ?_⟩
  obtain ⟨A, e1, e2⟩ := h2 E t l e
  exact ⟨Nat.zero_le _, A, by rw [e1]; simp, fun hc => by rw [e2 hc]; simp⟩)⟩

/-! ### A pointer turned, and turned back -/
def UP (P : Program) (t t' : TypeId) : Prop := ∃ e j, P.underlying t = some (.pointer e) ∧ P.underlying t' = some .unsafePointer ∧ P.info? e = some j ∧ j.size ≠ 0
def chkUP (P : Program) (t t' : TypeId) : Bool := match P.underlying t, P.underlying t' with
  | some (.pointer e), some .unsafePointer => (match P.info? e with | some j => !Nat.beq j.size 0 | none => false)
  | _, _ => false
theorem UP.of {P : Program} {t t' : TypeId} (h : chkUP P t t' = true) : UP P t t' := by
  unfold chkUP at h
  split at h
  · rename_i e h1 h2
    split at h
    · rename_i j hj
      exact ⟨e, j, h1, h2, hj, Nat.ne_of_beq_eq_false (by simpa using h)⟩
    · cases h
  · cases h
theorem Ev.e_toU {id off : Nat} {cells : List AV} (hp : UP P t t') (hx : V s o n x = .box id off) (ho : lookO o id = some (.box cells)) (hoff : Nat.blt off cells.length = true) (hd : Nat.blt d n = true) : Ev P ⟨some d, .convert t t' x, ty, pos, after, gd⟩ s o n (.box id off) o :=
  Ev.pure hd (fun N w0 loc a w hs => by
    have h0 := hs.look (by simp [Op.operands]) hx
    have h1 := box_ptr ho h0
    obtain ⟨_, cur, E, hcur, hrel⟩ := box_at hs.rep ho
    obtain ⟨e, j, h2, h3, h4, h5⟩ := hp
    have hlen := rels_len hrel
    have := Lib.run_to_unsafe (P := P) w (e := E) (cells := cur.size) ⟨(loc id).1, off, none⟩ h2 h3 h4 h5 (by simp [World.shape?, hcur]) (by rw [← Array.length_toList, hlen]; exact blt_lt hoff)
    refine ⟨_, ?_, h0⟩
    rw [h1]
    simp [execOp, h1, this])
/-- A pointer to what is laid so. -/
def UL (P : Program) (t t' T : TypeId) (k : Nat) : Prop := P.underlying t = some .unsafePointer ∧ P.underlying t' = some (.pointer T) ∧ (∃ j, P.info? T = some j) ∧ liesAt P P.depth T (k / P.cellsOf T) 0 T 1 = true
def chkUL (P : Program) (t t' T : TypeId) (k : Nat) : Bool := (match P.underlying t with | some .unsafePointer => true | _ => false) && (match P.underlying t' with | some (.pointer e) => Nat.beq e T | _ => false) && (P.info? T).isSome && liesAt P P.depth T (k / P.cellsOf T) 0 T 1
theorem UL.of {P : Program} {t t' T : TypeId} {k : Nat} (h : chkUL P t t' T k = true) : UL P t t' T k := by
  unfold chkUL at h
  simp only [Bool.and_eq_true] at h
  obtain ⟨⟨⟨h1, h2⟩, h3⟩, h4⟩ := h
  refine ⟨?_, ?_, Option.isSome_iff_exists.1 h3, h4⟩
  · split at h1
    · assumption
    · cases h1
  · split at h2
    · rename_i e he; rw [he, Nat.eq_of_beq_eq_true h2]
    · cases h2
theorem Ev.e_fromU {id T : Nat} {c : Bool} {cells : List AV} (hp : UL P t t' T (cells.length + 1)) (hx : V s o n x = .box id 0) (ho : lookO o id = some (.box (.pn c id 0 T :: cells))) (hd : Nat.blt d n = true) : Ev P ⟨some d, .convert t t' x, ty, pos, after, gd⟩ s o n (.box id 0) o :=
  Ev.pure hd (fun N w0 loc a w hs => by
    have h0 := hs.look (by simp [Op.operands]) hx
    have h1 := box_ptr ho h0
    obtain ⟨hbc, cur, E, hcur, hrel⟩ := box_at hs.rep ho
    obtain ⟨h2, h3, ⟨j, h4⟩, h5⟩ := hp
    have hlen := rels_len hrel
    have hcz : cur.size = cells.length + 1 := by rw [← Array.length_toList, hlen]; rfl
    rw [AV.rels] at hrel
    obtain ⟨u, us, _, hr, _⟩ := hrel
    rw [AV.rel] at hr
    obtain ⟨ob, g1, g2⟩ := hr
    rw [ho] at g1; cases g1
    have hT := (g2 _ rfl).2
    have hT' : (loc id).2 = T + 2 := hT
    have hE : (loc id).2 = E + 2 := hbc.2 cur E hcur (by rw [hT']; exact Nat.le_add_left 2 T)
    obtain rfl : E = T := Nat.add_right_cancel (hE.symm.trans hT')
    have := Lib.run_from_unsafe (P := P) w (e := E) (cells := cur.size) ⟨(loc id).1, 0, none⟩ h2 h3 h4 (by simp [World.shape?, hcur]) (by rw [hcz]; exact h5)
    refine ⟨_, ?_, h0⟩
    rw [h1]
    simp [execOp, h1, this])
/-- What hands back what it is handed. -/
def NE (P : Program) (g : Nat) : Prop := ∃ fn, P.funcs[g]? = some fn ∧ (fn.name == "runtime.NumGoroutine") = false ∧ fn.body.isNone = true ∧ Extern.findNext fn = none ∧ Extern.find fn = some Extern.AbiNoEscape.same
theorem Ev.e_noesc {f : Operand} {ts : Array TypeId} {g : Nat} {A : AV} (hg : NE P g) (hf : V s o n f = .fn g []) (hx : V s o n x = A) (hd : Nat.blt d n = true) : Ev P ⟨some d, .call ⟨.value f, #[x], ts⟩, ty, pos, after, gd⟩ s o n A o :=
  Ev.pure hd (fun N w0 loc a w hs => by
    have h1 := eval_fn hs (by simp [Op.operands, Call.operands]) hf
    have h2 := hs.look (x := x) (by simp [Op.operands, Call.operands]) hx
    obtain ⟨fn, g1, g2, g3, g4, g5⟩ := hg
    have := run_callFunc_extern g1 g2 g3 g4 g5 #[a.eval x] w
    rw [Lib.run_noEscape] at this
    refine ⟨_, ?_, h2⟩
    simp only [Result.andThen] at this
    simp [execOp, resolve, h1, Deferred.ofValue, invoke, this])

/-- Where a byte stands first. -/
def IB (P : Program) (g : Nat) : Prop := ∃ fn, P.funcs[g]? = some fn ∧ (fn.name == "runtime.NumGoroutine") = false ∧ fn.body.isNone = true ∧ Extern.findNext fn = none ∧ Extern.find fn = some Extern.BytealgIndexByte.indexByte
theorem Ev.e_idxb {f : Operand} {ts : Array TypeId} {g : Nat} {b : ByteArray} {c : Int} (hg : IB P g) (hf : V s o n f = .fn g []) (hx : V s o n x = .v .str b) (hy : V s o n y = .v (.int .u8) c) (hd : Nat.blt d n = true) : Ev P ⟨some d, .call ⟨.value f, #[x, y], ts⟩, ty, pos, after, gd⟩ s o n (.v (.int .i64) (ixb b c)) o :=
  Ev.pure hd (fun N w0 loc a w hs => by
    have h1 := eval_fn hs (by simp [Op.operands, Call.operands]) hf
    have h2 := of_str (hs.look (x := x) (by simp [Op.operands, Call.operands]) hx)
    have h3 := of_int (hs.look (x := y) (by simp [Op.operands, Call.operands]) hy)
    obtain ⟨fn, g1, g2, g3, g4, g5⟩ := hg
    have := run_callFunc_extern g1 g2 g3 g4 g5 #[.string b, .int .u8 c] w
    rw [run_indexByte_string] at this
    refine ⟨_, ?_, rel_int⟩
    simp only [Result.andThen] at this
    simp [execOp, resolve, h1, Deferred.ofValue, invoke, h2, h3, this, ixb])

/-! ### The builder's own cells -/
/-- A new builder. -/
theorem Ev.e_allocB (id id2 E2 : Nat) (hz : ZS P t (([.ptr, .sl] : List ZK).map ZK.val)) (hid : lookO o id = none) (hid2 : lookO ((id, Ob.dead) :: o) id2 = none) (hd : Nat.blt d n = true) : Ev P ⟨some d, .alloc t, ty, pos, after, gd⟩ s o n (.box id 0) ((id2, .arr E2 (.int .u8) ([] : List Int)) :: (id, .box [.pn true id 0 t, .owz id2]) :: o) := Ev.mk fun F _ N w0 loc a w _ hs Q K hK => by
  obtain ⟨f, z, hf, hfz, hzl⟩ := hz
  have hrun : (Instr.alloc t true (.tuple #[])).run P w = .ok (.pointer (some ⟨w.heap.size, 0, none⟩)) (w.alloc (.cells z.cells t)) := by
    simp [Instr.alloc, zeroValue, typeInfo, hf, hfz, newVar, newRow]
  unfold Oper.wp
  rw [show (execOp a.eval ⟨some d, .alloc t, ty, pos, after, gd⟩).run P w = .ok (.value (.pointer (some ⟨w.heap.size, 0, none⟩))) (w.alloc (.cells z.cells t)) from run_v hrun]
  have hr : ∀ (M : Nat → Prop) (loc : Nat → Nat × Nat) (o : Objs) (w : World), AV.rels w M loc o [.nilp, .nil] z.cells.toList := by
    intro M loc o w
    rw [hzl]
    rw [AV.rels]
    refine ⟨.pointer none, [.slice none 0 0], rfl, by rw [AV.rel], ?_⟩
    rw [AV.rels]
    exact ⟨_, [], rfl, by rw [AV.rel], by rw [AV.rels]⟩
  have h1 := hs.new (ob := .box [.nilp, .nil]) (c := t + 2) hid (Nat.le_refl _) (below_alloc' w (.cells z.cells t)) (fun M' loc' o' hk ht => ⟨⟨by omega, fun cur E h _ => by rw [alloc_get] at h; cases h; rfl⟩, _, _, alloc_get _ _, hr _ _ _ _⟩)
  have ho1 : lookO ((id, Ob.box [.nilp, .nil]) :: o) id = some (.box [.nilp, .nil]) := by rw [lookO_cons, if_pos rfl]
  obtain ⟨hc, cur, E, hcur, hrel⟩ := h1.rep.obs id _ ho1
  have h2 := h1.set (w' := w.alloc (.cells z.cells t)) (ob := .box [.nilp, .nil]) (ob' := .box [.pn true id 0 t, .nil]) ho1 rfl .box hc.1 rfl rfl rfl (Nat.le_refl _) (fun _ _ _ => rfl) (fun M' o' hk ht => ⟨hc, cur, E, hcur, AV.rels_turns hk ht _ _ (by
    refine cell_set (A := .nilp) (B := .pn true id 0 t) (fun u hu => ?_) [.nilp, .nil] _ 0 rfl hrel
    rw [AV.rel] at hu
    rw [AV.rel.eq_def]
    exact ⟨_, ho1, fun cells _ => ⟨hu, by rw [put2_same]⟩⟩)⟩)
  have h3 : SatF N w0 ((id, .box [.pn true id 0 t, .nil]) :: o) n F (put2 loc id w.heap.size (t + 2)) a (w.alloc (.cells z.cells t)) := h2.alike (fun i => by
    rw [lookO_cons, lookO_cons, lookO_cons]
    by_cases hi : id = i
    · rw [if_pos hi, if_pos hi]
    · rw [if_neg hi, if_neg hi, if_neg hi])
  have hne : id2 ≠ id := by
    intro e; rw [e, lookO_cons, if_pos rfl] at hid2; cases hid2
  have hn2 : lookO ((id, Ob.box [.pn true id 0 t, .nil]) :: o) id2 = none := by
    rw [lookO_cons, if_neg (Ne.symm hne)] at hid2 ⊢; exact hid2
  have h4 := h3.new (w' := w.alloc (.cells z.cells t)) (id := id2) (g := (w.alloc (.cells z.cells t)).heap.size) (c := 0) (ob := .arr E2 (.int .u8) ([] : List Int)) hn2 (Nat.le_refl _) (Below.refl _ _) (fun M' loc' o' hk ht => ⟨Nat.le_refl _, Nat.zero_le _, fun h => absurd h (Nat.lt_irrefl _)⟩)
  have ho4 : lookO ((id2, Ob.arr E2 (.int .u8) ([] : List Int)) :: (id, Ob.box [.pn true id 0 t, .nil]) :: o) id = some (.box [.pn true id 0 t, .nil]) := by
    rw [lookO_cons, if_neg hne, lookO_cons, if_pos rfl]
  have ho5 : lookO ((id2, Ob.arr E2 (.int .u8) ([] : List Int)) :: (id, Ob.box [.pn true id 0 t, .nil]) :: o) id2 = some (.arr E2 (.int .u8) ([] : List Int)) := by
    rw [lookO_cons, if_pos rfl]
  obtain ⟨hc4, cur4, E4, hcur4, hrel4⟩ := h4.rep.obs id _ ho4
  have h5 := h4.set (w' := w.alloc (.cells z.cells t)) (ob := .box [.pn true id 0 t, .nil]) (ob' := .box [.pn true id 0 t, .owz id2]) ho4 rfl .box hc4.1 rfl rfl rfl (Nat.le_refl _) (fun _ _ _ => rfl) (fun M' o' hk ht => ⟨hc4, cur4, E4, hcur4, AV.rels_turns hk ht _ _ (by
    refine cell_set (A := .nil) (B := .owz id2) (fun u hu => ?_) [.pn true id 0 t, .nil] _ 1 rfl hrel4
    rw [AV.rel] at hu
    rw [AV.rel.eq_def]
    refine ⟨_, ho5, fun E' t' l' e => ?_⟩
    cases e
    rw [put2_same]
    exact ⟨none, hu, fun h => absurd h (Nat.lt_irrefl _), fun _ => rfl⟩)⟩)
  refine hK _ _ _ ((h5.alike (o' := (id2, .arr E2 (.int .u8) ([] : List Int)) :: (id, .box [.pn true id 0 t, .owz id2]) :: o) (fun i => ?_)).put hd ?_)
  · rw [lookO_cons, lookO_cons, lookO_cons, lookO_cons, lookO_cons]
    by_cases hi : id = i
    · subst hi
      rw [if_neg hne, if_pos rfl, if_pos rfl]
    · by_cases hi2 : id2 = i
      · rw [if_pos hi2, if_neg hi, if_pos hi2]
      · rw [if_neg hi2, if_neg hi, if_neg hi, if_neg hi2, if_neg hi]
  · rw [AV.rel]
    refine ⟨_, by rw [lookO_cons, if_neg hne, lookO_cons, if_pos rfl], fun c e => ?_⟩
    cases e
    rw [put2_ne (Ne.symm hne), put2_same]
/-- It takes its own address. -/
theorem Ev.e_stPn {id T : Nat} {c : Bool} {cells : List AV} (hz : SZ P t false 1) (hx : V s o n x = .box id 0) (ho : lookO o id = some (.box (.pn c id 0 T :: cells))) (hy : V s o n y = .box id 0) :
    Ev P ⟨none, .store t x y, ty, pos, after, gd⟩ s o n .bot ((id, .box (.pn false id 0 T :: cells)) :: o) := Ev.mk fun F hF N w0 loc a w hN hs Q K hK => by
  obtain ⟨_, _, _, _, hrel0⟩ := box_at hs.rep ho
  rw [AV.rels] at hrel0
  obtain ⟨u0, _, _, hr0, _⟩ := hrel0
  rw [AV.rel] at hr0
  obtain ⟨ob0, g1, g2⟩ := hr0
  rw [ho] at g1; cases g1
  have hT := (g2 _ rfl).2
  have hlk := hs.lk hF
  have h1 := box_ptr ho (hlk.look (by simp [Op.operands]) hx)
  have hy1 := hlk.look (by simp [Op.operands]) hy
  have h1y := box_ptr ho hy1
  obtain ⟨hp, cur, E, hcur, hrel⟩ := box_at hs.rep ho
  have hlen := rels_len hrel
  have hcl : cur.size = cells.length + 1 := by rw [← Array.length_toList]; exact hlen
  have hst := run_storeCells_at (P := P) (loc id).1 0 E [a.eval y] 0 cur w hcur (by simp; omega) (by intro u hu; simp at hu; subst hu; rw [h1y]; simp [Value.oneCell'])
  have hcy : (a.eval y).cells = #[a.eval y] := by rw [h1y]; rfl
  have hrun : (execOp a.eval ⟨none, .store t x y, ty, pos, after, gd⟩).run P w = .ok .skip (w.setRow (loc id).1 (cur.toList.take 0 ++ [a.eval y] ++ cur.toList.drop (0 + 1)).toArray) := by
    have hsz : (a.eval y).cells.size = 1 := by rw [hcy]; rfl
    simp [execOp, h1, Instr.storeAt, Instr.sureAddr, storeVar, hz.size, hsz]
    rw [hcy]
    simp at hst ⊢
    simp [hst]
  unfold Oper.wp
  rw [hrun]
  have hset := setRow_heap w (loc id).1 cur (cur.toList.take 0 ++ [a.eval y] ++ cur.toList.drop (0 + 1)).toArray E (0, 0) hcur
  have := hs.set (w' := w.setRow (loc id).1 (cur.toList.take 0 ++ [a.eval y] ++ cur.toList.drop (0 + 1)).toArray) (ob := .box (.pn c id 0 T :: cells)) (ob' := .box (.pn false id 0 T :: cells)) ho rfl .box hp.1 rfl rfl rfl (by simp [World.setRow]) (fun k _ hk => setRow_other w _ k _ hk) (fun M' o' hk ht => ⟨hp.set hcur hset, _, _, hset, AV.rels_turns hk ht _ _ (by
    rw [List.toList_toArray]
    have := rels_mid (bs := [.pn false id 0 T]) (vs := [a.eval y]) 0 hrel (by
      rw [AV.rels]
      refine ⟨_, [], rfl, ?_, by rw [AV.rels]⟩
      rw [AV.rel]
      exact ⟨_, ho, fun cells _ => ⟨h1y, hT⟩⟩)
    simpa using this)⟩)
  exact hK _ _ _ this
end
end Go.Proofs.YtkjkipkfndckfaaGreatDoor.AE
/- Arrays of two: built, and one of both taken. -/
namespace Go.Proofs.YtkjkipkfndckfaaGreatDoor.AP
open Go
/-- how often a byte stands in a text -/
def cntb (s : ByteArray) (c : Int) : Int := ((Lib.countByte s.data.toList c.toNat.toUInt8 : Nat) : Int)
end Go.Proofs.YtkjkipkfndckfaaGreatDoor.AP
namespace Go.Proofs.YtkjkipkfndckfaaGreatDoor.AE
open Go Go.RowKit Go.Proofs.YtkjkipkfndckfaaGreatDoor.AP
set_option linter.unusedSimpArgs false
set_option linter.unusedVariables false
/-- An array type of two elements. -/
def A2 (P : Program) (t e : TypeId) : Prop := P.underlying t = some (.array 2 e)
theorem A2.of {P : Program} {t e : TypeId} (h : (match P.underlying t with | some (.array 2 e') => Nat.beq e' e | _ => false) = true) : A2 P t e := by
  unfold A2
  split at h
  · rename_i e' hu
    rw [hu, Nat.eq_of_beq_eq_true h]
  · cases h
section
variable {P : Program} {s : List (Nat × AV)} {o : Objs} {n d : Nat} {ty : TypeId} {pos : String} {after : Array Edge} {gd : Option (Nat × Bool)} {t e : TypeId}
theorem Ev.e_build2 (X : Cx P) {τ : Ty} {x0 x1 : Operand} {A0 A1 : List AV} {zc : List Value} (hu : A2 P t e) (hz : ZS P t zc) (hzl : Nat.beq zc.length (τ.sz + τ.sz) = true) (he : X.ty e = some τ) (h0 : spreadC o (V s o n x0) = some A0) (h1 : spreadC o (V s o n x1) = some A1) (l0 : Nat.beq A0.length τ.sz = true) (l1 : Nat.beq A1.length τ.sz = true) (hd : Nat.blt d n = true) :
    Ev P ⟨some d, .build t #[(0, x0), (1, x1)], ty, pos, after, gd⟩ s o n (.st (A0 ++ A1)) o :=
  Ev.pure hd (fun N w0 loc a w hlk => by
    obtain ⟨f, z, hf, hfz, rfl⟩ := hz
    obtain ⟨ie, zz, hie, hsz, _⟩ := (X.ok _ _ he).info
    have hzl := Nat.eq_of_beq_eq_true hzl
    have l0 := Nat.eq_of_beq_eq_true l0
    have l1 := Nat.eq_of_beq_eq_true l1
    obtain ⟨c0, k0, r0, _⟩ := spreadC_rel h0 (hlk.val x0 (by simp [Op.operands]))
    obtain ⟨c1, k1, r1, _⟩ := spreadC_rel h1 (hlk.val x1 (by simp [Op.operands]))
    have n0 : (a.eval x0).cells.size = τ.sz := by rw [k0, List.size_toArray, rels_len r0, l0]
    have n1 : (a.eval x1).cells.size = τ.sz := by rw [k1, List.size_toArray, rels_len r1, l1]
    have hfm : ([a.eval x0, a.eval x1].flatMap fun v => v.cells.toList) = c0 ++ c1 := by
      rw [List.flatMap_cons, List.flatMap_cons, List.flatMap_nil, List.append_nil, k0, k1, List.toList_toArray, List.toList_toArray]
    have q0 := rels_len r0
    have q1 := rels_len r1
    obtain ⟨r, g1, g2⟩ := fill_fits (fun i => some (i * ie.size, ie.size)) [a.eval x0, a.eval x1] 0 0 z.cells ⟨by show some (0 * ie.size, ie.size) = some (0, (a.eval x0).cells.size); rw [hsz, n0, Nat.zero_mul], by show some (1 * ie.size, ie.size) = some (0 + (a.eval x0).cells.size, (a.eval x1).cells.size); rw [hsz, n0, n1, Nat.one_mul, Nat.zero_add], trivial⟩ (by rw [hfm, List.length_append, ← Array.length_toList]; omega)
    have hb : P.built t ((#[(0, x0), (1, x1)] : Array (Nat × Operand)).map fun (i, x) => (i, a.eval x)).toList = some r := by
      unfold Program.built
      rw [hf, hu]
      dsimp only
      rw [hfz, hie]
      simpa using g1
    refine ⟨.agg r, run_v (run_build w t _ r hb), ?_⟩
    rw [AV.rel]
    refine ⟨c0 ++ c1, ?_, rels_app r0 r1⟩
    congr 1
    apply Array.toList_inj.1
    rw [g2, hfm, List.take_zero, List.nil_append, List.drop_of_length_le (by rw [List.length_append]; omega), List.append_nil])
theorem Ev.e_index2 (X : Cx P) {τ : Ty} {x y : Operand} {L : List AV} {k : IntKind} {w0 w1 v : τ.den} {i : Int} (h : rd [w0, w1] i = some v) (hx : V s o n x = .st L) (hy : V s o n y = .v (.int k) i) (hu : A2 P t e) (he : X.ty e = some τ) (ha : τ.agg = true) (hl : Nat.beq L.length (τ.sz + τ.sz) = true) (g0 : gath τ (L.take τ.sz) = some w0) (g1 : gath τ (L.drop τ.sz) = some w1) (hd : Nat.blt d n = true) :
    Ev P ⟨some d, .index t x y, ty, pos, after, gd⟩ s o n (.v τ v) o :=
  Ev.pure hd (fun N wb loc a w hlk => by
    have hl := Nat.eq_of_beq_eq_true hl
    have hX := hlk.look (by simp [Op.operands]) hx
    have hY := of_int (hlk.look (by simp [Op.operands]) hy)
    rw [AV.rel] at hX
    obtain ⟨us, hX, hr⟩ := hX
    obtain ⟨t0, t1⟩ := rels_take τ.sz hr
    have hlen := rels_len hr
    have hO := X.ok _ _ he
    have hsz := hO.run_size w
    have hag := hO.run_agg w
    rw [ha] at hag
    have hlt := rd_lt h
    have hlt2 : i < 2 := hlt.2
    have hi : i = 0 ∨ i = 1 := by omega
    have hb : (0 ≤ i ∧ i < (2 : Int)) := ⟨hlt.1, hlt2⟩
    have hu : P.underlying t = some (.array 2 e) := hu
    have hval : ∀ cs : List Value, τ.val cs = .agg cs.toArray := fun cs => by unfold Ty.val; rw [if_pos ha]
    rcases hi with rfl | rfl
    · obtain rfl : w0 = v := Option.some.inj h
      refine ⟨.agg (us.toArray.extract 0 (0 + τ.sz)), ?_, ?_⟩
      · simp [execOp, hX, hY, Instr.index, asIntOf, Go.underlying, hu, part, hsz, hag]
      · rw [AV.rel]
        refine ⟨us.take τ.sz, gath_rel τ _ _ _ g0 t0, ?_⟩
        rw [hval]
        congr 1
        apply Array.toList_inj.1
        simp
    · obtain rfl : w1 = v := Option.some.inj h
      refine ⟨.agg (us.toArray.extract τ.sz (τ.sz + τ.sz)), ?_, ?_⟩
      · simp [execOp, hX, hY, Instr.index, asIntOf, Go.underlying, hu, part, hsz, hag]
      · rw [AV.rel]
        refine ⟨us.drop τ.sz, gath_rel τ _ _ _ g1 t1, ?_⟩
        rw [hval]
        congr 1
        apply Array.toList_inj.1
        simp
        rw [List.take_of_length_le (by rw [List.length_drop]; omega)])
/-- How often a byte stands in a text. -/
def IC (P : Program) (g : Nat) : Prop := ∃ fn, P.funcs[g]? = some fn ∧ (fn.name == "runtime.NumGoroutine") = false ∧ fn.body.isNone = true ∧ Extern.findNext fn = none ∧ Extern.find fn = some Extern.BytealgCount.count
theorem Ev.e_cntb {x y f : Operand} {ts : Array TypeId} {g : Nat} {b : ByteArray} {c : Int} (hg : IC P g) (hf : V s o n f = .fn g []) (hx : V s o n x = .v .str b) (hy : V s o n y = .v (.int .u8) c) (hd : Nat.blt d n = true) : Ev P ⟨some d, .call ⟨.value f, #[x, y], ts⟩, ty, pos, after, gd⟩ s o n (.v (.int .i64) (cntb b c)) o :=
  Ev.pure hd (fun N w0 loc a w hs => by
    have h1 := eval_fn hs (by simp [Op.operands, Call.operands]) hf
    have h2 := of_str (hs.look (x := x) (by simp [Op.operands, Call.operands]) hx)
    have h3 := of_int (hs.look (x := y) (by simp [Op.operands, Call.operands]) hy)
    obtain ⟨fn, g1, g2, g3, g4, g5⟩ := hg
    have := run_callFunc_extern g1 g2 g3 g4 g5 #[.string b, .int .u8 c] w
    rw [Lib.run_countString] at this
    refine ⟨_, ?_, rel_int⟩
    simp only [Result.andThen] at this
    simp [execOp, resolve, h1, Deferred.ofValue, invoke, h2, h3, this, cntb])
end
/-- The same, told as a state that is given. -/
theorem Ghost.onlyK {s : List (Nat × AV)} {o : Objs} {n : Nat} {σ : St} (rs : List (Nat × Nat)) (ts : List Nat) (hok : okRen rs = true) (he : (⟨keepR rs s ts, mapO rs o rs, n⟩ : St) = σ) : Ghost ⟨s, o, n⟩ σ := he ▸ Ghost.only rs ts hok
end Go.Proofs.YtkjkipkfndckfaaGreatDoor.AE
/- Values of the program's structs. -/
namespace Go.Proofs.YtkjkipkfndckfaaGreatDoor.AP
abbrev D_api_Prefix : Type := (Int × Int)
abbrev D_api_Query : Type := (Int × ByteArray × ByteArray × ByteArray × Int × D_api_Prefix × Int)
abbrev D_api_Int : Type := (Bool × (List Int))
abbrev D_api_Rat : Type := (D_api_Int × (List Int))
abbrev D_triviumlaw38_Told : Type := (Int × Int × Bool × Bool × Bool × Int × D_api_Rat × D_api_Rat × D_api_Rat)
abbrev D_absorb_Measure : Type := (D_api_Rat × D_api_Rat × D_api_Rat)
abbrev D_hops_Mean : Type := (Bool × D_api_Rat)
abbrev D_compare_Witness : Type := (Bool × Int × D_api_Rat × D_api_Rat)
abbrev D_compare_Verdict : Type := (Int × D_compare_Witness × D_compare_Witness)
abbrev D_engine_Answer : Type := (Int × D_absorb_Measure × D_hops_Mean × D_api_Rat × D_compare_Verdict)
abbrev D_triviumref07_Z : Type := (Bool × (List Int))
abbrev D_triviumref08_Q : Type := (D_triviumref07_Z × (List Int))
abbrev D_triviumref34_Measure : Type := (D_triviumref08_Q × D_triviumref08_Q × D_triviumref08_Q)
abbrev D_triviumref35_Mean : Type := (Bool × D_triviumref08_Q)
abbrev D_triviumref36_Witness : Type := (Bool × Int × D_triviumref08_Q × D_triviumref08_Q)
abbrev D_triviumref36_Verdict : Type := (Int × D_triviumref36_Witness × D_triviumref36_Witness)
abbrev D_triviumref37_Answer : Type := (Int × D_triviumref34_Measure × D_triviumref35_Mean × D_triviumref08_Q × D_triviumref36_Verdict)
end Go.Proofs.YtkjkipkfndckfaaGreatDoor.AP
/- Types of the printed functions, and what the proofs say of them. -/
namespace Go.Proofs.YtkjkipkfndckfaaGreatDoor.AE
open Go Go.RowKit Go.Proofs.YtkjkipkfndckfaaGreatDoor.AP
abbrev Y_api_Prefix : Ty := (.pair (.int .u32) (.int .i64))
abbrev Y_api_Query : Ty := (.pair (.int .i64) (.pair .str (.pair .str (.pair .str (.pair (.int .u32) (.pair Y_api_Prefix (.int .i64)))))))
abbrev Y_api_Int : Ty := (.pair .bool (.sl (.int .u64)))
abbrev Y_api_Rat : Ty := (.pair Y_api_Int (.sl (.int .u64)))
abbrev Y_triviumlaw38_Told : Ty := (.pair (.int .i64) (.pair (.int .i64) (.pair .bool (.pair .bool (.pair .bool (.pair (.int .u32) (.pair Y_api_Rat (.pair Y_api_Rat Y_api_Rat))))))))
abbrev Y_absorb_Measure : Ty := (.pair Y_api_Rat (.pair Y_api_Rat Y_api_Rat))
abbrev Y_hops_Mean : Ty := (.pair .bool Y_api_Rat)
abbrev Y_compare_Witness : Ty := (.pair .bool (.pair (.int .u32) (.pair Y_api_Rat Y_api_Rat)))
abbrev Y_compare_Verdict : Ty := (.pair (.int .i64) (.pair Y_compare_Witness Y_compare_Witness))
abbrev Y_engine_Answer : Ty := (.pair (.int .i64) (.pair Y_absorb_Measure (.pair Y_hops_Mean (.pair Y_api_Rat Y_compare_Verdict))))
abbrev Y_triviumref07_Z : Ty := (.pair .bool (.sl (.int .i64)))
abbrev Y_triviumref08_Q : Ty := (.pair Y_triviumref07_Z (.sl (.int .i64)))
abbrev Y_triviumref34_Measure : Ty := (.pair Y_triviumref08_Q (.pair Y_triviumref08_Q Y_triviumref08_Q))
abbrev Y_triviumref35_Mean : Ty := (.pair .bool Y_triviumref08_Q)
abbrev Y_triviumref36_Witness : Ty := (.pair .bool (.pair (.int .u32) (.pair Y_triviumref08_Q Y_triviumref08_Q)))
abbrev Y_triviumref36_Verdict : Ty := (.pair (.int .i64) (.pair Y_triviumref36_Witness Y_triviumref36_Witness))
abbrev Y_triviumref37_Answer : Ty := (.pair (.int .i64) (.pair Y_triviumref34_Measure (.pair Y_triviumref35_Mean (.pair Y_triviumref08_Q Y_triviumref36_Verdict))))
def tab : Tab := [(3, (.int .i64), 0), (4, .bool, 0), (5, (.int .u8), 0), (9, .str, 0), (22, (.int .u32), 0), (24, Y_api_Prefix, 2), (26, Y_api_Query, 7), (27, (.sl (.int .u64)), 0), (28, (.sl (.int .u64)), 0), (30, Y_api_Int, 2), (32, Y_api_Rat, 2), (34, Y_triviumlaw38_Told, 9), (37, Y_absorb_Measure, 3), (39, Y_hops_Mean, 2), (41, Y_compare_Witness, 4), (43, Y_compare_Verdict, 3), (45, Y_engine_Answer, 5), (47, (.sl (.int .i64)), 0), (49, Y_triviumref07_Z, 2), (51, Y_triviumref08_Q, 2), (53, Y_triviumref34_Measure, 3), (55, Y_triviumref35_Mean, 2), (57, Y_triviumref36_Witness, 4), (59, Y_triviumref36_Verdict, 3), (61, Y_triviumref37_Answer, 5), (69, (.sl Y_api_Query), 0), (70, (.sl Y_triviumlaw38_Told), 0), (71, (.sl .str), 0), (72, (.sl Y_engine_Answer), 0), (92, (.sl (.int .u8)), 0), (104, (.int .u64), 0)]
def els : Els := [(27, 104, 8), (28, 104, 8), (47, 3, 8), (69, 26, 88), (71, 9, 16), (72, 45, 544), (92, 5, 1)]
def X : Cx Tryz.prog := Cx.of tab els (by kernel_rfl) (by kernel_rfl)
theorem pl26 : placesOf Tryz.prog 26 = some [(0, 1), (1, 1), (2, 1), (3, 1), (4, 1), (5, 2), (7, 1)] := by kernel_rfl
theorem pl30 : placesOf Tryz.prog 30 = some [(0, 1), (1, 1)] := by kernel_rfl
theorem pl32 : placesOf Tryz.prog 32 = some [(0, 2), (2, 1)] := by kernel_rfl
theorem pl37 : placesOf Tryz.prog 37 = some [(0, 3), (3, 3), (6, 3)] := by kernel_rfl
theorem pl39 : placesOf Tryz.prog 39 = some [(0, 1), (1, 3)] := by kernel_rfl
theorem pl41 : placesOf Tryz.prog 41 = some [(0, 1), (1, 1), (2, 3), (5, 3)] := by kernel_rfl
theorem pl43 : placesOf Tryz.prog 43 = some [(0, 1), (1, 8), (9, 8)] := by kernel_rfl
theorem pl45 : placesOf Tryz.prog 45 = some [(0, 1), (1, 9), (10, 4), (14, 3), (17, 17)] := by kernel_rfl
theorem pl49 : placesOf Tryz.prog 49 = some [(0, 1), (1, 1)] := by kernel_rfl
theorem pl51 : placesOf Tryz.prog 51 = some [(0, 2), (2, 1)] := by kernel_rfl
theorem pl53 : placesOf Tryz.prog 53 = some [(0, 3), (3, 3), (6, 3)] := by kernel_rfl
theorem pl55 : placesOf Tryz.prog 55 = some [(0, 1), (1, 3)] := by kernel_rfl
theorem pl57 : placesOf Tryz.prog 57 = some [(0, 1), (1, 1), (2, 3), (5, 3)] := by kernel_rfl
theorem pl59 : placesOf Tryz.prog 59 = some [(0, 1), (1, 8), (9, 8)] := by kernel_rfl
theorem pl61 : placesOf Tryz.prog 61 = some [(0, 1), (1, 9), (10, 4), (14, 3), (17, 17)] := by kernel_rfl
theorem zs26 : ZS Tryz.prog 26 (([.int .i64, .str, .str, .str, .int .u32, .int .u32, .int .i64, .int .i64] : List ZK).map ZK.val) := ZS.of (by kernel_rfl)
theorem zs32 : ZS Tryz.prog 32 (([.bool, .sl, .sl] : List ZK).map ZK.val) := ZS.of (by kernel_rfl)
theorem zs43 : ZS Tryz.prog 43 (([.int .i64, .bool, .int .u32, .bool, .sl, .sl, .bool, .sl, .sl, .bool, .int .u32, .bool, .sl, .sl, .bool, .sl, .sl] : List ZK).map ZK.val) := ZS.of (by kernel_rfl)
theorem zs45 : ZS Tryz.prog 45 (([.int .i64, .bool, .sl, .sl, .bool, .sl, .sl, .bool, .sl, .sl, .bool, .bool, .sl, .sl, .bool, .sl, .sl, .int .i64, .bool, .int .u32, .bool, .sl, .sl, .bool, .sl, .sl, .bool, .int .u32, .bool, .sl, .sl, .bool, .sl, .sl] : List ZK).map ZK.val) := ZS.of (by kernel_rfl)
theorem zs59 : ZS Tryz.prog 59 (([.int .i64, .bool, .int .u32, .bool, .sl, .sl, .bool, .sl, .sl, .bool, .int .u32, .bool, .sl, .sl, .bool, .sl, .sl] : List ZK).map ZK.val) := ZS.of (by kernel_rfl)
theorem zs61 : ZS Tryz.prog 61 (([.int .i64, .bool, .sl, .sl, .bool, .sl, .sl, .bool, .sl, .sl, .bool, .bool, .sl, .sl, .bool, .sl, .sl, .int .i64, .bool, .int .u32, .bool, .sl, .sl, .bool, .sl, .sl, .bool, .int .u32, .bool, .sl, .sl, .bool, .sl, .sl] : List ZK).map ZK.val) := ZS.of (by kernel_rfl)
theorem zs94 : ZS Tryz.prog 94 (([.ptr, .sl] : List ZK).map ZK.val) := ZS.of (by kernel_rfl)
theorem zs133 : ZS Tryz.prog 133 (([.bool, .int .u32, .bool, .sl, .sl, .bool, .sl, .sl, .bool, .int .u32, .bool, .sl, .sl, .bool, .sl, .sl] : List ZK).map ZK.val) := ZS.of (by kernel_rfl)
theorem ar133 : A2 Tryz.prog 133 41 := A2.of (by kernel_rfl)
theorem sz26 : SZ Tryz.prog 26 true 8 := SZ.of (by kernel_rfl)
theorem sz32 : SZ Tryz.prog 32 true 3 := SZ.of (by kernel_rfl)
theorem sz45 : SZ Tryz.prog 45 true 34 := SZ.of (by kernel_rfl)
theorem sz61 : SZ Tryz.prog 61 true 34 := SZ.of (by kernel_rfl)
theorem sz91 : SZ Tryz.prog 91 false 1 := SZ.of (by kernel_rfl)
theorem sz92 : SZ Tryz.prog 92 false 1 := SZ.of (by kernel_rfl)
theorem fo94_0 : FO Tryz.prog 94 0 0 91 := FO.of (by kernel_rfl)
theorem fo94_1 : FO Tryz.prog 94 1 1 92 := FO.of (by kernel_rfl)
theorem en27 : Enters Tryz.prog 27 := ⟨_, Tryz.func27, rfl, rfl⟩
theorem en28 : Enters Tryz.prog 28 := ⟨_, Tryz.func28, rfl, rfl⟩
theorem en56 : Enters Tryz.prog 56 := ⟨_, Tryz.func56, rfl, rfl⟩
theorem en129 : Enters Tryz.prog 129 := ⟨_, Tryz.func129, rfl, rfl⟩
theorem en130 : Enters Tryz.prog 130 := ⟨_, Tryz.func130, rfl, rfl⟩
theorem pt91 : PT Tryz.prog 91 := PT.of (by kernel_rfl)
theorem up91_142 : UP Tryz.prog 91 142 := UP.of (by kernel_rfl)
theorem ul142_91_94_2 : UL Tryz.prog 142 91 94 2 := UL.of (by kernel_rfl)
theorem us121_5 : US Tryz.prog 121 5 := US.of (by kernel_rfl)
theorem ic30 : IC Tryz.prog 30 := ⟨_, Tryz.func30, by kernel_rfl, by kernel_rfl, by kernel_rfl, by kernel_rfl⟩
theorem ib96 : IB Tryz.prog 96 := ⟨_, Tryz.func96, by kernel_rfl, by kernel_rfl, by kernel_rfl, by kernel_rfl⟩
theorem ne78 : NE Tryz.prog 78 := ⟨_, Tryz.func78, by kernel_rfl, by kernel_rfl, by kernel_rfl, by kernel_rfl⟩
end Go.Proofs.YtkjkipkfndckfaaGreatDoor.AE
/- The library's contracts that this seat uses, laid at its dump. -/
namespace Go.Proofs
open Go.Shelf
def Tryz.lays156_ren : Go.Shelf.Ren := ⟨fun | 156 => 15 | 165 => 32 | 166 => 27 | 169 => 28 | 240 => 56 | 241 => 58 | 276 => 78 | 277 => 83 | n => n, fun | 31 => 71 | 9 => 9 | 3 => 3 | 4 => 4 | 0 => 0 | 20 => 20 | 72 => 94 | 76 => 97 | 70 => 91 | 37 => 92 | 75 => 96 | 127 => 121 | 164 => 142 | 5 => 5 | 80 => 99 | n => n, fun | n => n⟩
theorem Tryz.lays156 : Go.Proofs.Lays.n156 Tryz.prog Tryz.lays156_ren := {
  mixed := by kernel_rfl
  f156 := Tryz.func15.trans (congrArg some (by kernel_rfl))
  f165 := Tryz.func32.trans (congrArg some (by kernel_rfl))
  f166 := Tryz.func27.trans (congrArg some (by kernel_rfl))
  f169 := Tryz.func28.trans (congrArg some (by kernel_rfl))
  f240 := Tryz.func56.trans (congrArg some (by kernel_rfl))
  f241 := Tryz.func58.trans (congrArg some (by kernel_rfl))
  f276 := Tryz.func78.trans (congrArg some (by kernel_rfl))
  f277 := Tryz.func83.trans (congrArg some (by kernel_rfl))
  t0 := Tryz.underlying0
  a0 := Tryz.isAgg0
  z0 := Tryz.sizeOf0
  v0 := Tryz.zeroValue0
  t3 := Tryz.underlying3
  a3 := Tryz.isAgg3
  z3 := Tryz.sizeOf3
  v3 := Tryz.zeroValue3
  t4 := Tryz.underlying4
  a4 := Tryz.isAgg4
  z4 := Tryz.sizeOf4
  v4 := Tryz.zeroValue4
  t9 := Tryz.underlying9
  a9 := Tryz.isAgg9
  z9 := Tryz.sizeOf9
  v9 := Tryz.zeroValue9
  t20 := Tryz.underlying20
  a20 := Tryz.isAgg20
  z20 := Tryz.sizeOf20
  v20 := Tryz.zeroValue20
  t31 := Tryz.underlying71
  a31 := Tryz.isAgg71
  z31 := Tryz.sizeOf71
  v31 := Tryz.zeroValue71
  t37 := Tryz.underlying92
  a37 := Tryz.isAgg92
  z37 := Tryz.sizeOf92
  v37 := Tryz.zeroValue92
  t70 := Tryz.underlying91
  a70 := Tryz.isAgg91
  z70 := Tryz.sizeOf91
  v70 := Tryz.zeroValue91
  t72 := Tryz.underlying94
  a72 := Tryz.isAgg94
  z72 := Tryz.sizeOf94
  v72 := Tryz.zeroValue94
  t75 := Tryz.underlying96
  a75 := Tryz.isAgg96
  z75 := Tryz.sizeOf96
  v75 := Tryz.zeroValue96
  t76 := Tryz.underlying97
  a76 := Tryz.isAgg97
  z76 := Tryz.sizeOf97
  v76 := Tryz.zeroValue97
  t127 := Tryz.underlying121
  a127 := Tryz.isAgg121
  z127 := Tryz.sizeOf121
  v127 := Tryz.zeroValue121
  t164 := Tryz.underlying142
  a164 := Tryz.isAgg142
  z164 := Tryz.sizeOf142
  v164 := Tryz.zeroValue142 }
theorem Tryz.Builder_Extra_156 : Builder.Extra Tryz.prog Tryz.lays156_ren := {
  sizeBuilder := by kernel_rfl
  liesBuilder := by kernel_rfl
  t5 := Tryz.underlying5
  a5 := Tryz.isAgg5
  z5 := Tryz.sizeOf5
  v5 := Tryz.zeroValue5
  infoByte := by kernel_rfl
  cellsByte := by kernel_rfl
  sizeByte := by kernel_rfl
  neB5 := by decide }
open Go.RowKit in
theorem Tryz.strings_Join_none (a : Option Addr) (c : Nat) (sep : ByteArray) (w : World) :
    Calls Tryz.prog 15 #[.slice a 0 c, .string sep] w fun e w' => e = .returned (.string ⟨#[]⟩) ∧ w' = w := Any.strings_Join_none Tryz.lays156 Tryz.Builder_Extra_156 a c sep w
open Go.RowKit in
theorem Tryz.strings_Join (bk o c : Nat) (xs : List ByteArray) (sep : ByteArray) (w : World) (hcells : ∀ (j : Nat) x, xs[j]? = some x → w.cell? ⟨bk, o + j, none⟩ = some (.string x)) (hbk : bk < w.heap.size) (hN : xs.length ≤ 140737488355328) (hcap : xs.length ≤ c) (hlen : (Lib.join (xs.map (·.data.toList)) sep.data.toList).length ≤ 140737488355328) :
    Calls Tryz.prog 15 #[.slice (some ⟨bk, o, none⟩) xs.length c, .string sep] w fun e w' => e = .returned (.string ⟨(Lib.join (xs.map (·.data.toList)) sep.data.toList).toArray⟩) ∧ Below w.heap.size w w' := Any.strings_Join Tryz.lays156 Tryz.Builder_Extra_156 bk o c xs sep w hcells hbk hN hcap hlen
def Tryz.laysM171_ren : Go.Shelf.Ren := ⟨fun | 171 => 44 | 243 => 70 | 246 => 88 | 283 => 103 | 284 => 104 | 285 => 105 | 286 => 106 | 129 => 115 | 317 => 114 | 318 => 116 | 319 => 117 | 320 => 118 | 337 => 124 | 338 => 125 | n => n, fun | 3 => 3 | 9 => 9 | 2 => 2 | 4 => 4 | 171 => 168 | 0 => 0 | 53 => 104 | 37 => 92 | 5 => 5 | 173 => 171 | 212 => 185 | 51 => 22 | 20 => 20 | 213 => 186 | 46 => 145 | 232 => 202 | 233 => 203 | n => n, fun | 17 => 1 | 18 => 2 | 19 => 3 | n => n⟩
theorem Tryz.laysM171 : Go.Proofs.LaysM.n171 Tryz.prog Tryz.laysM171_ren := {
  mixed := by kernel_rfl
  f129 := Tryz.func115.trans (congrArg some (by kernel_rfl))
  f171 := Tryz.func44.trans (congrArg some (by kernel_rfl))
  f243 := Tryz.func70.trans (congrArg some (by kernel_rfl))
  f246 := Tryz.func88.trans (congrArg some (by kernel_rfl))
  f283 := Tryz.func103.trans (congrArg some (by kernel_rfl))
  f284 := Tryz.func104.trans (congrArg some (by kernel_rfl))
  f285 := Tryz.func105.trans (congrArg some (by kernel_rfl))
  f286 := Tryz.func106.trans (congrArg some (by kernel_rfl))
  f317 := Tryz.func114.trans (congrArg some (by kernel_rfl))
  f318 := Tryz.func116.trans (congrArg some (by kernel_rfl))
  f319 := Tryz.func117.trans (congrArg some (by kernel_rfl))
  f320 := Tryz.func118.trans (congrArg some (by kernel_rfl))
  f337 := Tryz.func124.trans (congrArg some (by kernel_rfl))
  f338 := Tryz.func125.trans (congrArg some (by kernel_rfl))
  t0 := Tryz.underlying0
  a0 := Tryz.isAgg0
  z0 := Tryz.sizeOf0
  v0 := Tryz.zeroValue0
  t2 := Tryz.underlying2
  a2 := Tryz.isAgg2
  z2 := Tryz.sizeOf2
  v2 := Tryz.zeroValue2
  t3 := Tryz.underlying3
  a3 := Tryz.isAgg3
  z3 := Tryz.sizeOf3
  v3 := Tryz.zeroValue3
  t4 := Tryz.underlying4
  a4 := Tryz.isAgg4
  z4 := Tryz.sizeOf4
  v4 := Tryz.zeroValue4
  t5 := Tryz.underlying5
  a5 := Tryz.isAgg5
  z5 := Tryz.sizeOf5
  v5 := Tryz.zeroValue5
  t9 := Tryz.underlying9
  a9 := Tryz.isAgg9
  z9 := Tryz.sizeOf9
  v9 := Tryz.zeroValue9
  t20 := Tryz.underlying20
  a20 := Tryz.isAgg20
  z20 := Tryz.sizeOf20
  v20 := Tryz.zeroValue20
  t37 := Tryz.underlying92
  a37 := Tryz.isAgg92
  z37 := Tryz.sizeOf92
  v37 := Tryz.zeroValue92
  t46 := Tryz.underlying145
  a46 := Tryz.isAgg145
  z46 := Tryz.sizeOf145
  v46 := Tryz.zeroValue145
  t51 := Tryz.underlying22
  a51 := Tryz.isAgg22
  z51 := Tryz.sizeOf22
  v51 := Tryz.zeroValue22
  t53 := Tryz.underlying104
  a53 := Tryz.isAgg104
  z53 := Tryz.sizeOf104
  v53 := Tryz.zeroValue104
  t171 := Tryz.underlying168
  a171 := Tryz.isAgg168
  z171 := Tryz.sizeOf168
  v171 := Tryz.zeroValue168
  t173 := Tryz.underlying171
  a173 := Tryz.isAgg171
  z173 := Tryz.sizeOf171
  v173 := Tryz.zeroValue171
  t212 := Tryz.underlying185
  a212 := Tryz.isAgg185
  z212 := Tryz.sizeOf185
  v212 := Tryz.zeroValue185
  t213 := Tryz.underlying186
  a213 := Tryz.isAgg186
  z213 := Tryz.sizeOf186
  t232 := Tryz.underlying202
  a232 := Tryz.isAgg202
  z232 := Tryz.sizeOf202
  v232 := Tryz.zeroValue202
  t233 := Tryz.underlying203
  a233 := Tryz.isAgg203
  z233 := Tryz.sizeOf203
  v233 := Tryz.zeroValue203
  g17 := by kernel_rfl
  g18 := by kernel_rfl
  g19 := by kernel_rfl
  i0 := by kernel_rfl
  i2 := by kernel_rfl
  i3 := by kernel_rfl
  i4 := by kernel_rfl
  i5 := by kernel_rfl
  i9 := by kernel_rfl
  i20 := by kernel_rfl
  i37 := by kernel_rfl
  i46 := by kernel_rfl
  i51 := by kernel_rfl
  i53 := by kernel_rfl
  i171 := by kernel_rfl
  i173 := by kernel_rfl
  i212 := by kernel_rfl
  i232 := by kernel_rfl
  i233 := by kernel_rfl
  m17 := by kernel_rfl
  m18 := by kernel_rfl
  m19 := by kernel_rfl }
open Go.RowKit Go.Sort Go.Lib in
theorem Tryz.strconv_Itoa (n : Int) (h0 : -9223372036854775808 ≤ n) (h1 : n ≤ 9223372036854775807) (w : World) (htab : Lib.TabIs Tryz.prog w "internal/strconv.uint64pow10" .u64 Lib.pow10Tab) :
    Calls Tryz.prog 44 #[.int .i64 n] w fun e w' => e = .returned (.string ⟨(Lib.itoa n).toArray⟩) ∧ ∃ k os, w' = grow (w.drewN k) os := Any.strconv_Itoa Tryz.laysM171 n h0 h1 w htab
end Go.Proofs
/- Contracts of the library's functions, in our form. -/
namespace Go.Proofs.YtkjkipkfndckfaaGreatDoor.AP
open Go
set_option linter.unusedVariables false
noncomputable section
def m_strings_Join (l : List ByteArray) (s : ByteArray) : Option ByteArray :=
  if l.length ≤ 140737488355328 ∧ (Lib.join (l.map (·.data.toList)) s.data.toList).length ≤ 140737488355328 then some ⟨(Lib.join (l.map (·.data.toList)) s.data.toList).toArray⟩ else none
def m_strconv_Itoa (n : Int) : Option ByteArray := if -9223372036854775808 ≤ n ∧ n ≤ 9223372036854775807 then some ⟨(Lib.itoa n).toArray⟩ else none
end
end Go.Proofs.YtkjkipkfndckfaaGreatDoor.AP
namespace Go.Proofs.YtkjkipkfndckfaaGreatDoor.AE
open Go Go.RowKit Go.Proofs.YtkjkipkfndckfaaGreatDoor.AP
set_option linter.unusedVariables false
theorem spec_of {P : Program} {g : Nat} {avs : List AV} {t : Ty} {y : t.den} (h : ∀ (N : Nat → Prop) (w : World) (vs : List Value), Glo w → AV.rels w N (fun _ => (0, 0)) [] avs vs →
    Calls P g vs.toArray w fun e w' => (∃ u, e = .returned u ∧ t.rel w' (fun _ => False) y u) ∧ Below w.heap.size w w') (hc : ∀ (w : World) (M M' : Nat → Prop) u, t.rel w M y u → t.rel w M' y u) : Spec P g avs (.v t y) [] :=
  fun N w vs hG hN hr => (h N w vs hG hr).mono fun e w' ⟨⟨u, he, hu⟩, hb⟩ => ⟨u, fun _ => (0, 0), he, Rep.none_, hc _ _ _ _ hu, hb⟩
theorem en15 : Enters Tryz.prog 15 := ⟨_, Tryz.func15, rfl, rfl⟩
theorem en44 : Enters Tryz.prog 44 := ⟨_, Tryz.func44, rfl, rfl⟩
theorem k_strconv_Itoa {p0 : Int} {y : ByteArray} (h : m_strconv_Itoa p0 = some y) : Spec Tryz.prog 44 [.v (.int .i64) p0] (.v .str y) [] := by
  unfold m_strconv_Itoa at h
  by_cases hc : -9223372036854775808 ≤ p0 ∧ p0 ≤ 9223372036854775807
  · rw [if_pos hc] at h
    obtain rfl := Option.some.inj h
    refine spec_of (t := .str) (fun N w vs hG hr => ?_) (fun _ _ _ _ h => h)
    obtain ⟨u, us, rfl, ⟨cs, h1, rfl⟩, h2⟩ := hr
    have h2 : us = [] := h2
    have h1 : cs = [.int .i64 p0] := h1
    subst h1 h2
    exact (Tryz.strconv_Itoa p0 hc.1 hc.2 w hG).mono fun e w' ⟨he, k, os, hw⟩ => ⟨⟨_, he, _, rfl, rfl⟩, by subst hw; exact Lib.below_grow _ w (Nat.le_refl _) k os⟩
  · rw [if_neg hc] at h; cases h
theorem k_strings_Join {p0 : List ByteArray} {p1 : ByteArray} {y : ByteArray} (h : m_strings_Join p0 p1 = some y) : Spec Tryz.prog 15 [.v (.sl .str) p0, .v .str p1] (.v .str y) [] := by
  unfold m_strings_Join at h
  by_cases hc : p0.length ≤ 140737488355328 ∧ (Lib.join (p0.map (·.data.toList)) p1.data.toList).length ≤ 140737488355328
  · rw [if_pos hc] at h
    obtain rfl := Option.some.inj h
    refine spec_of (t := .str) (fun N w vs hG hr => ?_) (fun _ _ _ _ h => h)
    obtain ⟨u, us, rfl, ⟨cs, h1, rfl⟩, u2, us2, rfl, ⟨cs2, h2, rfl⟩, h3⟩ := hr
    have h3 : us2 = [] := h3
    have h2 : cs2 = [.string p1] := h2
    subst h2 h3
    obtain ⟨A, c, rfl, hl, hm, hcell⟩ := h1
    have hl : p0.length ≤ c := hl
    have hcell : 0 < p0.length → ∃ ad : Addr, A = some ad ∧ ¬ N ad.block ∧ ∀ (i : Nat) (x : ByteArray), p0[i]? = some x → ∃ ds, ds = [Value.string x] ∧ ∀ (j : Nat) u, ds[j]? = some u → w.cell? (ad.add (i * 1 + j)) = some u := hcell
    cases p0 with
    | nil => exact (Tryz.strings_Join_none A c p1 w).mono fun e w' ⟨he, hw⟩ => ⟨⟨_, he, _, rfl, rfl⟩, by subst hw; exact Below.refl _ _⟩
    | cons x xs =>
      obtain ⟨ad, rfl, _, hx⟩ := hcell (Nat.zero_lt_succ _)
      have hget : ∀ (j : Nat) z, (x :: xs)[j]? = some z → w.cell? (ad.add j) = some (.string z) := fun j z hz => by
        obtain ⟨ds, rfl, hd⟩ := hx j z hz
        have := hd 0 _ rfl
        rwa [Nat.mul_one, Nat.add_zero] at this
      obtain ⟨b, o, s⟩ := ad
      have hs : s = none := by
        have h0 := hget 0 x rfl
        have e0 : (⟨b, o, s⟩ : Addr).add 0 = ⟨b, o, s⟩ := rfl
        rw [e0] at h0
        unfold World.cell? at h0
        cases s with
        | none => rfl
        | some v => split at h0 <;> simp at h0
      subst hs
      have hc2 : ∀ (j : Nat) z, (x :: xs)[j]? = some z → w.cell? ⟨b, o + j, none⟩ = some (.string z) := fun j z hz => by
        have := hget j z hz
        have e1 : (⟨b, o, none⟩ : Addr).add j = ⟨b, o + j, none⟩ := by unfold Addr.add; split <;> simp_all
        rwa [e1] at this
      exact (Tryz.strings_Join b o c (x :: xs) p1 w hc2 (cell_lt (hc2 0 x rfl)) hc.1 hl hc.2).mono fun e w' ⟨he, hw⟩ => ⟨⟨_, he, _, rfl, rfl⟩, hw⟩
  · rw [if_neg hc] at h; cases h
end Go.Proofs.YtkjkipkfndckfaaGreatDoor.AE
/- Functions of the program, as Lean functions (printed by a program of ours). -/
namespace Go.Proofs.YtkjkipkfndckfaaGreatDoor.AP
open Go
set_option linter.unusedVariables false
noncomputable section
def m_triviumref02_Clean_l1 (p0 : (List Int)) (p1 : Int) : (Int × (List Int)) → Option ((Int × (List Int)) ⊕ ((List Int)))
  | (v2, v3) =>
    bd (
      if decide (v2 < (p0.length : Int)) then (
        some (decide (v2 < p1)))
      else (
        some false)) fun v4 =>
    if v4 then (
      bd (rd p0 v2) fun x7 =>
      bd (rm .u64 x7 4294967296) fun x9 =>
      bd (ap 8 v3 [x9]) fun x11 =>
      some (.inl (wi64 (v2 + 1), x11)))
    else (
      some (.inr v3))
def m_triviumref02_Clean_l2  : (List Int) → Option (((List Int)) ⊕ ((List Int)))
  | v14 =>
    bd (
      if decide (0 < (v14.length : Int)) then (
        bd (rd v14 (wi64 ((v14.length : Int) - 1))) fun x17 =>
        some (decide (x17 = 0)))
      else (
        some false)) fun v15 =>
    if v15 then (
      bd (ct v14 0 (wi64 ((v14.length : Int) - 1))) fun x20 =>
      some (.inl x20))
    else (
      some (.inr v14))
def m_triviumref02_Clean (p0 : (List Int)) (p1 : Int) : Option ((List Int)) :=
  bd (lp (m_triviumref02_Clean_l1 p0 p1) (0, [])) fun v1 =>
  bd (lp (m_triviumref02_Clean_l2) v1) fun v13 =>
  some v13
def m_triviumref07_Clean (p0 : D_api_Int) (p1 : Int) : Option (D_api_Int) :=
  bd (m_triviumref02_Clean p0.2 p1) fun x1 =>
  if p0.1 then (
    some (decide (0 < (x1.length : Int)), x1))
  else (
    some (false, x1))
def m_triviumref02_Trim_l1 (p0 : (List Int)) : Int → Option ((Int) ⊕ (Int))
  | v2 =>
    bd (
      if decide (0 < v2) then (
        bd (rd p0 (wi64 (v2 - 1))) fun x5 =>
        some (decide (x5 = 0)))
      else (
        some false)) fun v3 =>
    if v3 then (
      some (.inl (wi64 (v2 - 1))))
    else (
      some (.inr v2))
def m_triviumref02_Trim (p0 : (List Int)) : Option ((List Int)) :=
  bd (lp (m_triviumref02_Trim_l1 p0) (p0.length : Int)) fun v1 =>
  bd (ct p0 0 v1) fun x8 =>
  bd (ap 8 [] x8) fun x10 =>
  some x10
def m_triviumref02_MulAdd_l1 (p0 : (List Int)) (p1 : Int) : (Int × Int × (List Int)) → Option ((Int × Int × (List Int)) ⊕ (Int × (List Int)))
  | (v3, v4, v5) =>
    if decide (v4 < (p0.length : Int)) then (
      bd (rd p0 v4) fun x7 =>
      bd (rm .i64 (wi64 (v3 + (wi64 (x7 * p1)))) 10000) fun x9 =>
      bd (ap 8 v5 [x9]) fun x11 =>
      bd (qd .i64 (wi64 (v3 + (wi64 (x7 * p1)))) 10000) fun x13 =>
      some (.inl (x13, wi64 (v4 + 1), x11)))
    else (
      some (.inr (v3, v5)))
def m_triviumref02_MulAdd_l2  : (Int × (List Int)) → Option ((Int × (List Int)) ⊕ ((List Int)))
  | (v16, v17) =>
    if decide (0 < v16) then (
      bd (rm .i64 v16 10000) fun x19 =>
      bd (ap 8 v17 [x19]) fun x21 =>
      bd (qd .i64 v16 10000) fun x23 =>
      some (.inl (x23, x21)))
    else (
      some (.inr v17))
def m_triviumref02_MulAdd (p0 : (List Int)) (p1 : Int) (p2 : Int) : Option ((List Int)) :=
  bd (lp (m_triviumref02_MulAdd_l1 p0 p1) (p2, 0, [])) fun (v1, v2) =>
  bd (lp (m_triviumref02_MulAdd_l2) (v1, v2)) fun v15 =>
  bd (m_triviumref02_Trim v15) fun x25 =>
  some x25
def m_triviumref02_Of_l1 (p0 : (List Int)) : ((List Int) × Int) → Option (((List Int) × Int) ⊕ ((List Int)))
  | (v2, v3) =>
    if decide (0 ≤ v3) then (
      bd (rd p0 v3) fun x5 =>
      bd (rm .u64 x5 4294967296) fun x7 =>
      bd (m_triviumref02_MulAdd v2 4294967296 (wi64 x7)) fun x9 =>
      some (.inl (x9, wi64 (v3 - 1))))
    else (
      some (.inr v2))
def m_triviumref02_Of (p0 : (List Int)) : Option ((List Int)) :=
  bd (lp (m_triviumref02_Of_l1 p0) ([], wi64 ((p0.length : Int) - 1))) fun v1 =>
  some v1
def m_triviumref07_made (p0 : Bool) (p1 : (List Int)) : Option (D_triviumref07_Z) :=
  if p0 then (
    some (decide (0 < (p1.length : Int)), p1))
  else (
    some (false, p1))
def m_triviumref07_Of (p0 : D_api_Int) : Option (D_triviumref07_Z) :=
  bd (m_triviumref02_Of p0.2) fun x1 =>
  bd (m_triviumref07_made p0.1 x1) fun x3 =>
  some (x3.1, x3.2)
def m_triviumref02_Cmp_l1 (p0 : (List Int)) (p1 : (List Int)) : Int → Option ((Int) ⊕ (Int))
  | v3 =>
    if decide (0 ≤ v3) then (
      bd (rd p0 v3) fun x5 =>
      bd (rd p1 v3) fun x7 =>
      if decide (x5 < x7) then (
        some (.inr (-1)))
      else (
        bd (rd p0 v3) fun x10 =>
        bd (rd p1 v3) fun x12 =>
        if decide (x12 < x10) then (
          some (.inr 1))
        else (
          some (.inl (wi64 (v3 - 1))))))
    else (
      some (.inr 0))
def m_triviumref02_Cmp (p0 : (List Int)) (p1 : (List Int)) : Option (Int) :=
  if !decide ((p0.length : Int) = (p1.length : Int)) then (
    if decide ((p0.length : Int) < (p1.length : Int)) then (
      some (-1))
    else (
      some 1))
  else (
    lp (m_triviumref02_Cmp_l1 p0 p1) (wi64 ((p0.length : Int) - 1)))
def m_triviumref02_Sub_l1 (p0 : (List Int)) (p1 : (List Int)) : (Int × Int × (List Int)) → Option ((Int × Int × (List Int)) ⊕ ((List Int)))
  | (v2, v3, v4) =>
    if decide (v3 < (p0.length : Int)) then (
      bd (rd p0 v3) fun x6 =>
      bd (
        if decide (v3 < (p1.length : Int)) then (
          bd (rd p1 v3) fun x10 =>
          some (wi64 ((wi64 (x6 - v2)) - x10)))
        else (
          some (wi64 (x6 - v2)))) fun v8 =>
      bd (
        if decide (v8 < 0) then (
          some (1, wi64 (v8 + 10000)))
        else (
          some (0, v8))) fun (v12, v13) =>
      bd (ap 8 v4 [v13]) fun x15 =>
      some (.inl (v12, wi64 (v3 + 1), x15)))
    else (
      some (.inr v4))
def m_triviumref02_Sub (p0 : (List Int)) (p1 : (List Int)) : Option ((List Int)) :=
  bd (lp (m_triviumref02_Sub_l1 p0 p1) (0, 0, [])) fun v1 =>
  bd (m_triviumref02_Trim v1) fun x17 =>
  some x17
def m_triviumref02_Div_l2 (p1 : (List Int)) (x15 : (List Int)) : (Int × Int) → Option ((Int × Int) ⊕ (Int))
  | (v18, v19) =>
    if decide (1 < (wi64 (v19 - v18))) then (
      bd (qd .i64 (wi64 (v18 + v19)) 2) fun x21 =>
      bd (m_triviumref02_MulAdd p1 x21 0) fun x23 =>
      bd (m_triviumref02_Cmp x23 x15) fun x25 =>
      if decide (x25 ≤ 0) then (
        some (.inl (x21, v19)))
      else (
        some (.inl (v18, x21))))
    else (
      some (.inr v18))
def m_triviumref02_Div_l1 (p0 : (List Int)) (p1 : (List Int)) : ((List Int) × Int × (List Int)) → Option (((List Int) × Int × (List Int)) ⊕ ((List Int) × (List Int)))
  | (v5, v6, v7) =>
    if decide (0 ≤ v6) then (
      bd (
        bd (rd p0 v6) fun x11 =>
        bd (ap 8 [x11] v5) fun x13 =>
        bd (m_triviumref02_Trim x13) fun x15 =>
        bd (lp (m_triviumref02_Div_l2 p1 x15) (0, 10000)) fun v17 =>
        bd (ix v7 v6) fun j28 =>
        lt (v7.set j28 v17) fun x30 =>
        bd (m_triviumref02_MulAdd p1 v17 0) fun x32 =>
        bd (m_triviumref02_Sub x15 x32) fun x34 =>
        some (x34, x30)) fun (v9, v10) =>
      some (.inl (v9, wi64 (v6 - 1), v10)))
    else (
      some (.inr (v5, v7)))
def m_triviumref02_Div (p0 : (List Int)) (p1 : (List Int)) : Option ((List Int) × (List Int)) :=
  bd (mk 8 0 (p0.length : Int) (p0.length : Int)) fun x1 =>
  bd (lp (m_triviumref02_Div_l1 p0 p1) ([], wi64 ((p0.length : Int) - 1), x1)) fun (v3, v4) =>
  bd (m_triviumref02_Trim v4) fun x36 =>
  some (x36, v3)
def m_triviumref02_Gcd_l1  : ((List Int) × (List Int)) → Option (((List Int) × (List Int)) ⊕ ((List Int)))
  | (v2, v3) =>
    if decide (0 < (v3.length : Int)) then (
      bd (m_triviumref02_Div v2 v3) fun x5 =>
      some (.inl (v3, x5.2)))
    else (
      some (.inr v2))
def m_triviumref02_Gcd (p0 : (List Int)) (p1 : (List Int)) : Option ((List Int)) :=
  bd (lp (m_triviumref02_Gcd_l1) (p0, p1)) fun v1 =>
  some v1
def m_triviumref08_Low (p0 : D_triviumref07_Z) (p1 : (List Int)) : Option (D_triviumref08_Q) :=
  bd (m_triviumref02_Gcd p0.2 p1) fun x1 =>
  bd (m_triviumref02_Div p0.2 x1) fun x3 =>
  bd (m_triviumref02_Div p1 x1) fun x5 =>
  if p0.1 then (
    some ((decide (0 < (x3.1.length : Int)), x3.1), x5.1))
  else (
    some ((false, x3.1), x5.1))
def m_triviumref02_DivSmall_l1 (p0 : (List Int)) (p1 : Int) : (Int × Int × (List Int)) → Option ((Int × Int × (List Int)) ⊕ (Int × (List Int)))
  | (v5, v6, v7) =>
    if decide (0 ≤ v6) then (
      bd (rd p0 v6) fun x9 =>
      bd (qd .i64 (wi64 ((wi64 (10000 * v5)) + x9)) p1) fun x11 =>
      bd (ix v7 v6) fun j13 =>
      lt (v7.set j13 x11) fun x15 =>
      bd (rm .i64 (wi64 ((wi64 (10000 * v5)) + x9)) p1) fun x17 =>
      some (.inl (x17, wi64 (v6 - 1), x15)))
    else (
      some (.inr (v5, v7)))
def m_triviumref02_DivSmall (p0 : (List Int)) (p1 : Int) : Option ((List Int) × Int) :=
  bd (mk 8 0 (p0.length : Int) (p0.length : Int)) fun x1 =>
  bd (lp (m_triviumref02_DivSmall_l1 p0 p1) (0, wi64 ((p0.length : Int) - 1), x1)) fun (v3, v4) =>
  bd (m_triviumref02_Trim v4) fun x19 =>
  some (x19, v3)
def m_triviumref02_Back_l1  : ((List Int) × (List Int)) → Option (((List Int) × (List Int)) ⊕ ((List Int)))
  | (v2, v3) =>
    if decide (0 < (v2.length : Int)) then (
      bd (m_triviumref02_DivSmall v2 4294967296) fun x5 =>
      bd (ap 8 v3 [wu64 x5.2]) fun x7 =>
      some (.inl (x5.1, x7)))
    else (
      some (.inr v3))
def m_triviumref02_Back (p0 : (List Int)) : Option ((List Int)) :=
  bd (lp (m_triviumref02_Back_l1) (p0, [])) fun v1 =>
  some v1
def m_triviumref07_Back (p0 : D_triviumref07_Z) : Option (D_api_Int) :=
  bd (m_triviumref02_Back p0.2) fun x1 =>
  some (p0.1, x1)
def m_triviumref08_Back (p0 : D_triviumref08_Q) : Option (D_api_Rat) :=
  bd (m_triviumref07_Back (p0.1.1, p0.1.2)) fun x1 =>
  bd (m_triviumref02_Back p0.2) fun x3 =>
  some ((x1.1, x1.2), x3)
def m_triviumref08_Clean (p0 : D_api_Rat) (p1 : Int) : Option (D_api_Rat) :=
  bd (m_triviumref02_Clean p0.2 p1) fun x1 =>
  bd (
    if decide ((x1.length : Int) = 0) then (
      some [1])
    else (
      some x1)) fun v3 =>
  bd (m_triviumref07_Clean (p0.1.1, p0.1.2) p1) fun x5 =>
  bd (m_triviumref07_Of x5) fun x7 =>
  bd (m_triviumref02_Of v3) fun x9 =>
  bd (m_triviumref08_Low x7 x9) fun x11 =>
  bd (m_triviumref08_Back x11) fun x13 =>
  some ((x13.1.1, x13.1.2), x13.2)
def m_triviumref08_Of (p0 : D_api_Rat) : Option (D_triviumref08_Q) :=
  bd (m_triviumref07_Of (p0.1.1, p0.1.2)) fun x1 =>
  bd (m_triviumref02_Of p0.2) fun x3 =>
  some ((x1.1, x1.2), x3)
def m_triviumlaw38_both (p0 : D_triviumlaw38_Told) : Option (D_engine_Answer × D_triviumref37_Answer) :=
  bd (m_triviumref08_Clean ((p0.2.2.2.2.2.2.1.1.1, p0.2.2.2.2.2.2.1.1.2), p0.2.2.2.2.2.2.1.2) 1) fun x1 =>
  bd (m_triviumref08_Clean ((p0.2.2.2.2.2.2.2.1.1.1, p0.2.2.2.2.2.2.2.1.1.2), p0.2.2.2.2.2.2.2.1.2) 1) fun x3 =>
  bd (m_triviumref08_Clean ((p0.2.2.2.2.2.2.2.2.1.1, p0.2.2.2.2.2.2.2.2.1.2), p0.2.2.2.2.2.2.2.2.2) 1) fun x5 =>
  bd (m_triviumref08_Of ((x1.1.1, x1.1.2), x1.2)) fun x7 =>
  bd (m_triviumref08_Of ((x3.1.1, x3.1.2), x3.2)) fun x9 =>
  bd (m_triviumref08_Of ((x5.1.1, x5.1.2), x5.2)) fun x11 =>
  bd (
    if p0.2.2.2.1 then (
      some (true, p0.2.2.2.2.2.1, x1.1.1, x1.1.2, x1.2, x3.1.1, x3.1.2, x3.2, true, p0.2.2.2.2.2.1, x7.1.1, x7.1.2, x7.2, x9.1.1, x9.1.2, x9.2))
    else (
      some (false, 0, false, [], [], false, [], [], false, 0, false, [], [], false, [], []))) fun (v13, v14, v15, v16, v17, v18, v19, v20, v21, v22, v23, v24, v25, v26, v27, v28) =>
  bd (
    if p0.2.2.2.2.1 then (
      bd (qd .u32 p0.2.2.2.2.2.1 2) fun x47 =>
      bd (qd .u32 p0.2.2.2.2.2.1 2) fun x49 =>
      some (true, x47, x3.1.1, x3.1.2, x3.2, x5.1.1, x5.1.2, x5.2, true, x49, x9.1.1, x9.1.2, x9.2, x11.1.1, x11.1.2, x11.2))
    else (
      some (false, 0, false, [], [], false, [], [], false, 0, false, [], [], false, [], []))) fun (v30, v31, v32, v33, v34, v35, v36, v37, v38, v39, v40, v41, v42, v43, v44, v45) =>
  some ((p0.1, (((x1.1.1, x1.1.2), x1.2), ((x3.1.1, x3.1.2), x3.2), ((x5.1.1, x5.1.2), x5.2)), (p0.2.2.1, ((x1.1.1, x1.1.2), x1.2)), ((x3.1.1, x3.1.2), x3.2), (p0.2.1, (v13, v14, ((v15, v16), v17), ((v18, v19), v20)), (v30, v31, ((v32, v33), v34), ((v35, v36), v37)))), (p0.1, (((x7.1.1, x7.1.2), x7.2), ((x9.1.1, x9.1.2), x9.2), ((x11.1.1, x11.1.2), x11.2)), (p0.2.2.1, ((x7.1.1, x7.1.2), x7.2)), ((x9.1.1, x9.1.2), x9.2), (p0.2.1, (v21, v22, ((v23, v24), v25), ((v26, v27), v28)), (v38, v39, ((v40, v41), v42), ((v43, v44), v45)))))
def m_triviumref22_short (p0 : ByteArray) : Option (ByteArray) :=
  bd (cs p0 0 (min (p0.size : Int) 20)) fun x1 =>
  some x1
def m_triviumref22_CleanQuery (p0 : D_api_Query) : Option (D_api_Query) :=
  bd (m_triviumref22_short p0.2.1) fun x1 =>
  bd (m_triviumref22_short p0.2.2.1) fun x3 =>
  bd (m_triviumref22_short p0.2.2.2.1) fun x5 =>
  bd (
    bd (
      if decide (p0.2.2.2.2.2.2 < (-1000000)) then (
        some true)
      else (
        some (decide (2147483648 < p0.2.2.2.2.2.2)))) fun v8 =>
    if v8 then (
      some 3)
    else (
      some p0.2.2.2.2.2.2)) fun v7 =>
  some (p0.1, x1, x3, x5, p0.2.2.2.2.1, (p0.2.2.2.2.2.1.1, p0.2.2.2.2.2.1.2), v7)
def m_triviumbase_Itoa_l1  : (ByteArray × Int) → Option ((ByteArray × Int) ⊕ (ByteArray))
  | (v3, v4) =>
    if !decide (v4 = 0) then (
      bd (rm .i64 v4 10) fun x6 =>
      bd (
        if decide (x6 < 0) then (
          some (wi64 (0 - x6)))
        else (
          some x6)) fun v8 =>
      bd (cat (tx [wu8 (wi64 (48 + v8))]) v3) fun x10 =>
      bd (qd .i64 v4 10) fun x12 =>
      some (.inl (x10, x12)))
    else (
      some (.inr v3))
def m_triviumbase_Itoa (p0 : Int) : Option (ByteArray) :=
  if decide (p0 = 0) then (
    some (bs [48]))
  else (
    bd (lp (m_triviumbase_Itoa_l1) ((bs []), p0)) fun v2 =>
    bd (
      if decide (p0 < 0) then (
        bd (cat (bs [45]) v2) fun x16 =>
        some x16)
      else (
        some v2)) fun v14 =>
    some v14)
def m_triviumref18_Print (p0 : Int) : Option (ByteArray) :=
  bd (qd .u32 p0 16777216) fun x1 =>
  bd (m_triviumbase_Itoa (wi64 x1)) fun x3 =>
  bd (cat x3 (bs [46])) fun x5 =>
  bd (qd .u32 p0 65536) fun x7 =>
  bd (rm .u32 x7 256) fun x9 =>
  bd (m_triviumbase_Itoa (wi64 x9)) fun x11 =>
  bd (cat x5 x11) fun x13 =>
  bd (cat x13 (bs [46])) fun x15 =>
  bd (qd .u32 p0 256) fun x17 =>
  bd (rm .u32 x17 256) fun x19 =>
  bd (m_triviumbase_Itoa (wi64 x19)) fun x21 =>
  bd (cat x15 x21) fun x23 =>
  bd (cat x23 (bs [46])) fun x25 =>
  bd (rm .u32 p0 256) fun x27 =>
  bd (m_triviumbase_Itoa (wi64 x27)) fun x29 =>
  bd (cat x25 x29) fun x31 =>
  some x31
def m_triviumref18_Size_l1  : (Int × Int) → Option ((Int × Int) ⊕ (Int))
  | (v2, v3) =>
    if decide (v3 < 32) then (
      some (.inl (wu64 (2 * v2), wi64 (v3 + 1))))
    else (
      some (.inr v2))
def m_triviumref18_Size (p0 : Int) : Option (Int) :=
  bd (lp (m_triviumref18_Size_l1) (1, p0)) fun v1 =>
  some v1
def m_triviumref18_May (p0 : D_api_Prefix) : Option (Bool) :=
  if decide (0 ≤ p0.2) then (
    if decide (p0.2 ≤ 32) then (
      bd (m_triviumref18_Size p0.2) fun x3 =>
      bd (rm .u64 (wu64 p0.1) x3) fun x5 =>
      some (decide (x5 = 0)))
    else (
      some false))
  else (
    some false)
def m_triviumref18_Text (p0 : D_api_Prefix) : Option (ByteArray) :=
  bd (m_triviumref18_May (p0.1, p0.2)) fun x1 =>
  if !x1 then (
    some (bs []))
  else (
    bd (m_triviumref18_Print p0.1) fun x4 =>
    bd (cat x4 (bs [47])) fun x6 =>
    bd (m_triviumbase_Itoa p0.2) fun x8 =>
    bd (cat x6 x8) fun x10 =>
    some x10)
def m_triviumref22_Query (p0 : D_api_Query) : Option (ByteArray) :=
  if decide (p0.1 = 1) then (
    bd (cat (bs [112, 114, 111, 98, 32]) p0.2.1) fun x2 =>
    bd (cat x2 (bs [32])) fun x4 =>
    bd (cat x4 p0.2.2.2.1) fun x6 =>
    bd (cat x6 (bs [32])) fun x8 =>
    bd (m_triviumref18_Print p0.2.2.2.2.1) fun x10 =>
    bd (cat x8 x10) fun x12 =>
    bd (cat x12 (bs [59])) fun x14 =>
    some x14)
  else (
    if decide (p0.1 = 2) then (
      bd (cat (bs [104, 111, 112, 115, 32]) p0.2.1) fun x17 =>
      bd (cat x17 (bs [32])) fun x19 =>
      bd (cat x19 p0.2.2.2.1) fun x21 =>
      bd (cat x21 (bs [32])) fun x23 =>
      bd (m_triviumref18_Print p0.2.2.2.2.1) fun x25 =>
      bd (cat x23 x25) fun x27 =>
      bd (cat x27 (bs [59])) fun x29 =>
      some x29)
    else (
      if decide (p0.1 = 3) then (
        bd (cat (bs [119, 105, 116, 104, 105, 110, 32]) p0.2.1) fun x32 =>
        bd (cat x32 (bs [32])) fun x34 =>
        bd (cat x34 p0.2.2.2.1) fun x36 =>
        bd (cat x36 (bs [32])) fun x38 =>
        bd (m_triviumref18_Print p0.2.2.2.2.1) fun x40 =>
        bd (cat x38 x40) fun x42 =>
        bd (cat x42 (bs [32])) fun x44 =>
        bd (m_triviumbase_Itoa p0.2.2.2.2.2.2) fun x46 =>
        bd (cat x44 x46) fun x48 =>
        bd (cat x48 (bs [59])) fun x50 =>
        some x50)
      else (
        if decide (p0.1 = 4) then (
          bd (cat (bs [99, 111, 109, 112, 97, 114, 101, 32]) p0.2.1) fun x53 =>
          bd (cat x53 (bs [32])) fun x55 =>
          bd (cat x55 p0.2.2.1) fun x57 =>
          bd (cat x57 (bs [32])) fun x59 =>
          bd (cat x59 p0.2.2.2.1) fun x61 =>
          bd (cat x61 (bs [32])) fun x63 =>
          bd (m_triviumref18_Text (p0.2.2.2.2.2.1.1, p0.2.2.2.2.2.1.2)) fun x65 =>
          bd (cat x63 x65) fun x67 =>
          bd (cat x67 (bs [59])) fun x69 =>
          some x69)
        else (
          some (bs [])))))
def m_triviumref02_Num (p0 : Int) : Option ((List Int)) :=
  bd (m_triviumref02_MulAdd [] 1 p0) fun x1 =>
  some x1
def m_triviumref02_Text_l1  : ((List Int) × (List Int)) → Option (((List Int) × (List Int)) ⊕ ((List Int)))
  | (v3, v4) =>
    if decide (0 < (v3.length : Int)) then (
      bd (m_triviumref02_DivSmall v3 10) fun x6 =>
      bd (ap 1 [wu8 (wi64 (48 + x6.2))] v4) fun x8 =>
      some (.inl (x6.1, x8)))
    else (
      some (.inr v4))
def m_triviumref02_Text (p0 : (List Int)) : Option (ByteArray) :=
  if decide ((p0.length : Int) = 0) then (
    some (bs [48]))
  else (
    bd (lp (m_triviumref02_Text_l1) (p0, [])) fun v2 =>
    some (tx v2))
def m_triviumref07_Print (p0 : D_triviumref07_Z) : Option (ByteArray) :=
  if p0.1 then (
    bd (m_triviumref02_Text p0.2) fun x2 =>
    bd (cat (bs [45]) x2) fun x4 =>
    some x4)
  else (
    bd (m_triviumref02_Text p0.2) fun x6 =>
    some x6)
def m_triviumref09_Print (p0 : D_triviumref08_Q) : Option (ByteArray) :=
  bd (m_triviumref02_Num 1) fun x1 =>
  bd (m_triviumref02_Cmp p0.2 x1) fun x3 =>
  if decide (x3 = 0) then (
    bd (m_triviumref07_Print (p0.1.1, p0.1.2)) fun x6 =>
    some x6)
  else (
    bd (m_triviumref07_Print (p0.1.1, p0.1.2)) fun x8 =>
    bd (cat x8 (bs [47])) fun x10 =>
    bd (m_triviumref02_Text p0.2) fun x12 =>
    bd (cat x10 x12) fun x14 =>
    some x14)
def m_triviumref38_Verdict (p0 : Int) : Option (ByteArray) :=
  bd (
    if decide (p0 < 0) then (
      some true)
    else (
      some (decide (4 < p0)))) fun v1 =>
  if v1 then (
    some (bs []))
  else (
    bd (rd [(bs []), (bs [101, 113, 117, 97, 108]), (bs [65, 32, 100, 111, 109, 105, 110, 97, 116, 101, 115]), (bs [66, 32, 100, 111, 109, 105, 110, 97, 116, 101, 115]), (bs [105, 110, 99, 111, 109, 112, 97, 114, 97, 98, 108, 101])] p0) fun x4 =>
    some x4)
def m_triviumref38_at (p0 : D_triviumref36_Witness) : Option (ByteArray) :=
  if !p0.1 then (
    some (bs []))
  else (
    bd (m_triviumref18_Print p0.2.1) fun x2 =>
    bd (cat (bs [32, 97, 116, 32]) x2) fun x4 =>
    bd (cat x4 (bs [32])) fun x6 =>
    bd (m_triviumref09_Print ((p0.2.2.1.1.1, p0.2.2.1.1.2), p0.2.2.1.2)) fun x8 =>
    bd (cat x6 x8) fun x10 =>
    bd (cat x10 (bs [32])) fun x12 =>
    bd (m_triviumref09_Print ((p0.2.2.2.1.1, p0.2.2.2.1.2), p0.2.2.2.2)) fun x14 =>
    bd (cat x12 x14) fun x16 =>
    some x16)
def m_triviumref38_Line (p0 : D_api_Query) (p1 : D_triviumref37_Answer) : Option (ByteArray) :=
  bd (m_triviumref22_Query (p0.1, p0.2.1, p0.2.2.1, p0.2.2.2.1, p0.2.2.2.2.1, (p0.2.2.2.2.2.1.1, p0.2.2.2.2.2.1.2), p0.2.2.2.2.2.2)) fun x1 =>
  bd (
    if decide (0 < (x1.size : Int)) then (
      bd (cs x1 0 (wi64 ((x1.size : Int) - 1))) fun x5 =>
      some x5)
    else (
      some x1)) fun v3 =>
  bd (cat v3 (bs [58, 32])) fun x7 =>
  if decide (p1.1 = 1) then (
    bd (cat x7 (bs [100, 101, 108, 105, 118, 101, 114, 32])) fun x10 =>
    bd (m_triviumref09_Print ((p1.2.1.1.1.1, p1.2.1.1.1.2), p1.2.1.1.2)) fun x12 =>
    bd (cat x10 x12) fun x14 =>
    bd (cat x14 (bs [32, 100, 114, 111, 112, 32])) fun x16 =>
    bd (m_triviumref09_Print ((p1.2.1.2.1.1.1, p1.2.1.2.1.1.2), p1.2.1.2.1.2)) fun x18 =>
    bd (cat x16 x18) fun x20 =>
    bd (cat x20 (bs [32, 108, 111, 111, 112, 32])) fun x22 =>
    bd (m_triviumref09_Print ((p1.2.1.2.2.1.1, p1.2.1.2.2.1.2), p1.2.1.2.2.2)) fun x24 =>
    bd (cat x22 x24) fun x26 =>
    some x26)
  else (
    bd (
      if decide (p1.1 = 2) then (
        some (!p1.2.2.1.1))
      else (
        some false)) fun v28 =>
    if v28 then (
      bd (cat x7 (bs [117, 110, 100, 101, 102, 105, 110, 101, 100])) fun x31 =>
      some x31)
    else (
      if decide (p1.1 = 2) then (
        bd (m_triviumref09_Print ((p1.2.2.1.2.1.1, p1.2.2.1.2.1.2), p1.2.2.1.2.2)) fun x34 =>
        bd (cat x7 x34) fun x36 =>
        some x36)
      else (
        if decide (p1.1 = 3) then (
          bd (m_triviumref09_Print ((p1.2.2.2.1.1.1, p1.2.2.2.1.1.2), p1.2.2.2.1.2)) fun x39 =>
          bd (cat x7 x39) fun x41 =>
          some x41)
        else (
          if decide (p1.1 = 4) then (
            bd (m_triviumref38_Verdict p1.2.2.2.2.1) fun x44 =>
            bd (cat x7 x44) fun x46 =>
            bd (m_triviumref38_at (p1.2.2.2.2.2.1.1, p1.2.2.2.2.2.1.2.1, ((p1.2.2.2.2.2.1.2.2.1.1.1, p1.2.2.2.2.2.1.2.2.1.1.2), p1.2.2.2.2.2.1.2.2.1.2), ((p1.2.2.2.2.2.1.2.2.2.1.1, p1.2.2.2.2.2.1.2.2.2.1.2), p1.2.2.2.2.2.1.2.2.2.2))) fun x48 =>
            bd (cat x46 x48) fun x50 =>
            bd (m_triviumref38_at (p1.2.2.2.2.2.2.1, p1.2.2.2.2.2.2.2.1, ((p1.2.2.2.2.2.2.2.2.1.1.1, p1.2.2.2.2.2.2.2.2.1.1.2), p1.2.2.2.2.2.2.2.2.1.2), ((p1.2.2.2.2.2.2.2.2.2.1.1, p1.2.2.2.2.2.2.2.2.2.1.2), p1.2.2.2.2.2.2.2.2.2.2))) fun x52 =>
            bd (cat x50 x52) fun x54 =>
            some x54)
          else (
            some (bs []))))))
def m_digits_based (p0 : Int) : Option (Int) :=
  bd (
    if decide (p0 < 2) then (
      some true)
    else (
      some (decide (36 < p0)))) fun v1 =>
  if v1 then (
    some 2)
  else (
    some 0)
def m_digits_chunk_l1 (p0 : Int) : (Int × Int) → Option ((Int × Int) ⊕ (Int × Int))
  | (v3, v4) =>
    if decide ((wu64 (v3 * (wu64 p0))) < 4294967296) then (
      some (.inl (wu64 (v3 * (wu64 p0)), wi64 (v4 + 1))))
    else (
      some (.inr (v3, v4)))
def m_digits_chunk (p0 : Int) : Option (Int × Int) :=
  bd (lp (m_digits_chunk_l1 p0) (wu64 p0, 1)) fun (v1, v2) =>
  some (v1, v2)
def m_nat_trim_l1 (p0 : (List Int)) : Int → Option ((Int) ⊕ (Int))
  | v2 =>
    bd (
      if decide (0 < v2) then (
        bd (rd p0 (wi64 (v2 - 1))) fun x5 =>
        some (decide (x5 = 0)))
      else (
        some false)) fun v3 =>
    if v3 then (
      some (.inl (wi64 (v2 - 1))))
    else (
      some (.inr v2))
def m_nat_trim (p0 : (List Int)) : Option ((List Int)) :=
  bd (lp (m_nat_trim_l1 p0) (p0.length : Int)) fun v1 =>
  bd (ct p0 0 v1) fun x8 =>
  some x8
def m_nat_Make_l1 (p0 : (List Int)) : (Int × (List Int)) → Option ((Int × (List Int)) ⊕ ((List Int) × Int))
  | (v3, v4) =>
    if decide (v3 < (p0.length : Int)) then (
      bd (rd p0 v3) fun x6 =>
      if decide (4294967296 ≤ x6) then (
        some (.inr ([], 2)))
      else (
        bd (ap 8 v4 [x6]) fun x9 =>
        some (.inl (wi64 (v3 + 1), x9))))
    else (
      bd (m_nat_trim v4) fun x11 =>
      some (.inr (x11, 0)))
def m_nat_Make (p0 : (List Int)) : Option ((List Int) × Int) :=
  bd (mk 8 0 0 (p0.length : Int)) fun x1 =>
  lp (m_nat_Make_l1 p0) (0, x1)
def m_limb_Div (p0 : Int) (p1 : Int) (p2 : Int) : Option (Int × Int × Int) :=
  lt (decide ((Go.bits .and .u64 p2 4294967295) = 0)) fun x1 =>
  if x1 then (
    some (0, 0, 3))
  else (
    lt (decide ((Go.bits .and .u64 p2 4294967295) ≤ (Go.bits .and .u64 p0 4294967295))) fun x4 =>
    if x4 then (
      some (0, 0, 2))
    else (
      bd (sh .u64 (Go.bits .and .u64 p0 4294967295) 32) fun x7 =>
      lt (Go.bits .or .u64 x7 (Go.bits .and .u64 p1 4294967295)) fun x9 =>
      bd (qd .u64 x9 (Go.bits .and .u64 p2 4294967295)) fun x11 =>
      bd (rm .u64 x9 (Go.bits .and .u64 p2 4294967295)) fun x13 =>
      some (x11, x13, 0)))
def m_divide_Small_l1 (p0 : (List Int)) (p1 : Int) : (Int × Int × (List Int)) → Option ((Int × Int × (List Int)) ⊕ (Int × (List Int)))
  | (v8, v9, v10) =>
    if decide (v9 < (p0.length : Int)) then (
      lt (wi64 ((wi64 ((p0.length : Int) - 1)) - v9)) fun x12 =>
      bd (rd p0 x12) fun x14 =>
      bd (m_limb_Div v8 x14 p1) fun x16 =>
      bd (ix v10 x12) fun j18 =>
      lt (v10.set j18 x16.1) fun x20 =>
      some (.inl (x16.2.1, wi64 (v9 + 1), x20)))
    else (
      some (.inr (v8, v10)))
def m_divide_Small (p0 : (List Int)) (p1 : Int) : Option ((List Int) × Int × Int) :=
  bd (rm .u64 p1 4294967296) fun x1 =>
  if decide (x1 = 0) then (
    some ([], 0, 3))
  else (
    bd (mk 8 0 (p0.length : Int) (p0.length : Int)) fun x4 =>
    bd (lp (m_divide_Small_l1 p0 p1) (0, 0, x4)) fun (v6, v7) =>
    bd (m_nat_Make v7) fun x22 =>
    some (x22.1, v6, 0))
def m_digits_piece_l1 (p1 : Int) (p2 : Int) : (Int × Int × (List Int)) → Option ((Int × Int × (List Int)) ⊕ ((List Int)))
  | (v4, v5, v6) =>
    if decide (v5 < p2) then (
      bd (rm .u64 v4 (wu64 p1)) fun x8 =>
      bd (bt (bs [48, 49, 50, 51, 52, 53, 54, 55, 56, 57, 97, 98, 99, 100, 101, 102, 103, 104, 105, 106, 107, 108, 109, 110, 111, 112, 113, 114, 115, 116, 117, 118, 119, 120, 121, 122]) x8) fun x10 =>
      bd (ix v6 (wi64 ((wi64 (p2 - 1)) - v5))) fun j12 =>
      lt (v6.set j12 x10) fun x14 =>
      bd (qd .u64 v4 (wu64 p1)) fun x16 =>
      some (.inl (x16, wi64 (v5 + 1), x14)))
    else (
      some (.inr v6))
def m_digits_piece (p0 : Int) (p1 : Int) (p2 : Int) : Option (ByteArray) :=
  bd (mk 1 0 p2 p2) fun x1 =>
  bd (lp (m_digits_piece_l1 p1 p2) (p0, 0, x1)) fun v3 =>
  some (tx v3)
def m_strings_Builder_copyCheck_M (o1_0 : Bool) (o2 : (List Int)) : Option (Bool) :=
  if o1_0 then (
    some false)
  else (
    some o1_0)
def m_strings_Builder_WriteString_M (p1 : ByteArray) (o1_0 : Bool) (o2 : (List Int)) : Option (Bool × (List Int)) :=
  bd (m_strings_Builder_copyCheck_M o1_0 o2) fun x2 =>
  bd (apS_ o2 p1) fun x3 =>
  some (x2, x3)
def m_strings_Builder_String_M (o1_0 : Bool) (o2 : (List Int)) : Option (ByteArray) :=
  if decide (o2.length = 0) then (
    some (bs []))
  else (
    bd (ust o2) fun x2 =>
    some x2)
def m_strings_trimLeftByte_l1 (p1 : Int) : ByteArray → Option ((ByteArray) ⊕ (ByteArray))
  | v2 =>
    bd (
      if decide (0 < (v2.size : Int)) then (
        bd (bt v2 0) fun x5 =>
        some (decide (x5 = p1)))
      else (
        some false)) fun v3 =>
    if v3 then (
      bd (cs v2 1 v2.size) fun x8 =>
      some (.inl x8))
    else (
      some (.inr v2))
def m_strings_trimLeftByte (p0 : ByteArray) (p1 : Int) : Option (ByteArray) :=
  bd (lp (m_strings_trimLeftByte_l1 p1) p0) fun v1 =>
  some v1
def m_strings_TrimLeft (p0 : ByteArray) (p1 : ByteArray) : Option (ByteArray) :=
  bd (
    if sq p0 (bs []) then (
      some true)
    else (
      some (sq p1 (bs [])))) fun v1 =>
  if v1 then (
    some p0)
  else (
    bd (
      if decide ((p1.size : Int) = 1) then (
        bd (bt p1 0) fun x6 =>
        some (decide (x6 < 128)))
      else (
        some false)) fun v4 =>
    if v4 then (
      bd (bt p1 0) fun x9 =>
      bd (m_strings_trimLeftByte p0 x9) fun x11 =>
      some x11)
    else (
      none))
def m_digits_In_l1 (p1 : Int) (x4 : (Int × Int)) : ((List Int) × (List ByteArray)) → Option (((List Int) × (List ByteArray)) ⊕ ((List ByteArray)))
  | (v9, v10) =>
    if decide (0 < (v9.length : Int)) then (
      bd (m_divide_Small v9 x4.1) fun x12 =>
      bd (m_digits_piece x12.2.1 p1 x4.2) fun x14 =>
      bd (ap 16 v10 [x14]) fun x16 =>
      some (.inl (x12.1, x16)))
    else (
      some (.inr v10))
def m_digits_In_l2 (v8 : (List ByteArray)) : (Int × Bool × (List Int)) → Option ((Int × Bool × (List Int)) ⊕ (Bool × (List Int)))
  | (v20, v21, v22) =>
    if decide (v20 < (v8.length : Int)) then (
      bd (rd v8 (wi64 ((wi64 ((v8.length : Int) - 1)) - v20))) fun x24 =>
      bd (m_strings_Builder_WriteString_M x24 v21 v22) fun x27 =>
      some (.inl (wi64 (v20 + 1), x27.1, x27.2)))
    else (
      some (.inr (v21, v22)))
def m_digits_In (p0 : (List Int)) (p1 : Int) : Option (ByteArray × Int) :=
  bd (m_digits_based p1) fun x1 =>
  if !decide (x1 = 0) then (
    some ((bs []), x1))
  else (
    bd (m_digits_chunk p1) fun x4 =>
    bd (m_nat_Make p0) fun x6 =>
    bd (lp (m_digits_In_l1 p1 x4) (x6.1, [])) fun v8 =>
    bd (lp (m_digits_In_l2 v8) (0, true, [])) fun (v18, v19) =>
    bd (m_strings_Builder_String_M v18 v19) fun x29 =>
    bd (m_strings_TrimLeft x29 (bs [48])) fun x30 =>
    bd (
      if sq x30 (bs []) then (
        some (bs [48]))
      else (
        some x30)) fun v32 =>
    some (v32, 0))
def m_digits_Print (p0 : (List Int)) : Option (ByteArray) :=
  bd (m_digits_In p0 10) fun x1 =>
  some x1.1
def m_whole_Print (p0 : D_api_Int) : Option (ByteArray) :=
  if p0.1 then (
    bd (m_digits_Print p0.2) fun x2 =>
    bd (cat (bs [45]) x2) fun x4 =>
    some x4)
  else (
    bd (m_digits_Print p0.2) fun x6 =>
    some x6)
def m_nat_Of (p0 : Int) : Option ((List Int)) :=
  bd (rm .u64 p0 4294967296) fun x1 =>
  bd (sr .u64 p0 32) fun x3 =>
  bd (m_nat_trim [x1, x3]) fun x5 =>
  some x5
def m_nat_Cmp_l1 (p0 : (List Int)) (p1 : (List Int)) : Int → Option ((Int) ⊕ (Int))
  | v7 =>
    if decide (0 ≤ v7) then (
      bd (rd p0 v7) fun x9 =>
      bd (rd p1 v7) fun x11 =>
      if decide (x9 < x11) then (
        some (.inr (-1)))
      else (
        bd (rd p0 v7) fun x14 =>
        bd (rd p1 v7) fun x16 =>
        if decide (x16 < x14) then (
          some (.inr 1))
        else (
          some (.inl (wi64 (v7 - 1))))))
    else (
      some (.inr 0))
def m_nat_Cmp (p0 : (List Int)) (p1 : (List Int)) : Option (Int) :=
  lt (decide ((p0.length : Int) < (p1.length : Int))) fun x1 =>
  if x1 then (
    some (-1))
  else (
    lt (decide ((p1.length : Int) < (p0.length : Int))) fun x4 =>
    if x4 then (
      some 1)
    else (
      lp (m_nat_Cmp_l1 p0 p1) (wi64 ((p0.length : Int) - 1))))
def m_ratio_Print (p0 : D_api_Rat) : Option (ByteArray) :=
  bd (m_whole_Print (p0.1.1, p0.1.2)) fun x1 =>
  bd (m_nat_Of 1) fun x3 =>
  bd (m_nat_Cmp p0.2 x3) fun x5 =>
  if decide (x5 = 0) then (
    some x1)
  else (
    bd (cat x1 (bs [47])) fun x8 =>
    bd (m_digits_Print p0.2) fun x10 =>
    bd (cat x8 x10) fun x12 =>
    some x12)
def m_report_Words (p0 : (List ByteArray)) : Option (ByteArray) :=
  bd (m_strings_Join p0 (bs [32])) fun x1 =>
  some x1
def m_report_Verdict (p0 : Int) : Option (ByteArray) :=
  if decide (p0 = 1) then (
    some (bs [101, 113, 117, 97, 108]))
  else (
    if decide (p0 = 2) then (
      lt (bs [65, 32, 100, 111, 109, 105, 110, 97, 116, 101, 115]) fun x3 =>
      some x3)
    else (
      if decide (p0 = 3) then (
        lt (bs [66, 32, 100, 111, 109, 105, 110, 97, 116, 101, 115]) fun x6 =>
        some x6)
      else (
        if decide (p0 = 4) then (
          lt (bs [105, 110, 99, 111, 109, 112, 97, 114, 97, 98, 108, 101]) fun x9 =>
          some x9)
        else (
          some (bs [])))))
def m_addr_Print_l1 (p0 : Int) (x1 : (List ByteArray)) : (Int × (List ByteArray)) → Option ((Int × (List ByteArray)) ⊕ ((List ByteArray)))
  | (v4, v5) =>
    if decide (v4 < (x1.length : Int)) then (
      bd (sr .u32 p0 (wi64 (8 * (wi64 (3 - v4))))) fun x7 =>
      bd (m_strconv_Itoa (wi64 (Go.bits .and .u32 x7 255))) fun x9 =>
      bd (ix v5 v4) fun j11 =>
      lt (v5.set j11 x9) fun x13 =>
      some (.inl (wi64 (v4 + 1), x13)))
    else (
      some (.inr v5))
def m_addr_Print (p0 : Int) : Option (ByteArray) :=
  bd (mk 16 (bs []) 4 4) fun x1 =>
  bd (lp (m_addr_Print_l1 p0 x1) (0, x1)) fun v3 =>
  bd (m_strings_Join v3 (bs [46])) fun x15 =>
  some x15
def m_report_verdict_l1 (p0 : D_compare_Verdict) : (Int × (List ByteArray)) → Option ((Int × (List ByteArray)) ⊕ ((List ByteArray)))
  | (v4, v5) =>
    if decide (v4 < 2) then (
      bd (
        bd (rd [(p0.2.1.1, p0.2.1.2.1, ((p0.2.1.2.2.1.1.1, p0.2.1.2.2.1.1.2), p0.2.1.2.2.1.2), ((p0.2.1.2.2.2.1.1, p0.2.1.2.2.2.1.2), p0.2.1.2.2.2.2)), (p0.2.2.1, p0.2.2.2.1, ((p0.2.2.2.2.1.1.1, p0.2.2.2.2.1.1.2), p0.2.2.2.2.1.2), ((p0.2.2.2.2.2.1.1, p0.2.2.2.2.2.1.2), p0.2.2.2.2.2.2))] v4) fun x8 =>
        if x8.1 then (
          bd (m_addr_Print x8.2.1) fun x11 =>
          bd (m_ratio_Print ((x8.2.2.1.1.1, x8.2.2.1.1.2), x8.2.2.1.2)) fun x13 =>
          bd (m_ratio_Print ((x8.2.2.2.1.1, x8.2.2.2.1.2), x8.2.2.2.2)) fun x15 =>
          bd (ap 16 v5 [(bs [97, 116]), x11, x13, x15]) fun x17 =>
          some x17)
        else (
          some v5)) fun v7 =>
      some (.inl (wi64 (v4 + 1), v7)))
    else (
      some (.inr v5))
def m_report_verdict (p0 : D_compare_Verdict) : Option (ByteArray) :=
  bd (m_report_Verdict p0.1) fun x1 =>
  bd (lp (m_report_verdict_l1 p0) (0, [x1])) fun v3 =>
  bd (m_report_Words v3) fun x19 =>
  some x19
def m_report_told (p0 : D_engine_Answer) : Option (ByteArray × Bool) :=
  if decide (p0.1 = 1) then (
    bd (m_ratio_Print ((p0.2.1.1.1.1, p0.2.1.1.1.2), p0.2.1.1.2)) fun x2 =>
    bd (m_ratio_Print ((p0.2.1.2.1.1.1, p0.2.1.2.1.1.2), p0.2.1.2.1.2)) fun x4 =>
    bd (m_ratio_Print ((p0.2.1.2.2.1.1, p0.2.1.2.2.1.2), p0.2.1.2.2.2)) fun x6 =>
    bd (m_report_Words [(bs [100, 101, 108, 105, 118, 101, 114]), x2, (bs [100, 114, 111, 112]), x4, (bs [108, 111, 111, 112]), x6]) fun x8 =>
    some (x8, true))
  else (
    if decide (p0.1 = 2) then (
      if !p0.2.2.1.1 then (
        lt (bs [117, 110, 100, 101, 102, 105, 110, 101, 100]) fun x12 =>
        some (x12, true))
      else (
        bd (m_ratio_Print ((p0.2.2.1.2.1.1, p0.2.2.1.2.1.2), p0.2.2.1.2.2)) fun x14 =>
        some (x14, true)))
    else (
      if decide (p0.1 = 3) then (
        bd (m_ratio_Print ((p0.2.2.2.1.1.1, p0.2.2.2.1.1.2), p0.2.2.2.1.2)) fun x17 =>
        some (x17, true))
      else (
        if decide (p0.1 = 4) then (
          bd (m_report_verdict (p0.2.2.2.2.1, (p0.2.2.2.2.2.1.1, p0.2.2.2.2.2.1.2.1, ((p0.2.2.2.2.2.1.2.2.1.1.1, p0.2.2.2.2.2.1.2.2.1.1.2), p0.2.2.2.2.2.1.2.2.1.2), ((p0.2.2.2.2.2.1.2.2.2.1.1, p0.2.2.2.2.2.1.2.2.2.1.2), p0.2.2.2.2.2.1.2.2.2.2)), (p0.2.2.2.2.2.2.1, p0.2.2.2.2.2.2.2.1, ((p0.2.2.2.2.2.2.2.2.1.1.1, p0.2.2.2.2.2.2.2.2.1.1.2), p0.2.2.2.2.2.2.2.2.1.2), ((p0.2.2.2.2.2.2.2.2.2.1.1, p0.2.2.2.2.2.2.2.2.2.1.2), p0.2.2.2.2.2.2.2.2.2.2)))) fun x20 =>
          some (x20, true))
        else (
          some ((bs []), false)))))
def m_canon_words (p0 : (List ByteArray)) : Option (ByteArray) :=
  bd (m_strings_Join p0 (bs [32])) fun x1 =>
  some x1
def m_addr_Mask (p0 : Int) : Option (Int) :=
  bd (sh .u64 4294967295 (wi64 (32 - (min (max p0 0) 32)))) fun x1 =>
  some (wu32 x1)
def m_addr_May (p0 : D_api_Prefix) : Option (Bool) :=
  if decide (0 ≤ p0.2) then (
    if decide (p0.2 ≤ 32) then (
      bd (m_addr_Mask p0.2) fun x3 =>
      lt (decide ((Go.bits .andNot .u32 p0.1 x3) = 0)) fun x5 =>
      some x5)
    else (
      some false))
  else (
    some false)
def m_addr_Text (p0 : D_api_Prefix) : Option (ByteArray) :=
  bd (m_addr_May (p0.1, p0.2)) fun x1 =>
  if !x1 then (
    some (bs []))
  else (
    bd (m_addr_Print p0.1) fun x4 =>
    bd (cat x4 (bs [47])) fun x6 =>
    bd (m_strconv_Itoa p0.2) fun x8 =>
    bd (cat x6 x8) fun x10 =>
    some x10)
def m_canon_Query (p0 : D_api_Query) : Option (ByteArray) :=
  bd (m_addr_Print p0.2.2.2.2.1) fun x1 =>
  if decide (p0.1 = 1) then (
    bd (m_canon_words [(bs [112, 114, 111, 98]), p0.2.1, p0.2.2.2.1, x1]) fun x4 =>
    bd (cat x4 (bs [59])) fun x6 =>
    some x6)
  else (
    if decide (p0.1 = 2) then (
      bd (m_canon_words [(bs [104, 111, 112, 115]), p0.2.1, p0.2.2.2.1, x1]) fun x9 =>
      bd (cat x9 (bs [59])) fun x11 =>
      some x11)
    else (
      if decide (p0.1 = 3) then (
        bd (m_strconv_Itoa p0.2.2.2.2.2.2) fun x14 =>
        bd (m_canon_words [(bs [119, 105, 116, 104, 105, 110]), p0.2.1, p0.2.2.2.1, x1, x14]) fun x16 =>
        bd (cat x16 (bs [59])) fun x18 =>
        some x18)
      else (
        if decide (p0.1 = 4) then (
          bd (m_addr_Text (p0.2.2.2.2.2.1.1, p0.2.2.2.2.2.1.2)) fun x21 =>
          bd (m_canon_words [(bs [99, 111, 109, 112, 97, 114, 101]), p0.2.1, p0.2.2.1, p0.2.2.2.1, x21]) fun x23 =>
          bd (cat x23 (bs [59])) fun x25 =>
          some x25)
        else (
          some (bs [])))))
def m_internal_stringslite_HasSuffix (p0 : ByteArray) (p1 : ByteArray) : Option (Bool) :=
  if decide ((p1.size : Int) ≤ (p0.size : Int)) then (
    bd (cs p0 (wi64 ((p0.size : Int) - (p1.size : Int))) p0.size) fun x2 =>
    some (sq x2 p1))
  else (
    some false)
def m_internal_stringslite_TrimSuffix (p0 : ByteArray) (p1 : ByteArray) : Option (ByteArray) :=
  bd (m_internal_stringslite_HasSuffix p0 p1) fun x1 =>
  if x1 then (
    bd (cs p0 0 (wi64 ((p0.size : Int) - (p1.size : Int)))) fun x4 =>
    some x4)
  else (
    some p0)
def m_strings_TrimSuffix (p0 : ByteArray) (p1 : ByteArray) : Option (ByteArray) :=
  bd (m_internal_stringslite_TrimSuffix p0 p1) fun x1 =>
  some x1
def m_report_Line (p0 : D_api_Query) (p1 : D_engine_Answer) : Option (ByteArray) :=
  bd (m_report_told (p1.1, (((p1.2.1.1.1.1, p1.2.1.1.1.2), p1.2.1.1.2), ((p1.2.1.2.1.1.1, p1.2.1.2.1.1.2), p1.2.1.2.1.2), ((p1.2.1.2.2.1.1, p1.2.1.2.2.1.2), p1.2.1.2.2.2)), (p1.2.2.1.1, ((p1.2.2.1.2.1.1, p1.2.2.1.2.1.2), p1.2.2.1.2.2)), ((p1.2.2.2.1.1.1, p1.2.2.2.1.1.2), p1.2.2.2.1.2), (p1.2.2.2.2.1, (p1.2.2.2.2.2.1.1, p1.2.2.2.2.2.1.2.1, ((p1.2.2.2.2.2.1.2.2.1.1.1, p1.2.2.2.2.2.1.2.2.1.1.2), p1.2.2.2.2.2.1.2.2.1.2), ((p1.2.2.2.2.2.1.2.2.2.1.1, p1.2.2.2.2.2.1.2.2.2.1.2), p1.2.2.2.2.2.1.2.2.2.2)), (p1.2.2.2.2.2.2.1, p1.2.2.2.2.2.2.2.1, ((p1.2.2.2.2.2.2.2.2.1.1.1, p1.2.2.2.2.2.2.2.2.1.1.2), p1.2.2.2.2.2.2.2.2.1.2), ((p1.2.2.2.2.2.2.2.2.2.1.1, p1.2.2.2.2.2.2.2.2.2.1.2), p1.2.2.2.2.2.2.2.2.2.2))))) fun x1 =>
  if !x1.2 then (
    some (bs []))
  else (
    bd (m_canon_Query (p0.1, p0.2.1, p0.2.2.1, p0.2.2.2.1, p0.2.2.2.2.1, (p0.2.2.2.2.2.1.1, p0.2.2.2.2.2.1.2), p0.2.2.2.2.2.2)) fun x4 =>
    bd (m_strings_TrimSuffix x4 (bs [59])) fun x6 =>
    bd (cat x6 (bs [58])) fun x8 =>
    bd (m_report_Words [x8, x1.1]) fun x10 =>
    some x10)
def m_report_All_l1 (p0 : (List D_api_Query)) (p1 : (List D_engine_Answer)) : (Int × Bool × (List Int)) → Option ((Int × Bool × (List Int)) ⊕ (Bool × (List Int)))
  | (v3, v4, v5) =>
    if decide (v3 < (min (p0.length : Int) (p1.length : Int))) then (
      bd (rd p0 v3) fun x7 =>
      bd (rd p1 v3) fun x9 =>
      bd (m_report_Line x7 x9) fun x11 =>
      bd (cat x11 (bs [10])) fun x13 =>
      bd (m_strings_Builder_WriteString_M x13 v4 v5) fun x16 =>
      some (.inl (wi64 (v3 + 1), x16.1, x16.2)))
    else (
      some (.inr (v4, v5)))
def m_report_All (p0 : (List D_api_Query)) (p1 : (List D_engine_Answer)) : Option (ByteArray) :=
  bd (lp (m_report_All_l1 p0 p1) (0, true, [])) fun (v1, v2) =>
  bd (m_strings_Builder_String_M v1 v2) fun x18 =>
  some x18
def m_unicode_utf8_RuneCountInString_l1 (p0 : ByteArray) : (Int × Nat) → Option ((Int × Nat) ⊕ (Int))
  | (v2, v3) =>
    if decide (v3 < p0.size) then (
      some (.inl (wi64 (v2 + 1), dcn p0 v3)))
    else (
      some (.inr v2))
def m_unicode_utf8_RuneCountInString (p0 : ByteArray) : Option (Int) :=
  bd (lp (m_unicode_utf8_RuneCountInString_l1 p0) (0, 0)) fun v1 =>
  some v1
def m_internal_stringslite_IndexByte (p0 : ByteArray) (p1 : Int) : Option (Int) :=
  some (ixb p0 p1)
def m_internal_stringslite_Index (p0 : ByteArray) (p1 : ByteArray) : Option (Int) :=
  bd (
    if decide ((p1.size : Int) = 0) then (
      some true)
    else (
      some (sq p1 p0))) fun v1 =>
  if v1 then (
    some 0)
  else (
    if decide ((p1.size : Int) = 1) then (
      bd (bt p1 0) fun x5 =>
      bd (m_internal_stringslite_IndexByte p0 x5) fun x7 =>
      some x7)
    else (
      lt (decide ((p0.size : Int) ≤ (p1.size : Int))) fun x9 =>
      if x9 then (
        some (-1))
      else (
        none)))
def m_strings_Index (p0 : ByteArray) (p1 : ByteArray) : Option (Int) :=
  bd (m_internal_stringslite_Index p0 p1) fun x1 =>
  some x1
def m_strings_Count_l1 (p1 : ByteArray) : (ByteArray × Int) → Option ((ByteArray × Int) ⊕ (Int))
  | (v7, v8) =>
    bd (m_strings_Index v7 p1) fun x9 =>
    if decide (x9 = (-1)) then (
      some (.inr v8))
    else (
      bd (cs v7 (wi64 (x9 + (p1.size : Int))) v7.size) fun x12 =>
      some (.inl (x12, wi64 (v8 + 1))))
def m_strings_Count (p0 : ByteArray) (p1 : ByteArray) : Option (Int) :=
  if decide ((p1.size : Int) = 0) then (
    bd (m_unicode_utf8_RuneCountInString p0) fun x2 =>
    some (wi64 (x2 + 1)))
  else (
    if decide ((p1.size : Int) = 1) then (
      bd (bt p1 0) fun x5 =>
      some (cntb p0 x5))
    else (
      lp (m_strings_Count_l1 p1) (p0, 0)))
def m_nat_at (p0 : (List Int)) (p1 : Int) : Option (Int) :=
  if decide ((p0.length : Int) ≤ p1) then (
    some 0)
  else (
    bd (rd p0 p1) fun x2 =>
    some x2)
def m_limb_Add (p0 : Int) (p1 : Int) (p2 : Int) : Option (Int × Int) :=
  lt (wu64 ((wu64 ((Go.bits .and .u64 p0 4294967295) + (Go.bits .and .u64 p1 4294967295))) + (Go.bits .and .u64 p2 4294967295))) fun x1 =>
  bd (sr .u64 x1 32) fun x3 =>
  some (Go.bits .and .u64 x1 4294967295, x3)
def m_nat_Add_l1 (p0 : (List Int)) (p1 : (List Int)) (x1 : Int) : (Int × Int × (List Int)) → Option ((Int × Int × (List Int)) ⊕ (Int × (List Int)))
  | (v7, v8, v9) =>
    if decide (v8 < x1) then (
      bd (m_nat_at p0 v8) fun x11 =>
      bd (m_nat_at p1 v8) fun x13 =>
      bd (m_limb_Add x11 x13 v7) fun x15 =>
      bd (ix v9 v8) fun j17 =>
      lt (v9.set j17 x15.1) fun x19 =>
      some (.inl (x15.2, wi64 (v8 + 1), x19)))
    else (
      some (.inr (v7, v9)))
def m_nat_Add (p0 : (List Int)) (p1 : (List Int)) : Option ((List Int)) :=
  lt (max (p0.length : Int) (p1.length : Int)) fun x1 =>
  bd (mk 8 0 (wi64 (x1 + 1)) (wi64 (x1 + 1))) fun x3 =>
  bd (lp (m_nat_Add_l1 p0 p1 x1) (0, 0, x3)) fun (v5, v6) =>
  bd (ix v6 x1) fun j21 =>
  lt (v6.set j21 v5) fun x23 =>
  bd (m_nat_trim x23) fun x25 =>
  some x25
def m_whole_Made (p0 : Bool) (p1 : (List Int)) : Option (D_api_Int) :=
  bd (m_nat_Make p1) fun x1 =>
  if p0 then (
    some (decide (0 < (x1.1.length : Int)), x1.1))
  else (
    some (false, x1.1))
def m_whole_Of (p0 : Int) : Option (D_api_Int) :=
  if decide (p0 < 0) then (
    bd (m_nat_Of (wu64 (wi64 (0 - (wi64 (p0 + 1)))))) fun x2 =>
    bd (m_nat_Of 1) fun x4 =>
    bd (m_nat_Add x2 x4) fun x6 =>
    bd (m_whole_Made true x6) fun x8 =>
    some (x8.1, x8.2))
  else (
    bd (m_nat_Of (wu64 p0)) fun x10 =>
    bd (m_whole_Made false x10) fun x12 =>
    some (x12.1, x12.2))
def m_whole_Sign (p0 : D_api_Int) : Option (Int) :=
  if decide ((p0.2.length : Int) = 0) then (
    some 0)
  else (
    if p0.1 then (
      some (-1))
    else (
      some 1))
def m_nat_May_l1 (p0 : (List Int)) : Int → Option ((Int) ⊕ (Bool))
  | v1 =>
    if decide (v1 < (p0.length : Int)) then (
      bd (rd p0 v1) fun x3 =>
      if decide (4294967296 ≤ x3) then (
        some (.inr false))
      else (
        some (.inl (wi64 (v1 + 1)))))
    else (
      if decide ((p0.length : Int) = 0) then (
        some (.inr true))
      else (
        bd (rd p0 (wi64 ((p0.length : Int) - 1))) fun x7 =>
        some (.inr (!decide (x7 = 0)))))
def m_nat_May (p0 : (List Int)) : Option (Bool) :=
  lp (m_nat_May_l1 p0) 0
def m_limb_Bits_l1 (p0 : Int) : (Int × Int) → Option ((Int × Int) ⊕ (Int))
  | (v2, v3) =>
    if decide (v3 < 32) then (
      bd (
        bd (sr .u64 p0 v3) fun x6 =>
        if decide ((Go.bits .and .u64 x6 1) = 1) then (
          some (wi64 (v3 + 1)))
        else (
          some v2)) fun v5 =>
      some (.inl (v5, wi64 (v3 + 1))))
    else (
      some (.inr v2))
def m_limb_Bits (p0 : Int) : Option (Int) :=
  bd (lp (m_limb_Bits_l1 p0) (0, 0)) fun v1 =>
  some v1
def m_nat_shift (p0 : Int) : Option (Int) :=
  bd (
    if decide (p0 < 0) then (
      some true)
    else (
      some (decide (100000 < p0)))) fun v1 =>
  if v1 then (
    some 2)
  else (
    some 0)
def m_nat_Shl_l1 (p0 : (List Int)) (p1 : Int) : (Int × (List Int)) → Option ((Int × (List Int)) ⊕ ((List Int)))
  | (v11, v12) =>
    if decide (v11 < (p0.length : Int)) then (
      bd (rd p0 v11) fun x14 =>
      bd (qd .i64 p1 32) fun x16 =>
      bd (rm .i64 p1 32) fun x18 =>
      bd (sh .u64 x14 x18) fun x20 =>
      bd (rd v12 (wi64 (v11 + x16))) fun x22 =>
      bd (rm .u64 x20 4294967296) fun x24 =>
      bd (ix v12 (wi64 (v11 + x16))) fun j26 =>
      lt (v12.set j26 (Go.bits .or .u64 x22 x24)) fun x28 =>
      bd (sr .u64 x20 32) fun x30 =>
      bd (ix x28 (wi64 ((wi64 (v11 + x16)) + 1))) fun j32 =>
      lt (x28.set j32 x30) fun x34 =>
      some (.inl (wi64 (v11 + 1), x34)))
    else (
      some (.inr v12))
def m_nat_Shl (p0 : (List Int)) (p1 : Int) : Option ((List Int) × Int) :=
  bd (m_nat_shift p1) fun x1 =>
  bd (
    if !decide (x1 = 0) then (
      some true)
    else (
      some (decide ((p0.length : Int) = 0)))) fun v3 =>
  if v3 then (
    some ([], x1))
  else (
    bd (qd .i64 p1 32) fun x6 =>
    bd (mk 8 0 (wi64 ((wi64 ((p0.length : Int) + x6)) + 1)) (wi64 ((wi64 ((p0.length : Int) + x6)) + 1))) fun x8 =>
    bd (lp (m_nat_Shl_l1 p0 p1) (0, x8)) fun v10 =>
    bd (m_nat_trim v10) fun x36 =>
    some (x36, 0))
def m_divide_guess_l1 (p0 : (List Int)) (p1 : Int) (p2 : (List Int)) : (Int × Int) → Option ((Int × Int) ⊕ (Int))
  | (v16, v17) =>
    bd (
      if decide (4294967296 ≤ v16) then (
        some true)
      else (
        bd (rd p2 (wi64 ((p2.length : Int) - 2))) fun x20 =>
        bd (sh .u64 v17 32) fun x22 =>
        bd (rd p0 (wi64 ((wi64 (p1 + (p2.length : Int))) - 2))) fun x24 =>
        some (decide ((Go.bits .or .u64 x22 x24) < (wu64 (v16 * x20)))))) fun v18 =>
    if v18 then (
      bd (rd p2 (wi64 ((p2.length : Int) - 1))) fun x27 =>
      if decide (4294967296 ≤ (wu64 (v17 + x27))) then (
        some (.inr (wu64 (v16 - 1))))
      else (
        some (.inl (wu64 (v16 - 1), wu64 (v17 + x27)))))
    else (
      some (.inr v16))
def m_divide_guess (p0 : (List Int)) (p1 : Int) (p2 : (List Int)) : Option (Int) :=
  bd (rd p0 (wi64 (p1 + (p2.length : Int)))) fun x1 =>
  bd (sh .u64 x1 32) fun x3 =>
  bd (rd p0 (wi64 ((wi64 (p1 + (p2.length : Int))) - 1))) fun x5 =>
  bd (rd p2 (wi64 ((p2.length : Int) - 1))) fun x7 =>
  bd (qd .u64 (Go.bits .or .u64 x3 x5) x7) fun x9 =>
  bd (rd p2 (wi64 ((p2.length : Int) - 1))) fun x11 =>
  bd (rm .u64 (Go.bits .or .u64 x3 x5) x11) fun x13 =>
  bd (lp (m_divide_guess_l1 p0 p1 p2) (x9, x13)) fun v15 =>
  some v15
def m_divide_at (p0 : (List Int)) (p1 : Int) : Option (Int) :=
  if decide ((p0.length : Int) ≤ p1) then (
    some 0)
  else (
    bd (rd p0 p1) fun x2 =>
    some x2)
def m_limb_Mul (p0 : Int) (p1 : Int) (p2 : Int) (p3 : Int) : Option (Int × Int) :=
  lt (wu64 ((wu64 ((wu64 ((Go.bits .and .u64 p0 4294967295) * (Go.bits .and .u64 p1 4294967295))) + (Go.bits .and .u64 p2 4294967295))) + (Go.bits .and .u64 p3 4294967295))) fun x1 =>
  bd (sr .u64 x1 32) fun x3 =>
  some (Go.bits .and .u64 x1 4294967295, x3)
def m_limb_Sub (p0 : Int) (p1 : Int) (p2 : Int) : Option (Int × Int) :=
  lt (wu64 ((Go.bits .and .u64 p1 4294967295) + (Go.bits .and .u64 p2 4294967295))) fun x1 =>
  bd (
    if decide ((Go.bits .and .u64 p0 4294967295) < x1) then (
      bd (sr .u64 (wu64 ((wu64 (x1 - (Go.bits .and .u64 p0 4294967295))) + 4294967295)) 32) fun x5 =>
      some x5)
    else (
      some 0)) fun v3 =>
  bd (sh .u64 v3 32) fun x7 =>
  lt (wu64 ((wu64 ((Go.bits .and .u64 p0 4294967295) + x7)) - x1)) fun x9 =>
  some (x9, v3)
def m_divide_take_M_l1 (p1 : Int) (p2 : (List Int)) (p3 : Int) : (Int × Int × Int × (List Int)) → Option ((Int × Int × Int × (List Int)) ⊕ (Int × (List Int)))
  | (v3, v4, v5, v6) =>
    if decide (v5 < (wi64 ((p2.length : Int) + 1))) then (
      bd (m_divide_at p2 v5) fun x8 =>
      bd (m_limb_Mul p3 x8 v3 0) fun x10 =>
      bd (rd v6 (wi64 (p1 + v5))) fun x12 =>
      bd (m_limb_Sub x12 x10.1 v4) fun x14 =>
      bd (ix v6 (wi64 (p1 + v5))) fun j16 =>
      lt (v6.set j16 x14.1) fun x18 =>
      some (.inl (x10.2, x14.2, wi64 (v5 + 1), x18)))
    else (
      some (.inr (v4, v6)))
def m_divide_take_M (p1 : Int) (p2 : (List Int)) (p3 : Int) (o1 : (List Int)) : Option (Bool × (List Int)) :=
  bd (lp (m_divide_take_M_l1 p1 p2 p3) (0, 0, 0, o1)) fun (v1, v2) =>
  bd (eln o1 v2) fun _ =>
  some (decide (0 < v1), v2)
def m_divide_give_M_l1 (p1 : Int) (p2 : (List Int)) (o1 : (List Int)) : (Int × Int × (List Int)) → Option ((Int × Int × (List Int)) ⊕ ((List Int)))
  | (v1, v2, v3) =>
    if decide (v2 < (wi64 ((p2.length : Int) + 1))) then (
      bd (rd v3 (wi64 (p1 + v2))) fun x5 =>
      bd (m_divide_at p2 v2) fun x7 =>
      bd (m_limb_Add x5 x7 v1) fun x9 =>
      bd (ix v3 (wi64 (p1 + v2))) fun j11 =>
      lt (v3.set j11 x9.1) fun x13 =>
      some (.inl (x9.2, wi64 (v2 + 1), x13)))
    else (
      bd (eln o1 v3) fun _ =>
      some (.inr v3))
def m_divide_give_M (p1 : Int) (p2 : (List Int)) (o1 : (List Int)) : Option ((List Int)) :=
  lp (m_divide_give_M_l1 p1 p2 o1) (0, 0, o1)
def m_nat_Shr_l1 (p0 : (List Int)) (p1 : Int) (x10 : (List Int)) : (Int × (List Int)) → Option ((Int × (List Int)) ⊕ ((List Int)))
  | (v13, v14) =>
    if decide (v13 < (x10.length : Int)) then (
      bd (qd .i64 p1 32) fun x16 =>
      bd (rd p0 (wi64 (v13 + x16))) fun x18 =>
      bd (m_nat_at p0 (wi64 ((wi64 (v13 + x16)) + 1))) fun x20 =>
      bd (sh .u64 x20 32) fun x22 =>
      bd (rm .i64 p1 32) fun x24 =>
      bd (sr .u64 (Go.bits .or .u64 x18 x22) x24) fun x26 =>
      bd (rm .u64 x26 4294967296) fun x28 =>
      bd (ix v14 v13) fun j30 =>
      lt (v14.set j30 x28) fun x32 =>
      some (.inl (wi64 (v13 + 1), x32)))
    else (
      some (.inr v14))
def m_nat_Shr (p0 : (List Int)) (p1 : Int) : Option ((List Int) × Int) :=
  bd (m_nat_shift p1) fun x1 =>
  bd (
    if !decide (x1 = 0) then (
      some true)
    else (
      bd (qd .i64 p1 32) fun x5 =>
      some (decide ((p0.length : Int) ≤ x5)))) fun v3 =>
  if v3 then (
    some ([], x1))
  else (
    bd (qd .i64 p1 32) fun x8 =>
    bd (mk 8 0 (wi64 ((p0.length : Int) - x8)) (wi64 ((p0.length : Int) - x8))) fun x10 =>
    bd (lp (m_nat_Shr_l1 p0 p1 x10) (0, x10)) fun v12 =>
    bd (m_nat_trim v12) fun x34 =>
    some (x34, 0))
def m_divide_knuth_l1 (x5 : ((List Int) × Int)) : (Int × (List Int) × (List Int)) → Option ((Int × (List Int) × (List Int)) ⊕ ((List Int) × (List Int)))
  | (v19, v20, v21) =>
    if decide (0 ≤ v19) then (
      bd (
        bd (m_divide_guess v20 v19 x5.1) fun x25 =>
        bd (ix v21 v19) fun j27 =>
        lt (v21.set j27 x25) fun x29 =>
        bd (rd x29 v19) fun x31 =>
        bd (m_divide_take_M v19 x5.1 x31 v20) fun x34 =>
        if x34.1 then (
          bd (rd x29 v19) fun x36 =>
          bd (ix x29 v19) fun j38 =>
          lt (x29.set j38 (wu64 (x36 - 1))) fun x40 =>
          bd (m_divide_give_M v19 x5.1 x34.2) fun x43 =>
          some (x43, x40))
        else (
          some (x34.2, x29))) fun (v23, v24) =>
      some (.inl (wi64 (v19 - 1), v23, v24)))
    else (
      some (.inr (v20, v21)))
def m_divide_knuth (p0 : (List Int)) (p1 : (List Int)) : Option ((List Int) × (List Int)) :=
  bd (rd p1 (wi64 ((p1.length : Int) - 1))) fun x1 =>
  bd (m_limb_Bits x1) fun x3 =>
  bd (m_nat_Shl p1 (wi64 (32 - x3))) fun x5 =>
  bd (mk 8 0 (wi64 ((p0.length : Int) + 1)) (wi64 ((p0.length : Int) + 1))) fun x7 =>
  bd (m_nat_Shl p0 (wi64 (32 - x3))) fun x9 =>
  bd (cpy x7 0 x9.1) fun x11 =>
  bd (mk 8 0 (wi64 ((wi64 ((p0.length : Int) - (p1.length : Int))) + 1)) (wi64 ((wi64 ((p0.length : Int) - (p1.length : Int))) + 1))) fun x13 =>
  bd (
    lt (wi64 ((p0.length : Int) - (p1.length : Int))) fun x17 =>
    lp (m_divide_knuth_l1 x5) (x17, x11, x13)) fun (v15, v16) =>
  bd (m_nat_Make v16) fun x44 =>
  bd (m_nat_Make v15) fun x46 =>
  bd (m_nat_Shr x46.1 (wi64 (32 - x3))) fun x48 =>
  some (x44.1, x48.1)
def m_divide_Div (p0 : (List Int)) (p1 : (List Int)) : Option ((List Int) × (List Int) × Int) :=
  if decide ((p1.length : Int) = 0) then (
    some ([], [], 3))
  else (
    bd (
      bd (m_nat_May p0) fun x3 =>
      if !x3 then (
        some true)
      else (
        bd (m_nat_May p1) fun x6 =>
        some (!x6))) fun v2 =>
    if v2 then (
      some ([], [], 2))
    else (
      bd (m_nat_Cmp p0 p1) fun x9 =>
      if decide (x9 < 0) then (
        bd (m_nat_Make p0) fun x12 =>
        some ([], x12.1, x12.2))
      else (
        if decide ((p1.length : Int) = 1) then (
          bd (rd p1 0) fun x15 =>
          bd (m_divide_Small p0 x15) fun x17 =>
          bd (m_nat_Of x17.2.1) fun x19 =>
          some (x17.1, x19, x17.2.2))
        else (
          bd (m_divide_knuth p0 p1) fun x21 =>
          some (x21.1, x21.2, 0)))))
def m_divide_Mod (p0 : (List Int)) (p1 : (List Int)) : Option ((List Int) × Int) :=
  bd (m_divide_Div p0 p1) fun x1 =>
  some (x1.2.1, x1.2.2)
def m_gcd_Euclid_l1  : ((List Int) × (List Int)) → Option (((List Int) × (List Int)) ⊕ ((List Int)))
  | (v6, v7) =>
    if decide (0 < (v7.length : Int)) then (
      bd (m_divide_Mod v6 v7) fun x9 =>
      some (.inl (v7, x9.1)))
    else (
      some (.inr v6))
def m_gcd_Euclid (p0 : (List Int)) (p1 : (List Int)) : Option ((List Int)) :=
  bd (m_nat_Make p0) fun x1 =>
  bd (m_nat_Make p1) fun x3 =>
  bd (lp (m_gcd_Euclid_l1) (x1.1, x3.1)) fun v5 =>
  some v5
def m_divide_Exact (p0 : (List Int)) (p1 : (List Int)) : Option ((List Int) × Int) :=
  bd (m_divide_Div p0 p1) fun x1 =>
  if !decide (x1.2.2 = 0) then (
    some ([], x1.2.2))
  else (
    if decide (0 < (x1.2.1.length : Int)) then (
      some ([], 4))
    else (
      some (x1.1, x1.2.2)))
def m_rat_low (p0 : D_api_Int) (p1 : (List Int)) : Option (D_api_Rat) :=
  bd (m_gcd_Euclid p0.2 p1) fun x1 =>
  bd (m_divide_Exact p0.2 x1) fun x3 =>
  bd (m_divide_Exact p1 x1) fun x5 =>
  bd (m_whole_Made p0.1 x3.1) fun x7 =>
  some ((x7.1, x7.2), x5.1)
def m_rat_Make (p0 : D_api_Int) (p1 : D_api_Int) : Option (D_api_Rat × Int) :=
  bd (m_whole_Sign (p1.1, p1.2)) fun x1 =>
  if decide (x1 = 0) then (
    some (((false, []), []), 3))
  else (
    bd (m_whole_Made (!(p0.1 == p1.1)) p0.2) fun x4 =>
    bd (m_rat_low x4 p1.2) fun x6 =>
    some (((x6.1.1, x6.1.2), x6.2), 0))
def m_rat_Frac (p0 : Int) (p1 : Int) : Option (D_api_Rat × Int) :=
  bd (m_whole_Of p0) fun x1 =>
  bd (m_whole_Of p1) fun x3 =>
  bd (m_rat_Make x1 x3) fun x5 =>
  some (((x5.1.1.1, x5.1.1.2), x5.1.2), x5.2)
def m_rat_one  : Option ((List Int)) :=
  bd (m_nat_Of 1) fun x1 =>
  some x1
def m_rat_Of (p0 : Int) : Option (D_api_Rat) :=
  bd (m_whole_Of p0) fun x1 =>
  bd (m_rat_one) fun x3 =>
  some ((x1.1, x1.2), x3)
def m_triviumlaw38_works  : Option (Bool) :=
  bd (m_rat_Frac 2 3) fun x1 =>
  bd (m_rat_Frac 1 3) fun x3 =>
  bd (m_rat_Of 0) fun x5 =>
  bd (m_report_Line (1, (bs [97]), (bs []), (bs [115]), 16843009, (0, 0), 0) (1, (((x1.1.1.1, x1.1.1.2), x1.1.2), ((x3.1.1.1, x3.1.1.2), x3.1.2), ((x5.1.1, x5.1.2), x5.2)), (false, ((false, []), [])), ((false, []), []), (0, (false, 0, ((false, []), []), ((false, []), [])), (false, 0, ((false, []), []), ((false, []), []))))) fun x7 =>
  lt (sq x7 (bs [112, 114, 111, 98, 32, 97, 32, 115, 32, 49, 46, 49, 46, 49, 46, 49, 58, 32, 100, 101, 108, 105, 118, 101, 114, 32, 50, 47, 51, 32, 100, 114, 111, 112, 32, 49, 47, 51, 32, 108, 111, 111, 112, 32, 48])) fun x9 =>
  some x9
def m_triviumlaw38_ReportAll_l1 (p1 : (List D_triviumlaw38_Told)) : (Int × (List D_engine_Answer)) → Option ((Int × (List D_engine_Answer)) ⊕ ((List D_engine_Answer)))
  | (v2, v3) =>
    bd (
      if decide (v2 < (p1.length : Int)) then (
        some (decide (v2 < 6)))
      else (
        some false)) fun v4 =>
    if v4 then (
      bd (rd p1 v2) fun x7 =>
      bd (m_triviumlaw38_both x7) fun x9 =>
      bd (ap 544 v3 [(x9.1.1, (((x9.1.2.1.1.1.1, x9.1.2.1.1.1.2), x9.1.2.1.1.2), ((x9.1.2.1.2.1.1.1, x9.1.2.1.2.1.1.2), x9.1.2.1.2.1.2), ((x9.1.2.1.2.2.1.1, x9.1.2.1.2.2.1.2), x9.1.2.1.2.2.2)), (x9.1.2.2.1.1, ((x9.1.2.2.1.2.1.1, x9.1.2.2.1.2.1.2), x9.1.2.2.1.2.2)), ((x9.1.2.2.2.1.1.1, x9.1.2.2.2.1.1.2), x9.1.2.2.2.1.2), (x9.1.2.2.2.2.1, (x9.1.2.2.2.2.2.1.1, x9.1.2.2.2.2.2.1.2.1, ((x9.1.2.2.2.2.2.1.2.2.1.1.1, x9.1.2.2.2.2.2.1.2.2.1.1.2), x9.1.2.2.2.2.2.1.2.2.1.2), ((x9.1.2.2.2.2.2.1.2.2.2.1.1, x9.1.2.2.2.2.2.1.2.2.2.1.2), x9.1.2.2.2.2.2.1.2.2.2.2)), (x9.1.2.2.2.2.2.2.1, x9.1.2.2.2.2.2.2.2.1, ((x9.1.2.2.2.2.2.2.2.2.1.1.1, x9.1.2.2.2.2.2.2.2.2.1.1.2), x9.1.2.2.2.2.2.2.2.2.1.2), ((x9.1.2.2.2.2.2.2.2.2.2.1.1, x9.1.2.2.2.2.2.2.2.2.2.1.2), x9.1.2.2.2.2.2.2.2.2.2.2))))]) fun x11 =>
      some (.inl (wi64 (v2 + 1), x11)))
    else (
      some (.inr v3))
def m_triviumlaw38_ReportAll_l2 (p0 : (List D_api_Query)) : (Int × (List D_api_Query)) → Option ((Int × (List D_api_Query)) ⊕ ((List D_api_Query)))
  | (v14, v15) =>
    bd (
      if decide (v14 < (p0.length : Int)) then (
        some (decide (v14 < 6)))
      else (
        some false)) fun v16 =>
    if v16 then (
      bd (rd p0 v14) fun x19 =>
      bd (m_triviumref22_CleanQuery x19) fun x21 =>
      bd (ap 88 v15 [x21]) fun x23 =>
      some (.inl (wi64 (v14 + 1), x23)))
    else (
      some (.inr v15))
def m_triviumlaw38_ReportAll_l3 (p1 : (List D_triviumlaw38_Told)) (v1 : (List D_engine_Answer)) (v13 : (List D_api_Query)) : (ByteArray × Int) → Option ((ByteArray × Int) ⊕ (ByteArray))
  | (v26, v27) =>
    bd (
      if decide (v27 < (v1.length : Int)) then (
        some (decide (v27 < (v13.length : Int))))
      else (
        some false)) fun v28 =>
    if v28 then (
      bd (rd p1 v27) fun x31 =>
      bd (m_triviumlaw38_both x31) fun x33 =>
      bd (rd v13 v27) fun x35 =>
      bd (m_triviumref38_Line x35 (x33.2.1, (((x33.2.2.1.1.1.1, x33.2.2.1.1.1.2), x33.2.2.1.1.2), ((x33.2.2.1.2.1.1.1, x33.2.2.1.2.1.1.2), x33.2.2.1.2.1.2), ((x33.2.2.1.2.2.1.1, x33.2.2.1.2.2.1.2), x33.2.2.1.2.2.2)), (x33.2.2.2.1.1, ((x33.2.2.2.1.2.1.1, x33.2.2.2.1.2.1.2), x33.2.2.2.1.2.2)), ((x33.2.2.2.2.1.1.1, x33.2.2.2.2.1.1.2), x33.2.2.2.2.1.2), (x33.2.2.2.2.2.1, (x33.2.2.2.2.2.2.1.1, x33.2.2.2.2.2.2.1.2.1, ((x33.2.2.2.2.2.2.1.2.2.1.1.1, x33.2.2.2.2.2.2.1.2.2.1.1.2), x33.2.2.2.2.2.2.1.2.2.1.2), ((x33.2.2.2.2.2.2.1.2.2.2.1.1, x33.2.2.2.2.2.2.1.2.2.2.1.2), x33.2.2.2.2.2.2.1.2.2.2.2)), (x33.2.2.2.2.2.2.2.1, x33.2.2.2.2.2.2.2.2.1, ((x33.2.2.2.2.2.2.2.2.2.1.1.1, x33.2.2.2.2.2.2.2.2.2.1.1.2), x33.2.2.2.2.2.2.2.2.2.1.2), ((x33.2.2.2.2.2.2.2.2.2.2.1.1, x33.2.2.2.2.2.2.2.2.2.2.1.2), x33.2.2.2.2.2.2.2.2.2.2.2))))) fun x37 =>
      bd (cat x37 (bs [10])) fun x39 =>
      bd (cat v26 x39) fun x41 =>
      some (.inl (x41, wi64 (v27 + 1))))
    else (
      some (.inr v26))
def m_triviumlaw38_ReportAll (p0 : (List D_api_Query)) (p1 : (List D_triviumlaw38_Told)) (p2 : (List ByteArray)) : Option (Bool) :=
  bd (lp (m_triviumlaw38_ReportAll_l1 p1) (0, [])) fun v1 =>
  bd (lp (m_triviumlaw38_ReportAll_l2 p0) (0, [])) fun v13 =>
  bd (lp (m_triviumlaw38_ReportAll_l3 p1 v1 v13) ((bs []), 0)) fun v25 =>
  bd (ct p2 0 (min (p2.length : Int) 10)) fun x43 =>
  bd (m_report_All v13 v1) fun x45 =>
  if sq x45 v25 then (
    bd (m_strings_Count v25 (bs [10])) fun x48 =>
    if decide ((min (v1.length : Int) (v13.length : Int)) ≤ x48) then (
      bd (ap 16 [] x43) fun x51 =>
      bd (m_report_Words x51) fun x53 =>
      bd (m_strings_Join x43 (bs [32])) fun x55 =>
      if sq x53 x55 then (
        bd (m_triviumlaw38_works) fun x58 =>
        some x58)
      else (
        some false))
    else (
      some false))
  else (
    some false)
end
end Go.Proofs.YtkjkipkfndckfaaGreatDoor.AP
/- The code comes to the printed functions (printed by a program of ours). -/
namespace Go.Proofs.YtkjkipkfndckfaaGreatDoor.AE
open Go Go.RowKit Go.Proofs.YtkjkipkfndckfaaGreatDoor.AP
set_option linter.unusedVariables false
set_option maxRecDepth 20000
theorem en33 : Enters Tryz.prog 33 := ⟨_, Tryz.func33, rfl, rfl⟩
set_option maxHeartbeats 1000000 in
theorem k_triviumref02_Clean {p0 : (List Int)} {p1 : Int} {y : (List Int)} (h : m_triviumref02_Clean p0 p1 = some y) : Spec Tryz.prog 33 [(.v (.sl (.int .u64)) p0), (.v (.int .i64) p1)] (.v (.sl (.int .u64)) y) [] := by
  rw [m_triviumref02_Clean] at h
  refine enterN [(.v (.sl (.int .u64)) p0), (.v (.int .i64) p1)] 45 Tryz.func33 rfl rfl rfl ?_
  refine T.seq ?_
  refine T.region ?_
  refine Run.go (Ev.assign rfl rfl) ?_
  refine Run.nil ?_
  refine T.seq ?_
  refine T.region ?_
  refine Run.go (Ev.build X 1 rfl rfl rfl rfl rfl rfl rfl rfl) ?_
  refine Run.go (Ev.assign rfl rfl) ?_
  refine Run.nil ?_
  obtain ⟨v1, hv, h⟩ := bdS h
  refine T.cut (fun _ : Unit => (⟨[(5, .own 6)], [(6, .arr 104 (.int .u64) v1)], 45⟩ : St)) (fun _ => True) ?_ (fun _ _ => ?_)
  · replace h := hv
    clear hv
    refine T.seq ?_
    refine T.region ?_
    refine Run.go (Ev.assign rfl rfl) ?_
    refine Run.nil ?_
    refine T.block ?_
    refine T.loop (LoopT.ghost (Ghost.only [(1, 19)] [0, 1, 5, 6] rfl) (LoopT.run (fun q : Int × (List Int) => (⟨[(0, .v (.sl (.int .u64)) p0), (1, .v (.int .i64) p1), (5, .own 19), (6, .v (.int .i64) q.1)], [(19, .arr 104 (.int .u64) q.2)], 45⟩ : St)) (fun q z1 h hz1 => ?_) h))
    obtain ⟨v2, v3⟩ := q
    dsimp only
    rw [m_triviumref02_Clean_l1] at h
    refine T.seq ?_
    obtain ⟨v4, hv, h⟩ := bdS h
    refine T.cut (fun _ : Unit => (⟨[(0, .v (.sl (.int .u64)) p0), (1, .v (.int .i64) p1), (5, .own 19), (6, .v (.int .i64) v2), (16, .v .bool v4)], [(19, .arr 104 (.int .u64) v3)], 45⟩ : St)) (fun _ => True) ?_ (fun _ _ => ?_)
    · replace h := hv
      clear hv
      refine T.region ?_
      refine Run.go (Ev.move rfl rfl) ?_
      refine Run.go (Ev.move rfl rfl) ?_
      refine Run.go (Ev.len X rfl rfl rfl rfl) ?_
      refine Run.go (Ev.int rfl rfl rfl rfl trivial) ?_
      refine Run.go (Ev.move rfl rfl) ?_
      rcases boolCases (decide (v2 < (p0.length : Int))) with hb5 | hb5
      · replace h := ifT hb5 h
        refine Run.on rfl rfl rfl hb5 (Ev.move rfl rfl) ?_
        refine Run.on rfl rfl rfl hb5 (Ev.move rfl rfl) ?_
        refine Run.on rfl rfl rfl hb5 (Ev.int rfl rfl rfl rfl trivial) ?_
        refine Run.go (Ev.pickT rfl hb5 rfl rfl) ?_
        refine Run.nil ?_
        cases h
        exact ⟨(), trivial, Ghost.only [(19, 19)] [0, 1, 5, 6, 16] rfl⟩
      · replace h := ifF hb5 h
        refine Run.offT rfl rfl rfl rfl hb5 ?_
        refine Run.offT rfl rfl rfl rfl hb5 ?_
        refine Run.offT rfl rfl rfl rfl hb5 ?_
        refine Run.go (Ev.pickF rfl hb5 rfl rfl) ?_
        refine Run.nil ?_
        cases h
        exact ⟨(), trivial, Ghost.only [(19, 19)] [0, 1, 5, 6, 16] rfl⟩
    · refine T.cond rfl (fun hb6 => ?_) (fun hb6 => ?_)
      · replace h := ifT hb6 h
        refine T.skip ?_
        refine T.seq ?_
        refine T.block ?_
        refine T.region ?_
        refine Run.go (Ev.move rfl rfl) ?_
        refine Run.go (Ev.move rfl rfl) ?_
        refine Run.go (Ev.move rfl rfl) ?_
        obtain ⟨x7, e8, h⟩ := bdS h
        refine Run.go (Ev.e_rd X e8 rfl rfl rfl rfl) ?_
        refine Run.go (Ev.load X rfl rfl rfl) ?_
        obtain ⟨x9, e10, h⟩ := bdS h
        refine Run.go (Ev.e_rm e10 rfl rfl rfl) ?_
        refine Run.go (Ev.build X 25 rfl rfl rfl rfl rfl rfl rfl rfl) ?_
        obtain ⟨x11, e12, h⟩ := bdS h
        refine Run.go (Ev.e_ap X 26 e12 rfl rfl rfl (.own rfl) rfl rfl rfl rfl rfl) ?_
        refine Run.go (Ev.assign rfl rfl) ?_
        refine Run.nil ?_
        refine T.region ?_
        refine Run.go (Ev.move rfl rfl) ?_
        refine Run.go (Ev.int rfl rfl rfl rfl trivial) ?_
        refine Run.go (Ev.assign rfl rfl) ?_
        refine Run.nil ?_
        cases h
        exact LoopT.ghost (Ghost.only [(26, 19)] [0, 1, 5, 6] rfl) hz1
      · replace h := ifF hb6 h
        refine T.exit ?_
        cases h
        cases hz1
        exact ⟨(), trivial, Ghost.only [(19, 6)] [5] rfl⟩
  · obtain ⟨v13, hv, h⟩ := bdS h
    refine T.cut (fun _ : Unit => (⟨[(5, .v (.sl (.int .u64)) v13)], [], 45⟩ : St)) (fun _ => True) ?_ (fun _ _ => ?_)
    · replace h := hv
      clear hv
      refine T.block ?_
      refine T.loop (LoopT.ghost (Ghost.trans (Ghost.firmAll (id := 6) rfl) (Ghost.only [] [5] rfl)) (LoopT.run (fun q : (List Int) => (⟨[(5, .v (.sl (.int .u64)) q)], [], 45⟩ : St)) (fun v14 z1 h hz1 => ?_) h))
      rw [m_triviumref02_Clean_l2] at h
      refine T.seq ?_
      obtain ⟨v15, hv, h⟩ := bdS h
      refine T.cut (fun _ : Unit => (⟨[(5, .v (.sl (.int .u64)) v14), (38, .v .bool v15)], [], 45⟩ : St)) (fun _ => True) ?_ (fun _ _ => ?_)
      · replace h := hv
        clear hv
        refine T.region ?_
        refine Run.go (Ev.move rfl rfl) ?_
        refine Run.go (Ev.len X rfl rfl rfl rfl) ?_
        refine Run.go (Ev.int rfl rfl rfl rfl trivial) ?_
        refine Run.go (Ev.move rfl rfl) ?_
        rcases boolCases (decide (0 < (v14.length : Int))) with hb16 | hb16
        · replace h := ifT hb16 h
          refine Run.on rfl rfl rfl hb16 (Ev.move rfl rfl) ?_
          refine Run.on rfl rfl rfl hb16 (Ev.move rfl rfl) ?_
          refine Run.on rfl rfl rfl hb16 (Ev.len X rfl rfl rfl rfl) ?_
          refine Run.on rfl rfl rfl hb16 (Ev.int rfl rfl rfl rfl trivial) ?_
          obtain ⟨x17, e18, h⟩ := bdS h
          refine Run.on rfl rfl rfl hb16 (Ev.e_rd X e18 rfl rfl rfl rfl) ?_
          refine Run.on rfl rfl rfl hb16 (Ev.load X rfl rfl rfl) ?_
          refine Run.on rfl rfl rfl hb16 (Ev.int rfl rfl rfl rfl trivial) ?_
          refine Run.go (Ev.pickT rfl hb16 rfl rfl) ?_
          refine Run.nil ?_
          cases h
          exact ⟨(), trivial, Ghost.only [] [5, 38] rfl⟩
        · replace h := ifF hb16 h
          refine Run.offT rfl rfl rfl rfl hb16 ?_
          refine Run.offT rfl rfl rfl rfl hb16 ?_
          refine Run.offT rfl rfl rfl rfl hb16 ?_
          refine Run.offT rfl rfl rfl rfl hb16 ?_
          refine Run.offT rfl rfl rfl rfl hb16 ?_
          refine Run.offT rfl rfl rfl rfl hb16 ?_
          refine Run.offT rfl rfl rfl rfl hb16 ?_
          refine Run.go (Ev.pickF rfl hb16 rfl rfl) ?_
          refine Run.nil ?_
          cases h
          exact ⟨(), trivial, Ghost.only [] [5, 38] rfl⟩
      · refine T.cond rfl (fun hb19 => ?_) (fun hb19 => ?_)
        · replace h := ifT hb19 h
          refine T.skip ?_
          refine T.block ?_
          refine T.region ?_
          refine Run.go (Ev.move rfl rfl) ?_
          refine Run.go (Ev.move rfl rfl) ?_
          refine Run.go (Ev.len X rfl rfl rfl rfl) ?_
          refine Run.go (Ev.int rfl rfl rfl rfl trivial) ?_
          obtain ⟨x20, e21, h⟩ := bdS h
          refine Run.go (Ev.e_ct X e21 rfl rfl rfl (fun _ h => by cases h) (fun _ => rfl) (fun _ _ => cutAt_of rfl) (fun h => by cases h)) ?_
          refine Run.go (Ev.assign rfl rfl) ?_
          refine Run.nil ?_
          cases h
          exact LoopT.ghost (Ghost.only [] [5] rfl) hz1
        · replace h := ifF hb19 h
          refine T.exit ?_
          cases h
          cases hz1
          exact ⟨(), trivial, Ghost.only [] [5] rfl⟩
    · refine T.seq ?_
      refine T.region ?_
      refine Run.go (Ev.move rfl rfl) ?_
      refine Run.go (Ev.assign rfl rfl) ?_
      refine Run.nil ?_
      refine T.ret ?_
      cases h
      exact Fin.one rfl .v
theorem en37 : Enters Tryz.prog 37 := ⟨_, Tryz.func37, rfl, rfl⟩
theorem k_triviumref07_Clean {p0 : D_api_Int} {p1 : Int} {y : D_api_Int} (h : m_triviumref07_Clean p0 p1 = some y) : Spec Tryz.prog 37 [(.v Y_api_Int p0), (.v (.int .i64) p1)] (.v Y_api_Int y) [] := by
  rw [m_triviumref07_Clean] at h
  refine enterN [(.v Y_api_Int p0), (.v (.int .i64) p1)] 19 Tryz.func37 rfl rfl rfl ?_
  refine T.seq ?_
  refine T.region ?_
  refine Run.go (Ev.box 1 rfl rfl rfl rfl) ?_
  refine Run.go (Ev.allocN X 2 rfl rfl rfl) ?_
  refine Run.nil ?_
  refine T.seq ?_
  refine T.region ?_
  refine Run.go (Ev.fieldBox X rfl rfl rfl rfl rfl) ?_
  refine Run.go (Ev.loadCell X rfl rfl rfl rfl rfl rfl) ?_
  refine Run.go (Ev.move rfl rfl) ?_
  obtain ⟨x1, e2, h⟩ := bdS h
  refine Run.go (Ev.callC en33 (k_triviumref02_Clean e2) rfl (.cons .v (.cons .v .nil)) rfl rfl) ?_
  refine Run.go (Ev.assign rfl rfl) ?_
  refine Run.nil ?_
  refine T.seq ?_
  refine T.region ?_
  refine Run.go (Ev.fieldBox X rfl rfl rfl rfl rfl) ?_
  refine Run.go (Ev.loadCell X rfl rfl rfl rfl rfl rfl) ?_
  refine Run.go (Ev.move rfl rfl) ?_
  rcases boolCases p0.1 with hb3 | hb3
  · replace h := ifT hb3 h
    refine Run.on rfl rfl rfl hb3 (Ev.move rfl rfl) ?_
    refine Run.on rfl rfl rfl hb3 (Ev.len X rfl rfl rfl rfl) ?_
    refine Run.on rfl rfl rfl hb3 (Ev.int rfl rfl rfl rfl trivial) ?_
    refine Run.go (Ev.pickT rfl hb3 rfl rfl) ?_
    refine Run.go (Ev.move rfl rfl) ?_
    refine Run.go (Ev.struct X pl30 rfl rfl rfl rfl rfl rfl rfl rfl) ?_
    refine Run.do_ (Ev.storeBox X rfl rfl rfl rfl rfl rfl rfl) ?_
    refine Run.nil ?_
    refine T.ret ?_
    cases h
    exact Fin.cell X rfl rfl rfl rfl rfl
  · replace h := ifF hb3 h
    refine Run.offT rfl rfl rfl rfl hb3 ?_
    refine Run.offT rfl rfl rfl rfl hb3 ?_
    refine Run.offT rfl rfl rfl rfl hb3 ?_
    refine Run.go (Ev.pickF rfl hb3 rfl rfl) ?_
    refine Run.go (Ev.move rfl rfl) ?_
    refine Run.go (Ev.struct X pl30 rfl rfl rfl rfl rfl rfl rfl rfl) ?_
    refine Run.do_ (Ev.storeBox X rfl rfl rfl rfl rfl rfl rfl) ?_
    refine Run.nil ?_
    refine T.ret ?_
    cases h
    exact Fin.cell X rfl rfl rfl rfl rfl
theorem en84 : Enters Tryz.prog 84 := ⟨_, Tryz.func84, rfl, rfl⟩
theorem k_triviumref02_Trim {p0 : (List Int)} {y : (List Int)} (h : m_triviumref02_Trim p0 = some y) : Spec Tryz.prog 84 [(.v (.sl (.int .i64)) p0)] (.v (.sl (.int .i64)) y) [] := by
  rw [m_triviumref02_Trim] at h
  refine enterN [(.v (.sl (.int .i64)) p0)] 23 Tryz.func84 rfl rfl rfl ?_
  refine T.seq ?_
  refine T.region ?_
  refine Run.go (Ev.assign rfl rfl) ?_
  refine Run.nil ?_
  refine T.seq ?_
  refine T.region ?_
  refine Run.go (Ev.move rfl rfl) ?_
  refine Run.go (Ev.len X rfl rfl rfl rfl) ?_
  refine Run.go (Ev.assign rfl rfl) ?_
  refine Run.nil ?_
  obtain ⟨v1, hv, h⟩ := bdS h
  refine T.cut (fun _ : Unit => (⟨[(0, .v (.sl (.int .i64)) p0), (3, .v (.int .i64) v1)], [], 23⟩ : St)) (fun _ => True) ?_ (fun _ _ => ?_)
  · replace h := hv
    clear hv
    refine T.block ?_
    refine T.loop (LoopT.ghost (Ghost.only [] [0, 3] rfl) (LoopT.run (fun q : Int => (⟨[(0, .v (.sl (.int .i64)) p0), (3, .v (.int .i64) q)], [], 23⟩ : St)) (fun v2 z1 h hz1 => ?_) h))
    rw [m_triviumref02_Trim_l1] at h
    refine T.seq ?_
    obtain ⟨v3, hv, h⟩ := bdS h
    refine T.cut (fun _ : Unit => (⟨[(0, .v (.sl (.int .i64)) p0), (3, .v (.int .i64) v2), (15, .v .bool v3)], [], 23⟩ : St)) (fun _ => True) ?_ (fun _ _ => ?_)
    · replace h := hv
      clear hv
      refine T.region ?_
      refine Run.go (Ev.move rfl rfl) ?_
      refine Run.go (Ev.int rfl rfl rfl rfl trivial) ?_
      refine Run.go (Ev.move rfl rfl) ?_
      rcases boolCases (decide (0 < v2)) with hb4 | hb4
      · replace h := ifT hb4 h
        refine Run.on rfl rfl rfl hb4 (Ev.move rfl rfl) ?_
        refine Run.on rfl rfl rfl hb4 (Ev.move rfl rfl) ?_
        refine Run.on rfl rfl rfl hb4 (Ev.int rfl rfl rfl rfl trivial) ?_
        obtain ⟨x5, e6, h⟩ := bdS h
        refine Run.on rfl rfl rfl hb4 (Ev.e_rd X e6 rfl rfl rfl rfl) ?_
        refine Run.on rfl rfl rfl hb4 (Ev.load X rfl rfl rfl) ?_
        refine Run.on rfl rfl rfl hb4 (Ev.int rfl rfl rfl rfl trivial) ?_
        refine Run.go (Ev.pickT rfl hb4 rfl rfl) ?_
        refine Run.nil ?_
        cases h
        exact ⟨(), trivial, Ghost.only [] [0, 3, 15] rfl⟩
      · replace h := ifF hb4 h
        refine Run.offT rfl rfl rfl rfl hb4 ?_
        refine Run.offT rfl rfl rfl rfl hb4 ?_
        refine Run.offT rfl rfl rfl rfl hb4 ?_
        refine Run.offT rfl rfl rfl rfl hb4 ?_
        refine Run.offT rfl rfl rfl rfl hb4 ?_
        refine Run.offT rfl rfl rfl rfl hb4 ?_
        refine Run.go (Ev.pickF rfl hb4 rfl rfl) ?_
        refine Run.nil ?_
        cases h
        exact ⟨(), trivial, Ghost.only [] [0, 3, 15] rfl⟩
    · refine T.cond rfl (fun hb7 => ?_) (fun hb7 => ?_)
      · replace h := ifT hb7 h
        refine T.skip ?_
        refine T.block ?_
        refine T.region ?_
        refine Run.go (Ev.move rfl rfl) ?_
        refine Run.go (Ev.int rfl rfl rfl rfl trivial) ?_
        refine Run.go (Ev.assign rfl rfl) ?_
        refine Run.nil ?_
        cases h
        exact LoopT.ghost (Ghost.only [] [0, 3] rfl) hz1
      · replace h := ifF hb7 h
        refine T.exit ?_
        cases h
        cases hz1
        exact ⟨(), trivial, Ghost.only [] [0, 3] rfl⟩
  · refine T.seq ?_
    refine T.region ?_
    refine Run.go (Ev.build X 1 rfl rfl rfl rfl rfl rfl rfl rfl) ?_
    refine Run.go (Ev.move rfl rfl) ?_
    refine Run.go (Ev.move rfl rfl) ?_
    obtain ⟨x8, e9, h⟩ := bdS h
    refine Run.go (Ev.e_ct X e9 rfl rfl rfl (fun _ h => by cases h) (fun _ => rfl) (fun _ _ => cutAt_of rfl) (fun h => by cases h)) ?_
    obtain ⟨x10, e11, h⟩ := bdS h
    refine Run.go (Ev.e_ap X 2 e11 rfl rfl rfl .v rfl rfl rfl rfl rfl) ?_
    refine Run.go (Ev.assign rfl rfl) ?_
    refine Run.nil ?_
    refine T.ret ?_
    cases h
    exact Fin.one rfl (.own rfl)
theorem en64 : Enters Tryz.prog 64 := ⟨_, Tryz.func64, rfl, rfl⟩
set_option maxHeartbeats 1000000 in
theorem k_triviumref02_MulAdd {p0 : (List Int)} {p1 : Int} {p2 : Int} {y : (List Int)} (h : m_triviumref02_MulAdd p0 p1 p2 = some y) : Spec Tryz.prog 64 [(.v (.sl (.int .i64)) p0), (.v (.int .i64) p1), (.v (.int .i64) p2)] (.v (.sl (.int .i64)) y) [] := by
  rw [m_triviumref02_MulAdd] at h
  refine enterN [(.v (.sl (.int .i64)) p0), (.v (.int .i64) p1), (.v (.int .i64) p2)] 42 Tryz.func64 rfl rfl rfl ?_
  refine T.seq ?_
  refine T.region ?_
  refine Run.go (Ev.assign rfl rfl) ?_
  refine Run.nil ?_
  refine T.seq ?_
  refine T.region ?_
  refine Run.go (Ev.build X 1 rfl rfl rfl rfl rfl rfl rfl rfl) ?_
  refine Run.go (Ev.assign rfl rfl) ?_
  refine Run.nil ?_
  obtain ⟨⟨v1, v2⟩, hv, h⟩ := bdS h
  refine T.cut (fun _ : Unit => (⟨[(2, .v (.int .i64) v1), (7, .own 5)], [(5, .arr 3 (.int .i64) v2)], 42⟩ : St)) (fun _ => True) ?_ (fun _ _ => ?_)
  · replace h := hv
    clear hv
    refine T.seq ?_
    refine T.region ?_
    refine Run.go (Ev.assign rfl rfl) ?_
    refine Run.nil ?_
    refine T.block ?_
    refine T.loop (LoopT.ghost (Ghost.only [(1, 15)] [0, 1, 2, 7, 8] rfl) (LoopT.run (fun q : Int × Int × (List Int) => (⟨[(0, .v (.sl (.int .i64)) p0), (1, .v (.int .i64) p1), (2, .v (.int .i64) q.1), (7, .own 15), (8, .v (.int .i64) q.2.1)], [(15, .arr 3 (.int .i64) q.2.2)], 42⟩ : St)) (fun q z1 h hz1 => ?_) h))
    obtain ⟨v3, v4, v5⟩ := q
    dsimp only
    rw [m_triviumref02_MulAdd_l1] at h
    refine T.seq ?_
    refine T.seq ?_
    refine T.region ?_
    refine Run.go (Ev.move rfl rfl) ?_
    refine Run.go (Ev.move rfl rfl) ?_
    refine Run.go (Ev.len X rfl rfl rfl rfl) ?_
    refine Run.go (Ev.int rfl rfl rfl rfl trivial) ?_
    refine Run.nil ?_
    refine T.cond rfl (fun hb6 => ?_) (fun hb6 => ?_)
    · replace h := ifT hb6 h
      refine T.skip ?_
      refine T.seq ?_
      refine T.block ?_
      refine T.seq ?_
      refine T.region ?_
      refine Run.go (Ev.move rfl rfl) ?_
      refine Run.go (Ev.move rfl rfl) ?_
      refine Run.go (Ev.move rfl rfl) ?_
      obtain ⟨x7, e8, h⟩ := bdS h
      refine Run.go (Ev.e_rd X e8 rfl rfl rfl rfl) ?_
      refine Run.go (Ev.load X rfl rfl rfl) ?_
      refine Run.go (Ev.move rfl rfl) ?_
      refine Run.go (Ev.int rfl rfl rfl rfl trivial) ?_
      refine Run.go (Ev.int rfl rfl rfl rfl trivial) ?_
      refine Run.go (Ev.assign rfl rfl) ?_
      refine Run.nil ?_
      refine T.seq ?_
      refine T.region ?_
      refine Run.go (Ev.move rfl rfl) ?_
      refine Run.go (Ev.move rfl rfl) ?_
      obtain ⟨x9, e10, h⟩ := bdS h
      refine Run.go (Ev.e_rm e10 rfl rfl rfl) ?_
      refine Run.go (Ev.build X 19 rfl rfl rfl rfl rfl rfl rfl rfl) ?_
      obtain ⟨x11, e12, h⟩ := bdS h
      refine Run.go (Ev.e_ap X 20 e12 rfl rfl rfl (.own rfl) rfl rfl rfl rfl rfl) ?_
      refine Run.go (Ev.assign rfl rfl) ?_
      refine Run.nil ?_
      refine T.region ?_
      refine Run.go (Ev.move rfl rfl) ?_
      obtain ⟨x13, e14, h⟩ := bdS h
      refine Run.go (Ev.e_qd e14 rfl rfl rfl) ?_
      refine Run.go (Ev.assign rfl rfl) ?_
      refine Run.nil ?_
      refine T.region ?_
      refine Run.go (Ev.move rfl rfl) ?_
      refine Run.go (Ev.int rfl rfl rfl rfl trivial) ?_
      refine Run.go (Ev.assign rfl rfl) ?_
      refine Run.nil ?_
      cases h
      exact LoopT.ghost (Ghost.only [(20, 15)] [0, 1, 2, 7, 8] rfl) hz1
    · replace h := ifF hb6 h
      refine T.exit ?_
      cases h
      cases hz1
      exact ⟨(), trivial, Ghost.only [(15, 5)] [2, 7] rfl⟩
  · obtain ⟨v15, hv, h⟩ := bdS h
    refine T.cut (fun _ : Unit => (⟨[(7, .own 24)], [(24, .arr 3 (.int .i64) v15)], 42⟩ : St)) (fun _ => True) ?_ (fun _ _ => ?_)
    · replace h := hv
      clear hv
      refine T.block ?_
      refine T.loop (LoopT.ghost (Ghost.only [(5, 34)] [2, 7] rfl) (LoopT.run (fun q : Int × (List Int) => (⟨[(2, .v (.int .i64) q.1), (7, .own 34)], [(34, .arr 3 (.int .i64) q.2)], 42⟩ : St)) (fun q z1 h hz1 => ?_) h))
      obtain ⟨v16, v17⟩ := q
      dsimp only
      rw [m_triviumref02_MulAdd_l2] at h
      refine T.seq ?_
      refine T.seq ?_
      refine T.region ?_
      refine Run.go (Ev.move rfl rfl) ?_
      refine Run.go (Ev.int rfl rfl rfl rfl trivial) ?_
      refine Run.nil ?_
      refine T.cond rfl (fun hb18 => ?_) (fun hb18 => ?_)
      · replace h := ifT hb18 h
        refine T.skip ?_
        refine T.block ?_
        refine T.seq ?_
        refine T.region ?_
        refine Run.go (Ev.move rfl rfl) ?_
        refine Run.go (Ev.move rfl rfl) ?_
        obtain ⟨x19, e20, h⟩ := bdS h
        refine Run.go (Ev.e_rm e20 rfl rfl rfl) ?_
        refine Run.go (Ev.build X 38 rfl rfl rfl rfl rfl rfl rfl rfl) ?_
        obtain ⟨x21, e22, h⟩ := bdS h
        refine Run.go (Ev.e_ap X 39 e22 rfl rfl rfl (.own rfl) rfl rfl rfl rfl rfl) ?_
        refine Run.go (Ev.assign rfl rfl) ?_
        refine Run.nil ?_
        refine T.region ?_
        refine Run.go (Ev.move rfl rfl) ?_
        obtain ⟨x23, e24, h⟩ := bdS h
        refine Run.go (Ev.e_qd e24 rfl rfl rfl) ?_
        refine Run.go (Ev.assign rfl rfl) ?_
        refine Run.nil ?_
        cases h
        exact LoopT.ghost (Ghost.only [(39, 34)] [2, 7] rfl) hz1
      · replace h := ifF hb18 h
        refine T.exit ?_
        cases h
        cases hz1
        exact ⟨(), trivial, Ghost.only [(34, 24)] [7] rfl⟩
    · refine T.seq ?_
      refine T.region ?_
      refine Run.go (Ev.move rfl rfl) ?_
      refine Run.ghost (Ghost.firmAll (id := 24) rfl) ?_
      obtain ⟨x25, e26, h⟩ := bdS h
      refine Run.go (Ev.callC en84 (k_triviumref02_Trim e26) rfl (.cons .v .nil) rfl rfl) ?_
      refine Run.go (Ev.assign rfl rfl) ?_
      refine Run.nil ?_
      refine T.ret ?_
      cases h
      exact Fin.one rfl .v
theorem en38 : Enters Tryz.prog 38 := ⟨_, Tryz.func38, rfl, rfl⟩
theorem k_triviumref02_Of {p0 : (List Int)} {y : (List Int)} (h : m_triviumref02_Of p0 = some y) : Spec Tryz.prog 38 [(.v (.sl (.int .u64)) p0)] (.v (.sl (.int .i64)) y) [] := by
  rw [m_triviumref02_Of] at h
  refine enterN [(.v (.sl (.int .u64)) p0)] 22 Tryz.func38 rfl rfl rfl ?_
  refine T.seq ?_
  refine T.region ?_
  refine Run.go (Ev.assign rfl rfl) ?_
  refine Run.nil ?_
  refine T.seq ?_
  refine T.region ?_
  refine Run.go (Ev.build X 1 rfl rfl rfl rfl rfl rfl rfl rfl) ?_
  refine Run.go (Ev.assign rfl rfl) ?_
  refine Run.nil ?_
  obtain ⟨v1, hv, h⟩ := bdS h
  refine T.cut (fun _ : Unit => (⟨[(3, .v (.sl (.int .i64)) v1)], [], 22⟩ : St)) (fun _ => True) ?_ (fun _ _ => ?_)
  · replace h := hv
    clear hv
    refine T.seq ?_
    refine T.region ?_
    refine Run.go (Ev.move rfl rfl) ?_
    refine Run.go (Ev.len X rfl rfl rfl rfl) ?_
    refine Run.go (Ev.int rfl rfl rfl rfl trivial) ?_
    refine Run.go (Ev.assign rfl rfl) ?_
    refine Run.nil ?_
    refine T.block ?_
    refine T.loop (LoopT.ghost (Ghost.trans (Ghost.firmAll (id := 1) rfl) (Ghost.only [] [0, 3, 4] rfl)) (LoopT.run (fun q : (List Int) × Int => (⟨[(0, .v (.sl (.int .u64)) p0), (3, .v (.sl (.int .i64)) q.1), (4, .v (.int .i64) q.2)], [], 22⟩ : St)) (fun q z1 h hz1 => ?_) h))
    obtain ⟨v2, v3⟩ := q
    dsimp only
    rw [m_triviumref02_Of_l1] at h
    refine T.seq ?_
    refine T.seq ?_
    refine T.region ?_
    refine Run.go (Ev.move rfl rfl) ?_
    refine Run.go (Ev.int rfl rfl rfl rfl trivial) ?_
    refine Run.nil ?_
    refine T.cond rfl (fun hb4 => ?_) (fun hb4 => ?_)
    · replace h := ifT hb4 h
      refine T.skip ?_
      refine T.seq ?_
      refine T.block ?_
      refine T.region ?_
      refine Run.go (Ev.move rfl rfl) ?_
      refine Run.go (Ev.move rfl rfl) ?_
      refine Run.go (Ev.move rfl rfl) ?_
      obtain ⟨x5, e6, h⟩ := bdS h
      refine Run.go (Ev.e_rd X e6 rfl rfl rfl rfl) ?_
      refine Run.go (Ev.load X rfl rfl rfl) ?_
      obtain ⟨x7, e8, h⟩ := bdS h
      refine Run.go (Ev.e_rm e8 rfl rfl rfl) ?_
      refine Run.go (Ev.conv X rfl rfl rfl rfl) ?_
      obtain ⟨x9, e10, h⟩ := bdS h
      refine Run.go (Ev.callC en64 (k_triviumref02_MulAdd e10) rfl (.cons .v (.cons .v (.cons .v .nil))) rfl rfl) ?_
      refine Run.go (Ev.assign rfl rfl) ?_
      refine Run.nil ?_
      refine T.region ?_
      refine Run.go (Ev.move rfl rfl) ?_
      refine Run.go (Ev.int rfl rfl rfl rfl trivial) ?_
      refine Run.go (Ev.assign rfl rfl) ?_
      refine Run.nil ?_
      cases h
      exact LoopT.ghost (Ghost.only [] [0, 3, 4] rfl) hz1
    · replace h := ifF hb4 h
      refine T.exit ?_
      cases h
      cases hz1
      exact ⟨(), trivial, Ghost.only [] [3] rfl⟩
  · refine T.seq ?_
    refine T.region ?_
    refine Run.go (Ev.move rfl rfl) ?_
    refine Run.go (Ev.assign rfl rfl) ?_
    refine Run.nil ?_
    refine T.ret ?_
    cases h
    exact Fin.one rfl .v
theorem en63 : Enters Tryz.prog 63 := ⟨_, Tryz.func63, rfl, rfl⟩
theorem k_triviumref07_made {p0 : Bool} {p1 : (List Int)} {y : D_triviumref07_Z} (h : m_triviumref07_made p0 p1 = some y) : Spec Tryz.prog 63 [(.v .bool p0), (.v (.sl (.int .i64)) p1)] (.v Y_triviumref07_Z y) [] := by
  rw [m_triviumref07_made] at h
  refine enterN [(.v .bool p0), (.v (.sl (.int .i64)) p1)] 13 Tryz.func63 rfl rfl rfl ?_
  refine T.seq ?_
  refine T.region ?_
  refine Run.go (Ev.allocN X 1 rfl rfl rfl) ?_
  refine Run.nil ?_
  refine T.seq ?_
  refine T.region ?_
  refine Run.go (Ev.move rfl rfl) ?_
  refine Run.go (Ev.move rfl rfl) ?_
  rcases boolCases p0 with hb1 | hb1
  · replace h := ifT hb1 h
    refine Run.on rfl rfl rfl hb1 (Ev.move rfl rfl) ?_
    refine Run.on rfl rfl rfl hb1 (Ev.len X rfl rfl rfl rfl) ?_
    refine Run.on rfl rfl rfl hb1 (Ev.int rfl rfl rfl rfl trivial) ?_
    refine Run.go (Ev.pickT rfl hb1 rfl rfl) ?_
    refine Run.go (Ev.move rfl rfl) ?_
    refine Run.go (Ev.struct X pl49 rfl rfl rfl rfl rfl rfl rfl rfl) ?_
    refine Run.do_ (Ev.storeBox X rfl rfl rfl rfl rfl rfl rfl) ?_
    refine Run.nil ?_
    refine T.ret ?_
    cases h
    exact Fin.cell X rfl rfl rfl rfl rfl
  · replace h := ifF hb1 h
    refine Run.offT rfl rfl rfl rfl hb1 ?_
    refine Run.offT rfl rfl rfl rfl hb1 ?_
    refine Run.offT rfl rfl rfl rfl hb1 ?_
    refine Run.go (Ev.pickF rfl hb1 rfl rfl) ?_
    refine Run.go (Ev.move rfl rfl) ?_
    refine Run.go (Ev.struct X pl49 rfl rfl rfl rfl rfl rfl rfl rfl) ?_
    refine Run.do_ (Ev.storeBox X rfl rfl rfl rfl rfl rfl rfl) ?_
    refine Run.nil ?_
    refine T.ret ?_
    cases h
    exact Fin.cell X rfl rfl rfl rfl rfl
theorem en36 : Enters Tryz.prog 36 := ⟨_, Tryz.func36, rfl, rfl⟩
theorem k_triviumref07_Of {p0 : D_api_Int} {y : D_triviumref07_Z} (h : m_triviumref07_Of p0 = some y) : Spec Tryz.prog 36 [(.v Y_api_Int p0)] (.v Y_triviumref07_Z y) [] := by
  rw [m_triviumref07_Of] at h
  refine enterN [(.v Y_api_Int p0)] 9 Tryz.func36 rfl rfl rfl ?_
  refine T.seq ?_
  refine T.region ?_
  refine Run.go (Ev.box 1 rfl rfl rfl rfl) ?_
  refine Run.go (Ev.allocN X 2 rfl rfl rfl) ?_
  refine Run.nil ?_
  refine T.seq ?_
  refine T.drawM [6] [0, 1, 0, 4, 12, 31, 63] (by kernel_rfl) (by kernel_rfl) ?_
  refine RunD.a rfl rfl (Ev.fieldBox X rfl rfl rfl rfl rfl) ?_
  refine RunD.a rfl rfl (Ev.loadCell X rfl rfl rfl rfl rfl rfl) ?_
  refine RunD.a rfl rfl (Ev.fieldBox X rfl rfl rfl rfl rfl) ?_
  refine RunD.a rfl rfl (Ev.loadCell X rfl rfl rfl rfl rfl rfl) ?_
  obtain ⟨x1, e2, h⟩ := bdS h
  refine RunD.a rfl rfl (Ev.callC en38 (k_triviumref02_Of e2) rfl (.cons .v .nil) rfl rfl) ?_
  obtain ⟨x3, e4, h⟩ := bdS h
  refine RunD.a rfl rfl (Ev.callC en63 (k_triviumref07_made e4) rfl (.cons .v (.cons .v .nil)) rfl rfl) ?_
  refine RunD.mN rfl (Ev.storeBox X rfl rfl rfl rfl rfl rfl rfl) ?_
  refine RunD.nil ?_
  refine T.ret ?_
  cases h
  exact Fin.cell X rfl rfl rfl rfl rfl
theorem en49 : Enters Tryz.prog 49 := ⟨_, Tryz.func49, rfl, rfl⟩
set_option maxHeartbeats 1000000 in
theorem k_triviumref02_Cmp {p0 : (List Int)} {p1 : (List Int)} {y : Int} (h : m_triviumref02_Cmp p0 p1 = some y) : Spec Tryz.prog 49 [(.v (.sl (.int .i64)) p0), (.v (.sl (.int .i64)) p1)] (.v (.int .i64) y) [] := by
  rw [m_triviumref02_Cmp] at h
  refine enterN [(.v (.sl (.int .i64)) p0), (.v (.sl (.int .i64)) p1)] 41 Tryz.func49 rfl rfl rfl ?_
  refine T.seq ?_
  refine T.region ?_
  refine Run.go (Ev.assign rfl rfl) ?_
  refine Run.nil ?_
  refine T.seq ?_
  refine T.seq ?_
  refine T.region ?_
  refine Run.go (Ev.move rfl rfl) ?_
  refine Run.go (Ev.len X rfl rfl rfl rfl) ?_
  refine Run.go (Ev.move rfl rfl) ?_
  refine Run.go (Ev.len X rfl rfl rfl rfl) ?_
  refine Run.go (Ev.int rfl rfl rfl rfl trivial) ?_
  refine Run.nil ?_
  refine T.cond rfl (fun hb1 => ?_) (fun hb1 => ?_)
  · replace h := ifT hb1 h
    refine T.seq ?_
    refine T.seq ?_
    refine T.region ?_
    refine Run.go (Ev.move rfl rfl) ?_
    refine Run.go (Ev.len X rfl rfl rfl rfl) ?_
    refine Run.go (Ev.move rfl rfl) ?_
    refine Run.go (Ev.len X rfl rfl rfl rfl) ?_
    refine Run.go (Ev.int rfl rfl rfl rfl trivial) ?_
    refine Run.nil ?_
    refine T.cond rfl (fun hb2 => ?_) (fun hb2 => ?_)
    · replace h := ifT hb2 h
      refine T.seq ?_
      refine T.region ?_
      refine Run.go (Ev.assign rfl rfl) ?_
      refine Run.nil ?_
      refine T.ret ?_
      cases h
      exact Fin.one rfl .v
    · replace h := ifF hb2 h
      refine T.skip ?_
      refine T.seq ?_
      refine T.region ?_
      refine Run.go (Ev.assign rfl rfl) ?_
      refine Run.nil ?_
      refine T.ret ?_
      cases h
      exact Fin.one rfl .v
  · replace h := ifF hb1 h
    refine T.skip ?_
    refine T.seq ?_
    refine T.seq ?_
    refine T.region ?_
    refine Run.go (Ev.move rfl rfl) ?_
    refine Run.go (Ev.len X rfl rfl rfl rfl) ?_
    refine Run.go (Ev.int rfl rfl rfl rfl trivial) ?_
    refine Run.go (Ev.assign rfl rfl) ?_
    refine Run.nil ?_
    refine T.block ?_
    refine T.loop (LoopT.ghost (Ghost.only [] [0, 1, 5] rfl) (LoopT.run (fun q : Int => (⟨[(0, .v (.sl (.int .i64)) p0), (1, .v (.sl (.int .i64)) p1), (5, .v (.int .i64) q)], [], 41⟩ : St)) (fun v3 z1 h hz1 => ?_) h))
    rw [m_triviumref02_Cmp_l1] at h
    refine T.seq ?_
    refine T.seq ?_
    refine T.region ?_
    refine Run.go (Ev.move rfl rfl) ?_
    refine Run.go (Ev.int rfl rfl rfl rfl trivial) ?_
    refine Run.nil ?_
    refine T.cond rfl (fun hb4 => ?_) (fun hb4 => ?_)
    · replace h := ifT hb4 h
      refine T.skip ?_
      refine T.seq ?_
      refine T.block ?_
      refine T.seq ?_
      refine T.seq ?_
      refine T.drawM [] [0, 0, 3, 7, 0, 0, 48, 112, 255] (by kernel_rfl) (by kernel_rfl) ?_
      refine RunD.w (fun _ => Ev.move rfl rfl) ?_
      refine RunD.w (fun _ => Ev.move rfl rfl) ?_
      obtain ⟨x5, e6, h⟩ := bdS h
      refine RunD.a rfl rfl (Ev.e_rd X e6 rfl rfl rfl rfl) ?_
      refine RunD.a rfl rfl (Ev.load X rfl rfl rfl) ?_
      refine RunD.w (fun _ => Ev.move rfl rfl) ?_
      refine RunD.w (fun _ => Ev.move rfl rfl) ?_
      obtain ⟨x7, e8, h⟩ := bdS h
      refine RunD.a rfl rfl (Ev.e_rd X e8 rfl rfl rfl rfl) ?_
      refine RunD.a rfl rfl (Ev.load X rfl rfl rfl) ?_
      refine RunD.w (fun _ => Ev.int rfl rfl rfl rfl trivial) ?_
      refine RunD.nil ?_
      refine T.cond rfl (fun hb9 => ?_) (fun hb9 => ?_)
      · replace h := ifT hb9 h
        refine T.seq ?_
        refine T.region ?_
        refine Run.go (Ev.assign rfl rfl) ?_
        refine Run.nil ?_
        refine T.ret ?_
        cases h
        cases hz1
        exact Fin.one rfl .v
      · replace h := ifF hb9 h
        refine T.skip ?_
        refine T.seq ?_
        refine T.drawM [] [0, 0, 3, 7, 0, 0, 48, 112, 255] (by kernel_rfl) (by kernel_rfl) ?_
        refine RunD.w (fun _ => Ev.move rfl rfl) ?_
        refine RunD.w (fun _ => Ev.move rfl rfl) ?_
        obtain ⟨x10, e11, h⟩ := bdS h
        refine RunD.a rfl rfl (Ev.e_rd X e11 rfl rfl rfl rfl) ?_
        refine RunD.a rfl rfl (Ev.load X rfl rfl rfl) ?_
        refine RunD.w (fun _ => Ev.move rfl rfl) ?_
        refine RunD.w (fun _ => Ev.move rfl rfl) ?_
        obtain ⟨x12, e13, h⟩ := bdS h
        refine RunD.a rfl rfl (Ev.e_rd X e13 rfl rfl rfl rfl) ?_
        refine RunD.a rfl rfl (Ev.load X rfl rfl rfl) ?_
        refine RunD.w (fun _ => Ev.int rfl rfl rfl rfl trivial) ?_
        refine RunD.nil ?_
        refine T.cond rfl (fun hb14 => ?_) (fun hb14 => ?_)
        · replace h := ifT hb14 h
          refine T.seq ?_
          refine T.region ?_
          refine Run.go (Ev.assign rfl rfl) ?_
          refine Run.nil ?_
          refine T.ret ?_
          cases h
          cases hz1
          exact Fin.one rfl .v
        · replace h := ifF hb14 h
          refine T.skip ?_
          refine T.region ?_
          refine Run.go (Ev.move rfl rfl) ?_
          refine Run.go (Ev.int rfl rfl rfl rfl trivial) ?_
          refine Run.go (Ev.assign rfl rfl) ?_
          refine Run.nil ?_
          cases h
          exact LoopT.ghost (Ghost.only [] [0, 1, 5] rfl) hz1
    · replace h := ifF hb4 h
      refine T.exit ?_
      refine T.seq ?_
      refine T.region ?_
      refine Run.go (Ev.assign rfl rfl) ?_
      refine Run.nil ?_
      refine T.ret ?_
      cases h
      cases hz1
      exact Fin.one rfl .v
theorem en85 : Enters Tryz.prog 85 := ⟨_, Tryz.func85, rfl, rfl⟩
set_option maxHeartbeats 1000000 in
theorem k_triviumref02_Sub {p0 : (List Int)} {p1 : (List Int)} {y : (List Int)} (h : m_triviumref02_Sub p0 p1 = some y) : Spec Tryz.prog 85 [(.v (.sl (.int .i64)) p0), (.v (.sl (.int .i64)) p1)] (.v (.sl (.int .i64)) y) [] := by
  rw [m_triviumref02_Sub] at h
  refine enterN [(.v (.sl (.int .i64)) p0), (.v (.sl (.int .i64)) p1)] 42 Tryz.func85 rfl rfl rfl ?_
  refine T.seq ?_
  refine T.region ?_
  refine Run.go (Ev.assign rfl rfl) ?_
  refine Run.nil ?_
  refine T.seq ?_
  refine T.region ?_
  refine Run.go (Ev.build X 1 rfl rfl rfl rfl rfl rfl rfl rfl) ?_
  refine Run.go (Ev.assign rfl rfl) ?_
  refine Run.go (Ev.assign rfl rfl) ?_
  refine Run.nil ?_
  obtain ⟨v1, hv, h⟩ := bdS h
  refine T.cut (fun _ : Unit => (⟨[(5, .own 7)], [(7, .arr 3 (.int .i64) v1)], 42⟩ : St)) (fun _ => True) ?_ (fun _ _ => ?_)
  · replace h := hv
    clear hv
    refine T.seq ?_
    refine T.region ?_
    refine Run.go (Ev.assign rfl rfl) ?_
    refine Run.nil ?_
    refine T.block ?_
    refine T.loop (LoopT.ghost (Ghost.only [(1, 23)] [0, 1, 5, 6, 7] rfl) (LoopT.run (fun q : Int × Int × (List Int) => (⟨[(0, .v (.sl (.int .i64)) p0), (1, .v (.sl (.int .i64)) p1), (5, .own 23), (6, .v (.int .i64) q.1), (7, .v (.int .i64) q.2.1)], [(23, .arr 3 (.int .i64) q.2.2)], 42⟩ : St)) (fun q z1 h hz1 => ?_) h))
    obtain ⟨v2, v3, v4⟩ := q
    dsimp only
    rw [m_triviumref02_Sub_l1] at h
    refine T.seq ?_
    refine T.seq ?_
    refine T.region ?_
    refine Run.go (Ev.move rfl rfl) ?_
    refine Run.go (Ev.move rfl rfl) ?_
    refine Run.go (Ev.len X rfl rfl rfl rfl) ?_
    refine Run.go (Ev.int rfl rfl rfl rfl trivial) ?_
    refine Run.nil ?_
    refine T.cond rfl (fun hb5 => ?_) (fun hb5 => ?_)
    · replace h := ifT hb5 h
      refine T.skip ?_
      refine T.seq ?_
      refine T.block ?_
      refine T.seq ?_
      refine T.region ?_
      refine Run.go (Ev.move rfl rfl) ?_
      refine Run.go (Ev.move rfl rfl) ?_
      obtain ⟨x6, e7, h⟩ := bdS h
      refine Run.go (Ev.e_rd X e7 rfl rfl rfl rfl) ?_
      refine Run.go (Ev.load X rfl rfl rfl) ?_
      refine Run.go (Ev.move rfl rfl) ?_
      refine Run.go (Ev.int rfl rfl rfl rfl trivial) ?_
      refine Run.go (Ev.assign rfl rfl) ?_
      refine Run.nil ?_
      obtain ⟨v8, hv, h⟩ := bdS h
      refine T.cut (fun _ : Unit => (⟨[(0, .v (.sl (.int .i64)) p0), (1, .v (.sl (.int .i64)) p1), (5, .own 23), (7, .v (.int .i64) v3), (8, .v (.int .i64) v8)], [(23, .arr 3 (.int .i64) v4)], 42⟩ : St)) (fun _ => True) ?_ (fun _ _ => ?_)
      · replace h := hv
        clear hv
        refine T.seq ?_
        refine T.region ?_
        refine Run.go (Ev.move rfl rfl) ?_
        refine Run.go (Ev.move rfl rfl) ?_
        refine Run.go (Ev.len X rfl rfl rfl rfl) ?_
        refine Run.go (Ev.int rfl rfl rfl rfl trivial) ?_
        refine Run.nil ?_
        refine T.cond rfl (fun hb9 => ?_) (fun hb9 => ?_)
        · replace h := ifT hb9 h
          refine T.region ?_
          refine Run.go (Ev.move rfl rfl) ?_
          refine Run.go (Ev.move rfl rfl) ?_
          refine Run.go (Ev.move rfl rfl) ?_
          obtain ⟨x10, e11, h⟩ := bdS h
          refine Run.go (Ev.e_rd X e11 rfl rfl rfl rfl) ?_
          refine Run.go (Ev.load X rfl rfl rfl) ?_
          refine Run.go (Ev.int rfl rfl rfl rfl trivial) ?_
          refine Run.go (Ev.assign rfl rfl) ?_
          refine Run.nil ?_
          cases h
          exact ⟨(), trivial, Ghost.only [(23, 23)] [0, 1, 5, 7, 8] rfl⟩
        · replace h := ifF hb9 h
          refine T.skip ?_
          cases h
          exact ⟨(), trivial, Ghost.only [(23, 23)] [0, 1, 5, 7, 8] rfl⟩
      · refine T.seq ?_
        refine T.region ?_
        refine Run.go (Ev.assign rfl rfl) ?_
        refine Run.nil ?_
        obtain ⟨⟨v12, v13⟩, hv, h⟩ := bdS h
        refine T.cut (fun _ : Unit => (⟨[(0, .v (.sl (.int .i64)) p0), (1, .v (.sl (.int .i64)) p1), (5, .own 23), (6, .v (.int .i64) v12), (7, .v (.int .i64) v3), (8, .v (.int .i64) v13)], [(23, .arr 3 (.int .i64) v4)], 42⟩ : St)) (fun _ => True) ?_ (fun _ _ => ?_)
        · replace h := hv
          clear hv
          refine T.seq ?_
          refine T.region ?_
          refine Run.go (Ev.move rfl rfl) ?_
          refine Run.go (Ev.int rfl rfl rfl rfl trivial) ?_
          refine Run.nil ?_
          refine T.cond rfl (fun hb14 => ?_) (fun hb14 => ?_)
          · replace h := ifT hb14 h
            refine T.region ?_
            refine Run.go (Ev.move rfl rfl) ?_
            refine Run.go (Ev.int rfl rfl rfl rfl trivial) ?_
            refine Run.go (Ev.assign rfl rfl) ?_
            refine Run.go (Ev.assign rfl rfl) ?_
            refine Run.nil ?_
            cases h
            exact ⟨(), trivial, Ghost.only [(23, 23)] [0, 1, 5, 6, 7, 8] rfl⟩
          · replace h := ifF hb14 h
            refine T.skip ?_
            cases h
            exact ⟨(), trivial, Ghost.only [(23, 23)] [0, 1, 5, 6, 7, 8] rfl⟩
        · refine T.region ?_
          refine Run.go (Ev.move rfl rfl) ?_
          refine Run.go (Ev.move rfl rfl) ?_
          refine Run.go (Ev.build X 31 rfl rfl rfl rfl rfl rfl rfl rfl) ?_
          obtain ⟨x15, e16, h⟩ := bdS h
          refine Run.go (Ev.e_ap X 32 e16 rfl rfl rfl (.own rfl) rfl rfl rfl rfl rfl) ?_
          refine Run.go (Ev.assign rfl rfl) ?_
          refine Run.nil ?_
          refine T.region ?_
          refine Run.go (Ev.move rfl rfl) ?_
          refine Run.go (Ev.int rfl rfl rfl rfl trivial) ?_
          refine Run.go (Ev.assign rfl rfl) ?_
          refine Run.nil ?_
          cases h
          exact LoopT.ghost (Ghost.only [(32, 23)] [0, 1, 5, 6, 7] rfl) hz1
    · replace h := ifF hb5 h
      refine T.exit ?_
      cases h
      cases hz1
      exact ⟨(), trivial, Ghost.only [(23, 7)] [5] rfl⟩
  · refine T.seq ?_
    refine T.region ?_
    refine Run.go (Ev.move rfl rfl) ?_
    refine Run.ghost (Ghost.firmAll (id := 7) rfl) ?_
    obtain ⟨x17, e18, h⟩ := bdS h
    refine Run.go (Ev.callC en84 (k_triviumref02_Trim e18) rfl (.cons .v .nil) rfl rfl) ?_
    refine Run.go (Ev.assign rfl rfl) ?_
    refine Run.nil ?_
    refine T.ret ?_
    cases h
    exact Fin.one rfl .v
theorem en62 : Enters Tryz.prog 62 := ⟨_, Tryz.func62, rfl, rfl⟩
set_option maxHeartbeats 1000000 in
theorem k_triviumref02_Div {p0 : (List Int)} {p1 : (List Int)} {y : (List Int) × (List Int)} (h : m_triviumref02_Div p0 p1 = some y) : Spec Tryz.prog 62 [(.v (.sl (.int .i64)) p0), (.v (.sl (.int .i64)) p1)] (.tup [.v (.sl (.int .i64)) y.1, .v (.sl (.int .i64)) y.2]) [] := by
  rw [m_triviumref02_Div] at h
  refine enterN [(.v (.sl (.int .i64)) p0), (.v (.sl (.int .i64)) p1)] 59 Tryz.func62 rfl rfl rfl ?_
  refine T.seq ?_
  refine T.region ?_
  refine Run.go (Ev.assign rfl rfl) ?_
  refine Run.go (Ev.assign rfl rfl) ?_
  refine Run.nil ?_
  refine T.seq ?_
  refine T.region ?_
  refine Run.go (Ev.move rfl rfl) ?_
  refine Run.go (Ev.len X rfl rfl rfl rfl) ?_
  obtain ⟨x1, e2, h⟩ := bdS h
  refine Run.go (Ev.e_mk X 1 e2 rfl rfl rfl rfl rfl rfl) ?_
  refine Run.go (Ev.build X 2 rfl rfl rfl rfl rfl rfl rfl rfl) ?_
  refine Run.go (Ev.assign rfl rfl) ?_
  refine Run.go (Ev.assign rfl rfl) ?_
  refine Run.nil ?_
  obtain ⟨⟨v3, v4⟩, hv, h⟩ := bdS h
  refine T.cut (fun _ : Unit => (⟨[(6, .own 1), (7, .v (.sl (.int .i64)) v3)], [(1, .arr 3 (.int .i64) v4)], 59⟩ : St)) (fun _ => True) ?_ (fun _ _ => ?_)
  · replace h := hv
    clear hv
    refine T.seq ?_
    refine T.region ?_
    refine Run.go (Ev.move rfl rfl) ?_
    refine Run.go (Ev.len X rfl rfl rfl rfl) ?_
    refine Run.go (Ev.int rfl rfl rfl rfl trivial) ?_
    refine Run.go (Ev.assign rfl rfl) ?_
    refine Run.nil ?_
    refine T.block ?_
    refine T.loop (LoopT.ghost (Ghost.trans (Ghost.firmAll (id := 2) rfl) (Ghost.only [(1, 1)] [0, 1, 6, 7, 8] rfl)) (LoopT.run (fun q : (List Int) × Int × (List Int) => (⟨[(0, .v (.sl (.int .i64)) p0), (1, .v (.sl (.int .i64)) p1), (6, .own 1), (7, .v (.sl (.int .i64)) q.1), (8, .v (.int .i64) q.2.1)], [(1, .arr 3 (.int .i64) q.2.2)], 59⟩ : St)) (fun q z1 h hz1 => ?_) h))
    obtain ⟨v5, v6, v7⟩ := q
    dsimp only
    rw [m_triviumref02_Div_l1] at h
    refine T.seq ?_
    refine T.seq ?_
    refine T.region ?_
    refine Run.go (Ev.move rfl rfl) ?_
    refine Run.go (Ev.int rfl rfl rfl rfl trivial) ?_
    refine Run.nil ?_
    refine T.cond rfl (fun hb8 => ?_) (fun hb8 => ?_)
    · replace h := ifT hb8 h
      refine T.skip ?_
      obtain ⟨⟨v9, v10⟩, hv, h⟩ := bdS h
      refine T.cut (fun _ : Unit => (⟨[(0, .v (.sl (.int .i64)) p0), (1, .v (.sl (.int .i64)) p1), (6, .own 1), (7, .v (.sl (.int .i64)) v9), (8, .v (.int .i64) v6)], [(1, .arr 3 (.int .i64) v10)], 59⟩ : St)) (fun _ => True) ?_ (fun _ _ => ?_)
      · replace h := hv
        clear hv
        refine T.block ?_
        refine T.seq ?_
        refine T.region ?_
        refine Run.go (Ev.move rfl rfl) ?_
        refine Run.go (Ev.move rfl rfl) ?_
        obtain ⟨x11, e12, h⟩ := bdS h
        refine Run.go (Ev.e_rd X e12 rfl rfl rfl rfl) ?_
        refine Run.go (Ev.load X rfl rfl rfl) ?_
        refine Run.go (Ev.build X 117 rfl rfl rfl rfl rfl rfl rfl rfl) ?_
        refine Run.go (Ev.move rfl rfl) ?_
        obtain ⟨x13, e14, h⟩ := bdS h
        refine Run.go (Ev.e_ap X 118 e14 rfl rfl rfl .v rfl rfl rfl rfl rfl) ?_
        refine Run.ghost (Ghost.firmAll (id := 118) rfl) ?_
        obtain ⟨x15, e16, h⟩ := bdS h
        refine Run.go (Ev.callC en84 (k_triviumref02_Trim e16) rfl (.cons .v .nil) rfl rfl) ?_
        refine Run.go (Ev.assign rfl rfl) ?_
        refine Run.nil ?_
        refine T.seq ?_
        refine T.region ?_
        refine Run.go (Ev.assign rfl rfl) ?_
        refine Run.go (Ev.assign rfl rfl) ?_
        refine Run.nil ?_
        obtain ⟨v17, hv, h⟩ := bdS h
        refine T.cut (fun _ : Unit => (⟨[(0, .v (.sl (.int .i64)) p0), (1, .v (.sl (.int .i64)) p1), (6, .own 1), (7, .v (.sl (.int .i64)) x15), (8, .v (.int .i64) v6), (9, .v (.int .i64) v17)], [(1, .arr 3 (.int .i64) v7)], 59⟩ : St)) (fun _ => True) ?_ (fun _ _ => ?_)
        · replace h := hv
          clear hv
          refine T.block ?_
          refine T.loop (LoopT.ghost (Ghost.only [(1, 1)] [0, 1, 6, 7, 8, 9, 10] rfl) (LoopT.run (fun q : Int × Int => (⟨[(0, .v (.sl (.int .i64)) p0), (1, .v (.sl (.int .i64)) p1), (6, .own 1), (7, .v (.sl (.int .i64)) x15), (8, .v (.int .i64) v6), (9, .v (.int .i64) q.1), (10, .v (.int .i64) q.2)], [(1, .arr 3 (.int .i64) v7)], 59⟩ : St)) (fun q z2 h hz2 => ?_) h))
          obtain ⟨v18, v19⟩ := q
          dsimp only
          rw [m_triviumref02_Div_l2] at h
          refine T.seq ?_
          refine T.seq ?_
          refine T.region ?_
          refine Run.go (Ev.move rfl rfl) ?_
          refine Run.go (Ev.move rfl rfl) ?_
          refine Run.go (Ev.int rfl rfl rfl rfl trivial) ?_
          refine Run.go (Ev.int rfl rfl rfl rfl trivial) ?_
          refine Run.nil ?_
          refine T.cond rfl (fun hb20 => ?_) (fun hb20 => ?_)
          · replace h := ifT hb20 h
            refine T.skip ?_
            refine T.block ?_
            refine T.seq ?_
            refine T.region ?_
            refine Run.go (Ev.move rfl rfl) ?_
            refine Run.go (Ev.move rfl rfl) ?_
            refine Run.go (Ev.int rfl rfl rfl rfl trivial) ?_
            obtain ⟨x21, e22, h⟩ := bdS h
            refine Run.go (Ev.e_qd e22 rfl rfl rfl) ?_
            refine Run.go (Ev.assign rfl rfl) ?_
            refine Run.nil ?_
            refine T.seq ?_
            refine T.region ?_
            refine Run.go (Ev.move rfl rfl) ?_
            refine Run.go (Ev.move rfl rfl) ?_
            obtain ⟨x23, e24, h⟩ := bdS h
            refine Run.go (Ev.callC en64 (k_triviumref02_MulAdd e24) rfl (.cons .v (.cons .v (.cons .v .nil))) rfl rfl) ?_
            refine Run.go (Ev.move rfl rfl) ?_
            obtain ⟨x25, e26, h⟩ := bdS h
            refine Run.go (Ev.callC en49 (k_triviumref02_Cmp e26) rfl (.cons .v (.cons .v .nil)) rfl rfl) ?_
            refine Run.go (Ev.int rfl rfl rfl rfl trivial) ?_
            refine Run.nil ?_
            refine T.cond rfl (fun hb27 => ?_) (fun hb27 => ?_)
            · replace h := ifT hb27 h
              refine T.region ?_
              refine Run.go (Ev.move rfl rfl) ?_
              refine Run.go (Ev.assign rfl rfl) ?_
              refine Run.nil ?_
              cases h
              exact LoopT.ghost (Ghost.only [(1, 1)] [0, 1, 6, 7, 8, 9, 10] rfl) hz2
            · replace h := ifF hb27 h
              refine T.region ?_
              refine Run.go (Ev.move rfl rfl) ?_
              refine Run.go (Ev.assign rfl rfl) ?_
              refine Run.nil ?_
              cases h
              exact LoopT.ghost (Ghost.only [(1, 1)] [0, 1, 6, 7, 8, 9, 10] rfl) hz2
          · replace h := ifF hb20 h
            refine T.exit ?_
            cases h
            cases hz2
            exact ⟨(), trivial, Ghost.only [(1, 1)] [0, 1, 6, 7, 8, 9] rfl⟩
        · refine T.seq ?_
          refine T.region ?_
          refine Run.go (Ev.move rfl rfl) ?_
          refine Run.go (Ev.move rfl rfl) ?_
          refine Run.go (Ev.move rfl rfl) ?_
          obtain ⟨j28, e29, h⟩ := bdS h
          refine Run.go (Ev.e_ixO X e29 rfl rfl rfl rfl rfl) ?_
          obtain ⟨x30, e31, h⟩ := ltS h
          refine Run.do_ (Ev.asO (Ev.storeEl X rfl rfl rfl rfl rfl) e31) ?_
          refine Run.nil ?_
          refine T.region ?_
          refine Run.go (Ev.move rfl rfl) ?_
          refine Run.go (Ev.move rfl rfl) ?_
          refine Run.go (Ev.move rfl rfl) ?_
          obtain ⟨x32, e33, h⟩ := bdS h
          refine Run.go (Ev.callC en64 (k_triviumref02_MulAdd e33) rfl (.cons .v (.cons .v (.cons .v .nil))) rfl rfl) ?_
          obtain ⟨x34, e35, h⟩ := bdS h
          refine Run.go (Ev.callC en85 (k_triviumref02_Sub e35) rfl (.cons .v (.cons .v .nil)) rfl rfl) ?_
          refine Run.go (Ev.assign rfl rfl) ?_
          refine Run.nil ?_
          cases h
          exact ⟨(), trivial, Ghost.only [(1, 1)] [0, 1, 6, 7, 8] rfl⟩
      · refine T.region ?_
        refine Run.go (Ev.move rfl rfl) ?_
        refine Run.go (Ev.int rfl rfl rfl rfl trivial) ?_
        refine Run.go (Ev.assign rfl rfl) ?_
        refine Run.nil ?_
        cases h
        exact LoopT.ghost (Ghost.only [(1, 1)] [0, 1, 6, 7, 8] rfl) hz1
    · replace h := ifF hb8 h
      refine T.exit ?_
      cases h
      cases hz1
      exact ⟨(), trivial, Ghost.only [(1, 1)] [6, 7] rfl⟩
  · refine T.seq ?_
    refine T.region ?_
    refine Run.go (Ev.move rfl rfl) ?_
    refine Run.ghost (Ghost.firmAll (id := 1) rfl) ?_
    obtain ⟨x36, e37, h⟩ := bdS h
    refine Run.go (Ev.callC en84 (k_triviumref02_Trim e37) rfl (.cons .v .nil) rfl rfl) ?_
    refine Run.go (Ev.move rfl rfl) ?_
    refine Run.go (Ev.assign rfl rfl) ?_
    refine Run.go (Ev.assign rfl rfl) ?_
    refine Run.nil ?_
    refine T.ret ?_
    cases h
    exact Fin.many X rfl (.cons (.tmp .v) (.cons (.tmp .v) .nil)) rfl
theorem en61 : Enters Tryz.prog 61 := ⟨_, Tryz.func61, rfl, rfl⟩
theorem k_triviumref02_Gcd {p0 : (List Int)} {p1 : (List Int)} {y : (List Int)} (h : m_triviumref02_Gcd p0 p1 = some y) : Spec Tryz.prog 61 [(.v (.sl (.int .i64)) p0), (.v (.sl (.int .i64)) p1)] (.v (.sl (.int .i64)) y) [] := by
  rw [m_triviumref02_Gcd] at h
  refine enterN [(.v (.sl (.int .i64)) p0), (.v (.sl (.int .i64)) p1)] 19 Tryz.func61 rfl rfl rfl ?_
  refine T.seq ?_
  refine T.region ?_
  refine Run.go (Ev.assign rfl rfl) ?_
  refine Run.nil ?_
  obtain ⟨v1, hv, h⟩ := bdS h
  refine T.cut (fun _ : Unit => (⟨[(0, .v (.sl (.int .i64)) v1)], [], 19⟩ : St)) (fun _ => True) ?_ (fun _ _ => ?_)
  · replace h := hv
    clear hv
    refine T.block ?_
    refine T.loop (LoopT.ghost (Ghost.only [] [0, 1] rfl) (LoopT.run (fun q : (List Int) × (List Int) => (⟨[(0, .v (.sl (.int .i64)) q.1), (1, .v (.sl (.int .i64)) q.2)], [], 19⟩ : St)) (fun q z1 h hz1 => ?_) h))
    obtain ⟨v2, v3⟩ := q
    dsimp only
    rw [m_triviumref02_Gcd_l1] at h
    refine T.seq ?_
    refine T.seq ?_
    refine T.region ?_
    refine Run.go (Ev.move rfl rfl) ?_
    refine Run.go (Ev.len X rfl rfl rfl rfl) ?_
    refine Run.go (Ev.int rfl rfl rfl rfl trivial) ?_
    refine Run.nil ?_
    refine T.cond rfl (fun hb4 => ?_) (fun hb4 => ?_)
    · replace h := ifT hb4 h
      refine T.skip ?_
      refine T.block ?_
      refine T.seq ?_
      refine T.region ?_
      refine Run.go (Ev.move rfl rfl) ?_
      refine Run.go (Ev.move rfl rfl) ?_
      obtain ⟨x5, e6, h⟩ := bdS h
      refine Run.go (Ev.callC en62 (k_triviumref02_Div e6) rfl (.cons .v (.cons .v .nil)) rfl rfl) ?_
      refine Run.go (Ev.move rfl rfl) ?_
      refine Run.go (Ev.extract rfl rfl rfl) ?_
      refine Run.go (Ev.extract rfl rfl rfl) ?_
      refine Run.go (Ev.assign rfl rfl) ?_
      refine Run.go (Ev.assign rfl rfl) ?_
      refine Run.nil ?_
      refine T.region ?_
      refine Run.go (Ev.move rfl rfl) ?_
      refine Run.go (Ev.move rfl rfl) ?_
      refine Run.go (Ev.assign rfl rfl) ?_
      refine Run.go (Ev.assign rfl rfl) ?_
      refine Run.nil ?_
      cases h
      exact LoopT.ghost (Ghost.only [] [0, 1] rfl) hz1
    · replace h := ifF hb4 h
      refine T.exit ?_
      cases h
      cases hz1
      exact ⟨(), trivial, Ghost.only [] [0] rfl⟩
  · refine T.seq ?_
    refine T.region ?_
    refine Run.go (Ev.move rfl rfl) ?_
    refine Run.go (Ev.assign rfl rfl) ?_
    refine Run.nil ?_
    refine T.ret ?_
    cases h
    exact Fin.one rfl .v
theorem en35 : Enters Tryz.prog 35 := ⟨_, Tryz.func35, rfl, rfl⟩
theorem k_triviumref08_Low {p0 : D_triviumref07_Z} {p1 : (List Int)} {y : D_triviumref08_Q} (h : m_triviumref08_Low p0 p1 = some y) : Spec Tryz.prog 35 [(.v Y_triviumref07_Z p0), (.v (.sl (.int .i64)) p1)] (.v Y_triviumref08_Q y) [] := by
  rw [m_triviumref08_Low] at h
  refine enterN [(.v Y_triviumref07_Z p0), (.v (.sl (.int .i64)) p1)] 38 Tryz.func35 rfl rfl rfl ?_
  refine T.seq ?_
  refine T.region ?_
  refine Run.go (Ev.box 1 rfl rfl rfl rfl) ?_
  refine Run.go (Ev.allocN X 2 rfl rfl rfl) ?_
  refine Run.nil ?_
  refine T.seq ?_
  refine T.region ?_
  refine Run.go (Ev.fieldBox X rfl rfl rfl rfl rfl) ?_
  refine Run.go (Ev.loadCell X rfl rfl rfl rfl rfl rfl) ?_
  refine Run.go (Ev.move rfl rfl) ?_
  obtain ⟨x1, e2, h⟩ := bdS h
  refine Run.go (Ev.callC en61 (k_triviumref02_Gcd e2) rfl (.cons .v (.cons .v .nil)) rfl rfl) ?_
  refine Run.go (Ev.assign rfl rfl) ?_
  refine Run.nil ?_
  refine T.seq ?_
  refine T.region ?_
  refine Run.go (Ev.fieldBox X rfl rfl rfl rfl rfl) ?_
  refine Run.go (Ev.loadCell X rfl rfl rfl rfl rfl rfl) ?_
  refine Run.go (Ev.move rfl rfl) ?_
  obtain ⟨x3, e4, h⟩ := bdS h
  refine Run.go (Ev.callC en62 (k_triviumref02_Div e4) rfl (.cons .v (.cons .v .nil)) rfl rfl) ?_
  refine Run.go (Ev.move rfl rfl) ?_
  refine Run.go (Ev.extract rfl rfl rfl) ?_
  refine Run.go (Ev.extract rfl rfl rfl) ?_
  refine Run.go (Ev.assign rfl rfl) ?_
  refine Run.go (Ev.assign rfl rfl) ?_
  refine Run.nil ?_
  refine T.seq ?_
  refine T.region ?_
  refine Run.go (Ev.move rfl rfl) ?_
  refine Run.go (Ev.move rfl rfl) ?_
  obtain ⟨x5, e6, h⟩ := bdS h
  refine Run.go (Ev.callC en62 (k_triviumref02_Div e6) rfl (.cons .v (.cons .v .nil)) rfl rfl) ?_
  refine Run.go (Ev.move rfl rfl) ?_
  refine Run.go (Ev.extract rfl rfl rfl) ?_
  refine Run.go (Ev.extract rfl rfl rfl) ?_
  refine Run.go (Ev.assign rfl rfl) ?_
  refine Run.go (Ev.assign rfl rfl) ?_
  refine Run.nil ?_
  refine T.seq ?_
  refine T.region ?_
  refine Run.go (Ev.fieldBox X rfl rfl rfl rfl rfl) ?_
  refine Run.go (Ev.loadCell X rfl rfl rfl rfl rfl rfl) ?_
  refine Run.go (Ev.move rfl rfl) ?_
  rcases boolCases p0.1 with hb7 | hb7
  · replace h := ifT hb7 h
    refine Run.on rfl rfl rfl hb7 (Ev.move rfl rfl) ?_
    refine Run.on rfl rfl rfl hb7 (Ev.len X rfl rfl rfl rfl) ?_
    refine Run.on rfl rfl rfl hb7 (Ev.int rfl rfl rfl rfl trivial) ?_
    refine Run.go (Ev.pickT rfl hb7 rfl rfl) ?_
    refine Run.go (Ev.move rfl rfl) ?_
    refine Run.go (Ev.struct X pl49 rfl rfl rfl rfl rfl rfl rfl rfl) ?_
    refine Run.go (Ev.move rfl rfl) ?_
    refine Run.go (Ev.struct X pl51 rfl rfl rfl rfl rfl rfl rfl rfl) ?_
    refine Run.do_ (Ev.storeBox X rfl rfl rfl rfl rfl rfl rfl) ?_
    refine Run.nil ?_
    refine T.ret ?_
    cases h
    exact Fin.cell X rfl rfl rfl rfl rfl
  · replace h := ifF hb7 h
    refine Run.offT rfl rfl rfl rfl hb7 ?_
    refine Run.offT rfl rfl rfl rfl hb7 ?_
    refine Run.offT rfl rfl rfl rfl hb7 ?_
    refine Run.go (Ev.pickF rfl hb7 rfl rfl) ?_
    refine Run.go (Ev.move rfl rfl) ?_
    refine Run.go (Ev.struct X pl49 rfl rfl rfl rfl rfl rfl rfl rfl) ?_
    refine Run.go (Ev.move rfl rfl) ?_
    refine Run.go (Ev.struct X pl51 rfl rfl rfl rfl rfl rfl rfl rfl) ?_
    refine Run.do_ (Ev.storeBox X rfl rfl rfl rfl rfl rfl rfl) ?_
    refine Run.nil ?_
    refine T.ret ?_
    cases h
    exact Fin.cell X rfl rfl rfl rfl rfl
theorem en73 : Enters Tryz.prog 73 := ⟨_, Tryz.func73, rfl, rfl⟩
theorem k_triviumref02_DivSmall {p0 : (List Int)} {p1 : Int} {y : (List Int) × Int} (h : m_triviumref02_DivSmall p0 p1 = some y) : Spec Tryz.prog 73 [(.v (.sl (.int .i64)) p0), (.v (.int .i64) p1)] (.tup [.v (.sl (.int .i64)) y.1, .v (.int .i64) y.2]) [] := by
  rw [m_triviumref02_DivSmall] at h
  refine enterN [(.v (.sl (.int .i64)) p0), (.v (.int .i64) p1)] 38 Tryz.func73 rfl rfl rfl ?_
  refine T.seq ?_
  refine T.region ?_
  refine Run.go (Ev.assign rfl rfl) ?_
  refine Run.go (Ev.assign rfl rfl) ?_
  refine Run.nil ?_
  refine T.seq ?_
  refine T.region ?_
  refine Run.go (Ev.move rfl rfl) ?_
  refine Run.go (Ev.len X rfl rfl rfl rfl) ?_
  obtain ⟨x1, e2, h⟩ := bdS h
  refine Run.go (Ev.e_mk X 1 e2 rfl rfl rfl rfl rfl rfl) ?_
  refine Run.go (Ev.assign rfl rfl) ?_
  refine Run.go (Ev.assign rfl rfl) ?_
  refine Run.nil ?_
  obtain ⟨⟨v3, v4⟩, hv, h⟩ := bdS h
  refine T.cut (fun _ : Unit => (⟨[(6, .own 1), (7, .v (.int .i64) v3)], [(1, .arr 3 (.int .i64) v4)], 38⟩ : St)) (fun _ => True) ?_ (fun _ _ => ?_)
  · replace h := hv
    clear hv
    refine T.seq ?_
    refine T.region ?_
    refine Run.go (Ev.move rfl rfl) ?_
    refine Run.go (Ev.len X rfl rfl rfl rfl) ?_
    refine Run.go (Ev.int rfl rfl rfl rfl trivial) ?_
    refine Run.go (Ev.assign rfl rfl) ?_
    refine Run.nil ?_
    refine T.block ?_
    refine T.loop (LoopT.ghost (Ghost.only [(1, 1)] [0, 1, 6, 7, 8] rfl) (LoopT.run (fun q : Int × Int × (List Int) => (⟨[(0, .v (.sl (.int .i64)) p0), (1, .v (.int .i64) p1), (6, .own 1), (7, .v (.int .i64) q.1), (8, .v (.int .i64) q.2.1)], [(1, .arr 3 (.int .i64) q.2.2)], 38⟩ : St)) (fun q z1 h hz1 => ?_) h))
    obtain ⟨v5, v6, v7⟩ := q
    dsimp only
    rw [m_triviumref02_DivSmall_l1] at h
    refine T.seq ?_
    refine T.seq ?_
    refine T.region ?_
    refine Run.go (Ev.move rfl rfl) ?_
    refine Run.go (Ev.int rfl rfl rfl rfl trivial) ?_
    refine Run.nil ?_
    refine T.cond rfl (fun hb8 => ?_) (fun hb8 => ?_)
    · replace h := ifT hb8 h
      refine T.skip ?_
      refine T.seq ?_
      refine T.block ?_
      refine T.seq ?_
      refine T.region ?_
      refine Run.go (Ev.move rfl rfl) ?_
      refine Run.go (Ev.int rfl rfl rfl rfl trivial) ?_
      refine Run.go (Ev.move rfl rfl) ?_
      refine Run.go (Ev.move rfl rfl) ?_
      obtain ⟨x9, e10, h⟩ := bdS h
      refine Run.go (Ev.e_rd X e10 rfl rfl rfl rfl) ?_
      refine Run.go (Ev.load X rfl rfl rfl) ?_
      refine Run.go (Ev.int rfl rfl rfl rfl trivial) ?_
      refine Run.go (Ev.assign rfl rfl) ?_
      refine Run.nil ?_
      refine T.seq ?_
      refine T.region ?_
      refine Run.go (Ev.move rfl rfl) ?_
      refine Run.go (Ev.move rfl rfl) ?_
      refine Run.go (Ev.move rfl rfl) ?_
      refine Run.go (Ev.move rfl rfl) ?_
      obtain ⟨x11, e12, h⟩ := bdS h
      refine Run.go (Ev.e_qd e12 rfl rfl rfl) ?_
      obtain ⟨j13, e14, h⟩ := bdS h
      refine Run.go (Ev.e_ixO X e14 rfl rfl rfl rfl rfl) ?_
      obtain ⟨x15, e16, h⟩ := ltS h
      refine Run.do_ (Ev.asO (Ev.storeEl X rfl rfl rfl rfl rfl) e16) ?_
      refine Run.nil ?_
      refine T.region ?_
      refine Run.go (Ev.move rfl rfl) ?_
      refine Run.go (Ev.move rfl rfl) ?_
      obtain ⟨x17, e18, h⟩ := bdS h
      refine Run.go (Ev.e_rm e18 rfl rfl rfl) ?_
      refine Run.go (Ev.assign rfl rfl) ?_
      refine Run.nil ?_
      refine T.region ?_
      refine Run.go (Ev.move rfl rfl) ?_
      refine Run.go (Ev.int rfl rfl rfl rfl trivial) ?_
      refine Run.go (Ev.assign rfl rfl) ?_
      refine Run.nil ?_
      cases h
      exact LoopT.ghost (Ghost.only [(1, 1)] [0, 1, 6, 7, 8] rfl) hz1
    · replace h := ifF hb8 h
      refine T.exit ?_
      cases h
      cases hz1
      exact ⟨(), trivial, Ghost.only [(1, 1)] [6, 7] rfl⟩
  · refine T.seq ?_
    refine T.region ?_
    refine Run.go (Ev.move rfl rfl) ?_
    refine Run.ghost (Ghost.firmAll (id := 1) rfl) ?_
    obtain ⟨x19, e20, h⟩ := bdS h
    refine Run.go (Ev.callC en84 (k_triviumref02_Trim e20) rfl (.cons .v .nil) rfl rfl) ?_
    refine Run.go (Ev.move rfl rfl) ?_
    refine Run.go (Ev.assign rfl rfl) ?_
    refine Run.go (Ev.assign rfl rfl) ?_
    refine Run.nil ?_
    refine T.ret ?_
    cases h
    exact Fin.many X rfl (.cons (.tmp .v) (.cons (.tmp .v) .nil)) rfl
theorem en60 : Enters Tryz.prog 60 := ⟨_, Tryz.func60, rfl, rfl⟩
theorem k_triviumref02_Back {p0 : (List Int)} {y : (List Int)} (h : m_triviumref02_Back p0 = some y) : Spec Tryz.prog 60 [(.v (.sl (.int .i64)) p0)] (.v (.sl (.int .u64)) y) [] := by
  rw [m_triviumref02_Back] at h
  refine enterN [(.v (.sl (.int .i64)) p0)] 22 Tryz.func60 rfl rfl rfl ?_
  refine T.seq ?_
  refine T.region ?_
  refine Run.go (Ev.assign rfl rfl) ?_
  refine Run.nil ?_
  refine T.seq ?_
  refine T.region ?_
  refine Run.go (Ev.build X 1 rfl rfl rfl rfl rfl rfl rfl rfl) ?_
  refine Run.go (Ev.assign rfl rfl) ?_
  refine Run.nil ?_
  obtain ⟨v1, hv, h⟩ := bdS h
  refine T.cut (fun _ : Unit => (⟨[(3, .own 5)], [(5, .arr 104 (.int .u64) v1)], 22⟩ : St)) (fun _ => True) ?_ (fun _ _ => ?_)
  · replace h := hv
    clear hv
    refine T.block ?_
    refine T.loop (LoopT.ghost (Ghost.only [(1, 15)] [0, 3] rfl) (LoopT.run (fun q : (List Int) × (List Int) => (⟨[(0, .v (.sl (.int .i64)) q.1), (3, .own 15)], [(15, .arr 104 (.int .u64) q.2)], 22⟩ : St)) (fun q z1 h hz1 => ?_) h))
    obtain ⟨v2, v3⟩ := q
    dsimp only
    rw [m_triviumref02_Back_l1] at h
    refine T.seq ?_
    refine T.seq ?_
    refine T.region ?_
    refine Run.go (Ev.move rfl rfl) ?_
    refine Run.go (Ev.len X rfl rfl rfl rfl) ?_
    refine Run.go (Ev.int rfl rfl rfl rfl trivial) ?_
    refine Run.nil ?_
    refine T.cond rfl (fun hb4 => ?_) (fun hb4 => ?_)
    · replace h := ifT hb4 h
      refine T.skip ?_
      refine T.block ?_
      refine T.seq ?_
      refine T.region ?_
      refine Run.go (Ev.move rfl rfl) ?_
      obtain ⟨x5, e6, h⟩ := bdS h
      refine Run.go (Ev.callC en73 (k_triviumref02_DivSmall e6) rfl (.cons .v (.cons .v .nil)) rfl rfl) ?_
      refine Run.go (Ev.move rfl rfl) ?_
      refine Run.go (Ev.extract rfl rfl rfl) ?_
      refine Run.go (Ev.extract rfl rfl rfl) ?_
      refine Run.go (Ev.assign rfl rfl) ?_
      refine Run.go (Ev.assign rfl rfl) ?_
      refine Run.nil ?_
      refine T.seq ?_
      refine T.region ?_
      refine Run.go (Ev.move rfl rfl) ?_
      refine Run.go (Ev.move rfl rfl) ?_
      refine Run.go (Ev.conv X rfl rfl rfl rfl) ?_
      refine Run.go (Ev.build X 19 rfl rfl rfl rfl rfl rfl rfl rfl) ?_
      obtain ⟨x7, e8, h⟩ := bdS h
      refine Run.go (Ev.e_ap X 20 e8 rfl rfl rfl (.own rfl) rfl rfl rfl rfl rfl) ?_
      refine Run.go (Ev.assign rfl rfl) ?_
      refine Run.nil ?_
      refine T.region ?_
      refine Run.go (Ev.move rfl rfl) ?_
      refine Run.go (Ev.assign rfl rfl) ?_
      refine Run.nil ?_
      cases h
      exact LoopT.ghost (Ghost.only [(20, 15)] [0, 3] rfl) hz1
    · replace h := ifF hb4 h
      refine T.exit ?_
      cases h
      cases hz1
      exact ⟨(), trivial, Ghost.only [(15, 5)] [3] rfl⟩
  · refine T.seq ?_
    refine T.region ?_
    refine Run.go (Ev.move rfl rfl) ?_
    refine Run.go (Ev.assign rfl rfl) ?_
    refine Run.nil ?_
    refine T.ret ?_
    cases h
    exact Fin.one rfl (.own rfl)
theorem en59 : Enters Tryz.prog 59 := ⟨_, Tryz.func59, rfl, rfl⟩
theorem k_triviumref07_Back {p0 : D_triviumref07_Z} {y : D_api_Int} (h : m_triviumref07_Back p0 = some y) : Spec Tryz.prog 59 [(.v Y_triviumref07_Z p0)] (.v Y_api_Int y) [] := by
  rw [m_triviumref07_Back] at h
  refine enterN [(.v Y_triviumref07_Z p0)] 9 Tryz.func59 rfl rfl rfl ?_
  refine T.seq ?_
  refine T.region ?_
  refine Run.go (Ev.box 1 rfl rfl rfl rfl) ?_
  refine Run.go (Ev.allocN X 2 rfl rfl rfl) ?_
  refine Run.nil ?_
  refine T.seq ?_
  refine T.drawM [6] [0, 1, 0, 4, 12, 31, 63] (by kernel_rfl) (by kernel_rfl) ?_
  refine RunD.a rfl rfl (Ev.fieldBox X rfl rfl rfl rfl rfl) ?_
  refine RunD.a rfl rfl (Ev.loadCell X rfl rfl rfl rfl rfl rfl) ?_
  refine RunD.a rfl rfl (Ev.fieldBox X rfl rfl rfl rfl rfl) ?_
  refine RunD.a rfl rfl (Ev.loadCell X rfl rfl rfl rfl rfl rfl) ?_
  obtain ⟨x1, e2, h⟩ := bdS h
  refine RunD.a rfl rfl (Ev.callC en60 (k_triviumref02_Back e2) rfl (.cons .v .nil) rfl rfl) ?_
  refine RunD.w (fun _ => Ev.struct X pl30 rfl rfl rfl rfl rfl rfl rfl rfl) ?_
  refine RunD.mN rfl (Ev.storeBox X rfl rfl rfl rfl rfl rfl rfl) ?_
  refine RunD.nil ?_
  refine T.ret ?_
  cases h
  exact Fin.cell X rfl rfl rfl rfl rfl
end Go.Proofs.YtkjkipkfndckfaaGreatDoor.AE
