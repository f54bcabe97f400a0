/- The code comes to the printed functions (printed by a program of ours). -/
import Derived.Test.YtfboepeadeafmaaGreatDoorQRB2
import Derived.Lib.AppendStr
import Derived.Lib.UnsafeStr
import Derived.Laws.Externs
import Derived.Test.YtfboepeadeafmaaGreatDoorProg
import Derived.Shelf.Strings.Repeat
import Derived.Shelf.Strings.Search1
import Derived.Shelf.Strings.Search2
/- The text builder: appends of texts to bytes, unsafe ways from bytes to a text, a pointer turned and turned back. -/
namespace Go.Proofs.YtfboepeadeafmaaGreatDoor.AE
open Go Go.RowKit Go.Proofs.YtfboepeadeafmaaGreatDoor.AP
set_option linter.unusedSimpArgs false
set_option linter.unusedVariables false

theorem flat_str {w : World} {M : Nat → Prop} (b : ByteArray) : Flat w M (.int .u8) (by_ b) (Lib.strCells b) := by
  unfold by_ Lib.strCells
  generalize b.data.toList = l
  induction l with
  | nil => rfl
  | cons x l ih => exact ⟨[.int .u8 (x.toNat : Int)], _, rfl, rfl, ih⟩
theorem by_length (b : ByteArray) : (by_ b).length = b.size := by
  unfold by_
  rw [List.length_map, Array.length_toList]
  rfl
section
variable {P : Program} {s : List (Nat × AV)} {o : Objs} {n d : Nat} {ty : TypeId} {pos : String} {after : Array Edge} {gd : Option (Nat × Bool)} {t t' : TypeId} {x y : Operand}
theorem run_app2 (ρ : Operand → Value) (x y : Operand) (t t' : TypeId) {u : Value} {w w' : World} (h : (Builtin.append_ #[t, t'] ty #[ρ x, ρ y]).run P w = .ok u w') :
    (execOp ρ ⟨some d, .call ⟨.builtin .append, #[x, y], #[t, t']⟩, ty, pos, after, gd⟩).run P w = .ok (.value u) w' := by
  simp only [execOp, resolve]
  simp [invoke, builtin, h]
theorem append_coreS (z : Bool) (X : Cx P) (id' : Nat) {id E : Nat} {l : List Int} {b : ByteArray} {N : Nat → Prop} {w0 : Base} {loc : Nat → Nat × Nat} {a : Act} {w : World} {F : Nat → AV} (hs : SatF N w0 o n F loc a w) (hX0 : AV.rel w (Muts N loc o) loc o (if z then .owz id else .own id) (a.eval x)) (hY : a.eval y = .string b) (ho : lookO o id = some (.arr E (.int .u8) l)) (ht : X.ty t = some (.sl (.int .u8))) (ht' : X.ty t' = some .str) (he : X.el t = some (E, 1))
    (hid' : lookO o id' = none) (hd : Nat.blt d n = true) (hfit : l.length + b.size ≤ 140737488355328) (Q : Exit → Act → World → Prop) (K : Act → World → Prop)
    (hK : ∀ loc' a' w', SatF N w0 ((id', .arr E (.int .u8) (l ++ by_ b)) :: (id, .dead) :: o) n (upd F (some d) (if z then .owz id' else .own id')) loc' a' w' → K a' w') :
    Oper.wp P ⟨some d, .call ⟨.builtin .append, #[x, y], #[t, t']⟩, ty, pos, after, gd⟩ a w K Q := by
  obtain ⟨A0, hX, hA0, hAz⟩ : ∃ A0, a.eval x = .slice A0 l.length (loc id).2 ∧ (0 < (loc id).2 → A0 = some ⟨(loc id).1, 0, none⟩) ∧ (z = true → (loc id).2 = 0 → A0 = none) := by
    cases z with
    | false => obtain ⟨A0, h1, h2⟩ := own_at ho hX0; exact ⟨A0, h1, h2, fun h => by cases h⟩
    | true =>
      have hX0 : AV.rel w (Muts N loc o) loc o (.owz id) (a.eval x) := hX0
      rw [AV.rel] at hX0
      obtain ⟨ob, h1, h2⟩ := hX0
      rw [ho] at h1; cases h1
      obtain ⟨A0, e1, e2, e3⟩ := h2 _ _ _ rfl
      exact ⟨A0, e1, e2, fun _ => e3⟩
  have hob := hs.rep.obs id _ ho
  obtain ⟨hu, hbi⟩ := X.elok t E 1 he
  obtain ⟨e, hu', hi⟩ := (X.ok _ _ ht).desc
  rw [hu] at hu'
  cases hu'
  have hut : P.underlying t' = some .string := (X.ok _ _ ht').desc
  obtain ⟨f, z, hf, hfs, hz, hzc, _⟩ := hi.info
  rw [hf] at hbi
  have hfb : f.bytes = 1 := Option.some.inj hbi
  have hfs : f.size = 1 := hfs
  have hz0 : z = .int .u8 0 := by
    obtain ⟨z', h1, h2, h3⟩ := hi.run_zero w
    have : z' = z := by
      simp [zeroValue, typeInfo, hf, hz] at h1
      exact h1.symm
    rw [← this, h3]; rfl
  subst hz0
  have hle : l.length ≤ (loc id).2 := hob.1
  have hmx : (loc id).2 ≤ maxL := hob.2.1
  have hbl := by_length b
  have rel_new : ∀ (g c : Nat) (w' : World) (A2 : Option Addr), (0 < c → A2 = some ⟨g, 0, none⟩) → (z = true → c = 0 → A2 = none) → AV.rel w' (Muts N (put2 loc id' g c) ((id', .arr E (.int .u8) (l ++ by_ b)) :: (id, .dead) :: o)) (put2 loc id' g c) ((id', .arr E (.int .u8) (l ++ by_ b)) :: (id, .dead) :: o) (if z then .owz id' else .own id') (.slice A2 (l.length + b.size) c) := by
    intro g c w' A2 h2 h3
    have e9 : l.length + b.size = (l ++ by_ b).length := by rw [List.length_append, hbl]
    cases z with
    | false =>
      show AV.rel _ _ _ _ (.own id') _
      rw [AV.rel]
      refine ⟨_, by rw [lookO_cons, if_pos rfl], fun E' t' l' e => ?_⟩
      cases e
      rw [put2_same]
      exact ⟨A2, congrArg (fun z => Value.slice A2 z c) e9, h2⟩
    | true =>
      show AV.rel _ _ _ _ (.owz id') _
      rw [AV.rel]
      refine ⟨_, by rw [lookO_cons, if_pos rfl], fun E' t' l' e => ?_⟩
      cases e
      rw [put2_same]
      exact ⟨A2, congrArg (fun z => Value.slice A2 z c) e9, h2, h3 rfl⟩
  have fin : ∀ (base g c : Nat) (w' : World) (xs : List Value), Flat w (Muts N loc o) (.int .u8) l xs → w'.ownsRow base E 1 (.slice (some ⟨g, 0, none⟩) (l.length + b.size) c) (l.length + b.size) (xs ++ Lib.strCells b) → (0 < c → w.heap.size ≤ g ∨ (0 < (loc id).2 ∧ g = (loc id).1)) → (z = true → 0 < c) →
      w'.os = w.os → w'.tape = w.tape → w'.output = w.output → w.heap.size ≤ w'.heap.size → (∀ k, k < w.heap.size → (0 < (loc id).2 → k ≠ (loc id).1) → w'.heap[k]? = w.heap[k]?) →
      (Builtin.append_ #[t, t'] ty #[a.eval x, a.eval y]).run P w = .ok (.slice (some ⟨g, 0, none⟩) (l.length + b.size) c) w' →
      Oper.wp P ⟨some d, .call ⟨.builtin .append, #[x, y], #[t, t']⟩, ty, pos, after, gd⟩ a w K Q := by
    intro base g c w' xs hxs hown hg hz9 h1 h2 h3 h4 h5 hrun
    unfold Oper.wp
    rw [run_app2 _ _ _ _ _ hrun]
    obtain ⟨hlen, hown⟩ := hown
    rcases hown with ⟨h, _⟩ | ⟨g', cap, cur, hv, _, hcur, hle, hmax, hcs, htk⟩
    · cases h
    injection hv with e1 _ e3
    subst e3
    obtain rfl : g = g' := congrArg Addr.block (Option.some.inj e1)
    rw [maxL_eq] at hmax
    have hlen2 : (l ++ by_ b).length = l.length + b.size := by rw [List.length_append, hbl]
    have := hs.move (w' := w') (id' := id') (g := g) (c := c) (ob' := .arr E (.int .u8) (l ++ by_ b)) ho rfl hid' hg h1 h2 h3 h4 h5 (fun M' loc' o' hk ht => flat_arr (t := .int .u8) (Nat.le_trans (Nat.le_of_eq hlen2) hle) hmax (fun _ => ⟨hcur, hcs, (hxs.append (flat_str b)).keeps hk, by have h9 := htk; rw [← hlen2] at h9; exact h9⟩))
    exact hK _ _ _ (this.put hd (rel_new g c w' _ (fun _ => rfl) (fun hz hc => absurd hc (by have := hz9 hz; omega))))
  have hmaxl : l.length + b.size ≤ maxLen := by rw [maxL_eq]; simp only [maxL]; omega
  by_cases hc : 0 < (loc id).2
  · have hA0 := hA0 hc
    subst hA0
    obtain ⟨cur, vs, hcur, hcs, hvs, htk⟩ := arr_flat hob hc
    have hown : w.ownsRow 0 E 1 (a.eval x) l.length vs := ⟨hvs.len, .inr ⟨_, _, cur, hX, Nat.zero_le _, hcur, hob.1, by rw [maxL_eq]; exact hob.2.1, hcs, htk⟩⟩
    obtain ⟨v', w', hrun, hown', hgrow, _⟩ := Lib.run_append_own_string (P := P) w 0 t t' ty E f hu hut hf hz hfs hfb (a.eval x) l.length vs hown b hmaxl hfit (Nat.zero_le _)
    have hat : (∃ c, 0 < c ∧ v' = .slice (some ⟨(loc id).1, 0, none⟩) (l.length + b.size) c) ∨ (∃ c, 0 < c ∧ v' = .slice (some ⟨w.heap.size, 0, none⟩) (l.length + b.size) c) := by
      by_cases hroom : l.length + b.size ≤ (loc id).2
      · have hcs1 : cur.size = (loc id).2 * 1 := hcs
        have := Lib.run_append_room_string (P := P) w t t' ty E f hu hut hf hfs (loc id).1 l.length (loc id).2 cur hcur b hroom (by omega)
        rw [hX] at hrun
        have this := hrun.symm.trans this
        cases this
        exact .inl ⟨_, hc, rfl⟩
      · have holds : ∀ j u, vs[j]? = some u → w.cell? ((⟨(loc id).1, 0, none⟩ : Addr).add j) = some u := hown.cells (g := (loc id).1) (by rw [hX]; rfl)
        have := Lib.run_append_grow_string (P := P) w t t' ty E f (.int .u8 0) hu hut hf hz ⟨(loc id).1, 0, none⟩ l.length (loc id).2 vs (by rw [hfs]; exact hvs.len) holds b (by omega) (by omega) (by rw [hfb]; exact growslice_fits (by omega) (by omega))
        rw [hX] at hrun
        have this := hrun.symm.trans this
        cases this
        exact .inr ⟨_, by have := grownCap_ge w (l.length + b.size) (loc id).2 E; omega, rfl⟩
    have hblk : ∀ k, k < w.heap.size → (0 < (loc id).2 → k ≠ (loc id).1) → w'.heap[k]? = w.heap[k]? := fun k hk hne => hgrow.block k hk (fun e => by
      rw [hX] at e
      simp only [Value.ownBlock, Option.some.injEq] at e
      exact hne hc e)
    rcases hat with ⟨c, hcp, rfl⟩ | ⟨c, hcp, rfl⟩
    · exact fin 0 _ c w' vs hvs hown' (fun _ => .inr ⟨hc, rfl⟩) (fun _ => hcp) hgrow.os hgrow.tape hgrow.output hgrow.size hblk (by rw [hY]; exact hrun)
    · exact fin 0 _ c w' vs hvs hown' (fun _ => .inl (Nat.le_refl _)) (fun _ => hcp) hgrow.os hgrow.tape hgrow.output hgrow.size hblk (by rw [hY]; exact hrun)
  · have hl0 : l = [] := List.eq_nil_of_length_eq_zero (by omega)
    subst hl0
    have hc0 : (loc id).2 = 0 := by omega
    rw [hc0] at hX
    have hX : a.eval x = .slice A0 0 0 := hX
    by_cases hb : b.size = 0
    · have hb0 : by_ b = [] := List.eq_nil_of_length_eq_zero (by omega)
      have hrun : (Builtin.append_ #[t, t'] ty #[a.eval x, a.eval y]).run P w = .ok (.slice A0 0 0) w := by
        rw [hX, hY]
        have h2 := Lib.run_firstCells_string (P := P) w 1 b
        rw [hb] at h2
        have h3 : Lib.strCells b = [] := List.eq_nil_of_length_eq_zero (by rw [Lib.strCells_length]; exact hb)
        rw [h3] at h2
        cases A0 <;> simp [Builtin.append_, run_underlying hu, run_underlying hut, sizeOf, typeInfo, hf, hfs, Builtin.lenOf, hb, h2, storeCells]
      unfold Oper.wp
      rw [run_app2 _ _ _ _ _ hrun]
      have := hs.move (w' := w) (id' := id') (g := (loc id).1) (c := 0) (ob' := .arr E (.int .u8) ([] ++ by_ b)) ho rfl hid' (fun h => absurd h (Nat.lt_irrefl _)) rfl rfl rfl (Nat.le_refl _) (fun _ _ _ => rfl) (fun M' loc' o' hk ht => by
        rw [hb0]
        exact flat_arr (t := .int .u8) (vs := []) (cur := #[]) (Nat.le_refl _) (Nat.zero_le _) (fun h => absurd h (Nat.lt_irrefl _)))
      have hr := rel_new (loc id).1 0 w A0 (fun h => absurd h (Nat.lt_irrefl _)) (fun hz _ => hAz hz hc0)
      rw [hb] at hr
      exact hK _ _ _ (this.put hd hr)
    · cases A0 with
      | none =>
        have hown : w.ownsRow 0 E 1 (a.eval x) 0 [] := by rw [hX]; exact World.ownsRow_nil w 0 E 1
        obtain ⟨v', w', hrun, hown', hgrow, _⟩ := Lib.run_append_own_string (P := P) w 0 t t' ty E f hu hut hf hz hfs hfb (a.eval x) 0 [] hown b (by simpa using hmaxl) (by simpa using hfit) (Nat.zero_le _)
        have := run_append_nil_string (P := P) w t t' ty E f (.int .u8 0) hu hut hf hz b (by omega) (by simp at hfit; omega) (by rw [hfb]; simp at hfit; omega)
        rw [hX] at hrun
        have this := hrun.symm.trans this
        obtain ⟨c, hcp, hv⟩ : ∃ c, 0 < c ∧ v' = .slice (some ⟨w.heap.size, 0, none⟩) b.size c := by cases this; exact ⟨_, by have := grownCap_ge w b.size 0 E; omega, rfl⟩
        subst hv
        exact fin 0 w.heap.size c w' [] rfl (by simpa using hown') (fun _ => .inl (Nat.le_refl _)) (fun _ => hcp) hgrow.os hgrow.tape hgrow.output hgrow.size (fun k hk hne => hgrow.block k hk (fun e => by rw [hX] at e; simp [Value.ownBlock] at e)) (by rw [hX, hY]; simpa using hrun)
      | some b0 =>
        have hrun := Lib.run_append_grow_string (P := P) w t t' ty E f (.int .u8 0) hu hut hf hz b0 0 0 [] (by simp) (by simp) b (by omega) (by simp at hfit; omega) (by rw [hfb]; exact growslice_fits (by omega) (by simp at hfit; omega))
        simp only [Nat.zero_add] at hrun
        refine fin 0 w.heap.size (grownCap w b.size 0 E) _ [] rfl ?_ (fun _ => .inl (Nat.le_refl _)) (fun _ => by have := grownCap_ge w b.size 0 E; omega) ?_ ?_ ?_ ?_ ?_ (by rw [hX, hY]; simpa using hrun)
        · have hge := grownCap_ge w b.size 0 E
          have hcm : grownCap w b.size 0 E ≤ maxLen := grownCap_le_maxLen w b.size 0 E (by simpa using hmaxl)
          refine ⟨by rw [List.nil_append, Lib.strCells_length]; simp, .inr ⟨w.heap.size, _, _, rfl, Nat.zero_le _, heap_alloc_new w.drew _, by simpa using hge, hcm, ?_, ?_⟩⟩
          · have hz1 : (Value.int IntKind.u8 0).cells.size = 1 := rfl
            simp only [Array.size_append, List.size_toArray, size_zeroCells, hz1, Lib.strCells_length, List.length_nil]
            omega
          · simp only [Array.toList_append, List.nil_append]
            rw [List.take_left' (by rw [Lib.strCells_length]; simp)]
        · rfl
        · rfl
        · rfl
        · simp
        · intro k hk _; exact Lib.alloc_old w.drew _ k hk
/-- In the builder's row. -/
theorem Ev.e_apZ (X : Cx P) (id' : Nat) {id E : Nat} {l r : List Int} {b : ByteArray} (h : apS_ l b = some r) (hx : V s o n x = .owz id) (ho : lookO o id = some (.arr E (.int .u8) l)) (hy : V s o n y = .v .str b) (ht : X.ty t = some (.sl (.int .u8))) (ht' : X.ty t' = some .str) (he : X.el t = some (E, 1))
    (hid' : lookO o id' = none) (hd : Nat.blt d n = true) : Ev P ⟨some d, .call ⟨.builtin .append, #[x, y], #[t, t']⟩, ty, pos, after, gd⟩ s o n (.owz id') ((id', .arr E (.int .u8) r) :: (id, .dead) :: o) := Ev.mk fun F hF N w0 loc a w _ hs Q K hK => by
  unfold apS_ at h
  split at h
  · rename_i hfit
    cases h
    exact append_coreS true X id' hs ((hs.lk hF).look (by simp [Op.operands, Call.operands]) hx) (of_str ((hs.lk hF).look (by simp [Op.operands, Call.operands]) hy)) ho ht ht' he hid' hd hfit Q K hK
  · cases h
theorem owz_at {w : World} {M : Nat → Prop} {loc : Nat → Nat × Nat} {id E : Nat} {τ : Ty} {l : List τ.den} (ho : lookO o id = some (.arr E τ l)) {u : Value} (h : AV.rel w M loc o (.owz id) u) : ∃ A, u = .slice A l.length (loc id).2 ∧ (0 < (loc id).2 → A = some ⟨(loc id).1, 0, none⟩) ∧ ((loc id).2 = 0 → A = none) := by
  rw [AV.rel] at h
  obtain ⟨ob, h1, h2⟩ := h
  rw [ho] at h1; cases h1
  exact h2 _ _ _ rfl
theorem Ev.e_lenZ (X : Cx P) {id E : Nat} {τ : Ty} {l : List τ.den} (hx : V s o n x = .owz id) (ho : lookO o id = some (.arr E τ l)) (ht : X.ty t = some (.sl τ)) (hd : Nat.blt d n = true) : Ev P ⟨some d, .call ⟨.builtin .len, #[x], #[t]⟩, ty, pos, after, gd⟩ s o n (.v (.int .i64) (l.length : Int)) o :=
  Ev.pure hd (fun N w0 loc a w hs => by
    obtain ⟨A0, hX, _⟩ := owz_at ho (hs.look (by simp [Op.operands, Call.operands]) hx)
    obtain ⟨e, hu, _⟩ := (X.ok _ _ ht).desc
    refine ⟨.int .i64 l.length, run_callBuiltin _ _ _ _ (fun _ => ?_), rel_int⟩
    simp [builtin, Builtin.len_, hX, Go.underlying, hu, goInt])
/-! ### From bytes to a text, without a copy -/
def US (P : Program) (t E : TypeId) : Prop := P.underlying t = some (.pointer E) ∧ P.cellsOf E = 1
def chkUS (P : Program) (t E : TypeId) : Bool := (match P.underlying t with | some (.pointer e) => Nat.beq e E | _ => false) && Nat.beq (P.cellsOf E) 1
theorem US.of {P : Program} {t E : TypeId} (h : chkUS P t E = true) : US P t E := by
  unfold chkUS at h
  rw [Bool.and_eq_true] at h
  refine ⟨?_, Nat.eq_of_beq_eq_true h.2⟩
  have h1 := h.1
  split at h1
  · rename_i e he; rw [he, Nat.eq_of_beq_eq_true h1]
  · cases h1
theorem Ev.e_usd (X : Cx P) {id E : Nat} {τ : Ty} {l : List τ.den} (h : decide (List.length (α := τ.den) l = 0) = false) (hx : V s o n x = .owz id) (ho : lookO o id = some (.arr E τ l)) (hd : Nat.blt d n = true) :
    Ev P ⟨some d, .call ⟨.builtin .unsafeSliceData, #[x], #[t]⟩, ty, pos, after, gd⟩ s o n (.oel id 0 0) o :=
  Ev.pure hd (fun N w0 loc a w hs => by
    obtain ⟨A0, hX, hA0, _⟩ := owz_at ho (hs.look (by simp [Op.operands, Call.operands]) hx)
    have hob := hs.rep.obs id _ ho
    have hl : 0 < List.length (α := τ.den) l := Nat.pos_of_ne_zero (of_decide_eq_false h)
    have h1 : List.length (α := τ.den) l ≤ (loc id).2 := hob.1
    have hc : 0 < (loc id).2 := by omega
    have hA0 := hA0 hc
    subst hA0
    have hrun := Lib.run_unsafeSliceData_row (P := P) w #[t] ty ⟨(loc id).1, 0, none⟩ l.length (loc id).2 (by omega)
    refine ⟨.pointer (some ⟨(loc id).1, 0, none⟩), ?_, ?_⟩
    · simp only [execOp, resolve]
      simp [invoke, builtin, hX, hrun]
    · rw [AV.rel]
      refine ⟨_, ho, fun E' t' l' e => ?_⟩
      cases e
      exact ⟨by omega, by simp⟩)
/-- Of a row of nothing: some pointer. -/
theorem Ev.e_usd0 (X : Cx P) {id E : Nat} {τ : Ty} {l : List τ.den} (h : decide (List.length (α := τ.den) l = 0) = true) (hx : V s o n x = .owz id) (ho : lookO o id = some (.arr E τ l)) (hd : Nat.blt d n = true) :
    Ev P ⟨some d, .call ⟨.builtin .unsafeSliceData, #[x], #[t]⟩, ty, pos, after, gd⟩ s o n .anyp o :=
  Ev.pure hd (fun N w0 loc a w hs => by
    obtain ⟨A0, hX, hA0, hA1⟩ := owz_at ho (hs.look (by simp [Op.operands, Call.operands]) hx)
    have hrel : ∀ q, AV.rel w (Muts N loc o) loc o .anyp (.pointer q) := fun q => by rw [AV.rel]; exact ⟨q, rfl⟩
    by_cases hc : (loc id).2 = 0
    · have hA1 := hA1 hc
      subst hA1
      refine ⟨.pointer none, ?_, hrel _⟩
      simp only [execOp, resolve]
      simp [invoke, builtin, hX, Lib.run_unsafeSliceData_nil]
    · have hA0 := hA0 (Nat.pos_of_ne_zero hc)
      subst hA0
      have hrun := Lib.run_unsafeSliceData_row (P := P) w #[t] ty ⟨(loc id).1, 0, none⟩ l.length (loc id).2 hc
      refine ⟨.pointer (some ⟨(loc id).1, 0, none⟩), ?_, hrel _⟩
      simp only [execOp, resolve]
      simp [invoke, builtin, hX, hrun])
theorem Ev.e_ust0 {id : Nat} {l : List Int} (h : decide (l.length = 0) = true) (hx : V s o n x = .anyp) (hy : V s o n y = .v (.int .i64) (l.length : Int)) (hd : Nat.blt d n = true) :
    Ev P ⟨some d, .call ⟨.builtin .unsafeString, #[x, y], #[t, t']⟩, ty, pos, after, gd⟩ s o n (.v .str (bs [])) ((id, .dead) :: o) := Ev.mk fun F hF N w0 loc a w hN hs Q K hK => by
  have hX := (hs.lk hF).look (by simp [Op.operands, Call.operands]) hx
  rw [AV.rel] at hX
  obtain ⟨q, hX⟩ := hX
  have hY := of_int ((hs.lk hF).look (by simp [Op.operands, Call.operands]) hy)
  have hl : l.length = 0 := of_decide_eq_true h
  have hY : a.eval y = .int .i64 0 := by rw [hY, hl]; rfl
  have hrun := Lib.run_unsafeString_none (P := P) w t t' ty q
  unfold Oper.wp
  have hw : (execOp a.eval ⟨some d, .call ⟨.builtin .unsafeString, #[x, y], #[t, t']⟩, ty, pos, after, gd⟩).run P w = .ok (.value (.string (bs []))) w := by
    simp only [execOp, resolve]
    simp [invoke, builtin, hX, hY, hrun]
    rfl
  rw [hw]
  exact hK _ _ _ (hs.kill0.put hd rel_str)
theorem Ev.e_ust {id E : Nat} {l : List Int} {b : ByteArray} {m : Int} (hE : US P t E) (h : ust l = some b) (hx : V s o n x = .oel id 0 0) (ho : lookO o id = some (.arr E (.int .u8) l)) (hy : V s o n y = .v (.int .i64) m) (hm : m = (l.length : Int)) (hd : Nat.blt d n = true) :
    Ev P ⟨some d, .call ⟨.builtin .unsafeString, #[x, y], #[t, t']⟩, ty, pos, after, gd⟩ s o n (.v .str b) ((id, .dead) :: o) := Ev.mk fun F hF N w0 loc a w hN hs Q K hK => by
  unfold ust at h
  split at h
  · rename_i hc
    cases h
    obtain ⟨hne, hall⟩ := hc
    have hlk := hs.lk hF
    have hX := (oel_at ho (hlk.look (by simp [Op.operands, Call.operands]) hx)).2
    have hY := of_int (hlk.look (by simp [Op.operands, Call.operands]) hy)
    have hob := hs.rep.obs id _ ho
    have hlp : 0 < l.length := by cases l with | nil => exact absurd rfl hne | cons a l => simp
    have h1 : l.length ≤ (loc id).2 := hob.1
    have hcp : 0 < (loc id).2 := by omega
    obtain ⟨cur, hcur, hcs, hrel⟩ := hob.2.2 hcp
    have hcs1 : cur.size = (loc id).2 := by rw [hcs]; exact Nat.mul_one _
    have hlen : (l.map fun n => UInt8.ofNat n.toNat).length = l.length := List.length_map _
    have hrun := Lib.run_unsafeString_row (P := P) w t t' ty E hE.1 hE.2 (loc id).1 cur.size (by simp [World.shape?, hcur]) (l.map fun n => UInt8.ofNat n.toNat) (by simpa using hne) (by rw [hlen]; omega) (by rw [hlen]; have := hob.2.1; unfold maxL at this; omega) (fun j u hj => by
      rw [List.getElem?_map] at hj
      cases hlj : l[j]? with
      | none => rw [hlj] at hj; cases hj
      | some z =>
        rw [hlj] at hj
        cases hj
        obtain ⟨ds, g1, g2⟩ := hrel j z hlj
        cases g1
        have g3 := g2 0 _ rfl
        have hz := List.all_eq_true.1 hall z (List.mem_of_getElem? hlj)
        rw [Bool.and_eq_true] at hz
        have z1 := of_decide_eq_true hz.1
        have z2 := of_decide_eq_true hz.2
        rw [add_lit]
        simp only [World.cell?, hcur]
        have e : (UInt8.ofNat z.toNat).toNat = z.toNat := by
          rw [UInt8.toNat_ofNat']
          exact Nat.mod_eq_of_lt (by omega)
        rw [e]
        have e2 : ((z.toNat : Nat) : Int) = z := by omega
        rw [e2]
        simpa [Ty.sz] using g3)
    rw [hlen] at hrun
    have hX' : a.eval x = .pointer (some ⟨(loc id).1, 0, none⟩) := by rw [hX]; simp
    have hY' : a.eval y = .int .i64 l.length := by rw [hY, hm]
    have hw : (execOp a.eval ⟨some d, .call ⟨.builtin .unsafeString, #[x, y], #[t, t']⟩, ty, pos, after, gd⟩).run P w = .ok (.value (.string (tx l))) (w.freeze ⟨(loc id).1, 0, none⟩ l.length) := by
      simp only [execOp, resolve]
      simp [invoke, builtin, hX', hY', hrun, tx]
    unfold Oper.wp
    rw [hw]
    have hh : Has loc o id (.arr E (.int .u8) l) := ⟨ho, rfl, hcp⟩
    have hlkd : ∀ i, lookO ((id, Ob.dead) :: o) i = if id = i then some .dead else lookO o i := fun i => lookO_cons ..
    have hold : ∀ i ob1, Has loc ((id, .dead) :: o) i ob1 → id ≠ i ∧ Has loc o i ob1 := by
      rintro i ob1 ⟨h1, h2, h3⟩
      rw [hlkd] at h1
      by_cases hi : id = i
      · rw [if_pos hi] at h1; cases h1; cases h2
      · rw [if_neg hi] at h1; exact ⟨hi, h1, h2, h3⟩
    have ht : Turns loc loc o ((id, .dead) :: o) := fun i ob1 h => by
      rw [hlkd]
      by_cases hi : id = i
      · exact ⟨.dead, if_pos hi, .dead, fun _ => rfl⟩
      · exact ⟨ob1, by rw [if_neg hi]; exact h, .refl, fun _ => rfl⟩
    have hfz : ∀ k, k ≠ (loc id).1 → (w.freeze ⟨(loc id).1, 0, none⟩ l.length).heap[k]? = w.heap[k]? := fun k hk => by
      unfold World.freeze
      split
      · rfl
      · simp [Array.getElem?_modify, Ne.symm hk]
    have hfs : (w.freeze ⟨(loc id).1, 0, none⟩ l.length).heap.size = w.heap.size := by
      unfold World.freeze
      split
      · rfl
      · simp
    have hfo : (w.freeze ⟨(loc id).1, 0, none⟩ l.length).os = w.os ∧ (w.freeze ⟨(loc id).1, 0, none⟩ l.length).tape = w.tape ∧ (w.freeze ⟨(loc id).1, 0, none⟩ l.length).output = w.output := by
      unfold World.freeze
      split <;> exact ⟨rfl, rfl, rfl⟩
    have hk : Keeps w (w.freeze ⟨(loc id).1, 0, none⟩ l.length) (Muts N loc o) (Muts N loc ((id, .dead) :: o)) := ⟨by rw [hfs]; exact Nat.le_refl _, fun k _ hm => hfz k (fun e => hm (.inr ⟨id, _, hh, e.symm⟩)), fun k _ hm => by
      rcases hm with h | ⟨i, ob1, h, rfl⟩
      · exact .inl h
      · exact .inr ⟨i, ob1, (hold i ob1 h).2, rfl⟩⟩
    have hbel : Bel w0 (w.freeze ⟨(loc id).1, 0, none⟩ l.length) := ⟨hfo.1.trans hs.below.os, hfo.2.1.trans hs.below.tape, hfo.2.2.trans hs.below.output, by rw [hfs]; exact hs.below.size, fun k hk0 => (hfz k (fun e => hs.rep.new id _ hh (e ▸ hk0))).trans (hs.below.block k hk0)⟩
    have hs2 := hs.chg hbel hk ht ⟨fun i ob1 h => hs.rep.new i ob1 (hold i ob1 h).2, fun i i' ob1 ob2 h1 h2 he => hs.rep.inj i i' ob1 ob2 (hold i ob1 h1).2 (hold i' ob2 h2).2 he, fun i ob1 h => by
      have h0 := h
      rw [hlkd] at h
      by_cases hi : id = i
      · rw [if_pos hi] at h; cases h; trivial
      · rw [if_neg hi] at h
        refine Ob.rel_turns hk ht ob1 (fun hl1 hc1 => hfz _ (fun e => hi ?_)) (hs.rep.obs i ob1 h)
        exact (hs.rep.inj i id ob1 _ ⟨h, hl1, hc1⟩ hh e).symm⟩
    exact hK _ _ _ (hs2.put hd rel_str)
  · cases h

/-! ### Copies -/
theorem Ev.e_rest (X : Cx P) {lo : Operand} {id E m : Nat} {τ : Ty} {l : List τ.den} {k : IntKind} {i : Int} (h : sfx l i = some m) (hx : V s o n x = .own id) (ho : lookO o id = some (.arr E τ l)) (hh : V s o n lo = .v (.int k) i) (ht : X.ty t = some (.sl τ)) (hd : Nat.blt d n = true) : Ev P ⟨some d, .slice t x (some lo) none none, ty, pos, after, gd⟩ s o n (.osl id m) o := by
  unfold sfx at h
  split at h
  · rename_i hc
    cases h
    exact Ev.rest X hx ho hh ht hd hc.1 hc.2
  · cases h
theorem Ev.e_cp (X : Cx P) {id i E : Nat} {τ : Ty} {l ys r : List τ.den} {A : AV} (h : cpy l i ys = some r) (hx : V s o n x = .osl id i) (ho : lookO o id = some (.arr E τ l)) (hy : V s o n y = A) (hA : Src o A τ ys) (ht : X.ty t = some (.sl τ)) (hd : Nat.blt d n = true) :
    Ev P ⟨some d, .call ⟨.builtin .copy, #[x, y], #[t, t']⟩, ty, pos, after, gd⟩ s o n (.v (.int .i64) (ys.length : Int)) ((id, .arr E τ r) :: o) := by
  unfold cpy at h
  split at h
  · rename_i hc
    cases h
    exact Ev.copy X hx ho hy hA ht hd hc
  · cases h
/-- A row, as the rest of itself. -/
theorem Ghost.whole {v id : Nat} {ob : Ob} (hv : look s v = .own id) (ho : lookO o id = some ob) : Ghost ⟨s, o, n⟩ ⟨(v, .osl id 0) :: s, o, n⟩ := fun N w0 a w hN ⟨loc, hs⟩ => ⟨loc, hs.say (by
  have h := hs.slots v
  rw [show look s v = .own id from hv, AV.rel] at h
  rw [AV.rel]
  obtain ⟨ob, h1, h2⟩ := h
  refine ⟨ob, h1, fun E t l e => ?_⟩
  obtain ⟨A, e1, e2⟩ := h2 E t l e
  exact ⟨Nat.zero_le _, A, by rw [e1]; simp, fun hc => by rw [e2 hc]; simp⟩)⟩

/-! ### A pointer turned, and turned back -/
def UP (P : Program) (t t' : TypeId) : Prop := ∃ e j, P.underlying t = some (.pointer e) ∧ P.underlying t' = some .unsafePointer ∧ P.info? e = some j ∧ j.size ≠ 0
def chkUP (P : Program) (t t' : TypeId) : Bool := match P.underlying t, P.underlying t' with
  | some (.pointer e), some .unsafePointer => (match P.info? e with | some j => !Nat.beq j.size 0 | none => false)
  | _, _ => false
theorem UP.of {P : Program} {t t' : TypeId} (h : chkUP P t t' = true) : UP P t t' := by
  unfold chkUP at h
  split at h
  · rename_i e h1 h2
    split at h
    · rename_i j hj
      exact ⟨e, j, h1, h2, hj, Nat.ne_of_beq_eq_false (by simpa using h)⟩
    · cases h
  · cases h
theorem Ev.e_toU {id off : Nat} {cells : List AV} (hp : UP P t t') (hx : V s o n x = .box id off) (ho : lookO o id = some (.box cells)) (hoff : Nat.blt off cells.length = true) (hd : Nat.blt d n = true) : Ev P ⟨some d, .convert t t' x, ty, pos, after, gd⟩ s o n (.box id off) o :=
  Ev.pure hd (fun N w0 loc a w hs => by
    have h0 := hs.look (by simp [Op.operands]) hx
    have h1 := box_ptr ho h0
    obtain ⟨_, cur, E, hcur, hrel⟩ := box_at hs.rep ho
    obtain ⟨e, j, h2, h3, h4, h5⟩ := hp
    have hlen := rels_len hrel
    have := Lib.run_to_unsafe (P := P) w (e := E) (cells := cur.size) ⟨(loc id).1, off, none⟩ h2 h3 h4 h5 (by simp [World.shape?, hcur]) (by rw [← Array.length_toList, hlen]; exact blt_lt hoff)
    refine ⟨_, ?_, h0⟩
    rw [h1]
    simp [execOp, h1, this])
/-- A pointer to what is laid so. -/
def UL (P : Program) (t t' T : TypeId) (k : Nat) : Prop := P.underlying t = some .unsafePointer ∧ P.underlying t' = some (.pointer T) ∧ (∃ j, P.info? T = some j) ∧ liesAt P P.depth T (k / P.cellsOf T) 0 T 1 = true
def chkUL (P : Program) (t t' T : TypeId) (k : Nat) : Bool := (match P.underlying t with | some .unsafePointer => true | _ => false) && (match P.underlying t' with | some (.pointer e) => Nat.beq e T | _ => false) && (P.info? T).isSome && liesAt P P.depth T (k / P.cellsOf T) 0 T 1
theorem UL.of {P : Program} {t t' T : TypeId} {k : Nat} (h : chkUL P t t' T k = true) : UL P t t' T k := by
  unfold chkUL at h
  simp only [Bool.and_eq_true] at h
  obtain ⟨⟨⟨h1, h2⟩, h3⟩, h4⟩ := h
  refine ⟨?_, ?_, Option.isSome_iff_exists.1 h3, h4⟩
  · split at h1
    · assumption
    · cases h1
  · split at h2
    · rename_i e he; rw [he, Nat.eq_of_beq_eq_true h2]
    · cases h2
theorem Ev.e_fromU {id T : Nat} {c : Bool} {cells : List AV} (hp : UL P t t' T (cells.length + 1)) (hx : V s o n x = .box id 0) (ho : lookO o id = some (.box (.pn c id 0 T :: cells))) (hd : Nat.blt d n = true) : Ev P ⟨some d, .convert t t' x, ty, pos, after, gd⟩ s o n (.box id 0) o :=
  Ev.pure hd (fun N w0 loc a w hs => by
    have h0 := hs.look (by simp [Op.operands]) hx
    have h1 := box_ptr ho h0
    obtain ⟨hbc, cur, E, hcur, hrel⟩ := box_at hs.rep ho
    obtain ⟨h2, h3, ⟨j, h4⟩, h5⟩ := hp
    have hlen := rels_len hrel
    have hcz : cur.size = cells.length + 1 := by rw [← Array.length_toList, hlen]; rfl
    rw [AV.rels] at hrel
    obtain ⟨u, us, _, hr, _⟩ := hrel
    rw [AV.rel] at hr
    obtain ⟨ob, g1, g2⟩ := hr
    rw [ho] at g1; cases g1
    have hT := (g2 _ rfl).2
    have hT' : (loc id).2 = T + 2 := hT
    have hE : (loc id).2 = E + 2 := hbc.2 cur E hcur (by rw [hT']; exact Nat.le_add_left 2 T)
    obtain rfl : E = T := Nat.add_right_cancel (hE.symm.trans hT')
    have := Lib.run_from_unsafe (P := P) w (e := E) (cells := cur.size) ⟨(loc id).1, 0, none⟩ h2 h3 h4 (by simp [World.shape?, hcur]) (by rw [hcz]; exact h5)
    refine ⟨_, ?_, h0⟩
    rw [h1]
    simp [execOp, h1, this])
/-- What hands back what it is handed. -/
def NE (P : Program) (g : Nat) : Prop := ∃ fn, P.funcs[g]? = some fn ∧ (fn.name == "runtime.NumGoroutine") = false ∧ fn.body.isNone = true ∧ Extern.findNext fn = none ∧ Extern.find fn = some Extern.AbiNoEscape.same
theorem Ev.e_noesc {f : Operand} {ts : Array TypeId} {g : Nat} {A : AV} (hg : NE P g) (hf : V s o n f = .fn g []) (hx : V s o n x = A) (hd : Nat.blt d n = true) : Ev P ⟨some d, .call ⟨.value f, #[x], ts⟩, ty, pos, after, gd⟩ s o n A o :=
  Ev.pure hd (fun N w0 loc a w hs => by
    have h1 := eval_fn hs (by simp [Op.operands, Call.operands]) hf
    have h2 := hs.look (x := x) (by simp [Op.operands, Call.operands]) hx
    obtain ⟨fn, g1, g2, g3, g4, g5⟩ := hg
    have := run_callFunc_extern g1 g2 g3 g4 g5 #[a.eval x] w
    rw [Lib.run_noEscape] at this
    refine ⟨_, ?_, h2⟩
    simp only [Result.andThen] at this
    simp [execOp, resolve, h1, Deferred.ofValue, invoke, this])

/-- Where a byte stands first. -/
def IB (P : Program) (g : Nat) : Prop := ∃ fn, P.funcs[g]? = some fn ∧ (fn.name == "runtime.NumGoroutine") = false ∧ fn.body.isNone = true ∧ Extern.findNext fn = none ∧ Extern.find fn = some Extern.BytealgIndexByte.indexByte
theorem Ev.e_idxb {f : Operand} {ts : Array TypeId} {g : Nat} {b : ByteArray} {c : Int} (hg : IB P g) (hf : V s o n f = .fn g []) (hx : V s o n x = .v .str b) (hy : V s o n y = .v (.int .u8) c) (hd : Nat.blt d n = true) : Ev P ⟨some d, .call ⟨.value f, #[x, y], ts⟩, ty, pos, after, gd⟩ s o n (.v (.int .i64) (ixb b c)) o :=
  Ev.pure hd (fun N w0 loc a w hs => by
    have h1 := eval_fn hs (by simp [Op.operands, Call.operands]) hf
    have h2 := of_str (hs.look (x := x) (by simp [Op.operands, Call.operands]) hx)
    have h3 := of_int (hs.look (x := y) (by simp [Op.operands, Call.operands]) hy)
    obtain ⟨fn, g1, g2, g3, g4, g5⟩ := hg
    have := run_callFunc_extern g1 g2 g3 g4 g5 #[.string b, .int .u8 c] w
    rw [run_indexByte_string] at this
    refine ⟨_, ?_, rel_int⟩
    simp only [Result.andThen] at this
    simp [execOp, resolve, h1, Deferred.ofValue, invoke, h2, h3, this, ixb])

/-! ### The builder's own cells -/
/-- A new builder. -/
theorem Ev.e_allocB (id id2 E2 : Nat) (hz : ZS P t (([.ptr, .sl] : List ZK).map ZK.val)) (hid : lookO o id = none) (hid2 : lookO ((id, Ob.dead) :: o) id2 = none) (hd : Nat.blt d n = true) : Ev P ⟨some d, .alloc t, ty, pos, after, gd⟩ s o n (.box id 0) ((id2, .arr E2 (.int .u8) ([] : List Int)) :: (id, .box [.pn true id 0 t, .owz id2]) :: o) := Ev.mk fun F _ N w0 loc a w _ hs Q K hK => by
  obtain ⟨f, z, hf, hfz, hzl⟩ := hz
  have hrun : (Instr.alloc t true (.tuple #[])).run P w = .ok (.pointer (some ⟨w.heap.size, 0, none⟩)) (w.alloc (.cells z.cells t)) := by
    simp [Instr.alloc, zeroValue, typeInfo, hf, hfz, newVar, newRow]
  unfold Oper.wp
  rw [show (execOp a.eval ⟨some d, .alloc t, ty, pos, after, gd⟩).run P w = .ok (.value (.pointer (some ⟨w.heap.size, 0, none⟩))) (w.alloc (.cells z.cells t)) from run_v hrun]
  have hr : ∀ (M : Nat → Prop) (loc : Nat → Nat × Nat) (o : Objs) (w : World), AV.rels w M loc o [.nilp, .nil] z.cells.toList := by
    intro M loc o w
    rw [hzl]
    rw [AV.rels]
    refine ⟨.pointer none, [.slice none 0 0], rfl, by rw [AV.rel], ?_⟩
    rw [AV.rels]
    exact ⟨_, [], rfl, by rw [AV.rel], by rw [AV.rels]⟩
  have h1 := hs.new (ob := .box [.nilp, .nil]) (c := t + 2) hid (Nat.le_refl _) (below_alloc' w (.cells z.cells t)) (fun M' loc' o' hk ht => ⟨⟨by omega, fun cur E h _ => by rw [alloc_get] at h; cases h; rfl⟩, _, _, alloc_get _ _, hr _ _ _ _⟩)
  have ho1 : lookO ((id, Ob.box [.nilp, .nil]) :: o) id = some (.box [.nilp, .nil]) := by rw [lookO_cons, if_pos rfl]
  obtain ⟨hc, cur, E, hcur, hrel⟩ := h1.rep.obs id _ ho1
  have h2 := h1.set (w' := w.alloc (.cells z.cells t)) (ob := .box [.nilp, .nil]) (ob' := .box [.pn true id 0 t, .nil]) ho1 rfl .box hc.1 rfl rfl rfl (Nat.le_refl _) (fun _ _ _ => rfl) (fun M' o' hk ht => ⟨hc, cur, E, hcur, AV.rels_turns hk ht _ _ (by
    refine cell_set (A := .nilp) (B := .pn true id 0 t) (fun u hu => ?_) [.nilp, .nil] _ 0 rfl hrel
    rw [AV.rel] at hu
    rw [AV.rel.eq_def]
    exact ⟨_, ho1, fun cells _ => ⟨hu, by rw [put2_same]⟩⟩)⟩)
  have h3 : SatF N w0 ((id, .box [.pn true id 0 t, .nil]) :: o) n F (put2 loc id w.heap.size (t + 2)) a (w.alloc (.cells z.cells t)) := h2.alike (fun i => by
    rw [lookO_cons, lookO_cons, lookO_cons]
    by_cases hi : id = i
    · rw [if_pos hi, if_pos hi]
    · rw [if_neg hi, if_neg hi, if_neg hi])
  have hne : id2 ≠ id := by
    intro e; rw [e, lookO_cons, if_pos rfl] at hid2; cases hid2
  have hn2 : lookO ((id, Ob.box [.pn true id 0 t, .nil]) :: o) id2 = none := by
    rw [lookO_cons, if_neg (Ne.symm hne)] at hid2 ⊢; exact hid2
  have h4 := h3.new (w' := w.alloc (.cells z.cells t)) (id := id2) (g := (w.alloc (.cells z.cells t)).heap.size) (c := 0) (ob := .arr E2 (.int .u8) ([] : List Int)) hn2 (Nat.le_refl _) (Below.refl _ _) (fun M' loc' o' hk ht => ⟨Nat.le_refl _, Nat.zero_le _, fun h => absurd h (Nat.lt_irrefl _)⟩)
  have ho4 : lookO ((id2, Ob.arr E2 (.int .u8) ([] : List Int)) :: (id, Ob.box [.pn true id 0 t, .nil]) :: o) id = some (.box [.pn true id 0 t, .nil]) := by
    rw [lookO_cons, if_neg hne, lookO_cons, if_pos rfl]
  have ho5 : lookO ((id2, Ob.arr E2 (.int .u8) ([] : List Int)) :: (id, Ob.box [.pn true id 0 t, .nil]) :: o) id2 = some (.arr E2 (.int .u8) ([] : List Int)) := by
    rw [lookO_cons, if_pos rfl]
  obtain ⟨hc4, cur4, E4, hcur4, hrel4⟩ := h4.rep.obs id _ ho4
  have h5 := h4.set (w' := w.alloc (.cells z.cells t)) (ob := .box [.pn true id 0 t, .nil]) (ob' := .box [.pn true id 0 t, .owz id2]) ho4 rfl .box hc4.1 rfl rfl rfl (Nat.le_refl _) (fun _ _ _ => rfl) (fun M' o' hk ht => ⟨hc4, cur4, E4, hcur4, AV.rels_turns hk ht _ _ (by
    refine cell_set (A := .nil) (B := .owz id2) (fun u hu => ?_) [.pn true id 0 t, .nil] _ 1 rfl hrel4
    rw [AV.rel] at hu
    rw [AV.rel.eq_def]
    refine ⟨_, ho5, fun E' t' l' e => ?_⟩
    cases e
    rw [put2_same]
    exact ⟨none, hu, fun h => absurd h (Nat.lt_irrefl _), fun _ => rfl⟩)⟩)
  refine hK _ _ _ ((h5.alike (o' := (id2, .arr E2 (.int .u8) ([] : List Int)) :: (id, .box [.pn true id 0 t, .owz id2]) :: o) (fun i => ?_)).put hd ?_)
  · rw [lookO_cons, lookO_cons, lookO_cons, lookO_cons, lookO_cons]
    by_cases hi : id = i
    · subst hi
      rw [if_neg hne, if_pos rfl, if_pos rfl]
    · by_cases hi2 : id2 = i
      · rw [if_pos hi2, if_neg hi, if_pos hi2]
      · rw [if_neg hi2, if_neg hi, if_neg hi, if_neg hi2, if_neg hi]
  · rw [AV.rel]
    refine ⟨_, by rw [lookO_cons, if_neg hne, lookO_cons, if_pos rfl], fun c e => ?_⟩
    cases e
    rw [put2_ne (Ne.symm hne), put2_same]
/-- It takes its own address. -/
theorem Ev.e_stPn {id T : Nat} {c : Bool} {cells : List AV} (hz : SZ P t false 1) (hx : V s o n x = .box id 0) (ho : lookO o id = some (.box (.pn c id 0 T :: cells))) (hy : V s o n y = .box id 0) :
    Ev P ⟨none, .store t x y, ty, pos, after, gd⟩ s o n .bot ((id, .box (.pn false id 0 T :: cells)) :: o) := Ev.mk fun F hF N w0 loc a w hN hs Q K hK => by
  obtain ⟨_, _, _, _, hrel0⟩ := box_at hs.rep ho
  rw [AV.rels] at hrel0
  obtain ⟨u0, _, _, hr0, _⟩ := hrel0
  rw [AV.rel] at hr0
  obtain ⟨ob0, g1, g2⟩ := hr0
  rw [ho] at g1; cases g1
  have hT := (g2 _ rfl).2
  have hlk := hs.lk hF
  have h1 := box_ptr ho (hlk.look (by simp [Op.operands]) hx)
  have hy1 := hlk.look (by simp [Op.operands]) hy
  have h1y := box_ptr ho hy1
  obtain ⟨hp, cur, E, hcur, hrel⟩ := box_at hs.rep ho
  have hlen := rels_len hrel
  have hcl : cur.size = cells.length + 1 := by rw [← Array.length_toList]; exact hlen
  have hst := run_storeCells_at (P := P) (loc id).1 0 E [a.eval y] 0 cur w hcur (by simp; omega) (by intro u hu; simp at hu; subst hu; rw [h1y]; simp [Value.oneCell'])
  have hcy : (a.eval y).cells = #[a.eval y] := by rw [h1y]; rfl
  have hrun : (execOp a.eval ⟨none, .store t x y, ty, pos, after, gd⟩).run P w = .ok .skip (w.setRow (loc id).1 (cur.toList.take 0 ++ [a.eval y] ++ cur.toList.drop (0 + 1)).toArray) := by
    have hsz : (a.eval y).cells.size = 1 := by rw [hcy]; rfl
    simp [execOp, h1, Instr.storeAt, Instr.sureAddr, storeVar, hz.size, hsz]
    rw [hcy]
    simp at hst ⊢
    simp [hst]
  unfold Oper.wp
  rw [hrun]
  have hset := setRow_heap w (loc id).1 cur (cur.toList.take 0 ++ [a.eval y] ++ cur.toList.drop (0 + 1)).toArray E (0, 0) hcur
  have := hs.set (w' := w.setRow (loc id).1 (cur.toList.take 0 ++ [a.eval y] ++ cur.toList.drop (0 + 1)).toArray) (ob := .box (.pn c id 0 T :: cells)) (ob' := .box (.pn false id 0 T :: cells)) ho rfl .box hp.1 rfl rfl rfl (by simp [World.setRow]) (fun k _ hk => setRow_other w _ k _ hk) (fun M' o' hk ht => ⟨hp.set hcur hset, _, _, hset, AV.rels_turns hk ht _ _ (by
    rw [List.toList_toArray]
    have := rels_mid (bs := [.pn false id 0 T]) (vs := [a.eval y]) 0 hrel (by
      rw [AV.rels]
      refine ⟨_, [], rfl, ?_, by rw [AV.rels]⟩
      rw [AV.rel]
      exact ⟨_, ho, fun cells _ => ⟨h1y, hT⟩⟩)
    simpa using this)⟩)
  exact hK _ _ _ this
end
end Go.Proofs.YtfboepeadeafmaaGreatDoor.AE
/- Values of the program's structs. -/
namespace Go.Proofs.YtfboepeadeafmaaGreatDoor.AP
abbrev D_api_Int : Type := (Bool × (List Int))
abbrev D_api_Rat : Type := (D_api_Int × (List Int))
abbrev D_triviumref07_Z : Type := (Bool × (List Int))
abbrev D_triviumref08_Q : Type := (D_triviumref07_Z × (List Int))
end Go.Proofs.YtfboepeadeafmaaGreatDoor.AP
/- Types of the printed functions, and what the proofs say of them. -/
namespace Go.Proofs.YtfboepeadeafmaaGreatDoor.AE
open Go Go.RowKit Go.Proofs.YtfboepeadeafmaaGreatDoor.AP
abbrev Y_api_Int : Ty := (.pair .bool (.sl (.int .u64)))
abbrev Y_api_Rat : Ty := (.pair Y_api_Int (.sl (.int .u64)))
abbrev Y_triviumref07_Z : Ty := (.pair .bool (.sl (.int .i64)))
abbrev Y_triviumref08_Q : Ty := (.pair Y_triviumref07_Z (.sl (.int .i64)))
def tab : Tab := [(3, (.int .i64), 0), (4, .bool, 0), (5, (.int .u8), 0), (9, .str, 0), (21, (.int .i32), 0), (22, (.sl (.int .u64)), 0), (23, (.sl (.int .u64)), 0), (25, Y_api_Int, 2), (27, Y_api_Rat, 2), (32, (.sl (.int .i64)), 0), (34, Y_triviumref07_Z, 2), (36, Y_triviumref08_Q, 2), (45, (.sl .str), 0), (60, (.int .u64), 0), (97, (.sl (.int .u8)), 0), (171, (.sl (.sl (.int .u64))), 0)]
def els : Els := [(22, 60, 8), (23, 60, 8), (32, 3, 8), (45, 9, 16), (97, 5, 1), (171, 23, 24)]
def X : Cx Tryz.prog := Cx.of tab els (by kernel_rfl) (by kernel_rfl)
theorem pl25 : placesOf Tryz.prog 25 = some [(0, 1), (1, 1)] := by kernel_rfl
theorem pl27 : placesOf Tryz.prog 27 = some [(0, 2), (2, 1)] := by kernel_rfl
theorem pl34 : placesOf Tryz.prog 34 = some [(0, 1), (1, 1)] := by kernel_rfl
theorem pl36 : placesOf Tryz.prog 36 = some [(0, 2), (2, 1)] := by kernel_rfl
theorem zs27 : ZS Tryz.prog 27 (([.bool, .sl, .sl] : List ZK).map ZK.val) := ZS.of (by kernel_rfl)
theorem zs127 : ZS Tryz.prog 127 (([.ptr, .sl] : List ZK).map ZK.val) := ZS.of (by kernel_rfl)
theorem sz27 : SZ Tryz.prog 27 true 3 := SZ.of (by kernel_rfl)
theorem sz97 : SZ Tryz.prog 97 false 1 := SZ.of (by kernel_rfl)
theorem sz125 : SZ Tryz.prog 125 false 1 := SZ.of (by kernel_rfl)
theorem fo127_0 : FO Tryz.prog 127 0 0 125 := FO.of (by kernel_rfl)
theorem fo127_1 : FO Tryz.prog 127 1 1 97 := FO.of (by kernel_rfl)
theorem en79 : Enters Tryz.prog 79 := ⟨_, Tryz.func79, rfl, rfl⟩
theorem en87 : Enters Tryz.prog 87 := ⟨_, Tryz.func87, rfl, rfl⟩
theorem en89 : Enters Tryz.prog 89 := ⟨_, Tryz.func89, rfl, rfl⟩
theorem en116 : Enters Tryz.prog 116 := ⟨_, Tryz.func116, rfl, rfl⟩
theorem en128 : Enters Tryz.prog 128 := ⟨_, Tryz.func128, rfl, rfl⟩
theorem en129 : Enters Tryz.prog 129 := ⟨_, Tryz.func129, rfl, rfl⟩
theorem pt125 : PT Tryz.prog 125 := PT.of (by kernel_rfl)
theorem up125_172 : UP Tryz.prog 125 172 := UP.of (by kernel_rfl)
theorem ul172_125_127_2 : UL Tryz.prog 172 125 127 2 := UL.of (by kernel_rfl)
theorem us158_5 : US Tryz.prog 158 5 := US.of (by kernel_rfl)
theorem ib144 : IB Tryz.prog 144 := ⟨_, Tryz.func144, by kernel_rfl, by kernel_rfl, by kernel_rfl, by kernel_rfl⟩
theorem ne132 : NE Tryz.prog 132 := ⟨_, Tryz.func132, by kernel_rfl, by kernel_rfl, by kernel_rfl, by kernel_rfl⟩
end Go.Proofs.YtfboepeadeafmaaGreatDoor.AE
/- The library's contracts that this seat uses, laid at its dump. -/
namespace Go.Proofs
open Go.Shelf
def Tryz.lays219_ren : Go.Shelf.Ren := ⟨fun | 219 => 118 | 217 => 134 | 225 => 135 | 224 => 136 | 267 => 137 | 266 => 144 | 314 => 145 | n => n, fun | 9 => 9 | 3 => 3 | 4 => 4 | 5 => 5 | 46 => 116 | 146 => 155 | 51 => 154 | n => n, fun | 1 => 0 | n => n⟩
theorem Tryz.lays219 : Go.Proofs.Lays.n219 Tryz.prog Tryz.lays219_ren := {
  mixed := by kernel_rfl
  f217 := Tryz.func134.trans (congrArg some (by kernel_rfl))
  f219 := Tryz.func118.trans (congrArg some (by kernel_rfl))
  f224 := Tryz.func136.trans (congrArg some (by kernel_rfl))
  f225 := Tryz.func135.trans (congrArg some (by kernel_rfl))
  f266 := Tryz.func144.trans (congrArg some (by kernel_rfl))
  f267 := Tryz.func137.trans (congrArg some (by kernel_rfl))
  f314 := Tryz.func145.trans (congrArg some (by kernel_rfl))
  t3 := Tryz.underlying3
  a3 := Tryz.isAgg3
  z3 := Tryz.sizeOf3
  v3 := Tryz.zeroValue3
  t4 := Tryz.underlying4
  a4 := Tryz.isAgg4
  z4 := Tryz.sizeOf4
  v4 := Tryz.zeroValue4
  t5 := Tryz.underlying5
  a5 := Tryz.isAgg5
  z5 := Tryz.sizeOf5
  v5 := Tryz.zeroValue5
  t9 := Tryz.underlying9
  a9 := Tryz.isAgg9
  z9 := Tryz.sizeOf9
  v9 := Tryz.zeroValue9
  t46 := Tryz.underlying116
  a46 := Tryz.isAgg116
  z46 := Tryz.sizeOf116
  v46 := Tryz.zeroValue116
  t51 := Tryz.underlying154
  a51 := Tryz.isAgg154
  z51 := Tryz.sizeOf154
  v51 := Tryz.zeroValue154
  t146 := Tryz.underlying155
  a146 := Tryz.isAgg155
  z146 := Tryz.sizeOf155
  v146 := Tryz.zeroValue155
  g1 := by kernel_rfl }
open Go.RowKit Go.Lib in
theorem Tryz.stringslite_Index_one (s : ByteArray) (c : UInt8) (w : World) :
    Calls Tryz.prog 118 #[.string s, .string ⟨#[c]⟩] w fun e w' => e = .returned (.int .i64 (Lib.indexByte s.data.toList c)) ∧ w' = w := Any.stringslite_Index_one Tryz.lays219 s c w
def Tryz.lays105_ren : Go.Shelf.Ren := ⟨fun | 105 => 50 | 212 => 84 | 99 => 85 | 165 => 86 | 166 => 87 | 170 => 88 | 169 => 89 | 263 => 113 | 264 => 114 | 206 => 115 | 240 => 116 | 241 => 117 | 276 => 132 | 277 => 133 | n => n, fun | 9 => 9 | 3 => 3 | 4 => 4 | 20 => 20 | 0 => 0 | 46 => 116 | 109 => 123 | 5 => 5 | 72 => 127 | 76 => 131 | 51 => 154 | 146 => 155 | 53 => 60 | 148 => 105 | 70 => 125 | 37 => 97 | 75 => 130 | 127 => 158 | 164 => 172 | 80 => 134 | n => n, fun | n => n⟩
theorem Tryz.lays105 : Go.Proofs.Lays.n105 Tryz.prog Tryz.lays105_ren := {
  mixed := by kernel_rfl
  f99 := Tryz.func85.trans (congrArg some (by kernel_rfl))
  f105 := Tryz.func50.trans (congrArg some (by kernel_rfl))
  f165 := Tryz.func86.trans (congrArg some (by kernel_rfl))
  f166 := Tryz.func87.trans (congrArg some (by kernel_rfl))
  f169 := Tryz.func89.trans (congrArg some (by kernel_rfl))
  f170 := Tryz.func88.trans (congrArg some (by kernel_rfl))
  f206 := Tryz.func115.trans (congrArg some (by kernel_rfl))
  f212 := Tryz.func84.trans (congrArg some (by kernel_rfl))
  f240 := Tryz.func116.trans (congrArg some (by kernel_rfl))
  f241 := Tryz.func117.trans (congrArg some (by kernel_rfl))
  f263 := Tryz.func113.trans (congrArg some (by kernel_rfl))
  f264 := Tryz.func114.trans (congrArg some (by kernel_rfl))
  f276 := Tryz.func132.trans (congrArg some (by kernel_rfl))
  f277 := Tryz.func133.trans (congrArg some (by kernel_rfl))
  t0 := Tryz.underlying0
  a0 := Tryz.isAgg0
  z0 := Tryz.sizeOf0
  v0 := Tryz.zeroValue0
  t3 := Tryz.underlying3
  a3 := Tryz.isAgg3
  z3 := Tryz.sizeOf3
  v3 := Tryz.zeroValue3
  t4 := Tryz.underlying4
  a4 := Tryz.isAgg4
  z4 := Tryz.sizeOf4
  v4 := Tryz.zeroValue4
  t5 := Tryz.underlying5
  a5 := Tryz.isAgg5
  z5 := Tryz.sizeOf5
  v5 := Tryz.zeroValue5
  t9 := Tryz.underlying9
  a9 := Tryz.isAgg9
  z9 := Tryz.sizeOf9
  v9 := Tryz.zeroValue9
  t20 := Tryz.underlying20
  a20 := Tryz.isAgg20
  z20 := Tryz.sizeOf20
  v20 := Tryz.zeroValue20
  t37 := Tryz.underlying97
  a37 := Tryz.isAgg97
  z37 := Tryz.sizeOf97
  v37 := Tryz.zeroValue97
  t46 := Tryz.underlying116
  a46 := Tryz.isAgg116
  z46 := Tryz.sizeOf116
  v46 := Tryz.zeroValue116
  t51 := Tryz.underlying154
  a51 := Tryz.isAgg154
  z51 := Tryz.sizeOf154
  v51 := Tryz.zeroValue154
  t53 := Tryz.underlying60
  a53 := Tryz.isAgg60
  z53 := Tryz.sizeOf60
  v53 := Tryz.zeroValue60
  t70 := Tryz.underlying125
  a70 := Tryz.isAgg125
  z70 := Tryz.sizeOf125
  v70 := Tryz.zeroValue125
  t72 := Tryz.underlying127
  a72 := Tryz.isAgg127
  z72 := Tryz.sizeOf127
  v72 := Tryz.zeroValue127
  t75 := Tryz.underlying130
  a75 := Tryz.isAgg130
  z75 := Tryz.sizeOf130
  v75 := Tryz.zeroValue130
  t76 := Tryz.underlying131
  a76 := Tryz.isAgg131
  z76 := Tryz.sizeOf131
  v76 := Tryz.zeroValue131
  t109 := Tryz.underlying123
  a109 := Tryz.isAgg123
  z109 := Tryz.sizeOf123
  v109 := Tryz.zeroValue123
  t127 := Tryz.underlying158
  a127 := Tryz.isAgg158
  z127 := Tryz.sizeOf158
  v127 := Tryz.zeroValue158
  t146 := Tryz.underlying155
  a146 := Tryz.isAgg155
  z146 := Tryz.sizeOf155
  v146 := Tryz.zeroValue155
  t148 := Tryz.underlying105
  a148 := Tryz.isAgg105
  z148 := Tryz.sizeOf105
  v148 := Tryz.zeroValue105
  t164 := Tryz.underlying172
  a164 := Tryz.isAgg172
  z164 := Tryz.sizeOf172
  v164 := Tryz.zeroValue172 }
theorem Tryz.Builder_Extra_105 : Builder.Extra Tryz.prog Tryz.lays105_ren := {
  sizeBuilder := by kernel_rfl
  liesBuilder := by kernel_rfl
  t5 := Tryz.underlying5
  a5 := Tryz.isAgg5
  z5 := Tryz.sizeOf5
  v5 := Tryz.zeroValue5
  infoByte := by kernel_rfl
  cellsByte := by kernel_rfl
  sizeByte := by kernel_rfl
  neB5 := by decide }
open Go.RowKit Go.Lib in
theorem Tryz.strings_Repeat (s : ByteArray) (c : Nat) (w : World) (hc : c ≤ 9223372036854775807) (hlen : s.size * c ≤ 140737488355328) :
    Calls Tryz.prog 50 #[.string s, .int .i64 c] w fun e w' => e = .returned (.string ⟨(Lib.repeatL s.data.toList c).toArray⟩) ∧ Below w.heap.size w w' := Any.strings_Repeat Tryz.lays105 Tryz.Builder_Extra_105 s c w hc hlen
end Go.Proofs
/- Contracts of the library's functions, in our form: where a byte is in a text. -/
namespace Go.Proofs.YtfboepeadeafmaaGreatDoor.AP
open Go
set_option linter.unusedVariables false
noncomputable section
def m_stringslite_Index (s b : ByteArray) : Option Int :=
  match b.data.toList with
  | [c] => some (Lib.indexByte s.data.toList c)
  | _ => none
end
end Go.Proofs.YtfboepeadeafmaaGreatDoor.AP
namespace Go.Proofs.YtfboepeadeafmaaGreatDoor.AE
open Go Go.RowKit Go.Proofs.YtfboepeadeafmaaGreatDoor.AP
set_option linter.unusedVariables false
theorem spec_of2 {P : Program} {g : Nat} {avs : List AV} {t : Ty} {y : t.den} (h : ∀ (N : Nat → Prop) (w : World) (vs : List Value), Glo w → AV.rels w N (fun _ => (0, 0)) [] avs vs →
    Calls P g vs.toArray w fun e w' => (∃ u, e = .returned u ∧ t.rel w' (fun _ => False) y u) ∧ Below w.heap.size w w') (hc : ∀ (w : World) (M M' : Nat → Prop) u, t.rel w M y u → t.rel w M' y u) : Spec P g avs (.v t y) [] :=
  fun N w vs hG hN hr => (h N w vs hG hr).mono fun e w' ⟨⟨u, he, hu⟩, hb⟩ => ⟨u, fun _ => (0, 0), he, Rep.none_, hc _ _ _ _ hu, hb⟩
theorem en118 : Enters Tryz.prog 118 := ⟨_, Tryz.func118, rfl, rfl⟩
theorem k_stringslite_Index {p0 p1 : ByteArray} {y : Int} (h : m_stringslite_Index p0 p1 = some y) : Spec Tryz.prog 118 [.v .str p0, .v .str p1] (.v (.int .i64) y) [] := by
  unfold m_stringslite_Index at h
  split at h
  · rename_i c hc
    obtain rfl := Option.some.inj h
    have e1 : p1 = ⟨#[c]⟩ := by
      obtain ⟨⟨l⟩⟩ := p1
      have hc : l = [c] := hc
      subst hc; rfl
    subst e1
    refine spec_of2 (t := .int .i64) (fun N w vs hG hr => ?_) (fun _ _ _ _ h => h)
    obtain ⟨u, us, rfl, ⟨cs, h1, rfl⟩, u2, us2, rfl, ⟨cs2, h2, rfl⟩, h3⟩ := hr
    have h3 : us2 = [] := h3
    have h2 : cs2 = [.string ⟨#[c]⟩] := h2
    have h1 : cs = [.string p0] := h1
    subst h1 h2 h3
    exact (Tryz.stringslite_Index_one p0 c w).mono fun e w' ⟨he, hw⟩ => ⟨⟨_, he, _, rfl, rfl⟩, by subst hw; exact Below.refl _ _⟩
  · cases h
end Go.Proofs.YtfboepeadeafmaaGreatDoor.AE
/- Contracts of the library's functions, in our form: a text so often. -/
namespace Go.Proofs.YtfboepeadeafmaaGreatDoor.AP
open Go
set_option linter.unusedVariables false
noncomputable section
def m_strings_Repeat (s : ByteArray) (n : Int) : Option ByteArray :=
  if 0 ≤ n ∧ n ≤ 9223372036854775807 ∧ s.size * n.toNat ≤ 140737488355328 then some ⟨(Lib.repeatL s.data.toList n.toNat).toArray⟩ else none
end
end Go.Proofs.YtfboepeadeafmaaGreatDoor.AP
namespace Go.Proofs.YtfboepeadeafmaaGreatDoor.AE
open Go Go.RowKit Go.Proofs.YtfboepeadeafmaaGreatDoor.AP
set_option linter.unusedVariables false
theorem spec_of3 {P : Program} {g : Nat} {avs : List AV} {t : Ty} {y : t.den} (h : ∀ (N : Nat → Prop) (w : World) (vs : List Value), Glo w → AV.rels w N (fun _ => (0, 0)) [] avs vs →
    Calls P g vs.toArray w fun e w' => (∃ u, e = .returned u ∧ t.rel w' (fun _ => False) y u) ∧ Below w.heap.size w w') (hc : ∀ (w : World) (M M' : Nat → Prop) u, t.rel w M y u → t.rel w M' y u) : Spec P g avs (.v t y) [] :=
  fun N w vs hG hN hr => (h N w vs hG hr).mono fun e w' ⟨⟨u, he, hu⟩, hb⟩ => ⟨u, fun _ => (0, 0), he, Rep.none_, hc _ _ _ _ hu, hb⟩
theorem en50 : Enters Tryz.prog 50 := ⟨_, Tryz.func50, rfl, rfl⟩
theorem k_strings_Repeat {p0 : ByteArray} {p1 : Int} {y : ByteArray} (h : m_strings_Repeat p0 p1 = some y) : Spec Tryz.prog 50 [.v .str p0, .v (.int .i64) p1] (.v .str y) [] := by
  unfold m_strings_Repeat at h
  by_cases hc : 0 ≤ p1 ∧ p1 ≤ 9223372036854775807 ∧ p0.size * p1.toNat ≤ 140737488355328
  · rw [if_pos hc] at h
    obtain rfl := Option.some.inj h
    obtain ⟨c, rfl⟩ := Int.eq_ofNat_of_zero_le hc.1
    refine spec_of3 (t := .str) (fun N w vs hG hr => ?_) (fun _ _ _ _ h => h)
    obtain ⟨u, us, rfl, ⟨cs, h1, rfl⟩, u2, us2, rfl, ⟨cs2, h2, rfl⟩, h3⟩ := hr
    have h3 : us2 = [] := h3
    have h2 : cs2 = [.int .i64 (c : Int)] := h2
    have h1 : cs = [.string p0] := h1
    subst h1 h2 h3
    exact (Tryz.strings_Repeat p0 c w (by omega) hc.2.2).mono fun e w' ⟨he, hw⟩ => ⟨⟨_, he, _, rfl, rfl⟩, hw⟩
  · rw [if_neg hc] at h; cases h
end Go.Proofs.YtfboepeadeafmaaGreatDoor.AE
/- Functions of the program, as Lean functions (printed by a program of ours). -/
namespace Go.Proofs.YtfboepeadeafmaaGreatDoor.AP
open Go
set_option linter.unusedVariables false
noncomputable section
def m_internal_stringslite_HasSuffix (p0 : ByteArray) (p1 : ByteArray) : Option (Bool) :=
  if decide ((p1.size : Int) ≤ (p0.size : Int)) then (
    bd (cs p0 (wi64 ((p0.size : Int) - (p1.size : Int))) p0.size) fun x2 =>
    some (sq x2 p1))
  else (
    some false)
def m_internal_stringslite_CutSuffix (p0 : ByteArray) (p1 : ByteArray) : Option (ByteArray × Bool) :=
  bd (m_internal_stringslite_HasSuffix p0 p1) fun x1 =>
  if !x1 then (
    some (p0, false))
  else (
    bd (cs p0 0 (wi64 ((p0.size : Int) - (p1.size : Int)))) fun x4 =>
    some (x4, true))
def m_strings_CutSuffix (p0 : ByteArray) (p1 : ByteArray) : Option (ByteArray × Bool) :=
  bd (m_internal_stringslite_CutSuffix p0 p1) fun x1 =>
  some (x1.1, x1.2)
def m_internal_stringslite_Cut (p0 : ByteArray) (p1 : ByteArray) : Option (ByteArray × ByteArray × Bool) :=
  bd (m_stringslite_Index p0 p1) fun x1 =>
  if decide (0 ≤ x1) then (
    bd (cs p0 0 x1) fun x4 =>
    bd (cs p0 (wi64 (x1 + (p1.size : Int))) p0.size) fun x6 =>
    some (x4, x6, true))
  else (
    some (p0, (bs []), false))
def m_strings_Cut (p0 : ByteArray) (p1 : ByteArray) : Option (ByteArray × ByteArray × Bool) :=
  bd (m_internal_stringslite_Cut p0 p1) fun x1 =>
  some (x1.1, x1.2.1, x1.2.2)
def m_strings_Index (p0 : ByteArray) (p1 : ByteArray) : Option (Int) :=
  bd (m_stringslite_Index p0 p1) fun x1 =>
  some x1
def m_strings_Contains (p0 : ByteArray) (p1 : ByteArray) : Option (Bool) :=
  bd (m_strings_Index p0 p1) fun x1 =>
  some (decide (0 ≤ x1))
def m_digits_based (p0 : Int) : Option (Int) :=
  bd (
    if decide (p0 < 2) then (
      some true)
    else (
      some (decide (36 < p0)))) fun v1 =>
  if v1 then (
    some 2)
  else (
    some 0)
def m_internal_stringslite_IndexByte (p0 : ByteArray) (p1 : Int) : Option (Int) :=
  some (ixb p0 p1)
def m_strings_IndexByte (p0 : ByteArray) (p1 : Int) : Option (Int) :=
  bd (m_internal_stringslite_IndexByte p0 p1) fun x1 =>
  some x1
def m_digits_value (p0 : Int) (p1 : Int) : Option (Int × Bool) :=
  bd (m_strings_IndexByte (bs [48, 49, 50, 51, 52, 53, 54, 55, 56, 57, 97, 98, 99, 100, 101, 102, 103, 104, 105, 106, 107, 108, 109, 110, 111, 112, 113, 114, 115, 116, 117, 118, 119, 120, 121, 122]) (wu8 p0)) fun x1 =>
  if decide (p0 < 128) then (
    if decide (0 ≤ x1) then (
      some (wu64 (max x1 0), decide (x1 < p1)))
    else (
      some (wu64 (max x1 0), false)))
  else (
    some (wu64 (max x1 0), false))
def m_limb_Add (p0 : Int) (p1 : Int) (p2 : Int) : Option (Int × Int) :=
  lt (wu64 ((wu64 ((Go.bits .and .u64 p0 4294967295) + (Go.bits .and .u64 p1 4294967295))) + (Go.bits .and .u64 p2 4294967295))) fun x1 =>
  bd (sr .u64 x1 32) fun x3 =>
  some (Go.bits .and .u64 x1 4294967295, x3)
def m_limb_Mul (p0 : Int) (p1 : Int) (p2 : Int) (p3 : Int) : Option (Int × Int) :=
  lt (wu64 ((wu64 ((wu64 ((Go.bits .and .u64 p0 4294967295) * (Go.bits .and .u64 p1 4294967295))) + (Go.bits .and .u64 p2 4294967295))) + (Go.bits .and .u64 p3 4294967295))) fun x1 =>
  bd (sr .u64 x1 32) fun x3 =>
  some (Go.bits .and .u64 x1 4294967295, x3)
def m_nat_trim_l1 (p0 : (List Int)) : Int → Option ((Int) ⊕ (Int))
  | v2 =>
    bd (
      if decide (0 < v2) then (
        bd (rd p0 (wi64 (v2 - 1))) fun x5 =>
        some (decide (x5 = 0)))
      else (
        some false)) fun v3 =>
    if v3 then (
      some (.inl (wi64 (v2 - 1))))
    else (
      some (.inr v2))
def m_nat_trim (p0 : (List Int)) : Option ((List Int)) :=
  bd (lp (m_nat_trim_l1 p0) (p0.length : Int)) fun v1 =>
  bd (ct p0 0 v1) fun x8 =>
  some x8
def m_nat_Make_l1 (p0 : (List Int)) : (Int × (List Int)) → Option ((Int × (List Int)) ⊕ ((List Int) × Int))
  | (v3, v4) =>
    if decide (v3 < (p0.length : Int)) then (
      bd (rd p0 v3) fun x6 =>
      if decide (4294967296 ≤ x6) then (
        some (.inr ([], 2)))
      else (
        bd (ap 8 v4 [x6]) fun x9 =>
        some (.inl (wi64 (v3 + 1), x9))))
    else (
      bd (m_nat_trim v4) fun x11 =>
      some (.inr (x11, 0)))
def m_nat_Make (p0 : (List Int)) : Option ((List Int) × Int) :=
  bd (mk 8 0 0 (p0.length : Int)) fun x1 =>
  lp (m_nat_Make_l1 p0) (0, x1)
def m_mul_made (p0 : (List Int)) : Option ((List Int)) :=
  bd (m_nat_Make p0) fun x1 =>
  some x1.1
def m_mul_Small_l1 (p0 : (List Int)) (p1 : Int) : (Int × Int × (List Int)) → Option ((Int × Int × (List Int)) ⊕ (Int × (List Int)))
  | (v7, v8, v9) =>
    if decide (v8 < (p0.length : Int)) then (
      bd (rd p0 v8) fun x11 =>
      bd (m_limb_Mul x11 p1 v7 0) fun x13 =>
      bd (ix v9 v8) fun j15 =>
      lt (v9.set j15 x13.1) fun x17 =>
      some (.inl (x13.2, wi64 (v8 + 1), x17)))
    else (
      some (.inr (v7, v9)))
def m_mul_Small (p0 : (List Int)) (p1 : Int) (p2 : Int) : Option ((List Int)) :=
  bd (mk 8 0 (wi64 ((p0.length : Int) + 1)) (wi64 ((p0.length : Int) + 1))) fun x1 =>
  bd (m_limb_Add p2 0 0) fun x3 =>
  bd (lp (m_mul_Small_l1 p0 p1) (x3.1, 0, x1)) fun (v5, v6) =>
  bd (ix v6 (p0.length : Int)) fun j19 =>
  lt (v6.set j19 v5) fun x21 =>
  bd (m_mul_made x21) fun x23 =>
  some x23
def m_digits_From_l1 (p0 : ByteArray) (p1 : Int) : ((List Int) × Int × Int × Nat) → Option (((List Int) × Int × Int × Nat) ⊕ ((List Int) × Int))
  | (v5, v6, v7, v8) =>
    if decide (v8 < p0.size) then (
      bd (m_digits_value (dc1 p0 v8) p1) fun x10 =>
      if !x10.2 then (
        some (.inr ([], 5)))
      else (
        bd (
          if decide (4294967296 ≤ (wu64 (v6 * (wu64 p1)))) then (
            bd (m_mul_Small v5 v6 v7) fun x18 =>
            some (x18, 1, 0, dcn p0 v8))
          else (
            some (v5, v6, v7, dcn p0 v8))) fun (v13, v14, v15, v16) =>
        lt (wu64 ((wu64 (v15 * (wu64 p1))) + x10.1)) fun x20 =>
        some (.inl (v13, wu64 (v14 * (wu64 p1)), x20, v16))))
    else (
      bd (m_mul_Small v5 v6 v7) fun x22 =>
      some (.inr (x22, 0)))
def m_digits_From (p0 : ByteArray) (p1 : Int) : Option ((List Int) × Int) :=
  bd (m_digits_based p1) fun x1 =>
  if !decide (x1 = 0) then (
    some ([], x1))
  else (
    if sq p0 (bs []) then (
      some ([], 5))
    else (
      lp (m_digits_From_l1 p0 p1) ([], 1, 0, 0)))
def m_digits_Parse (p0 : ByteArray) : Option ((List Int) × Int) :=
  bd (m_digits_From p0 10) fun x1 =>
  some (x1.1, x1.2)
def m_ratio_pair (p0 : ByteArray) (p1 : ByteArray) : Option ((List Int) × (List Int) × Int) :=
  bd (m_digits_Parse p0) fun x1 =>
  if !decide (x1.2 = 0) then (
    some ([], [], x1.2))
  else (
    bd (m_digits_Parse p1) fun x4 =>
    some (x1.1, x4.1, x4.2))
def m_nat_Of (p0 : Int) : Option ((List Int)) :=
  bd (rm .u64 p0 4294967296) fun x1 =>
  bd (sr .u64 p0 32) fun x3 =>
  bd (m_nat_trim [x1, x3]) fun x5 =>
  some x5
def m_mul_Long_l2 (p1 : (List Int)) (v4 : Int) (x8 : Int) : (Int × Int × (List Int)) → Option ((Int × Int × (List Int)) ⊕ (Int × (List Int)))
  | (v12, v13, v14) =>
    if decide (v13 < (p1.length : Int)) then (
      bd (rd p1 v13) fun x16 =>
      bd (rd v14 (wi64 (v4 + v13))) fun x18 =>
      bd (m_limb_Mul x8 x16 x18 v12) fun x20 =>
      bd (ix v14 (wi64 (v4 + v13))) fun j22 =>
      lt (v14.set j22 x20.1) fun x24 =>
      some (.inl (x20.2, wi64 (v13 + 1), x24)))
    else (
      some (.inr (v12, v14)))
def m_mul_Long_l1 (p0 : (List Int)) (p1 : (List Int)) : (Int × (List Int)) → Option ((Int × (List Int)) ⊕ ((List Int)))
  | (v4, v5) =>
    if decide (v4 < (p0.length : Int)) then (
      bd (
        bd (rd p0 v4) fun x8 =>
        bd (lp (m_mul_Long_l2 p1 v4 x8) (0, 0, v5)) fun (v10, v11) =>
        bd (ix v11 (wi64 (v4 + (p1.length : Int)))) fun j26 =>
        lt (v11.set j26 v10) fun x28 =>
        some x28) fun v7 =>
      some (.inl (wi64 (v4 + 1), v7)))
    else (
      some (.inr v5))
def m_mul_Long (p0 : (List Int)) (p1 : (List Int)) : Option ((List Int)) :=
  bd (mk 8 0 (wi64 ((p0.length : Int) + (p1.length : Int))) (wi64 ((p0.length : Int) + (p1.length : Int)))) fun x1 =>
  bd (lp (m_mul_Long_l1 p0 p1) (0, x1)) fun v3 =>
  bd (m_mul_made v3) fun x30 =>
  some x30
def m_mul_cut (p0 : (List Int)) (p1 : Int) : Option ((List Int) × (List Int)) :=
  bd (ct p0 0 (min p1 (p0.length : Int))) fun x1 =>
  bd (m_mul_made x1) fun x3 =>
  bd (ct p0 (min p1 (p0.length : Int)) p0.length) fun x5 =>
  bd (m_mul_made x5) fun x7 =>
  some (x3, x7)
def m_nat_at (p0 : (List Int)) (p1 : Int) : Option (Int) :=
  if decide ((p0.length : Int) ≤ p1) then (
    some 0)
  else (
    bd (rd p0 p1) fun x2 =>
    some x2)
def m_nat_Add_l1 (p0 : (List Int)) (p1 : (List Int)) (x1 : Int) : (Int × Int × (List Int)) → Option ((Int × Int × (List Int)) ⊕ (Int × (List Int)))
  | (v7, v8, v9) =>
    if decide (v8 < x1) then (
      bd (m_nat_at p0 v8) fun x11 =>
      bd (m_nat_at p1 v8) fun x13 =>
      bd (m_limb_Add x11 x13 v7) fun x15 =>
      bd (ix v9 v8) fun j17 =>
      lt (v9.set j17 x15.1) fun x19 =>
      some (.inl (x15.2, wi64 (v8 + 1), x19)))
    else (
      some (.inr (v7, v9)))
def m_nat_Add (p0 : (List Int)) (p1 : (List Int)) : Option ((List Int)) :=
  lt (max (p0.length : Int) (p1.length : Int)) fun x1 =>
  bd (mk 8 0 (wi64 (x1 + 1)) (wi64 (x1 + 1))) fun x3 =>
  bd (lp (m_nat_Add_l1 p0 p1 x1) (0, 0, x3)) fun (v5, v6) =>
  bd (ix v6 x1) fun j21 =>
  lt (v6.set j21 v5) fun x23 =>
  bd (m_nat_trim x23) fun x25 =>
  some x25
def m_nat_Cmp_l1 (p0 : (List Int)) (p1 : (List Int)) : Int → Option ((Int) ⊕ (Int))
  | v7 =>
    if decide (0 ≤ v7) then (
      bd (rd p0 v7) fun x9 =>
      bd (rd p1 v7) fun x11 =>
      if decide (x9 < x11) then (
        some (.inr (-1)))
      else (
        bd (rd p0 v7) fun x14 =>
        bd (rd p1 v7) fun x16 =>
        if decide (x16 < x14) then (
          some (.inr 1))
        else (
          some (.inl (wi64 (v7 - 1))))))
    else (
      some (.inr 0))
def m_nat_Cmp (p0 : (List Int)) (p1 : (List Int)) : Option (Int) :=
  lt (decide ((p0.length : Int) < (p1.length : Int))) fun x1 =>
  if x1 then (
    some (-1))
  else (
    lt (decide ((p1.length : Int) < (p0.length : Int))) fun x4 =>
    if x4 then (
      some 1)
    else (
      lp (m_nat_Cmp_l1 p0 p1) (wi64 ((p0.length : Int) - 1))))
def m_limb_Sub (p0 : Int) (p1 : Int) (p2 : Int) : Option (Int × Int) :=
  lt (wu64 ((Go.bits .and .u64 p1 4294967295) + (Go.bits .and .u64 p2 4294967295))) fun x1 =>
  bd (
    if decide ((Go.bits .and .u64 p0 4294967295) < x1) then (
      bd (sr .u64 (wu64 ((wu64 (x1 - (Go.bits .and .u64 p0 4294967295))) + 4294967295)) 32) fun x5 =>
      some x5)
    else (
      some 0)) fun v3 =>
  bd (sh .u64 v3 32) fun x7 =>
  lt (wu64 ((wu64 ((Go.bits .and .u64 p0 4294967295) + x7)) - x1)) fun x9 =>
  some (x9, v3)
def m_nat_Sub_l1 (p0 : (List Int)) (p1 : (List Int)) (x4 : (List Int)) : (Int × Int × (List Int)) → Option ((Int × Int × (List Int)) ⊕ ((List Int)))
  | (v7, v8, v9) =>
    if decide (v8 < (x4.length : Int)) then (
      bd (rd p0 v8) fun x11 =>
      bd (m_nat_at p1 v8) fun x13 =>
      bd (m_limb_Sub x11 x13 v7) fun x15 =>
      bd (ix v9 v8) fun j17 =>
      lt (v9.set j17 x15.1) fun x19 =>
      some (.inl (x15.2, wi64 (v8 + 1), x19)))
    else (
      some (.inr v9))
def m_nat_Sub (p0 : (List Int)) (p1 : (List Int)) : Option ((List Int) × Int) :=
  bd (m_nat_Cmp p0 p1) fun x1 =>
  if decide (x1 < 0) then (
    some ([], 6))
  else (
    bd (mk 8 0 (p0.length : Int) (p0.length : Int)) fun x4 =>
    bd (lp (m_nat_Sub_l1 p0 p1 x4) (0, 0, x4)) fun v6 =>
    bd (m_nat_trim v6) fun x21 =>
    some (x21, 0))
def m_mul_up (p0 : (List Int)) (p1 : Int) : Option ((List Int)) :=
  bd (mk 8 0 (wi64 (p1 + (p0.length : Int))) (wi64 (p1 + (p0.length : Int)))) fun x1 =>
  bd (sfx x1 p1) fun j3 =>
  bd (cpy x1 j3 p0) fun x5 =>
  bd (m_mul_made x5) fun x7 =>
  some x7
def m_nat_Sum_l1 (p0 : (List (List Int))) : ((List Int) × Int) → Option (((List Int) × Int) ⊕ ((List Int)))
  | (v2, v3) =>
    if decide (v3 < (p0.length : Int)) then (
      bd (rd p0 v3) fun x5 =>
      bd (m_nat_Add v2 x5) fun x7 =>
      some (.inl (x7, wi64 (v3 + 1))))
    else (
      some (.inr v2))
def m_nat_Sum (p0 : (List (List Int))) : Option ((List Int)) :=
  bd (lp (m_nat_Sum_l1 p0) ([], 0)) fun v1 =>
  some v1
def m_mul_Short_b (rec_ : ((List Int) → (List Int) → Option ((List Int)))) (p0 : (List Int)) (p1 : (List Int)) : Option ((List Int)) :=
  if decide ((min (p0.length : Int) (p1.length : Int)) < 4) then (
    bd (m_mul_Long p0 p1) fun x2 =>
    some x2)
  else (
    bd (qd .i64 (wi64 ((max (p0.length : Int) (p1.length : Int)) + 1)) 2) fun x4 =>
    bd (m_mul_cut p0 x4) fun x6 =>
    bd (m_mul_cut p1 x4) fun x8 =>
    bd (rec_ x6.1 x8.1) fun x10 =>
    bd (rec_ x6.2 x8.2) fun x12 =>
    bd (m_nat_Add x6.1 x6.2) fun x14 =>
    bd (m_nat_Add x8.1 x8.2) fun x16 =>
    bd (rec_ x14 x16) fun x18 =>
    bd (m_nat_Sub x18 x10) fun x20 =>
    bd (m_nat_Sub x20.1 x12) fun x22 =>
    bd (m_mul_up x22.1 x4) fun x24 =>
    bd (m_mul_up x12 (wi64 (2 * x4))) fun x26 =>
    bd (m_nat_Sum [x10, x24, x26]) fun x28 =>
    some x28)
def m_mul_Short_r : Nat → (List Int) → (List Int) → Option ((List Int))
  | 0 => fun p0 p1 => none
  | n + 1 => fun p0 p1 => m_mul_Short_b (m_mul_Short_r n) p0 p1
def m_mul_Short (p0 : (List Int)) (p1 : (List Int)) : Option ((List Int)) := m_mul_Short_r 1000000 p0 p1
def m_mul_Mul (p0 : (List Int)) (p1 : (List Int)) : Option ((List Int)) :=
  bd (m_mul_Short p0 p1) fun x1 =>
  some x1
def m_mul_Square (p0 : (List Int)) : Option ((List Int)) :=
  bd (m_mul_Mul p0 p0) fun x1 =>
  some x1
def m_mul_Pow_l1  : (Int × (List Int) × (List Int)) → Option ((Int × (List Int) × (List Int)) ⊕ ((List Int)))
  | (v7, v8, v9) =>
    if decide (0 < v7) then (
      bd (
        bd (
          bd (rm .i64 v7 2) fun x14 =>
          if decide (x14 = 1) then (
            bd (m_mul_Mul v8 v9) fun x17 =>
            some x17)
          else (
            some v8)) fun v13 =>
        if decide (1 < v7) then (
          bd (m_mul_Square v9) fun x20 =>
          some (v13, x20))
        else (
          some (v13, v9))) fun (v11, v12) =>
      bd (qd .i64 v7 2) fun x22 =>
      some (.inl (x22, v11, v12)))
    else (
      some (.inr v8))
def m_mul_Pow (p0 : (List Int)) (p1 : Int) : Option ((List Int) × Int) :=
  bd (
    if decide (p1 < 0) then (
      some true)
    else (
      some (decide (10000 < p1)))) fun v1 =>
  if v1 then (
    some ([], 2))
  else (
    bd (m_nat_Of 1) fun x4 =>
    bd (lp (m_mul_Pow_l1) (p1, x4, p0)) fun v6 =>
    some (v6, 0))
def m_ratio_parts (p0 : ByteArray) : Option ((List Int) × (List Int) × Int) :=
  bd (m_strings_Cut p0 (bs [47])) fun x1 =>
  bd (
    if x1.2.2 then (
      bd (m_strings_Contains x1.1 (bs [46])) fun x5 =>
      some (!x5))
    else (
      some false)) fun v3 =>
  if v3 then (
    bd (m_ratio_pair x1.1 x1.2.1) fun x8 =>
    some (x8.1, x8.2.1, x8.2.2))
  else (
    bd (m_strings_Cut p0 (bs [46])) fun x10 =>
    bd (m_digits_Parse x10.1) fun x12 =>
    bd (
      if !decide (x12.2 = 0) then (
        some true)
      else (
        some (!x10.2.2))) fun v14 =>
    if v14 then (
      bd (m_nat_Of 1) fun x17 =>
      some (x12.1, x17, x12.2))
    else (
      bd (m_digits_Parse x10.2.1) fun x19 =>
      if !decide (x19.2 = 0) then (
        some ([], [], x19.2))
      else (
        bd (m_nat_Of 10) fun x22 =>
        bd (m_mul_Pow x22 (x10.2.1.size : Int)) fun x24 =>
        bd (m_mul_Mul x12.1 x24.1) fun x26 =>
        bd (m_nat_Add x26 x19.1) fun x28 =>
        some (x28, x24.1, x19.2))))
def m_whole_Made (p0 : Bool) (p1 : (List Int)) : Option (D_api_Int) :=
  bd (m_nat_Make p1) fun x1 =>
  if p0 then (
    some (decide (0 < (x1.1.length : Int)), x1.1))
  else (
    some (false, x1.1))
def m_whole_Sign (p0 : D_api_Int) : Option (Int) :=
  if decide ((p0.2.length : Int) = 0) then (
    some 0)
  else (
    if p0.1 then (
      some (-1))
    else (
      some 1))
def m_nat_May_l1 (p0 : (List Int)) : Int → Option ((Int) ⊕ (Bool))
  | v1 =>
    if decide (v1 < (p0.length : Int)) then (
      bd (rd p0 v1) fun x3 =>
      if decide (4294967296 ≤ x3) then (
        some (.inr false))
      else (
        some (.inl (wi64 (v1 + 1)))))
    else (
      if decide ((p0.length : Int) = 0) then (
        some (.inr true))
      else (
        bd (rd p0 (wi64 ((p0.length : Int) - 1))) fun x7 =>
        some (.inr (!decide (x7 = 0)))))
def m_nat_May (p0 : (List Int)) : Option (Bool) :=
  lp (m_nat_May_l1 p0) 0
def m_limb_Div (p0 : Int) (p1 : Int) (p2 : Int) : Option (Int × Int × Int) :=
  lt (decide ((Go.bits .and .u64 p2 4294967295) = 0)) fun x1 =>
  if x1 then (
    some (0, 0, 3))
  else (
    lt (decide ((Go.bits .and .u64 p2 4294967295) ≤ (Go.bits .and .u64 p0 4294967295))) fun x4 =>
    if x4 then (
      some (0, 0, 2))
    else (
      bd (sh .u64 (Go.bits .and .u64 p0 4294967295) 32) fun x7 =>
      lt (Go.bits .or .u64 x7 (Go.bits .and .u64 p1 4294967295)) fun x9 =>
      bd (qd .u64 x9 (Go.bits .and .u64 p2 4294967295)) fun x11 =>
      bd (rm .u64 x9 (Go.bits .and .u64 p2 4294967295)) fun x13 =>
      some (x11, x13, 0)))
def m_divide_Small_l1 (p0 : (List Int)) (p1 : Int) : (Int × Int × (List Int)) → Option ((Int × Int × (List Int)) ⊕ (Int × (List Int)))
  | (v8, v9, v10) =>
    if decide (v9 < (p0.length : Int)) then (
      lt (wi64 ((wi64 ((p0.length : Int) - 1)) - v9)) fun x12 =>
      bd (rd p0 x12) fun x14 =>
      bd (m_limb_Div v8 x14 p1) fun x16 =>
      bd (ix v10 x12) fun j18 =>
      lt (v10.set j18 x16.1) fun x20 =>
      some (.inl (x16.2.1, wi64 (v9 + 1), x20)))
    else (
      some (.inr (v8, v10)))
def m_divide_Small (p0 : (List Int)) (p1 : Int) : Option ((List Int) × Int × Int) :=
  bd (rm .u64 p1 4294967296) fun x1 =>
  if decide (x1 = 0) then (
    some ([], 0, 3))
  else (
    bd (mk 8 0 (p0.length : Int) (p0.length : Int)) fun x4 =>
    bd (lp (m_divide_Small_l1 p0 p1) (0, 0, x4)) fun (v6, v7) =>
    bd (m_nat_Make v7) fun x22 =>
    some (x22.1, v6, 0))
def m_limb_Bits_l1 (p0 : Int) : (Int × Int) → Option ((Int × Int) ⊕ (Int))
  | (v2, v3) =>
    if decide (v3 < 32) then (
      bd (
        bd (sr .u64 p0 v3) fun x6 =>
        if decide ((Go.bits .and .u64 x6 1) = 1) then (
          some (wi64 (v3 + 1)))
        else (
          some v2)) fun v5 =>
      some (.inl (v5, wi64 (v3 + 1))))
    else (
      some (.inr v2))
def m_limb_Bits (p0 : Int) : Option (Int) :=
  bd (lp (m_limb_Bits_l1 p0) (0, 0)) fun v1 =>
  some v1
def m_nat_shift (p0 : Int) : Option (Int) :=
  bd (
    if decide (p0 < 0) then (
      some true)
    else (
      some (decide (100000 < p0)))) fun v1 =>
  if v1 then (
    some 2)
  else (
    some 0)
def m_nat_Shl_l1 (p0 : (List Int)) (p1 : Int) : (Int × (List Int)) → Option ((Int × (List Int)) ⊕ ((List Int)))
  | (v11, v12) =>
    if decide (v11 < (p0.length : Int)) then (
      bd (rd p0 v11) fun x14 =>
      bd (qd .i64 p1 32) fun x16 =>
      bd (rm .i64 p1 32) fun x18 =>
      bd (sh .u64 x14 x18) fun x20 =>
      bd (rd v12 (wi64 (v11 + x16))) fun x22 =>
      bd (rm .u64 x20 4294967296) fun x24 =>
      bd (ix v12 (wi64 (v11 + x16))) fun j26 =>
      lt (v12.set j26 (Go.bits .or .u64 x22 x24)) fun x28 =>
      bd (sr .u64 x20 32) fun x30 =>
      bd (ix x28 (wi64 ((wi64 (v11 + x16)) + 1))) fun j32 =>
      lt (x28.set j32 x30) fun x34 =>
      some (.inl (wi64 (v11 + 1), x34)))
    else (
      some (.inr v12))
def m_nat_Shl (p0 : (List Int)) (p1 : Int) : Option ((List Int) × Int) :=
  bd (m_nat_shift p1) fun x1 =>
  bd (
    if !decide (x1 = 0) then (
      some true)
    else (
      some (decide ((p0.length : Int) = 0)))) fun v3 =>
  if v3 then (
    some ([], x1))
  else (
    bd (qd .i64 p1 32) fun x6 =>
    bd (mk 8 0 (wi64 ((wi64 ((p0.length : Int) + x6)) + 1)) (wi64 ((wi64 ((p0.length : Int) + x6)) + 1))) fun x8 =>
    bd (lp (m_nat_Shl_l1 p0 p1) (0, x8)) fun v10 =>
    bd (m_nat_trim v10) fun x36 =>
    some (x36, 0))
def m_divide_guess_l1 (p0 : (List Int)) (p1 : Int) (p2 : (List Int)) : (Int × Int) → Option ((Int × Int) ⊕ (Int))
  | (v16, v17) =>
    bd (
      if decide (4294967296 ≤ v16) then (
        some true)
      else (
        bd (rd p2 (wi64 ((p2.length : Int) - 2))) fun x20 =>
        bd (sh .u64 v17 32) fun x22 =>
        bd (rd p0 (wi64 ((wi64 (p1 + (p2.length : Int))) - 2))) fun x24 =>
        some (decide ((Go.bits .or .u64 x22 x24) < (wu64 (v16 * x20)))))) fun v18 =>
    if v18 then (
      bd (rd p2 (wi64 ((p2.length : Int) - 1))) fun x27 =>
      if decide (4294967296 ≤ (wu64 (v17 + x27))) then (
        some (.inr (wu64 (v16 - 1))))
      else (
        some (.inl (wu64 (v16 - 1), wu64 (v17 + x27)))))
    else (
      some (.inr v16))
def m_divide_guess (p0 : (List Int)) (p1 : Int) (p2 : (List Int)) : Option (Int) :=
  bd (rd p0 (wi64 (p1 + (p2.length : Int)))) fun x1 =>
  bd (sh .u64 x1 32) fun x3 =>
  bd (rd p0 (wi64 ((wi64 (p1 + (p2.length : Int))) - 1))) fun x5 =>
  bd (rd p2 (wi64 ((p2.length : Int) - 1))) fun x7 =>
  bd (qd .u64 (Go.bits .or .u64 x3 x5) x7) fun x9 =>
  bd (rd p2 (wi64 ((p2.length : Int) - 1))) fun x11 =>
  bd (rm .u64 (Go.bits .or .u64 x3 x5) x11) fun x13 =>
  bd (lp (m_divide_guess_l1 p0 p1 p2) (x9, x13)) fun v15 =>
  some v15
def m_divide_at (p0 : (List Int)) (p1 : Int) : Option (Int) :=
  if decide ((p0.length : Int) ≤ p1) then (
    some 0)
  else (
    bd (rd p0 p1) fun x2 =>
    some x2)
def m_divide_take_M_l1 (p1 : Int) (p2 : (List Int)) (p3 : Int) : (Int × Int × Int × (List Int)) → Option ((Int × Int × Int × (List Int)) ⊕ (Int × (List Int)))
  | (v3, v4, v5, v6) =>
    if decide (v5 < (wi64 ((p2.length : Int) + 1))) then (
      bd (m_divide_at p2 v5) fun x8 =>
      bd (m_limb_Mul p3 x8 v3 0) fun x10 =>
      bd (rd v6 (wi64 (p1 + v5))) fun x12 =>
      bd (m_limb_Sub x12 x10.1 v4) fun x14 =>
      bd (ix v6 (wi64 (p1 + v5))) fun j16 =>
      lt (v6.set j16 x14.1) fun x18 =>
      some (.inl (x10.2, x14.2, wi64 (v5 + 1), x18)))
    else (
      some (.inr (v4, v6)))
def m_divide_take_M (p1 : Int) (p2 : (List Int)) (p3 : Int) (o1 : (List Int)) : Option (Bool × (List Int)) :=
  bd (lp (m_divide_take_M_l1 p1 p2 p3) (0, 0, 0, o1)) fun (v1, v2) =>
  bd (eln o1 v2) fun _ =>
  some (decide (0 < v1), v2)
def m_divide_give_M_l1 (p1 : Int) (p2 : (List Int)) (o1 : (List Int)) : (Int × Int × (List Int)) → Option ((Int × Int × (List Int)) ⊕ ((List Int)))
  | (v1, v2, v3) =>
    if decide (v2 < (wi64 ((p2.length : Int) + 1))) then (
      bd (rd v3 (wi64 (p1 + v2))) fun x5 =>
      bd (m_divide_at p2 v2) fun x7 =>
      bd (m_limb_Add x5 x7 v1) fun x9 =>
      bd (ix v3 (wi64 (p1 + v2))) fun j11 =>
      lt (v3.set j11 x9.1) fun x13 =>
      some (.inl (x9.2, wi64 (v2 + 1), x13)))
    else (
      bd (eln o1 v3) fun _ =>
      some (.inr v3))
def m_divide_give_M (p1 : Int) (p2 : (List Int)) (o1 : (List Int)) : Option ((List Int)) :=
  lp (m_divide_give_M_l1 p1 p2 o1) (0, 0, o1)
def m_nat_Shr_l1 (p0 : (List Int)) (p1 : Int) (x10 : (List Int)) : (Int × (List Int)) → Option ((Int × (List Int)) ⊕ ((List Int)))
  | (v13, v14) =>
    if decide (v13 < (x10.length : Int)) then (
      bd (qd .i64 p1 32) fun x16 =>
      bd (rd p0 (wi64 (v13 + x16))) fun x18 =>
      bd (m_nat_at p0 (wi64 ((wi64 (v13 + x16)) + 1))) fun x20 =>
      bd (sh .u64 x20 32) fun x22 =>
      bd (rm .i64 p1 32) fun x24 =>
      bd (sr .u64 (Go.bits .or .u64 x18 x22) x24) fun x26 =>
      bd (rm .u64 x26 4294967296) fun x28 =>
      bd (ix v14 v13) fun j30 =>
      lt (v14.set j30 x28) fun x32 =>
      some (.inl (wi64 (v13 + 1), x32)))
    else (
      some (.inr v14))
def m_nat_Shr (p0 : (List Int)) (p1 : Int) : Option ((List Int) × Int) :=
  bd (m_nat_shift p1) fun x1 =>
  bd (
    if !decide (x1 = 0) then (
      some true)
    else (
      bd (qd .i64 p1 32) fun x5 =>
      some (decide ((p0.length : Int) ≤ x5)))) fun v3 =>
  if v3 then (
    some ([], x1))
  else (
    bd (qd .i64 p1 32) fun x8 =>
    bd (mk 8 0 (wi64 ((p0.length : Int) - x8)) (wi64 ((p0.length : Int) - x8))) fun x10 =>
    bd (lp (m_nat_Shr_l1 p0 p1 x10) (0, x10)) fun v12 =>
    bd (m_nat_trim v12) fun x34 =>
    some (x34, 0))
def m_divide_knuth_l1 (x5 : ((List Int) × Int)) : (Int × (List Int) × (List Int)) → Option ((Int × (List Int) × (List Int)) ⊕ ((List Int) × (List Int)))
  | (v19, v20, v21) =>
    if decide (0 ≤ v19) then (
      bd (
        bd (m_divide_guess v20 v19 x5.1) fun x25 =>
        bd (ix v21 v19) fun j27 =>
        lt (v21.set j27 x25) fun x29 =>
        bd (rd x29 v19) fun x31 =>
        bd (m_divide_take_M v19 x5.1 x31 v20) fun x34 =>
        if x34.1 then (
          bd (rd x29 v19) fun x36 =>
          bd (ix x29 v19) fun j38 =>
          lt (x29.set j38 (wu64 (x36 - 1))) fun x40 =>
          bd (m_divide_give_M v19 x5.1 x34.2) fun x43 =>
          some (x43, x40))
        else (
          some (x34.2, x29))) fun (v23, v24) =>
      some (.inl (wi64 (v19 - 1), v23, v24)))
    else (
      some (.inr (v20, v21)))
def m_divide_knuth (p0 : (List Int)) (p1 : (List Int)) : Option ((List Int) × (List Int)) :=
  bd (rd p1 (wi64 ((p1.length : Int) - 1))) fun x1 =>
  bd (m_limb_Bits x1) fun x3 =>
  bd (m_nat_Shl p1 (wi64 (32 - x3))) fun x5 =>
  bd (mk 8 0 (wi64 ((p0.length : Int) + 1)) (wi64 ((p0.length : Int) + 1))) fun x7 =>
  bd (m_nat_Shl p0 (wi64 (32 - x3))) fun x9 =>
  bd (cpy x7 0 x9.1) fun x11 =>
  bd (mk 8 0 (wi64 ((wi64 ((p0.length : Int) - (p1.length : Int))) + 1)) (wi64 ((wi64 ((p0.length : Int) - (p1.length : Int))) + 1))) fun x13 =>
  bd (
    lt (wi64 ((p0.length : Int) - (p1.length : Int))) fun x17 =>
    lp (m_divide_knuth_l1 x5) (x17, x11, x13)) fun (v15, v16) =>
  bd (m_nat_Make v16) fun x44 =>
  bd (m_nat_Make v15) fun x46 =>
  bd (m_nat_Shr x46.1 (wi64 (32 - x3))) fun x48 =>
  some (x44.1, x48.1)
def m_divide_Div (p0 : (List Int)) (p1 : (List Int)) : Option ((List Int) × (List Int) × Int) :=
  if decide ((p1.length : Int) = 0) then (
    some ([], [], 3))
  else (
    bd (
      bd (m_nat_May p0) fun x3 =>
      if !x3 then (
        some true)
      else (
        bd (m_nat_May p1) fun x6 =>
        some (!x6))) fun v2 =>
    if v2 then (
      some ([], [], 2))
    else (
      bd (m_nat_Cmp p0 p1) fun x9 =>
      if decide (x9 < 0) then (
        bd (m_nat_Make p0) fun x12 =>
        some ([], x12.1, x12.2))
      else (
        if decide ((p1.length : Int) = 1) then (
          bd (rd p1 0) fun x15 =>
          bd (m_divide_Small p0 x15) fun x17 =>
          bd (m_nat_Of x17.2.1) fun x19 =>
          some (x17.1, x19, x17.2.2))
        else (
          bd (m_divide_knuth p0 p1) fun x21 =>
          some (x21.1, x21.2, 0)))))
def m_divide_Mod (p0 : (List Int)) (p1 : (List Int)) : Option ((List Int) × Int) :=
  bd (m_divide_Div p0 p1) fun x1 =>
  some (x1.2.1, x1.2.2)
def m_gcd_Euclid_l1  : ((List Int) × (List Int)) → Option (((List Int) × (List Int)) ⊕ ((List Int)))
  | (v6, v7) =>
    if decide (0 < (v7.length : Int)) then (
      bd (m_divide_Mod v6 v7) fun x9 =>
      some (.inl (v7, x9.1)))
    else (
      some (.inr v6))
def m_gcd_Euclid (p0 : (List Int)) (p1 : (List Int)) : Option ((List Int)) :=
  bd (m_nat_Make p0) fun x1 =>
  bd (m_nat_Make p1) fun x3 =>
  bd (lp (m_gcd_Euclid_l1) (x1.1, x3.1)) fun v5 =>
  some v5
def m_divide_Exact (p0 : (List Int)) (p1 : (List Int)) : Option ((List Int) × Int) :=
  bd (m_divide_Div p0 p1) fun x1 =>
  if !decide (x1.2.2 = 0) then (
    some ([], x1.2.2))
  else (
    if decide (0 < (x1.2.1.length : Int)) then (
      some ([], 4))
    else (
      some (x1.1, x1.2.2)))
def m_rat_low (p0 : D_api_Int) (p1 : (List Int)) : Option (D_api_Rat) :=
  bd (m_gcd_Euclid p0.2 p1) fun x1 =>
  bd (m_divide_Exact p0.2 x1) fun x3 =>
  bd (m_divide_Exact p1 x1) fun x5 =>
  bd (m_whole_Made p0.1 x3.1) fun x7 =>
  some ((x7.1, x7.2), x5.1)
def m_rat_Make (p0 : D_api_Int) (p1 : D_api_Int) : Option (D_api_Rat × Int) :=
  bd (m_whole_Sign (p1.1, p1.2)) fun x1 =>
  if decide (x1 = 0) then (
    some (((false, []), []), 3))
  else (
    bd (m_whole_Made (!(p0.1 == p1.1)) p0.2) fun x4 =>
    bd (m_rat_low x4 p1.2) fun x6 =>
    some (((x6.1.1, x6.1.2), x6.2), 0))
def m_ratio_Parse (p0 : ByteArray) : Option (D_api_Rat × Int) :=
  bd (m_strings_CutSuffix p0 (bs [37])) fun x1 =>
  bd (m_ratio_parts x1.1) fun x3 =>
  if !decide (x3.2.2 = 0) then (
    some (((false, []), []), x3.2.2))
  else (
    bd (
      if x1.2 then (
        bd (m_mul_Small x3.2.1 100 0) fun x8 =>
        some x8)
      else (
        some x3.2.1)) fun v6 =>
    bd (m_whole_Made false x3.1) fun x10 =>
    bd (m_whole_Made false v6) fun x12 =>
    bd (m_rat_Make x10 x12) fun x14 =>
    some (((x14.1.1.1, x14.1.1.2), x14.1.2), x14.2))
def m_triviumref02_Trim_l1 (p0 : (List Int)) : Int → Option ((Int) ⊕ (Int))
  | v2 =>
    bd (
      if decide (0 < v2) then (
        bd (rd p0 (wi64 (v2 - 1))) fun x5 =>
        some (decide (x5 = 0)))
      else (
        some false)) fun v3 =>
    if v3 then (
      some (.inl (wi64 (v2 - 1))))
    else (
      some (.inr v2))
def m_triviumref02_Trim (p0 : (List Int)) : Option ((List Int)) :=
  bd (lp (m_triviumref02_Trim_l1 p0) (p0.length : Int)) fun v1 =>
  bd (ct p0 0 v1) fun x8 =>
  bd (ap 8 [] x8) fun x10 =>
  some x10
def m_triviumref02_MulAdd_l1 (p0 : (List Int)) (p1 : Int) : (Int × Int × (List Int)) → Option ((Int × Int × (List Int)) ⊕ (Int × (List Int)))
  | (v3, v4, v5) =>
    if decide (v4 < (p0.length : Int)) then (
      bd (rd p0 v4) fun x7 =>
      bd (rm .i64 (wi64 (v3 + (wi64 (x7 * p1)))) 10000) fun x9 =>
      bd (ap 8 v5 [x9]) fun x11 =>
      bd (qd .i64 (wi64 (v3 + (wi64 (x7 * p1)))) 10000) fun x13 =>
      some (.inl (x13, wi64 (v4 + 1), x11)))
    else (
      some (.inr (v3, v5)))
def m_triviumref02_MulAdd_l2  : (Int × (List Int)) → Option ((Int × (List Int)) ⊕ ((List Int)))
  | (v16, v17) =>
    if decide (0 < v16) then (
      bd (rm .i64 v16 10000) fun x19 =>
      bd (ap 8 v17 [x19]) fun x21 =>
      bd (qd .i64 v16 10000) fun x23 =>
      some (.inl (x23, x21)))
    else (
      some (.inr v17))
def m_triviumref02_MulAdd (p0 : (List Int)) (p1 : Int) (p2 : Int) : Option ((List Int)) :=
  bd (lp (m_triviumref02_MulAdd_l1 p0 p1) (p2, 0, [])) fun (v1, v2) =>
  bd (lp (m_triviumref02_MulAdd_l2) (v1, v2)) fun v15 =>
  bd (m_triviumref02_Trim v15) fun x25 =>
  some x25
def m_triviumref02_Num (p0 : Int) : Option ((List Int)) :=
  bd (m_triviumref02_MulAdd [] 1 p0) fun x1 =>
  some x1
def m_triviumref09_number_l1 (p0 : ByteArray) : ((List Int) × Int) → Option (((List Int) × Int) ⊕ ((List Int) × Bool))
  | (v1, v2) =>
    if decide (v2 < (p0.size : Int)) then (
      bd (
        bd (bt p0 v2) fun x5 =>
        if decide (x5 < 48) then (
          some true)
        else (
          bd (bt p0 v2) fun x8 =>
          some (decide (57 < x8)))) fun v4 =>
      if v4 then (
        some (.inr ([], false)))
      else (
        bd (bt p0 v2) fun x11 =>
        bd (m_triviumref02_MulAdd v1 10 (wi64 (wu8 (x11 - 48)))) fun x13 =>
        some (.inl (x13, wi64 (v2 + 1)))))
    else (
      some (.inr (v1, decide (0 < (p0.size : Int)))))
def m_triviumref09_number (p0 : ByteArray) : Option ((List Int) × Bool) :=
  lp (m_triviumref09_number_l1 p0) ([], 0)
def m_triviumref02_Cmp_l1 (p0 : (List Int)) (p1 : (List Int)) : Int → Option ((Int) ⊕ (Int))
  | v3 =>
    if decide (0 ≤ v3) then (
      bd (rd p0 v3) fun x5 =>
      bd (rd p1 v3) fun x7 =>
      if decide (x5 < x7) then (
        some (.inr (-1)))
      else (
        bd (rd p0 v3) fun x10 =>
        bd (rd p1 v3) fun x12 =>
        if decide (x12 < x10) then (
          some (.inr 1))
        else (
          some (.inl (wi64 (v3 - 1))))))
    else (
      some (.inr 0))
def m_triviumref02_Cmp (p0 : (List Int)) (p1 : (List Int)) : Option (Int) :=
  if !decide ((p0.length : Int) = (p1.length : Int)) then (
    if decide ((p0.length : Int) < (p1.length : Int)) then (
      some (-1))
    else (
      some 1))
  else (
    lp (m_triviumref02_Cmp_l1 p0 p1) (wi64 ((p0.length : Int) - 1)))
def m_triviumref02_Sub_l1 (p0 : (List Int)) (p1 : (List Int)) : (Int × Int × (List Int)) → Option ((Int × Int × (List Int)) ⊕ ((List Int)))
  | (v2, v3, v4) =>
    if decide (v3 < (p0.length : Int)) then (
      bd (rd p0 v3) fun x6 =>
      bd (
        if decide (v3 < (p1.length : Int)) then (
          bd (rd p1 v3) fun x10 =>
          some (wi64 ((wi64 (x6 - v2)) - x10)))
        else (
          some (wi64 (x6 - v2)))) fun v8 =>
      bd (
        if decide (v8 < 0) then (
          some (1, wi64 (v8 + 10000)))
        else (
          some (0, v8))) fun (v12, v13) =>
      bd (ap 8 v4 [v13]) fun x15 =>
      some (.inl (v12, wi64 (v3 + 1), x15)))
    else (
      some (.inr v4))
def m_triviumref02_Sub (p0 : (List Int)) (p1 : (List Int)) : Option ((List Int)) :=
  bd (lp (m_triviumref02_Sub_l1 p0 p1) (0, 0, [])) fun v1 =>
  bd (m_triviumref02_Trim v1) fun x17 =>
  some x17
def m_triviumref02_Div_l2 (p1 : (List Int)) (x15 : (List Int)) : (Int × Int) → Option ((Int × Int) ⊕ (Int))
  | (v18, v19) =>
    if decide (1 < (wi64 (v19 - v18))) then (
      bd (qd .i64 (wi64 (v18 + v19)) 2) fun x21 =>
      bd (m_triviumref02_MulAdd p1 x21 0) fun x23 =>
      bd (m_triviumref02_Cmp x23 x15) fun x25 =>
      if decide (x25 ≤ 0) then (
        some (.inl (x21, v19)))
      else (
        some (.inl (v18, x21))))
    else (
      some (.inr v18))
def m_triviumref02_Div_l1 (p0 : (List Int)) (p1 : (List Int)) : ((List Int) × Int × (List Int)) → Option (((List Int) × Int × (List Int)) ⊕ ((List Int) × (List Int)))
  | (v5, v6, v7) =>
    if decide (0 ≤ v6) then (
      bd (
        bd (rd p0 v6) fun x11 =>
        bd (ap 8 [x11] v5) fun x13 =>
        bd (m_triviumref02_Trim x13) fun x15 =>
        bd (lp (m_triviumref02_Div_l2 p1 x15) (0, 10000)) fun v17 =>
        bd (ix v7 v6) fun j28 =>
        lt (v7.set j28 v17) fun x30 =>
        bd (m_triviumref02_MulAdd p1 v17 0) fun x32 =>
        bd (m_triviumref02_Sub x15 x32) fun x34 =>
        some (x34, x30)) fun (v9, v10) =>
      some (.inl (v9, wi64 (v6 - 1), v10)))
    else (
      some (.inr (v5, v7)))
def m_triviumref02_Div (p0 : (List Int)) (p1 : (List Int)) : Option ((List Int) × (List Int)) :=
  bd (mk 8 0 (p0.length : Int) (p0.length : Int)) fun x1 =>
  bd (lp (m_triviumref02_Div_l1 p0 p1) ([], wi64 ((p0.length : Int) - 1), x1)) fun (v3, v4) =>
  bd (m_triviumref02_Trim v4) fun x36 =>
  some (x36, v3)
def m_triviumref02_Gcd_l1  : ((List Int) × (List Int)) → Option (((List Int) × (List Int)) ⊕ ((List Int)))
  | (v2, v3) =>
    if decide (0 < (v3.length : Int)) then (
      bd (m_triviumref02_Div v2 v3) fun x5 =>
      some (.inl (v3, x5.2)))
    else (
      some (.inr v2))
def m_triviumref02_Gcd (p0 : (List Int)) (p1 : (List Int)) : Option ((List Int)) :=
  bd (lp (m_triviumref02_Gcd_l1) (p0, p1)) fun v1 =>
  some v1
def m_triviumref08_Low (p0 : D_triviumref07_Z) (p1 : (List Int)) : Option (D_triviumref08_Q) :=
  bd (m_triviumref02_Gcd p0.2 p1) fun x1 =>
  bd (m_triviumref02_Div p0.2 x1) fun x3 =>
  bd (m_triviumref02_Div p1 x1) fun x5 =>
  if p0.1 then (
    some ((decide (0 < (x3.1.length : Int)), x3.1), x5.1))
  else (
    some ((false, x3.1), x5.1))
def m_triviumref02_Mul_l2 (p0 : (List Int)) (p1 : (List Int)) (v4 : Int) : (Int × Int × (List Int)) → Option ((Int × Int × (List Int)) ⊕ (Int × (List Int)))
  | (v10, v11, v12) =>
    if decide (v11 < (p1.length : Int)) then (
      bd (rd v12 (wi64 (v4 + v11))) fun x14 =>
      bd (rd p0 v4) fun x16 =>
      bd (rd p1 v11) fun x18 =>
      lt (wi64 ((wi64 (v10 + x14)) + (wi64 (x16 * x18)))) fun x20 =>
      bd (rm .i64 x20 10000) fun x22 =>
      bd (ix v12 (wi64 (v4 + v11))) fun j24 =>
      lt (v12.set j24 x22) fun x26 =>
      bd (qd .i64 x20 10000) fun x28 =>
      some (.inl (x28, wi64 (v11 + 1), x26)))
    else (
      some (.inr (v10, v12)))
def m_triviumref02_Mul_l3  : (Int × Int × (List Int)) → Option ((Int × Int × (List Int)) ⊕ ((List Int)))
  | (v30, v31, v32) =>
    if decide (0 < v30) then (
      bd (rd v32 v31) fun x34 =>
      bd (rm .i64 (wi64 (v30 + x34)) 10000) fun x36 =>
      bd (ix v32 v31) fun j38 =>
      lt (v32.set j38 x36) fun x40 =>
      bd (qd .i64 (wi64 (v30 + x34)) 10000) fun x42 =>
      some (.inl (x42, wi64 (v31 + 1), x40)))
    else (
      some (.inr v32))
def m_triviumref02_Mul_l1 (p0 : (List Int)) (p1 : (List Int)) : (Int × (List Int)) → Option ((Int × (List Int)) ⊕ ((List Int)))
  | (v4, v5) =>
    if decide (v4 < (p0.length : Int)) then (
      bd (
        bd (lp (m_triviumref02_Mul_l2 p0 p1 v4) (0, 0, v5)) fun (v8, v9) =>
        lp (m_triviumref02_Mul_l3) (v8, wi64 (v4 + (p1.length : Int)), v9)) fun v7 =>
      some (.inl (wi64 (v4 + 1), v7)))
    else (
      some (.inr v5))
def m_triviumref02_Mul (p0 : (List Int)) (p1 : (List Int)) : Option ((List Int)) :=
  bd (mk 8 0 (wi64 ((wi64 ((p0.length : Int) + (p1.length : Int))) + 1)) (wi64 ((wi64 ((p0.length : Int) + (p1.length : Int))) + 1))) fun x1 =>
  bd (lp (m_triviumref02_Mul_l1 p0 p1) (0, x1)) fun v3 =>
  bd (m_triviumref02_Trim v3) fun x44 =>
  some x44
def m_triviumref09_ten_l1 (p0 : Int) : ((List Int) × Int) → Option (((List Int) × Int) ⊕ ((List Int)))
  | (v4, v5) =>
    if decide (v5 < p0) then (
      bd (m_triviumref02_MulAdd v4 10 0) fun x7 =>
      some (.inl (x7, wi64 (v5 + 1))))
    else (
      some (.inr v4))
def m_triviumref09_ten (p0 : Int) : Option ((List Int)) :=
  bd (m_triviumref02_Num 1) fun x1 =>
  bd (lp (m_triviumref09_ten_l1 p0) (x1, 0)) fun v3 =>
  some v3
def m_triviumref02_Add_l1 (p0 : (List Int)) (p1 : (List Int)) : (Int × Int × (List Int)) → Option ((Int × Int × (List Int)) ⊕ (Int × (List Int)))
  | (v3, v4, v5) =>
    if decide (v4 < (max (p0.length : Int) (p1.length : Int))) then (
      bd (
        if decide (v4 < (p0.length : Int)) then (
          bd (rd p0 v4) fun x9 =>
          some (wi64 (v3 + x9)))
        else (
          some v3)) fun v7 =>
      bd (
        if decide (v4 < (p1.length : Int)) then (
          bd (rd p1 v4) fun x13 =>
          some (wi64 (v7 + x13)))
        else (
          some v7)) fun v11 =>
      bd (rm .i64 v11 10000) fun x15 =>
      bd (ap 8 v5 [x15]) fun x17 =>
      bd (qd .i64 v11 10000) fun x19 =>
      some (.inl (x19, wi64 (v4 + 1), x17)))
    else (
      some (.inr (v3, v5)))
def m_triviumref02_Add (p0 : (List Int)) (p1 : (List Int)) : Option ((List Int)) :=
  bd (lp (m_triviumref02_Add_l1 p0 p1) (0, 0, [])) fun (v1, v2) =>
  bd (ap 8 v2 [v1]) fun x21 =>
  bd (m_triviumref02_Trim x21) fun x23 =>
  some x23
def m_triviumref09_Parse_l1 (v3 : ByteArray) : (Int × Int) → Option ((Int × Int) ⊕ (Int))
  | (v15, v16) =>
    if decide (0 ≤ v16) then (
      bd (
        bd (
          bd (bt v3 v16) fun x20 =>
          if decide (x20 = 47) then (
            some true)
          else (
            bd (bt v3 v16) fun x23 =>
            some (decide (x23 = 46)))) fun v19 =>
        if v19 then (
          some v16)
        else (
          some v15)) fun v18 =>
      some (.inl (v18, wi64 (v16 - 1))))
    else (
      some (.inr v15))
def m_triviumref09_Parse (p0 : ByteArray) : Option (D_triviumref08_Q × Int) :=
  bd (m_triviumref02_Num 1) fun x1 =>
  bd (
    bd (
      if decide (0 < (p0.size : Int)) then (
        bd (bt p0 (wi64 ((p0.size : Int) - 1))) fun x7 =>
        some (decide (x7 = 37)))
      else (
        some false)) fun v5 =>
    if v5 then (
      bd (m_triviumref02_Num 100) fun x10 =>
      bd (cs p0 0 (wi64 ((p0.size : Int) - 1))) fun x12 =>
      some (x12, x10))
    else (
      some (p0, x1))) fun (v3, v4) =>
  bd (lp (m_triviumref09_Parse_l1 v3) ((v3.size : Int), wi64 ((v3.size : Int) - 1))) fun v14 =>
  bd (cs v3 0 v14) fun x26 =>
  bd (m_triviumref09_number x26) fun x28 =>
  if !x28.2 then (
    some (((false, []), []), 5))
  else (
    if decide (v14 = (v3.size : Int)) then (
      bd (m_triviumref08_Low (false, x28.1) v4) fun x32 =>
      some (((x32.1.1, x32.1.2), x32.2), 0))
    else (
      bd (cs v3 (wi64 (v14 + 1)) v3.size) fun x34 =>
      bd (m_triviumref09_number x34) fun x36 =>
      if !x36.2 then (
        some (((false, []), []), 5))
      else (
        bd (bt v3 v14) fun x39 =>
        if decide (x39 = 47) then (
          if decide ((x36.1.length : Int) = 0) then (
            some (((false, []), []), 3))
          else (
            bd (m_triviumref02_Mul x36.1 v4) fun x43 =>
            bd (m_triviumref08_Low (false, x28.1) x43) fun x45 =>
            some (((x45.1.1, x45.1.2), x45.2), 0)))
        else (
          bd (m_triviumref09_ten (wi64 ((wi64 ((v3.size : Int) - v14)) - 1))) fun x47 =>
          bd (m_triviumref02_Mul x28.1 x47) fun x49 =>
          bd (m_triviumref02_Add x49 x36.1) fun x51 =>
          bd (m_triviumref02_Mul x47 v4) fun x53 =>
          bd (m_triviumref08_Low (false, x51) x53) fun x55 =>
          some (((x55.1.1, x55.1.2), x55.2), 0)))))
def m_ratio_places_1_M_l1 (p0 : Int) : (Int × (List Int)) → Option ((Int × (List Int)) ⊕ (Int × (List Int)))
  | (v1, v2) =>
    bd (m_divide_Small v2 p0) fun x3 =>
    bd (
      if !decide (x3.2.2 = 0) then (
        some true)
      else (
        if !decide (x3.2.1 = 0) then (
          some true)
        else (
          some (decide ((v2.length : Int) = 0))))) fun v5 =>
    if v5 then (
      some (.inr (v1, v2)))
    else (
      some (.inl (wi64 (v1 + 1), x3.1)))
def m_ratio_places_1_M (p0 : Int) (o1_0 : (List Int)) : Option (Int × (List Int)) :=
  lp (m_ratio_places_1_M_l1 p0) (0, o1_0)
def m_ratio_places (p0 : (List Int)) : Option (Int × Bool) :=
  bd (m_ratio_places_1_M 2 p0) fun x2 =>
  bd (m_ratio_places_1_M 5 x2.2) fun x4 =>
  bd (m_nat_Of 1) fun x5 =>
  bd (m_nat_Cmp x4.2 x5) fun x7 =>
  some (max x2.1 x4.1, decide (x7 = 0))
def m_digits_chunk_l1 (p0 : Int) : (Int × Int) → Option ((Int × Int) ⊕ (Int × Int))
  | (v3, v4) =>
    if decide ((wu64 (v3 * (wu64 p0))) < 4294967296) then (
      some (.inl (wu64 (v3 * (wu64 p0)), wi64 (v4 + 1))))
    else (
      some (.inr (v3, v4)))
def m_digits_chunk (p0 : Int) : Option (Int × Int) :=
  bd (lp (m_digits_chunk_l1 p0) (wu64 p0, 1)) fun (v1, v2) =>
  some (v1, v2)
def m_digits_piece_l1 (p1 : Int) (p2 : Int) : (Int × Int × (List Int)) → Option ((Int × Int × (List Int)) ⊕ ((List Int)))
  | (v4, v5, v6) =>
    if decide (v5 < p2) then (
      bd (rm .u64 v4 (wu64 p1)) fun x8 =>
      bd (bt (bs [48, 49, 50, 51, 52, 53, 54, 55, 56, 57, 97, 98, 99, 100, 101, 102, 103, 104, 105, 106, 107, 108, 109, 110, 111, 112, 113, 114, 115, 116, 117, 118, 119, 120, 121, 122]) x8) fun x10 =>
      bd (ix v6 (wi64 ((wi64 (p2 - 1)) - v5))) fun j12 =>
      lt (v6.set j12 x10) fun x14 =>
      bd (qd .u64 v4 (wu64 p1)) fun x16 =>
      some (.inl (x16, wi64 (v5 + 1), x14)))
    else (
      some (.inr v6))
def m_digits_piece (p0 : Int) (p1 : Int) (p2 : Int) : Option (ByteArray) :=
  bd (mk 1 0 p2 p2) fun x1 =>
  bd (lp (m_digits_piece_l1 p1 p2) (p0, 0, x1)) fun v3 =>
  some (tx v3)
def m_strings_Builder_copyCheck_M (o1_0 : Bool) (o2 : (List Int)) : Option (Bool) :=
  if o1_0 then (
    some false)
  else (
    some o1_0)
def m_strings_Builder_WriteString_M (p1 : ByteArray) (o1_0 : Bool) (o2 : (List Int)) : Option (Bool × (List Int)) :=
  bd (m_strings_Builder_copyCheck_M o1_0 o2) fun x2 =>
  bd (apS_ o2 p1) fun x3 =>
  some (x2, x3)
def m_strings_Builder_String_M (o1_0 : Bool) (o2 : (List Int)) : Option (ByteArray) :=
  if decide (o2.length = 0) then (
    some (bs []))
  else (
    bd (ust o2) fun x2 =>
    some x2)
def m_strings_trimLeftByte_l1 (p1 : Int) : ByteArray → Option ((ByteArray) ⊕ (ByteArray))
  | v2 =>
    bd (
      if decide (0 < (v2.size : Int)) then (
        bd (bt v2 0) fun x5 =>
        some (decide (x5 = p1)))
      else (
        some false)) fun v3 =>
    if v3 then (
      bd (cs v2 1 v2.size) fun x8 =>
      some (.inl x8))
    else (
      some (.inr v2))
def m_strings_trimLeftByte (p0 : ByteArray) (p1 : Int) : Option (ByteArray) :=
  bd (lp (m_strings_trimLeftByte_l1 p1) p0) fun v1 =>
  some v1
def m_strings_TrimLeft (p0 : ByteArray) (p1 : ByteArray) : Option (ByteArray) :=
  bd (
    if sq p0 (bs []) then (
      some true)
    else (
      some (sq p1 (bs [])))) fun v1 =>
  if v1 then (
    some p0)
  else (
    bd (
      if decide ((p1.size : Int) = 1) then (
        bd (bt p1 0) fun x6 =>
        some (decide (x6 < 128)))
      else (
        some false)) fun v4 =>
    if v4 then (
      bd (bt p1 0) fun x9 =>
      bd (m_strings_trimLeftByte p0 x9) fun x11 =>
      some x11)
    else (
      none))
def m_digits_In_l1 (p1 : Int) (x4 : (Int × Int)) : ((List Int) × (List ByteArray)) → Option (((List Int) × (List ByteArray)) ⊕ ((List ByteArray)))
  | (v9, v10) =>
    if decide (0 < (v9.length : Int)) then (
      bd (m_divide_Small v9 x4.1) fun x12 =>
      bd (m_digits_piece x12.2.1 p1 x4.2) fun x14 =>
      bd (ap 16 v10 [x14]) fun x16 =>
      some (.inl (x12.1, x16)))
    else (
      some (.inr v10))
def m_digits_In_l2 (v8 : (List ByteArray)) : (Int × Bool × (List Int)) → Option ((Int × Bool × (List Int)) ⊕ (Bool × (List Int)))
  | (v20, v21, v22) =>
    if decide (v20 < (v8.length : Int)) then (
      bd (rd v8 (wi64 ((wi64 ((v8.length : Int) - 1)) - v20))) fun x24 =>
      bd (m_strings_Builder_WriteString_M x24 v21 v22) fun x27 =>
      some (.inl (wi64 (v20 + 1), x27.1, x27.2)))
    else (
      some (.inr (v21, v22)))
def m_digits_In (p0 : (List Int)) (p1 : Int) : Option (ByteArray × Int) :=
  bd (m_digits_based p1) fun x1 =>
  if !decide (x1 = 0) then (
    some ((bs []), x1))
  else (
    bd (m_digits_chunk p1) fun x4 =>
    bd (m_nat_Make p0) fun x6 =>
    bd (lp (m_digits_In_l1 p1 x4) (x6.1, [])) fun v8 =>
    bd (lp (m_digits_In_l2 v8) (0, true, [])) fun (v18, v19) =>
    bd (m_strings_Builder_String_M v18 v19) fun x29 =>
    bd (m_strings_TrimLeft x29 (bs [48])) fun x30 =>
    bd (
      if sq x30 (bs []) then (
        some (bs [48]))
      else (
        some x30)) fun v32 =>
    some (v32, 0))
def m_digits_Print (p0 : (List Int)) : Option (ByteArray) :=
  bd (m_digits_In p0 10) fun x1 =>
  some x1.1
def m_ratio_Decimal (p0 : D_api_Rat) : Option (ByteArray × Bool) :=
  bd (m_ratio_places p0.2) fun x1 =>
  if !x1.2 then (
    some ((bs []), false))
  else (
    bd (m_nat_Of 10) fun x4 =>
    bd (m_mul_Pow x4 x1.1) fun x6 =>
    bd (m_mul_Mul p0.1.2 x6.1) fun x8 =>
    bd (m_divide_Exact x8 p0.2) fun x10 =>
    if !decide (x10.2 = 0) then (
      some ((bs []), false))
    else (
      bd (m_digits_Print x10.1) fun x13 =>
      bd (
        if decide ((x13.size : Int) ≤ x1.1) then (
          bd (m_strings_Repeat (bs [48]) (wi64 ((wi64 (x1.1 + 1)) - (x13.size : Int)))) fun x17 =>
          bd (cat x17 x13) fun x19 =>
          some x19)
        else (
          some x13)) fun v15 =>
      bd (
        if decide (0 < x1.1) then (
          bd (cs v15 0 (wi64 ((v15.size : Int) - x1.1))) fun x23 =>
          bd (cat x23 (bs [46])) fun x25 =>
          bd (cs v15 (wi64 ((v15.size : Int) - x1.1)) v15.size) fun x27 =>
          bd (cat x25 x27) fun x29 =>
          some x29)
        else (
          some v15)) fun v21 =>
      bd (
        if p0.1.1 then (
          bd (cat (bs [45]) v21) fun x33 =>
          some x33)
        else (
          some v21)) fun v31 =>
      some (v31, true)))
def m_rat_Same (p0 : D_api_Rat) (p1 : D_api_Rat) : Option (Bool) :=
  if p0.1.1 == p1.1.1 then (
    bd (m_nat_Cmp p0.1.2 p1.1.2) fun x2 =>
    if decide (x2 = 0) then (
      bd (m_nat_Cmp p0.2 p1.2) fun x5 =>
      some (decide (x5 = 0)))
    else (
      some false))
  else (
    some false)
def m_whole_Print (p0 : D_api_Int) : Option (ByteArray) :=
  if p0.1 then (
    bd (m_digits_Print p0.2) fun x2 =>
    bd (cat (bs [45]) x2) fun x4 =>
    some x4)
  else (
    bd (m_digits_Print p0.2) fun x6 =>
    some x6)
def m_ratio_Print (p0 : D_api_Rat) : Option (ByteArray) :=
  bd (m_whole_Print (p0.1.1, p0.1.2)) fun x1 =>
  bd (m_nat_Of 1) fun x3 =>
  bd (m_nat_Cmp p0.2 x3) fun x5 =>
  if decide (x5 = 0) then (
    some x1)
  else (
    bd (cat x1 (bs [47])) fun x8 =>
    bd (m_digits_Print p0.2) fun x10 =>
    bd (cat x8 x10) fun x12 =>
    some x12)
def m_triviumlaw09_works  : Option (Bool) :=
  bd (m_ratio_Parse (bs [49, 50, 46, 53, 37])) fun x1 =>
  bd (m_ratio_Parse (bs [49, 47, 56])) fun x3 =>
  bd (m_ratio_Decimal ((x1.1.1.1, x1.1.1.2), x1.1.2)) fun x5 =>
  if decide (x1.2 = 0) then (
    if decide (x3.2 = 0) then (
      bd (m_rat_Same ((x1.1.1.1, x1.1.1.2), x1.1.2) ((x3.1.1.1, x3.1.1.2), x3.1.2)) fun x9 =>
      if x9 then (
        bd (m_ratio_Print ((x1.1.1.1, x1.1.1.2), x1.1.2)) fun x12 =>
        if sq x12 (bs [49, 47, 56]) then (
          if sq x5.1 (bs [48, 46, 49, 50, 53]) then (
            some x5.2)
          else (
            some false))
        else (
          some false))
      else (
        some false))
    else (
      some false))
  else (
    some false)
def m_triviumref02_DivSmall_l1 (p0 : (List Int)) (p1 : Int) : (Int × Int × (List Int)) → Option ((Int × Int × (List Int)) ⊕ (Int × (List Int)))
  | (v5, v6, v7) =>
    if decide (0 ≤ v6) then (
      bd (rd p0 v6) fun x9 =>
      bd (qd .i64 (wi64 ((wi64 (10000 * v5)) + x9)) p1) fun x11 =>
      bd (ix v7 v6) fun j13 =>
      lt (v7.set j13 x11) fun x15 =>
      bd (rm .i64 (wi64 ((wi64 (10000 * v5)) + x9)) p1) fun x17 =>
      some (.inl (x17, wi64 (v6 - 1), x15)))
    else (
      some (.inr (v5, v7)))
def m_triviumref02_DivSmall (p0 : (List Int)) (p1 : Int) : Option ((List Int) × Int) :=
  bd (mk 8 0 (p0.length : Int) (p0.length : Int)) fun x1 =>
  bd (lp (m_triviumref02_DivSmall_l1 p0 p1) (0, wi64 ((p0.length : Int) - 1), x1)) fun (v3, v4) =>
  bd (m_triviumref02_Trim v4) fun x19 =>
  some (x19, v3)
def m_triviumref02_Back_l1  : ((List Int) × (List Int)) → Option (((List Int) × (List Int)) ⊕ ((List Int)))
  | (v2, v3) =>
    if decide (0 < (v2.length : Int)) then (
      bd (m_triviumref02_DivSmall v2 4294967296) fun x5 =>
      bd (ap 8 v3 [wu64 x5.2]) fun x7 =>
      some (.inl (x5.1, x7)))
    else (
      some (.inr v3))
def m_triviumref02_Back (p0 : (List Int)) : Option ((List Int)) :=
  bd (lp (m_triviumref02_Back_l1) (p0, [])) fun v1 =>
  some v1
def m_triviumref07_Back (p0 : D_triviumref07_Z) : Option (D_api_Int) :=
  bd (m_triviumref02_Back p0.2) fun x1 =>
  some (p0.1, x1)
def m_triviumref08_Back (p0 : D_triviumref08_Q) : Option (D_api_Rat) :=
  bd (m_triviumref07_Back (p0.1.1, p0.1.2)) fun x1 =>
  bd (m_triviumref02_Back p0.2) fun x3 =>
  some ((x1.1, x1.2), x3)
def m_triviumref02_Same_l1 (p0 : (List Int)) (p1 : (List Int)) : Int → Option ((Int) ⊕ (Bool))
  | v2 =>
    if decide (v2 < (p0.length : Int)) then (
      bd (rd p0 v2) fun x4 =>
      bd (rd p1 v2) fun x6 =>
      if !decide (x4 = x6) then (
        some (.inr false))
      else (
        some (.inl (wi64 (v2 + 1)))))
    else (
      some (.inr true))
def m_triviumref02_Same (p0 : (List Int)) (p1 : (List Int)) : Option (Bool) :=
  if !decide ((p0.length : Int) = (p1.length : Int)) then (
    some false)
  else (
    lp (m_triviumref02_Same_l1 p0 p1) 0)
def m_triviumref07_Same (p0 : D_api_Int) (p1 : D_api_Int) : Option (Bool) :=
  if p0.1 == p1.1 then (
    bd (m_triviumref02_Same p0.2 p1.2) fun x2 =>
    some x2)
  else (
    some false)
def m_triviumref08_Same (p0 : D_api_Rat) (p1 : D_api_Rat) : Option (Bool) :=
  bd (m_triviumref07_Same (p0.1.1, p0.1.2) (p1.1.1, p1.1.2)) fun x1 =>
  if x1 then (
    bd (m_triviumref02_Same p0.2 p1.2) fun x4 =>
    some x4)
  else (
    some false)
def m_triviumlaw09_RatioParses (p0 : ByteArray) : Option (Bool) :=
  bd (cs p0 0 (min (p0.size : Int) 60)) fun x1 =>
  bd (m_ratio_Parse x1) fun x3 =>
  bd (m_triviumref09_Parse x1) fun x5 =>
  if !decide (x5.2 = 0) then (
    if decide (x3.2 = x5.2) then (
      if decide ((wi64 ((x3.1.2.length : Int) + (x3.1.1.2.length : Int))) = 0) then (
        bd (m_triviumlaw09_works) fun x10 =>
        some x10)
      else (
        some false))
    else (
      some false))
  else (
    if decide (x3.2 = x5.2) then (
      bd (m_triviumref08_Back ((x5.1.1.1, x5.1.1.2), x5.1.2)) fun x13 =>
      bd (m_triviumref08_Same ((x3.1.1.1, x3.1.1.2), x3.1.2) x13) fun x15 =>
      if x15 then (
        bd (m_triviumlaw09_works) fun x18 =>
        some x18)
      else (
        some false))
    else (
      some false))
def m_triviumref02_Clean_l1 (p0 : (List Int)) (p1 : Int) : (Int × (List Int)) → Option ((Int × (List Int)) ⊕ ((List Int)))
  | (v2, v3) =>
    bd (
      if decide (v2 < (p0.length : Int)) then (
        some (decide (v2 < p1)))
      else (
        some false)) fun v4 =>
    if v4 then (
      bd (rd p0 v2) fun x7 =>
      bd (rm .u64 x7 4294967296) fun x9 =>
      bd (ap 8 v3 [x9]) fun x11 =>
      some (.inl (wi64 (v2 + 1), x11)))
    else (
      some (.inr v3))
def m_triviumref02_Clean_l2  : (List Int) → Option (((List Int)) ⊕ ((List Int)))
  | v14 =>
    bd (
      if decide (0 < (v14.length : Int)) then (
        bd (rd v14 (wi64 ((v14.length : Int) - 1))) fun x17 =>
        some (decide (x17 = 0)))
      else (
        some false)) fun v15 =>
    if v15 then (
      bd (ct v14 0 (wi64 ((v14.length : Int) - 1))) fun x20 =>
      some (.inl x20))
    else (
      some (.inr v14))
def m_triviumref02_Clean (p0 : (List Int)) (p1 : Int) : Option ((List Int)) :=
  bd (lp (m_triviumref02_Clean_l1 p0 p1) (0, [])) fun v1 =>
  bd (lp (m_triviumref02_Clean_l2) v1) fun v13 =>
  some v13
def m_triviumref07_Clean (p0 : D_api_Int) (p1 : Int) : Option (D_api_Int) :=
  bd (m_triviumref02_Clean p0.2 p1) fun x1 =>
  if p0.1 then (
    some (decide (0 < (x1.length : Int)), x1))
  else (
    some (false, x1))
def m_triviumref02_Of_l1 (p0 : (List Int)) : ((List Int) × Int) → Option (((List Int) × Int) ⊕ ((List Int)))
  | (v2, v3) =>
    if decide (0 ≤ v3) then (
      bd (rd p0 v3) fun x5 =>
      bd (rm .u64 x5 4294967296) fun x7 =>
      bd (m_triviumref02_MulAdd v2 4294967296 (wi64 x7)) fun x9 =>
      some (.inl (x9, wi64 (v3 - 1))))
    else (
      some (.inr v2))
def m_triviumref02_Of (p0 : (List Int)) : Option ((List Int)) :=
  bd (lp (m_triviumref02_Of_l1 p0) ([], wi64 ((p0.length : Int) - 1))) fun v1 =>
  some v1
def m_triviumref07_made (p0 : Bool) (p1 : (List Int)) : Option (D_triviumref07_Z) :=
  if p0 then (
    some (decide (0 < (p1.length : Int)), p1))
  else (
    some (false, p1))
def m_triviumref07_Of (p0 : D_api_Int) : Option (D_triviumref07_Z) :=
  bd (m_triviumref02_Of p0.2) fun x1 =>
  bd (m_triviumref07_made p0.1 x1) fun x3 =>
  some (x3.1, x3.2)
def m_triviumref08_Clean (p0 : D_api_Rat) (p1 : Int) : Option (D_api_Rat) :=
  bd (m_triviumref02_Clean p0.2 p1) fun x1 =>
  bd (
    if decide ((x1.length : Int) = 0) then (
      some [1])
    else (
      some x1)) fun v3 =>
  bd (m_triviumref07_Clean (p0.1.1, p0.1.2) p1) fun x5 =>
  bd (m_triviumref07_Of x5) fun x7 =>
  bd (m_triviumref02_Of v3) fun x9 =>
  bd (m_triviumref08_Low x7 x9) fun x11 =>
  bd (m_triviumref08_Back x11) fun x13 =>
  some ((x13.1.1, x13.1.2), x13.2)
def m_triviumref08_Of (p0 : D_api_Rat) : Option (D_triviumref08_Q) :=
  bd (m_triviumref07_Of (p0.1.1, p0.1.2)) fun x1 =>
  bd (m_triviumref02_Of p0.2) fun x3 =>
  some ((x1.1, x1.2), x3)
def m_triviumref02_Bits_l1  : ((List Int) × Int) → Option (((List Int) × Int) ⊕ (Int))
  | (v2, v3) =>
    if decide (0 < (v2.length : Int)) then (
      bd (m_triviumref02_DivSmall v2 2) fun x5 =>
      some (.inl (x5.1, wi64 (v3 + 1))))
    else (
      some (.inr v3))
def m_triviumref02_Bits (p0 : (List Int)) : Option (Int) :=
  bd (lp (m_triviumref02_Bits_l1) (p0, 0)) fun v1 =>
  some v1
def m_triviumref02_Text_l1  : ((List Int) × (List Int)) → Option (((List Int) × (List Int)) ⊕ ((List Int)))
  | (v3, v4) =>
    if decide (0 < (v3.length : Int)) then (
      bd (m_triviumref02_DivSmall v3 10) fun x6 =>
      bd (ap 1 [wu8 (wi64 (48 + x6.2))] v4) fun x8 =>
      some (.inl (x6.1, x8)))
    else (
      some (.inr v4))
def m_triviumref02_Text (p0 : (List Int)) : Option (ByteArray) :=
  if decide ((p0.length : Int) = 0) then (
    some (bs [48]))
  else (
    bd (lp (m_triviumref02_Text_l1) (p0, [])) fun v2 =>
    some (tx v2))
def m_triviumref09_Decimal_l2 (v1 : Int) : ByteArray → Option ((ByteArray) ⊕ (ByteArray))
  | v15 =>
    if decide ((v15.size : Int) ≤ v1) then (
      bd (cat (bs [48]) v15) fun x17 =>
      some (.inl x17))
    else (
      some (.inr v15))
def m_triviumref09_Decimal_l1 (p0 : D_triviumref08_Q) : Int → Option ((Int) ⊕ (ByteArray × Bool))
  | v1 =>
    bd (m_triviumref02_Bits p0.2) fun x2 =>
    if decide (v1 ≤ x2) then (
      bd (m_triviumref09_ten v1) fun x5 =>
      bd (m_triviumref02_Mul p0.1.2 x5) fun x7 =>
      bd (m_triviumref02_Div x7 p0.2) fun x9 =>
      if decide (0 < (x9.2.length : Int)) then (
        some (.inl (wi64 (v1 + 1))))
      else (
        bd (m_triviumref02_Text x9.1) fun x12 =>
        bd (lp (m_triviumref09_Decimal_l2 v1) x12) fun v14 =>
        bd (
          if decide (0 < v1) then (
            bd (cs v14 0 (wi64 ((v14.size : Int) - v1))) fun x21 =>
            bd (cat x21 (bs [46])) fun x23 =>
            bd (cs v14 (wi64 ((v14.size : Int) - v1)) v14.size) fun x25 =>
            bd (cat x23 x25) fun x27 =>
            some x27)
          else (
            some v14)) fun v19 =>
        bd (
          if p0.1.1 then (
            bd (cat (bs [45]) v19) fun x31 =>
            some x31)
          else (
            some v19)) fun v29 =>
        some (.inr (v29, true))))
    else (
      some (.inr ((bs []), false)))
def m_triviumref09_Decimal (p0 : D_triviumref08_Q) : Option (ByteArray × Bool) :=
  lp (m_triviumref09_Decimal_l1 p0) 0
def m_whole_Of (p0 : Int) : Option (D_api_Int) :=
  if decide (p0 < 0) then (
    bd (m_nat_Of (wu64 (wi64 (0 - (wi64 (p0 + 1)))))) fun x2 =>
    bd (m_nat_Of 1) fun x4 =>
    bd (m_nat_Add x2 x4) fun x6 =>
    bd (m_whole_Made true x6) fun x8 =>
    some (x8.1, x8.2))
  else (
    bd (m_nat_Of (wu64 p0)) fun x10 =>
    bd (m_whole_Made false x10) fun x12 =>
    some (x12.1, x12.2))
def m_rat_one  : Option ((List Int)) :=
  bd (m_nat_Of 1) fun x1 =>
  some x1
def m_rat_Of (p0 : Int) : Option (D_api_Rat) :=
  bd (m_whole_Of p0) fun x1 =>
  bd (m_rat_one) fun x3 =>
  some ((x1.1, x1.2), x3)
def m_whole_Mul (p0 : D_api_Int) (p1 : D_api_Int) : Option (D_api_Int) :=
  bd (m_mul_Mul p0.2 p1.2) fun x1 =>
  bd (m_whole_Made (!(p0.1 == p1.1)) x1) fun x3 =>
  some (x3.1, x3.2)
def m_rat_up (p0 : D_api_Rat) : Option (D_api_Int) :=
  bd (m_whole_Made false p0.2) fun x1 =>
  some (x1.1, x1.2)
def m_rat_Mul (p0 : D_api_Rat) (p1 : D_api_Rat) : Option (D_api_Rat) :=
  bd (m_whole_Mul (p0.1.1, p0.1.2) (p1.1.1, p1.1.2)) fun x1 =>
  bd (m_rat_up ((p0.1.1, p0.1.2), p0.2)) fun x3 =>
  bd (m_rat_up ((p1.1.1, p1.1.2), p1.2)) fun x5 =>
  bd (m_whole_Mul x3 x5) fun x7 =>
  bd (m_rat_Make x1 x7) fun x9 =>
  some ((x9.1.1.1, x9.1.1.2), x9.1.2)
def m_ratio_Percent (p0 : D_api_Rat) : Option (ByteArray × Bool) :=
  bd (m_rat_Of 100) fun x1 =>
  bd (m_rat_Mul ((p0.1.1, p0.1.2), p0.2) x1) fun x3 =>
  bd (m_ratio_Decimal x3) fun x5 =>
  if !x5.2 then (
    some ((bs []), false))
  else (
    bd (cat x5.1 (bs [37])) fun x8 =>
    some (x8, true))
def m_triviumref07_Num (p0 : Int) : Option (D_triviumref07_Z) :=
  if decide (p0 < 0) then (
    bd (m_triviumref02_Num (wi64 (0 - p0))) fun x2 =>
    bd (m_triviumref07_made true x2) fun x4 =>
    some (x4.1, x4.2))
  else (
    bd (m_triviumref02_Num p0) fun x6 =>
    bd (m_triviumref07_made false x6) fun x8 =>
    some (x8.1, x8.2))
def m_triviumref08_Num (p0 : Int) (p1 : Int) : Option (D_triviumref08_Q) :=
  bd (m_triviumref07_Num p0) fun x1 =>
  bd (m_triviumref02_Num p1) fun x3 =>
  bd (m_triviumref08_Low x1 x3) fun x5 =>
  some ((x5.1.1, x5.1.2), x5.2)
def m_triviumref07_Mul (p0 : D_triviumref07_Z) (p1 : D_triviumref07_Z) : Option (D_triviumref07_Z) :=
  bd (m_triviumref02_Mul p0.2 p1.2) fun x1 =>
  bd (m_triviumref07_made (!(p0.1 == p1.1)) x1) fun x3 =>
  some (x3.1, x3.2)
def m_triviumref08_Mul (p0 : D_triviumref08_Q) (p1 : D_triviumref08_Q) : Option (D_triviumref08_Q) :=
  bd (m_triviumref07_Mul (p0.1.1, p0.1.2) (p1.1.1, p1.1.2)) fun x1 =>
  bd (m_triviumref02_Mul p0.2 p1.2) fun x3 =>
  bd (m_triviumref08_Low x1 x3) fun x5 =>
  some ((x5.1.1, x5.1.2), x5.2)
def m_triviumref07_Print (p0 : D_triviumref07_Z) : Option (ByteArray) :=
  if p0.1 then (
    bd (m_triviumref02_Text p0.2) fun x2 =>
    bd (cat (bs [45]) x2) fun x4 =>
    some x4)
  else (
    bd (m_triviumref02_Text p0.2) fun x6 =>
    some x6)
def m_triviumref09_Print (p0 : D_triviumref08_Q) : Option (ByteArray) :=
  bd (m_triviumref02_Num 1) fun x1 =>
  bd (m_triviumref02_Cmp p0.2 x1) fun x3 =>
  if decide (x3 = 0) then (
    bd (m_triviumref07_Print (p0.1.1, p0.1.2)) fun x6 =>
    some x6)
  else (
    bd (m_triviumref07_Print (p0.1.1, p0.1.2)) fun x8 =>
    bd (cat x8 (bs [47])) fun x10 =>
    bd (m_triviumref02_Text p0.2) fun x12 =>
    bd (cat x10 x12) fun x14 =>
    some x14)
def m_digits_Count (p0 : (List Int)) : Option (Int) :=
  bd (m_digits_Print p0) fun x1 =>
  some (x1.size : Int)
def m_ratio_Digits (p0 : D_api_Rat) : Option (Int) :=
  bd (m_digits_Count p0.2) fun x1 =>
  some x1
def m_triviumlaw09_RatioPrints (p0 : D_api_Rat) : Option (Bool) :=
  bd (m_triviumref08_Clean ((p0.1.1, p0.1.2), p0.2) 2) fun x1 =>
  bd (m_triviumref08_Of ((x1.1.1, x1.1.2), x1.2)) fun x3 =>
  bd (m_ratio_Decimal ((x1.1.1, x1.1.2), x1.2)) fun x5 =>
  bd (m_triviumref09_Decimal ((x3.1.1, x3.1.2), x3.2)) fun x7 =>
  bd (m_ratio_Percent ((x1.1.1, x1.1.2), x1.2)) fun x9 =>
  bd (m_triviumref08_Num 100 1) fun x11 =>
  bd (m_triviumref08_Mul ((x3.1.1, x3.1.2), x3.2) x11) fun x13 =>
  bd (m_triviumref09_Decimal x13) fun x15 =>
  bd (
    if x15.2 then (
      bd (cat x15.1 (bs [37])) fun x19 =>
      some x19)
    else (
      some x15.1)) fun v17 =>
  bd (m_ratio_Print ((x1.1.1, x1.1.2), x1.2)) fun x21 =>
  bd (m_triviumref09_Print ((x3.1.1, x3.1.2), x3.2)) fun x23 =>
  if sq x21 x23 then (
    if sq x5.1 x7.1 then (
      if x5.2 == x7.2 then (
        if sq x9.1 v17 then (
          if x9.2 == x15.2 then (
            bd (m_ratio_Digits ((x1.1.1, x1.1.2), x1.2)) fun x30 =>
            bd (m_triviumref02_Text x3.2) fun x32 =>
            if decide (x30 = (x32.size : Int)) then (
              bd (m_triviumlaw09_works) fun x35 =>
              some x35)
            else (
              some false))
          else (
            some false))
        else (
          some false))
      else (
        some false))
    else (
      some false))
  else (
    some false)
def m_triviumlaw09_RatioBack_l1 (x4 : D_api_Rat) (v14 : (List ByteArray)) : Int → Option ((Int) ⊕ (Bool))
  | v20 =>
    if decide (v20 < (v14.length : Int)) then (
      bd (rd v14 v20) fun x22 =>
      bd (m_ratio_Parse x22) fun x24 =>
      bd (
        if !decide (x24.2 = 0) then (
          some true)
        else (
          bd (m_rat_Same ((false, x4.1.2), x4.2) ((x24.1.1.1, x24.1.1.2), x24.1.2)) fun x28 =>
          some (!x28))) fun v26 =>
      if v26 then (
        some (.inr false))
      else (
        some (.inl (wi64 (v20 + 1)))))
    else (
      some (.inr true))
def m_triviumlaw09_RatioBack (p0 : D_api_Rat) : Option (Bool) :=
  bd (m_triviumlaw09_works) fun x1 =>
  if !x1 then (
    some false)
  else (
    bd (m_triviumref08_Clean ((p0.1.1, p0.1.2), p0.2) 2) fun x4 =>
    bd (m_ratio_Print ((false, x4.1.2), x4.2)) fun x6 =>
    bd (
      bd (m_ratio_Decimal ((false, x4.1.2), x4.2)) fun x9 =>
      if x9.2 then (
        bd (ap 16 [x6] [x9.1]) fun x12 =>
        some x12)
      else (
        some [x6])) fun v8 =>
    bd (
      bd (m_ratio_Percent ((false, x4.1.2), x4.2)) fun x15 =>
      if x15.2 then (
        bd (ap 16 v8 [x15.1]) fun x18 =>
        some x18)
      else (
        some v8)) fun v14 =>
    lp (m_triviumlaw09_RatioBack_l1 x4 v14) 0)
end
end Go.Proofs.YtfboepeadeafmaaGreatDoor.AP
/- The code comes to the printed functions (printed by a program of ours). -/
namespace Go.Proofs.YtfboepeadeafmaaGreatDoor.AE
open Go Go.RowKit Go.Proofs.YtfboepeadeafmaaGreatDoor.AP
set_option linter.unusedVariables false
set_option maxRecDepth 20000
theorem en95 : Enters Tryz.prog 95 := ⟨_, Tryz.func95, rfl, rfl⟩
theorem k_internal_stringslite_HasSuffix {p0 : ByteArray} {p1 : ByteArray} {y : Bool} (h : m_internal_stringslite_HasSuffix p0 p1 = some y) : Spec Tryz.prog 95 [(.v .str p0), (.v .str p1)] (.v .bool y) [] := by
  rw [m_internal_stringslite_HasSuffix] at h
  refine enterN [(.v .str p0), (.v .str p1)] 21 Tryz.func95 rfl rfl rfl ?_
  refine T.seq ?_
  refine T.region ?_
  refine Run.go (Ev.assign rfl rfl) ?_
  refine Run.nil ?_
  refine T.seq ?_
  refine T.region ?_
  refine Run.go (Ev.move rfl rfl) ?_
  refine Run.go (Ev.len X rfl rfl rfl rfl) ?_
  refine Run.go (Ev.move rfl rfl) ?_
  refine Run.go (Ev.len X rfl rfl rfl rfl) ?_
  refine Run.go (Ev.int rfl rfl rfl rfl trivial) ?_
  refine Run.go (Ev.move rfl rfl) ?_
  rcases boolCases (decide ((p1.size : Int) ≤ (p0.size : Int))) with hb1 | hb1
  · replace h := ifT hb1 h
    refine Run.on rfl rfl rfl hb1 (Ev.move rfl rfl) ?_
    refine Run.on rfl rfl rfl hb1 (Ev.move rfl rfl) ?_
    refine Run.on rfl rfl rfl hb1 (Ev.len X rfl rfl rfl rfl) ?_
    refine Run.on rfl rfl rfl hb1 (Ev.move rfl rfl) ?_
    refine Run.on rfl rfl rfl hb1 (Ev.len X rfl rfl rfl rfl) ?_
    refine Run.on rfl rfl rfl hb1 (Ev.int rfl rfl rfl rfl trivial) ?_
    obtain ⟨x2, e3, h⟩ := bdS h
    refine Run.on rfl rfl rfl hb1 (Ev.e_cs X e3 rfl rfl rfl (fun _ _ => cutAt_of rfl) (fun h => by cases h) (fun _ h => by cases h) (fun _ => rfl)) ?_
    refine Run.on rfl rfl rfl hb1 (Ev.move rfl rfl) ?_
    refine Run.on rfl rfl rfl hb1 (Ev.strs rfl rfl rfl rfl trivial) ?_
    refine Run.go (Ev.pickT rfl hb1 rfl rfl) ?_
    refine Run.go (Ev.assign rfl rfl) ?_
    refine Run.nil ?_
    refine T.ret ?_
    cases h
    exact Fin.one rfl .v
  · replace h := ifF hb1 h
    refine Run.offT rfl rfl rfl rfl hb1 ?_
    refine Run.offT rfl rfl rfl rfl hb1 ?_
    refine Run.offT rfl rfl rfl rfl hb1 ?_
    refine Run.offT rfl rfl rfl rfl hb1 ?_
    refine Run.offT rfl rfl rfl rfl hb1 ?_
    refine Run.offT rfl rfl rfl rfl hb1 ?_
    refine Run.offT rfl rfl rfl rfl hb1 ?_
    refine Run.offT rfl rfl rfl rfl hb1 ?_
    refine Run.offT rfl rfl rfl rfl hb1 ?_
    refine Run.go (Ev.pickF rfl hb1 rfl rfl) ?_
    refine Run.go (Ev.assign rfl rfl) ?_
    refine Run.nil ?_
    refine T.ret ?_
    cases h
    exact Fin.one rfl .v
theorem en61 : Enters Tryz.prog 61 := ⟨_, Tryz.func61, rfl, rfl⟩
theorem k_internal_stringslite_CutSuffix {p0 : ByteArray} {p1 : ByteArray} {y : ByteArray × Bool} (h : m_internal_stringslite_CutSuffix p0 p1 = some y) : Spec Tryz.prog 61 [(.v .str p0), (.v .str p1)] (.tup [.v .str y.1, .v .bool y.2]) [] := by
  rw [m_internal_stringslite_CutSuffix] at h
  refine enterN [(.v .str p0), (.v .str p1)] 18 Tryz.func61 rfl rfl rfl ?_
  refine T.seq ?_
  refine T.region ?_
  refine Run.go (Ev.assign rfl rfl) ?_
  refine Run.go (Ev.assign rfl rfl) ?_
  refine Run.nil ?_
  refine T.seq ?_
  refine T.seq ?_
  refine T.region ?_
  refine Run.go (Ev.move rfl rfl) ?_
  refine Run.go (Ev.move rfl rfl) ?_
  obtain ⟨x1, e2, h⟩ := bdS h
  refine Run.go (Ev.callC en95 (k_internal_stringslite_HasSuffix e2) rfl (.cons .v (.cons .v .nil)) rfl rfl) ?_
  refine Run.go (Ev.not rfl rfl) ?_
  refine Run.nil ?_
  refine T.cond rfl (fun hb3 => ?_) (fun hb3 => ?_)
  · replace h := ifT hb3 h
    refine T.seq ?_
    refine T.region ?_
    refine Run.go (Ev.move rfl rfl) ?_
    refine Run.go (Ev.assign rfl rfl) ?_
    refine Run.go (Ev.assign rfl rfl) ?_
    refine Run.nil ?_
    refine T.ret ?_
    cases h
    exact Fin.many X rfl (.cons (.tmp .v) (.cons (.tmp .v) .nil)) rfl
  · replace h := ifF hb3 h
    refine T.skip ?_
    refine T.seq ?_
    refine T.region ?_
    refine Run.go (Ev.move rfl rfl) ?_
    refine Run.go (Ev.move rfl rfl) ?_
    refine Run.go (Ev.len X rfl rfl rfl rfl) ?_
    refine Run.go (Ev.move rfl rfl) ?_
    refine Run.go (Ev.len X rfl rfl rfl rfl) ?_
    refine Run.go (Ev.int rfl rfl rfl rfl trivial) ?_
    obtain ⟨x4, e5, h⟩ := bdS h
    refine Run.go (Ev.e_cs X e5 rfl rfl rfl (fun _ h => by cases h) (fun _ => rfl) (fun _ _ => cutAt_of rfl) (fun h => by cases h)) ?_
    refine Run.go (Ev.assign rfl rfl) ?_
    refine Run.go (Ev.assign rfl rfl) ?_
    refine Run.nil ?_
    refine T.ret ?_
    cases h
    exact Fin.many X rfl (.cons (.tmp .v) (.cons (.tmp .v) .nil)) rfl
theorem en23 : Enters Tryz.prog 23 := ⟨_, Tryz.func23, rfl, rfl⟩
theorem k_strings_CutSuffix {p0 : ByteArray} {p1 : ByteArray} {y : ByteArray × Bool} (h : m_strings_CutSuffix p0 p1 = some y) : Spec Tryz.prog 23 [(.v .str p0), (.v .str p1)] (.tup [.v .str y.1, .v .bool y.2]) [] := by
  rw [m_strings_CutSuffix] at h
  refine enterN [(.v .str p0), (.v .str p1)] 11 Tryz.func23 rfl rfl rfl ?_
  refine T.seq ?_
  refine T.region ?_
  refine Run.go (Ev.assign rfl rfl) ?_
  refine Run.go (Ev.assign rfl rfl) ?_
  refine Run.nil ?_
  refine T.seq ?_
  refine T.region ?_
  refine Run.go (Ev.move rfl rfl) ?_
  refine Run.go (Ev.move rfl rfl) ?_
  obtain ⟨x1, e2, h⟩ := bdS h
  refine Run.go (Ev.callC en61 (k_internal_stringslite_CutSuffix e2) rfl (.cons .v (.cons .v .nil)) rfl rfl) ?_
  refine Run.go (Ev.extract rfl rfl rfl) ?_
  refine Run.go (Ev.extract rfl rfl rfl) ?_
  refine Run.go (Ev.assign rfl rfl) ?_
  refine Run.go (Ev.assign rfl rfl) ?_
  refine Run.nil ?_
  refine T.ret ?_
  cases h
  exact Fin.many X rfl (.cons (.tmp .v) (.cons (.tmp .v) .nil)) rfl
theorem en96 : Enters Tryz.prog 96 := ⟨_, Tryz.func96, rfl, rfl⟩
theorem k_internal_stringslite_Cut {p0 : ByteArray} {p1 : ByteArray} {y : ByteArray × ByteArray × Bool} (h : m_internal_stringslite_Cut p0 p1 = some y) : Spec Tryz.prog 96 [(.v .str p0), (.v .str p1)] (.tup [.v .str y.1, .v .str y.2.1, .v .bool y.2.2]) [] := by
  rw [m_internal_stringslite_Cut] at h
  refine enterN [(.v .str p0), (.v .str p1)] 23 Tryz.func96 rfl rfl rfl ?_
  refine T.seq ?_
  refine T.region ?_
  refine Run.go (Ev.assign rfl rfl) ?_
  refine Run.go (Ev.assign rfl rfl) ?_
  refine Run.go (Ev.assign rfl rfl) ?_
  refine Run.nil ?_
  refine T.seq ?_
  refine T.seq ?_
  refine T.region ?_
  refine Run.go (Ev.move rfl rfl) ?_
  refine Run.go (Ev.move rfl rfl) ?_
  obtain ⟨x1, e2, h⟩ := bdS h
  refine Run.go (Ev.callC en118 (k_stringslite_Index e2) rfl (.cons .v (.cons .v .nil)) rfl rfl) ?_
  refine Run.go (Ev.assign rfl rfl) ?_
  refine Run.nil ?_
  refine T.seq ?_
  refine T.region ?_
  refine Run.go (Ev.move rfl rfl) ?_
  refine Run.go (Ev.int rfl rfl rfl rfl trivial) ?_
  refine Run.nil ?_
  refine T.cond rfl (fun hb3 => ?_) (fun hb3 => ?_)
  · replace h := ifT hb3 h
    refine T.seq ?_
    refine T.drawM [] [0, 0, 3, 0, 0, 0, 32, 112, 248, 7, 1023, 2047] (by kernel_rfl) (by kernel_rfl) ?_
    refine RunD.w (fun _ => Ev.move rfl rfl) ?_
    refine RunD.w (fun _ => Ev.move rfl rfl) ?_
    obtain ⟨x4, e5, h⟩ := bdS h
    refine RunD.a rfl rfl (Ev.e_cs X e5 rfl rfl rfl (fun _ h => by cases h) (fun _ => rfl) (fun _ _ => cutAt_of rfl) (fun h => by cases h)) ?_
    refine RunD.w (fun _ => Ev.move rfl rfl) ?_
    refine RunD.w (fun _ => Ev.move rfl rfl) ?_
    refine RunD.w (fun _ => Ev.move rfl rfl) ?_
    refine RunD.a rfl rfl (Ev.len X rfl rfl rfl rfl) ?_
    refine RunD.w (fun _ => Ev.int rfl rfl rfl rfl trivial) ?_
    obtain ⟨x6, e7, h⟩ := bdS h
    refine RunD.a rfl rfl (Ev.e_cs X e7 rfl rfl rfl (fun _ _ => cutAt_of rfl) (fun h => by cases h) (fun _ h => by cases h) (fun _ => rfl)) ?_
    refine RunD.w (fun _ => Ev.assign rfl rfl) ?_
    refine RunD.w (fun _ => Ev.assign rfl rfl) ?_
    refine RunD.w (fun _ => Ev.assign rfl rfl) ?_
    refine RunD.nil ?_
    refine T.ret ?_
    cases h
    exact Fin.many X rfl (.cons (.tmp .v) (.cons (.tmp .v) (.cons (.tmp .v) .nil))) rfl
  · replace h := ifF hb3 h
    refine T.skip ?_
    refine T.seq ?_
    refine T.region ?_
    refine Run.go (Ev.move rfl rfl) ?_
    refine Run.go (Ev.assign rfl rfl) ?_
    refine Run.go (Ev.assign rfl rfl) ?_
    refine Run.go (Ev.assign rfl rfl) ?_
    refine Run.nil ?_
    refine T.ret ?_
    cases h
    exact Fin.many X rfl (.cons (.tmp .v) (.cons (.tmp .v) (.cons (.tmp .v) .nil))) rfl
theorem en62 : Enters Tryz.prog 62 := ⟨_, Tryz.func62, rfl, rfl⟩
theorem k_strings_Cut {p0 : ByteArray} {p1 : ByteArray} {y : ByteArray × ByteArray × Bool} (h : m_strings_Cut p0 p1 = some y) : Spec Tryz.prog 62 [(.v .str p0), (.v .str p1)] (.tup [.v .str y.1, .v .str y.2.1, .v .bool y.2.2]) [] := by
  rw [m_strings_Cut] at h
  refine enterN [(.v .str p0), (.v .str p1)] 13 Tryz.func62 rfl rfl rfl ?_
  refine T.seq ?_
  refine T.region ?_
  refine Run.go (Ev.assign rfl rfl) ?_
  refine Run.go (Ev.assign rfl rfl) ?_
  refine Run.go (Ev.assign rfl rfl) ?_
  refine Run.nil ?_
  refine T.seq ?_
  refine T.region ?_
  refine Run.go (Ev.move rfl rfl) ?_
  refine Run.go (Ev.move rfl rfl) ?_
  obtain ⟨x1, e2, h⟩ := bdS h
  refine Run.go (Ev.callC en96 (k_internal_stringslite_Cut e2) rfl (.cons .v (.cons .v .nil)) rfl rfl) ?_
  refine Run.go (Ev.extract rfl rfl rfl) ?_
  refine Run.go (Ev.extract rfl rfl rfl) ?_
  refine Run.go (Ev.extract rfl rfl rfl) ?_
  refine Run.go (Ev.assign rfl rfl) ?_
  refine Run.go (Ev.assign rfl rfl) ?_
  refine Run.go (Ev.assign rfl rfl) ?_
  refine Run.nil ?_
  refine T.ret ?_
  cases h
  exact Fin.many X rfl (.cons (.tmp .v) (.cons (.tmp .v) (.cons (.tmp .v) .nil))) rfl
theorem en97 : Enters Tryz.prog 97 := ⟨_, Tryz.func97, rfl, rfl⟩
theorem k_strings_Index {p0 : ByteArray} {p1 : ByteArray} {y : Int} (h : m_strings_Index p0 p1 = some y) : Spec Tryz.prog 97 [(.v .str p0), (.v .str p1)] (.v (.int .i64) y) [] := by
  rw [m_strings_Index] at h
  refine enterN [(.v .str p0), (.v .str p1)] 8 Tryz.func97 rfl rfl rfl ?_
  refine T.seq ?_
  refine T.region ?_
  refine Run.go (Ev.assign rfl rfl) ?_
  refine Run.nil ?_
  refine T.seq ?_
  refine T.region ?_
  refine Run.go (Ev.move rfl rfl) ?_
  refine Run.go (Ev.move rfl rfl) ?_
  obtain ⟨x1, e2, h⟩ := bdS h
  refine Run.go (Ev.callC en118 (k_stringslite_Index e2) rfl (.cons .v (.cons .v .nil)) rfl rfl) ?_
  refine Run.go (Ev.assign rfl rfl) ?_
  refine Run.nil ?_
  refine T.ret ?_
  cases h
  exact Fin.one rfl .v
theorem en63 : Enters Tryz.prog 63 := ⟨_, Tryz.func63, rfl, rfl⟩
theorem k_strings_Contains {p0 : ByteArray} {p1 : ByteArray} {y : Bool} (h : m_strings_Contains p0 p1 = some y) : Spec Tryz.prog 63 [(.v .str p0), (.v .str p1)] (.v .bool y) [] := by
  rw [m_strings_Contains] at h
  refine enterN [(.v .str p0), (.v .str p1)] 9 Tryz.func63 rfl rfl rfl ?_
  refine T.seq ?_
  refine T.region ?_
  refine Run.go (Ev.assign rfl rfl) ?_
  refine Run.nil ?_
  refine T.seq ?_
  refine T.region ?_
  refine Run.go (Ev.move rfl rfl) ?_
  refine Run.go (Ev.move rfl rfl) ?_
  obtain ⟨x1, e2, h⟩ := bdS h
  refine Run.go (Ev.callC en97 (k_strings_Index e2) rfl (.cons .v (.cons .v .nil)) rfl rfl) ?_
  refine Run.go (Ev.int rfl rfl rfl rfl trivial) ?_
  refine Run.go (Ev.assign rfl rfl) ?_
  refine Run.nil ?_
  refine T.ret ?_
  cases h
  exact Fin.one rfl .v
theorem en101 : Enters Tryz.prog 101 := ⟨_, Tryz.func101, rfl, rfl⟩
theorem k_digits_based {p0 : Int} {y : Int} (h : m_digits_based p0 = some y) : Spec Tryz.prog 101 [(.v (.int .i64) p0)] (.v (.int .i64) y) [] := by
  rw [m_digits_based] at h
  refine enterN [(.v (.int .i64) p0)] 9 Tryz.func101 rfl rfl rfl ?_
  refine T.seq ?_
  refine T.region ?_
  refine Run.go (Ev.assign rfl rfl) ?_
  refine Run.nil ?_
  refine T.seq ?_
  obtain ⟨v1, hv, h⟩ := bdS h
  refine T.cut (fun _ : Unit => (⟨[(8, .v .bool v1)], [], 9⟩ : St)) (fun _ => True) ?_ (fun _ _ => ?_)
  · replace h := hv
    clear hv
    refine T.region ?_
    refine Run.go (Ev.move rfl rfl) ?_
    refine Run.go (Ev.int rfl rfl rfl rfl trivial) ?_
    refine Run.go (Ev.move rfl rfl) ?_
    rcases boolCases (decide (p0 < 2)) with hb2 | hb2
    · replace h := ifT hb2 h
      refine Run.offT rfl rfl rfl rfl hb2 ?_
      refine Run.offT rfl rfl rfl rfl hb2 ?_
      refine Run.go (Ev.pickT rfl hb2 rfl rfl) ?_
      refine Run.nil ?_
      cases h
      exact ⟨(), trivial, Ghost.only [] [8] rfl⟩
    · replace h := ifF hb2 h
      refine Run.on rfl rfl rfl hb2 (Ev.move rfl rfl) ?_
      refine Run.on rfl rfl rfl hb2 (Ev.int rfl rfl rfl rfl trivial) ?_
      refine Run.go (Ev.pickF rfl hb2 rfl rfl) ?_
      refine Run.nil ?_
      cases h
      exact ⟨(), trivial, Ghost.only [] [8] rfl⟩
  · refine T.cond rfl (fun hb3 => ?_) (fun hb3 => ?_)
    · replace h := ifT hb3 h
      refine T.seq ?_
      refine T.region ?_
      refine Run.go (Ev.assign rfl rfl) ?_
      refine Run.nil ?_
      refine T.ret ?_
      cases h
      exact Fin.one rfl .v
    · replace h := ifF hb3 h
      refine T.skip ?_
      refine T.seq ?_
      refine T.region ?_
      refine Run.go (Ev.assign rfl rfl) ?_
      refine Run.nil ?_
      refine T.ret ?_
      cases h
      exact Fin.one rfl .v
theorem en134 : Enters Tryz.prog 134 := ⟨_, Tryz.func134, rfl, rfl⟩
theorem k_internal_stringslite_IndexByte {p0 : ByteArray} {p1 : Int} {y : Int} (h : m_internal_stringslite_IndexByte p0 p1 = some y) : Spec Tryz.prog 134 [(.v .str p0), (.v (.int .u8) p1)] (.v (.int .i64) y) [] := by
  rw [m_internal_stringslite_IndexByte] at h
  refine enterN [(.v .str p0), (.v (.int .u8) p1)] 8 Tryz.func134 rfl rfl rfl ?_
  refine T.seq ?_
  refine T.region ?_
  refine Run.go (Ev.assign rfl rfl) ?_
  refine Run.nil ?_
  refine T.seq ?_
  refine T.region ?_
  refine Run.go (Ev.move rfl rfl) ?_
  refine Run.go (Ev.move rfl rfl) ?_
  refine Run.go (Ev.e_idxb ib144 rfl rfl rfl rfl) ?_
  refine Run.go (Ev.assign rfl rfl) ?_
  refine Run.nil ?_
  refine T.ret ?_
  cases h
  exact Fin.one rfl .v
theorem en138 : Enters Tryz.prog 138 := ⟨_, Tryz.func138, rfl, rfl⟩
theorem k_strings_IndexByte {p0 : ByteArray} {p1 : Int} {y : Int} (h : m_strings_IndexByte p0 p1 = some y) : Spec Tryz.prog 138 [(.v .str p0), (.v (.int .u8) p1)] (.v (.int .i64) y) [] := by
  rw [m_strings_IndexByte] at h
  refine enterN [(.v .str p0), (.v (.int .u8) p1)] 8 Tryz.func138 rfl rfl rfl ?_
  refine T.seq ?_
  refine T.region ?_
  refine Run.go (Ev.assign rfl rfl) ?_
  refine Run.nil ?_
  refine T.seq ?_
  refine T.region ?_
  refine Run.go (Ev.move rfl rfl) ?_
  refine Run.go (Ev.move rfl rfl) ?_
  obtain ⟨x1, e2, h⟩ := bdS h
  refine Run.go (Ev.callC en134 (k_internal_stringslite_IndexByte e2) rfl (.cons .v (.cons .v .nil)) rfl rfl) ?_
  refine Run.go (Ev.assign rfl rfl) ?_
  refine Run.nil ?_
  refine T.ret ?_
  cases h
  exact Fin.one rfl .v
theorem en119 : Enters Tryz.prog 119 := ⟨_, Tryz.func119, rfl, rfl⟩
theorem k_digits_value {p0 : Int} {p1 : Int} {y : Int × Bool} (h : m_digits_value p0 p1 = some y) : Spec Tryz.prog 119 [(.v (.int .i32) p0), (.v (.int .i64) p1)] (.tup [.v (.int .u64) y.1, .v .bool y.2]) [] := by
  rw [m_digits_value] at h
  refine enterN [(.v (.int .i32) p0), (.v (.int .i64) p1)] 24 Tryz.func119 rfl rfl rfl ?_
  refine T.seq ?_
  refine T.region ?_
  refine Run.go (Ev.assign rfl rfl) ?_
  refine Run.go (Ev.assign rfl rfl) ?_
  refine Run.nil ?_
  refine T.seq ?_
  refine T.region ?_
  refine Run.go (Ev.move rfl rfl) ?_
  refine Run.go (Ev.conv X rfl rfl rfl rfl) ?_
  obtain ⟨x1, e2, h⟩ := bdS h
  refine Run.go (Ev.callC en138 (k_strings_IndexByte e2) rfl (.cons .v (.cons .v .nil)) rfl rfl) ?_
  refine Run.go (Ev.assign rfl rfl) ?_
  refine Run.nil ?_
  refine T.seq ?_
  refine T.region ?_
  refine Run.go (Ev.move rfl rfl) ?_
  refine Run.go (Ev.max rfl rfl rfl) ?_
  refine Run.go (Ev.conv X rfl rfl rfl rfl) ?_
  refine Run.go (Ev.move rfl rfl) ?_
  refine Run.go (Ev.int rfl rfl rfl rfl trivial) ?_
  refine Run.go (Ev.move rfl rfl) ?_
  rcases boolCases (decide (p0 < 128)) with hb3 | hb3
  · replace h := ifT hb3 h
    refine Run.on rfl rfl rfl hb3 (Ev.move rfl rfl) ?_
    refine Run.on rfl rfl rfl hb3 (Ev.int rfl rfl rfl rfl trivial) ?_
    refine Run.go (Ev.pickT rfl hb3 rfl rfl) ?_
    refine Run.go (Ev.move rfl rfl) ?_
    rcases boolCases (decide (0 ≤ x1)) with hb4 | hb4
    · replace h := ifT hb4 h
      refine Run.on rfl rfl rfl hb4 (Ev.move rfl rfl) ?_
      refine Run.on rfl rfl rfl hb4 (Ev.move rfl rfl) ?_
      refine Run.on rfl rfl rfl hb4 (Ev.int rfl rfl rfl rfl trivial) ?_
      refine Run.go (Ev.pickT rfl hb4 rfl rfl) ?_
      refine Run.go (Ev.assign rfl rfl) ?_
      refine Run.go (Ev.assign rfl rfl) ?_
      refine Run.nil ?_
      refine T.ret ?_
      cases h
      exact Fin.many X rfl (.cons (.tmp .v) (.cons (.tmp .v) .nil)) rfl
    · replace h := ifF hb4 h
      refine Run.offT rfl rfl rfl rfl hb4 ?_
      refine Run.offT rfl rfl rfl rfl hb4 ?_
      refine Run.offT rfl rfl rfl rfl hb4 ?_
      refine Run.go (Ev.pickF rfl hb4 rfl rfl) ?_
      refine Run.go (Ev.assign rfl rfl) ?_
      refine Run.go (Ev.assign rfl rfl) ?_
      refine Run.nil ?_
      refine T.ret ?_
      cases h
      exact Fin.many X rfl (.cons (.tmp .v) (.cons (.tmp .v) .nil)) rfl
  · replace h := ifF hb3 h
    refine Run.offT rfl rfl rfl rfl hb3 ?_
    refine Run.offT rfl rfl rfl rfl hb3 ?_
    refine Run.go (Ev.pickF rfl hb3 rfl rfl) ?_
    refine Run.go (Ev.move rfl rfl) ?_
    refine Run.offT rfl rfl rfl rfl rfl ?_
    refine Run.offT rfl rfl rfl rfl rfl ?_
    refine Run.offT rfl rfl rfl rfl rfl ?_
    refine Run.go (Ev.pickF rfl rfl rfl rfl) ?_
    refine Run.go (Ev.assign rfl rfl) ?_
    refine Run.go (Ev.assign rfl rfl) ?_
    refine Run.nil ?_
    refine T.ret ?_
    cases h
    exact Fin.many X rfl (.cons (.tmp .v) (.cons (.tmp .v) .nil)) rfl
theorem en67 : Enters Tryz.prog 67 := ⟨_, Tryz.func67, rfl, rfl⟩
theorem k_limb_Add {p0 : Int} {p1 : Int} {p2 : Int} {y : Int × Int} (h : m_limb_Add p0 p1 p2 = some y) : Spec Tryz.prog 67 [(.v (.int .u64) p0), (.v (.int .u64) p1), (.v (.int .u64) p2)] (.tup [.v (.int .u64) y.1, .v (.int .u64) y.2]) [] := by
  rw [m_limb_Add] at h
  refine enterN [(.v (.int .u64) p0), (.v (.int .u64) p1), (.v (.int .u64) p2)] 21 Tryz.func67 rfl rfl rfl ?_
  refine T.seq ?_
  refine T.region ?_
  refine Run.go (Ev.assign rfl rfl) ?_
  refine Run.go (Ev.assign rfl rfl) ?_
  refine Run.nil ?_
  refine T.seq ?_
  refine T.region ?_
  refine Run.go (Ev.move rfl rfl) ?_
  refine Run.go (Ev.int rfl rfl rfl rfl trivial) ?_
  refine Run.go (Ev.move rfl rfl) ?_
  refine Run.go (Ev.int rfl rfl rfl rfl trivial) ?_
  refine Run.go (Ev.int rfl rfl rfl rfl trivial) ?_
  refine Run.go (Ev.move rfl rfl) ?_
  refine Run.go (Ev.int rfl rfl rfl rfl trivial) ?_
  refine Run.go (Ev.int rfl rfl rfl rfl trivial) ?_
  obtain ⟨x1, e2, h⟩ := ltS h
  refine Run.go (Ev.avs (Ev.assign rfl rfl) e2) ?_
  refine Run.nil ?_
  refine T.seq ?_
  refine T.region ?_
  refine Run.go (Ev.move rfl rfl) ?_
  refine Run.go (Ev.int rfl rfl rfl rfl trivial) ?_
  refine Run.go (Ev.move rfl rfl) ?_
  obtain ⟨x3, e4, h⟩ := bdS h
  refine Run.go (Ev.e_sr e4 rfl rfl rfl) ?_
  refine Run.go (Ev.assign rfl rfl) ?_
  refine Run.go (Ev.assign rfl rfl) ?_
  refine Run.nil ?_
  refine T.ret ?_
  cases h
  exact Fin.many X rfl (.cons (.tmp .v) (.cons (.tmp .v) .nil)) rfl
theorem en68 : Enters Tryz.prog 68 := ⟨_, Tryz.func68, rfl, rfl⟩
theorem k_limb_Mul {p0 : Int} {p1 : Int} {p2 : Int} {p3 : Int} {y : Int × Int} (h : m_limb_Mul p0 p1 p2 p3 = some y) : Spec Tryz.prog 68 [(.v (.int .u64) p0), (.v (.int .u64) p1), (.v (.int .u64) p2), (.v (.int .u64) p3)] (.tup [.v (.int .u64) y.1, .v (.int .u64) y.2]) [] := by
  rw [m_limb_Mul] at h
  refine enterN [(.v (.int .u64) p0), (.v (.int .u64) p1), (.v (.int .u64) p2), (.v (.int .u64) p3)] 26 Tryz.func68 rfl rfl rfl ?_
  refine T.seq ?_
  refine T.region ?_
  refine Run.go (Ev.assign rfl rfl) ?_
  refine Run.go (Ev.assign rfl rfl) ?_
  refine Run.nil ?_
  refine T.seq ?_
  refine T.region ?_
  refine Run.go (Ev.move rfl rfl) ?_
  refine Run.go (Ev.int rfl rfl rfl rfl trivial) ?_
  refine Run.go (Ev.move rfl rfl) ?_
  refine Run.go (Ev.int rfl rfl rfl rfl trivial) ?_
  refine Run.go (Ev.int rfl rfl rfl rfl trivial) ?_
  refine Run.go (Ev.move rfl rfl) ?_
  refine Run.go (Ev.int rfl rfl rfl rfl trivial) ?_
  refine Run.go (Ev.int rfl rfl rfl rfl trivial) ?_
  refine Run.go (Ev.move rfl rfl) ?_
  refine Run.go (Ev.int rfl rfl rfl rfl trivial) ?_
  refine Run.go (Ev.int rfl rfl rfl rfl trivial) ?_
  obtain ⟨x1, e2, h⟩ := ltS h
  refine Run.go (Ev.avs (Ev.assign rfl rfl) e2) ?_
  refine Run.nil ?_
  refine T.seq ?_
  refine T.region ?_
  refine Run.go (Ev.move rfl rfl) ?_
  refine Run.go (Ev.int rfl rfl rfl rfl trivial) ?_
  refine Run.go (Ev.move rfl rfl) ?_
  obtain ⟨x3, e4, h⟩ := bdS h
  refine Run.go (Ev.e_sr e4 rfl rfl rfl) ?_
  refine Run.go (Ev.assign rfl rfl) ?_
  refine Run.go (Ev.assign rfl rfl) ?_
  refine Run.nil ?_
  refine T.ret ?_
  cases h
  exact Fin.many X rfl (.cons (.tmp .v) (.cons (.tmp .v) .nil)) rfl
theorem en77 : Enters Tryz.prog 77 := ⟨_, Tryz.func77, rfl, rfl⟩
theorem k_nat_trim {p0 : (List Int)} {y : (List Int)} (h : m_nat_trim p0 = some y) : Spec Tryz.prog 77 [(.v (.sl (.int .u64)) p0)] (.v (.sl (.int .u64)) y) [] := by
  rw [m_nat_trim] at h
  refine enterN [(.v (.sl (.int .u64)) p0)] 21 Tryz.func77 rfl rfl rfl ?_
  refine T.seq ?_
  refine T.region ?_
  refine Run.go (Ev.assign rfl rfl) ?_
  refine Run.nil ?_
  refine T.seq ?_
  refine T.region ?_
  refine Run.go (Ev.move rfl rfl) ?_
  refine Run.go (Ev.len X rfl rfl rfl rfl) ?_
  refine Run.go (Ev.assign rfl rfl) ?_
  refine Run.nil ?_
  obtain ⟨v1, hv, h⟩ := bdS h
  refine T.cut (fun _ : Unit => (⟨[(0, .v (.sl (.int .u64)) p0), (3, .v (.int .i64) v1)], [], 21⟩ : St)) (fun _ => True) ?_ (fun _ _ => ?_)
  · replace h := hv
    clear hv
    refine T.block ?_
    refine T.loop (LoopT.ghost (Ghost.only [] [0, 3] rfl) (LoopT.run (fun q : Int => (⟨[(0, .v (.sl (.int .u64)) p0), (3, .v (.int .i64) q)], [], 21⟩ : St)) (fun v2 z1 h hz1 => ?_) h))
    rw [m_nat_trim_l1] at h
    refine T.seq ?_
    obtain ⟨v3, hv, h⟩ := bdS h
    refine T.cut (fun _ : Unit => (⟨[(0, .v (.sl (.int .u64)) p0), (3, .v (.int .i64) v2), (15, .v .bool v3)], [], 21⟩ : St)) (fun _ => True) ?_ (fun _ _ => ?_)
    · replace h := hv
      clear hv
      refine T.region ?_
      refine Run.go (Ev.move rfl rfl) ?_
      refine Run.go (Ev.int rfl rfl rfl rfl trivial) ?_
      refine Run.go (Ev.move rfl rfl) ?_
      rcases boolCases (decide (0 < v2)) with hb4 | hb4
      · replace h := ifT hb4 h
        refine Run.on rfl rfl rfl hb4 (Ev.move rfl rfl) ?_
        refine Run.on rfl rfl rfl hb4 (Ev.move rfl rfl) ?_
        refine Run.on rfl rfl rfl hb4 (Ev.int rfl rfl rfl rfl trivial) ?_
        obtain ⟨x5, e6, h⟩ := bdS h
        refine Run.on rfl rfl rfl hb4 (Ev.e_rd X e6 rfl rfl rfl rfl) ?_
        refine Run.on rfl rfl rfl hb4 (Ev.load X rfl rfl rfl) ?_
        refine Run.on rfl rfl rfl hb4 (Ev.int rfl rfl rfl rfl trivial) ?_
        refine Run.go (Ev.pickT rfl hb4 rfl rfl) ?_
        refine Run.nil ?_
        cases h
        exact ⟨(), trivial, Ghost.only [] [0, 3, 15] rfl⟩
      · replace h := ifF hb4 h
        refine Run.offT rfl rfl rfl rfl hb4 ?_
        refine Run.offT rfl rfl rfl rfl hb4 ?_
        refine Run.offT rfl rfl rfl rfl hb4 ?_
        refine Run.offT rfl rfl rfl rfl hb4 ?_
        refine Run.offT rfl rfl rfl rfl hb4 ?_
        refine Run.offT rfl rfl rfl rfl hb4 ?_
        refine Run.go (Ev.pickF rfl hb4 rfl rfl) ?_
        refine Run.nil ?_
        cases h
        exact ⟨(), trivial, Ghost.only [] [0, 3, 15] rfl⟩
    · refine T.cond rfl (fun hb7 => ?_) (fun hb7 => ?_)
      · replace h := ifT hb7 h
        refine T.skip ?_
        refine T.block ?_
        refine T.region ?_
        refine Run.go (Ev.move rfl rfl) ?_
        refine Run.go (Ev.int rfl rfl rfl rfl trivial) ?_
        refine Run.go (Ev.assign rfl rfl) ?_
        refine Run.nil ?_
        cases h
        exact LoopT.ghost (Ghost.only [] [0, 3] rfl) hz1
      · replace h := ifF hb7 h
        refine T.exit ?_
        cases h
        cases hz1
        exact ⟨(), trivial, Ghost.only [] [0, 3] rfl⟩
  · refine T.seq ?_
    refine T.region ?_
    refine Run.go (Ev.move rfl rfl) ?_
    refine Run.go (Ev.move rfl rfl) ?_
    obtain ⟨x8, e9, h⟩ := bdS h
    refine Run.go (Ev.e_ct X e9 rfl rfl rfl (fun _ h => by cases h) (fun _ => rfl) (fun _ _ => cutAt_of rfl) (fun h => by cases h)) ?_
    refine Run.go (Ev.assign rfl rfl) ?_
    refine Run.nil ?_
    refine T.ret ?_
    cases h
    exact Fin.one rfl .v
theorem en72 : Enters Tryz.prog 72 := ⟨_, Tryz.func72, rfl, rfl⟩
theorem k_nat_Make {p0 : (List Int)} {y : (List Int) × Int} (h : m_nat_Make p0 = some y) : Spec Tryz.prog 72 [(.v (.sl (.int .u64)) p0)] (.tup [.v (.sl (.int .u64)) y.1, .v (.int .i64) y.2]) [] := by
  rw [m_nat_Make] at h
  refine enterN [(.v (.sl (.int .u64)) p0)] 25 Tryz.func72 rfl rfl rfl ?_
  refine T.seq ?_
  refine T.region ?_
  refine Run.go (Ev.assign rfl rfl) ?_
  refine Run.go (Ev.assign rfl rfl) ?_
  refine Run.nil ?_
  refine T.seq ?_
  refine T.region ?_
  refine Run.go (Ev.move rfl rfl) ?_
  refine Run.go (Ev.len X rfl rfl rfl rfl) ?_
  obtain ⟨x1, e2, h⟩ := bdS h
  refine Run.go (Ev.e_mk X 1 e2 rfl rfl rfl rfl rfl rfl) ?_
  refine Run.go (Ev.assign rfl rfl) ?_
  refine Run.nil ?_
  refine T.seq ?_
  refine T.seq ?_
  refine T.region ?_
  refine Run.go (Ev.move rfl rfl) ?_
  refine Run.go (Ev.len X rfl rfl rfl rfl) ?_
  refine Run.go (Ev.move rfl rfl) ?_
  refine Run.nil ?_
  refine T.block ?_
  refine T.loop (LoopT.ghost (Ghost.only [(1, 5)] [4, 10, 11, 12] rfl) (LoopT.run (fun q : Int × (List Int) => (⟨[(4, .own 5), (10, .v (.sl (.int .u64)) p0), (11, .v (.int .i64) ((p0.length : Int) : Int)), (12, .v (.int .i64) q.1)], [(5, .arr 60 (.int .u64) q.2)], 25⟩ : St)) (fun q z1 h hz1 => ?_) h))
  obtain ⟨v3, v4⟩ := q
  dsimp only
  rw [m_nat_Make_l1] at h
  refine T.seq ?_
  refine T.region ?_
  refine Run.go (Ev.int rfl rfl rfl rfl trivial) ?_
  refine Run.nil ?_
  refine T.seq ?_
  refine T.cond rfl (fun hb5 => ?_) (fun hb5 => ?_)
  · replace h := ifT hb5 h
    refine T.skip ?_
    refine T.seq ?_
    refine T.block ?_
    refine T.seq ?_
    refine T.region ?_
    obtain ⟨x6, e7, h⟩ := bdS h
    refine Run.go (Ev.e_rd X e7 rfl rfl rfl rfl) ?_
    refine Run.go (Ev.load X rfl rfl rfl) ?_
    refine Run.go (Ev.assign rfl rfl) ?_
    refine Run.nil ?_
    refine T.seq ?_
    refine T.seq ?_
    refine T.region ?_
    refine Run.go (Ev.move rfl rfl) ?_
    refine Run.go (Ev.int rfl rfl rfl rfl trivial) ?_
    refine Run.nil ?_
    refine T.cond rfl (fun hb8 => ?_) (fun hb8 => ?_)
    · replace h := ifT hb8 h
      refine T.seq ?_
      refine T.region ?_
      refine Run.go (Ev.assign rfl rfl) ?_
      refine Run.go (Ev.assign rfl rfl) ?_
      refine Run.nil ?_
      refine T.ret ?_
      cases h
      cases hz1
      exact Fin.many X rfl (.cons (.tmp .nilv) (.cons (.tmp .v) .nil)) rfl
    · replace h := ifF hb8 h
      refine T.skip ?_
      refine T.region ?_
      refine Run.go (Ev.move rfl rfl) ?_
      refine Run.go (Ev.move rfl rfl) ?_
      refine Run.go (Ev.build X 9 rfl rfl rfl rfl rfl rfl rfl rfl) ?_
      obtain ⟨x9, e10, h⟩ := bdS h
      refine Run.go (Ev.e_ap X 10 e10 rfl rfl rfl (.own rfl) rfl rfl rfl rfl rfl) ?_
      refine Run.go (Ev.assign rfl rfl) ?_
      refine Run.nil ?_
      refine T.region ?_
      refine Run.go (Ev.int rfl rfl rfl rfl trivial) ?_
      refine Run.go (Ev.move rfl rfl) ?_
      refine Run.nil ?_
      cases h
      exact LoopT.ghost (Ghost.only [(10, 5)] [4, 10, 11, 12] rfl) hz1
  · replace h := ifF hb5 h
    refine T.exit ?_
    refine T.seq ?_
    refine T.region ?_
    refine Run.go (Ev.move rfl rfl) ?_
    refine Run.ghost (Ghost.firmAll (id := 5) rfl) ?_
    obtain ⟨x11, e12, h⟩ := bdS h
    refine Run.go (Ev.callC en77 (k_nat_trim e12) rfl (.cons .v .nil) rfl rfl) ?_
    refine Run.go (Ev.assign rfl rfl) ?_
    refine Run.go (Ev.assign rfl rfl) ?_
    refine Run.nil ?_
    refine T.ret ?_
    cases h
    cases hz1
    exact Fin.many X rfl (.cons (.tmp .v) (.cons (.tmp .v) .nil)) rfl
theorem en69 : Enters Tryz.prog 69 := ⟨_, Tryz.func69, rfl, rfl⟩
theorem k_mul_made {p0 : (List Int)} {y : (List Int)} (h : m_mul_made p0 = some y) : Spec Tryz.prog 69 [(.v (.sl (.int .u64)) p0)] (.v (.sl (.int .u64)) y) [] := by
  rw [m_mul_made] at h
  refine enterN [(.v (.sl (.int .u64)) p0)] 11 Tryz.func69 rfl rfl rfl ?_
  refine T.seq ?_
  refine T.region ?_
  refine Run.go (Ev.assign rfl rfl) ?_
  refine Run.nil ?_
  refine T.seq ?_
  refine T.region ?_
  refine Run.go (Ev.move rfl rfl) ?_
  obtain ⟨x1, e2, h⟩ := bdS h
  refine Run.go (Ev.callC en72 (k_nat_Make e2) rfl (.cons .v .nil) rfl rfl) ?_
  refine Run.go (Ev.move rfl rfl) ?_
  refine Run.go (Ev.extract rfl rfl rfl) ?_
  refine Run.go (Ev.extract rfl rfl rfl) ?_
  refine Run.go (Ev.assign rfl rfl) ?_
  refine Run.go (Ev.assign rfl rfl) ?_
  refine Run.nil ?_
  refine T.seq ?_
  refine T.region ?_
  refine Run.go (Ev.move rfl rfl) ?_
  refine Run.go (Ev.assign rfl rfl) ?_
  refine Run.nil ?_
  refine T.ret ?_
  cases h
  exact Fin.one rfl .v
theorem en25 : Enters Tryz.prog 25 := ⟨_, Tryz.func25, rfl, rfl⟩
theorem k_mul_Small {p0 : (List Int)} {p1 : Int} {p2 : Int} {y : (List Int)} (h : m_mul_Small p0 p1 p2 = some y) : Spec Tryz.prog 25 [(.v (.sl (.int .u64)) p0), (.v (.int .u64) p1), (.v (.int .u64) p2)] (.v (.sl (.int .u64)) y) [] := by
  rw [m_mul_Small] at h
  refine enterN [(.v (.sl (.int .u64)) p0), (.v (.int .u64) p1), (.v (.int .u64) p2)] 46 Tryz.func25 rfl rfl rfl ?_
  refine T.seq ?_
  refine T.region ?_
  refine Run.go (Ev.assign rfl rfl) ?_
  refine Run.nil ?_
  refine T.seq ?_
  refine T.region ?_
  refine Run.go (Ev.move rfl rfl) ?_
  refine Run.go (Ev.len X rfl rfl rfl rfl) ?_
  refine Run.go (Ev.int rfl rfl rfl rfl trivial) ?_
  obtain ⟨x1, e2, h⟩ := bdS h
  refine Run.go (Ev.e_mk X 1 e2 rfl rfl rfl rfl rfl rfl) ?_
  refine Run.go (Ev.assign rfl rfl) ?_
  refine Run.nil ?_
  refine T.seq ?_
  refine T.region ?_
  refine Run.go (Ev.move rfl rfl) ?_
  obtain ⟨x3, e4, h⟩ := bdS h
  refine Run.go (Ev.callC en67 (k_limb_Add e4) rfl (.cons .v (.cons .v (.cons .v .nil))) rfl rfl) ?_
  refine Run.go (Ev.move rfl rfl) ?_
  refine Run.go (Ev.extract rfl rfl rfl) ?_
  refine Run.go (Ev.extract rfl rfl rfl) ?_
  refine Run.go (Ev.assign rfl rfl) ?_
  refine Run.go (Ev.assign rfl rfl) ?_
  refine Run.nil ?_
  obtain ⟨⟨v5, v6⟩, hv, h⟩ := bdS h
  refine T.cut (fun _ : Unit => (⟨[(0, .v (.sl (.int .u64)) p0), (7, .own 1), (8, .v (.int .u64) v5)], [(1, .arr 60 (.int .u64) v6)], 46⟩ : St)) (fun _ => True) ?_ (fun _ _ => ?_)
  · replace h := hv
    clear hv
    refine T.seq ?_
    refine T.region ?_
    refine Run.go (Ev.move rfl rfl) ?_
    refine Run.go (Ev.len X rfl rfl rfl rfl) ?_
    refine Run.go (Ev.move rfl rfl) ?_
    refine Run.nil ?_
    refine T.block ?_
    refine T.loop (LoopT.ghost (Ghost.only [(1, 1)] [0, 1, 7, 8, 21, 22, 23] rfl) (LoopT.run (fun q : Int × Int × (List Int) => (⟨[(0, .v (.sl (.int .u64)) p0), (1, .v (.int .u64) p1), (7, .own 1), (8, .v (.int .u64) q.1), (21, .v (.sl (.int .u64)) p0), (22, .v (.int .i64) ((p0.length : Int) : Int)), (23, .v (.int .i64) q.2.1)], [(1, .arr 60 (.int .u64) q.2.2)], 46⟩ : St)) (fun q z1 h hz1 => ?_) h))
    obtain ⟨v7, v8, v9⟩ := q
    dsimp only
    rw [m_mul_Small_l1] at h
    refine T.seq ?_
    refine T.region ?_
    refine Run.go (Ev.int rfl rfl rfl rfl trivial) ?_
    refine Run.nil ?_
    refine T.seq ?_
    refine T.cond rfl (fun hb10 => ?_) (fun hb10 => ?_)
    · replace h := ifT hb10 h
      refine T.skip ?_
      refine T.seq ?_
      refine T.block ?_
      refine T.seq ?_
      refine T.region ?_
      refine Run.go (Ev.move rfl rfl) ?_
      obtain ⟨x11, e12, h⟩ := bdS h
      refine Run.go (Ev.e_rd X e12 rfl rfl rfl rfl) ?_
      refine Run.go (Ev.load X rfl rfl rfl) ?_
      refine Run.go (Ev.assign rfl rfl) ?_
      refine Run.go (Ev.assign rfl rfl) ?_
      refine Run.nil ?_
      refine T.region ?_
      refine Run.go (Ev.move rfl rfl) ?_
      refine Run.go (Ev.move rfl rfl) ?_
      refine Run.go (Ev.move rfl rfl) ?_
      refine Run.go (Ev.move rfl rfl) ?_
      refine Run.go (Ev.move rfl rfl) ?_
      obtain ⟨x13, e14, h⟩ := bdS h
      refine Run.go (Ev.callC en68 (k_limb_Mul e14) rfl (.cons .v (.cons .v (.cons .v (.cons .v .nil)))) rfl rfl) ?_
      refine Run.go (Ev.move rfl rfl) ?_
      refine Run.go (Ev.extract rfl rfl rfl) ?_
      refine Run.go (Ev.extract rfl rfl rfl) ?_
      obtain ⟨j15, e16, h⟩ := bdS h
      refine Run.go (Ev.e_ixO X e16 rfl rfl rfl rfl rfl) ?_
      obtain ⟨x17, e18, h⟩ := ltS h
      refine Run.do_ (Ev.asO (Ev.storeEl X rfl rfl rfl rfl rfl) e18) ?_
      refine Run.go (Ev.assign rfl rfl) ?_
      refine Run.nil ?_
      refine T.region ?_
      refine Run.go (Ev.int rfl rfl rfl rfl trivial) ?_
      refine Run.go (Ev.move rfl rfl) ?_
      refine Run.nil ?_
      cases h
      exact LoopT.ghost (Ghost.only [(1, 1)] [0, 1, 7, 8, 21, 22, 23] rfl) hz1
    · replace h := ifF hb10 h
      refine T.exit ?_
      cases h
      cases hz1
      exact ⟨(), trivial, Ghost.only [(1, 1)] [0, 7, 8] rfl⟩
  · refine T.seq ?_
    refine T.region ?_
    refine Run.go (Ev.move rfl rfl) ?_
    refine Run.go (Ev.move rfl rfl) ?_
    refine Run.go (Ev.len X rfl rfl rfl rfl) ?_
    refine Run.go (Ev.move rfl rfl) ?_
    obtain ⟨j19, e20, h⟩ := bdS h
    refine Run.go (Ev.e_ixO X e20 rfl rfl rfl rfl rfl) ?_
    obtain ⟨x21, e22, h⟩ := ltS h
    refine Run.do_ (Ev.asO (Ev.storeEl X rfl rfl rfl rfl rfl) e22) ?_
    refine Run.nil ?_
    refine T.seq ?_
    refine T.region ?_
    refine Run.go (Ev.move rfl rfl) ?_
    refine Run.ghost (Ghost.firmAll (id := 1) rfl) ?_
    obtain ⟨x23, e24, h⟩ := bdS h
    refine Run.go (Ev.callC en69 (k_mul_made e24) rfl (.cons .v .nil) rfl rfl) ?_
    refine Run.go (Ev.assign rfl rfl) ?_
    refine Run.nil ?_
    refine T.ret ?_
    cases h
    exact Fin.one rfl .v
theorem en98 : Enters Tryz.prog 98 := ⟨_, Tryz.func98, rfl, rfl⟩
theorem k_digits_From {p0 : ByteArray} {p1 : Int} {y : (List Int) × Int} (h : m_digits_From p0 p1 = some y) : Spec Tryz.prog 98 [(.v .str p0), (.v (.int .i64) p1)] (.tup [.v (.sl (.int .u64)) y.1, .v (.int .i64) y.2]) [] := by
  rw [m_digits_From] at h
  refine enterN [(.v .str p0), (.v (.int .i64) p1)] 57 Tryz.func98 rfl rfl rfl ?_
  refine T.seq ?_
  refine T.region ?_
  refine Run.go (Ev.assign rfl rfl) ?_
  refine Run.go (Ev.assign rfl rfl) ?_
  refine Run.nil ?_
  refine T.seq ?_
  refine T.seq ?_
  refine T.region ?_
  refine Run.go (Ev.move rfl rfl) ?_
  obtain ⟨x1, e2, h⟩ := bdS h
  refine Run.go (Ev.callC en101 (k_digits_based e2) rfl (.cons .v .nil) rfl rfl) ?_
  refine Run.go (Ev.assign rfl rfl) ?_
  refine Run.nil ?_
  refine T.seq ?_
  refine T.region ?_
  refine Run.go (Ev.move rfl rfl) ?_
  refine Run.go (Ev.int rfl rfl rfl rfl trivial) ?_
  refine Run.nil ?_
  refine T.cond rfl (fun hb3 => ?_) (fun hb3 => ?_)
  · replace h := ifT hb3 h
    refine T.seq ?_
    refine T.region ?_
    refine Run.go (Ev.move rfl rfl) ?_
    refine Run.go (Ev.assign rfl rfl) ?_
    refine Run.go (Ev.assign rfl rfl) ?_
    refine Run.nil ?_
    refine T.ret ?_
    cases h
    exact Fin.many X rfl (.cons (.tmp .nilv) (.cons (.tmp .v) .nil)) rfl
  · replace h := ifF hb3 h
    refine T.skip ?_
    refine T.seq ?_
    refine T.seq ?_
    refine T.region ?_
    refine Run.go (Ev.move rfl rfl) ?_
    refine Run.go (Ev.strs rfl rfl rfl rfl trivial) ?_
    refine Run.nil ?_
    refine T.cond rfl (fun hb4 => ?_) (fun hb4 => ?_)
    · replace h := ifT hb4 h
      refine T.seq ?_
      refine T.region ?_
      refine Run.go (Ev.assign rfl rfl) ?_
      refine Run.go (Ev.assign rfl rfl) ?_
      refine Run.nil ?_
      refine T.ret ?_
      cases h
      exact Fin.many X rfl (.cons (.tmp .nilv) (.cons (.tmp .v) .nil)) rfl
    · replace h := ifF hb4 h
      refine T.skip ?_
      refine T.seq ?_
      refine T.region ?_
      refine Run.go (Ev.assign rfl rfl) ?_
      refine Run.nil ?_
      refine T.seq ?_
      refine T.region ?_
      refine Run.go (Ev.assign rfl rfl) ?_
      refine Run.go (Ev.assign rfl rfl) ?_
      refine Run.nil ?_
      refine T.seq ?_
      refine T.seq ?_
      refine T.region ?_
      refine Run.go (Ev.move rfl rfl) ?_
      refine Run.go (Ev.e_range X 1 rfl rfl rfl rfl) ?_
      refine Run.nil ?_
      refine T.block ?_
      refine T.loop (LoopT.ghost (Ghost.trans (Ghost.nilv (t := 7) (τ := (.int .u64)) rfl) (Ghost.only [(1, 1)] [1, 7, 8, 9, 22] rfl)) (LoopT.run (fun q : (List Int) × Int × Int × Nat => (⟨[(1, .v (.int .i64) p1), (7, .v (.sl (.int .u64)) q.1), (8, .v (.int .u64) q.2.1), (9, .v (.int .u64) q.2.2.1), (22, .it 1)], [(1, .siter p0 q.2.2.2)], 57⟩ : St)) (fun q z1 h hz1 => ?_) h))
      obtain ⟨v5, v6, v7, v8⟩ := q
      dsimp only
      rw [m_digits_From_l1] at h
      refine T.seq ?_
      refine T.region ?_
      rcases boolCases (decide (v8 < p0.size)) with hb9 | hb9
      · replace h := ifT hb9 h
        refine Run.go (Ev.e_nextT hb9 rfl rfl rfl) ?_
        refine Run.go (Ev.extract rfl rfl rfl) ?_
        refine Run.nil ?_
        refine T.seq ?_
        refine T.condT rfl rfl ?_
        refine T.skip ?_
        refine T.block ?_
        refine T.seq ?_
        refine T.region ?_
        refine Run.go (Ev.extract rfl rfl rfl) ?_
        refine Run.go (Ev.assign rfl rfl) ?_
        refine Run.nil ?_
        refine T.seq ?_
        refine T.region ?_
        refine Run.go (Ev.move rfl rfl) ?_
        refine Run.go (Ev.move rfl rfl) ?_
        obtain ⟨x10, e11, h⟩ := bdS h
        refine Run.go (Ev.callC en119 (k_digits_value e11) rfl (.cons .v (.cons .v .nil)) rfl rfl) ?_
        refine Run.go (Ev.move rfl rfl) ?_
        refine Run.go (Ev.extract rfl rfl rfl) ?_
        refine Run.go (Ev.extract rfl rfl rfl) ?_
        refine Run.go (Ev.assign rfl rfl) ?_
        refine Run.go (Ev.assign rfl rfl) ?_
        refine Run.nil ?_
        refine T.seq ?_
        refine T.seq ?_
        refine T.region ?_
        refine Run.go (Ev.move rfl rfl) ?_
        refine Run.go (Ev.not rfl rfl) ?_
        refine Run.nil ?_
        refine T.cond rfl (fun hb12 => ?_) (fun hb12 => ?_)
        · replace h := ifT hb12 h
          refine T.seq ?_
          refine T.region ?_
          refine Run.go (Ev.assign rfl rfl) ?_
          refine Run.go (Ev.assign rfl rfl) ?_
          refine Run.nil ?_
          refine T.ret ?_
          cases h
          cases hz1
          exact Fin.many X rfl (.cons (.tmp .nilv) (.cons (.tmp .v) .nil)) rfl
        · replace h := ifF hb12 h
          refine T.skip ?_
          obtain ⟨⟨v13, v14, v15, v16⟩, hv, h⟩ := bdS h
          refine T.cut (fun _ : Unit => (⟨[(1, .v (.int .i64) p1), (7, .v (.sl (.int .u64)) v13), (8, .v (.int .u64) v14), (9, .v (.int .u64) v15), (12, .v (.int .u64) x10.1), (22, .it 1)], [(1, .siter p0 v16)], 57⟩ : St)) (fun _ => True) ?_ (fun _ _ => ?_)
          · replace h := hv
            clear hv
            refine T.seq ?_
            refine T.region ?_
            refine Run.go (Ev.move rfl rfl) ?_
            refine Run.go (Ev.move rfl rfl) ?_
            refine Run.go (Ev.conv X rfl rfl rfl rfl) ?_
            refine Run.go (Ev.int rfl rfl rfl rfl trivial) ?_
            refine Run.go (Ev.int rfl rfl rfl rfl trivial) ?_
            refine Run.nil ?_
            refine T.cond rfl (fun hb17 => ?_) (fun hb17 => ?_)
            · replace h := ifT hb17 h
              refine T.seq ?_
              refine T.region ?_
              refine Run.go (Ev.move rfl rfl) ?_
              refine Run.go (Ev.move rfl rfl) ?_
              refine Run.go (Ev.move rfl rfl) ?_
              obtain ⟨x18, e19, h⟩ := bdS h
              refine Run.go (Ev.callC en25 (k_mul_Small e19) rfl (.cons .v (.cons .v (.cons .v .nil))) rfl rfl) ?_
              refine Run.go (Ev.assign rfl rfl) ?_
              refine Run.nil ?_
              refine T.region ?_
              refine Run.go (Ev.assign rfl rfl) ?_
              refine Run.go (Ev.assign rfl rfl) ?_
              refine Run.nil ?_
              cases h
              exact ⟨(), trivial, Ghost.only [(1, 1)] [1, 7, 8, 9, 12, 22] rfl⟩
            · replace h := ifF hb17 h
              refine T.skip ?_
              cases h
              exact ⟨(), trivial, Ghost.only [(1, 1)] [1, 7, 8, 9, 12, 22] rfl⟩
          · refine T.region ?_
            refine Run.go (Ev.move rfl rfl) ?_
            refine Run.go (Ev.move rfl rfl) ?_
            refine Run.go (Ev.conv X rfl rfl rfl rfl) ?_
            refine Run.go (Ev.int rfl rfl rfl rfl trivial) ?_
            refine Run.go (Ev.move rfl rfl) ?_
            refine Run.go (Ev.move rfl rfl) ?_
            refine Run.go (Ev.conv X rfl rfl rfl rfl) ?_
            refine Run.go (Ev.int rfl rfl rfl rfl trivial) ?_
            refine Run.go (Ev.move rfl rfl) ?_
            refine Run.go (Ev.int rfl rfl rfl rfl trivial) ?_
            refine Run.go (Ev.assign rfl rfl) ?_
            obtain ⟨x20, e21, h⟩ := ltS h
            refine Run.go (Ev.avs (Ev.assign rfl rfl) e21) ?_
            refine Run.nil ?_
            cases h
            exact LoopT.ghost (Ghost.only [(1, 1)] [1, 7, 8, 9, 22] rfl) hz1
      · replace h := ifF hb9 h
        refine Run.go (Ev.e_nextF hb9 rfl rfl rfl) ?_
        refine Run.go (Ev.extract rfl rfl rfl) ?_
        refine Run.nil ?_
        refine T.seq ?_
        refine T.condF rfl rfl ?_
        refine T.exit ?_
        refine T.seq ?_
        refine T.region ?_
        refine Run.go (Ev.move rfl rfl) ?_
        refine Run.go (Ev.move rfl rfl) ?_
        refine Run.go (Ev.move rfl rfl) ?_
        obtain ⟨x22, e23, h⟩ := bdS h
        refine Run.go (Ev.callC en25 (k_mul_Small e23) rfl (.cons .v (.cons .v (.cons .v .nil))) rfl rfl) ?_
        refine Run.go (Ev.assign rfl rfl) ?_
        refine Run.go (Ev.assign rfl rfl) ?_
        refine Run.nil ?_
        refine T.ret ?_
        cases h
        cases hz1
        exact Fin.many X rfl (.cons (.tmp .v) (.cons (.tmp .v) .nil)) rfl
theorem en65 : Enters Tryz.prog 65 := ⟨_, Tryz.func65, rfl, rfl⟩
theorem k_digits_Parse {p0 : ByteArray} {y : (List Int) × Int} (h : m_digits_Parse p0 = some y) : Spec Tryz.prog 65 [(.v .str p0)] (.tup [.v (.sl (.int .u64)) y.1, .v (.int .i64) y.2]) [] := by
  rw [m_digits_Parse] at h
  refine enterN [(.v .str p0)] 8 Tryz.func65 rfl rfl rfl ?_
  refine T.seq ?_
  refine T.region ?_
  refine Run.go (Ev.assign rfl rfl) ?_
  refine Run.go (Ev.assign rfl rfl) ?_
  refine Run.nil ?_
  refine T.seq ?_
  refine T.region ?_
  refine Run.go (Ev.move rfl rfl) ?_
  obtain ⟨x1, e2, h⟩ := bdS h
  refine Run.go (Ev.callC en98 (k_digits_From e2) rfl (.cons .v (.cons .v .nil)) rfl rfl) ?_
  refine Run.go (Ev.extract rfl rfl rfl) ?_
  refine Run.go (Ev.extract rfl rfl rfl) ?_
  refine Run.go (Ev.assign rfl rfl) ?_
  refine Run.go (Ev.assign rfl rfl) ?_
  refine Run.nil ?_
  refine T.ret ?_
  cases h
  exact Fin.many X rfl (.cons (.tmp .v) (.cons (.tmp .v) .nil)) rfl
theorem en64 : Enters Tryz.prog 64 := ⟨_, Tryz.func64, rfl, rfl⟩
theorem k_ratio_pair {p0 : ByteArray} {p1 : ByteArray} {y : (List Int) × (List Int) × Int} (h : m_ratio_pair p0 p1 = some y) : Spec Tryz.prog 64 [(.v .str p0), (.v .str p1)] (.tup [.v (.sl (.int .u64)) y.1, .v (.sl (.int .u64)) y.2.1, .v (.int .i64) y.2.2]) [] := by
  rw [m_ratio_pair] at h
  refine enterN [(.v .str p0), (.v .str p1)] 26 Tryz.func64 rfl rfl rfl ?_
  refine T.seq ?_
  refine T.region ?_
  refine Run.go (Ev.assign rfl rfl) ?_
  refine Run.go (Ev.assign rfl rfl) ?_
  refine Run.go (Ev.assign rfl rfl) ?_
  refine Run.nil ?_
  refine T.seq ?_
  refine T.region ?_
  refine Run.go (Ev.move rfl rfl) ?_
  obtain ⟨x1, e2, h⟩ := bdS h
  refine Run.go (Ev.callC en65 (k_digits_Parse e2) rfl (.cons .v .nil) rfl rfl) ?_
  refine Run.go (Ev.move rfl rfl) ?_
  refine Run.go (Ev.extract rfl rfl rfl) ?_
  refine Run.go (Ev.extract rfl rfl rfl) ?_
  refine Run.go (Ev.assign rfl rfl) ?_
  refine Run.go (Ev.assign rfl rfl) ?_
  refine Run.nil ?_
  refine T.seq ?_
  refine T.seq ?_
  refine T.region ?_
  refine Run.go (Ev.move rfl rfl) ?_
  refine Run.go (Ev.int rfl rfl rfl rfl trivial) ?_
  refine Run.nil ?_
  refine T.cond rfl (fun hb3 => ?_) (fun hb3 => ?_)
  · replace h := ifT hb3 h
    refine T.seq ?_
    refine T.region ?_
    refine Run.go (Ev.move rfl rfl) ?_
    refine Run.go (Ev.assign rfl rfl) ?_
    refine Run.go (Ev.assign rfl rfl) ?_
    refine Run.go (Ev.assign rfl rfl) ?_
    refine Run.nil ?_
    refine T.ret ?_
    cases h
    exact Fin.many X rfl (.cons (.tmp .nilv) (.cons (.tmp .nilv) (.cons (.tmp .v) .nil))) rfl
  · replace h := ifF hb3 h
    refine T.skip ?_
    refine T.seq ?_
    refine T.region ?_
    refine Run.go (Ev.move rfl rfl) ?_
    obtain ⟨x4, e5, h⟩ := bdS h
    refine Run.go (Ev.callC en65 (k_digits_Parse e5) rfl (.cons .v .nil) rfl rfl) ?_
    refine Run.go (Ev.move rfl rfl) ?_
    refine Run.go (Ev.extract rfl rfl rfl) ?_
    refine Run.go (Ev.extract rfl rfl rfl) ?_
    refine Run.go (Ev.assign rfl rfl) ?_
    refine Run.go (Ev.assign rfl rfl) ?_
    refine Run.nil ?_
    refine T.seq ?_
    refine T.region ?_
    refine Run.go (Ev.move rfl rfl) ?_
    refine Run.go (Ev.move rfl rfl) ?_
    refine Run.go (Ev.move rfl rfl) ?_
    refine Run.go (Ev.assign rfl rfl) ?_
    refine Run.go (Ev.assign rfl rfl) ?_
    refine Run.go (Ev.assign rfl rfl) ?_
    refine Run.nil ?_
    refine T.ret ?_
    cases h
    exact Fin.many X rfl (.cons (.tmp .v) (.cons (.tmp .v) (.cons (.tmp .v) .nil))) rfl
theorem en44 : Enters Tryz.prog 44 := ⟨_, Tryz.func44, rfl, rfl⟩
theorem k_nat_Of {p0 : Int} {y : (List Int)} (h : m_nat_Of p0 = some y) : Spec Tryz.prog 44 [(.v (.int .u64) p0)] (.v (.sl (.int .u64)) y) [] := by
  rw [m_nat_Of] at h
  refine enterN [(.v (.int .u64) p0)] 9 Tryz.func44 rfl rfl rfl ?_
  refine T.seq ?_
  refine T.region ?_
  refine Run.go (Ev.assign rfl rfl) ?_
  refine Run.nil ?_
  refine T.seq ?_
  refine T.region ?_
  refine Run.go (Ev.move rfl rfl) ?_
  obtain ⟨x1, e2, h⟩ := bdS h
  refine Run.go (Ev.e_rm e2 rfl rfl rfl) ?_
  refine Run.go (Ev.move rfl rfl) ?_
  obtain ⟨x3, e4, h⟩ := bdS h
  refine Run.go (Ev.e_sr e4 rfl rfl rfl) ?_
  refine Run.go (Ev.build X 1 rfl rfl rfl rfl rfl rfl rfl rfl) ?_
  refine Run.ghost (Ghost.firmAll (id := 1) rfl) ?_
  obtain ⟨x5, e6, h⟩ := bdS h
  refine Run.go (Ev.callC en77 (k_nat_trim e6) rfl (.cons .v .nil) rfl rfl) ?_
  refine Run.go (Ev.assign rfl rfl) ?_
  refine Run.nil ?_
  refine T.ret ?_
  cases h
  exact Fin.one rfl .v
theorem en108 : Enters Tryz.prog 108 := ⟨_, Tryz.func108, rfl, rfl⟩
theorem k_mul_Long {p0 : (List Int)} {p1 : (List Int)} {y : (List Int)} (h : m_mul_Long p0 p1 = some y) : Spec Tryz.prog 108 [(.v (.sl (.int .u64)) p0), (.v (.sl (.int .u64)) p1)] (.v (.sl (.int .u64)) y) [] := by
  rw [m_mul_Long] at h
  refine enterN [(.v (.sl (.int .u64)) p0), (.v (.sl (.int .u64)) p1)] 60 Tryz.func108 rfl rfl rfl ?_
  refine T.seq ?_
  refine T.region ?_
  refine Run.go (Ev.assign rfl rfl) ?_
  refine Run.nil ?_
  refine T.seq ?_
  refine T.region ?_
  refine Run.go (Ev.move rfl rfl) ?_
  refine Run.go (Ev.len X rfl rfl rfl rfl) ?_
  refine Run.go (Ev.move rfl rfl) ?_
  refine Run.go (Ev.len X rfl rfl rfl rfl) ?_
  refine Run.go (Ev.int rfl rfl rfl rfl trivial) ?_
  obtain ⟨x1, e2, h⟩ := bdS h
  refine Run.go (Ev.e_mk X 1 e2 rfl rfl rfl rfl rfl rfl) ?_
  refine Run.go (Ev.assign rfl rfl) ?_
  refine Run.nil ?_
  obtain ⟨v3, hv, h⟩ := bdS h
  refine T.cut (fun _ : Unit => (⟨[(5, .own 1)], [(1, .arr 60 (.int .u64) v3)], 60⟩ : St)) (fun _ => True) ?_ (fun _ _ => ?_)
  · replace h := hv
    clear hv
    refine T.seq ?_
    refine T.region ?_
    refine Run.go (Ev.move rfl rfl) ?_
    refine Run.go (Ev.len X rfl rfl rfl rfl) ?_
    refine Run.go (Ev.move rfl rfl) ?_
    refine Run.nil ?_
    refine T.block ?_
    refine T.loop (LoopT.ghost (Ghost.only [(1, 1)] [1, 5, 17, 18, 19] rfl) (LoopT.run (fun q : Int × (List Int) => (⟨[(1, .v (.sl (.int .u64)) p1), (5, .own 1), (17, .v (.sl (.int .u64)) p0), (18, .v (.int .i64) ((p0.length : Int) : Int)), (19, .v (.int .i64) q.1)], [(1, .arr 60 (.int .u64) q.2)], 60⟩ : St)) (fun q z1 h hz1 => ?_) h))
    obtain ⟨v4, v5⟩ := q
    dsimp only
    rw [m_mul_Long_l1] at h
    refine T.seq ?_
    refine T.region ?_
    refine Run.go (Ev.int rfl rfl rfl rfl trivial) ?_
    refine Run.nil ?_
    refine T.seq ?_
    refine T.cond rfl (fun hb6 => ?_) (fun hb6 => ?_)
    · replace h := ifT hb6 h
      refine T.skip ?_
      obtain ⟨v7, hv, h⟩ := bdS h
      refine T.cut (fun _ : Unit => (⟨[(1, .v (.sl (.int .u64)) p1), (5, .own 1), (17, .v (.sl (.int .u64)) p0), (18, .v (.int .i64) ((p0.length : Int) : Int)), (19, .v (.int .i64) v4)], [(1, .arr 60 (.int .u64) v7)], 60⟩ : St)) (fun _ => True) ?_ (fun _ _ => ?_)
      · replace h := hv
        clear hv
        refine T.block ?_
        refine T.seq ?_
        refine T.region ?_
        refine Run.go (Ev.move rfl rfl) ?_
        obtain ⟨x8, e9, h⟩ := bdS h
        refine Run.go (Ev.e_rd X e9 rfl rfl rfl rfl) ?_
        refine Run.go (Ev.load X rfl rfl rfl) ?_
        refine Run.go (Ev.assign rfl rfl) ?_
        refine Run.go (Ev.assign rfl rfl) ?_
        refine Run.nil ?_
        refine T.seq ?_
        refine T.region ?_
        refine Run.go (Ev.assign rfl rfl) ?_
        refine Run.nil ?_
        obtain ⟨⟨v10, v11⟩, hv, h⟩ := bdS h
        refine T.cut (fun _ : Unit => (⟨[(1, .v (.sl (.int .u64)) p1), (5, .own 1), (6, .v (.int .i64) v4), (8, .v (.int .u64) v10), (17, .v (.sl (.int .u64)) p0), (18, .v (.int .i64) ((p0.length : Int) : Int)), (19, .v (.int .i64) v4)], [(1, .arr 60 (.int .u64) v11)], 60⟩ : St)) (fun _ => True) ?_ (fun _ _ => ?_)
        · replace h := hv
          clear hv
          refine T.seq ?_
          refine T.region ?_
          refine Run.go (Ev.move rfl rfl) ?_
          refine Run.go (Ev.len X rfl rfl rfl rfl) ?_
          refine Run.go (Ev.move rfl rfl) ?_
          refine Run.nil ?_
          refine T.block ?_
          refine T.loop (LoopT.ghost (Ghost.only [(1, 1)] [1, 5, 6, 7, 8, 17, 18, 19, 24, 25, 26] rfl) (LoopT.run (fun q : Int × Int × (List Int) => (⟨[(1, .v (.sl (.int .u64)) p1), (5, .own 1), (6, .v (.int .i64) v4), (7, .v (.int .u64) x8), (8, .v (.int .u64) q.1), (17, .v (.sl (.int .u64)) p0), (18, .v (.int .i64) ((p0.length : Int) : Int)), (19, .v (.int .i64) v4), (24, .v (.sl (.int .u64)) p1), (25, .v (.int .i64) ((p1.length : Int) : Int)), (26, .v (.int .i64) q.2.1)], [(1, .arr 60 (.int .u64) q.2.2)], 60⟩ : St)) (fun q z2 h hz2 => ?_) h))
          obtain ⟨v12, v13, v14⟩ := q
          dsimp only
          rw [m_mul_Long_l2] at h
          refine T.seq ?_
          refine T.region ?_
          refine Run.go (Ev.int rfl rfl rfl rfl trivial) ?_
          refine Run.nil ?_
          refine T.seq ?_
          refine T.cond rfl (fun hb15 => ?_) (fun hb15 => ?_)
          · replace h := ifT hb15 h
            refine T.skip ?_
            refine T.seq ?_
            refine T.block ?_
            refine T.seq ?_
            refine T.region ?_
            refine Run.go (Ev.move rfl rfl) ?_
            obtain ⟨x16, e17, h⟩ := bdS h
            refine Run.go (Ev.e_rd X e17 rfl rfl rfl rfl) ?_
            refine Run.go (Ev.load X rfl rfl rfl) ?_
            refine Run.go (Ev.assign rfl rfl) ?_
            refine Run.go (Ev.assign rfl rfl) ?_
            refine Run.nil ?_
            refine T.region ?_
            refine Run.go (Ev.move rfl rfl) ?_
            refine Run.go (Ev.move rfl rfl) ?_
            refine Run.go (Ev.move rfl rfl) ?_
            refine Run.go (Ev.int rfl rfl rfl rfl trivial) ?_
            refine Run.go (Ev.move rfl rfl) ?_
            refine Run.go (Ev.move rfl rfl) ?_
            refine Run.go (Ev.move rfl rfl) ?_
            refine Run.go (Ev.move rfl rfl) ?_
            refine Run.go (Ev.move rfl rfl) ?_
            refine Run.go (Ev.int rfl rfl rfl rfl trivial) ?_
            obtain ⟨x18, e19, h⟩ := bdS h
            refine Run.go (Ev.e_rdO X e19 rfl rfl rfl rfl rfl) ?_
            refine Run.go (Ev.e_ldO X (rdS e19).2 rfl rfl rfl rfl) ?_
            refine Run.go (Ev.move rfl rfl) ?_
            obtain ⟨x20, e21, h⟩ := bdS h
            refine Run.go (Ev.callC en68 (k_limb_Mul e21) rfl (.cons .v (.cons .v (.cons .v (.cons .v .nil)))) rfl rfl) ?_
            refine Run.go (Ev.move rfl rfl) ?_
            refine Run.go (Ev.extract rfl rfl rfl) ?_
            refine Run.go (Ev.extract rfl rfl rfl) ?_
            obtain ⟨j22, e23, h⟩ := bdS h
            refine Run.go (Ev.e_ixO X e23 rfl rfl rfl rfl rfl) ?_
            obtain ⟨x24, e25, h⟩ := ltS h
            refine Run.do_ (Ev.asO (Ev.storeEl X rfl rfl rfl rfl rfl) e25) ?_
            refine Run.go (Ev.assign rfl rfl) ?_
            refine Run.nil ?_
            refine T.region ?_
            refine Run.go (Ev.int rfl rfl rfl rfl trivial) ?_
            refine Run.go (Ev.move rfl rfl) ?_
            refine Run.nil ?_
            cases h
            exact LoopT.ghost (Ghost.only [(1, 1)] [1, 5, 6, 7, 8, 17, 18, 19, 24, 25, 26] rfl) hz2
          · replace h := ifF hb15 h
            refine T.exit ?_
            cases h
            cases hz2
            exact ⟨(), trivial, Ghost.only [(1, 1)] [1, 5, 6, 8, 17, 18, 19] rfl⟩
        · refine T.region ?_
          refine Run.go (Ev.move rfl rfl) ?_
          refine Run.go (Ev.move rfl rfl) ?_
          refine Run.go (Ev.move rfl rfl) ?_
          refine Run.go (Ev.len X rfl rfl rfl rfl) ?_
          refine Run.go (Ev.int rfl rfl rfl rfl trivial) ?_
          refine Run.go (Ev.move rfl rfl) ?_
          obtain ⟨j26, e27, h⟩ := bdS h
          refine Run.go (Ev.e_ixO X e27 rfl rfl rfl rfl rfl) ?_
          obtain ⟨x28, e29, h⟩ := ltS h
          refine Run.do_ (Ev.asO (Ev.storeEl X rfl rfl rfl rfl rfl) e29) ?_
          refine Run.nil ?_
          cases h
          exact ⟨(), trivial, Ghost.only [(1, 1)] [1, 5, 17, 18, 19] rfl⟩
      · refine T.region ?_
        refine Run.go (Ev.int rfl rfl rfl rfl trivial) ?_
        refine Run.go (Ev.move rfl rfl) ?_
        refine Run.nil ?_
        cases h
        exact LoopT.ghost (Ghost.only [(1, 1)] [1, 5, 17, 18, 19] rfl) hz1
    · replace h := ifF hb6 h
      refine T.exit ?_
      cases h
      cases hz1
      exact ⟨(), trivial, Ghost.only [(1, 1)] [5] rfl⟩
  · refine T.seq ?_
    refine T.region ?_
    refine Run.go (Ev.move rfl rfl) ?_
    refine Run.ghost (Ghost.firmAll (id := 1) rfl) ?_
    obtain ⟨x30, e31, h⟩ := bdS h
    refine Run.go (Ev.callC en69 (k_mul_made e31) rfl (.cons .v .nil) rfl rfl) ?_
    refine Run.go (Ev.assign rfl rfl) ?_
    refine Run.nil ?_
    refine T.ret ?_
    cases h
    exact Fin.one rfl .v
theorem en109 : Enters Tryz.prog 109 := ⟨_, Tryz.func109, rfl, rfl⟩
theorem k_mul_cut {p0 : (List Int)} {p1 : Int} {y : (List Int) × (List Int)} (h : m_mul_cut p0 p1 = some y) : Spec Tryz.prog 109 [(.v (.sl (.int .u64)) p0), (.v (.int .i64) p1)] (.tup [.v (.sl (.int .u64)) y.1, .v (.sl (.int .u64)) y.2]) [] := by
  rw [m_mul_cut] at h
  refine enterN [(.v (.sl (.int .u64)) p0), (.v (.int .i64) p1)] 18 Tryz.func109 rfl rfl rfl ?_
  refine T.seq ?_
  refine T.region ?_
  refine Run.go (Ev.assign rfl rfl) ?_
  refine Run.go (Ev.assign rfl rfl) ?_
  refine Run.nil ?_
  refine T.seq ?_
  refine T.region ?_
  refine Run.go (Ev.move rfl rfl) ?_
  refine Run.go (Ev.move rfl rfl) ?_
  refine Run.go (Ev.len X rfl rfl rfl rfl) ?_
  refine Run.go (Ev.min rfl rfl rfl) ?_
  refine Run.go (Ev.assign rfl rfl) ?_
  refine Run.nil ?_
  refine T.seq ?_
  refine T.drawM [] [0, 0, 3, 7, 0, 0, 48, 127, 255, 511] (by kernel_rfl) (by kernel_rfl) ?_
  refine RunD.w (fun _ => Ev.move rfl rfl) ?_
  refine RunD.w (fun _ => Ev.move rfl rfl) ?_
  obtain ⟨x1, e2, h⟩ := bdS h
  refine RunD.a rfl rfl (Ev.e_ct X e2 rfl rfl rfl (fun _ h => by cases h) (fun _ => rfl) (fun _ _ => cutAt_of rfl) (fun h => by cases h)) ?_
  obtain ⟨x3, e4, h⟩ := bdS h
  refine RunD.a rfl rfl (Ev.callC en69 (k_mul_made e4) rfl (.cons .v .nil) rfl rfl) ?_
  refine RunD.w (fun _ => Ev.move rfl rfl) ?_
  refine RunD.w (fun _ => Ev.move rfl rfl) ?_
  obtain ⟨x5, e6, h⟩ := bdS h
  refine RunD.a rfl rfl (Ev.e_ct X e6 rfl rfl rfl (fun _ _ => cutAt_of rfl) (fun h => by cases h) (fun _ h => by cases h) (fun _ => rfl)) ?_
  obtain ⟨x7, e8, h⟩ := bdS h
  refine RunD.a rfl rfl (Ev.callC en69 (k_mul_made e8) rfl (.cons .v .nil) rfl rfl) ?_
  refine RunD.w (fun _ => Ev.assign rfl rfl) ?_
  refine RunD.w (fun _ => Ev.assign rfl rfl) ?_
  refine RunD.nil ?_
  refine T.ret ?_
  cases h
  exact Fin.many X rfl (.cons (.tmp .v) (.cons (.tmp .v) .nil)) rfl
theorem en99 : Enters Tryz.prog 99 := ⟨_, Tryz.func99, rfl, rfl⟩
theorem k_nat_at {p0 : (List Int)} {p1 : Int} {y : Int} (h : m_nat_at p0 p1 = some y) : Spec Tryz.prog 99 [(.v (.sl (.int .u64)) p0), (.v (.int .i64) p1)] (.v (.int .u64) y) [] := by
  rw [m_nat_at] at h
  refine enterN [(.v (.sl (.int .u64)) p0), (.v (.int .i64) p1)] 13 Tryz.func99 rfl rfl rfl ?_
  refine T.seq ?_
  refine T.region ?_
  refine Run.go (Ev.assign rfl rfl) ?_
  refine Run.nil ?_
  refine T.seq ?_
  refine T.seq ?_
  refine T.region ?_
  refine Run.go (Ev.move rfl rfl) ?_
  refine Run.go (Ev.move rfl rfl) ?_
  refine Run.go (Ev.len X rfl rfl rfl rfl) ?_
  refine Run.go (Ev.int rfl rfl rfl rfl trivial) ?_
  refine Run.nil ?_
  refine T.cond rfl (fun hb1 => ?_) (fun hb1 => ?_)
  · replace h := ifT hb1 h
    refine T.seq ?_
    refine T.region ?_
    refine Run.go (Ev.assign rfl rfl) ?_
    refine Run.nil ?_
    refine T.ret ?_
    cases h
    exact Fin.one rfl .v
  · replace h := ifF hb1 h
    refine T.skip ?_
    refine T.seq ?_
    refine T.region ?_
    refine Run.go (Ev.move rfl rfl) ?_
    refine Run.go (Ev.move rfl rfl) ?_
    obtain ⟨x2, e3, h⟩ := bdS h
    refine Run.go (Ev.e_rd X e3 rfl rfl rfl rfl) ?_
    refine Run.go (Ev.load X rfl rfl rfl) ?_
    refine Run.go (Ev.assign rfl rfl) ?_
    refine Run.nil ?_
    refine T.ret ?_
    cases h
    exact Fin.one rfl .v
end Go.Proofs.YtfboepeadeafmaaGreatDoor.AE
/- The code comes to the printed functions (printed by a program of ours). -/
namespace Go.Proofs.YtfboepeadeafmaaGreatDoor.AE
open Go Go.RowKit Go.Proofs.YtfboepeadeafmaaGreatDoor.AP
set_option linter.unusedVariables false
set_option maxRecDepth 20000
theorem en66 : Enters Tryz.prog 66 := ⟨_, Tryz.func66, rfl, rfl⟩
theorem k_nat_Add {p0 : (List Int)} {p1 : (List Int)} {y : (List Int)} (h : m_nat_Add p0 p1 = some y) : Spec Tryz.prog 66 [(.v (.sl (.int .u64)) p0), (.v (.sl (.int .u64)) p1)] (.v (.sl (.int .u64)) y) [] := by
  rw [m_nat_Add] at h
  refine enterN [(.v (.sl (.int .u64)) p0), (.v (.sl (.int .u64)) p1)] 42 Tryz.func66 rfl rfl rfl ?_
  refine T.seq ?_
  refine T.region ?_
  refine Run.go (Ev.assign rfl rfl) ?_
  refine Run.nil ?_
  refine T.seq ?_
  refine T.region ?_
  refine Run.go (Ev.move rfl rfl) ?_
  refine Run.go (Ev.len X rfl rfl rfl rfl) ?_
  refine Run.go (Ev.move rfl rfl) ?_
  refine Run.go (Ev.len X rfl rfl rfl rfl) ?_
  refine Run.go (Ev.max rfl rfl rfl) ?_
  obtain ⟨x1, e2, h⟩ := ltS h
  refine Run.go (Ev.avs (Ev.assign rfl rfl) e2) ?_
  refine Run.nil ?_
  refine T.seq ?_
  refine T.region ?_
  refine Run.go (Ev.move rfl rfl) ?_
  refine Run.go (Ev.int rfl rfl rfl rfl trivial) ?_
  obtain ⟨x3, e4, h⟩ := bdS h
  refine Run.go (Ev.e_mk X 1 e4 rfl rfl rfl rfl rfl rfl) ?_
  refine Run.go (Ev.assign rfl rfl) ?_
  refine Run.nil ?_
  refine T.seq ?_
  refine T.region ?_
  refine Run.go (Ev.assign rfl rfl) ?_
  refine Run.nil ?_
  obtain ⟨⟨v5, v6⟩, hv, h⟩ := bdS h
  refine T.cut (fun _ : Unit => (⟨[(5, .v (.int .i64) x1), (6, .own 1), (7, .v (.int .u64) v5)], [(1, .arr 60 (.int .u64) v6)], 42⟩ : St)) (fun _ => True) ?_ (fun _ _ => ?_)
  · replace h := hv
    clear hv
    refine T.seq ?_
    refine T.region ?_
    refine Run.go (Ev.move rfl rfl) ?_
    refine Run.go (Ev.move rfl rfl) ?_
    refine Run.nil ?_
    refine T.block ?_
    refine T.loop (LoopT.ghost (Ghost.only [(1, 1)] [0, 1, 5, 6, 7, 17, 18] rfl) (LoopT.run (fun q : Int × Int × (List Int) => (⟨[(0, .v (.sl (.int .u64)) p0), (1, .v (.sl (.int .u64)) p1), (5, .v (.int .i64) x1), (6, .own 1), (7, .v (.int .u64) q.1), (17, .v (.int .i64) x1), (18, .v (.int .i64) q.2.1)], [(1, .arr 60 (.int .u64) q.2.2)], 42⟩ : St)) (fun q z1 h hz1 => ?_) h))
    obtain ⟨v7, v8, v9⟩ := q
    dsimp only
    rw [m_nat_Add_l1] at h
    refine T.seq ?_
    refine T.region ?_
    refine Run.go (Ev.int rfl rfl rfl rfl trivial) ?_
    refine Run.nil ?_
    refine T.seq ?_
    refine T.cond rfl (fun hb10 => ?_) (fun hb10 => ?_)
    · replace h := ifT hb10 h
      refine T.skip ?_
      refine T.seq ?_
      refine T.block ?_
      refine T.seq ?_
      refine T.region ?_
      refine Run.go (Ev.move rfl rfl) ?_
      refine Run.go (Ev.assign rfl rfl) ?_
      refine Run.nil ?_
      refine T.region ?_
      refine Run.go (Ev.move rfl rfl) ?_
      refine Run.go (Ev.move rfl rfl) ?_
      refine Run.go (Ev.move rfl rfl) ?_
      refine Run.go (Ev.move rfl rfl) ?_
      obtain ⟨x11, e12, h⟩ := bdS h
      refine Run.go (Ev.callC en99 (k_nat_at e12) rfl (.cons .v (.cons .v .nil)) rfl rfl) ?_
      refine Run.go (Ev.move rfl rfl) ?_
      refine Run.go (Ev.move rfl rfl) ?_
      obtain ⟨x13, e14, h⟩ := bdS h
      refine Run.go (Ev.callC en99 (k_nat_at e14) rfl (.cons .v (.cons .v .nil)) rfl rfl) ?_
      refine Run.go (Ev.move rfl rfl) ?_
      obtain ⟨x15, e16, h⟩ := bdS h
      refine Run.go (Ev.callC en67 (k_limb_Add e16) rfl (.cons .v (.cons .v (.cons .v .nil))) rfl rfl) ?_
      refine Run.go (Ev.move rfl rfl) ?_
      refine Run.go (Ev.extract rfl rfl rfl) ?_
      refine Run.go (Ev.extract rfl rfl rfl) ?_
      obtain ⟨j17, e18, h⟩ := bdS h
      refine Run.go (Ev.e_ixO X e18 rfl rfl rfl rfl rfl) ?_
      obtain ⟨x19, e20, h⟩ := ltS h
      refine Run.do_ (Ev.asO (Ev.storeEl X rfl rfl rfl rfl rfl) e20) ?_
      refine Run.go (Ev.assign rfl rfl) ?_
      refine Run.nil ?_
      refine T.region ?_
      refine Run.go (Ev.int rfl rfl rfl rfl trivial) ?_
      refine Run.go (Ev.move rfl rfl) ?_
      refine Run.nil ?_
      cases h
      exact LoopT.ghost (Ghost.only [(1, 1)] [0, 1, 5, 6, 7, 17, 18] rfl) hz1
    · replace h := ifF hb10 h
      refine T.exit ?_
      cases h
      cases hz1
      exact ⟨(), trivial, Ghost.only [(1, 1)] [5, 6, 7] rfl⟩
  · refine T.seq ?_
    refine T.region ?_
    refine Run.go (Ev.move rfl rfl) ?_
    refine Run.go (Ev.move rfl rfl) ?_
    refine Run.go (Ev.move rfl rfl) ?_
    obtain ⟨j21, e22, h⟩ := bdS h
    refine Run.go (Ev.e_ixO X e22 rfl rfl rfl rfl rfl) ?_
    obtain ⟨x23, e24, h⟩ := ltS h
    refine Run.do_ (Ev.asO (Ev.storeEl X rfl rfl rfl rfl rfl) e24) ?_
    refine Run.nil ?_
    refine T.seq ?_
    refine T.region ?_
    refine Run.go (Ev.move rfl rfl) ?_
    refine Run.ghost (Ghost.firmAll (id := 1) rfl) ?_
    obtain ⟨x25, e26, h⟩ := bdS h
    refine Run.go (Ev.callC en77 (k_nat_trim e26) rfl (.cons .v .nil) rfl rfl) ?_
    refine Run.go (Ev.assign rfl rfl) ?_
    refine Run.nil ?_
    refine T.ret ?_
    cases h
    exact Fin.one rfl .v
theorem en43 : Enters Tryz.prog 43 := ⟨_, Tryz.func43, rfl, rfl⟩
theorem k_nat_Cmp {p0 : (List Int)} {p1 : (List Int)} {y : Int} (h : m_nat_Cmp p0 p1 = some y) : Spec Tryz.prog 43 [(.v (.sl (.int .u64)) p0), (.v (.sl (.int .u64)) p1)] (.v (.int .i64) y) [] := by
  rw [m_nat_Cmp] at h
  refine enterN [(.v (.sl (.int .u64)) p0), (.v (.sl (.int .u64)) p1)] 45 Tryz.func43 rfl rfl rfl ?_
  refine T.seq ?_
  refine T.region ?_
  refine Run.go (Ev.assign rfl rfl) ?_
  refine Run.nil ?_
  refine T.seq ?_
  refine T.block ?_
  refine T.seq ?_
  refine T.region ?_
  refine Run.go (Ev.move rfl rfl) ?_
  refine Run.go (Ev.len X rfl rfl rfl rfl) ?_
  refine Run.go (Ev.move rfl rfl) ?_
  refine Run.go (Ev.len X rfl rfl rfl rfl) ?_
  refine Run.go (Ev.int rfl rfl rfl rfl trivial) ?_
  obtain ⟨x1, e2, h⟩ := ltS h
  refine Run.go (Ev.avs (Ev.assign rfl rfl) e2) ?_
  refine Run.nil ?_
  refine T.cond rfl (fun hb3 => ?_) (fun hb3 => ?_)
  · replace h := ifT hb3 h
    refine T.seq ?_
    refine T.region ?_
    refine Run.go (Ev.assign rfl rfl) ?_
    refine Run.nil ?_
    refine T.ret ?_
    cases h
    exact Fin.one rfl .v
  · replace h := ifF hb3 h
    refine T.seq ?_
    refine T.region ?_
    refine Run.go (Ev.move rfl rfl) ?_
    refine Run.go (Ev.len X rfl rfl rfl rfl) ?_
    refine Run.go (Ev.move rfl rfl) ?_
    refine Run.go (Ev.len X rfl rfl rfl rfl) ?_
    refine Run.go (Ev.int rfl rfl rfl rfl trivial) ?_
    obtain ⟨x4, e5, h⟩ := ltS h
    refine Run.go (Ev.avs (Ev.assign rfl rfl) e5) ?_
    refine Run.nil ?_
    refine T.cond rfl (fun hb6 => ?_) (fun hb6 => ?_)
    · replace h := ifT hb6 h
      refine T.seq ?_
      refine T.region ?_
      refine Run.go (Ev.assign rfl rfl) ?_
      refine Run.nil ?_
      refine T.ret ?_
      cases h
      exact Fin.one rfl .v
    · replace h := ifF hb6 h
      refine T.skip ?_
      refine T.seq ?_
      refine T.seq ?_
      refine T.region ?_
      refine Run.go (Ev.move rfl rfl) ?_
      refine Run.go (Ev.len X rfl rfl rfl rfl) ?_
      refine Run.go (Ev.int rfl rfl rfl rfl trivial) ?_
      refine Run.go (Ev.assign rfl rfl) ?_
      refine Run.nil ?_
      refine T.block ?_
      refine T.loop (LoopT.ghost (Ghost.only [] [0, 1, 5] rfl) (LoopT.run (fun q : Int => (⟨[(0, .v (.sl (.int .u64)) p0), (1, .v (.sl (.int .u64)) p1), (5, .v (.int .i64) q)], [], 45⟩ : St)) (fun v7 z1 h hz1 => ?_) h))
      rw [m_nat_Cmp_l1] at h
      refine T.seq ?_
      refine T.seq ?_
      refine T.region ?_
      refine Run.go (Ev.move rfl rfl) ?_
      refine Run.go (Ev.int rfl rfl rfl rfl trivial) ?_
      refine Run.nil ?_
      refine T.cond rfl (fun hb8 => ?_) (fun hb8 => ?_)
      · replace h := ifT hb8 h
        refine T.skip ?_
        refine T.seq ?_
        refine T.block ?_
        refine T.block ?_
        refine T.seq ?_
        refine T.drawM [] [0, 0, 3, 7, 0, 0, 48, 112, 255, 511] (by kernel_rfl) (by kernel_rfl) ?_
        refine RunD.w (fun _ => Ev.move rfl rfl) ?_
        refine RunD.w (fun _ => Ev.move rfl rfl) ?_
        obtain ⟨x9, e10, h⟩ := bdS h
        refine RunD.a rfl rfl (Ev.e_rd X e10 rfl rfl rfl rfl) ?_
        refine RunD.a rfl rfl (Ev.load X rfl rfl rfl) ?_
        refine RunD.w (fun _ => Ev.move rfl rfl) ?_
        refine RunD.w (fun _ => Ev.move rfl rfl) ?_
        obtain ⟨x11, e12, h⟩ := bdS h
        refine RunD.a rfl rfl (Ev.e_rd X e12 rfl rfl rfl rfl) ?_
        refine RunD.a rfl rfl (Ev.load X rfl rfl rfl) ?_
        refine RunD.w (fun _ => Ev.int rfl rfl rfl rfl trivial) ?_
        refine RunD.w (fun _ => Ev.assign rfl rfl) ?_
        refine RunD.nil ?_
        refine T.cond rfl (fun hb13 => ?_) (fun hb13 => ?_)
        · replace h := ifT hb13 h
          refine T.seq ?_
          refine T.region ?_
          refine Run.go (Ev.assign rfl rfl) ?_
          refine Run.nil ?_
          refine T.ret ?_
          cases h
          cases hz1
          exact Fin.one rfl .v
        · replace h := ifF hb13 h
          refine T.seq ?_
          refine T.drawM [] [0, 0, 3, 7, 0, 0, 48, 112, 255, 511] (by kernel_rfl) (by kernel_rfl) ?_
          refine RunD.w (fun _ => Ev.move rfl rfl) ?_
          refine RunD.w (fun _ => Ev.move rfl rfl) ?_
          obtain ⟨x14, e15, h⟩ := bdS h
          refine RunD.a rfl rfl (Ev.e_rd X e15 rfl rfl rfl rfl) ?_
          refine RunD.a rfl rfl (Ev.load X rfl rfl rfl) ?_
          refine RunD.w (fun _ => Ev.move rfl rfl) ?_
          refine RunD.w (fun _ => Ev.move rfl rfl) ?_
          obtain ⟨x16, e17, h⟩ := bdS h
          refine RunD.a rfl rfl (Ev.e_rd X e17 rfl rfl rfl rfl) ?_
          refine RunD.a rfl rfl (Ev.load X rfl rfl rfl) ?_
          refine RunD.w (fun _ => Ev.int rfl rfl rfl rfl trivial) ?_
          refine RunD.w (fun _ => Ev.assign rfl rfl) ?_
          refine RunD.nil ?_
          refine T.cond rfl (fun hb18 => ?_) (fun hb18 => ?_)
          · replace h := ifT hb18 h
            refine T.seq ?_
            refine T.region ?_
            refine Run.go (Ev.assign rfl rfl) ?_
            refine Run.nil ?_
            refine T.ret ?_
            cases h
            cases hz1
            exact Fin.one rfl .v
          · replace h := ifF hb18 h
            refine T.skip ?_
            refine T.region ?_
            refine Run.go (Ev.move rfl rfl) ?_
            refine Run.go (Ev.int rfl rfl rfl rfl trivial) ?_
            refine Run.go (Ev.assign rfl rfl) ?_
            refine Run.nil ?_
            cases h
            exact LoopT.ghost (Ghost.only [] [0, 1, 5] rfl) hz1
      · replace h := ifF hb8 h
        refine T.exit ?_
        refine T.seq ?_
        refine T.region ?_
        refine Run.go (Ev.assign rfl rfl) ?_
        refine Run.nil ?_
        refine T.ret ?_
        cases h
        cases hz1
        exact Fin.one rfl .v
theorem en131 : Enters Tryz.prog 131 := ⟨_, Tryz.func131, rfl, rfl⟩
theorem k_limb_Sub {p0 : Int} {p1 : Int} {p2 : Int} {y : Int × Int} (h : m_limb_Sub p0 p1 p2 = some y) : Spec Tryz.prog 131 [(.v (.int .u64) p0), (.v (.int .u64) p1), (.v (.int .u64) p2)] (.tup [.v (.int .u64) y.1, .v (.int .u64) y.2]) [] := by
  rw [m_limb_Sub] at h
  refine enterN [(.v (.int .u64) p0), (.v (.int .u64) p1), (.v (.int .u64) p2)] 33 Tryz.func131 rfl rfl rfl ?_
  refine T.seq ?_
  refine T.region ?_
  refine Run.go (Ev.assign rfl rfl) ?_
  refine Run.go (Ev.assign rfl rfl) ?_
  refine Run.nil ?_
  refine T.seq ?_
  refine T.region ?_
  refine Run.go (Ev.move rfl rfl) ?_
  refine Run.go (Ev.int rfl rfl rfl rfl trivial) ?_
  refine Run.go (Ev.move rfl rfl) ?_
  refine Run.go (Ev.int rfl rfl rfl rfl trivial) ?_
  refine Run.go (Ev.move rfl rfl) ?_
  refine Run.go (Ev.int rfl rfl rfl rfl trivial) ?_
  refine Run.go (Ev.int rfl rfl rfl rfl trivial) ?_
  refine Run.go (Ev.assign rfl rfl) ?_
  obtain ⟨x1, e2, h⟩ := ltS h
  refine Run.go (Ev.avs (Ev.assign rfl rfl) e2) ?_
  refine Run.nil ?_
  refine T.seq ?_
  refine T.region ?_
  refine Run.go (Ev.assign rfl rfl) ?_
  refine Run.nil ?_
  obtain ⟨v3, hv, h⟩ := bdS h
  refine T.cut (fun _ : Unit => (⟨[(8, .v (.int .u64) (Go.bits .and .u64 p0 4294967295 : Int)), (9, .v (.int .u64) x1), (10, .v (.int .u64) v3)], [], 33⟩ : St)) (fun _ => True) ?_ (fun _ _ => ?_)
  · replace h := hv
    clear hv
    refine T.seq ?_
    refine T.region ?_
    refine Run.go (Ev.move rfl rfl) ?_
    refine Run.go (Ev.move rfl rfl) ?_
    refine Run.go (Ev.int rfl rfl rfl rfl trivial) ?_
    refine Run.nil ?_
    refine T.cond rfl (fun hb4 => ?_) (fun hb4 => ?_)
    · replace h := ifT hb4 h
      refine T.region ?_
      refine Run.go (Ev.move rfl rfl) ?_
      refine Run.go (Ev.move rfl rfl) ?_
      refine Run.go (Ev.int rfl rfl rfl rfl trivial) ?_
      refine Run.go (Ev.int rfl rfl rfl rfl trivial) ?_
      obtain ⟨x5, e6, h⟩ := bdS h
      refine Run.go (Ev.e_sr e6 rfl rfl rfl) ?_
      refine Run.go (Ev.assign rfl rfl) ?_
      refine Run.nil ?_
      cases h
      exact ⟨(), trivial, Ghost.only [] [8, 9, 10] rfl⟩
    · replace h := ifF hb4 h
      refine T.skip ?_
      cases h
      exact ⟨(), trivial, Ghost.only [] [8, 9, 10] rfl⟩
  · refine T.seq ?_
    refine T.region ?_
    refine Run.go (Ev.move rfl rfl) ?_
    refine Run.go (Ev.move rfl rfl) ?_
    obtain ⟨x7, e8, h⟩ := bdS h
    refine Run.go (Ev.e_sh e8 rfl rfl rfl) ?_
    refine Run.go (Ev.int rfl rfl rfl rfl trivial) ?_
    refine Run.go (Ev.move rfl rfl) ?_
    refine Run.go (Ev.int rfl rfl rfl rfl trivial) ?_
    refine Run.go (Ev.move rfl rfl) ?_
    obtain ⟨x9, e10, h⟩ := ltS h
    refine Run.go (Ev.avs (Ev.assign rfl rfl) e10) ?_
    refine Run.go (Ev.assign rfl rfl) ?_
    refine Run.nil ?_
    refine T.ret ?_
    cases h
    exact Fin.many X rfl (.cons (.tmp .v) (.cons (.tmp .v) .nil)) rfl
theorem en110 : Enters Tryz.prog 110 := ⟨_, Tryz.func110, rfl, rfl⟩
theorem k_nat_Sub {p0 : (List Int)} {p1 : (List Int)} {y : (List Int) × Int} (h : m_nat_Sub p0 p1 = some y) : Spec Tryz.prog 110 [(.v (.sl (.int .u64)) p0), (.v (.sl (.int .u64)) p1)] (.tup [.v (.sl (.int .u64)) y.1, .v (.int .i64) y.2]) [] := by
  rw [m_nat_Sub] at h
  refine enterN [(.v (.sl (.int .u64)) p0), (.v (.sl (.int .u64)) p1)] 39 Tryz.func110 rfl rfl rfl ?_
  refine T.seq ?_
  refine T.region ?_
  refine Run.go (Ev.assign rfl rfl) ?_
  refine Run.go (Ev.assign rfl rfl) ?_
  refine Run.nil ?_
  refine T.seq ?_
  refine T.seq ?_
  refine T.region ?_
  refine Run.go (Ev.move rfl rfl) ?_
  refine Run.go (Ev.move rfl rfl) ?_
  obtain ⟨x1, e2, h⟩ := bdS h
  refine Run.go (Ev.callC en43 (k_nat_Cmp e2) rfl (.cons .v (.cons .v .nil)) rfl rfl) ?_
  refine Run.go (Ev.int rfl rfl rfl rfl trivial) ?_
  refine Run.nil ?_
  refine T.cond rfl (fun hb3 => ?_) (fun hb3 => ?_)
  · replace h := ifT hb3 h
    refine T.seq ?_
    refine T.region ?_
    refine Run.go (Ev.assign rfl rfl) ?_
    refine Run.go (Ev.assign rfl rfl) ?_
    refine Run.nil ?_
    refine T.ret ?_
    cases h
    exact Fin.many X rfl (.cons (.tmp .nilv) (.cons (.tmp .v) .nil)) rfl
  · replace h := ifF hb3 h
    refine T.skip ?_
    refine T.seq ?_
    refine T.region ?_
    refine Run.go (Ev.move rfl rfl) ?_
    refine Run.go (Ev.len X rfl rfl rfl rfl) ?_
    obtain ⟨x4, e5, h⟩ := bdS h
    refine Run.go (Ev.e_mk X 1 e5 rfl rfl rfl rfl rfl rfl) ?_
    refine Run.go (Ev.assign rfl rfl) ?_
    refine Run.nil ?_
    refine T.seq ?_
    refine T.region ?_
    refine Run.go (Ev.assign rfl rfl) ?_
    refine Run.nil ?_
    obtain ⟨v6, hv, h⟩ := bdS h
    refine T.cut (fun _ : Unit => (⟨[(6, .own 1)], [(1, .arr 60 (.int .u64) v6)], 39⟩ : St)) (fun _ => True) ?_ (fun _ _ => ?_)
    · replace h := hv
      clear hv
      refine T.seq ?_
      refine T.region ?_
      refine Run.go (Ev.move rfl rfl) ?_
      refine Run.go (Ev.e_lenO X rfl rfl rfl rfl) ?_
      refine Run.go (Ev.move rfl rfl) ?_
      refine Run.nil ?_
      refine T.block ?_
      refine T.loop (LoopT.ghost (Ghost.only [(1, 1)] [0, 1, 6, 7, 17, 18] rfl) (LoopT.run (fun q : Int × Int × (List Int) => (⟨[(0, .v (.sl (.int .u64)) p0), (1, .v (.sl (.int .u64)) p1), (6, .own 1), (7, .v (.int .u64) q.1), (17, .v (.int .i64) ((x4.length : Int) : Int)), (18, .v (.int .i64) q.2.1)], [(1, .arr 60 (.int .u64) q.2.2)], 39⟩ : St)) (fun q z1 h hz1 => ?_) h))
      obtain ⟨v7, v8, v9⟩ := q
      dsimp only
      rw [m_nat_Sub_l1] at h
      refine T.seq ?_
      refine T.region ?_
      refine Run.go (Ev.int rfl rfl rfl rfl trivial) ?_
      refine Run.nil ?_
      refine T.seq ?_
      refine T.cond rfl (fun hb10 => ?_) (fun hb10 => ?_)
      · replace h := ifT hb10 h
        refine T.skip ?_
        refine T.seq ?_
        refine T.block ?_
        refine T.seq ?_
        refine T.region ?_
        refine Run.go (Ev.move rfl rfl) ?_
        refine Run.go (Ev.assign rfl rfl) ?_
        refine Run.nil ?_
        refine T.drawM [15] [0, 0, 0, 0, 12, 28, 0, 0, 192, 0, 1020, 2044, 4092, 4092, 8191, 24575, 65535] (by kernel_rfl) (by kernel_rfl) ?_
        refine RunD.w (fun _ => Ev.move rfl rfl) ?_
        refine RunD.w (fun _ => Ev.move rfl rfl) ?_
        refine RunD.w (fun _ => Ev.move rfl rfl) ?_
        refine RunD.w (fun _ => Ev.move rfl rfl) ?_
        obtain ⟨x11, e12, h⟩ := bdS h
        refine RunD.a rfl rfl (Ev.e_rd X e12 rfl rfl rfl rfl) ?_
        refine RunD.a rfl rfl (Ev.load X rfl rfl rfl) ?_
        refine RunD.w (fun _ => Ev.move rfl rfl) ?_
        refine RunD.w (fun _ => Ev.move rfl rfl) ?_
        obtain ⟨x13, e14, h⟩ := bdS h
        refine RunD.a rfl rfl (Ev.callC en99 (k_nat_at e14) rfl (.cons .v (.cons .v .nil)) rfl rfl) ?_
        refine RunD.w (fun _ => Ev.move rfl rfl) ?_
        obtain ⟨x15, e16, h⟩ := bdS h
        refine RunD.a rfl rfl (Ev.callC en131 (k_limb_Sub e16) rfl (.cons .v (.cons .v (.cons .v .nil))) rfl rfl) ?_
        refine RunD.w (fun _ => Ev.move rfl rfl) ?_
        refine RunD.w (fun _ => Ev.extract rfl rfl rfl) ?_
        refine RunD.w (fun _ => Ev.extract rfl rfl rfl) ?_
        obtain ⟨j17, e18, h⟩ := bdS h
        refine RunD.a rfl rfl (Ev.e_ixO X e18 rfl rfl rfl rfl rfl) ?_
        obtain ⟨x19, e20, h⟩ := ltS h
        refine RunD.mN rfl (Ev.asO (Ev.storeEl X rfl rfl rfl rfl rfl) e20) ?_
        refine RunD.w (fun _ => Ev.assign rfl rfl) ?_
        refine RunD.nil ?_
        refine T.region ?_
        refine Run.go (Ev.int rfl rfl rfl rfl trivial) ?_
        refine Run.go (Ev.move rfl rfl) ?_
        refine Run.nil ?_
        cases h
        exact LoopT.ghost (Ghost.only [(1, 1)] [0, 1, 6, 7, 17, 18] rfl) hz1
      · replace h := ifF hb10 h
        refine T.exit ?_
        cases h
        cases hz1
        exact ⟨(), trivial, Ghost.only [(1, 1)] [6] rfl⟩
    · refine T.seq ?_
      refine T.region ?_
      refine Run.go (Ev.move rfl rfl) ?_
      refine Run.ghost (Ghost.firmAll (id := 1) rfl) ?_
      obtain ⟨x21, e22, h⟩ := bdS h
      refine Run.go (Ev.callC en77 (k_nat_trim e22) rfl (.cons .v .nil) rfl rfl) ?_
      refine Run.go (Ev.assign rfl rfl) ?_
      refine Run.go (Ev.assign rfl rfl) ?_
      refine Run.nil ?_
      refine T.ret ?_
      cases h
      exact Fin.many X rfl (.cons (.tmp .v) (.cons (.tmp .v) .nil)) rfl
theorem en112 : Enters Tryz.prog 112 := ⟨_, Tryz.func112, rfl, rfl⟩
theorem k_mul_up {p0 : (List Int)} {p1 : Int} {y : (List Int)} (h : m_mul_up p0 p1 = some y) : Spec Tryz.prog 112 [(.v (.sl (.int .u64)) p0), (.v (.int .i64) p1)] (.v (.sl (.int .u64)) y) [] := by
  rw [m_mul_up] at h
  refine enterN [(.v (.sl (.int .u64)) p0), (.v (.int .i64) p1)] 18 Tryz.func112 rfl rfl rfl ?_
  refine T.seq ?_
  refine T.region ?_
  refine Run.go (Ev.assign rfl rfl) ?_
  refine Run.nil ?_
  refine T.seq ?_
  refine T.region ?_
  refine Run.go (Ev.move rfl rfl) ?_
  refine Run.go (Ev.move rfl rfl) ?_
  refine Run.go (Ev.len X rfl rfl rfl rfl) ?_
  refine Run.go (Ev.int rfl rfl rfl rfl trivial) ?_
  obtain ⟨x1, e2, h⟩ := bdS h
  refine Run.go (Ev.e_mk X 1 e2 rfl rfl rfl rfl rfl rfl) ?_
  refine Run.go (Ev.assign rfl rfl) ?_
  refine Run.nil ?_
  refine T.seq ?_
  refine T.region ?_
  refine Run.go (Ev.move rfl rfl) ?_
  refine Run.go (Ev.move rfl rfl) ?_
  obtain ⟨j3, e4, h⟩ := bdS h
  refine Run.go (Ev.e_rest X e4 rfl rfl rfl rfl rfl) ?_
  refine Run.go (Ev.move rfl rfl) ?_
  obtain ⟨x5, e6, h⟩ := bdS h
  refine Run.go (Ev.e_cp X e6 rfl rfl rfl .v rfl rfl) ?_
  refine Run.nil ?_
  refine T.seq ?_
  refine T.region ?_
  refine Run.go (Ev.move rfl rfl) ?_
  refine Run.ghost (Ghost.firmAll (id := 1) rfl) ?_
  obtain ⟨x7, e8, h⟩ := bdS h
  refine Run.go (Ev.callC en69 (k_mul_made e8) rfl (.cons .v .nil) rfl rfl) ?_
  refine Run.go (Ev.assign rfl rfl) ?_
  refine Run.nil ?_
  refine T.ret ?_
  cases h
  exact Fin.one rfl .v
theorem en111 : Enters Tryz.prog 111 := ⟨_, Tryz.func111, rfl, rfl⟩
theorem k_nat_Sum {p0 : (List (List Int))} {y : (List Int)} (h : m_nat_Sum p0 = some y) : Spec Tryz.prog 111 [(.v (.sl (.sl (.int .u64))) p0)] (.v (.sl (.int .u64)) y) [] := by
  rw [m_nat_Sum] at h
  refine enterN [(.v (.sl (.sl (.int .u64))) p0)] 17 Tryz.func111 rfl rfl rfl ?_
  refine T.seq ?_
  refine T.region ?_
  refine Run.go (Ev.assign rfl rfl) ?_
  refine Run.nil ?_
  refine T.seq ?_
  refine T.region ?_
  refine Run.go (Ev.assign rfl rfl) ?_
  refine Run.nil ?_
  obtain ⟨v1, hv, h⟩ := bdS h
  refine T.cut (fun _ : Unit => (⟨[(3, .v (.sl (.int .u64)) v1)], [], 17⟩ : St)) (fun _ => True) ?_ (fun _ _ => ?_)
  · replace h := hv
    clear hv
    refine T.seq ?_
    refine T.region ?_
    refine Run.go (Ev.move rfl rfl) ?_
    refine Run.go (Ev.len X rfl rfl rfl rfl) ?_
    refine Run.go (Ev.move rfl rfl) ?_
    refine Run.nil ?_
    refine T.block ?_
    refine T.loop (LoopT.ghost (Ghost.trans (Ghost.nilv (t := 3) (τ := (.int .u64)) rfl) (Ghost.only [] [3, 6, 7, 8] rfl)) (LoopT.run (fun q : (List Int) × Int => (⟨[(3, .v (.sl (.int .u64)) q.1), (6, .v (.sl (.sl (.int .u64))) p0), (7, .v (.int .i64) ((p0.length : Int) : Int)), (8, .v (.int .i64) q.2)], [], 17⟩ : St)) (fun q z1 h hz1 => ?_) h))
    obtain ⟨v2, v3⟩ := q
    dsimp only
    rw [m_nat_Sum_l1] at h
    refine T.seq ?_
    refine T.region ?_
    refine Run.go (Ev.int rfl rfl rfl rfl trivial) ?_
    refine Run.nil ?_
    refine T.seq ?_
    refine T.cond rfl (fun hb4 => ?_) (fun hb4 => ?_)
    · replace h := ifT hb4 h
      refine T.skip ?_
      refine T.seq ?_
      refine T.block ?_
      refine T.seq ?_
      refine T.region ?_
      obtain ⟨x5, e6, h⟩ := bdS h
      refine Run.go (Ev.e_rd X e6 rfl rfl rfl rfl) ?_
      refine Run.go (Ev.load X rfl rfl rfl) ?_
      refine Run.go (Ev.assign rfl rfl) ?_
      refine Run.nil ?_
      refine T.region ?_
      refine Run.go (Ev.move rfl rfl) ?_
      refine Run.go (Ev.move rfl rfl) ?_
      obtain ⟨x7, e8, h⟩ := bdS h
      refine Run.go (Ev.callC en66 (k_nat_Add e8) rfl (.cons .v (.cons .v .nil)) rfl rfl) ?_
      refine Run.go (Ev.assign rfl rfl) ?_
      refine Run.nil ?_
      refine T.region ?_
      refine Run.go (Ev.int rfl rfl rfl rfl trivial) ?_
      refine Run.go (Ev.move rfl rfl) ?_
      refine Run.nil ?_
      cases h
      exact LoopT.ghost (Ghost.only [] [3, 6, 7, 8] rfl) hz1
    · replace h := ifF hb4 h
      refine T.exit ?_
      cases h
      cases hz1
      exact ⟨(), trivial, Ghost.only [] [3] rfl⟩
  · refine T.seq ?_
    refine T.region ?_
    refine Run.go (Ev.move rfl rfl) ?_
    refine Run.go (Ev.assign rfl rfl) ?_
    refine Run.nil ?_
    refine T.ret ?_
    cases h
    exact Fin.one rfl .v
theorem en83 : Enters Tryz.prog 83 := ⟨_, Tryz.func83, rfl, rfl⟩
theorem k_mul_Short_b {rec_ : ((List Int) → (List Int) → Option ((List Int)))} (hrec : ∀ {p0 : (List Int)} {p1 : (List Int)} {y : (List Int)}, rec_ p0 p1 = some y → Spec Tryz.prog 83 [(.v (.sl (.int .u64)) p0), (.v (.sl (.int .u64)) p1)] (.v (.sl (.int .u64)) y) []) {p0 : (List Int)} {p1 : (List Int)} {y : (List Int)} (h : m_mul_Short_b rec_ p0 p1 = some y) : Spec Tryz.prog 83 [(.v (.sl (.int .u64)) p0), (.v (.sl (.int .u64)) p1)] (.v (.sl (.int .u64)) y) [] := by
  rw [m_mul_Short_b] at h
  refine enterN [(.v (.sl (.int .u64)) p0), (.v (.sl (.int .u64)) p1)] 76 Tryz.func83 rfl rfl rfl ?_
  refine T.seq ?_
  refine T.region ?_
  refine Run.go (Ev.assign rfl rfl) ?_
  refine Run.nil ?_
  refine T.seq ?_
  refine T.seq ?_
  refine T.region ?_
  refine Run.go (Ev.move rfl rfl) ?_
  refine Run.go (Ev.len X rfl rfl rfl rfl) ?_
  refine Run.go (Ev.move rfl rfl) ?_
  refine Run.go (Ev.len X rfl rfl rfl rfl) ?_
  refine Run.go (Ev.min rfl rfl rfl) ?_
  refine Run.go (Ev.int rfl rfl rfl rfl trivial) ?_
  refine Run.nil ?_
  refine T.cond rfl (fun hb1 => ?_) (fun hb1 => ?_)
  · replace h := ifT hb1 h
    refine T.seq ?_
    refine T.region ?_
    refine Run.go (Ev.move rfl rfl) ?_
    refine Run.go (Ev.move rfl rfl) ?_
    obtain ⟨x2, e3, h⟩ := bdS h
    refine Run.go (Ev.callC en108 (k_mul_Long e3) rfl (.cons .v (.cons .v .nil)) rfl rfl) ?_
    refine Run.go (Ev.assign rfl rfl) ?_
    refine Run.nil ?_
    refine T.ret ?_
    cases h
    exact Fin.one rfl .v
  · replace h := ifF hb1 h
    refine T.skip ?_
    refine T.seq ?_
    refine T.region ?_
    refine Run.go (Ev.move rfl rfl) ?_
    refine Run.go (Ev.len X rfl rfl rfl rfl) ?_
    refine Run.go (Ev.move rfl rfl) ?_
    refine Run.go (Ev.len X rfl rfl rfl rfl) ?_
    refine Run.go (Ev.max rfl rfl rfl) ?_
    refine Run.go (Ev.int rfl rfl rfl rfl trivial) ?_
    obtain ⟨x4, e5, h⟩ := bdS h
    refine Run.go (Ev.e_qd e5 rfl rfl rfl) ?_
    refine Run.go (Ev.assign rfl rfl) ?_
    refine Run.nil ?_
    refine T.seq ?_
    refine T.region ?_
    refine Run.go (Ev.move rfl rfl) ?_
    refine Run.go (Ev.move rfl rfl) ?_
    obtain ⟨x6, e7, h⟩ := bdS h
    refine Run.go (Ev.callC en109 (k_mul_cut e7) rfl (.cons .v (.cons .v .nil)) rfl rfl) ?_
    refine Run.go (Ev.move rfl rfl) ?_
    refine Run.go (Ev.extract rfl rfl rfl) ?_
    refine Run.go (Ev.extract rfl rfl rfl) ?_
    refine Run.go (Ev.assign rfl rfl) ?_
    refine Run.go (Ev.assign rfl rfl) ?_
    refine Run.nil ?_
    refine T.seq ?_
    refine T.region ?_
    refine Run.go (Ev.move rfl rfl) ?_
    refine Run.go (Ev.move rfl rfl) ?_
    obtain ⟨x8, e9, h⟩ := bdS h
    refine Run.go (Ev.callC en109 (k_mul_cut e9) rfl (.cons .v (.cons .v .nil)) rfl rfl) ?_
    refine Run.go (Ev.move rfl rfl) ?_
    refine Run.go (Ev.extract rfl rfl rfl) ?_
    refine Run.go (Ev.extract rfl rfl rfl) ?_
    refine Run.go (Ev.assign rfl rfl) ?_
    refine Run.go (Ev.assign rfl rfl) ?_
    refine Run.nil ?_
    refine T.seq ?_
    refine T.region ?_
    refine Run.go (Ev.move rfl rfl) ?_
    refine Run.go (Ev.move rfl rfl) ?_
    obtain ⟨x10, e11, h⟩ := bdS h
    refine Run.go (Ev.callC en83 (hrec e11) rfl (.cons .v (.cons .v .nil)) rfl rfl) ?_
    refine Run.go (Ev.move rfl rfl) ?_
    refine Run.go (Ev.move rfl rfl) ?_
    obtain ⟨x12, e13, h⟩ := bdS h
    refine Run.go (Ev.callC en83 (hrec e13) rfl (.cons .v (.cons .v .nil)) rfl rfl) ?_
    refine Run.go (Ev.assign rfl rfl) ?_
    refine Run.go (Ev.assign rfl rfl) ?_
    refine Run.nil ?_
    refine T.seq ?_
    refine T.region ?_
    refine Run.go (Ev.move rfl rfl) ?_
    refine Run.go (Ev.move rfl rfl) ?_
    obtain ⟨x14, e15, h⟩ := bdS h
    refine Run.go (Ev.callC en66 (k_nat_Add e15) rfl (.cons .v (.cons .v .nil)) rfl rfl) ?_
    refine Run.go (Ev.move rfl rfl) ?_
    refine Run.go (Ev.move rfl rfl) ?_
    obtain ⟨x16, e17, h⟩ := bdS h
    refine Run.go (Ev.callC en66 (k_nat_Add e17) rfl (.cons .v (.cons .v .nil)) rfl rfl) ?_
    obtain ⟨x18, e19, h⟩ := bdS h
    refine Run.go (Ev.callC en83 (hrec e19) rfl (.cons .v (.cons .v .nil)) rfl rfl) ?_
    refine Run.go (Ev.assign rfl rfl) ?_
    refine Run.nil ?_
    refine T.seq ?_
    refine T.region ?_
    refine Run.go (Ev.move rfl rfl) ?_
    refine Run.go (Ev.move rfl rfl) ?_
    obtain ⟨x20, e21, h⟩ := bdS h
    refine Run.go (Ev.callC en110 (k_nat_Sub e21) rfl (.cons .v (.cons .v .nil)) rfl rfl) ?_
    refine Run.go (Ev.move rfl rfl) ?_
    refine Run.go (Ev.extract rfl rfl rfl) ?_
    refine Run.go (Ev.extract rfl rfl rfl) ?_
    refine Run.go (Ev.assign rfl rfl) ?_
    refine Run.nil ?_
    refine T.seq ?_
    refine T.region ?_
    refine Run.go (Ev.move rfl rfl) ?_
    refine Run.go (Ev.move rfl rfl) ?_
    obtain ⟨x22, e23, h⟩ := bdS h
    refine Run.go (Ev.callC en110 (k_nat_Sub e23) rfl (.cons .v (.cons .v .nil)) rfl rfl) ?_
    refine Run.go (Ev.move rfl rfl) ?_
    refine Run.go (Ev.extract rfl rfl rfl) ?_
    refine Run.go (Ev.extract rfl rfl rfl) ?_
    refine Run.go (Ev.assign rfl rfl) ?_
    refine Run.nil ?_
    refine T.seq ?_
    refine T.region ?_
    refine Run.go (Ev.move rfl rfl) ?_
    refine Run.go (Ev.move rfl rfl) ?_
    refine Run.go (Ev.move rfl rfl) ?_
    obtain ⟨x24, e25, h⟩ := bdS h
    refine Run.go (Ev.callC en112 (k_mul_up e25) rfl (.cons .v (.cons .v .nil)) rfl rfl) ?_
    refine Run.go (Ev.move rfl rfl) ?_
    refine Run.go (Ev.move rfl rfl) ?_
    refine Run.go (Ev.int rfl rfl rfl rfl trivial) ?_
    obtain ⟨x26, e27, h⟩ := bdS h
    refine Run.go (Ev.callC en112 (k_mul_up e27) rfl (.cons .v (.cons .v .nil)) rfl rfl) ?_
    refine Run.go (Ev.build X 1 rfl rfl rfl rfl rfl rfl rfl rfl) ?_
    refine Run.ghost (Ghost.firmAll (id := 1) rfl) ?_
    obtain ⟨x28, e29, h⟩ := bdS h
    refine Run.go (Ev.callC en111 (k_nat_Sum e29) rfl (.cons .v .nil) rfl rfl) ?_
    refine Run.go (Ev.assign rfl rfl) ?_
    refine Run.nil ?_
    refine T.ret ?_
    cases h
    exact Fin.one rfl .v
theorem k_mul_Short_r : ∀ (n : Nat) {p0 : (List Int)} {p1 : (List Int)} {y : (List Int)}, m_mul_Short_r n p0 p1 = some y → Spec Tryz.prog 83 [(.v (.sl (.int .u64)) p0), (.v (.sl (.int .u64)) p1)] (.v (.sl (.int .u64)) y) []
  | 0 => fun h => by cases h
  | n + 1 => fun h => k_mul_Short_b (fun h => k_mul_Short_r n h) h
theorem k_mul_Short {p0 : (List Int)} {p1 : (List Int)} {y : (List Int)} (h : m_mul_Short p0 p1 = some y) : Spec Tryz.prog 83 [(.v (.sl (.int .u64)) p0), (.v (.sl (.int .u64)) p1)] (.v (.sl (.int .u64)) y) [] := k_mul_Short_r _ h
theorem en49 : Enters Tryz.prog 49 := ⟨_, Tryz.func49, rfl, rfl⟩
theorem k_mul_Mul {p0 : (List Int)} {p1 : (List Int)} {y : (List Int)} (h : m_mul_Mul p0 p1 = some y) : Spec Tryz.prog 49 [(.v (.sl (.int .u64)) p0), (.v (.sl (.int .u64)) p1)] (.v (.sl (.int .u64)) y) [] := by
  rw [m_mul_Mul] at h
  refine enterN [(.v (.sl (.int .u64)) p0), (.v (.sl (.int .u64)) p1)] 8 Tryz.func49 rfl rfl rfl ?_
  refine T.seq ?_
  refine T.region ?_
  refine Run.go (Ev.assign rfl rfl) ?_
  refine Run.nil ?_
  refine T.seq ?_
  refine T.region ?_
  refine Run.go (Ev.move rfl rfl) ?_
  refine Run.go (Ev.move rfl rfl) ?_
  obtain ⟨x1, e2, h⟩ := bdS h
  refine Run.go (Ev.callC en83 (k_mul_Short e2) rfl (.cons .v (.cons .v .nil)) rfl rfl) ?_
  refine Run.go (Ev.assign rfl rfl) ?_
  refine Run.nil ?_
  refine T.ret ?_
  cases h
  exact Fin.one rfl .v
theorem en81 : Enters Tryz.prog 81 := ⟨_, Tryz.func81, rfl, rfl⟩
theorem k_mul_Square {p0 : (List Int)} {y : (List Int)} (h : m_mul_Square p0 = some y) : Spec Tryz.prog 81 [(.v (.sl (.int .u64)) p0)] (.v (.sl (.int .u64)) y) [] := by
  rw [m_mul_Square] at h
  refine enterN [(.v (.sl (.int .u64)) p0)] 6 Tryz.func81 rfl rfl rfl ?_
  refine T.seq ?_
  refine T.region ?_
  refine Run.go (Ev.assign rfl rfl) ?_
  refine Run.nil ?_
  refine T.seq ?_
  refine T.region ?_
  refine Run.go (Ev.move rfl rfl) ?_
  refine Run.go (Ev.move rfl rfl) ?_
  obtain ⟨x1, e2, h⟩ := bdS h
  refine Run.go (Ev.callC en49 (k_mul_Mul e2) rfl (.cons .v (.cons .v .nil)) rfl rfl) ?_
  refine Run.go (Ev.assign rfl rfl) ?_
  refine Run.nil ?_
  refine T.ret ?_
  cases h
  exact Fin.one rfl .v
theorem en47 : Enters Tryz.prog 47 := ⟨_, Tryz.func47, rfl, rfl⟩
theorem k_mul_Pow {p0 : (List Int)} {p1 : Int} {y : (List Int) × Int} (h : m_mul_Pow p0 p1 = some y) : Spec Tryz.prog 47 [(.v (.sl (.int .u64)) p0), (.v (.int .i64) p1)] (.tup [.v (.sl (.int .u64)) y.1, .v (.int .i64) y.2]) [] := by
  rw [m_mul_Pow] at h
  refine enterN [(.v (.sl (.int .u64)) p0), (.v (.int .i64) p1)] 31 Tryz.func47 rfl rfl rfl ?_
  refine T.seq ?_
  refine T.region ?_
  refine Run.go (Ev.assign rfl rfl) ?_
  refine Run.go (Ev.assign rfl rfl) ?_
  refine Run.nil ?_
  refine T.seq ?_
  obtain ⟨v1, hv, h⟩ := bdS h
  refine T.cut (fun _ : Unit => (⟨[(0, .v (.sl (.int .u64)) p0), (1, .v (.int .i64) p1), (13, .v .bool v1)], [], 31⟩ : St)) (fun _ => True) ?_ (fun _ _ => ?_)
  · replace h := hv
    clear hv
    refine T.region ?_
    refine Run.go (Ev.move rfl rfl) ?_
    refine Run.go (Ev.int rfl rfl rfl rfl trivial) ?_
    refine Run.go (Ev.move rfl rfl) ?_
    rcases boolCases (decide (p1 < 0)) with hb2 | hb2
    · replace h := ifT hb2 h
      refine Run.offT rfl rfl rfl rfl hb2 ?_
      refine Run.offT rfl rfl rfl rfl hb2 ?_
      refine Run.go (Ev.pickT rfl hb2 rfl rfl) ?_
      refine Run.nil ?_
      cases h
      exact ⟨(), trivial, Ghost.only [] [0, 1, 13] rfl⟩
    · replace h := ifF hb2 h
      refine Run.on rfl rfl rfl hb2 (Ev.move rfl rfl) ?_
      refine Run.on rfl rfl rfl hb2 (Ev.int rfl rfl rfl rfl trivial) ?_
      refine Run.go (Ev.pickF rfl hb2 rfl rfl) ?_
      refine Run.nil ?_
      cases h
      exact ⟨(), trivial, Ghost.only [] [0, 1, 13] rfl⟩
  · refine T.cond rfl (fun hb3 => ?_) (fun hb3 => ?_)
    · replace h := ifT hb3 h
      refine T.seq ?_
      refine T.region ?_
      refine Run.go (Ev.assign rfl rfl) ?_
      refine Run.go (Ev.assign rfl rfl) ?_
      refine Run.nil ?_
      refine T.ret ?_
      cases h
      exact Fin.many X rfl (.cons (.tmp .nilv) (.cons (.tmp .v) .nil)) rfl
    · replace h := ifF hb3 h
      refine T.skip ?_
      refine T.seq ?_
      refine T.region ?_
      obtain ⟨x4, e5, h⟩ := bdS h
      refine Run.go (Ev.callC en44 (k_nat_Of e5) rfl (.cons .v .nil) rfl rfl) ?_
      refine Run.go (Ev.assign rfl rfl) ?_
      refine Run.nil ?_
      obtain ⟨v6, hv, h⟩ := bdS h
      refine T.cut (fun _ : Unit => (⟨[(6, .v (.sl (.int .u64)) v6)], [], 31⟩ : St)) (fun _ => True) ?_ (fun _ _ => ?_)
      · replace h := hv
        clear hv
        refine T.seq ?_
        refine T.region ?_
        refine Run.go (Ev.move rfl rfl) ?_
        refine Run.go (Ev.assign rfl rfl) ?_
        refine Run.nil ?_
        refine T.block ?_
        refine T.loop (LoopT.ghost (Ghost.only [] [1, 6, 7] rfl) (LoopT.run (fun q : Int × (List Int) × (List Int) => (⟨[(1, .v (.int .i64) q.1), (6, .v (.sl (.int .u64)) q.2.1), (7, .v (.sl (.int .u64)) q.2.2)], [], 31⟩ : St)) (fun q z1 h hz1 => ?_) h))
        obtain ⟨v7, v8, v9⟩ := q
        dsimp only
        rw [m_mul_Pow_l1] at h
        refine T.seq ?_
        refine T.seq ?_
        refine T.region ?_
        refine Run.go (Ev.move rfl rfl) ?_
        refine Run.go (Ev.int rfl rfl rfl rfl trivial) ?_
        refine Run.nil ?_
        refine T.cond rfl (fun hb10 => ?_) (fun hb10 => ?_)
        · replace h := ifT hb10 h
          refine T.skip ?_
          obtain ⟨⟨v11, v12⟩, hv, h⟩ := bdS h
          refine T.cut (fun _ : Unit => (⟨[(1, .v (.int .i64) v7), (6, .v (.sl (.int .u64)) v11), (7, .v (.sl (.int .u64)) v12)], [], 31⟩ : St)) (fun _ => True) ?_ (fun _ _ => ?_)
          · replace h := hv
            clear hv
            refine T.block ?_
            obtain ⟨v13, hv, h⟩ := bdS h
            refine T.cut (fun _ : Unit => (⟨[(1, .v (.int .i64) v7), (6, .v (.sl (.int .u64)) v13), (7, .v (.sl (.int .u64)) v9)], [], 31⟩ : St)) (fun _ => True) ?_ (fun _ _ => ?_)
            · replace h := hv
              clear hv
              refine T.seq ?_
              refine T.region ?_
              refine Run.go (Ev.move rfl rfl) ?_
              obtain ⟨x14, e15, h⟩ := bdS h
              refine Run.go (Ev.e_rm e15 rfl rfl rfl) ?_
              refine Run.go (Ev.int rfl rfl rfl rfl trivial) ?_
              refine Run.nil ?_
              refine T.cond rfl (fun hb16 => ?_) (fun hb16 => ?_)
              · replace h := ifT hb16 h
                refine T.region ?_
                refine Run.go (Ev.move rfl rfl) ?_
                refine Run.go (Ev.move rfl rfl) ?_
                obtain ⟨x17, e18, h⟩ := bdS h
                refine Run.go (Ev.callC en49 (k_mul_Mul e18) rfl (.cons .v (.cons .v .nil)) rfl rfl) ?_
                refine Run.go (Ev.assign rfl rfl) ?_
                refine Run.nil ?_
                cases h
                exact ⟨(), trivial, Ghost.only [] [1, 6, 7] rfl⟩
              · replace h := ifF hb16 h
                refine T.skip ?_
                cases h
                exact ⟨(), trivial, Ghost.only [] [1, 6, 7] rfl⟩
            · refine T.seq ?_
              refine T.region ?_
              refine Run.go (Ev.move rfl rfl) ?_
              refine Run.go (Ev.int rfl rfl rfl rfl trivial) ?_
              refine Run.nil ?_
              refine T.cond rfl (fun hb19 => ?_) (fun hb19 => ?_)
              · replace h := ifT hb19 h
                refine T.region ?_
                refine Run.go (Ev.move rfl rfl) ?_
                obtain ⟨x20, e21, h⟩ := bdS h
                refine Run.go (Ev.callC en81 (k_mul_Square e21) rfl (.cons .v .nil) rfl rfl) ?_
                refine Run.go (Ev.assign rfl rfl) ?_
                refine Run.nil ?_
                cases h
                exact ⟨(), trivial, Ghost.only [] [1, 6, 7] rfl⟩
              · replace h := ifF hb19 h
                refine T.skip ?_
                cases h
                exact ⟨(), trivial, Ghost.only [] [1, 6, 7] rfl⟩
          · refine T.region ?_
            refine Run.go (Ev.move rfl rfl) ?_
            obtain ⟨x22, e23, h⟩ := bdS h
            refine Run.go (Ev.e_qd e23 rfl rfl rfl) ?_
            refine Run.go (Ev.assign rfl rfl) ?_
            refine Run.nil ?_
            cases h
            exact LoopT.ghost (Ghost.only [] [1, 6, 7] rfl) hz1
        · replace h := ifF hb10 h
          refine T.exit ?_
          cases h
          cases hz1
          exact ⟨(), trivial, Ghost.only [] [6] rfl⟩
      · refine T.seq ?_
        refine T.region ?_
        refine Run.go (Ev.move rfl rfl) ?_
        refine Run.go (Ev.assign rfl rfl) ?_
        refine Run.go (Ev.assign rfl rfl) ?_
        refine Run.nil ?_
        refine T.ret ?_
        cases h
        exact Fin.many X rfl (.cons (.tmp .v) (.cons (.tmp .v) .nil)) rfl
theorem en24 : Enters Tryz.prog 24 := ⟨_, Tryz.func24, rfl, rfl⟩
theorem k_ratio_parts {p0 : ByteArray} {y : (List Int) × (List Int) × Int} (h : m_ratio_parts p0 = some y) : Spec Tryz.prog 24 [(.v .str p0)] (.tup [.v (.sl (.int .u64)) y.1, .v (.sl (.int .u64)) y.2.1, .v (.int .i64) y.2.2]) [] := by
  rw [m_ratio_parts] at h
  refine enterN [(.v .str p0)] 76 Tryz.func24 rfl rfl rfl ?_
  refine T.seq ?_
  refine T.region ?_
  refine Run.go (Ev.assign rfl rfl) ?_
  refine Run.go (Ev.assign rfl rfl) ?_
  refine Run.go (Ev.assign rfl rfl) ?_
  refine Run.nil ?_
  refine T.seq ?_
  refine T.seq ?_
  refine T.region ?_
  refine Run.go (Ev.move rfl rfl) ?_
  obtain ⟨x1, e2, h⟩ := bdS h
  refine Run.go (Ev.callC en62 (k_strings_Cut e2) rfl (.cons .v (.cons .v .nil)) rfl rfl) ?_
  refine Run.go (Ev.move rfl rfl) ?_
  refine Run.go (Ev.extract rfl rfl rfl) ?_
  refine Run.go (Ev.extract rfl rfl rfl) ?_
  refine Run.go (Ev.extract rfl rfl rfl) ?_
  refine Run.go (Ev.assign rfl rfl) ?_
  refine Run.go (Ev.assign rfl rfl) ?_
  refine Run.go (Ev.assign rfl rfl) ?_
  refine Run.nil ?_
  obtain ⟨v3, hv, h⟩ := bdS h
  refine T.cut (fun _ : Unit => (⟨[(0, .v .str p0), (5, .v .str x1.1), (6, .v .str x1.2.1), (27, .v .bool v3)], [], 76⟩ : St)) (fun _ => True) ?_ (fun _ _ => ?_)
  · replace h := hv
    clear hv
    refine T.region ?_
    refine Run.go (Ev.move rfl rfl) ?_
    refine Run.go (Ev.move rfl rfl) ?_
    rcases boolCases x1.2.2 with hb4 | hb4
    · replace h := ifT hb4 h
      refine Run.on rfl rfl rfl hb4 (Ev.move rfl rfl) ?_
      obtain ⟨x5, e6, h⟩ := bdS h
      refine Run.on rfl rfl rfl hb4 (Ev.callC en63 (k_strings_Contains e6) rfl (.cons .v (.cons .v .nil)) rfl rfl) ?_
      refine Run.on rfl rfl rfl hb4 (Ev.not rfl rfl) ?_
      refine Run.go (Ev.pickT rfl hb4 rfl rfl) ?_
      refine Run.nil ?_
      cases h
      exact ⟨(), trivial, Ghost.only [] [0, 5, 6, 27] rfl⟩
    · replace h := ifF hb4 h
      refine Run.offT rfl rfl rfl rfl hb4 ?_
      refine Run.offT rfl rfl rfl rfl hb4 ?_
      refine Run.offT rfl rfl rfl rfl hb4 ?_
      refine Run.go (Ev.pickF rfl hb4 rfl rfl) ?_
      refine Run.nil ?_
      cases h
      exact ⟨(), trivial, Ghost.only [] [0, 5, 6, 27] rfl⟩
  · refine T.cond rfl (fun hb7 => ?_) (fun hb7 => ?_)
    · replace h := ifT hb7 h
      refine T.seq ?_
      refine T.region ?_
      refine Run.go (Ev.move rfl rfl) ?_
      refine Run.go (Ev.move rfl rfl) ?_
      obtain ⟨x8, e9, h⟩ := bdS h
      refine Run.go (Ev.callC en64 (k_ratio_pair e9) rfl (.cons .v (.cons .v .nil)) rfl rfl) ?_
      refine Run.go (Ev.extract rfl rfl rfl) ?_
      refine Run.go (Ev.extract rfl rfl rfl) ?_
      refine Run.go (Ev.extract rfl rfl rfl) ?_
      refine Run.go (Ev.assign rfl rfl) ?_
      refine Run.go (Ev.assign rfl rfl) ?_
      refine Run.go (Ev.assign rfl rfl) ?_
      refine Run.nil ?_
      refine T.ret ?_
      cases h
      exact Fin.many X rfl (.cons (.tmp .v) (.cons (.tmp .v) (.cons (.tmp .v) .nil))) rfl
    · replace h := ifF hb7 h
      refine T.skip ?_
      refine T.seq ?_
      refine T.region ?_
      refine Run.go (Ev.move rfl rfl) ?_
      obtain ⟨x10, e11, h⟩ := bdS h
      refine Run.go (Ev.callC en62 (k_strings_Cut e11) rfl (.cons .v (.cons .v .nil)) rfl rfl) ?_
      refine Run.go (Ev.move rfl rfl) ?_
      refine Run.go (Ev.extract rfl rfl rfl) ?_
      refine Run.go (Ev.extract rfl rfl rfl) ?_
      refine Run.go (Ev.extract rfl rfl rfl) ?_
      refine Run.go (Ev.assign rfl rfl) ?_
      refine Run.go (Ev.assign rfl rfl) ?_
      refine Run.go (Ev.assign rfl rfl) ?_
      refine Run.nil ?_
      refine T.seq ?_
      refine T.region ?_
      refine Run.go (Ev.move rfl rfl) ?_
      obtain ⟨x12, e13, h⟩ := bdS h
      refine Run.go (Ev.callC en65 (k_digits_Parse e13) rfl (.cons .v .nil) rfl rfl) ?_
      refine Run.go (Ev.move rfl rfl) ?_
      refine Run.go (Ev.extract rfl rfl rfl) ?_
      refine Run.go (Ev.extract rfl rfl rfl) ?_
      refine Run.go (Ev.assign rfl rfl) ?_
      refine Run.go (Ev.assign rfl rfl) ?_
      refine Run.nil ?_
      refine T.seq ?_
      obtain ⟨v14, hv, h⟩ := bdS h
      refine T.cut (fun _ : Unit => (⟨[(9, .v .str x10.2.1), (11, .v (.sl (.int .u64)) x12.1), (12, .v (.int .i64) x12.2), (50, .v .bool v14)], [], 76⟩ : St)) (fun _ => True) ?_ (fun _ _ => ?_)
      · replace h := hv
        clear hv
        refine T.region ?_
        refine Run.go (Ev.move rfl rfl) ?_
        refine Run.go (Ev.int rfl rfl rfl rfl trivial) ?_
        refine Run.go (Ev.move rfl rfl) ?_
        rcases boolCases (!decide (x12.2 = 0)) with hb15 | hb15
        · replace h := ifT hb15 h
          refine Run.offT rfl rfl rfl rfl hb15 ?_
          refine Run.offT rfl rfl rfl rfl hb15 ?_
          refine Run.go (Ev.pickT rfl hb15 rfl rfl) ?_
          refine Run.nil ?_
          cases h
          exact ⟨(), trivial, Ghost.only [] [9, 11, 12, 50] rfl⟩
        · replace h := ifF hb15 h
          refine Run.on rfl rfl rfl hb15 (Ev.move rfl rfl) ?_
          refine Run.on rfl rfl rfl hb15 (Ev.not rfl rfl) ?_
          refine Run.go (Ev.pickF rfl hb15 rfl rfl) ?_
          refine Run.nil ?_
          cases h
          exact ⟨(), trivial, Ghost.only [] [9, 11, 12, 50] rfl⟩
      · refine T.cond rfl (fun hb16 => ?_) (fun hb16 => ?_)
        · replace h := ifT hb16 h
          refine T.seq ?_
          refine T.region ?_
          refine Run.go (Ev.move rfl rfl) ?_
          obtain ⟨x17, e18, h⟩ := bdS h
          refine Run.go (Ev.callC en44 (k_nat_Of e18) rfl (.cons .v .nil) rfl rfl) ?_
          refine Run.go (Ev.move rfl rfl) ?_
          refine Run.go (Ev.assign rfl rfl) ?_
          refine Run.go (Ev.assign rfl rfl) ?_
          refine Run.go (Ev.assign rfl rfl) ?_
          refine Run.nil ?_
          refine T.ret ?_
          cases h
          exact Fin.many X rfl (.cons (.tmp .v) (.cons (.tmp .v) (.cons (.tmp .v) .nil))) rfl
        · replace h := ifF hb16 h
          refine T.skip ?_
          refine T.seq ?_
          refine T.region ?_
          refine Run.go (Ev.move rfl rfl) ?_
          obtain ⟨x19, e20, h⟩ := bdS h
          refine Run.go (Ev.callC en65 (k_digits_Parse e20) rfl (.cons .v .nil) rfl rfl) ?_
          refine Run.go (Ev.move rfl rfl) ?_
          refine Run.go (Ev.extract rfl rfl rfl) ?_
          refine Run.go (Ev.extract rfl rfl rfl) ?_
          refine Run.go (Ev.assign rfl rfl) ?_
          refine Run.go (Ev.assign rfl rfl) ?_
          refine Run.nil ?_
          refine T.seq ?_
          refine T.seq ?_
          refine T.region ?_
          refine Run.go (Ev.move rfl rfl) ?_
          refine Run.go (Ev.int rfl rfl rfl rfl trivial) ?_
          refine Run.nil ?_
          refine T.cond rfl (fun hb21 => ?_) (fun hb21 => ?_)
          · replace h := ifT hb21 h
            refine T.seq ?_
            refine T.region ?_
            refine Run.go (Ev.move rfl rfl) ?_
            refine Run.go (Ev.assign rfl rfl) ?_
            refine Run.go (Ev.assign rfl rfl) ?_
            refine Run.go (Ev.assign rfl rfl) ?_
            refine Run.nil ?_
            refine T.ret ?_
            cases h
            exact Fin.many X rfl (.cons (.tmp .nilv) (.cons (.tmp .nilv) (.cons (.tmp .v) .nil))) rfl
          · replace h := ifF hb21 h
            refine T.skip ?_
            refine T.seq ?_
            refine T.region ?_
            obtain ⟨x22, e23, h⟩ := bdS h
            refine Run.go (Ev.callC en44 (k_nat_Of e23) rfl (.cons .v .nil) rfl rfl) ?_
            refine Run.go (Ev.move rfl rfl) ?_
            refine Run.go (Ev.len X rfl rfl rfl rfl) ?_
            obtain ⟨x24, e25, h⟩ := bdS h
            refine Run.go (Ev.callC en47 (k_mul_Pow e25) rfl (.cons .v (.cons .v .nil)) rfl rfl) ?_
            refine Run.go (Ev.move rfl rfl) ?_
            refine Run.go (Ev.extract rfl rfl rfl) ?_
            refine Run.go (Ev.extract rfl rfl rfl) ?_
            refine Run.go (Ev.assign rfl rfl) ?_
            refine Run.go (Ev.assign rfl rfl) ?_
            refine Run.nil ?_
            refine T.seq ?_
            refine T.region ?_
            refine Run.go (Ev.move rfl rfl) ?_
            refine Run.go (Ev.move rfl rfl) ?_
            obtain ⟨x26, e27, h⟩ := bdS h
            refine Run.go (Ev.callC en49 (k_mul_Mul e27) rfl (.cons .v (.cons .v .nil)) rfl rfl) ?_
            refine Run.go (Ev.move rfl rfl) ?_
            obtain ⟨x28, e29, h⟩ := bdS h
            refine Run.go (Ev.callC en66 (k_nat_Add e29) rfl (.cons .v (.cons .v .nil)) rfl rfl) ?_
            refine Run.go (Ev.move rfl rfl) ?_
            refine Run.go (Ev.move rfl rfl) ?_
            refine Run.go (Ev.assign rfl rfl) ?_
            refine Run.go (Ev.assign rfl rfl) ?_
            refine Run.go (Ev.assign rfl rfl) ?_
            refine Run.nil ?_
            refine T.ret ?_
            cases h
            exact Fin.many X rfl (.cons (.tmp .v) (.cons (.tmp .v) (.cons (.tmp .v) .nil))) rfl
theorem en27 : Enters Tryz.prog 27 := ⟨_, Tryz.func27, rfl, rfl⟩
theorem k_whole_Made {p0 : Bool} {p1 : (List Int)} {y : D_api_Int} (h : m_whole_Made p0 p1 = some y) : Spec Tryz.prog 27 [(.v .bool p0), (.v (.sl (.int .u64)) p1)] (.v Y_api_Int y) [] := by
  rw [m_whole_Made] at h
  refine enterN [(.v .bool p0), (.v (.sl (.int .u64)) p1)] 20 Tryz.func27 rfl rfl rfl ?_
  refine T.seq ?_
  refine T.region ?_
  refine Run.go (Ev.allocN X 1 rfl rfl rfl) ?_
  refine Run.nil ?_
  refine T.seq ?_
  refine T.region ?_
  refine Run.go (Ev.move rfl rfl) ?_
  obtain ⟨x1, e2, h⟩ := bdS h
  refine Run.go (Ev.callC en72 (k_nat_Make e2) rfl (.cons .v .nil) rfl rfl) ?_
  refine Run.go (Ev.move rfl rfl) ?_
  refine Run.go (Ev.extract rfl rfl rfl) ?_
  refine Run.go (Ev.extract rfl rfl rfl) ?_
  refine Run.go (Ev.assign rfl rfl) ?_
  refine Run.go (Ev.assign rfl rfl) ?_
  refine Run.nil ?_
  refine T.seq ?_
  refine T.region ?_
  refine Run.go (Ev.move rfl rfl) ?_
  refine Run.go (Ev.move rfl rfl) ?_
  rcases boolCases p0 with hb3 | hb3
  · replace h := ifT hb3 h
    refine Run.on rfl rfl rfl hb3 (Ev.move rfl rfl) ?_
    refine Run.on rfl rfl rfl hb3 (Ev.len X rfl rfl rfl rfl) ?_
    refine Run.on rfl rfl rfl hb3 (Ev.int rfl rfl rfl rfl trivial) ?_
    refine Run.go (Ev.pickT rfl hb3 rfl rfl) ?_
    refine Run.go (Ev.move rfl rfl) ?_
    refine Run.go (Ev.struct X pl25 rfl rfl rfl rfl rfl rfl rfl rfl) ?_
    refine Run.do_ (Ev.storeBox X rfl rfl rfl rfl rfl rfl rfl) ?_
    refine Run.nil ?_
    refine T.ret ?_
    cases h
    exact Fin.cell X rfl rfl rfl rfl rfl
  · replace h := ifF hb3 h
    refine Run.offT rfl rfl rfl rfl hb3 ?_
    refine Run.offT rfl rfl rfl rfl hb3 ?_
    refine Run.offT rfl rfl rfl rfl hb3 ?_
    refine Run.go (Ev.pickF rfl hb3 rfl rfl) ?_
    refine Run.go (Ev.move rfl rfl) ?_
    refine Run.go (Ev.struct X pl25 rfl rfl rfl rfl rfl rfl rfl rfl) ?_
    refine Run.do_ (Ev.storeBox X rfl rfl rfl rfl rfl rfl rfl) ?_
    refine Run.nil ?_
    refine T.ret ?_
    cases h
    exact Fin.cell X rfl rfl rfl rfl rfl
theorem en70 : Enters Tryz.prog 70 := ⟨_, Tryz.func70, rfl, rfl⟩
theorem k_whole_Sign {p0 : D_api_Int} {y : Int} (h : m_whole_Sign p0 = some y) : Spec Tryz.prog 70 [(.v Y_api_Int p0)] (.v (.int .i64) y) [] := by
  rw [m_whole_Sign] at h
  refine enterN [(.v Y_api_Int p0)] 11 Tryz.func70 rfl rfl rfl ?_
  refine T.seq ?_
  refine T.region ?_
  refine Run.go (Ev.box 1 rfl rfl rfl rfl) ?_
  refine Run.go (Ev.assign rfl rfl) ?_
  refine Run.nil ?_
  refine T.seq ?_
  refine T.block ?_
  refine T.seq ?_
  refine T.region ?_
  refine Run.go (Ev.fieldBox X rfl rfl rfl rfl rfl) ?_
  refine Run.go (Ev.loadCell X rfl rfl rfl rfl rfl rfl) ?_
  refine Run.go (Ev.len X rfl rfl rfl rfl) ?_
  refine Run.go (Ev.int rfl rfl rfl rfl trivial) ?_
  refine Run.go (Ev.assign rfl rfl) ?_
  refine Run.nil ?_
  refine T.cond rfl (fun hb1 => ?_) (fun hb1 => ?_)
  · replace h := ifT hb1 h
    refine T.seq ?_
    refine T.region ?_
    refine Run.go (Ev.assign rfl rfl) ?_
    refine Run.nil ?_
    refine T.ret ?_
    cases h
    exact Fin.one rfl .v
  · replace h := ifF hb1 h
    refine T.seq ?_
    refine T.region ?_
    refine Run.go (Ev.fieldBox X rfl rfl rfl rfl rfl) ?_
    refine Run.go (Ev.loadCell X rfl rfl rfl rfl rfl rfl) ?_
    refine Run.go (Ev.assign rfl rfl) ?_
    refine Run.nil ?_
    refine T.cond rfl (fun hb2 => ?_) (fun hb2 => ?_)
    · replace h := ifT hb2 h
      refine T.seq ?_
      refine T.region ?_
      refine Run.go (Ev.assign rfl rfl) ?_
      refine Run.nil ?_
      refine T.ret ?_
      cases h
      exact Fin.one rfl .v
    · replace h := ifF hb2 h
      refine T.skip ?_
      refine T.seq ?_
      refine T.region ?_
      refine Run.go (Ev.assign rfl rfl) ?_
      refine Run.nil ?_
      refine T.ret ?_
      cases h
      exact Fin.one rfl .v
theorem en106 : Enters Tryz.prog 106 := ⟨_, Tryz.func106, rfl, rfl⟩
theorem k_nat_May {p0 : (List Int)} {y : Bool} (h : m_nat_May p0 = some y) : Spec Tryz.prog 106 [(.v (.sl (.int .u64)) p0)] (.v .bool y) [] := by
  rw [m_nat_May] at h
  refine enterN [(.v (.sl (.int .u64)) p0)] 26 Tryz.func106 rfl rfl rfl ?_
  refine T.seq ?_
  refine T.region ?_
  refine Run.go (Ev.assign rfl rfl) ?_
  refine Run.nil ?_
  refine T.seq ?_
  refine T.seq ?_
  refine T.region ?_
  refine Run.go (Ev.move rfl rfl) ?_
  refine Run.go (Ev.len X rfl rfl rfl rfl) ?_
  refine Run.go (Ev.move rfl rfl) ?_
  refine Run.nil ?_
  refine T.block ?_
  refine T.loop (LoopT.ghost (Ghost.only [] [0, 5, 6, 7] rfl) (LoopT.run (fun q : Int => (⟨[(0, .v (.sl (.int .u64)) p0), (5, .v (.sl (.int .u64)) p0), (6, .v (.int .i64) ((p0.length : Int) : Int)), (7, .v (.int .i64) q)], [], 26⟩ : St)) (fun v1 z1 h hz1 => ?_) h))
  rw [m_nat_May_l1] at h
  refine T.seq ?_
  refine T.region ?_
  refine Run.go (Ev.int rfl rfl rfl rfl trivial) ?_
  refine Run.nil ?_
  refine T.seq ?_
  refine T.cond rfl (fun hb2 => ?_) (fun hb2 => ?_)
  · replace h := ifT hb2 h
    refine T.skip ?_
    refine T.seq ?_
    refine T.block ?_
    refine T.seq ?_
    refine T.region ?_
    obtain ⟨x3, e4, h⟩ := bdS h
    refine Run.go (Ev.e_rd X e4 rfl rfl rfl rfl) ?_
    refine Run.go (Ev.load X rfl rfl rfl) ?_
    refine Run.go (Ev.assign rfl rfl) ?_
    refine Run.nil ?_
    refine T.seq ?_
    refine T.region ?_
    refine Run.go (Ev.move rfl rfl) ?_
    refine Run.go (Ev.int rfl rfl rfl rfl trivial) ?_
    refine Run.nil ?_
    refine T.cond rfl (fun hb5 => ?_) (fun hb5 => ?_)
    · replace h := ifT hb5 h
      refine T.seq ?_
      refine T.region ?_
      refine Run.go (Ev.assign rfl rfl) ?_
      refine Run.nil ?_
      refine T.ret ?_
      cases h
      cases hz1
      exact Fin.one rfl .v
    · replace h := ifF hb5 h
      refine T.skip ?_
      refine T.region ?_
      refine Run.go (Ev.int rfl rfl rfl rfl trivial) ?_
      refine Run.go (Ev.move rfl rfl) ?_
      refine Run.nil ?_
      cases h
      exact LoopT.ghost (Ghost.only [] [0, 5, 6, 7] rfl) hz1
  · replace h := ifF hb2 h
    refine T.exit ?_
    refine T.seq ?_
    refine T.region ?_
    refine Run.go (Ev.move rfl rfl) ?_
    refine Run.go (Ev.len X rfl rfl rfl rfl) ?_
    refine Run.go (Ev.int rfl rfl rfl rfl trivial) ?_
    refine Run.go (Ev.move rfl rfl) ?_
    rcases boolCases (decide ((p0.length : Int) = 0)) with hb6 | hb6
    · replace h := ifT hb6 h
      refine Run.offT rfl rfl rfl rfl hb6 ?_
      refine Run.offT rfl rfl rfl rfl hb6 ?_
      refine Run.offT rfl rfl rfl rfl hb6 ?_
      refine Run.offT rfl rfl rfl rfl hb6 ?_
      refine Run.offT rfl rfl rfl rfl hb6 ?_
      refine Run.offT rfl rfl rfl rfl hb6 ?_
      refine Run.offT rfl rfl rfl rfl hb6 ?_
      refine Run.go (Ev.pickT rfl hb6 rfl rfl) ?_
      refine Run.go (Ev.assign rfl rfl) ?_
      refine Run.nil ?_
      refine T.ret ?_
      cases h
      cases hz1
      exact Fin.one rfl .v
    · replace h := ifF hb6 h
      refine Run.on rfl rfl rfl hb6 (Ev.move rfl rfl) ?_
      refine Run.on rfl rfl rfl hb6 (Ev.move rfl rfl) ?_
      refine Run.on rfl rfl rfl hb6 (Ev.len X rfl rfl rfl rfl) ?_
      refine Run.on rfl rfl rfl hb6 (Ev.int rfl rfl rfl rfl trivial) ?_
      obtain ⟨x7, e8, h⟩ := bdS h
      refine Run.on rfl rfl rfl hb6 (Ev.e_rd X e8 rfl rfl rfl rfl) ?_
      refine Run.on rfl rfl rfl hb6 (Ev.load X rfl rfl rfl) ?_
      refine Run.on rfl rfl rfl hb6 (Ev.int rfl rfl rfl rfl trivial) ?_
      refine Run.go (Ev.pickF rfl hb6 rfl rfl) ?_
      refine Run.go (Ev.assign rfl rfl) ?_
      refine Run.nil ?_
      refine T.ret ?_
      cases h
      cases hz1
      exact Fin.one rfl .v
theorem en105 : Enters Tryz.prog 105 := ⟨_, Tryz.func105, rfl, rfl⟩
theorem k_limb_Div {p0 : Int} {p1 : Int} {p2 : Int} {y : Int × Int × Int} (h : m_limb_Div p0 p1 p2 = some y) : Spec Tryz.prog 105 [(.v (.int .u64) p0), (.v (.int .u64) p1), (.v (.int .u64) p2)] (.tup [.v (.int .u64) y.1, .v (.int .u64) y.2.1, .v (.int .i64) y.2.2]) [] := by
  rw [m_limb_Div] at h
  refine enterN [(.v (.int .u64) p0), (.v (.int .u64) p1), (.v (.int .u64) p2)] 33 Tryz.func105 rfl rfl rfl ?_
  refine T.seq ?_
  refine T.region ?_
  refine Run.go (Ev.assign rfl rfl) ?_
  refine Run.go (Ev.assign rfl rfl) ?_
  refine Run.go (Ev.assign rfl rfl) ?_
  refine Run.nil ?_
  refine T.seq ?_
  refine T.region ?_
  refine Run.go (Ev.move rfl rfl) ?_
  refine Run.go (Ev.int rfl rfl rfl rfl trivial) ?_
  refine Run.go (Ev.move rfl rfl) ?_
  refine Run.go (Ev.int rfl rfl rfl rfl trivial) ?_
  refine Run.go (Ev.move rfl rfl) ?_
  refine Run.go (Ev.int rfl rfl rfl rfl trivial) ?_
  refine Run.go (Ev.assign rfl rfl) ?_
  refine Run.go (Ev.assign rfl rfl) ?_
  refine Run.go (Ev.assign rfl rfl) ?_
  refine Run.nil ?_
  refine T.seq ?_
  refine T.block ?_
  refine T.seq ?_
  refine T.region ?_
  refine Run.go (Ev.move rfl rfl) ?_
  refine Run.go (Ev.int rfl rfl rfl rfl trivial) ?_
  obtain ⟨x1, e2, h⟩ := ltS h
  refine Run.go (Ev.avs (Ev.assign rfl rfl) e2) ?_
  refine Run.nil ?_
  refine T.cond rfl (fun hb3 => ?_) (fun hb3 => ?_)
  · replace h := ifT hb3 h
    refine T.seq ?_
    refine T.region ?_
    refine Run.go (Ev.assign rfl rfl) ?_
    refine Run.go (Ev.assign rfl rfl) ?_
    refine Run.go (Ev.assign rfl rfl) ?_
    refine Run.nil ?_
    refine T.ret ?_
    cases h
    exact Fin.many X rfl (.cons (.tmp .v) (.cons (.tmp .v) (.cons (.tmp .v) .nil))) rfl
  · replace h := ifF hb3 h
    refine T.seq ?_
    refine T.region ?_
    refine Run.go (Ev.move rfl rfl) ?_
    refine Run.go (Ev.move rfl rfl) ?_
    refine Run.go (Ev.int rfl rfl rfl rfl trivial) ?_
    obtain ⟨x4, e5, h⟩ := ltS h
    refine Run.go (Ev.avs (Ev.assign rfl rfl) e5) ?_
    refine Run.nil ?_
    refine T.cond rfl (fun hb6 => ?_) (fun hb6 => ?_)
    · replace h := ifT hb6 h
      refine T.seq ?_
      refine T.region ?_
      refine Run.go (Ev.assign rfl rfl) ?_
      refine Run.go (Ev.assign rfl rfl) ?_
      refine Run.go (Ev.assign rfl rfl) ?_
      refine Run.nil ?_
      refine T.ret ?_
      cases h
      exact Fin.many X rfl (.cons (.tmp .v) (.cons (.tmp .v) (.cons (.tmp .v) .nil))) rfl
    · replace h := ifF hb6 h
      refine T.skip ?_
      refine T.seq ?_
      refine T.region ?_
      refine Run.go (Ev.move rfl rfl) ?_
      obtain ⟨x7, e8, h⟩ := bdS h
      refine Run.go (Ev.e_sh e8 rfl rfl rfl) ?_
      refine Run.go (Ev.move rfl rfl) ?_
      refine Run.go (Ev.int rfl rfl rfl rfl trivial) ?_
      obtain ⟨x9, e10, h⟩ := ltS h
      refine Run.go (Ev.avs (Ev.assign rfl rfl) e10) ?_
      refine Run.nil ?_
      refine T.seq ?_
      refine T.drawM [] [0, 0, 3, 0, 0, 24, 7, 127, 255] (by kernel_rfl) (by kernel_rfl) ?_
      refine RunD.w (fun _ => Ev.move rfl rfl) ?_
      refine RunD.w (fun _ => Ev.move rfl rfl) ?_
      obtain ⟨x11, e12, h⟩ := bdS h
      refine RunD.w (fun _ => Ev.e_qd e12 rfl rfl rfl) ?_
      refine RunD.w (fun _ => Ev.move rfl rfl) ?_
      refine RunD.w (fun _ => Ev.move rfl rfl) ?_
      obtain ⟨x13, e14, h⟩ := bdS h
      refine RunD.w (fun _ => Ev.e_rm e14 rfl rfl rfl) ?_
      refine RunD.w (fun _ => Ev.assign rfl rfl) ?_
      refine RunD.w (fun _ => Ev.assign rfl rfl) ?_
      refine RunD.w (fun _ => Ev.assign rfl rfl) ?_
      refine RunD.nil ?_
      refine T.ret ?_
      cases h
      exact Fin.many X rfl (.cons (.tmp .v) (.cons (.tmp .v) (.cons (.tmp .v) .nil))) rfl
end Go.Proofs.YtfboepeadeafmaaGreatDoor.AE
