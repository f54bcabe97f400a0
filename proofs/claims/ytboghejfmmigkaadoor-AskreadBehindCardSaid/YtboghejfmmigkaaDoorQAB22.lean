/- More rules: what a call hands back of variables, pointers that may be nil, the text builder. -/
import Derived.Test.YtboghejfmmigkaaDoorQAB21
import Derived.Laws.Tables
import Derived.Laws.Bits64
import Derived.Laws.BitsAllLaws
import Derived.Laws.BitsLemmas
import GoSem.Op.IntBits
import GoSem.Op.String
import GoSem.Core.Utf8
import GoSem.Core.Next
import Derived.Laws.Externs
import Derived.Laws.StructEq
import Derived.Laws.RangeString
import Derived.Laws.BytesArg
import Derived.Laws.Pointers
import Derived.Lib.ConvBytes
import GoSem.Instr.MapUpdate
import GoSem.Instr.MakeMap
import Derived.Lib.Builder
import Derived.LaidEqlPtr
/- A checked evaluator: structs out of their fields. -/
namespace Go.Proofs.YtboghejfmmigkaaDoor.AE
open Go Go.RowKit
set_option linter.unusedSimpArgs false
set_option linter.unusedVariables false

theorem set_fold (off : Nat) : ∀ (l : List Value) (j : Nat) (cells : Array Value), off + j + l.length ≤ cells.size →
    ((l.zipIdx j).foldl (fun (cs : Array Value) (p : Value × Nat) => cs.setIfInBounds (off + p.2) p.1) cells).toList = cells.toList.take (off + j) ++ l ++ cells.toList.drop (off + j + l.length)
  | [], j, cells, _ => by simp
  | v :: l, j, cells, h => by
    rw [List.length_cons] at h
    rw [List.zipIdx_cons, List.foldl_cons, set_fold off l (j + 1) _ (by simp; omega)]
    have hlt : off + j < cells.toList.length := by rw [Array.length_toList]; omega
    rw [Array.toList_setIfInBounds]
    generalize cells.toList = L at hlt
    have hs : L.set (off + j) v = (L.take (off + j) ++ [v]) ++ L.drop (off + j + 1) := by
      rw [List.set_eq_take_append_cons_drop, if_pos hlt, List.append_assoc]; rfl
    have hl : (L.take (off + j) ++ [v]).length = off + (j + 1) := by rw [List.length_append, List.length_take, Nat.min_eq_left (by omega)]; rfl
    rw [hs, List.take_left' hl, ← hl, List.drop_length_add_append, List.drop_drop, List.length_cons, show off + j + 1 + l.length = off + j + (l.length + 1) by omega]
    simp only [List.append_assoc, List.cons_append, List.nil_append]
def Fits (place : Nat → Option (Nat × Nat)) : List Value → Nat → Nat → Prop
  | [], _, _ => True
  | v :: vs, k, off => place k = some (off, v.cells.size) ∧ Fits place vs (k + 1) (off + v.cells.size)
theorem fill_fits (place : Nat → Option (Nat × Nat)) : ∀ (vs : List Value) (k off : Nat) (cells : Array Value), Fits place vs k off → off + (vs.flatMap fun v => v.cells.toList).length ≤ cells.size →
    ∃ r, Instr.fill place cells ((vs.zipIdx k).map fun x => (x.2, x.1)) = some r ∧ r.toList = cells.toList.take off ++ (vs.flatMap fun v => v.cells.toList) ++ cells.toList.drop (off + (vs.flatMap fun v => v.cells.toList).length)
  | [], k, off, cells, _, _ => ⟨cells, rfl, by simp⟩
  | v :: vs, k, off, cells, ⟨h1, h2⟩, hs => by
    rw [List.flatMap_cons, List.length_append, Array.length_toList] at hs
    have hf := set_fold off v.cells.toList 0 cells (by simp; omega)
    simp only [Nat.add_zero, Array.length_toList] at hf
    generalize hc : ((v.cells.toList.zipIdx 0).foldl (fun (cs : Array Value) (p : Value × Nat) => cs.setIfInBounds (off + p.2) p.1) cells) = c2 at hf
    have hsz : c2.size = cells.size := by
      rw [← Array.length_toList, hf]
      simp
      omega
    obtain ⟨r, g1, g2⟩ := fill_fits place vs (k + 1) (off + v.cells.size) c2 h2 (by omega)
    refine ⟨r, ?_, ?_⟩
    · rw [List.zipIdx_cons, List.map_cons]
      unfold Instr.fill
      dsimp only
      rw [h1]
      dsimp only
      rw [if_neg (by simp; omega)]
      have : (v.cells.zipIdx.foldl (fun cs (p : Value × Nat) => cs.setIfInBounds (off + p.2) p.1) cells) = c2 := by
        rw [← hc, ← Array.foldl_toList, Array.toList_zipIdx]
      rw [← g1]
      congr 1
    · rw [g2, hf, List.flatMap_cons, List.length_append, Array.length_toList]
      have e0 : (cells.toList.take off).length = off := by simp; omega
      have e1 : (cells.toList.take off ++ v.cells.toList).length = off + v.cells.size := by rw [List.length_append, e0, Array.length_toList]
      rw [List.take_append_of_le_length (by rw [e1]; exact Nat.le_refl _), List.take_of_length_le (by rw [e1]; exact Nat.le_refl _), List.drop_append_of_le_length' e1, List.drop_drop]
      simp only [List.append_assoc, Nat.add_assoc, Array.length_toList]
where List.drop_append_of_le_length' {x y : List Value} {m n : Nat} (h : x.length = m) : List.drop (m + n) (x ++ y) = List.drop n y := by subst h; exact List.drop_length_add_append _

def placesOf (P : Program) (t : TypeId) : Option (List (Nat × Nat)) := match P.underlying t with
  | some (.struct fs) => fs.toList.mapM (fun f => (P.info? f.type).map fun i => (f.offset, i.size))
  | _ => none
def denseP : List (Nat × Nat) → Nat → Bool
  | [], _ => true
  | (x, y) :: r, k => Nat.beq x k && denseP r (k + y)
def sprs : List AV → Option (List (List AV))
  | [] => some []
  | A :: avs => match spread A, sprs avs with
    | some x, some xs => some (x :: xs)
    | _, _ => none
def lensOk : List (List AV) → List (Nat × Nat) → Bool
  | [], [] => true
  | x :: xs, (_, y) :: r => Nat.beq x.length y && lensOk xs r
  | _, _ => false
theorem sprs_rel {w : World} {M : Nat → Prop} {o : Objs} {loc : Nat → Nat × Nat} (f : Operand → Value) (g : Operand → AV) (place : Nat → Option (Nat × Nat)) : ∀ (ops : List Operand) (ass : List (List AV)) (pl : List (Nat × Nat)) (k off : Nat), sprs (ops.map g) = some ass → lensOk ass pl = true → denseP pl off = true → (∀ i, place (k + i) = pl[i]?) → (∀ x ∈ ops, AV.rel w M loc o (g x) (f x)) →
    AV.rels w M loc o ass.flatten ((ops.map f).flatMap fun v => v.cells.toList) ∧ Fits place (ops.map f) k off
  | [], ass, pl, k, off, h, _, _, _, _ => by cases h; exact ⟨by simp [AV.rels], trivial⟩
  | x :: ops, ass, pl, k, off, h, hl, hd, hp, hr => by
    rw [List.map_cons] at h
    unfold sprs at h
    split at h
    · rename_i y ys h1 h2
      cases h
      cases pl with
      | nil => cases hl
      | cons p pl =>
        obtain ⟨px, py⟩ := p
        unfold lensOk at hl
        unfold denseP at hd
        rw [Bool.and_eq_true] at hl hd
        obtain ⟨cs, e1, e2, _⟩ := spread_rel h1 (hr x (by simp))
        have hlen : (f x).cells.size = py := by rw [e1, List.size_toArray, rels_len e2]; exact Nat.eq_of_beq_eq_true hl.1
        have hoff : px = off := Nat.eq_of_beq_eq_true hd.1
        obtain ⟨g1, g2⟩ := sprs_rel f g place ops ys pl (k + 1) (off + py) h2 hl.2 hd.2 (fun i => by have := hp (i + 1); rwa [show k + (i + 1) = k + 1 + i by omega, List.getElem?_cons_succ] at this) (fun z hz => hr z (by simp [hz]))
        refine ⟨?_, ?_, ?_⟩
        · rw [List.flatten_cons, List.map_cons, List.flatMap_cons, e1, List.toList_toArray]
          exact rels_append e2 g1
        · have := hp 0
          rw [Nat.add_zero] at this
          rw [this, hlen, ← hoff]; rfl
        · rw [hlen]; exact g2
    · cases h
section
variable {P : Program} {s : List (Nat × AV)} {o : Objs} {n d : Nat} {ty : TypeId} {pos : String} {after : Array Edge} {gd : Option (Nat × Bool)} {t : TypeId}
/-- A struct out of all its fields. -/
theorem Ev.struct (X : Cx P) {parts : Array (Nat × Operand)} {τ : Ty} {y : τ.den} {pl : List (Nat × Nat)} {ass : List (List AV)} (hpl : placesOf P t = some pl) (hdn : denseP pl 0 = true) (hp : parts.toList = ((parts.toList.map (·.2)).zipIdx 0).map fun x => (x.2, x.1)) (hs : sprs ((parts.toList.map (·.2)).map (V s o n)) = some ass) (hl : lensOk ass pl = true) (ht : X.ty t = some τ) (ha : τ.agg = true) (hy : gath τ ass.flatten = some y) (hd : Nat.blt d n = true) :
    Ev P ⟨some d, .build t parts, ty, pos, after, gd⟩ s o n (.v τ y) o :=
  Ev.pure hd (fun N w0 loc a w hlk => by
    obtain ⟨g1, g2⟩ := sprs_rel a.eval (V s o n) (fun i => pl.toArray[i]?) _ ass pl 0 0 hs hl hdn (fun i => by simp) (fun x hx => hlk.val x (by simpa [Op.operands] using hx))
    have hr := gath_rel τ _ y _ hy g1
    have hlen := Ty.relc_len τ y _ hr
    obtain ⟨f, z, hf, hfs, hz, hzc, _⟩ := (X.ok _ _ ht).info
    have hzs : z.cells.size = τ.sz := by rw [hzc, List.size_toArray, Ty.relc_len τ τ.zero τ.zcells (Ty.relc_zero w (fun _ => False) τ)]
    obtain ⟨r, e1, e2⟩ := fill_fits (fun i => pl.toArray[i]?) _ 0 0 z.cells g2 (by rw [hlen, hzs]; omega)
    have h1 : ∀ ops : List Operand, parts.toList = (ops.zipIdx 0).map (fun x => (x.2, x.1)) → (parts.map fun (i, x) => (i, a.eval x)).toList = ((ops.map a.eval).zipIdx 0).map fun x => (x.2, x.1) := by
      intro ops h
      rw [Array.toList_map, h, List.map_map, List.zipIdx_map, List.map_map]
      rfl
    have hb : P.built t (parts.map fun (i, x) => (i, a.eval x)).toList = some r := by
      unfold placesOf at hpl
      unfold Program.built
      cases hu : P.underlying t with
      | none => rw [hu] at hpl; cases hpl
      | some dd =>
        rw [hu] at hpl
        cases dd with
        | struct fs =>
          dsimp only at hpl
          rw [hf]
          dsimp only
          rw [hz, hpl]
          dsimp only
          rw [h1 _ hp]
          exact e1
        | _ => cases hpl
    refine ⟨.agg r, run_v (run_build w t _ r hb), _, hr, ?_⟩
    unfold Ty.val
    rw [if_pos ha]
    congr 1
    apply Array.toList_inj.1
    rw [e2, List.take_zero, List.nil_append, List.drop_of_length_le (by rw [Array.length_toList, hlen, hzs]; omega), List.append_nil])
end
end Go.Proofs.YtboghejfmmigkaaDoor.AE
/- A checked evaluator: the rest of a row of one's own, and copies into it. -/
namespace Go.Proofs.YtboghejfmmigkaaDoor.AE
open Go Go.RowKit
set_option linter.unusedSimpArgs false
set_option linter.unusedVariables false
theorem Flat.split {w : World} {M : Nat → Prop} {t : Ty} : ∀ {xs : List t.den} {vs : List Value} (i : Nat), Flat w M t xs vs → Flat w M t (xs.take i) (vs.take (i * t.sz)) ∧ Flat w M t (xs.drop i) (vs.drop (i * t.sz))
  | [], _, i, h => by cases h; simp [Flat]
  | x :: xs, vs, 0, h => by rw [Nat.zero_mul]; exact ⟨rfl, h⟩
  | x :: xs, _, i + 1, ⟨ds, rest, e, h1, h2⟩ => by
    have hl := Ty.relc_len t x ds h1
    obtain ⟨g1, g2⟩ := Flat.split i h2
    rw [e, show (i + 1) * t.sz = ds.length + i * t.sz by rw [Nat.add_mul, hl]; omega, List.take_length_add_append, List.drop_length_add_append]
    exact ⟨⟨ds, _, rfl, h1, g1⟩, g2⟩
theorem Flat.splice {w : World} {M : Nat → Prop} {t : Ty} {xs ys : List t.den} {vs news : List Value} (h : Flat w M t xs vs) (i : Nat) (k : Flat w M t ys news) : Flat w M t (xs.take i ++ ys ++ xs.drop (i + ys.length)) (vs.take (i * t.sz) ++ news ++ vs.drop (i * t.sz + news.length)) := by
  rw [k.len, ← Nat.add_mul]
  exact ((h.split i).1.append k).append (h.split (i + ys.length)).2
theorem SatF.alike {N : Nat → Prop} {w0 : Base} {w : World} {o o' : Objs} {n : Nat} {F : Nat → AV} {loc : Nat → Nat × Nat} {a : Act} (hs : SatF N w0 o n F loc a w) (h : ∀ i, lookO o' i = lookO o i) : SatF N w0 o' n F loc a w := by
  have hh : ∀ i ob, Has loc o' i ob → Has loc o i ob := fun i ob ⟨h1, h2, h3⟩ => ⟨by rw [← h i]; exact h1, h2, h3⟩
  have ht : Turns loc loc o o' := Turns.same fun i ob h1 => ⟨by rw [h i]; exact h1, rfl⟩
  have hk : Keeps w w (Muts N loc o) (Muts N loc o') := keeps_less fun k hm => by
    rcases hm with h1 | ⟨i, ob, h1, rfl⟩
    · exact .inl h1
    · exact .inr ⟨i, ob, hh i ob h1, rfl⟩
  exact hs.chg hs.below hk ht ⟨fun i ob h1 => hs.rep.new i ob (hh i ob h1), fun i i' ob1 ob2 h1 h2 => hs.rep.inj i i' ob1 ob2 (hh i ob1 h1) (hh i' ob2 h2), fun i ob h1 => Ob.rel_turns hk ht ob (fun _ _ => rfl) (hs.rep.obs i ob (by rw [← h i]; exact h1))⟩
section
variable {P : Program} {s : List (Nat × AV)} {o : Objs} {n d : Nat} {ty : TypeId} {pos : String} {after : Array Edge} {gd : Option (Nat × Bool)} {t : TypeId} {x y : Operand}
/-- The rest of a row of one's own. -/
theorem Ev.rest (X : Cx P) {h : Operand} {id E : Nat} {τ : Ty} {l : List τ.den} {k : IntKind} {m : Int} (hx : V s o n x = .own id) (ho : lookO o id = some (.arr E τ l)) (hh : V s o n h = .v (.int k) m) (ht : X.ty t = some (.sl τ)) (hd : Nat.blt d n = true) (h0 : 0 ≤ m) (h1 : m ≤ l.length) :
    Ev P ⟨some d, .slice t x (some h) none none, ty, pos, after, gd⟩ s o n (.osl id m.toNat) o :=
  Ev.pure hd (fun N w0 loc a w hs => by
    obtain ⟨A, hX, hA⟩ := own_at ho (hs.look (by simp [Op.operands]) hx)
    have hH := of_int (hs.look (by simp [Op.operands]) hh)
    obtain ⟨e, hu, hi'⟩ := (X.ok _ _ ht).desc
    have hob := hs.rep.obs id _ ho
    have hle := hob.1
    have hb := run_bounds (P := P) true l.length (loc id).2 (some (a.eval h)) none m l.length (.inr ⟨k, by rw [hH]⟩) (.inl ⟨rfl, rfl⟩) h0 h1 (by omega) w
    refine ⟨.slice (if (loc id).2 = m.toNat then A else A.map (·.add (m.toNat * τ.sz))) (l.length - m.toNat) ((loc id).2 - m.toNat), ?_, ?_⟩
    · simp [execOp, Instr.sliceAt, Instr.slice, hX, Go.underlying, hu, hb, hi'.run_size]
    · rw [AV.rel]
      refine ⟨_, ho, fun E' t' l' e => ?_⟩
      cases e
      refine ⟨by omega, _, rfl, fun hp => ?_⟩
      rw [if_neg (by omega), hA (by omega)]
      simp [add_lit])
/-- A copy into the rest of a row of one's own, that has room for it. -/
theorem Ev.copy (X : Cx P) {t' : TypeId} {id i E : Nat} {τ : Ty} {l ys : List τ.den} {A : AV} (hx : V s o n x = .osl id i) (ho : lookO o id = some (.arr E τ l)) (hy : V s o n y = A) (hA : Src o A τ ys) (ht : X.ty t = some (.sl τ)) (hd : Nat.blt d n = true) (hfit : i + ys.length ≤ l.length) :
    Ev P ⟨some d, .call ⟨.builtin .copy, #[x, y], #[t, t']⟩, ty, pos, after, gd⟩ s o n (.v (.int .i64) (ys.length : Int)) ((id, .arr E τ (l.take i ++ ys ++ l.drop (i + ys.length))) :: o) := Ev.mk fun F hF N w0 loc a w _ hs Q K hK => by
  have hlk := hs.lk hF
  have hX := hlk.look (by simp [Op.operands, Call.operands]) hx
  rw [AV.rel] at hX
  obtain ⟨ob, ho', hX⟩ := hX
  rw [ho] at ho'
  cases ho'
  obtain ⟨hil, A0, hX, hA0⟩ := hX E τ l rfl
  obtain ⟨A1, c1, hY, news, hfl, hnews⟩ := src_cells hs.rep hA (hlk.look (by simp [Op.operands, Call.operands]) hy)
  have hob := hs.rep.obs id _ ho
  obtain ⟨e, hu, hi⟩ := (X.ok _ _ ht).desc
  have hnl := hfl.len
  have hlen : (l.take i ++ ys ++ l.drop (i + ys.length)).length = l.length := by simp; omega
  by_cases hm : 0 < ys.length
  · obtain ⟨ad, rfl, hcells⟩ := hnews hm
    have hle := hob.1
    have hc : 0 < (loc id).2 := by omega
    have hA0 := hA0 (by omega)
    subst hA0
    obtain ⟨cur, vs, hcur, hcs, hvs, htk⟩ := arr_flat hob hc
    have hfc := run_loadCells (P := P) (w := w) ad (ys.length * τ.sz) 0 #[] news hnl (fun j z hj => by rw [Nat.zero_add]; exact hcells j z hj)
    have hcl : i * τ.sz + news.length ≤ cur.size := by
      rw [hnl, hcs, ← Nat.add_mul]
      exact Nat.mul_le_mul_right _ (by omega)
    have hst := run_storeCells_at (P := P) (loc id).1 (i * τ.sz) E news 0 cur w hcur (by omega) hfl.one
    simp only [Nat.add_zero] at hst
    have hrun : (execOp a.eval ⟨some d, .call ⟨.builtin .copy, #[x, y], #[t, t']⟩, ty, pos, after, gd⟩).run P w = .ok (.value (.int .i64 (ys.length : Int))) (w.setRow (loc id).1 (cur.toList.take (i * τ.sz) ++ news ++ cur.toList.drop (i * τ.sz + news.length)).toArray) := by
      have hmin : Nat.min ys.length (l.length - i) = ys.length := Nat.min_eq_left (by omega)
      simp only [execOp, resolve]
      simp [invoke, builtin, Builtin.copy_, hX, hY, Go.underlying, hu, Builtin.lenOf, hmin, hi.run_size, Builtin.firstCells, loadCells, hfc, goInt]
      simp at hst
      simp [hst]
    unfold Oper.wp
    rw [hrun]
    have hset := setRow_heap w (loc id).1 cur (cur.toList.take (i * τ.sz) ++ news ++ cur.toList.drop (i * τ.sz + news.length)).toArray E (0, 0) hcur
    have := hs.set (w' := w.setRow (loc id).1 (cur.toList.take (i * τ.sz) ++ news ++ cur.toList.drop (i * τ.sz + news.length)).toArray) (ob' := .arr E τ (l.take i ++ ys ++ l.drop (i + ys.length))) ho rfl (.arr hlen) hc rfl rfl rfl (by simp [World.setRow]) (fun k _ hk => setRow_other w _ k _ hk) (fun M' o' hk ht => by
      have hfs := (hvs.splice i hfl).keeps hk
      refine flat_arr (by rw [hlen]; exact hob.1) hob.2.1 (fun _ => ⟨hset, ?_, hfs, ?_⟩)
      · simp only [List.size_toArray, List.length_append, List.length_take, List.length_drop, Array.length_toList]
        omega
      · have e1 : i * τ.sz ≤ l.length * τ.sz := Nat.mul_le_mul_right _ hil
        have e2 : (i + ys.length) * τ.sz ≤ l.length * τ.sz := Nat.mul_le_mul_right _ hfit
        rw [Nat.add_mul] at e2
        have hle2 : l.length * τ.sz ≤ cur.size := by rw [hcs]; exact Nat.mul_le_mul_right _ hle
        rw [← htk, List.toList_toArray, hlen, List.take_take, Nat.min_eq_left (by omega)]
        have e3 : (List.take (i * τ.sz) cur.toList ++ news).length = i * τ.sz + news.length := by simp; omega
        rw [List.take_append, List.take_of_length_le (by rw [e3, hnl]; omega), e3, List.drop_take])
    exact hK _ _ _ (this.put hd rel_int)
  · have hy0 : ys = [] := List.eq_nil_of_length_eq_zero (by omega)
    subst hy0
    have hrun : (execOp a.eval ⟨some d, .call ⟨.builtin .copy, #[x, y], #[t, t']⟩, ty, pos, after, gd⟩).run P w = .ok (.value (.int .i64 0)) w := by
      have hmin : Nat.min 0 (l.length - i) = 0 := Nat.zero_min _
      simp only [execOp, resolve]
      cases A0 <;> cases A1 <;> simp [invoke, builtin, Builtin.copy_, hX, hY, Go.underlying, hu, Builtin.lenOf, hmin, hi.run_size, Builtin.firstCells, loadCells, loadCellsFrom, storeCells, goInt]
    unfold Oper.wp
    rw [hrun]
    have e1 : (l.take i ++ [] ++ l.drop (i + ([] : List τ.den).length)) = l := by simp
    rw [e1] at hK
    refine hK loc _ _ ((hs.alike (o' := (id, .arr E τ l) :: o) (fun j => ?_)).put hd rel_int)
    rw [lookO_cons]
    by_cases hj : id = j
    · rw [if_pos hj, ← hj, ho]
    · rw [if_neg hj]
end
end Go.Proofs.YtboghejfmmigkaaDoor.AE
/- Words of the printed functions: plain Lean, no program in sight. -/
namespace Go.Proofs.YtboghejfmmigkaaDoor.AP
open Go
set_option linter.unusedVariables false

/-- one step behind another -/
def bd {α β : Type} (o : Option α) (f : α → Option β) : Option β := o.bind f
@[simp] theorem bd_some {α β : Type} (a : α) (f : α → Option β) : bd (some a) f = f a := rfl
@[simp] theorem bd_none {α β : Type} (f : α → Option β) : bd none f = none := rfl
theorem bdS {α β : Type} {o : Option α} {f : α → Option β} {y : β} (h : bd o f = some y) : ∃ x, o = some x ∧ f x = some y := by
  cases o with
  | none => cases h
  | some x => exact ⟨x, rfl, h⟩
/-- a value by a name -/
def lt {α β : Type} (a : α) (f : α → Option β) : Option β := f a
@[simp] theorem lt_eq {α β : Type} (a : α) (f : α → Option β) : lt a f = f a := rfl
theorem ltS {α β : Type} {a : α} {f : α → Option β} {y : β} (h : lt a f = some y) : ∃ x, a = x ∧ f x = some y := ⟨a, rfl, h⟩
theorem ifT {α : Type} {b : Bool} {A B : Option α} {y : Option α} (hb : b = true) (h : (if b then A else B) = y) : A = y := by rwa [if_pos hb] at h
theorem ifF {α : Type} {b : Bool} {A B : Option α} {y : Option α} (hb : b = false) (h : (if b then A else B) = y) : B = y := by
  rwa [if_neg (by rw [hb]; decide)] at h
/-- a longer way's answer -/
def up {α β : Type} (o : Option β) : Option (α ⊕ β) := o.map .inr
@[simp] theorem up_some {α β : Type} (b : β) : (up (some b) : Option (α ⊕ β)) = some (.inr b) := rfl
@[simp] theorem up_none {α β : Type} : (up none : Option (α ⊕ β)) = none := rfl
/-- a loop that ends -/
inductive Lp {S X : Type} (f : S → Option (S ⊕ X)) : S → X → Prop
  | done {s : S} {x : X} (h : f s = some (.inr x)) : Lp f s x
  | more {s s' : S} {x : X} (h : f s = some (.inl s')) (k : Lp f s' x) : Lp f s x
theorem Lp.det {S X : Type} {f : S → Option (S ⊕ X)} {s : S} {x y : X} (h : Lp f s x) (k : Lp f s y) : x = y := by
  induction h with
  | done h =>
    cases k with
    | done k => rw [h] at k; cases k; rfl
    | more k _ => rw [h] at k; cases k
  | more h _ ih =>
    cases k with
    | done k => rw [h] at k; cases k
    | more k k' => rw [h] at k; cases k; exact ih k'
open Classical in
noncomputable def lp {S X : Type} (f : S → Option (S ⊕ X)) (s : S) : Option X := if h : ∃ x, Lp f s x then some h.choose else none
theorem lp_iff {S X : Type} {f : S → Option (S ⊕ X)} {s : S} {x : X} : lp f s = some x ↔ Lp f s x := by
  unfold lp
  constructor
  · intro h
    split at h
    · rename_i e; cases h; exact e.choose_spec
    · cases h
  · intro h
    have e : ∃ x, Lp f s x := ⟨x, h⟩
    rw [dif_pos e]
    exact congrArg some (e.choose_spec.det h)
/-- one round -/
theorem lp_eq {S X : Type} (f : S → Option (S ⊕ X)) (s : S) : lp f s = (match f s with | none => none | some (.inl s') => lp f s' | some (.inr x) => some x) := by
  cases h : f s with
  | none =>
    unfold lp
    rw [dif_neg]
    rintro ⟨x, hx⟩
    cases hx with
    | done k => rw [h] at k; cases k
    | more k _ => rw [h] at k; cases k
  | some z =>
    cases z with
    | inr x => exact lp_iff.2 (.done h)
    | inl s' =>
      dsimp only
      cases k : lp f s' with
      | some x => exact lp_iff.2 (.more h (lp_iff.1 k))
      | none =>
        unfold lp
        rw [dif_neg]
        rintro ⟨x, hx⟩
        cases hx with
        | done k' => rw [h] at k'; cases k'
        | more k' k2 =>
          rw [h] at k'
          cases k'
          have := lp_iff.2 k2
          rw [k] at this
          cases this
theorem lp_more {S X : Type} {f : S → Option (S ⊕ X)} {s s' : S} (h : f s = some (.inl s')) : lp f s = lp f s' := by rw [lp_eq, h]
theorem lp_done {S X : Type} {f : S → Option (S ⊕ X)} {s : S} {x : X} (h : f s = some (.inr x)) : lp f s = some x := by rw [lp_eq, h]
/-- a loop that counts up from i to n and whose answer is known -/
theorem lp_ind {S X : Type} {f : S → Option (S ⊕ X)} (T : Nat → S) (n : Nat) (x : Option X) (hs : ∀ i, i < n → f (T i) = some (.inl (T (i + 1)))) (he : lp f (T n) = x) : lp f (T 0) = x := by
  have : ∀ k, k ≤ n → lp f (T (n - k)) = x := by
    intro k
    induction k with
    | zero => intro _; exact he
    | succ k ih =>
      intro hk
      rw [lp_more (hs (n - (k + 1)) (by omega)), show n - (k + 1) + 1 = n - k by omega]
      exact ih (by omega)
  have h := this n (Nat.le_refl n)
  rwa [Nat.sub_self] at h

/-- ways apart -/
def alt2 {α β γ : Type} (x : α ⊕ β) (f : α → Option γ) (g : β → Option γ) : Option γ := match x with | .inl a => f a | .inr b => g b
@[simp] theorem alt2_l {α β γ : Type} (a : α) (f : α → Option γ) (g : β → Option γ) : alt2 (.inl a) f g = f a := rfl
@[simp] theorem alt2_r {α β γ : Type} (b : β) (f : α → Option γ) (g : β → Option γ) : alt2 (.inr b) f g = g b := rfl
theorem altL {α β γ : Type} {a : α} {f : α → Option γ} {g : β → Option γ} {y : Option γ} (h : alt2 (.inl a) f g = y) : f a = y := h
theorem altR {α β γ : Type} {b : β} {f : α → Option γ} {g : β → Option γ} {y : Option γ} (h : alt2 (.inr b) f g = y) : g b = y := h
/-- a row that has kept its length -/
def eln {α : Type} (l m : List α) : Option Unit := if m.length = l.length then some () else none
/-! numbers -/
def wi64 (x : Int) : Int := IntKind.i64.wrap x
def wi32 (x : Int) : Int := IntKind.i32.wrap x
def wu64 (x : Int) : Int := IntKind.u64.wrap x
def wu32 (x : Int) : Int := IntKind.u32.wrap x
def wu8 (x : Int) : Int := IntKind.u8.wrap x
def wi8 (x : Int) : Int := IntKind.i8.wrap x
def wi16 (x : Int) : Int := IntKind.i16.wrap x
def wu16 (x : Int) : Int := IntKind.u16.wrap x
theorem wi64_eq {x : Int} (h0 : -9223372036854775808 ≤ x) (h1 : x ≤ 9223372036854775807) : wi64 x = x := by unfold wi64; rw [IntKind.wrap_i64]; omega
theorem wi32_eq {x : Int} (h0 : -2147483648 ≤ x) (h1 : x ≤ 2147483647) : wi32 x = x := by unfold wi32; rw [IntKind.wrap_i32]; omega
theorem wu64_eq {x : Int} (h0 : 0 ≤ x) (h1 : x ≤ 18446744073709551615) : wu64 x = x := by unfold wu64; rw [IntKind.wrap_u64]; omega
theorem wu32_eq {x : Int} (h0 : 0 ≤ x) (h1 : x ≤ 4294967295) : wu32 x = x := by unfold wu32; rw [IntKind.wrap_u32]; omega
theorem wu32_mod (x : Int) : wu32 x = x % 4294967296 := by unfold wu32; rw [IntKind.wrap_u32]
/-- quotient, rest: none by nought -/
def qd (k : IntKind) (x y : Int) : Option Int := if y = 0 then none else some (k.wrap (x.tdiv y))
def rm (k : IntKind) (x y : Int) : Option Int := if y = 0 then none else some (x.tmod y)
theorem qdS {k : IntKind} {x y v : Int} (h : qd k x y = some v) : y ≠ 0 ∧ k.wrap (x.tdiv y) = v := by
  unfold qd at h; split at h
  · cases h
  · exact ⟨by assumption, Option.some.inj h⟩
theorem rmS {k : IntKind} {x y v : Int} (h : rm k x y = some v) : y ≠ 0 ∧ x.tmod y = v := by
  unfold rm at h; split at h
  · cases h
  · exact ⟨by assumption, Option.some.inj h⟩
theorem qdU {x y : Int} (h0 : 0 ≤ x) (h1 : 0 < y) (h2 : x ≤ 18446744073709551615) : qd .u64 x y = some (x / y) := by
  unfold qd
  rw [if_neg (by omega), Int.tdiv_eq_ediv_of_nonneg h0]
  have a := Int.ediv_nonneg h0 (Int.le_of_lt h1)
  have b := Int.ediv_le_self y h0
  rw [show IntKind.u64.wrap (x / y) = x / y from wu64_eq (by omega) (by omega)]
theorem rm_of {k : IntKind} {x y : Int} (h0 : 0 ≤ x) (h1 : 0 < y) : rm k x y = some (x % y) := by
  unfold rm
  rw [if_neg (by omega), Int.tmod_eq_emod_of_nonneg h0]
/-- shifts: none by less than nought -/
def sh (k : IntKind) (x y : Int) : Option Int := if 0 ≤ y then some (k.wrap (x * 2 ^ (min y.toNat k.bits))) else none
def sr (k : IntKind) (x y : Int) : Option Int := if 0 ≤ y then some (x.fdiv (2 ^ (min y.toNat k.bits))) else none
theorem shS {k : IntKind} {x y v : Int} (h : sh k x y = some v) : 0 ≤ y ∧ k.wrap (x * 2 ^ (min y.toNat k.bits)) = v := by
  unfold sh at h; split at h
  · exact ⟨by assumption, Option.some.inj h⟩
  · cases h
theorem srS {k : IntKind} {x y v : Int} (h : sr k x y = some v) : 0 ≤ y ∧ x.fdiv (2 ^ (min y.toNat k.bits)) = v := by
  unfold sr at h; split at h
  · exact ⟨by assumption, Option.some.inj h⟩
  · cases h

/-! rows -/
/-- an element -/
def rd {α : Type} (l : List α) (i : Int) : Option α := if 0 ≤ i then l[i.toNat]? else none
theorem rdS {α : Type} {l : List α} {i : Int} {v : α} (h : rd l i = some v) : 0 ≤ i ∧ l[i.toNat]? = some v := by
  unfold rd at h; split at h
  · exact ⟨by assumption, h⟩
  · cases h
theorem rd_lt {α : Type} {l : List α} {i : Int} {v : α} (h : rd l i = some v) : 0 ≤ i ∧ i < l.length := by
  obtain ⟨h1, h2⟩ := rdS h
  have := (List.getElem?_eq_some_iff.1 h2).1
  exact ⟨h1, by omega⟩
theorem rd_nat {α : Type} (l : List α) (i : Nat) : rd l (i : Int) = l[i]? := by
  unfold rd; rw [if_pos (by omega)]; rfl
theorem rd_at {α : Type} {l : List α} {i : Nat} (h : i < l.length) : rd l (i : Int) = some l[i] := by rw [rd_nat, List.getElem?_eq_getElem h]
theorem rd_getD {α : Type} {l : List α} {i : Int} (d : α) (h0 : 0 ≤ i) (h1 : i < l.length) : rd l i = some (l.getD i.toNat d) := by
  have hlt : i.toNat < l.length := by omega
  unfold rd; rw [if_pos h0, List.getElem?_eq_getElem hlt]; simp [hlt]
/-- an element is set -/
def st {α : Type} (l : List α) (i : Int) (v : α) : Option (List α) := if 0 ≤ i ∧ i < l.length then some (l.set i.toNat v) else none
/-- an index that may be -/
def ix {α : Type} (l : List α) (i : Int) : Option Nat := if 0 ≤ i ∧ i < l.length then some i.toNat else none
theorem ixS {α : Type} {l : List α} {i : Int} {v : Nat} (h : ix l i = some v) : (0 ≤ i ∧ i < l.length) ∧ i.toNat = v := by
  unfold ix at h; split at h
  · exact ⟨by assumption, Option.some.inj h⟩
  · cases h
theorem ix_nat {α : Type} {l : List α} {i : Nat} (h : i < l.length) : ix l (i : Int) = some i := by
  unfold ix; rw [if_pos (by omega)]; rfl
/-- more behind a row; b: an element's bytes -/
def ap {α : Type} (b : Nat) (l m : List α) : Option (List α) := if (l.length + m.length) * b ≤ 140737488355328 then some (l ++ m) else none
theorem apS {α : Type} {b : Nat} {l m r : List α} (h : ap b l m = some r) : (l.length + m.length) * b ≤ 140737488355328 ∧ l ++ m = r := by
  unfold ap at h; split at h
  · exact ⟨by assumption, Option.some.inj h⟩
  · cases h
theorem ap_of {α : Type} {b : Nat} {l m : List α} (h : (l.length + m.length) * b ≤ 140737488355328) : ap b l m = some (l ++ m) := by unfold ap; rw [if_pos h]
/-- a new row -/
def mk {α : Type} (b : Nat) (z : α) (n c : Int) : Option (List α) := if 0 ≤ n ∧ n ≤ c ∧ (b : Int) * c ≤ 281474976710656 ∧ c ≤ 9223372036854775807 then some (List.replicate n.toNat z) else none
theorem mkS {α : Type} {b : Nat} {z : α} {n c : Int} {r : List α} (h : mk b z n c = some r) : (0 ≤ n ∧ n ≤ c ∧ (b : Int) * c ≤ 281474976710656 ∧ c ≤ 9223372036854775807) ∧ List.replicate n.toNat z = r := by
  unfold mk at h; split at h
  · exact ⟨by assumption, Option.some.inj h⟩
  · cases h
theorem mk_of {α : Type} {b : Nat} {z : α} {n c : Int} (h : 0 ≤ n ∧ n ≤ c ∧ (b : Int) * c ≤ 281474976710656 ∧ c ≤ 9223372036854775807) : mk b z n c = some (List.replicate n.toNat z) := by unfold mk; rw [if_pos h]
/-- a piece of a row -/
def ct {α : Type} (l : List α) (a b : Int) : Option (List α) := if 0 ≤ a ∧ a ≤ b ∧ b ≤ l.length then some ((l.take b.toNat).drop a.toNat) else none
theorem ctS {α : Type} {l r : List α} {a b : Int} (h : ct l a b = some r) : (0 ≤ a ∧ a ≤ b ∧ b ≤ l.length) ∧ (l.take b.toNat).drop a.toNat = r := by
  unfold ct at h; split at h
  · exact ⟨by assumption, Option.some.inj h⟩
  · cases h
theorem ct_of {α : Type} {l : List α} {a b : Int} (h : 0 ≤ a ∧ a ≤ b ∧ b ≤ l.length) : ct l a b = some ((l.take b.toNat).drop a.toNat) := by unfold ct; rw [if_pos h]

/-! texts -/
def bs (l : List UInt8) : ByteArray := ⟨l.toArray⟩
def bt (s : ByteArray) (i : Int) : Option Int := if 0 ≤ i ∧ i < s.size then some ((s.data.toList.getD i.toNat 0).toNat : Int) else none
theorem btS {s : ByteArray} {i v : Int} (h : bt s i = some v) : (0 ≤ i ∧ i < s.size) ∧ ((s.data.toList.getD i.toNat 0).toNat : Int) = v := by
  unfold bt at h; split at h
  · exact ⟨by assumption, Option.some.inj h⟩
  · cases h
def cs (s : ByteArray) (a b : Int) : Option ByteArray := if 0 ≤ a ∧ a ≤ b ∧ b ≤ s.size then some (s.extract a.toNat b.toNat) else none
theorem csS {s r : ByteArray} {a b : Int} (h : cs s a b = some r) : (0 ≤ a ∧ a ≤ b ∧ b ≤ s.size) ∧ s.extract a.toNat b.toNat = r := by
  unfold cs at h; split at h
  · exact ⟨by assumption, Option.some.inj h⟩
  · cases h
def cat (a b : ByteArray) : Option ByteArray := if a.size + b.size ≤ 9223372036854775807 then some (a ++ b) else none
theorem catS {a b r : ByteArray} (h : cat a b = some r) : a.size + b.size ≤ 9223372036854775807 ∧ a ++ b = r := by
  unfold cat at h; split at h
  · exact ⟨by assumption, Option.some.inj h⟩
  · cases h
/-- the same text? -/
def sq (a b : ByteArray) : Bool := a.toList == b.toList
theorem toList_data (a : ByteArray) : a.toList = a.data.toList := by
  have key : ∀ (m : Nat) (i : Nat) (r : List UInt8), a.size - i = m → ByteArray.toList.loop a i r = r.reverse ++ a.data.toList.drop i := by
    intro m
    induction m with
    | zero =>
      intro i r h
      rw [ByteArray.toList.loop, if_neg (by omega), List.drop_eq_nil_of_le (by show a.data.toList.length ≤ i; rw [Array.length_toList]; show a.size ≤ i; omega)]
      simp
    | succ m ih =>
      intro i r h
      have hlt : i < a.size := by omega
      have hlt' : i < a.data.toList.length := by rw [Array.length_toList]; exact hlt
      rw [ByteArray.toList.loop, if_pos hlt, ih (i + 1) _ (by omega), List.drop_eq_getElem_cons hlt', List.reverse_cons, List.append_assoc]
      congr 1
      have hsz : i < a.data.size := hlt
      have : a.get! i = a.data.toList[i] := by
        show a.data[i]! = _
        rw [getElem!_pos a.data i hsz]
        simp
      rw [this]
      rfl
  have := key _ 0 [] rfl
  simpa [ByteArray.toList] using this
theorem sq_iff {a b : ByteArray} : sq a b = true ↔ a = b := by
  unfold sq
  rw [beq_iff_eq, toList_data, toList_data]
  constructor
  · intro h; cases a; cases b; simpa using h
  · rintro rfl; rfl
/-- a text of bytes, and its bytes -/
def tx (l : List Int) : ByteArray := ⟨(l.map fun n => UInt8.ofNat n.toNat).toArray⟩
def by_ (s : ByteArray) : List Int := s.data.toList.map fun b => (b.toNat : Int)
/-- More bytes behind a row. -/
def apS_ (l : List Int) (b : ByteArray) : Option (List Int) := if l.length + b.size ≤ 140737488355328 then some (l ++ by_ b) else none
/-- the bytes' text: of one byte at least -/
def ust (l : List Int) : Option ByteArray := if l ≠ [] ∧ (l.all fun x => decide (0 ≤ x) && decide (x < 256)) = true then some (tx l) else none
/-- where a byte stands first; -1: nowhere -/
def ixb (s : ByteArray) (c : Int) : Int := firstIdx s c.toNat.toUInt8
def nem {α : Type} (l : List α) : Option Unit := match l with | [] => none | _ :: _ => some ()
/-- a row's rest, from there on -/
def sfx {α : Type} (l : List α) (i : Int) : Option Nat := if 0 ≤ i ∧ i ≤ l.length then some i.toNat else none
/-- a copy into a row, where it has room -/
def cpy {α : Type} (l : List α) (i : Nat) (ys : List α) : Option (List α) := if i + ys.length ≤ l.length then some (l.take i ++ ys ++ l.drop (i + ys.length)) else none
def s2b (s : ByteArray) : Option (List Int) := if s.size ≤ 140737488355328 then some (by_ s) else none
def utf (n : Int) : ByteArray := Utf8.encode n
/-- the next letter of a text: is there one, where, which, and where one goes on -/
def nx (s : ByteArray) (p : Nat) : Bool × Int × Int × Nat := if p < s.size then (true, (p : Int), ((Utf8.decode s p).1 : Int), p + (Utf8.decode s p).2) else (false, 0, 0, p)
def dc1 (s : ByteArray) (p : Nat) : Int := ((Utf8.decode s p).1 : Int)
def dcn (s : ByteArray) (p : Nat) : Nat := p + (Utf8.decode s p).2
/-! maps -/
def eqI (x y : Int) : Bool := decide (x = y)
def eqB (x y : Bool) : Bool := decide (x = y)
/-- what lies by a key, and whether anything does -/
def mget {α β : Type} (eq : α → α → Bool) (z : β) : List (α × β) → α → β × Bool
  | [], _ => (z, false)
  | p :: l, k => if eq k p.1 then (p.2, true) else mget eq z l k
def mput {α β : Type} (eq : α → α → Bool) : List (α × β) → α → β → List (α × β)
  | [], k, v => [(k, v)]
  | p :: l, k, v => if eq k p.1 then (k, v) :: l else p :: mput eq l k v
def sl_ (a b : ByteArray) : Bool := Op.bytesLess a.toList b.toList
end Go.Proofs.YtboghejfmmigkaaDoor.AP
/- A checked evaluator: rules that name the printed words; loops; results. -/
namespace Go.Proofs.YtboghejfmmigkaaDoor.AE
open Go Go.RowKit Go.Proofs.YtboghejfmmigkaaDoor.AP
set_option linter.unusedSimpArgs false
set_option linter.unusedVariables false

/-! ### Loops -/
/-- What a round's answer says. -/
def Rnd {S X : Type} (P : Program) (c : Code) (K : Out → Prop) (I : S → St) (x : X) : S ⊕ X → Prop
  | .inl s' => LoopT P c (I s') K
  | .inr x' => x' = x
theorem LoopT.run {P : Program} {c : Code} {K : Out → Prop} {S X : Type} {step : S → Option (S ⊕ X)} {x : X} (I : S → St)
    (hb : ∀ s z, step s = some z → Rnd P c K I x z → T P c (I s) (roundK P c K)) {s0 : S} (h : lp step s0 = some x) : LoopT P c (I s0) K := by
  have h' := lp_iff.1 h
  clear h
  induction h' with
  | done h1 => exact LoopT.round (hb _ _ h1 rfl)
  | more h1 _ ih => exact LoopT.round (hb _ _ h1 (ih hb))

section
variable {P : Program} {s : List (Nat × AV)} {o o' : Objs} {n d : Nat} {ty : TypeId} {pos : String} {after : Array Edge} {gd : Option (Nat × Bool)} {t t' : TypeId} {x y : Operand}
/-! ### A condition that is known -/
theorem T.condT {b : Bool} {c1 c2 : Code} {C : Out → Prop} (hx : V s o n x = .v .bool b) (hb : b = true) (h1 : T P c1 ⟨s, o, n⟩ C) : T P (.cond x c1 c2) ⟨s, o, n⟩ C :=
  T.cond hx (fun _ => h1) (fun h => by rw [hb] at h; cases h)
theorem T.condF {b : Bool} {c1 c2 : Code} {C : Out → Prop} (hx : V s o n x = .v .bool b) (hb : b = false) (h1 : T P c2 ⟨s, o, n⟩ C) : T P (.cond x c1 c2) ⟨s, o, n⟩ C :=
  T.cond hx (fun h => by rw [hb] at h; cases h) (fun _ => h1)

/-! ### A value by another name -/
theorem Ev.avs {op : Oper} {τ : Ty} {p q : τ.den} (h : Ev P op s o n (.v τ p) o') (e : p = q) : Ev P op s o n (.v τ q) o' := e ▸ h
theorem Ev.asO {op : Oper} {A : AV} {id E : Nat} {τ : Ty} {l m : List τ.den} (h : Ev P op s o n A ((id, .arr E τ l) :: o')) (e : l = m) : Ev P op s o n A ((id, .arr E τ m) :: o') := e ▸ h

/-! ### Numbers -/
theorem Ev.e_qd {k : IntKind} {p q v : Int} (h : qd k p q = some v) (hx : V s o n x = .v (.int k) p) (hy : V s o n y = .v (.int k) q) (hd : Nat.blt d n = true) : Ev P ⟨some d, .binOp .quo t x y t', ty, pos, after, gd⟩ s o n (.v (.int k) v) o :=
  Ev.avs (τ := .int k) (Ev.int hx hy rfl hd (qdS h).1) (qdS h).2
theorem Ev.e_rm {k : IntKind} {p q v : Int} (h : rm k p q = some v) (hx : V s o n x = .v (.int k) p) (hy : V s o n y = .v (.int k) q) (hd : Nat.blt d n = true) : Ev P ⟨some d, .binOp .rem t x y t', ty, pos, after, gd⟩ s o n (.v (.int k) v) o :=
  Ev.avs (τ := .int k) (Ev.int hx hy rfl hd (rmS h).1) (rmS h).2
theorem Ev.e_sh {k k' : IntKind} {p q v : Int} (h : sh k p q = some v) (hx : V s o n x = .v (.int k) p) (hy : V s o n y = .v (.int k') q) (hd : Nat.blt d n = true) : Ev P ⟨some d, .binOp .shl t x y t', ty, pos, after, gd⟩ s o n (.v (.int k) v) o :=
  Ev.avs (τ := .int k) (Ev.shift hx hy rfl hd (shS h).1) (shS h).2
theorem Ev.e_sr {k k' : IntKind} {p q v : Int} (h : sr k p q = some v) (hx : V s o n x = .v (.int k) p) (hy : V s o n y = .v (.int k') q) (hd : Nat.blt d n = true) : Ev P ⟨some d, .binOp .shr t x y t', ty, pos, after, gd⟩ s o n (.v (.int k) v) o :=
  Ev.avs (τ := .int k) (Ev.shift hx hy rfl hd (srS h).1) (srS h).2
/-! ### Texts -/
theorem Ev.e_cat {p q v : ByteArray} (h : cat p q = some v) (hx : V s o n x = .v .str p) (hy : V s o n y = .v .str q) (hd : Nat.blt d n = true) : Ev P ⟨some d, .binOp .add t x y t', ty, pos, after, gd⟩ s o n (.v .str v) o :=
  Ev.avs (τ := .str) (Ev.strs hx hy rfl hd (catS h).1) (catS h).2
theorem Ev.e_bt (X : Cx P) {b : ByteArray} {k : IntKind} {i v : Int} (h : bt b i = some v) (hx : V s o n x = .v .str b) (hy : V s o n y = .v (.int k) i) (ht : X.ty t = some .str) (hd : Nat.blt d n = true) : Ev P ⟨some d, .index t x y, ty, pos, after, gd⟩ s o n (.v (.int .u8) v) o :=
  Ev.avs (τ := .int .u8) (Ev.indexStr X hx hy ht hd (btS h).1.1 (btS h).1.2) (btS h).2
theorem Ev.e_cs (X : Cx P) {lo hi : Option Operand} {b v : ByteArray} {L H : Int} (h : cs b L H = some v) (hx : V s o n x = .v .str b) (ht : X.ty t = some .str) (hd : Nat.blt d n = true)
    (hlo : ∀ y, lo = some y → cutAt s o n lo = some L) (hL : lo = none → L = 0) (hhi : ∀ y, hi = some y → cutAt s o n hi = some H) (hH : hi = none → H = b.size) : Ev P ⟨some d, .slice t x lo hi none, ty, pos, after, gd⟩ s o n (.v .str v) o :=
  Ev.pure hd (fun N w0 loc a w hs => by
    obtain ⟨⟨h0, h1, h2⟩, rfl⟩ := csS h
    have hX := of_str (hs.look (by simp [Op.operands]) hx)
    have hu : P.underlying t = some .string := (X.ok _ _ ht).desc
    have hb := run_bounds (P := P) false b.size b.size (lo.map a.eval) (hi.map a.eval) L H (opt_map (cut_vals hs (by rintro y rfl; simp [Op.operands]) hlo) hL) (opt_map (cut_vals hs (by rintro y rfl; simp [Op.operands]) hhi) hH) h0 h1 h2 w
    refine ⟨_, ?_, rel_str⟩
    simp [execOp, Instr.sliceAt, Instr.slice, hX, Go.underlying, hu, hb])

/-! ### Rows that do not change -/
theorem Ev.e_rd (X : Cx P) {τ : Ty} {xs : List τ.den} {k : IntKind} {i : Int} {v : τ.den} (h : rd xs i = some v) (hx : V s o n x = .v (.sl τ) xs) (hy : V s o n y = .v (.int k) i) (ht : X.ty t = some (.sl τ)) (hd : Nat.blt d n = true) :
    Ev P ⟨some d, .indexAddr t x y, ty, pos, after, gd⟩ s o n (.ptr τ v) o := by
  have e : rd' τ xs i = v := by
    have := (rdS h).2
    unfold rd'
    rw [List.getD_eq_getElem?_getD, this]; rfl
  exact e ▸ Ev.indexAddr X hx hy ht hd (rd_lt h).1 (rd_lt h).2
theorem Ev.e_ct (X : Cx P) {lo hi : Option Operand} {τ : Ty} {xs v : List τ.den} {L H : Int} (h : ct xs L H = some v) (hx : V s o n x = .v (.sl τ) xs) (ht : X.ty t = some (.sl τ)) (hd : Nat.blt d n = true)
    (hlo : ∀ y, lo = some y → cutAt s o n lo = some L) (hL : lo = none → L = 0) (hhi : ∀ y, hi = some y → cutAt s o n hi = some H) (hH : hi = none → H = xs.length) : Ev P ⟨some d, .slice t x lo hi none, ty, pos, after, gd⟩ s o n (.v (.sl τ) v) o :=
  Ev.avs (τ := .sl τ) (Ev.cut X L H hx ht hd hlo hL hhi hH (ctS h).1.1 (ctS h).1.2.1 (ctS h).1.2.2) (ctS h).2

/-! ### Rows of one's own -/
theorem Ev.e_rdO (X : Cx P) {id E : Nat} {τ : Ty} {l : List τ.den} {k : IntKind} {i : Int} {v : τ.den} (h : rd l i = some v) (hx : V s o n x = .own id) (ho : lookO o id = some (.arr E τ l)) (hy : V s o n y = .v (.int k) i) (ht : X.ty t = some (.sl τ)) (hd : Nat.blt d n = true) :
    Ev P ⟨some d, .indexAddr t x y, ty, pos, after, gd⟩ s o n (.oel id i.toNat 0) o := Ev.elem X hx ho hy ht hd (rd_lt h).1 (rd_lt h).2
theorem Ev.e_ixO (X : Cx P) {id E : Nat} {τ : Ty} {l : List τ.den} {k : IntKind} {i : Int} {m : Nat} (h : ix l i = some m) (hx : V s o n x = .own id) (ho : lookO o id = some (.arr E τ l)) (hy : V s o n y = .v (.int k) i) (ht : X.ty t = some (.sl τ)) (hd : Nat.blt d n = true) :
    Ev P ⟨some d, .indexAddr t x y, ty, pos, after, gd⟩ s o n (.oel id m 0) o := by
  obtain ⟨⟨h0, h1⟩, rfl⟩ := ixS h
  exact Ev.elem X hx ho hy ht hd h0 h1
theorem Ev.e_ldO (X : Cx P) {id m E : Nat} {τ : Ty} {l : List τ.den} {v : τ.den} (h : l[m]? = some v) (hx : V s o n x = .oel id m 0) (ho : lookO o id = some (.arr E τ l)) (ht : X.ty t = some τ) (hd : Nat.blt d n = true) :
    Ev P ⟨some d, .load t x, ty, pos, after, gd⟩ s o n (.v τ v) o :=
  Ev.avs (Ev.loadEl X hx ho ht hd) (by rw [List.getD_eq_getElem?_getD, h]; rfl)
theorem Ev.e_mk (X : Cx P) (id : Nat) {E b : Nat} {τ : Ty} {k k' : IntKind} {p c : Int} {r : List τ.den} (h : AP.mk b τ.zero p c = some r) (hx : V s o n x = .v (.int k) p) (hy : V s o n y = .v (.int k') c) (ht : X.ty t = some (.sl τ)) (he : X.el t = some (E, b)) (hid : lookO o id = none) (hd : Nat.blt d n = true) :
    Ev P ⟨some d, .makeSlice t x y, ty, pos, after, gd⟩ s o n (.own id) ((id, .arr E τ r) :: o) :=
  Ev.asO (Ev.make X id hx hy ht he hid hd (mkS h).1.1 (mkS h).1.2.1 (mkS h).1.2.2.1 (mkS h).1.2.2.2) (mkS h).2
theorem Ev.e_ap (X : Cx P) (id' : Nat) {id E b : Nat} {τ : Ty} {l ys r : List τ.den} {A : AV} (h : ap b l ys = some r) (hx : V s o n x = .own id) (ho : lookO o id = some (.arr E τ l)) (hy : V s o n y = A) (hA : Src o A τ ys) (ht : X.ty t = some (.sl τ)) (he : X.el t = some (E, b)) (hb : Nat.blt 0 b = true)
    (hid' : lookO o id' = none) (hd : Nat.blt d n = true) : Ev P ⟨some d, .call ⟨.builtin .append, #[x, y], #[t, t]⟩, ty, pos, after, gd⟩ s o n (.own id') ((id', .arr E τ r) :: (id, .dead) :: o) :=
  Ev.asO (Ev.append X id' hx ho hy hA ht he hb hid' hd (apS h).1) (apS h).2

/-! ### Structs -/
/-- A field that is told: the value at these cells. -/
def sub (τ : Ty) (e : τ.den) (off : Nat) (τ' : Ty) : Option τ'.den := gath τ' (((leaves τ e).drop off).take τ'.sz)
theorem Ev.e_fn {f : Nat} {caps : Array Operand} {As : List AV} (hx : caps.toList.map (V s o n) = As) (hd : Nat.blt d n = true) : Ev P ⟨some d, .makeFunc (.func f) #[] caps, ty, pos, after, gd⟩ s o n (.fn f As) o :=
  Ev.pure hd (fun N w0 loc a w hs => by
    refine ⟨.func (.func f) #[] (caps.map a.eval), ?_, ?_⟩
    · simp [execOp, Instr.makeFunc]
    · rw [AV.rel]
      refine ⟨caps.toList.map a.eval, by rw [← Array.toList_map], ?_⟩
      subst hx
      have : ∀ l : List Operand, (∀ x ∈ l, x ∈ caps) → AV.rels w (Muts N loc o) loc o (l.map (V s o n)) (l.map a.eval) := by
        intro l
        induction l with
        | nil => intro _; simp [AV.rels]
        | cons z l ih =>
          intro h
          rw [List.map_cons, List.map_cons, AV.rels]
          exact ⟨_, _, rfl, hs.val z (by simpa [Op.operands] using h z (by simp)), ih fun w hw => h w (by simp [hw])⟩
      exact this _ (fun z hz => by simpa using hz))

/-! ### Calls -/
/-- How what is handed in may be read. -/
inductive ViewC : AV → AV → Prop
  | v {t : Ty} {x : t.den} : ViewC (.v t x) (.v t x)
  | ptr {t : Ty} {x : t.den} : ViewC (.ptr t x) (.ptr t x)
  | nil : ViewC .nil .nil
  | nilv {t : Ty} : ViewC .nil (.v (.sl t) [])
  | st {l : List AV} {τ : Ty} {y : τ.den} (hy : gath τ l = some y) (ha : τ.agg = true) : ViewC (.st l) (.v τ y)
  | fn {f : Nat} {avs : List AV} (h : (avs.all fun A => match A with | .v _ _ => true | .ptr _ _ => true | _ => false) = true) : ViewC (.fn f avs) (.fn f avs)
inductive ViewsC : List AV → List AV → Prop
  | nil : ViewsC [] []
  | cons {A B : AV} {avs bs : List AV} (h : ViewC A B) (t : ViewsC avs bs) : ViewsC (A :: avs) (B :: bs)
theorem plain_rels {w : World} {M : Nat → Prop} {loc loc' : Nat → Nat × Nat} {o : Objs} : ∀ (avs : List AV) (us : List Value), (avs.all fun A => match A with | .v _ _ => true | .ptr _ _ => true | _ => false) = true → AV.rels w M loc o avs us → AV.rels w M loc' [] avs us
  | [], us, _, h => by rw [AV.rels] at h ⊢; exact h
  | A :: avs, us, h, hr => by
    rw [List.all_cons, Bool.and_eq_true] at h
    rw [AV.rels] at hr ⊢
    obtain ⟨u, us', h1, h2, h3⟩ := hr
    refine ⟨u, us', h1, ?_, plain_rels avs us' h.2 h3⟩
    cases A with
    | v t x => rw [AV.rel] at h2 ⊢; exact h2
    | ptr t x => rw [AV.rel] at h2 ⊢; exact h2
    | _ => cases h.1
theorem ViewC.rel {w : World} {M : Nat → Prop} {loc loc' : Nat → Nat × Nat} {o : Objs} {A B : AV} {u : Value} (h : ViewC A B) (hr : AV.rel w M loc o A u) : AV.rel w M loc' [] B u := by
  cases h with
  | v => exact ViewP.rel .v hr
  | ptr => exact ViewP.rel .ptr hr
  | nil => exact ViewP.rel .nil hr
  | nilv => exact ViewP.rel .nilv hr
  | st hy ha =>
    rw [AV.rel] at hr
    rw [AV.rel]
    obtain ⟨us, h1, h2⟩ := hr
    exact ⟨us, gath_rel _ _ _ us hy h2, by rw [h1]; unfold Ty.val; rw [if_pos ha]⟩
  | fn h =>
    rw [AV.rel] at hr ⊢
    obtain ⟨us, h1, h2⟩ := hr
    exact ⟨us, h1, plain_rels _ _ h h2⟩
theorem viewsC_rels {w : World} {M : Nat → Prop} {loc loc' : Nat → Nat × Nat} {o : Objs} : ∀ {As Bs : List AV} {us : List Value}, ViewsC As Bs → AV.rels w M loc o As us → AV.rels w M loc' [] Bs us
  | _, _, us, .nil, hr => by rw [AV.rels] at hr ⊢; exact hr
  | _, _, us, .cons h t, hr => by
    rw [AV.rels] at hr ⊢
    obtain ⟨u, us', h1, h2, h3⟩ := hr
    exact ⟨u, us', h1, h.rel h2, viewsC_rels t h3⟩
theorem ops_rels {N : Nat → Prop} {w0 : Base} {w : World} {loc : Nat → Nat × Nat} {a : Act} {ys : Array Operand} (hs : Lk N w0 s o n ys loc a w) : ∀ (xs : List Operand), (∀ x ∈ xs, x ∈ ys) → AV.rels w (Muts N loc o) loc o (xs.map (V s o n)) (xs.map a.eval)
  | [], _ => by simp [AV.rels]
  | x :: xs, hm => by
    rw [List.map_cons, List.map_cons, AV.rels]
    exact ⟨_, _, rfl, hs.val x (hm x (by simp)), ops_rels hs xs (fun y hy => hm y (by simp [hy]))⟩
/-- A call of what is known, with what was caught along with it. -/
theorem Ev.callC {f : Operand} {args : Array Operand} {ts : Array TypeId} {g : Nat} {caps Bs : List AV} {r : AV} (hg : Enters P g) (hS : Spec P g Bs r []) (hf : V s o n f = .fn g caps) (hv : ViewsC (args.toList.map (V s o n) ++ caps) Bs) (hc : calms r = true) (hd : Nat.blt d n = true) :
    Ev P ⟨some d, .call ⟨.value f, args, ts⟩, ty, pos, after, gd⟩ s o n r o :=
  Ev.calls hg fun F hF N w0 loc a w hN hs hl => by
    have hfr := hl.look call_ops.1 hf
    rw [AV.rel] at hfr
    obtain ⟨us, e1, e2⟩ := hfr
    refine ⟨us.toArray, e1, ?_⟩
    have hr := rels_append (ops_rels hl args.toList call_ops.2) e2
    have h := hS (Muts N loc o) w (args.toList.map a.eval ++ us) hs.below.glo (muts_lt hN hs) (viewsC_rels hv hr)
    have e : (args.toList.map a.eval ++ us).toArray = args.map a.eval ++ us.toArray := by apply Array.toList_inj.1; simp
    rw [e] at h
    refine h.mono ?_
    rintro e w' ⟨u, loc', rfl, hrep, hr, hb⟩
    refine ⟨u, loc, rfl, (hs.over hb).put hd ?_⟩
    have hr := calms_rel (loc' := loc) (o' := o) hc hr
    exact AV.rel_keeps (M := Muts (Muts N loc o) loc' []) (keeps_less fun k hk => .inl hk) (fun _ _ h => ⟨h, rfl⟩) _ _ hr
end

/-! ### Results -/
section
variable {P : Program} {fn : Func} {σ : St}
/-- A result's value. -/
def resV (tm : Array Value) : ResultVar → Sem Value
  | .tmp t => pure (tm.getD t undef)
  | .cell v t => do loadVar t (← asAddr (tm.getD v undef))
inductive FinV (X : Cx P) (σ : St) : ResultVar → AV → Prop
  | tmp {t : Nat} {B : AV} (h : View σ.o (σ.get t) B) : FinV X σ (.tmp t) B
  | cell {v t id off : Nat} {cells : List AV} {τ : Ty} {y : τ.den} (hv : σ.get v = .box id off) (ho : lookO σ.o id = some (.box cells)) (ht : X.ty t = some τ) (hy : gath τ ((cells.drop off).take τ.sz) = some y) : FinV X σ (.cell v t) (.v τ y)
  | st {t : Nat} {l : List AV} {τ : Ty} {y : τ.den} (hv : σ.get t = .st l) (hy : gath τ l = some y) (ha : τ.agg = true) : FinV X σ (.tmp t) (.v τ y)
inductive FinVs (X : Cx P) (σ : St) : List ResultVar → List AV → Prop
  | nil : FinVs X σ [] []
  | cons {r : ResultVar} {B : AV} {rs : List ResultVar} {Bs : List AV} (h : FinV X σ r B) (t : FinVs X σ rs Bs) : FinVs X σ (r :: rs) (B :: Bs)
theorem FinV.one (X : Cx P) {N : Nat → Prop} {w0 : Base} {a : Act} {w : World} {loc : Nat → Nat × Nat} (hN : ∀ k, N k → w0.old k) (hs : SatAt N w0 σ loc a w) {r : ResultVar} {B : AV} (h : FinV X σ r B) :
    ∃ u, (resV a.tmps r).run P w = .ok u w ∧ AV.rel w (Muts N loc []) loc [] B u := by
  cases h with
  | tmp h => exact ⟨_, rfl, h.rel hs.rep hN muts_none (hs.slots _)⟩
  | st hv hy ha =>
    rename_i t l τ y
    have hsl := hs.slots t
    rw [show look σ.s t = .st l from hv, AV.rel] at hsl
    obtain ⟨us, h1, h2⟩ := hsl
    refine ⟨_, rfl, ?_⟩
    have hr := gath_rel τ l y us hy h2
    have hk : Keeps w w (Muts N loc σ.o) (Muts N loc []) := keeps_less fun k hk => .inl (muts_none k hk)
    refine AV.rel_keeps hk (fun _ _ h => by cases h) _ _ (show AV.rel w _ loc [] (.v τ y) _ from ?_)
    rw [AV.rel]
    exact ⟨us, hr, by rw [h1]; unfold Ty.val; rw [if_pos ha]⟩
  | cell hv ho ht hy =>
    rename_i v t id off cells τ y
    have hsl := hs.slots v
    rw [show look σ.s v = .box id off from hv] at hsl
    have h1 := box_ptr ho hsl
    obtain ⟨_, cur, E, hcur, hrel⟩ := box_at hs.rep ho
    have h2 := (rels_take τ.sz (rels_take off hrel).2).1
    have hr := gath_rel τ _ y _ hy h2
    have := run_loadAt (X.ok _ _ ht) (a := ⟨(loc id).1, off, none⟩) hr (fun j z hj => by
      rw [add_lit]
      rw [List.getElem?_take] at hj
      split at hj
      · rw [List.getElem?_drop] at hj
        simp [World.cell?, hcur]
        simpa using hj
      · cases hj)
    have h1' : a.tmps[v]?.getD undef = .pointer (some ⟨(loc id).1, off, none⟩) := by simpa using h1
    refine ⟨τ.val ((cur.toList.drop off).take τ.sz), ?_, ?_⟩
    · have hl := Ty.relc_len _ _ _ hr
      have := run_loadVar (X.ok _ _ ht) (w := w) (a := ⟨(loc id).1, off, none⟩) hl (fun j z hj => by
        rw [add_lit]
        rw [List.getElem?_take] at hj
        split at hj
        · rw [List.getElem?_drop] at hj
          simp [World.cell?, hcur]
          simpa using hj
        · cases hj) (fun ha => by rw [hl, Ty.sz_leaf ha])
      simp [resV, h1', asAddr, this]
    · have hk : Keeps w w (Muts N loc σ.o) (Muts N loc []) := keeps_less fun k hk => .inl (muts_none k hk)
      exact AV.rel_keeps hk (fun _ _ h => by cases h) _ _ (show AV.rel w _ loc [] (.v τ y) _ from by rw [AV.rel]; exact ⟨_, hr, rfl⟩)
theorem Fin.many (X : Cx P) {rs : List ResultVar} {Bs : List AV} (hr : fn.results.toList = rs) (h : FinVs X σ rs Bs) (h2 : Nat.beq rs.length 1 = false) : Fin P fn σ (.tup Bs) [] := fun N w0 a w hN hs => by
  obtain ⟨loc, hs⟩ := hs
  have key : ∀ (rs : List ResultVar) (Bs : List AV), FinVs X σ rs Bs → ∃ us : List Value, ((rs.mapM (resV a.tmps)) : Sem (List Value)).run P w = .ok us w ∧ us.length = rs.length ∧ AV.rels w (Muts N loc []) loc [] Bs us := by
    intro rs Bs h
    induction h with
    | nil => exact ⟨[], by simp, rfl, by simp [AV.rels]⟩
    | cons h _ ih =>
      obtain ⟨u, e1, e2⟩ := FinV.one X hN hs h
      obtain ⟨us, e3, e5, e4⟩ := ih
      refine ⟨u :: us, ?_, by simp [e5], by rw [AV.rels]; exact ⟨u, us, rfl, e2, e4⟩⟩
      rw [List.mapM_cons, Sem.run_bind, e1, Result.andThen_ok, Sem.run_bind, e3, Result.andThen_ok]
      rfl
  obtain ⟨us, e1, e5, e2⟩ := key rs Bs h
  refine ⟨.tuple us.toArray, loc, ?_, Rep.none_, ?_⟩
  · have e : fn.results = rs.toArray := by apply Array.toList_inj.1; simpa using hr
    have hne : ¬ us.length = 1 := by rw [e5]; exact Nat.ne_of_beq_eq_false h2
    have e2 : results fn a.tmps = (do let vs ← fn.results.mapM (resV a.tmps); pure (if h : vs.size = 1 then vs[0] else .tuple vs)) := by
      unfold results
      congr 1
    rw [e2, e, List.mapM_toArray]
    simp [e1, hne]
  · rw [AV.rel]
    exact ⟨us, rfl, e2⟩
end
end Go.Proofs.YtboghejfmmigkaaDoor.AE
/- A checked evaluator: more rules that the printed proofs use. -/
namespace Go.Proofs.YtboghejfmmigkaaDoor.AE
open Go Go.RowKit Go.Proofs.YtboghejfmmigkaaDoor.AP
set_option linter.unusedSimpArgs false
set_option linter.unusedVariables false

theorem boolCases (b : Bool) : b = true ∨ b = false := by cases b <;> simp
/-- A function's begin. -/
theorem enterN {P : Program} {g : Nat} {fn : Func} {c : Code} {r : AV} {q : Objs} (avs : List AV) (n : Nat) (hf : P.funcs[g]? = some fn) (hb : fn.body = some c) (hn : fn.ntmps = n) (hl : Nat.ble avs.length n = true) (h : T P c ⟨mk0 0 avs, [], n⟩ (finK P fn r q)) : Spec P g avs r q := by
  subst hn; exact Spec.enter hf hb (Nat.le_of_ble_eq_true hl) h
theorem Fin.ghost {P : Program} {fn : Func} {σ σ' : St} {r : AV} {q : Objs} (g : Ghost σ σ') (h : Fin P fn σ' r q) : Fin P fn σ r q := fun N w0 a w hN hs => h N w0 a w hN (g N w0 a w hN hs)
/-! ### What says less -/
section
variable {s : List (Nat × AV)} {o : Objs} {n : Nat}
mutual
def firmA (id : Nat) (B : AV) : AV → AV
  | .own i => match Nat.beq i id with | true => B | false => .own i
  | .tup l => .tup (firmAs id B l)
  | .st l => .st (firmAs id B l)
  | .fn f l => .fn f (firmAs id B l)
  | .bot => .bot
  | .v t x => .v t x
  | .nil => .nil
  | .ptr t x => .ptr t x
  | .box i j => .box i j
  | .oel i j k => .oel i j k
  | .osl i j => .osl i j
  | .mp i => .mp i
  | .it i => .it i
  | .nilp => .nilp
  | .anyp => .anyp
  | .owz i => .owz i
  | .pn c i j t => .pn c i j t
def firmAs (id : Nat) (B : AV) : List AV → List AV
  | [] => []
  | A :: l => firmA id B A :: firmAs id B l
end
def firmOb (id : Nat) (B : AV) : Ob → Ob
  | .box c => .box (firmAs id B c)
  | ob => ob
def firmS (id : Nat) (B : AV) : List (Nat × AV) → List (Nat × AV)
  | [] => []
  | (k, A) :: l => (k, firmA id B A) :: firmS id B l
def firmO (id : Nat) (B : AV) : Objs → Objs
  | [] => []
  | (k, ob) :: l => (k, firmOb id B ob) :: firmO id B l
theorem firmS_look (id : Nat) (B : AV) : ∀ (s : List (Nat × AV)) (t : Nat), look (firmS id B s) t = firmA id B (look s t)
  | [], _ => by show AV.bot = firmA id B .bot; rw [firmA]
  | (k, A) :: l, t => by
    show (match Nat.beq k t with | true => _ | false => _) = firmA id B (match Nat.beq k t with | true => _ | false => _)
    cases Nat.beq k t with
    | true => rfl
    | false => exact firmS_look id B l t
theorem firmO_look (id : Nat) (B : AV) : ∀ (o : Objs) (t : Nat), lookO (firmO id B o) t = (lookO o t).map (firmOb id B)
  | [], _ => rfl
  | (k, A) :: l, t => by
    show (match Nat.beq k t with | true => _ | false => _) = Option.map _ (match Nat.beq k t with | true => _ | false => _)
    cases Nat.beq k t with
    | true => rfl
    | false => exact firmO_look id B l t
section
variable {w : World} {M M' : Nat → Prop} {loc : Nat → Nat × Nat} {o o' : Objs} {id : Nat} {B : AV}
mutual
theorem firm_rel (hB : ∀ u, AV.rel w M loc o (.own id) u → AV.rel w M' loc o' B u) (hk : Keeps w w M M') (ht : Turns loc loc o o') : ∀ (A : AV) (u : Value), AV.rel w M loc o A u → AV.rel w M' loc o' (firmA id B A) u
  | .own i, u, h => by
    rw [firmA]
    cases hb : Nat.beq i id with
    | true => rw [Nat.eq_of_beq_eq_true hb] at h; exact hB u h
    | false => exact AV.rel_turns hk ht _ _ h
  | .tup l, u, h => by
    rw [firmA]
    rw [AV.rel] at h ⊢
    obtain ⟨us, h1, h2⟩ := h
    exact ⟨us, h1, firm_rels hB hk ht l us h2⟩
  | .st l, u, h => by
    rw [firmA]
    rw [AV.rel] at h ⊢
    obtain ⟨us, h1, h2⟩ := h
    exact ⟨us, h1, firm_rels hB hk ht l us h2⟩
  | .fn f l, u, h => by
    rw [firmA]
    rw [AV.rel] at h ⊢
    obtain ⟨us, h1, h2⟩ := h
    exact ⟨us, h1, firm_rels hB hk ht l us h2⟩
  | .bot, u, h => by rw [firmA]; exact AV.rel_turns hk ht _ _ h
  | .v t x, u, h => by rw [firmA]; exact AV.rel_turns hk ht _ _ h
  | .nil, u, h => by rw [firmA]; exact AV.rel_turns hk ht _ _ h
  | .ptr t x, u, h => by rw [firmA]; exact AV.rel_turns hk ht _ _ h
  | .box i j, u, h => by rw [firmA]; exact AV.rel_turns hk ht _ _ h
  | .oel i j k, u, h => by rw [firmA]; exact AV.rel_turns hk ht _ _ h
  | .osl i j, u, h => by rw [firmA]; exact AV.rel_turns hk ht _ _ h
  | .mp i, u, h => by rw [firmA]; exact AV.rel_turns hk ht _ _ h
  | .it i, u, h => by rw [firmA]; exact AV.rel_turns hk ht _ _ h
  | .nilp, u, h => by rw [firmA]; exact AV.rel_turns hk ht _ _ h
  | .anyp, u, h => by rw [firmA]; exact AV.rel_turns hk ht _ _ h
  | .owz _, u, h => by rw [firmA]; exact AV.rel_turns hk ht _ _ h
  | .pn _ _ _ _, u, h => by rw [firmA]; exact AV.rel_turns hk ht _ _ h
theorem firm_rels (hB : ∀ u, AV.rel w M loc o (.own id) u → AV.rel w M' loc o' B u) (hk : Keeps w w M M') (ht : Turns loc loc o o') : ∀ (l : List AV) (us : List Value), AV.rels w M loc o l us → AV.rels w M' loc o' (firmAs id B l) us
  | [], us, h => by rw [firmAs]; rw [AV.rels] at h ⊢; exact h
  | A :: l, us, h => by
    rw [firmAs]
    rw [AV.rels] at h ⊢
    obtain ⟨u, us', h1, h2, h3⟩ := h
    exact ⟨u, us', h1, firm_rel hB hk ht A u h2, firm_rels hB hk ht l us' h3⟩
end
end
/-- A row that will not change any more, wherever it is named. -/
theorem Ghost.firmAll {id E : Nat} {τ : Ty} {l : List τ.den} (ho : lookO o id = some (.arr E τ l)) : Ghost ⟨s, o, n⟩ ⟨firmS id (.v (.sl τ) l) s, (id, .dead) :: firmO id (.v (.sl τ) l) o, n⟩ := fun N w0 a w hN ⟨loc, hs⟩ => by
  have hlk : ∀ i, lookO ((id, Ob.dead) :: firmO id (.v (.sl τ) l) o) i = if id = i then some .dead else (lookO o i).map (firmOb id (.v (.sl τ) l)) := fun i => by rw [lookO_cons, firmO_look]
  have hlive : ∀ ob : Ob, (firmOb id (.v (.sl τ) l) ob).live = ob.live := fun ob => by cases ob <;> rfl
  have hold : ∀ i ob1, Has loc ((id, .dead) :: firmO id (.v (.sl τ) l) o) i ob1 → i ≠ id ∧ ∃ ob, Has loc o i ob ∧ ob1 = firmOb id (.v (.sl τ) l) ob := by
    rintro i ob1 ⟨h1, h2, h3⟩
    rw [hlk] at h1
    by_cases hi : id = i
    · rw [if_pos hi] at h1; cases h1; cases h2
    · rw [if_neg hi] at h1
      cases hob : lookO o i with
      | none => rw [hob] at h1; cases h1
      | some ob =>
        rw [hob] at h1
        cases h1
        exact ⟨Ne.symm hi, ob, ⟨hob, by rw [← hlive ob]; exact h2, h3⟩, rfl⟩
  have ht : Turns loc loc o ((id, .dead) :: firmO id (.v (.sl τ) l) o) := fun i ob1 h => by
    rw [hlk]
    by_cases hi : id = i
    · exact ⟨.dead, if_pos hi, .dead, fun _ => rfl⟩
    · refine ⟨firmOb id (.v (.sl τ) l) ob1, by rw [if_neg hi, h]; rfl, ?_, fun _ => rfl⟩
      cases ob1 with
      | box c => exact .box
      | _ => exact .refl
  have hM : ∀ k, Muts N loc ((id, .dead) :: firmO id (.v (.sl τ) l) o) k → Muts N loc o k := by
    rintro k (h | ⟨i, ob1, h, rfl⟩)
    · exact .inl h
    · obtain ⟨_, ob, h2, _⟩ := hold i ob1 h
      exact .inr ⟨i, ob, h2, rfl⟩
  have hk : Keeps w w (Muts N loc o) (Muts N loc ((id, .dead) :: firmO id (.v (.sl τ) l) o)) := keeps_less hM
  have hB : ∀ u, AV.rel w (Muts N loc o) loc o (.own id) u → AV.rel w (Muts N loc ((id, .dead) :: firmO id (.v (.sl τ) l) o)) loc ((id, .dead) :: firmO id (.v (.sl τ) l) o) (.v (.sl τ) l) u := fun u hr =>
    own_view (loc' := loc) hs.rep hM ho (fun hc hm => by
      rcases hm with h | ⟨i, ob1, h, he⟩
      · exact hs.rep.new id _ ⟨ho, rfl, hc⟩ (hN _ h)
      · obtain ⟨hi, ob, h2, _⟩ := hold i ob1 h
        exact hi (hs.rep.inj i id ob _ h2 ⟨ho, rfl, hc⟩ he)) hr
  refine ⟨loc, ⟨fun i ob1 h => ?_, fun i i' ob1 ob2 h1 h2 he => ?_, fun i ob1 h => ?_⟩, hs.below, hs.defers, hs.size, fun t => ?_⟩
  · obtain ⟨_, ob, h2, _⟩ := hold i ob1 h; exact hs.rep.new i ob h2
  · obtain ⟨_, ob, g2, _⟩ := hold i ob1 h1
    obtain ⟨_, ob', g3, _⟩ := hold i' ob2 h2
    exact hs.rep.inj i i' ob ob' g2 g3 he
  · rw [hlk] at h
    by_cases hi : id = i
    · rw [if_pos hi] at h; cases h; trivial
    · rw [if_neg hi] at h
      cases hob : lookO o i with
      | none => rw [hob] at h; cases h
      | some ob =>
        rw [hob] at h
        cases h
        have h5 := hs.rep.obs i ob hob
        cases ob with
        | box c =>
          obtain ⟨hp, cur, E', h6, h7⟩ := h5
          exact ⟨hp, cur, E', h6, firm_rels hB hk ht c _ h7⟩
        | arr E' t' l' => exact Ob.rel_turns hk ht _ (fun _ _ => rfl) h5
        | map kt vt l' => exact Ob.rel_turns hk ht _ (fun _ _ => rfl) h5
        | siter b p => exact Ob.rel_turns hk ht _ (fun _ _ => rfl) h5
        | place i b c => exact Ob.rel_turns hk ht (.place i b c) (fun _ _ => rfl) h5
        | dead => trivial
  · show AV.rel _ _ _ _ (look (firmS id _ s) t) _
    rw [firmS_look]
    exact firm_rel hB hk ht _ _ (hs.slots t)
/-- nil, as a row without elements. -/
theorem Ghost.nilv {t : Nat} {τ : Ty} (ht : look s t = .nil) : Ghost ⟨s, o, n⟩ ⟨(t, .v (.sl τ) []) :: s, o, n⟩ := fun N w0 a w hN ⟨loc, hs⟩ => by
  have hr := hs.slots t
  rw [show look s t = .nil from ht, AV.rel] at hr
  exact ⟨loc, hs.say (by rw [hr]; exact rel_nilv)⟩
/-- A struct of parts, as a value. -/
theorem Ghost.stv {t : Nat} {l : List AV} {τ : Ty} {y : τ.den} (ht : look s t = .st l) (hy : gath τ l = some y) (ha : τ.agg = true) : Ghost ⟨s, o, n⟩ ⟨(t, .v τ y) :: s, o, n⟩ := fun N w0 a w hN ⟨loc, hs⟩ => by
  have hr := hs.slots t
  rw [show look s t = .st l from ht, AV.rel] at hr
  obtain ⟨us, h1, h2⟩ := hr
  refine ⟨loc, hs.say ?_⟩
  rw [AV.rel]
  exact ⟨us, gath_rel τ l y us hy h2, by rw [h1]; unfold Ty.val; rw [if_pos ha]⟩
end

/-! ### More operations -/
section
variable {P : Program} {s : List (Nat × AV)} {o o' : Objs} {n d : Nat} {ty : TypeId} {pos : String} {after : Array Edge} {gd : Option (Nat × Bool)} {t t' : TypeId} {x y : Operand}
/-- The cells of a fresh variable: rows are nil. -/
def zcl : Ty → List AV
  | .wrap t => zcl t
  | .pair a b => zcl a ++ zcl b
  | .int k => [.v (.int k) (0 : Int)]
  | .bool => [.v .bool false]
  | .str => [.v .str ByteArray.empty]
  | .sl _ => [.nil]
theorem zcl_rel {w : World} {M : Nat → Prop} {loc : Nat → Nat × Nat} {o : Objs} : ∀ τ : Ty, AV.rels w M loc o (zcl τ) τ.zcells
  | .wrap t => zcl_rel t
  | .pair a b => rels_append (zcl_rel a) (zcl_rel b)
  | .int k => rels_one rel_int
  | .bool => rels_one rel_bool
  | .str => rels_one rel_str
  | .sl _ => rels_one (by rw [AV.rel])
theorem Ev.allocN (X : Cx P) (id : Nat) {τ : Ty} (ht : X.ty t = some τ) (hid : lookO o id = none) (hd : Nat.blt d n = true) : Ev P ⟨some d, .alloc t, ty, pos, after, gd⟩ s o n (.box id 0) ((id, .box (zcl τ)) :: o) := Ev.mk fun F _ N w0 loc a w _ hs Q K hK => by
  unfold Oper.wp
  rw [show (execOp a.eval ⟨some d, .alloc t, ty, pos, after, gd⟩).run P w = .ok (.value (.pointer (some ⟨w.heap.size, 0, none⟩))) (w.alloc (.cells τ.zcells.toArray t)) from run_v (run_alloc X ht w)]
  have := hs.new (ob := .box (zcl τ)) (c := 1) hid (Nat.le_refl _) (below_alloc' w (.cells τ.zcells.toArray t)) (fun M' loc' o' hk ht => ⟨BoxC.one, _, _, alloc_get _ _, by rw [List.toList_toArray]; exact zcl_rel τ⟩)
  exact hK _ _ _ (this.put hd rel_box)
/-- A variable that takes a value of one cell, or a struct of parts. -/
def parts? (o : Objs) : AV → Option (List AV)
  | .st l => some l
  | .nil => some [.nil]
  | .nilp => some [.nilp]
  | .box i j => match lookO o i with | some (.box c) => some [.box i j] | _ => none
  | .own i => match lookO o i with | some (.arr ..) => some [.own i] | _ => none
  | .mp i => match lookO o i with | some (.map ..) => some [.mp i] | _ => none
  | .fn f c => some [.fn f c]
  | .ptr t x => some [.ptr t x]
  | .v t x => if t.agg then none else some [.v t x]
  | _ => none
end
end Go.Proofs.YtboghejfmmigkaaDoor.AE
/- A checked evaluator: variables and structs whose parts are rows of one's own, pointers and the like. -/
namespace Go.Proofs.YtboghejfmmigkaaDoor.AE
open Go Go.RowKit Go.Proofs.YtboghejfmmigkaaDoor.AP
set_option linter.unusedSimpArgs false
set_option linter.unusedVariables false

/-! ### What is asked of types -/
structure SZ (P : Program) (t : TypeId) (ag : Bool) (k : Nat) : Prop where
  size : ∀ w, (sizeOf t).run P w = .ok k w
  agg : ∀ w, (isAgg t).run P w = .ok ag w
def aggD : TypeDesc → Bool
  | .struct _ => true
  | .array _ _ => true
  | _ => false
def chkSZ (P : Program) (t : TypeId) (ag : Bool) (k : Nat) : Bool := match P.info? t, P.underlying t with
  | some f, some d => Nat.beq f.size k && (match aggD d, ag with | true, true => true | false, false => true | _, _ => false)
  | _, _ => false
theorem SZ.of {P : Program} {t : TypeId} {ag : Bool} {k : Nat} (h : chkSZ P t ag k = true) : SZ P t ag k := by
  unfold chkSZ at h
  split at h
  · rename_i f d hf hd
    rw [Bool.and_eq_true] at h
    have h1 := Nat.eq_of_beq_eq_true h.1
    have h2 : aggD d = ag := by cases ha : aggD d <;> cases ag <;> simp_all
    refine ⟨fun w => by simp [sizeOf, typeInfo, hf, h1], fun w => ?_⟩
    subst h2
    cases d <;> simp [isAgg, Go.underlying, hd, aggD]
  · cases h
/-- The cells of a type's nought. -/
def ZS (P : Program) (t : TypeId) (zc : List Value) : Prop := ∃ f z, P.info? t = some f ∧ f.zero = some z ∧ z.cells.toList = zc
inductive ZK where
  | int (k : IntKind)
  | bool
  | str
  | sl
  | ptr
  | map
  | fn
def ZK.val : ZK → Value
  | .int k => .int k 0
  | .bool => .bool false
  | .str => .string ByteArray.empty
  | .sl => .slice none 0 0
  | .ptr => .pointer none
  | .map => .map none
  | .fn => .nilFunc
def zeq1 : ZK → Value → Bool
  | .int k, .int k' n => decide (k = k') && (match n with | .ofNat m => Nat.beq m 0 | .negSucc _ => false)
  | .bool, .bool b => !b
  | .str, .string s => (match s.data.toList with | [] => true | _ => false)
  | .sl, .slice none n c => Nat.beq n 0 && Nat.beq c 0
  | .ptr, .pointer none => true
  | .map, .map none => true
  | .fn, .nilFunc => true
  | _, _ => false
theorem zeq1_ok {k : ZK} {v : Value} (h : zeq1 k v = true) : v = k.val := by
  unfold zeq1 at h
  split at h <;> try (first | rfl | (cases h; done))
  · rename_i k k' n
    rw [Bool.and_eq_true] at h
    obtain rfl := of_decide_eq_true h.1
    cases n with
    | ofNat m => obtain rfl := Nat.eq_of_beq_eq_true h.2; rfl
    | negSucc _ => cases h.2
  · rename_i b
    cases b
    · rfl
    · cases h
  · rename_i s
    split at h
    · rename_i hs
      obtain ⟨d⟩ := s
      have : d = #[] := by apply Array.toList_inj.1; simpa using hs
      subst this
      rfl
    · cases h
  · rename_i n c
    rw [Bool.and_eq_true] at h
    obtain rfl := Nat.eq_of_beq_eq_true h.1
    obtain rfl := Nat.eq_of_beq_eq_true h.2
    rfl
def zeqs : List ZK → List Value → Bool
  | [], [] => true
  | k :: ks, v :: vs => zeq1 k v && zeqs ks vs
  | _, _ => false
theorem zeqs_ok : ∀ {ks : List ZK} {vs : List Value}, zeqs ks vs = true → vs = ks.map ZK.val
  | [], [], _ => rfl
  | k :: ks, v :: vs, h => by
    unfold zeqs at h
    rw [Bool.and_eq_true] at h
    rw [zeq1_ok h.1, zeqs_ok h.2]; rfl
  | [], _ :: _, h => by cases h
  | _ :: _, [], h => by cases h
def chkZS (P : Program) (t : TypeId) (ks : List ZK) : Bool := match P.info? t with
  | some f => (match f.zero with | some z => zeqs ks z.cells.toList | none => false)
  | none => false
theorem ZS.of {P : Program} {t : TypeId} {ks : List ZK} (h : chkZS P t ks = true) : ZS P t (ks.map ZK.val) := by
  unfold chkZS at h
  split at h
  · rename_i f hf
    split at h
    · rename_i z hz
      exact ⟨f, z, hf, hz, zeqs_ok h⟩
    · cases h
  · cases h
def FO (P : Program) (t j off ft : Nat) : Prop := ∃ fs f, P.underlying t = some (.struct fs) ∧ fs[j]? = some f ∧ f.offset = off ∧ f.type = ft
def chkFO (P : Program) (t j off ft : Nat) : Bool := match P.underlying t with
  | some (.struct fs) => (match fs[j]? with | some f => Nat.beq f.offset off && Nat.beq f.type ft | none => false)
  | _ => false
theorem FO.of {P : Program} {t j off ft : Nat} (h : chkFO P t j off ft = true) : FO P t j off ft := by
  unfold chkFO at h
  split at h
  · rename_i fs hu
    split at h
    · rename_i f hf
      rw [Bool.and_eq_true] at h
      exact ⟨fs, f, hu, hf, Nat.eq_of_beq_eq_true h.1, Nat.eq_of_beq_eq_true h.2⟩
    · cases h
  · cases h

/-! ### Cells -/
def oneC (o : Objs) : AV → Bool
  | .v t _ => !t.agg
  | .nil => true
  | .nilp => true
  | .ptr _ _ => true
  | .fn _ _ => true
  | .own i => match lookO o i with | some (.arr ..) => true | _ => false
  | .owz i => match lookO o i with | some (.arr ..) => true | _ => false
  | .box i _ => match lookO o i with | some (.box _) => true | _ => false
  | .mp i => match lookO o i with | some (.map ..) => true | _ => false
  | .pn _ i _ _ => match lookO o i with | some (.box _) => true | _ => false
  | _ => false
def spreadC (o : Objs) : AV → Option (List AV)
  | .v t x => some (leaves t x)
  | .st l => match l.all (oneC o) with | true => some l | false => none
  | A => match oneC o A with | true => some [A] | false => none
section
variable {w : World} {M : Nat → Prop} {loc : Nat → Nat × Nat} {o : Objs}
theorem oneC_one {A : AV} {u : Value} (h : oneC o A = true) (hr : AV.rel w M loc o A u) : u.oneCell' = true ∧ u.cells = #[u] := by
  cases A with
  | v t x =>
    rw [AV.rel] at hr
    obtain ⟨cs, h1, rfl⟩ := hr
    have ha : t.agg = false := by simpa [oneC] using h
    cases t with
    | int k => cases h1; exact ⟨by simp [Ty.val, Ty.agg, Value.oneCell'], rfl⟩
    | bool => cases h1; exact ⟨by simp [Ty.val, Ty.agg, Value.oneCell'], rfl⟩
    | str => cases h1; exact ⟨by simp [Ty.val, Ty.agg, Value.oneCell'], rfl⟩
    | sl t => obtain ⟨A, c', e, _⟩ := h1; cases e; exact ⟨by simp [Ty.val, Ty.agg, Value.oneCell'], rfl⟩
    | wrap t => cases ha
    | pair a b => cases ha
  | nil => rw [AV.rel] at hr; subst hr; exact ⟨by simp [Value.oneCell'], rfl⟩
  | nilp => rw [AV.rel] at hr; subst hr; exact ⟨by simp [Value.oneCell'], rfl⟩
  | ptr t x => rw [AV.rel] at hr; obtain ⟨ad, rfl, _⟩ := hr; exact ⟨by simp [Value.oneCell'], rfl⟩
  | fn f c => rw [AV.rel] at hr; obtain ⟨us, rfl, _⟩ := hr; exact ⟨by simp [Value.oneCell'], rfl⟩
  | own i =>
    rw [AV.rel] at hr
    obtain ⟨ob, h1, h2⟩ := hr
    have h : (match lookO o i with | some (.arr ..) => true | _ => false) = true := h
    rw [h1] at h
    cases ob with
    | arr E t l => obtain ⟨A, rfl, _⟩ := h2 E t l rfl; exact ⟨by simp [Value.oneCell'], rfl⟩
    | _ => cases h
  | owz i =>
    rw [AV.rel] at hr
    obtain ⟨ob, h1, h2⟩ := hr
    have h : (match lookO o i with | some (.arr ..) => true | _ => false) = true := h
    rw [h1] at h
    cases ob with
    | arr E t l => obtain ⟨A, rfl, _⟩ := h2 E t l rfl; exact ⟨by simp [Value.oneCell'], rfl⟩
    | _ => cases h
  | box i j =>
    rw [AV.rel] at hr
    obtain ⟨ob, h1, h2⟩ := hr
    have h : (match lookO o i with | some (.box _) => true | _ => false) = true := h
    rw [h1] at h
    cases ob with
    | box c => rw [h2 c rfl]; exact ⟨by simp [Value.oneCell'], rfl⟩
    | _ => cases h
  | mp i =>
    rw [AV.rel] at hr
    obtain ⟨ob, h1, h2⟩ := hr
    have h : (match lookO o i with | some (.map ..) => true | _ => false) = true := h
    rw [h1] at h
    cases ob with
    | map kt vt l => rw [h2 kt vt l rfl]; exact ⟨by simp [Value.oneCell'], rfl⟩
    | _ => cases h
  | pn b i j ty =>
    rw [AV.rel] at hr
    obtain ⟨ob, h1, h2⟩ := hr
    have h : (match lookO o i with | some (.box _) => true | _ => false) = true := h
    rw [h1] at h
    cases ob with
    | box c => rw [(h2 c rfl).1]; cases b <;> exact ⟨by simp [Value.oneCell'], rfl⟩
    | _ => cases h
  | _ => cases h
theorem oneC_all : ∀ (avs : List AV) (us : List Value), avs.all (oneC o) = true → AV.rels w M loc o avs us → ∀ c ∈ us, c.oneCell' = true
  | [], us, _, h => by rw [AV.rels] at h; subst h; simp
  | A :: avs, us, hc, h => by
    rw [AV.rels] at h
    obtain ⟨u, us', rfl, h2, h3⟩ := h
    rw [List.all_cons, Bool.and_eq_true] at hc
    intro c hm
    rcases List.mem_cons.1 hm with rfl | hm
    · exact (oneC_one hc.1 h2).1
    · exact oneC_all avs us' hc.2 h3 c hm
theorem spreadC_rel {A : AV} {u : Value} {avs : List AV} (h : spreadC o A = some avs) (hr : AV.rel w M loc o A u) : ∃ cs : List Value, u.cells = cs.toArray ∧ AV.rels w M loc o avs cs ∧ ∀ c ∈ cs, c.oneCell' = true := by
  have one : (match oneC o A with | true => some [A] | false => none) = some avs → ∃ cs : List Value, u.cells = cs.toArray ∧ AV.rels w M loc o avs cs ∧ ∀ c ∈ cs, c.oneCell' = true := by
    intro h
    cases hc : oneC o A with
    | false => rw [hc] at h; cases h
    | true =>
      rw [hc] at h
      cases h
      obtain ⟨h1, h2⟩ := oneC_one hc hr
      exact ⟨[u], h2, rels_one hr, by simpa using h1⟩
  cases A with
  | v t x =>
    cases h
    rw [AV.rel] at hr
    obtain ⟨cs, h1, rfl⟩ := hr
    obtain ⟨h2, h3⟩ := leaves_rel (loc := loc) (o := o) t x cs h1
    exact ⟨cs, cells_val h1, h2, h3⟩
  | st l =>
    have h : (match l.all (oneC o) with | true => some l | false => none) = some avs := h
    cases hc : l.all (oneC o) with
    | false => rw [hc] at h; cases h
    | true =>
      rw [hc] at h
      cases h
      rw [AV.rel] at hr
      obtain ⟨us, rfl, h2⟩ := hr
      exact ⟨us, rfl, h2, oneC_all _ us hc h2⟩
  | _ => exact one h
end
section
variable {P : Program} {s : List (Nat × AV)} {o o' : Objs} {n d : Nat} {ty : TypeId} {pos : String} {after : Array Edge} {gd : Option (Nat × Bool)} {t t' : TypeId} {x y : Operand}
theorem Ev.boxC (id : Nat) {A : AV} {avs : List AV} (hx : V s o n x = A) (ha : spreadC o A = some avs) (hid : lookO o id = none) (hd : Nat.blt d n = true) : Ev P ⟨some d, .box t x, ty, pos, after, gd⟩ s o n (.box id 0) ((id, .box avs) :: o) := Ev.mk fun F hF N w0 loc a w _ hs Q K hK => by
  have hX := (hs.lk hF).look (by simp [Op.operands]) hx
  obtain ⟨cs, h1, h2, _⟩ := spreadC_rel ha hX
  unfold Oper.wp
  rw [show (execOp a.eval ⟨some d, .box t x, ty, pos, after, gd⟩).run P w = .ok (.value (.pointer (some ⟨w.heap.size, 0, none⟩))) (w.alloc (.cells (a.eval x).cells t)) from run_v (run_box _ _ _)]
  have := hs.new (ob := .box avs) (c := 1) hid (Nat.le_refl _) (below_alloc' w (.cells (a.eval x).cells t)) (fun M' loc' o' hk ht => ⟨BoxC.one, _, _, alloc_get _ _, by rw [h1, List.toList_toArray]; rw [h1] at hk; exact AV.rels_turns hk ht _ _ h2⟩)
  exact hK _ _ _ (this.put hd rel_box)
/-- A variable takes a value of parts. -/
theorem Ev.storeC {ag : Bool} {k id off : Nat} {cells avs : List AV} {A : AV} (hz : SZ P t ag k) (hx : V s o n x = .box id off) (ho : lookO o id = some (.box cells)) (hy : V s o n y = A) (ha : spreadC o A = some avs) (hl : Nat.beq avs.length k = true) (hfit : Nat.ble (off + avs.length) cells.length = true) :
    Ev P ⟨none, .store t x y, ty, pos, after, gd⟩ s o n .bot ((id, .box (cells.take off ++ avs ++ cells.drop (off + avs.length))) :: o) := Ev.mk fun F hF N w0 loc a w _ hs Q K hK => by
  have hlk := hs.lk hF
  have h1 := box_ptr ho (hlk.look (by simp [Op.operands]) hx)
  obtain ⟨cs, g1, g2, g3⟩ := spreadC_rel ha (hlk.look (by simp [Op.operands]) hy)
  obtain ⟨hp, cur, E, hcur, hrel⟩ := box_at hs.rep ho
  have hlen := rels_len hrel
  have hlen2 := rels_len g2
  have hfit := Nat.le_of_ble_eq_true hfit
  have hl := Nat.eq_of_beq_eq_true hl
  have hcl : cur.size = cells.length := by rw [← Array.length_toList]; exact hlen
  have hst := run_storeCells_at (P := P) (loc id).1 off E cs 0 cur w hcur (by omega) g3
  have hrun : (execOp a.eval ⟨none, .store t x y, ty, pos, after, gd⟩).run P w = .ok .skip (w.setRow (loc id).1 (cur.toList.take off ++ cs ++ cur.toList.drop (off + cs.length)).toArray) := by
    have hsz : (a.eval y).cells.size = k := by rw [g1, List.size_toArray, hlen2, hl]
    simp [execOp, h1, Instr.storeAt, Instr.sureAddr, storeVar, hz.size, hsz]
    rw [g1]
    simp at hst ⊢
    simp [hst]
  unfold Oper.wp
  rw [hrun]
  have hset := setRow_heap w (loc id).1 cur (cur.toList.take off ++ cs ++ cur.toList.drop (off + cs.length)).toArray E (0, 0) hcur
  have := hs.set (w' := w.setRow (loc id).1 (cur.toList.take off ++ cs ++ cur.toList.drop (off + cs.length)).toArray) (ob := .box cells) (ob' := .box (cells.take off ++ avs ++ cells.drop (off + avs.length))) ho rfl .box hp.1 rfl rfl rfl (by simp [World.setRow]) (fun k _ hk => setRow_other w _ k _ hk) (fun M' o' hk ht => ⟨hp.set hcur hset, _, _, hset, AV.rels_turns hk ht _ _ (by
    rw [List.toList_toArray]
    exact rels_mid off hrel g2)⟩)
  exact hK _ _ _ this
/-- What a variable holds: one cell. -/
theorem Ev.loadOne {k id off : Nat} {cells : List AV} {A : AV} (hz : SZ P t false k) (hx : V s o n x = .box id off) (ho : lookO o id = some (.box cells)) (hA : cells[off]? = some A) (hd : Nat.blt d n = true) : Ev P ⟨some d, .load t x, ty, pos, after, gd⟩ s o n A o :=
  Ev.pure hd (fun N w0 loc a w hs => by
    have h1 := box_ptr ho (hs.look (by simp [Op.operands]) hx)
    obtain ⟨_, cur, E, hcur, hrel⟩ := box_at hs.rep ho
    obtain ⟨u, hu, hr⟩ := rels_getE off A hrel hA
    have hc : w.cell? ⟨(loc id).1, off, none⟩ = some u := by
      simp [World.cell?, hcur]
      simpa using hu
    refine ⟨u, ?_, hr⟩
    simp [execOp, h1, Instr.loadAt, Instr.sureAddr, loadVar, hz.agg, hc])
/-- A field of a variable. -/
theorem Ev.fieldBoxN {j id off off' ft k : Nat} {ag : Bool} {cells : List AV} (hf : FO P t j off' ft) (hz : SZ P ft ag k) (hx : V s o n x = .box id off) (ho : lookO o id = some (.box cells)) (hk : Nat.blt 0 k = true) (hd : Nat.blt d n = true) :
    Ev P ⟨some d, .fieldAddr t x j, ty, pos, after, gd⟩ s o n (.box id (off + off')) o :=
  Ev.pure hd (fun N w0 loc a w hs => by
    have h1 := box_ptr ho (hs.look (by simp [Op.operands]) hx)
    obtain ⟨fs, f, hu, hf, hoff, hft⟩ := hf
    have hne : ¬ (k = 0) := by have := blt_lt hk; omega
    have ha : (⟨(loc id).1, off, none⟩ : Addr).add f.offset = ⟨(loc id).1, off + off', none⟩ := by rw [add_lit, hoff]
    refine ⟨.pointer (some ⟨(loc id).1, off + off', none⟩), ?_, ?_⟩
    · simp [execOp, h1, Instr.fieldAt, Go.underlying, hu, hf, Instr.sureAddr, fieldPlace, hft, hz.size, hne, ha]
    · rw [AV.rel]
      exact ⟨.box cells, ho, fun _ _ => rfl⟩)
/-- A pointer that is there. -/
theorem Ev.e_nc {A : AV} (hx : V s o n x = A) (hA : oneC o A = true) (hn : (match A with | .box _ _ => true | .ptr _ _ => true | .mp _ => true | _ => false) = true) (hd : Nat.blt d n = true) : Ev P ⟨some d, .nilCheck x, ty, pos, after, gd⟩ s o n A o :=
  Ev.pure hd (fun N w0 loc a w hs => by
    have h1 := hs.look (by simp [Op.operands]) hx
    refine ⟨a.eval x, ?_, h1⟩
    cases A with
    | box i j =>
      rw [AV.rel] at h1
      obtain ⟨ob, g1, g2⟩ := h1
      have hA : (match lookO o i with | some (.box _) => true | _ => false) = true := hA
      rw [g1] at hA
      cases ob with
      | box c => simp [execOp, g2 c rfl]
      | _ => cases hA
    | ptr t x =>
      rw [AV.rel] at h1
      obtain ⟨ad, g1, _⟩ := h1
      simp [execOp, g1]
    | mp i =>
      rw [AV.rel] at h1
      obtain ⟨ob, g1, g2⟩ := h1
      have hA : (match lookO o i with | some (.map ..) => true | _ => false) = true := hA
      rw [g1] at hA
      cases ob with
      | map kt vt l => simp [execOp, g2 kt vt l rfl]
      | _ => cases hA
    | _ => cases hn)
/-! ### A struct out of some of its fields -/
def fillA (pl : List (Nat × Nat)) : List AV → List (Nat × List AV) → Option (List AV)
  | cells, [] => some cells
  | cells, (i, avs) :: r => match pl[i]? with
    | some (off, sz) => match Nat.beq avs.length sz && Nat.ble (off + sz) cells.length with
      | true => fillA pl (cells.take off ++ avs ++ cells.drop (off + avs.length)) r
      | false => none
    | none => none
def sprsC (o : Objs) (F : Operand → AV) : List (Nat × Operand) → Option (List (Nat × List AV))
  | [] => some []
  | (i, x) :: r => match spreadC o (F x), sprsC o F r with
    | some avs, some l => some ((i, avs) :: l)
    | _, _ => none
theorem fillA_rel {w : World} {M : Nat → Prop} {loc : Nat → Nat × Nat} (f : Operand → Value) (g : Operand → AV) (pl : List (Nat × Nat)) : ∀ (ps : List (Nat × Operand)) (ass : List (Nat × List AV)) (cells r : List AV) (cur : Array Value), sprsC o g ps = some ass → fillA pl cells ass = some r → AV.rels w M loc o cells cur.toList → (∀ p ∈ ps, AV.rel w M loc o (g p.2) (f p.2)) →
    ∃ cur', Instr.fill (fun i => pl.toArray[i]?) cur (ps.map fun p => (p.1, f p.2)) = some cur' ∧ AV.rels w M loc o r cur'.toList
  | [], ass, cells, r, cur, h1, h2, hr, _ => by
    cases h1
    cases h2
    exact ⟨cur, rfl, hr⟩
  | (i, x) :: ps, ass, cells, r, cur, h1, h2, hr, hp => by
    unfold sprsC at h1
    split at h1
    · rename_i avs l g1 g2
      cases h1
      unfold fillA at h2
      split at h2
      · rename_i off sz hi
        split at h2
        · rename_i hc
          rw [Bool.and_eq_true] at hc
          have e1 := Nat.eq_of_beq_eq_true hc.1
          have e2 := Nat.le_of_ble_eq_true hc.2
          obtain ⟨cs, k1, k2, _⟩ := spreadC_rel g1 (hp (i, x) (by simp))
          have hl1 := rels_len hr
          have hl2 := rels_len k2
          rw [Array.length_toList] at hl1
          have hsf := set_fold off cs 0 cur (by omega)
          simp only [Nat.add_zero] at hsf
          have hcsz : (f x).cells.size = sz := by rw [k1, List.size_toArray]; omega
          have key := fillA_rel f g pl ps l (cells.take off ++ avs ++ cells.drop (off + avs.length)) r ((cs.zipIdx 0).foldl (fun (cs : Array Value) (p : Value × Nat) => cs.setIfInBounds (off + p.2) p.1) cur) g2 h2 (by rw [hsf]; exact rels_mid off hr k2) (fun p hp' => hp p (by simp [hp']))
          obtain ⟨cur', k3, k4⟩ := key
          refine ⟨cur', ?_, k4⟩
          rw [List.map_cons]
          unfold Instr.fill
          have hi' : pl.toArray[i]? = some (off, sz) := by simpa using hi
          dsimp only
          rw [hi']
          dsimp only
          rw [if_neg (by simp [hcsz]; omega)]
          rw [← k3]
          congr 1
          rw [k1, ← Array.foldl_toList, Array.toList_zipIdx]
        · cases h2
      · cases h2
    · cases h1
theorem Ev.structC {parts : Array (Nat × Operand)} {pl : List (Nat × Nat)} {zc : List Value} {ass : List (Nat × List AV)} {r : List AV} (hpl : placesOf P t = some pl) (hz : ZS P t zc) (hs : sprsC o (V s o n) parts.toList = some ass) (hf : fillA pl (zc.map constAV) ass = some r) (hd : Nat.blt d n = true) :
    Ev P ⟨some d, .build t parts, ty, pos, after, gd⟩ s o n (.st r) o :=
  Ev.pure hd (fun N w0 loc a w hlk => by
    obtain ⟨f, z, hf1, hfz, rfl⟩ := hz
    have hr : ∀ l : List Value, AV.rels w (Muts N loc o) loc o (l.map constAV) l := by
      intro l
      induction l with
      | nil => simp [AV.rels]
      | cons c l ih => rw [List.map_cons, AV.rels]; exact ⟨c, l, rfl, constAV_rel c, ih⟩
    obtain ⟨cur, g1, g2⟩ := fillA_rel a.eval (V s o n) pl parts.toList ass _ r z.cells hs hf (hr _) (fun p hp => hlk.val p.2 (by simp only [Op.operands]; rw [List.mem_toArray]; exact List.mem_map.2 ⟨p, hp, rfl⟩))
    have hb : P.built t (parts.map fun (i, x) => (i, a.eval x)).toList = some cur := by
      unfold placesOf at hpl
      unfold Program.built
      cases hu : P.underlying t with
      | none => rw [hu] at hpl; cases hpl
      | some dd =>
        rw [hu] at hpl
        cases dd with
        | struct fs =>
          dsimp only at hpl
          rw [hf1]
          dsimp only
          rw [hfz, hpl]
          dsimp only
          rw [Array.toList_map]
          exact g1
        | _ => cases hpl
    refine ⟨.agg cur, run_v (run_build w t _ cur hb), ?_⟩
    rw [AV.rel]
    exact ⟨cur.toList, by simp, g2⟩)
end
end Go.Proofs.YtboghejfmmigkaaDoor.AE
/- A checked evaluator: equal structs, letters of a text, conversions, fields of elements. -/
namespace Go.Proofs.YtboghejfmmigkaaDoor.AE
open Go Go.RowKit Go.Proofs.YtboghejfmmigkaaDoor.AP
set_option linter.unusedSimpArgs false
set_option linter.unusedVariables false

/-! ### Equal structs -/
def eqT : (t : Ty) → t.den → t.den → Bool
  | .int _, x, y => eqI x y
  | .bool, x, y => eqB x y
  | .str, x, y => sq x y
  | .sl _, _, _ => false
  | .wrap t, x, y => eqT t x y
  | .pair a b, x, y => eqT a x.1 y.1 && eqT b x.2 y.2
def eqOkR (c : Ty → TypeId → Bool) : Ty → List Field → Bool
  | .pair a b, f :: g :: r => (f.name != "_") && c a f.type && eqOkR c b (g :: r)
  | t, [f] => (f.name != "_") && c t f.type
  | _, _ => false
def eqOk (P : Program) : Nat → Ty → TypeId → Bool
  | 0, _, _ => false
  | n + 1, t, i => match t with
    | .int _ => true
    | .bool => true
    | .str => true
    | .sl _ => false
    | .wrap t' => !P.stoodInHeld i && (match P.underlying i with | some (.struct fs) => (match fs.toList with | [f] => (f.name != "_") && eqOk P n t' f.type | _ => false) | _ => false)
    | .pair a b => !P.stoodInHeld i && (match P.underlying i with | some (.struct fs) => eqOkR (eqOk P n) (.pair a b) fs.toList | _ => false)
section
variable {P : Program} {w : World} {M : Nat → Prop}
theorem run_part {t : Ty} {i : TypeId} (hi : Is P t i) {cs c : List Value} {off : Nat} (hc : (cs.drop off).take t.sz = c) (hl : c.length = t.sz) (w : World) : (part i cs.toArray off).run P w = .ok (t.val c) w := by
  subst hc
  unfold part Ty.val
  cases hg : t.agg with
  | true => simp [hi.run_agg, hi.run_size, hg]
  | false =>
    rw [Ty.sz_leaf hg] at hl
    have hlt : off < cs.length := by rw [List.length_take, List.length_drop] at hl; omega
    have he : (cs.drop off).take t.sz = [cs[off]] := by rw [Ty.sz_leaf hg, List.drop_eq_getElem_cons hlt]; rfl
    simp [hi.run_agg, hg, he, hlt]
theorem eq_one {n d : Nat} (ih : ∀ (τ : Ty) (i : TypeId) (x y : τ.den) (cs ds : List Value), chk P n τ i = true → eqOk P n τ i = true → τ.relc w M x cs → τ.relc w M y ds → (Op.equalIn d i (τ.val cs) (τ.val ds)).run P w = .ok (eqT τ x y) w)
    {τ : Ty} {f : Field} {x y : τ.den} {cs ds xs ys : List Value} (h1 : chk P n τ f.type = true) (h2 : (f.name != "_") = true) (h3 : eqOk P n τ f.type = true) (hx : τ.relc w M x cs) (hy : τ.relc w M y ds) (ex : (xs.drop f.offset).take τ.sz = cs) (ey : (ys.drop f.offset).take τ.sz = ds) (r : List Field) :
    (Op.eqFields d xs.toArray ys.toArray (f :: r)).run P w = (if eqT τ x y = true then (Op.eqFields d xs.toArray ys.toArray r).run P w else .ok false w) := by
  have hn : f.name ≠ "_" := by simpa using h2
  have p1 := run_part (P := P) ⟨n, h1⟩ ex (Ty.relc_len τ x cs hx) w
  have p2 := run_part (P := P) ⟨n, h1⟩ ey (Ty.relc_len τ y ds hy) w
  have p3 := ih τ f.type x y cs ds h1 h3 hx hy
  rw [Op.eqFields, if_pos hn]
  simp only [Sem.run_bind, p1, p2, p3, Result.andThen_ok]
  cases eqT τ x y <;> simp
theorem eq_fields {n d : Nat} (ih : ∀ (τ : Ty) (i : TypeId) (x y : τ.den) (cs ds : List Value), chk P n τ i = true → eqOk P n τ i = true → τ.relc w M x cs → τ.relc w M y ds → (Op.equalIn d i (τ.val cs) (τ.val ds)).run P w = .ok (eqT τ x y) w) :
    ∀ (fl : List Field) (τ : Ty) (x y : τ.den) (off : Nat) (cs ds xs ys : List Value), chkR (chk P n) τ fl off = true → eqOkR (eqOk P n) τ fl = true → τ.relc w M x cs → τ.relc w M y ds → xs.drop off = cs → ys.drop off = ds →
      (Op.eqFields d xs.toArray ys.toArray fl).run P w = .ok (eqT τ x y) w := by
  intro fl
  induction fl with
  | nil => intro τ x y off cs ds xs ys h; cases τ <;> simp [chkR] at h
  | cons f fl ihl =>
    intro τ x y off cs ds xs ys h1 h2 hx hy ex ey
    cases fl with
    | nil =>
      have h1' : (f.offset == off && chk P n τ f.type) = true := by cases τ <;> simpa [chkR] using h1
      have h2' : ((f.name != "_") && eqOk P n τ f.type) = true := by cases τ <;> simpa [eqOkR] using h2
      rw [Bool.and_eq_true] at h1' h2'
      have ho : f.offset = off := by simpa using h1'.1
      have lx := Ty.relc_len τ x cs hx
      have ly := Ty.relc_len τ y ds hy
      rw [eq_one ih h1'.2 h2'.1 h2'.2 hx hy (by rw [ho, ex, ← lx, List.take_length]) (by rw [ho, ey, ← ly, List.take_length]) []]
      cases eqT τ x y <;> simp [Op.eqFields]
    | cons g r =>
      cases τ with
      | pair a b =>
        simp only [chkR, Bool.and_eq_true, beq_iff_eq] at h1
        simp only [eqOkR, Bool.and_eq_true] at h2
        obtain ⟨c1, c2, rfl, hx1, hx2⟩ := hx
        obtain ⟨d1, d2, rfl, hy1, hy2⟩ := hy
        have l1 := Ty.relc_len a _ _ hx1
        have m1 := Ty.relc_len a _ _ hy1
        have ho := h1.1.1
        rw [eq_one ih h1.1.2 h2.1.1 h2.1.2 hx1 hy1 (by rw [ho, ex, ← l1, List.take_left]) (by rw [ho, ey, ← m1, List.take_left]) (g :: r)]
        rw [ihl b x.2 y.2 (off + a.sz) c2 d2 xs ys h1.2 h2.2 hx2 hy2 (by rw [← List.drop_drop, ex, ← l1, List.drop_left]) (by rw [← List.drop_drop, ey, ← m1, List.drop_left])]
        show _ = Result.ok (eqT a x.1 y.1 && eqT b x.2 y.2) w
        cases eqT a x.1 y.1 <;> simp
      | _ => simp [chkR] at h1
theorem eq_in : ∀ (n d : Nat) (τ : Ty) (i : TypeId) (x y : τ.den) (cs ds : List Value), n ≤ d → chk P n τ i = true → eqOk P n τ i = true → τ.relc w M x cs → τ.relc w M y ds → (Op.equalIn d i (τ.val cs) (τ.val ds)).run P w = .ok (eqT τ x y) w := by
  intro n
  induction n with
  | zero => intro d τ i x y cs ds _ h; simp [chk] at h
  | succ n ih =>
    intro d τ i x y cs ds hd h1 h2 hx hy
    obtain ⟨d, rfl⟩ : ∃ e, d = e + 1 := ⟨d - 1, by omega⟩
    have hdesc := Is.desc ⟨n + 1, h1⟩
    cases τ with
    | int k =>
      cases hx
      cases hy
      have hu : P.underlying i = some (.int k) := hdesc
      exact run_equalIn_int w d i k k x y hu
    | bool =>
      cases hx
      cases hy
      have hu : P.underlying i = some .bool := hdesc
      have := run_equalIn_bool w d i x y hu
      refine this.trans ?_
      show Result.ok (BEq.beq (α := Bool) x y) w = Result.ok (eqB x y) w
      exact congrArg (fun z => Result.ok z w) ((show ∀ a b : Bool, (a == b) = eqB a b by decide) x y)
    | str =>
      cases hx
      cases hy
      have hu : P.underlying i = some .string := hdesc
      exact run_equalIn_string w d i x y hu
    | sl t => simp [eqOk] at h2
    | wrap t =>
      obtain ⟨f, hu, hof, hf⟩ := hdesc
      have hfo : P.fieldsOf i = #[f] := by unfold Program.fieldsOf; rw [hu]
      simp only [eqOk, hu, Bool.and_eq_true, Bool.not_eq_true'] at h2
      have h3 : (f.name != "_") = true ∧ eqOk P n t f.type = true := by simpa using h2.2
      have hc : chk P n t f.type = true := by
        simp only [chk, hu, Bool.and_eq_true] at h1
        simpa [hof] using h1.2
      have hx' : t.relc w M x cs := hx
      have hy' : t.relc w M y ds := hy
      have lx := Ty.relc_len t x cs hx'
      have ly := Ty.relc_len t y ds hy'
      show (Op.equalIn (d + 1) i (.agg cs.toArray) (.agg ds.toArray)).run P w = _
      rw [run_equalIn_struct w d i cs.toArray ds.toArray (by rw [hfo]; exact hu) h2.1, hfo]
      have := eq_one (fun τ i x y cs ds a b c e => ih d τ i x y cs ds (by omega) a b c e) hc h3.1 h3.2 hx' hy' (xs := cs) (ys := ds) (by rw [hof, List.drop_zero, ← lx, List.take_length]) (by rw [hof, List.drop_zero, ← ly, List.take_length]) []
      rw [show (#[f] : Array Field).toList = [f] from rfl, this]
      show _ = Result.ok (eqT t x y) w
      cases eqT t x y <;> simp [Op.eqFields]
    | pair a b =>
      obtain ⟨f, g, r, hu, hof, m, _⟩ := hdesc
      have hfo : P.fieldsOf i = (f :: g :: r).toArray := by unfold Program.fieldsOf; rw [hu]
      simp only [eqOk, hu, Bool.and_eq_true, Bool.not_eq_true'] at h2
      have hc : chkR (chk P n) (.pair a b) (f :: g :: r) 0 = true := by
        simp only [chk, hu, Bool.and_eq_true] at h1
        have h := h1.2
        simp only [Bool.and_eq_true, beq_iff_eq] at h
        simp only [chkR, Bool.and_eq_true, beq_iff_eq, Nat.zero_add]
        exact h
      show (Op.equalIn (d + 1) i (.agg cs.toArray) (.agg ds.toArray)).run P w = _
      rw [run_equalIn_struct w d i cs.toArray ds.toArray (by rw [hfo]; exact hu) h2.1, hfo]
      exact eq_fields (fun τ i x y cs ds a b c e => ih d τ i x y cs ds (by omega) a b c e) (f :: g :: r) (.pair a b) x y 0 cs ds cs ds hc h2.2 hx hy rfl rfl
end
section
variable {P : Program} {s : List (Nat × AV)} {o o' : Objs} {n d : Nat} {ty : TypeId} {pos : String} {after : Array Edge} {gd : Option (Nat × Bool)} {t t' : TypeId} {x y : Operand}
/-- What is asked of a type whose values are compared. -/
structure EQ (P : Program) (τ : Ty) (t : TypeId) : Prop where
  is : ∃ n, n ≤ 10000 ∧ chk P n τ t = true ∧ eqOk P n τ t = true
  guard : P.eqGuardType P.depth t = false
def chkEQ (P : Program) (τ : Ty) (t : TypeId) : Bool := chk P 12 τ t && eqOk P 12 τ t && !P.eqGuardType P.depth t
theorem EQ.of {P : Program} {τ : Ty} {t : TypeId} (h : chkEQ P τ t = true) : EQ P τ t := by
  unfold chkEQ at h
  simp only [Bool.and_eq_true, Bool.not_eq_true'] at h
  exact ⟨⟨12, by omega, h.1.1, h.1.2⟩, h.2⟩
theorem Ev.e_eq {τ : Ty} {p q : τ.den} {op : BinOp} {b : Bool} (he : EQ P τ t) (ha : τ.agg = true) (hop : op = .eql ∧ eqT τ p q = b ∨ op = .neq ∧ (!eqT τ p q) = b) (hx : V s o n x = .v τ p) (hy : V s o n y = .v τ q) (hd : Nat.blt d n = true) : Ev P ⟨some d, .binOp op t x y t', ty, pos, after, gd⟩ s o n (.v .bool b) o :=
  Ev.pure hd (fun N w0 loc a w hs => by
    have h1 := hs.look (by simp [Op.operands]) hx
    have h2 := hs.look (by simp [Op.operands]) hy
    rw [AV.rel] at h1 h2
    obtain ⟨cs, r1, e1⟩ := h1
    obtain ⟨ds, r2, e2⟩ := h2
    obtain ⟨m, hm, hc, hq⟩ := he.is
    have key := eq_in m 10000 τ t p q cs ds hm hc hq r1 r2
    have v1 : τ.val cs = .agg cs.toArray := by unfold Ty.val; rw [if_pos ha]
    have v2 : τ.val ds = .agg ds.toArray := by unfold Ty.val; rw [if_pos ha]
    rw [v1] at e1
    rw [v2] at e2
    rw [v1, v2] at key
    have hg : ∀ op, (eqGuard op t x y (.agg cs.toArray) (.agg ds.toArray)).run P w = .ok () w := by
      intro op
      unfold eqGuard
      cases op <;> simp [he.guard]
    refine ⟨.bool b, ?_, rel_bool⟩
    rcases hop with ⟨rfl, rfl⟩ | ⟨rfl, rfl⟩
    · have := run_eql_struct (P := P) (w := w) t cs.toArray ds.toArray
      rw [key] at this
      simp [execOp, e1, e2, hg, this]
    · have := run_neq_struct (P := P) (w := w) t cs.toArray ds.toArray
      rw [key] at this
      simp [execOp, e1, e2, hg, this])

/-! ### Letters of a text -/
theorem Ev.e_range (X : Cx P) (id : Nat) {b : ByteArray} (hx : V s o n x = .v .str b) (ht : X.ty t = some .str) (hid : lookO o id = none) (hd : Nat.blt d n = true) : Ev P ⟨some d, .range t x, ty, pos, after, gd⟩ s o n (.it id) ((id, .siter b 0) :: o) := Ev.mk fun F hF N w0 loc a w _ hs Q K hK => by
  have hX := of_str ((hs.lk hF).look (by simp [Op.operands]) hx)
  have hu : P.underlying t = some .string := (X.ok _ _ ht).desc
  unfold Oper.wp
  rw [show (execOp a.eval ⟨some d, .range t x, ty, pos, after, gd⟩).run P w = .ok (.value (.pointer (some ⟨w.heap.size, 0, none⟩))) (w.alloc (.stringIter b 0)) from by
    show (Bind.bind (Instr.range t (a.eval x)) fun v => Pure.pure (Next.value v) : Sem Next).run P w = _
    rw [hX]
    exact run_v (run_range_string w t b hu)]
  have := hs.new (ob := .siter b 0) (c := 1) hid (Nat.le_refl _) (below_alloc' w (.stringIter b 0)) (fun M' loc' o' hk ht => ⟨Nat.one_pos, alloc_get _ _⟩)
  refine hK _ _ _ (this.put hd ?_)
  rw [AV.rel]
  exact ⟨.siter b 0, by rw [lookO_cons, if_pos rfl], fun _ _ _ => by rw [put2_same]⟩
theorem it_at {w : World} {M : Nat → Prop} {loc : Nat → Nat × Nat} {id : Nat} {b : ByteArray} {p : Nat} (ho : lookO o id = some (.siter b p)) {u : Value} (h : AV.rel w M loc o (.it id) u) : u = .pointer (some ⟨(loc id).1, 0, none⟩) := by
  rw [AV.rel] at h
  obtain ⟨ob, h1, h2⟩ := h
  rw [ho] at h1
  cases h1
  exact h2 _ _ rfl
/-- where the next letter begins -/
theorem Ev.e_nextT {id : Nat} {b : ByteArray} {p : Nat} (hp : decide (p < b.size) = true) (hx : V s o n x = .it id) (ho : lookO o id = some (.siter b p)) (hd : Nat.blt d n = true) :
    Ev P ⟨some d, .next x true, ty, pos, after, gd⟩ s o n (.tup [.v .bool true, .v (.int .i64) ((p : Nat) : Int), .v (.int .i32) (dc1 b p)]) ((id, .siter b (dcn b p)) :: o) := Ev.mk fun F hF N w0 loc a w _ hs Q K hK => by
  have hX := it_at ho ((hs.lk hF).look (by simp [Op.operands]) hx)
  obtain ⟨hc, hh⟩ := hs.rep.obs id _ ho
  have hp := of_decide_eq_true hp
  have hlt := (Array.getElem?_eq_some_iff.1 hh).1
  have hrun : (execOp a.eval ⟨some d, .next x true, ty, pos, after, gd⟩).run P w = .ok (.value (.tuple #[.bool true, .int .i64 (p : Nat), .int .i32 ((Utf8.decode b p).1 : Nat)])) { w with heap := w.heap.setIfInBounds (loc id).1 (.stringIter b (p + (Utf8.decode b p).2)) } := by
    show (Bind.bind (Instr.next (a.eval x) true ty) fun v => Pure.pure (Next.value v) : Sem Next).run P w = _
    rw [hX]
    refine run_v ?_
    simp only [Instr.next, getObj, setObj, Sem.run_bind, Sem.run, hh, Result.andThen, hp, if_true]
    simp [goInt, Sem.run, hh]
  unfold Oper.wp
  rw [hrun]
  have := hs.set (w' := { w with heap := w.heap.setIfInBounds (loc id).1 (.stringIter b (p + (Utf8.decode b p).2)) }) (ob := .siter b p) (ob' := .siter b (dcn b p)) ho rfl .siter hc rfl rfl rfl (by simp) (fun k _ hk => by simp [Array.getElem?_setIfInBounds_ne (Ne.symm hk)]) (fun M' o' hk ht => ⟨hc, by simp [Array.getElem?_setIfInBounds, hlt, dcn]⟩)
  refine hK _ _ _ (this.put hd ?_)
  rw [AV.rel]
  refine ⟨_, rfl, ?_⟩
  rw [AV.rels]
  refine ⟨_, _, rfl, rel_bool, ?_⟩
  rw [AV.rels]
  refine ⟨_, _, rfl, rel_int, ?_⟩
  rw [AV.rels]
  exact ⟨_, _, rfl, rel_int, by rw [AV.rels]⟩
theorem Ev.e_nextF {id : Nat} {b : ByteArray} {p : Nat} (hp : decide (p < b.size) = false) (hx : V s o n x = .it id) (ho : lookO o id = some (.siter b p)) (hd : Nat.blt d n = true) :
    Ev P ⟨some d, .next x true, ty, pos, after, gd⟩ s o n (.tup [.v .bool false]) o := Ev.pure hd (fun N w0 loc a w hs => by
  have hX := it_at ho (hs.look (by simp [Op.operands]) hx)
  obtain ⟨hc, hh⟩ := hs.rep.obs id _ ho
  have hp := of_decide_eq_false hp
  refine ⟨.tuple #[.bool false], ?_, ?_⟩
  · show (Bind.bind (Instr.next (a.eval x) true ty) fun v => Pure.pure (Next.value v) : Sem Next).run P w = _
    rw [hX]
    refine run_v ?_
    simp [Instr.next, getObj, Sem.run, hh, hp]
  · rw [AV.rel]
    refine ⟨_, rfl, ?_⟩
    rw [AV.rels]
    exact ⟨_, _, rfl, rel_bool, by rw [AV.rels]⟩)

/-! ### Conversions -/
theorem Ev.e_b2s (X : Cx P) {xs : List Int} {e : TypeId} (hx : V s o n x = .v (.sl (.int .u8)) xs) (ht : X.ty t = some (.sl (.int .u8))) (ht' : X.ty t' = some .str) (hd : Nat.blt d n = true) : Ev P ⟨some d, .convert t t' x, ty, pos, after, gd⟩ s o n (.v .str (tx xs)) o :=
  Ev.pure hd (fun N w0 loc a w hs => by
    have hX : Ty.rel w (Muts N loc o) (.sl (.int .u8)) xs _ := rel_v (t := .sl (.int .u8)) ▸ hs.look (by simp [Op.operands]) hx
    obtain ⟨cs, ⟨A, cap, he, hc1, hc2, hc3⟩, hE⟩ := hX
    subst he
    have hE : a.eval x = .slice A xs.length cap := hE
    obtain ⟨e, hu, hi⟩ := (X.ok _ _ ht).desc
    have hue : P.underlying e = some (.int .u8) := hi.desc
    have hu' : P.underlying t' = some .string := (X.ok _ _ ht').desc
    refine ⟨.string (tx xs), ?_, rel_str⟩
    have hrun : (convert t t' (.slice A xs.length cap)).run P w = .ok (.string (tx xs)) w := by
      rw [run_convert_bytes_string w t t' e A xs.length cap hu hue hu']
      cases A with
      | none =>
        have : xs = [] := by
          by_cases hp : 0 < List.length (α := Int) xs
          · obtain ⟨ad, h, _⟩ := hc3 hp; cases h
          · exact List.eq_nil_of_length_eq_zero (by omega)
        subst this
        rfl
      | some ad =>
        have hl : (loadCells ad xs.length).run P w = .ok (xs.map (Value.int .u8)).toArray w := by
          have := run_loadCells (P := P) (w := w) ad xs.length 0 #[] (xs.map (Value.int .u8)) (by simp) (fun j v hj => by
            have hjl : j < xs.length := by
              rcases Nat.lt_or_ge j xs.length with h | h
              · exact h
              · simp [List.getElem?_eq_none (show (xs.map (Value.int .u8)).length ≤ j by simpa using h)] at hj
            obtain ⟨ad', h1, _, h2⟩ := hc3 (show 0 < List.length (α := Int) xs by omega)
            cases h1
            obtain ⟨ds, g1, g2⟩ := h2 j xs[j] (at?_lt hjl)
            cases g1
            have := g2 0 _ rfl
            rw [List.getElem?_map, List.getElem?_eq_getElem hjl] at hj
            cases hj
            rw [Nat.zero_add]
            simpa [Ty.sz] using this)
          simpa [loadCells] using this
        rw [run_bytesToString w ad xs.length cap xs hl, foldl_push_bytes]
        simp [tx]
    simp [execOp, hE, hrun])
/-! ### Fields of elements of one's own rows -/
end
end Go.Proofs.YtboghejfmmigkaaDoor.AE
/- A checked evaluator: the rest of the rules that the printed proofs use. -/
namespace Go.Proofs.YtboghejfmmigkaaDoor.AE
open Go Go.RowKit Go.Proofs.YtboghejfmmigkaaDoor.AP
set_option linter.unusedSimpArgs false
set_option linter.unusedVariables false
/-! ### What is left out -/
mutual
def AV.cl (o : Objs) : AV → Prop
  | .own i => ∃ ob, lookO o i = some ob
  | .box i _ => ∃ ob, lookO o i = some ob
  | .oel i _ _ => ∃ ob, lookO o i = some ob
  | .osl i _ => ∃ ob, lookO o i = some ob
  | .mp i => ∃ ob, lookO o i = some ob
  | .it i => ∃ ob, lookO o i = some ob
  | .tup l => AV.cls o l
  | .st l => AV.cls o l
  | .fn _ l => AV.cls o l
  | .bot => True
  | .v _ _ => True
  | .nil => True
  | .ptr _ _ => True
  | .nilp => True
  | .anyp => True
  | .owz i => ∃ ob, lookO o i = some ob
  | .pn _ i _ _ => ∃ ob, lookO o i = some ob
def AV.cls (o : Objs) : List AV → Prop
  | [] => True
  | A :: l => AV.cl o A ∧ AV.cls o l
end
section
variable {w : World} {M M' : Nat → Prop} {loc : Nat → Nat × Nat} {o o' : Objs}
mutual
theorem cl_of : ∀ (A : AV) (u : Value), AV.rel w M loc o A u → A.cl o
  | .own i, u, h => by rw [AV.rel] at h; rw [AV.cl]; exact ⟨_, h.choose_spec.1⟩
  | .box i _, u, h => by rw [AV.rel] at h; rw [AV.cl]; exact ⟨_, h.choose_spec.1⟩
  | .oel i _ _, u, h => by rw [AV.rel] at h; rw [AV.cl]; exact ⟨_, h.choose_spec.1⟩
  | .osl i _, u, h => by rw [AV.rel] at h; rw [AV.cl]; exact ⟨_, h.choose_spec.1⟩
  | .mp i, u, h => by rw [AV.rel] at h; rw [AV.cl]; exact ⟨_, h.choose_spec.1⟩
  | .it i, u, h => by rw [AV.rel] at h; rw [AV.cl]; exact ⟨_, h.choose_spec.1⟩
  | .tup l, u, h => by rw [AV.rel] at h; rw [AV.cl]; obtain ⟨us, _, h⟩ := h; exact cls_of l us h
  | .st l, u, h => by rw [AV.rel] at h; rw [AV.cl]; obtain ⟨us, _, h⟩ := h; exact cls_of l us h
  | .fn _ l, u, h => by rw [AV.rel] at h; rw [AV.cl]; obtain ⟨us, _, h⟩ := h; exact cls_of l us h
  | .bot, _, _ => by rw [AV.cl]; trivial
  | .v _ _, _, _ => by rw [AV.cl]; trivial
  | .nil, _, _ => by rw [AV.cl]; trivial
  | .ptr _ _, _, _ => by rw [AV.cl]; trivial
  | .nilp, _, _ => by rw [AV.cl]; trivial
  | .anyp, _, _ => by rw [AV.cl]; trivial
  | .owz i, u, h => by rw [AV.rel] at h; rw [AV.cl]; exact ⟨_, h.choose_spec.1⟩
  | .pn _ i _ _, u, h => by rw [AV.rel] at h; rw [AV.cl]; exact ⟨_, h.choose_spec.1⟩
theorem cls_of : ∀ (l : List AV) (us : List Value), AV.rels w M loc o l us → AV.cls o l
  | [], _, _ => by rw [AV.cls]; trivial
  | A :: l, us, h => by
    rw [AV.rels] at h
    rw [AV.cls]
    obtain ⟨u, us', _, h2, h3⟩ := h
    exact ⟨cl_of A u h2, cls_of l us' h3⟩
end
mutual
theorem cl_dom (hd : ∀ i ob, lookO o i = some ob → ∃ ob', lookO o' i = some ob') : ∀ A : AV, A.cl o → A.cl o'
  | .own i, h => by rw [AV.cl] at h ⊢; obtain ⟨ob, h⟩ := h; exact hd i ob h
  | .box i _, h => by rw [AV.cl] at h ⊢; obtain ⟨ob, h⟩ := h; exact hd i ob h
  | .oel i _ _, h => by rw [AV.cl] at h ⊢; obtain ⟨ob, h⟩ := h; exact hd i ob h
  | .osl i _, h => by rw [AV.cl] at h ⊢; obtain ⟨ob, h⟩ := h; exact hd i ob h
  | .mp i, h => by rw [AV.cl] at h ⊢; obtain ⟨ob, h⟩ := h; exact hd i ob h
  | .it i, h => by rw [AV.cl] at h ⊢; obtain ⟨ob, h⟩ := h; exact hd i ob h
  | .tup l, h => by rw [AV.cl] at h ⊢; exact cls_dom hd l h
  | .st l, h => by rw [AV.cl] at h ⊢; exact cls_dom hd l h
  | .fn _ l, h => by rw [AV.cl] at h ⊢; exact cls_dom hd l h
  | .bot, _ => by rw [AV.cl]; trivial
  | .v _ _, _ => by rw [AV.cl]; trivial
  | .nil, _ => by rw [AV.cl]; trivial
  | .ptr _ _, _ => by rw [AV.cl]; trivial
  | .nilp, _ => by rw [AV.cl]; trivial
  | .anyp, _ => by rw [AV.cl]; trivial
  | .owz i, h => by rw [AV.cl] at h ⊢; obtain ⟨ob, h⟩ := h; exact hd i ob h
  | .pn _ i _ _, h => by rw [AV.cl] at h ⊢; obtain ⟨ob, h⟩ := h; exact hd i ob h
theorem cls_dom (hd : ∀ i ob, lookO o i = some ob → ∃ ob', lookO o' i = some ob') : ∀ l : List AV, AV.cls o l → AV.cls o' l
  | [], _ => by rw [AV.cls]; trivial
  | A :: l, h => by rw [AV.cls] at h ⊢; exact ⟨cl_dom hd A h.1, cls_dom hd l h.2⟩
end
mutual
/-- What is named stays, if less lies around. -/
theorem less_rel (hl : ∀ i ob, lookO o i = some ob → lookO o' i = some ob) (hM : ∀ k, M' k → M k) : ∀ (A : AV) (u : Value), A.cl o → AV.rel w M loc o' A u → AV.rel w M' loc o A u
  | .own i, u, hc, h => by
    rw [AV.rel] at h ⊢; rw [AV.cl] at hc
    obtain ⟨ob, h1⟩ := hc; obtain ⟨ob', h2, h3⟩ := h
    rw [hl i ob h1] at h2; cases h2; exact ⟨_, h1, h3⟩
  | .box i _, u, hc, h => by
    rw [AV.rel] at h ⊢; rw [AV.cl] at hc
    obtain ⟨ob, h1⟩ := hc; obtain ⟨ob', h2, h3⟩ := h
    rw [hl i ob h1] at h2; cases h2; exact ⟨_, h1, h3⟩
  | .oel i _ _, u, hc, h => by
    rw [AV.rel] at h ⊢; rw [AV.cl] at hc
    obtain ⟨ob, h1⟩ := hc; obtain ⟨ob', h2, h3⟩ := h
    rw [hl i ob h1] at h2; cases h2; exact ⟨_, h1, h3⟩
  | .osl i _, u, hc, h => by
    rw [AV.rel] at h ⊢; rw [AV.cl] at hc
    obtain ⟨ob, h1⟩ := hc; obtain ⟨ob', h2, h3⟩ := h
    rw [hl i ob h1] at h2; cases h2; exact ⟨_, h1, h3⟩
  | .mp i, u, hc, h => by
    rw [AV.rel] at h ⊢; rw [AV.cl] at hc
    obtain ⟨ob, h1⟩ := hc; obtain ⟨ob', h2, h3⟩ := h
    rw [hl i ob h1] at h2; cases h2; exact ⟨_, h1, h3⟩
  | .it i, u, hc, h => by
    rw [AV.rel] at h ⊢; rw [AV.cl] at hc
    obtain ⟨ob, h1⟩ := hc; obtain ⟨ob', h2, h3⟩ := h
    rw [hl i ob h1] at h2; cases h2; exact ⟨_, h1, h3⟩
  | .tup l, u, hc, h => by
    rw [AV.rel] at h ⊢; rw [AV.cl] at hc
    obtain ⟨us, h1, h2⟩ := h; exact ⟨us, h1, less_rels hl hM l us hc h2⟩
  | .st l, u, hc, h => by
    rw [AV.rel] at h ⊢; rw [AV.cl] at hc
    obtain ⟨us, h1, h2⟩ := h; exact ⟨us, h1, less_rels hl hM l us hc h2⟩
  | .fn _ l, u, hc, h => by
    rw [AV.rel] at h ⊢; rw [AV.cl] at hc
    obtain ⟨us, h1, h2⟩ := h; exact ⟨us, h1, less_rels hl hM l us hc h2⟩
  | .bot, _, _, _ => by rw [AV.rel]; trivial
  | .v _ _, u, _, h => by rw [AV.rel] at h ⊢; exact Ty.rel_keeps (keeps_less hM) h
  | .nil, u, _, h => by rw [AV.rel] at h ⊢; exact h
  | .ptr t x, u, _, h => by
    have := AV.rel_keeps (o := []) (o' := []) (loc := loc) (loc' := loc) (keeps_less hM) (fun _ _ h => by cases h) (.ptr t x) u (by rw [AV.rel] at h ⊢; exact h)
    rw [AV.rel] at this ⊢; exact this
  | .nilp, u, _, h => by rw [AV.rel] at h ⊢; exact h
  | .anyp, u, _, h => by rw [AV.rel] at h ⊢; exact h
  | .owz i, u, hc, h => by
    rw [AV.rel] at h ⊢; rw [AV.cl] at hc
    obtain ⟨ob, h1⟩ := hc; obtain ⟨ob', h2, h3⟩ := h
    rw [hl i ob h1] at h2; cases h2; exact ⟨_, h1, h3⟩
  | .pn _ i _ _, u, hc, h => by
    rw [AV.rel] at h ⊢; rw [AV.cl] at hc
    obtain ⟨ob, h1⟩ := hc; obtain ⟨ob', h2, h3⟩ := h
    rw [hl i ob h1] at h2; cases h2; exact ⟨_, h1, h3⟩
theorem less_rels (hl : ∀ i ob, lookO o i = some ob → lookO o' i = some ob) (hM : ∀ k, M' k → M k) : ∀ (l : List AV) (us : List Value), AV.cls o l → AV.rels w M loc o' l us → AV.rels w M' loc o l us
  | [], us, _, h => by rw [AV.rels] at h ⊢; exact h
  | A :: l, us, hc, h => by
    rw [AV.rels] at h ⊢
    rw [AV.cls] at hc
    obtain ⟨u, us', h1, h2, h3⟩ := h
    exact ⟨u, us', h1, less_rel hl hM A u hc.1 h2, less_rels hl hM l us' hc.2 h3⟩
end
end
section
variable {P : Program} {s : List (Nat × AV)} {o o' : Objs} {n d : Nat} {op : Op} {ty : TypeId} {pos : String} {after : Array Edge} {gd : Option (Nat × Bool)}
end
section
variable {P : Program} {s : List (Nat × AV)} {o o' : Objs} {n d : Nat} {ty : TypeId} {pos : String} {after : Array Edge} {gd : Option (Nat × Bool)} {t t' : TypeId} {x y : Operand}
end
section
variable {s : List (Nat × AV)} {o : Objs} {n : Nat}
/-- The cells of a variable, told otherwise. -/
theorem Ghost.cells {id : Nat} {cells cells' : List AV} (ho : lookO o id = some (.box cells)) (h : ∀ w M loc us, AV.rels w M loc o cells us → AV.rels w M loc o cells' us) : Ghost ⟨s, o, n⟩ ⟨s, (id, .box cells') :: o, n⟩ := fun N w0 a w hN ⟨loc, hs⟩ => by
  obtain ⟨hc, cur, E, hcur, hrel⟩ := hs.rep.obs id _ ho
  refine ⟨loc, hs.set (w' := w) (ob := .box cells) (ob' := .box cells') ho rfl .box hc.1 rfl rfl rfl (Nat.le_refl _) (fun _ _ _ => rfl) (fun M' o' hk ht => ⟨hc, cur, E, hcur, AV.rels_turns hk ht _ _ (h _ _ _ _ hrel)⟩)⟩
end
end Go.Proofs.YtboghejfmmigkaaDoor.AE
/- A checked evaluator: what is not carried out; variables that do not change any more; maps. -/
namespace Go.Proofs.YtboghejfmmigkaaDoor.AE
open Go Go.RowKit Go.Proofs.YtboghejfmmigkaaDoor.AP
set_option linter.unusedSimpArgs false
set_option linter.unusedVariables false

theorem rel_und {w : World} {M : Nat → Prop} {loc : Nat → Nat × Nat} {o : Objs} : AV.rel w M loc o (.tup []) undef := by
  rw [AV.rel]
  exact ⟨[], rfl, by rw [AV.rels]⟩
theorem of_und {w : World} {M : Nat → Prop} {loc : Nat → Nat × Nat} {o : Objs} {u : Value} (h : AV.rel w M loc o (.tup []) u) : u = undef := by
  rw [AV.rel] at h
  obtain ⟨us, h1, h2⟩ := h
  rw [AV.rels] at h2
  subst h2
  exact h1
section
variable {P : Program} {all : Array Oper} {l : List Oper} {σ : St} {K : St → Prop} {s : List (Nat × AV)} {o o' : Objs} {n d : Nat} {op : Op} {ty : TypeId} {pos : String} {after : Array Edge} {A : AV} {ms : List Nat} {Φ : Objs → Prop}
theorem yields_none {dg g : Nat} {N : Nat → Prop} {w0 : Base} {w : World} {loc : Nat → Nat × Nat} {a : Act} {F : Nat → AV} (hs : SatF N w0 o n F loc a w) (hg : (all[g]?).bind (·.dst) = some dg) (hb : F dg = .tup []) : yielded all a.tmps g = none := by
  have hv := hs.slots dg
  rw [hb] at hv
  have hv := of_und hv
  unfold yielded
  rw [hg]
  by_cases hlt : dg < a.tmps.size
  · rw [Array.getD_eq_getD_getElem?, Array.getElem?_eq_getElem hlt] at hv
    have hv : a.tmps[dg] = undef := hv
    simp [hlt, hv, undef]
  · simp [hlt]
theorem Run.skipOp {want : Bool} {g : Nat} (hw : ∀ N w0 loc a w, SatF N w0 o n (look s) loc a w → Region.wanted ⟨some d, op, ty, pos, after, some (g, want)⟩ (yielded all a.tmps) = false) (hd : Nat.blt d n = true)
    (k : Run P all l ⟨(d, .tup []) :: s, o, n⟩ K) : Run P all (⟨some d, op, ty, pos, after, some (g, want)⟩ :: l) ⟨s, o, n⟩ K := Run.mk fun N w0 a w Q q hN hs hl hK => by
  obtain ⟨h1, h2⟩ := drop_head hl
  obtain ⟨loc, hs⟩ := hs
  rw [List.length_cons, List.range'_succ]
  unfold wpOps
  rw [h1]
  dsimp only
  rw [if_neg (by rw [hw _ _ _ _ _ hs]; simp)]
  exact k.out N w0 _ w Q (q + 1) hN ⟨loc, hs.put hd rel_und⟩ h2 hK
/-- One that is not wanted. -/
theorem Run.offT {g dg : Nat} {want b : Bool} (hg : (all[g]?).bind (·.dst) = some dg) (hb : look s dg = .v .bool b) (hdg : Nat.blt dg n = true) (hd : Nat.blt d n = true) (hw : b = !want)
    (k : Run P all l ⟨(d, .tup []) :: s, o, n⟩ K) : Run P all (⟨some d, op, ty, pos, after, some (g, want)⟩ :: l) ⟨s, o, n⟩ K :=
  Run.skipOp (fun N w0 loc a w hs => by
    have hy := yields_bool hs hg hb hdg
    subst hw
    cases want <;> simp [Region.wanted, hy]) hd k
/-- One that hangs on one that is not wanted. -/
theorem Run.un {g dg : Nat} {want : Bool} (hg : (all[g]?).bind (·.dst) = some dg) (hb : look s dg = .tup []) (hd : Nat.blt d n = true)
    (k : Run P all l ⟨(d, .tup []) :: s, o, n⟩ K) : Run P all (⟨some d, op, ty, pos, after, some (g, want)⟩ :: l) ⟨s, o, n⟩ K :=
  Run.skipOp (fun N w0 loc a w hs => by
    have hy := yields_none hs hg hb
    simp [Region.wanted, hy]) hd k
theorem Stp.offT {x : Oper} {q c : Nat} {d : Nat} (hx : all[q]? = some x) (hxd : x.dst = some d) (hd : Nat.blt d n = true) (hw : ∀ F N w0 ô loc a w, (∀ t, t ∈ x.looksAt all → F t = look s t) → SatF N w0 ô n F loc a w → Region.wanted x (yielded all a.tmps) = false) : Stp Φ P all n (look s) q c (.tup []) o o := fun F ô hφ hc hF N w0 loc a w hN hs Q K hK => by
  have hF' := fun t ht => hF x t hx ht
  have he : dstAt all q = some d := by unfold dstAt; rw [hx]; exact hxd
  rw [he] at hK
  unfold wpOp
  rw [hx]
  dsimp only
  rw [if_neg (by rw [hw F N w0 ô loc a w hF' hs]; simp), hxd]
  refine hK loc _ w ?_
  have : (if c = 0 then ô else o) = ô := by
    by_cases h : c = 0
    · rw [if_pos h]
    · rw [if_neg h]; exact (hc.resolve_left h).symm
  rw [this]
  exact hs.put hd rel_und
theorem RunD.offT {g dg : Nat} {want b : Bool} (hg : (all[g]?).bind (·.dst) = some dg) (hb : look s dg = .v .bool b) (hdg : Nat.blt dg n = true) (hd : Nat.blt d n = true) (hw : b = !want)
    (k : RunD Φ P all ms l ⟨(d, .tup []) :: s, o, n⟩ K) : RunD Φ P all ms (⟨some d, op, ty, pos, after, some (g, want)⟩ :: l) ⟨s, o, n⟩ K :=
  RunD.step (fun _ hq _ => ⟨Stp.offT hq rfl hd (fun F N w0 ô loc a w hF hs => by
      have hl : F dg = .v .bool b := by rw [hF dg (by simp [Oper.looksAt, hg]), hb]
      have hy := yields_bool hs hg hl hdg
      subst hw
      cases want <;> simp [Region.wanted, hy]), fun _ => rfl⟩) (fun h => h) rfl k
theorem RunD.un {g dg : Nat} {want : Bool} (hg : (all[g]?).bind (·.dst) = some dg) (hb : look s dg = .tup []) (hd : Nat.blt d n = true)
    (k : RunD Φ P all ms l ⟨(d, .tup []) :: s, o, n⟩ K) : RunD Φ P all ms (⟨some d, op, ty, pos, after, some (g, want)⟩ :: l) ⟨s, o, n⟩ K :=
  RunD.step (fun _ hq _ => ⟨Stp.offT hq rfl hd (fun F N w0 ô loc a w hF hs => by
      have hl : F dg = .tup [] := by rw [hF dg (by simp [Oper.looksAt, hg]), hb]
      have hy := yields_none hs hg hl
      simp [Region.wanted, hy]), fun _ => rfl⟩) (fun h => h) rfl k
end

/-! ### Variables that do not change any more -/
mutual
def frzA (id : Nat) (B : AV) : AV → AV
  | .box i j => match Nat.beq i id with | true => (match Nat.beq j 0 with | true => B | false => .bot) | false => .box i j
  | .tup l => .tup (frzAs id B l)
  | .st l => .st (frzAs id B l)
  | .fn f l => .fn f (frzAs id B l)
  | .own i => .own i
  | .bot => .bot
  | .v t x => .v t x
  | .nil => .nil
  | .ptr t x => .ptr t x
  | .oel i j k => .oel i j k
  | .osl i j => .osl i j
  | .mp i => .mp i
  | .it i => .it i
  | .nilp => .nilp
  | .anyp => .anyp
  | .owz i => .owz i
  | .pn c i j t => .pn c i j t
def frzAs (id : Nat) (B : AV) : List AV → List AV
  | [] => []
  | A :: l => frzA id B A :: frzAs id B l
end
def frzOb (id : Nat) (B : AV) : Ob → Ob
  | .box c => .box (frzAs id B c)
  | ob => ob
def frzS (id : Nat) (B : AV) : List (Nat × AV) → List (Nat × AV)
  | [] => []
  | (k, A) :: l => (k, frzA id B A) :: frzS id B l
def frzO (id : Nat) (B : AV) : Objs → Objs
  | [] => []
  | (k, ob) :: l => (k, frzOb id B ob) :: frzO id B l
theorem frzS_look (id : Nat) (B : AV) : ∀ (s : List (Nat × AV)) (t : Nat), look (frzS id B s) t = frzA id B (look s t)
  | [], _ => by show AV.bot = frzA id B .bot; rw [frzA]
  | (k, A) :: l, t => by
    show (match Nat.beq k t with | true => _ | false => _) = frzA id B (match Nat.beq k t with | true => _ | false => _)
    cases Nat.beq k t with
    | true => rfl
    | false => exact frzS_look id B l t
theorem frzO_look (id : Nat) (B : AV) : ∀ (o : Objs) (t : Nat), lookO (frzO id B o) t = (lookO o t).map (frzOb id B)
  | [], _ => rfl
  | (k, A) :: l, t => by
    show (match Nat.beq k t with | true => _ | false => _) = Option.map _ (match Nat.beq k t with | true => _ | false => _)
    cases Nat.beq k t with
    | true => rfl
    | false => exact frzO_look id B l t
section
variable {w : World} {M M' : Nat → Prop} {loc : Nat → Nat × Nat} {o o' : Objs} {id : Nat} {B : AV}
mutual
theorem frz_rel (hB : ∀ u, AV.rel w M loc o (.box id 0) u → AV.rel w M' loc o' B u) (hk : Keeps w w M M') (ht : Turns loc loc o o') : ∀ (A : AV) (u : Value), AV.rel w M loc o A u → AV.rel w M' loc o' (frzA id B A) u
  | .box i j, u, h => by
    rw [frzA]
    cases hb : Nat.beq i id with
    | true =>
      cases hj : Nat.beq j 0 with
      | true => rw [Nat.eq_of_beq_eq_true hb, Nat.eq_of_beq_eq_true hj] at h; exact hB u h
      | false => exact rel_bot
    | false => exact AV.rel_turns hk ht _ _ h
  | .tup l, u, h => by
    rw [frzA]
    rw [AV.rel] at h ⊢
    obtain ⟨us, h1, h2⟩ := h
    exact ⟨us, h1, frz_rels hB hk ht l us h2⟩
  | .st l, u, h => by
    rw [frzA]
    rw [AV.rel] at h ⊢
    obtain ⟨us, h1, h2⟩ := h
    exact ⟨us, h1, frz_rels hB hk ht l us h2⟩
  | .fn f l, u, h => by
    rw [frzA]
    rw [AV.rel] at h ⊢
    obtain ⟨us, h1, h2⟩ := h
    exact ⟨us, h1, frz_rels hB hk ht l us h2⟩
  | .own i, u, h => by rw [frzA]; exact AV.rel_turns hk ht _ _ h
  | .bot, u, h => by rw [frzA]; exact AV.rel_turns hk ht _ _ h
  | .v t x, u, h => by rw [frzA]; exact AV.rel_turns hk ht _ _ h
  | .nil, u, h => by rw [frzA]; exact AV.rel_turns hk ht _ _ h
  | .ptr t x, u, h => by rw [frzA]; exact AV.rel_turns hk ht _ _ h
  | .oel i j k, u, h => by rw [frzA]; exact AV.rel_turns hk ht _ _ h
  | .osl i j, u, h => by rw [frzA]; exact AV.rel_turns hk ht _ _ h
  | .mp i, u, h => by rw [frzA]; exact AV.rel_turns hk ht _ _ h
  | .it i, u, h => by rw [frzA]; exact AV.rel_turns hk ht _ _ h
  | .nilp, u, h => by rw [frzA]; exact AV.rel_turns hk ht _ _ h
  | .anyp, u, h => by rw [frzA]; exact AV.rel_turns hk ht _ _ h
  | .owz _, u, h => by rw [frzA]; exact AV.rel_turns hk ht _ _ h
  | .pn _ _ _ _, u, h => by rw [frzA]; exact AV.rel_turns hk ht _ _ h
theorem frz_rels (hB : ∀ u, AV.rel w M loc o (.box id 0) u → AV.rel w M' loc o' B u) (hk : Keeps w w M M') (ht : Turns loc loc o o') : ∀ (l : List AV) (us : List Value), AV.rels w M loc o l us → AV.rels w M' loc o' (frzAs id B l) us
  | [], us, h => by rw [frzAs]; rw [AV.rels] at h ⊢; exact h
  | A :: l, us, h => by
    rw [frzAs]
    rw [AV.rels] at h ⊢
    obtain ⟨u, us', h1, h2, h3⟩ := h
    exact ⟨u, us', h1, frz_rel hB hk ht A u h2, frz_rels hB hk ht l us' h3⟩
end
end
section
variable {s : List (Nat × AV)} {o : Objs} {n : Nat}
/-- A variable that will not change any more: what points to it points to a value. -/
theorem Ghost.freeze {id : Nat} {τ : Ty} {y : τ.den} {cells : List AV} (ho : lookO o id = some (.box cells)) (hy : gath τ cells = some y) : Ghost ⟨s, o, n⟩ ⟨frzS id (.ptr τ y) s, (id, .dead) :: frzO id (.ptr τ y) o, n⟩ := fun N w0 a w hN ⟨loc, hs⟩ => by
  have hlk : ∀ i, lookO ((id, Ob.dead) :: frzO id (.ptr τ y) o) i = if id = i then some .dead else (lookO o i).map (frzOb id (.ptr τ y)) := fun i => by rw [lookO_cons, frzO_look]
  have hlive : ∀ ob : Ob, (frzOb id (.ptr τ y) ob).live = ob.live := fun ob => by cases ob <;> rfl
  have hold : ∀ i ob1, Has loc ((id, .dead) :: frzO id (.ptr τ y) o) i ob1 → i ≠ id ∧ ∃ ob, Has loc o i ob ∧ ob1 = frzOb id (.ptr τ y) ob := by
    rintro i ob1 ⟨h1, h2, h3⟩
    rw [hlk] at h1
    by_cases hi : id = i
    · rw [if_pos hi] at h1; cases h1; cases h2
    · rw [if_neg hi] at h1
      cases hob : lookO o i with
      | none => rw [hob] at h1; cases h1
      | some ob =>
        rw [hob] at h1
        cases h1
        exact ⟨Ne.symm hi, ob, ⟨hob, by rw [← hlive ob]; exact h2, h3⟩, rfl⟩
  have ht : Turns loc loc o ((id, .dead) :: frzO id (.ptr τ y) o) := fun i ob1 h => by
    rw [hlk]
    by_cases hi : id = i
    · exact ⟨.dead, if_pos hi, .dead, fun _ => rfl⟩
    · refine ⟨frzOb id (.ptr τ y) ob1, by rw [if_neg hi, h]; rfl, ?_, fun _ => rfl⟩
      cases ob1 with
      | box c => exact .box
      | _ => exact .refl
  have hM : ∀ k, Muts N loc ((id, .dead) :: frzO id (.ptr τ y) o) k → Muts N loc o k := by
    rintro k (h | ⟨i, ob1, h, rfl⟩)
    · exact .inl h
    · obtain ⟨_, ob, h2, _⟩ := hold i ob1 h
      exact .inr ⟨i, ob, h2, rfl⟩
  have hk : Keeps w w (Muts N loc o) (Muts N loc ((id, .dead) :: frzO id (.ptr τ y) o)) := keeps_less hM
  obtain ⟨hc, cur, E, hcur, hrel⟩ := hs.rep.obs id _ ho
  have hcs := Ty.relc_keeps hk τ y _ (gath_rel τ cells y _ hy hrel)
  have hB : ∀ u, AV.rel w (Muts N loc o) loc o (.box id 0) u → AV.rel w (Muts N loc ((id, .dead) :: frzO id (.ptr τ y) o)) loc ((id, .dead) :: frzO id (.ptr τ y) o) (.ptr τ y) u := fun u hr => by
    have hu := box_ptr ho hr
    rw [AV.rel]
    refine ⟨_, hu, fun hm => ?_, _, hcs, fun j z hj => ?_⟩
    · rcases hm with h | ⟨i, ob1, h, he⟩
      · exact hs.rep.new id _ ⟨ho, rfl, hc.1⟩ (hN _ h)
      · obtain ⟨hi, ob, h2, _⟩ := hold i ob1 h
        exact hi (hs.rep.inj i id ob _ h2 ⟨ho, rfl, hc.1⟩ he)
    · rw [add_lit]
      simp only [World.cell?, hcur]
      simpa using hj
  refine ⟨loc, ⟨fun i ob1 h => ?_, fun i i' ob1 ob2 h1 h2 he => ?_, fun i ob1 h => ?_⟩, hs.below, hs.defers, hs.size, fun t => ?_⟩
  · obtain ⟨_, ob, h2, _⟩ := hold i ob1 h; exact hs.rep.new i ob h2
  · obtain ⟨_, ob, g2, _⟩ := hold i ob1 h1
    obtain ⟨_, ob', g3, _⟩ := hold i' ob2 h2
    exact hs.rep.inj i i' ob ob' g2 g3 he
  · rw [hlk] at h
    by_cases hi : id = i
    · rw [if_pos hi] at h; cases h; trivial
    · rw [if_neg hi] at h
      cases hob : lookO o i with
      | none => rw [hob] at h; cases h
      | some ob =>
        rw [hob] at h
        cases h
        have h5 := hs.rep.obs i ob hob
        cases ob with
        | box c =>
          obtain ⟨hp, cur, E', h6, h7⟩ := h5
          exact ⟨hp, cur, E', h6, frz_rels hB hk ht c _ h7⟩
        | arr E' t' l' => exact Ob.rel_turns hk ht _ (fun _ _ => rfl) h5
        | map kt vt l' => exact Ob.rel_turns hk ht _ (fun _ _ => rfl) h5
        | siter b p => exact Ob.rel_turns hk ht _ (fun _ _ => rfl) h5
        | place i b c => exact Ob.rel_turns hk ht (.place i b c) (fun _ _ => rfl) h5
        | dead => trivial
  · show AV.rel _ _ _ _ (look (frzS id _ s) t) _
    rw [frzS_look]
    exact frz_rel hB hk ht _ _ (hs.slots t)
end
end Go.Proofs.YtboghejfmmigkaaDoor.AE
/- A checked evaluator: maps. -/
namespace Go.Proofs.YtboghejfmmigkaaDoor.AE
open Go Go.RowKit Go.Proofs.YtboghejfmmigkaaDoor.AP
set_option linter.unusedSimpArgs false
set_option linter.unusedVariables false

section
variable {P : Program} {w : World} {M : Nat → Prop}
/-- What is asked of a map's type. -/
structure MT (P : Program) (t : TypeId) (kt vt : Ty) : Prop where
  ex : ∃ k e m, P.underlying t = some (.map k e) ∧ m ≤ 10000 ∧ chk P m kt k = true ∧ eqOk P m kt k = true ∧ Is P vt e
def chkMT (P : Program) (t : TypeId) (kt vt : Ty) : Bool := match P.underlying t with
  | some (.map k e) => chk P 12 kt k && eqOk P 12 kt k && chk P 12 vt e
  | _ => false
theorem MT.of {t : TypeId} {kt vt : Ty} (h : chkMT P t kt vt = true) : MT P t kt vt := by
  unfold chkMT at h
  split at h
  · rename_i k e hu
    simp only [Bool.and_eq_true] at h
    exact ⟨k, e, 12, hu, by omega, h.1.1, h.1.2, 12, h.2⟩
  · cases h
/-- Where a key is. -/
def mfind {kt vt : Ty} (k : kt.den) : List (kt.den × vt.den) → List MapEntry → Nat → Option (Nat × Value)
  | p :: l, e :: es, i => match eqT kt k p.1 with | true => some (i, e.val) | false => mfind k l es (i + 1)
  | _, _, _ => none
end
section
variable {P : Program} {s : List (Nat × AV)} {o o' : Objs} {n d : Nat} {ty : TypeId} {pos : String} {after : Array Edge} {gd : Option (Nat × Bool)} {t t' : TypeId} {x y z : Operand}
end
end Go.Proofs.YtboghejfmmigkaaDoor.AE
/- A checked evaluator: regions whose order is drawn, each operation with what it looks at and what it changes. -/
namespace Go.Proofs.YtboghejfmmigkaaDoor.AE
open Go Go.RowKit
set_option linter.unusedSimpArgs false
set_option linter.unusedVariables false
/-- What each operation looks at, and what it changes. -/
abbrev DrawD := List (List Nat × List Nat)
def rdOf (D : DrawD) (i : Nat) : List Nat := (D.getD i ([], [])).1
def wrO (D : DrawD) (i : Nat) : List Nat := (D.getD i ([], [])).2
def disj (a b : List Nat) : Bool := a.all fun x => !b.contains x
def okPair2 (all : Array Oper) (D : DrawD) (M : List Nat) (i j : Nat) : Bool :=
  match all[i]?, all[j]? with
  | some x, some y => (match x.dst with | none => true | some d => y.dst != some d) &&
      ((edge y i || tb M j i) || (x.apart all y && (disj (wrO D i) (rdOf D j ++ wrO D j) && disj (wrO D j) (rdOf D i))))
  | _, _ => true
def okDraw2 (all : Array Oper) (D : DrawD) (M : List Nat) : Bool := (List.range all.size).all (fun j => okBack all j && (List.range j).all fun i => okPair2 all D M i j) && okMask all M
def Agree (R : List Nat) (o ô : Objs) : Prop := ∀ z, R.contains z = true → lookO ô z = lookO o z
def Stp2 (P : Program) (all : Array Oper) (n : Nat) (S : Nat → AV) (i : Nat) (R : List Nat) (W : Objs) (A : AV) (o : Objs) : Prop :=
  ∀ F ô, Agree R o ô → (∀ x t, all[i]? = some x → t ∈ x.looksAt all → F t = S t) → ∀ N w0 loc a w, (∀ k, N k → w0.old k) → SatF N w0 ô n F loc a w →
    ∀ (Q : Exit → Act → World → Prop) (K : Act → World → Prop), (∀ loc' a' w', SatF N w0 (W ++ ô) n (upd F (dstAt all i) A) loc' a' w' → K a' w') → wpOp P all Q i K a w
section
variable {P : Program} {all : Array Oper} {D : DrawD} {M : List Nat} {n : Nat}
theorem lookO_app (W o : Objs) (z : Nat) : lookO (W ++ o) z = match lookO W z with | some b => some b | none => lookO o z := by
  induction W with
  | nil => rfl
  | cons p W ih =>
    obtain ⟨k, b⟩ := p
    show (match Nat.beq k z with | true => some b | false => lookO (W ++ o) z) = (match (match Nat.beq k z with | true => some b | false => lookO W z) with | some b => some b | none => lookO o z)
    cases Nat.beq k z with
    | true => rfl
    | false => exact ih
theorem lookO_none {W : Objs} {z : Nat} (h : z ∉ W.map (·.1)) : lookO W z = none := by
  induction W with
  | nil => rfl
  | cons p W ih =>
    obtain ⟨k, b⟩ := p
    rw [List.map_cons, List.mem_cons, not_or] at h
    show (match Nat.beq k z with | true => some b | false => lookO W z) = none
    cases hb : Nat.beq k z with
    | true => exact absurd (Nat.eq_of_beq_eq_true hb).symm h.1
    | false => exact ih h.2
theorem lookO_some {W : Objs} {z : Nat} (h : z ∈ W.map (·.1)) : ∃ b, lookO W z = some b := by
  induction W with
  | nil => cases h
  | cons p W ih =>
    obtain ⟨k, b⟩ := p
    show ∃ c, (match Nat.beq k z with | true => some b | false => lookO W z) = some c
    cases hb : Nat.beq k z with
    | true => exact ⟨b, rfl⟩
    | false =>
      rw [List.map_cons, List.mem_cons] at h
      exact ih (h.resolve_left fun e => absurd e.symm (Nat.ne_of_beq_eq_false hb))
theorem disj_spec {a b : List Nat} (h : disj a b = true) {x : Nat} (ha : x ∈ a) (hb : x ∈ b) : False := by
  have := List.all_eq_true.1 h x ha
  simp [hb] at this
theorem okDraw2_pair (h : okDraw2 all D M = true) {i j : Nat} (hij : i < j) (hj : j < all.size) : okPair2 all D M i j = true := by
  unfold okDraw2 at h
  rw [Bool.and_eq_true] at h
  have := List.all_eq_true.1 h.1 j (List.mem_range.2 hj)
  rw [Bool.and_eq_true] at this
  exact List.all_eq_true.1 this.2 i (List.mem_range.2 hij)
theorem okDraw2_back (h : okDraw2 all D M = true) {j : Nat} {x : Oper} (hx : all[j]? = some x) {e : Edge} (he : e ∈ x.after) (hb : Region.binds .any e = true) : e.on < j := by
  have hj := (Array.getElem?_eq_some_iff.1 hx).1
  unfold okDraw2 at h
  rw [Bool.and_eq_true] at h
  have := List.all_eq_true.1 h.1 j (List.mem_range.2 hj)
  rw [Bool.and_eq_true] at this
  have h1 := this.1
  unfold okBack at h1
  rw [hx] at h1
  have h2 := (Array.all_eq_true_iff_forall_mem.1 h1) e he
  rw [hb] at h2
  simpa using h2
theorem dst_inj2 (h : okDraw2 all D M = true) {i j t : Nat} (hi : dstAt all i = some t) (hj : dstAt all j = some t) : i = j := by
  have key : ∀ i j, i < j → dstAt all i = some t → dstAt all j = some t → False := by
    intro i j hij hi hj
    unfold dstAt at hi hj
    cases hx : all[i]? with
    | none => rw [hx] at hi; cases hi
    | some x =>
      cases hy : all[j]? with
      | none => rw [hy] at hj; cases hj
      | some y =>
        have hp := okDraw2_pair h hij (Array.getElem?_eq_some_iff.1 hy).1
        unfold okPair2 at hp
        rw [hx, hy] at hp
        rw [hx] at hi
        rw [hy] at hj
        have hi : x.dst = some t := hi
        have hj : y.dst = some t := hj
        dsimp only at hp
        rw [hi, hj] at hp
        simp at hp
  rcases Nat.lt_trichotomy i j with h1 | h1 | h1
  · exact (key i j h1 hi hj).elim
  · exact h1
  · exact (key j i h1 hj hi).elim
theorem wr_of2 (h : okDraw2 all D M = true) {i t : Nat} (hi : dstAt all i = some t) : wr all t = some i := by
  unfold wr
  have hlt : i < all.size := by
    unfold dstAt at hi
    cases hx : all[i]? with
    | none => rw [hx] at hi; cases hi
    | some x => exact (Array.getElem?_eq_some_iff.1 hx).1
  cases hf : (List.range all.size).find? (fun i => dstAt all i == some t) with
  | none =>
    have := List.find?_eq_none.1 hf i (List.mem_range.2 hlt)
    simp [hi] at this
  | some j =>
    have := List.find?_some hf
    have hj : dstAt all j = some t := by simpa using this
    rw [dst_inj2 h hi hj]
theorem mask_sound2 (hok : okDraw2 all D M = true) {L : Array Bool} (hcl : ∀ (j : Nat) x, all[j]? = some x → L.getD j false = true → ∀ e ∈ x.after, Region.binds .any e = true → L.getD e.on false = true) : ∀ (j : Nat) (x : Oper) (i : Nat), all[j]? = some x → (∀ e ∈ x.after, Region.binds .any e = true → L.getD e.on false = true) → tb M j i = true → L.getD i false = true := by
  have hmask : ∀ j, j < all.size → (M.getD j 0) ||| umask all M j = umask all M j := by
    intro j hj
    have h := hok
    unfold okDraw2 at h
    rw [Bool.and_eq_true] at h
    have h2 := h.2
    unfold okMask at h2
    exact Nat.eq_of_beq_eq_true (List.all_eq_true.1 h2 j (List.mem_range.2 hj))
  intro j
  induction j using Nat.strongRecOn with
  | _ j ih =>
    intro x i hx hall hb
    have hj := (Array.getElem?_eq_some_iff.1 hx).1
    obtain ⟨e, he, hbd, h⟩ := umask_bit all M hx (or_bit (hmask j hj) hb)
    have he1 := hall e he hbd
    rcases h with rfl | h
    · exact he1
    · have hlt := okDraw2_back hok hx he hbd
      have hlt2 : e.on < all.size := by omega
      exact ih e.on hlt all[e.on] i (Array.getElem?_eq_getElem hlt2) (fun e' he' hb' => hcl e.on _ (Array.getElem?_eq_getElem hlt2) he1 e' he' hb') h
theorem draw_all2 (hok : okDraw2 all D M = true) {Av : Nat → AV} {Ob : Nat → Objs} {Ws : Nat → Objs} {Sl : Nat → Nat → AV} {N : Nat → Prop} {w0 : Base} (hN : ∀ k, N k → w0.old k) {Q : Exit → Act → World → Prop}
    (hst : ∀ i, i < all.size → Sl (i + 1) = upd (Sl i) (dstAt all i) (Av i) ∧ Stp2 P all n (Sl i) i (rdOf D i) (Ws i) (Av i) (Ob i) ∧ Ob (i + 1) = Ws i ++ Ob i ∧ (Ws i).map (·.1) = wrO D i)
    (hQ : ∀ loc a w, SatF N w0 (Ob all.size) n (Sl all.size) loc a w → Q .normal a w) :
    ∀ (fuel : Nat) (L : Array Bool) (a : Act) (w : World) (loc : Nat → Nat × Nat) (ô : Objs), L.size = all.size → (∀ (j : Nat) x, all[j]? = some x → L.getD j false = true → ∀ e ∈ x.after, Region.binds .any e = true → L.getD e.on false = true) →
      cnt all L = fuel → (∀ z k, k ≤ all.size → (∀ j, j < all.size → z ∈ wrO D j → (L.getD j false = true ↔ j < k)) → lookO ô z = lookO (Ob k) z) → SatF N w0 ô n (FL all Av (Sl 0) L) loc a w → wpAny P .any all Q fuel L a w := by
  have hSl : ∀ k, k ≤ all.size → ∀ t, Sl k t = match wr all t with | some i => if i < k then Av i else Sl 0 t | none => Sl 0 t := by
    intro k
    induction k with
    | zero => intro _ t; cases wr all t <;> simp
    | succ k ih =>
      intro hk t
      rw [(hst k (by omega)).1]
      unfold upd
      have ih := ih (by omega) t
      cases hd : dstAt all k with
      | none =>
        dsimp only
        rw [ih]
        cases hw : wr all t with
        | none => rfl
        | some i =>
          have hi := (of_wr hw).1
          have : i ≠ k := by rintro rfl; rw [hd] at hi; cases hi
          dsimp only
          by_cases h : i < k
          · rw [if_pos h, if_pos (by omega)]
          · rw [if_neg h, if_neg (by omega)]
      | some d =>
        dsimp only
        cases hb : Nat.beq d t with
        | true =>
          obtain rfl := Nat.eq_of_beq_eq_true hb
          rw [wr_of2 hok hd]
          dsimp only
          rw [if_pos (Nat.lt_succ_self k)]
        | false =>
          dsimp only
          rw [ih]
          cases hw : wr all t with
          | none => rfl
          | some i =>
            have hi := (of_wr hw).1
            have : i ≠ k := by rintro rfl; rw [hd] at hi; cases hi; exact absurd rfl (Nat.ne_of_beq_eq_false hb)
            dsimp only
            by_cases h : i < k
            · rw [if_pos h, if_pos (by omega)]
            · rw [if_neg h, if_neg (by omega)]
  have hOb : ∀ z m k, m ≤ k → k ≤ all.size → (∀ j, m ≤ j → j < k → z ∉ wrO D j) → lookO (Ob k) z = lookO (Ob m) z := by
    intro z m k hmk
    obtain ⟨q, rfl⟩ : ∃ q, k = m + q := ⟨k - m, by omega⟩
    clear hmk
    induction q with
    | zero => intro _ _; rfl
    | succ q ih =>
      intro hk hj
      have h1 := hst (m + q) (by omega)
      rw [← Nat.add_assoc, h1.2.2.1, lookO_app, lookO_none (by rw [h1.2.2.2]; exact hj (m + q) (by omega) (by omega))]
      exact ih (by omega) (fun j h1 h2 => hj j h1 (by omega))
  have getD_eq : ∀ (L : Array Bool) j, j < L.size → L.getD j true = L.getD j false := by
    intro L j hj
    simp [hj]
  have hready : ∀ (L : Array Bool), L.size = all.size → Region.ready .any all L = [] → ∀ i, i < all.size → L.getD i false = true := by
    intro L hL hr i
    induction i using Nat.strongRecOn with
    | _ i ih =>
      intro hi
      cases hc : L.getD i false with
      | true => rfl
      | false =>
        have : i ∈ Region.ready .any all L := mem_ready.2 ⟨by rw [getD_eq L i (by omega)]; exact hc, all[i], Array.getElem?_eq_getElem hi, fun e he hb => by
          have := okDraw2_back hok (Array.getElem?_eq_getElem hi) he hb
          exact ih _ this (by omega)⟩
        rw [hr] at this
        cases this
  have hdone : ∀ (L : Array Bool) a w loc ô, L.size = all.size → (∀ z k, k ≤ all.size → (∀ j, j < all.size → z ∈ wrO D j → (L.getD j false = true ↔ j < k)) → lookO ô z = lookO (Ob k) z) → Region.ready .any all L = [] → SatF N w0 ô n (FL all Av (Sl 0) L) loc a w → Q .normal a w := by
    intro L a w loc ô hL hM hr hs
    have hl := hready L hL hr
    have hs := hs.alike (o' := Ob all.size) (fun z => (hM z all.size (Nat.le_refl _) (fun j hj _ => ⟨fun _ => hj, fun _ => hl j hj⟩)).symm)
    have hF : FL all Av (Sl 0) L = Sl all.size := by
      funext t
      rw [hSl _ (Nat.le_refl _)]
      unfold FL
      cases hw : wr all t with
      | none => rfl
      | some i =>
        have := (of_wr hw).2
        dsimp only
        rw [if_pos (hl i this), if_pos this]
    rw [hF] at hs
    exact hQ loc a w hs
  intro fuel
  induction fuel with
  | zero =>
    intro L a w loc ô hL hcl hc hM hs
    have hr : Region.ready .any all L = [] := by
      refine List.eq_nil_iff_forall_not_mem.2 fun j hj => ?_
      obtain ⟨h1, x, hx, _⟩ := mem_ready.1 hj
      have := List.countP_eq_zero.1 hc j (List.mem_range.2 (Array.getElem?_eq_some_iff.1 hx).1)
      rw [h1] at this
      simp at this
    exact ⟨hr, hdone L a w loc ô hL hM hr hs⟩
  | succ fuel ih =>
    intro L a w loc ô hL hcl hc hM hs
    refine ⟨fun hr => hdone L a w loc ô hL hM hr hs, fun i hi => ?_⟩
    obtain ⟨h1, x, hx, hall⟩ := mem_ready.1 hi
    have hlt := (Array.getElem?_eq_some_iff.1 hx).1
    have hun : L.getD i false = false := by rw [← getD_eq L i (by omega)]; exact h1
    obtain ⟨g1, g2, g3, g4⟩ := hst i hlt
    -- earlier ones that matter are listed; later ones that matter are not
    have early : ∀ j, j < i → ∀ y, all[j]? = some y → (edge x j || tb M i j) = true → L.getD j false = true := by
      intro j _ y _ he
      rw [Bool.or_eq_true] at he
      rcases he with he | he
      · obtain ⟨e, he', hb, rfl⟩ := edge_spec he
        exact hall e he' hb
      · exact mask_sound2 hok hcl i x j hx hall he
    have late : ∀ j y, all[j]? = some y → (edge y i || tb M j i) = true → L.getD j false = false := by
      intro j y hy he
      cases hc : L.getD j false with
      | false => rfl
      | true =>
        rw [Bool.or_eq_true] at he
        rcases he with he | he
        · obtain ⟨e, he', hb, rfl⟩ := edge_spec he
          have := hcl j y hy hc e he' hb
          rw [hun] at this
          cases this
        · have := mask_sound2 hok hcl j y i hy (fun e he' hb => hcl j y hy hc e he' hb) he
          rw [hun] at this
          cases this
    have hmem : ∀ z, (z ∈ rdOf D i ∨ z ∈ wrO D i) → ∀ j, j < all.size → z ∈ wrO D j → (L.getD j false = true ↔ j < i) := by
      intro z hz j hj hzj
      rcases Nat.lt_trichotomy j i with h | h | h
      · have hp := okDraw2_pair hok h hlt
        unfold okPair2 at hp
        rw [Array.getElem?_eq_getElem hj, hx] at hp
        dsimp only at hp
        have he : (edge x j || tb M i j) = true := by
          rw [Bool.and_eq_true, Bool.or_eq_true] at hp
          rcases hp.2 with h | h
          · exact h
          · rw [Bool.and_eq_true, Bool.and_eq_true] at h
            exact (disj_spec h.2.1 hzj (by rw [List.mem_append]; exact hz)).elim
        exact ⟨fun _ => h, fun _ => early j h _ (Array.getElem?_eq_getElem hj) he⟩
      · subst h
        rw [hun]
        simp
      · have hp := okDraw2_pair hok h hj
        unfold okPair2 at hp
        rw [Array.getElem?_eq_getElem hj, hx] at hp
        dsimp only at hp
        have he : (edge all[j] i || tb M j i) = true := by
          rw [Bool.and_eq_true, Bool.or_eq_true] at hp
          rcases hp.2 with h | h
          · exact h
          · rw [Bool.and_eq_true, Bool.and_eq_true] at h
            rcases hz with hz | hz
            · exact (disj_spec h.2.2 hzj hz).elim
            · exact (disj_spec h.2.1 hz (by rw [List.mem_append]; exact .inr hzj)).elim
        rw [late j _ (Array.getElem?_eq_getElem hj) he]
        constructor
        · intro h; cases h
        · intro h'; omega
    have hlook : ∀ x' t, all[i]? = some x' → t ∈ x'.looksAt all → FL all Av (Sl 0) L t = Sl i t := by
      intro x' t hx' ht
      rw [hx] at hx'
      cases hx'
      rw [hSl i (by omega) t]
      unfold FL
      cases hw : wr all t with
      | none => rfl
      | some j =>
        obtain ⟨hdj, hj⟩ := of_wr hw
        have hdj' : (all[j]).dst = some t := by
          unfold dstAt at hdj
          rw [Array.getElem?_eq_getElem hj] at hdj
          exact hdj
        dsimp only
        rcases Nat.lt_trichotomy j i with h | h | h
        · rw [if_pos h]
          have hp := okDraw2_pair hok h hlt
          unfold okPair2 at hp
          rw [Array.getElem?_eq_getElem hj, hx] at hp
          dsimp only at hp
          rw [Bool.and_eq_true, Bool.or_eq_true] at hp
          rcases hp.2 with h2 | h2
          · rw [if_pos (early j h _ (Array.getElem?_eq_getElem hj) h2)]
          · rw [Bool.and_eq_true] at h2
            exact absurd ht ((Oper.apart_spec h2.1).1 t hdj')
        · subst h
          rw [hun]
          simp
        · rw [if_neg (by omega : ¬ j < i)]
          have hp := okDraw2_pair hok h hj
          unfold okPair2 at hp
          rw [Array.getElem?_eq_getElem hj, hx] at hp
          dsimp only at hp
          rw [Bool.and_eq_true, Bool.or_eq_true] at hp
          rcases hp.2 with h2 | h2
          · rw [late j _ (Array.getElem?_eq_getElem hj) h2]
            simp
          · rw [Bool.and_eq_true] at h2
            exact absurd ht ((Oper.apart_spec h2.1).2.2 t hdj')
    have hset : ∀ j, (L.setIfInBounds i true).getD j false = true ↔ (L.getD j false = true ∨ j = i) := by
      intro j
      by_cases hji : j = i
      · subst hji
        simp [hL, hlt]
      · rw [getD_set_ne false (Ne.symm hji)]
        simp [hji]
    have hFL : upd (FL all Av (Sl 0) L) (dstAt all i) (Av i) = FL all Av (Sl 0) (L.setIfInBounds i true) := by
      funext t
      unfold upd
      cases hd : dstAt all i with
      | none =>
        dsimp only
        unfold FL
        cases hw : wr all t with
        | none => rfl
        | some j =>
          have hj := (of_wr hw).1
          have : j ≠ i := by rintro rfl; rw [hd] at hj; cases hj
          dsimp only
          rw [getD_set_ne false (Ne.symm this)]
      | some d =>
        dsimp only
        cases hb : Nat.beq d t with
        | true =>
          obtain rfl := Nat.eq_of_beq_eq_true hb
          unfold FL
          rw [wr_of2 hok hd]
          dsimp only
          rw [if_pos ((hset i).2 (.inr rfl))]
        | false =>
          dsimp only
          unfold FL
          cases hw : wr all t with
          | none => rfl
          | some j =>
            have hj := (of_wr hw).1
            have : j ≠ i := by rintro rfl; rw [hd] at hj; cases hj; exact absurd rfl (Nat.ne_of_beq_eq_false hb)
            dsimp only
            rw [getD_set_ne false (Ne.symm this)]
    have hcl' : ∀ (j : Nat) x, all[j]? = some x → (L.setIfInBounds i true).getD j false = true → ∀ e ∈ x.after, Region.binds .any e = true → (L.setIfInBounds i true).getD e.on false = true := by
      intro j y hy hj e he hb
      rcases (hset j).1 hj with h | h
      · exact (hset _).2 (.inl (hcl j y hy h e he hb))
      · subst h
        rw [hx] at hy
        cases hy
        exact (hset _).2 (.inl (hall e he hb))
    have hcnt : cnt all (L.setIfInBounds i true) = fuel := by
      have := countP_less (p := fun i => !L.getD i true) (p' := fun j => !(L.setIfInBounds i true).getD j true) (List.range all.size) i List.nodup_range (List.mem_range.2 hlt) (by rw [h1]; rfl)
        (by simp [hL, hlt]) (fun j hj => by rw [getD_set_ne true (Ne.symm hj)])
      unfold cnt at hc ⊢
      omega
    refine g2 (FL all Av (Sl 0) L) ô (fun z hz => hM z i (by omega) (hmem z (.inl (by simpa using hz)))) hlook N w0 loc a w hN hs Q _ fun loc' a' w' hs' => ?_
    rw [hFL] at hs'
    refine ih _ a' w' loc' (Ws i ++ ô) (by simp [hL]) hcl' hcnt (fun z k hk hzk => ?_) hs'
    rw [lookO_app]
    by_cases hz : z ∈ wrO D i
    · -- it is told by this one
      have hik : i < k := (hzk i hlt hz).1 ((hset i).2 (.inr rfl))
      have hrest := hOb z (i + 1) k hik hk (fun j h1 h2 hzj => by
        have h3 := (hzk j (by omega) hzj).2 h2
        rcases (hset j).1 h3 with h4 | h4
        · have := (hmem z (.inr hz) j (by omega) hzj).1 h4; omega
        · omega)
      rw [hrest, g3, lookO_app]
      obtain ⟨b, hb⟩ := lookO_some (W := Ws i) (z := z) (by rw [g4]; exact hz)
      rw [hb]
    · rw [lookO_none (by rw [g4]; exact hz)]
      refine hM z k hk fun j hj hzj => ?_
      have hji : j ≠ i := by rintro rfl; exact hz hzj
      rw [← hzk j hj hzj, hset j]
      simp [hji]

/-- The rest of the operations, in the text's order. -/
structure RunE (P : Program) (all : Array Oper) (D : DrawD) (l : List Oper) (σ : St) (K : St → Prop) : Prop where
  mk ::
  out : ∀ q, all.toList.drop q = l → q ≤ all.size → ∃ s' o', K ⟨s', o', σ.n⟩ ∧ ∃ (Av : Nat → AV) (Ob : Nat → Objs) (Ws : Nat → Objs) (Sl : Nat → Nat → AV), Sl q = look σ.s ∧ Ob q = σ.o ∧
    (∀ i, q ≤ i → i < all.size → Sl (i + 1) = upd (Sl i) (dstAt all i) (Av i) ∧ Stp2 P all σ.n (Sl i) i (rdOf D i) (Ws i) (Av i) (Ob i) ∧ Ob (i + 1) = Ws i ++ Ob i ∧ (Ws i).map (·.1) = wrO D i) ∧
    Sl all.size = look s' ∧ Ob all.size = o'
theorem T.drawE (D : DrawD) (M : List Nat) {id : Nat} {σ : St} {C : Out → Prop} (hm : P.follows .mixedOrders = true) (hok : okDraw2 all D M = true) (h : RunE P all D all.toList σ (fun σ' => C (.normal σ'))) : T P (.region id all true) σ C := fun N w0 a w hN hs => by
  obtain ⟨loc, hs⟩ := hs
  obtain ⟨s', o', hk, Av, Ob, Ws, Sl, e1, e2, hst, e3, e4⟩ := h.out 0 rfl (Nat.zero_le _)
  refine wp_region_any hm ?_
  refine draw_all2 hok hN (fun i hi => hst i (Nat.zero_le _) hi) (fun loc a w hs => ?_) _ _ _ _ loc (Ob 0) (by simp) (fun j x _ hj => ?_) ?_ (fun z k hk hz => ?_) ?_
  · refine ⟨_, hk, loc, ?_⟩
    rw [e3, e4] at hs
    exact hs
  · exfalso
    by_cases h : j < all.size <;> simp [h] at hj
  · unfold cnt
    rw [List.countP_eq_length.2 (fun j hj => by have := List.mem_range.1 hj; simp [this])]
    simp
  · have : ∀ k, k ≤ all.size → (∀ j, j < all.size → z ∈ wrO D j → ¬ j < k) → lookO (Ob 0) z = lookO (Ob k) z := by
      intro k
      induction k with
      | zero => intro _ _; rfl
      | succ k ih =>
        intro hk hz
        have h1 := hst k (Nat.zero_le _) (by omega)
        rw [h1.2.2.1, lookO_app, lookO_none (W := Ws k) (by rw [h1.2.2.2]; intro hzk; exact hz k (by omega) hzk (by omega))]
        exact ih (by omega) (fun j hj hzj => by have := hz j hj hzj; omega)
    refine this k hk fun j hj hzj hjk => ?_
    have := (hz j hj hzj).2 hjk
    simp [hj] at this
  · rw [e2]
    have hF : FL all Av (Sl 0) (Array.replicate all.size false) = look σ.s := by
      rw [← e1]
      funext t
      unfold FL
      cases hw : wr all t with
      | none => rfl
      | some i =>
        have := (of_wr hw).2
        simp [this]
    rw [hF]
    exact hs.drawn
variable {l : List Oper} {K : St → Prop} {s : List (Nat × AV)} {o : Objs} {d : Nat} {op : Op} {ty : TypeId} {pos : String} {after : Array Edge} {gd : Option (Nat × Bool)} {A : AV}
theorem RunE.nil (h : K ⟨s, o, n⟩) : RunE P all D [] ⟨s, o, n⟩ K := RunE.mk fun q hl hq => by
  have : all.size ≤ q := by
    have := congrArg List.length hl
    simp at this
    omega
  obtain rfl : q = all.size := by omega
  exact ⟨s, o, h, fun _ => .bot, fun _ => o, fun _ => [], fun _ => look s, rfl, rfl, fun i h1 h2 => by omega, rfl, rfl⟩
theorem RunE.step {x : Oper} {s1 : List (Nat × AV)} (R : List Nat) (W : Objs) (hR : rdOf D (all.size - (l.length + 1)) = R) (hW : wrO D (all.size - (l.length + 1)) = W.map (·.1))
    (hst : ∀ q, all[q]? = some x → Stp2 P all n (look s) q R W A o) (hu : upd (look s) x.dst A = look s1) (k : RunE P all D l ⟨s1, W ++ o, n⟩ K) : RunE P all D (x :: l) ⟨s, o, n⟩ K := RunE.mk fun q hl hq => by
  obtain ⟨h1, h2⟩ := drop_head hl
  have hlt := (Array.getElem?_eq_some_iff.1 h1).1
  obtain ⟨s', o1, hk, Av, Ob, Ws, Sl, e1, e2, hs, e3, e4⟩ := k.out (q + 1) h2 hlt
  have hlen := congrArg List.length hl
  rw [List.length_drop, Array.length_toList, List.length_cons] at hlen
  have hq' : all.size - (l.length + 1) = q := by omega
  rw [hq'] at hR hW
  refine ⟨s', o1, hk, fun i => if i = q then A else Av i, fun i => if i = q then o else Ob i, fun i => if i = q then W else Ws i, fun i => if i = q then look s else Sl i, by simp, by simp, fun i hi1 hi2 => ?_, ?_, ?_⟩
  · by_cases h : i = q
    · subst h
      have e2 : Ob (i + 1) = W ++ o := e2
      have e1 : Sl (i + 1) = look s1 := e1
      refine ⟨?_, ?_, ?_, ?_⟩
      · (try dsimp only); rw [if_neg (by omega), if_pos rfl, if_pos rfl, e1, ← hu]
        unfold dstAt
        rw [h1]
        rfl
      · (try dsimp only); rw [if_pos rfl, if_pos rfl, if_pos rfl, if_pos rfl, hR]
        exact hst i h1
      · (try dsimp only); rw [if_neg (by omega), if_pos rfl, if_pos rfl, e2]
      · (try dsimp only); rw [if_pos rfl, hW]
    · obtain ⟨f1, f2, f3, f4⟩ := hs i (by omega) hi2
      refine ⟨?_, ?_, ?_, ?_⟩
      · (try dsimp only); rw [if_neg (by omega), if_neg h, if_neg h]; exact f1
      · (try dsimp only); rw [if_neg h, if_neg h, if_neg h, if_neg h]; exact f2
      · (try dsimp only); rw [if_neg (by omega), if_neg h, if_neg h]; exact f3
      · (try dsimp only); rw [if_neg h]; exact f4
  · (try dsimp only); rw [if_neg (by omega)]; exact e3
  · (try dsimp only); rw [if_neg (by omega)]; exact e4
/-- An operation that is carried out. -/
theorem Stp2.of {x : Oper} {q : Nat} {R : List Nat} {W : Objs} (hx : all[q]? = some x) (hw : ∀ F N w0 ô loc a w, (∀ t, t ∈ x.looksAt all → F t = look s t) → SatF N w0 ô n F loc a w → Region.wanted x (yielded all a.tmps) = true)
    (h : ∀ ô, Agree R o ô → Ev P x s ô n A (W ++ ô)) : Stp2 P all n (look s) q R W A o := fun F ô hc hF N w0 loc a w hN hs Q K hK => by
  have hF' := fun t ht => hF x t hx ht
  have hops : ∀ y ∈ x.op.operands, valF F y = V s ô n y := by
    intro y hy
    cases y with
    | tmp t => exact hF' t (List.mem_append_left _ (List.mem_filterMap.2 ⟨.tmp t, by simpa using hy, rfl⟩))
    | const c => rfl
    | func f => rfl
    | global g => rfl
  have hd : dstAt all q = x.dst := by unfold dstAt; rw [hx]; rfl
  rw [hd] at hK
  unfold wpOp
  rw [hx]
  dsimp only
  rw [if_pos (hw F N w0 ô loc a w hF' hs)]
  exact .inl ((h ô hc).out F hops N w0 loc a w hN hs Q K fun loc' a' w' hs' => hK loc' a' w' hs')
/-- One that is carried out whatever: it looks at R, and changes W. -/
theorem RunE.go (R : List Nat) (W : Objs) (h : ∀ ô, Agree R o ô → Ev P ⟨some d, op, ty, pos, after, none⟩ s ô n A (W ++ ô)) (hR : rdOf D (all.size - (l.length + 1)) = R) (hW : wrO D (all.size - (l.length + 1)) = W.map (·.1)) (k : RunE P all D l ⟨(d, A) :: s, W ++ o, n⟩ K) : RunE P all D (⟨some d, op, ty, pos, after, none⟩ :: l) ⟨s, o, n⟩ K :=
  RunE.step R W hR hW (fun q hq => Stp2.of hq (fun _ _ _ _ _ _ _ _ _ => rfl) h) rfl k
theorem RunE.do_ (R : List Nat) (W : Objs) (h : ∀ ô, Agree R o ô → Ev P ⟨none, op, ty, pos, after, none⟩ s ô n A (W ++ ô)) (hR : rdOf D (all.size - (l.length + 1)) = R) (hW : wrO D (all.size - (l.length + 1)) = W.map (·.1)) (k : RunE P all D l ⟨s, W ++ o, n⟩ K) : RunE P all D (⟨none, op, ty, pos, after, none⟩ :: l) ⟨s, o, n⟩ K :=
  RunE.step R W hR hW (fun q hq => Stp2.of hq (fun _ _ _ _ _ _ _ _ _ => rfl) h) rfl k
theorem RunE.go0 (R : List Nat) (h : ∀ ô, Agree R o ô → Ev P ⟨some d, op, ty, pos, after, none⟩ s ô n A ô) (hR : rdOf D (all.size - (l.length + 1)) = R) (hW : wrO D (all.size - (l.length + 1)) = []) (k : RunE P all D l ⟨(d, A) :: s, o, n⟩ K) : RunE P all D (⟨some d, op, ty, pos, after, none⟩ :: l) ⟨s, o, n⟩ K := RunE.go R [] h hR hW k
theorem RunE.go1 (R : List Nat) {i1 : Nat} {b1 : Ob} (h : ∀ ô, Agree R o ô → Ev P ⟨some d, op, ty, pos, after, none⟩ s ô n A ((i1, b1) :: ô)) (hR : rdOf D (all.size - (l.length + 1)) = R) (hW : wrO D (all.size - (l.length + 1)) = [i1]) (k : RunE P all D l ⟨(d, A) :: s, (i1, b1) :: o, n⟩ K) : RunE P all D (⟨some d, op, ty, pos, after, none⟩ :: l) ⟨s, o, n⟩ K := RunE.go R [(i1, b1)] h hR hW k
theorem rel_und2 {w : World} {M : Nat → Prop} {loc : Nat → Nat × Nat} {o : Objs} : AV.rel w M loc o (.tup []) undef := by
  rw [AV.rel]
  exact ⟨[], rfl, by rw [AV.rels]⟩
theorem Stp2.off {x : Oper} {q : Nat} {d : Nat} {R : List Nat} (hx : all[q]? = some x) (hxd : x.dst = some d) (hd : Nat.blt d n = true) (hw : ∀ F N w0 ô loc a w, (∀ t, t ∈ x.looksAt all → F t = look s t) → SatF N w0 ô n F loc a w → Region.wanted x (yielded all a.tmps) = false) : Stp2 P all n (look s) q R [] (.tup []) o := fun F ô hc hF N w0 loc a w hN hs Q K hK => by
  have hF' := fun t ht => hF x t hx ht
  have he : dstAt all q = some d := by unfold dstAt; rw [hx]; exact hxd
  rw [he] at hK
  unfold wpOp
  rw [hx]
  dsimp only
  rw [if_neg (by rw [hw F N w0 ô loc a w hF' hs]; simp), hxd]
  exact hK loc _ w (hs.put hd rel_und2)
theorem RunE.off {g dg : Nat} {want b : Bool} (hg : (all[g]?).bind (·.dst) = some dg) (hb : look s dg = .v .bool b) (hdg : Nat.blt dg n = true) (hd : Nat.blt d n = true) (hw : b = !want) (hW : wrO D (all.size - (l.length + 1)) = [])
    (k : RunE P all D l ⟨(d, .tup []) :: s, o, n⟩ K) : RunE P all D (⟨some d, op, ty, pos, after, some (g, want)⟩ :: l) ⟨s, o, n⟩ K :=
  RunE.step _ [] rfl hW (fun q hq => Stp2.off hq rfl hd (fun F N w0 ô loc a w hF hs => by
      have hl : F dg = .v .bool b := by rw [hF dg (by simp [Oper.looksAt, hg]), hb]
      have hy := yields_bool hs hg hl hdg
      subst hw
      cases want <;> simp [Region.wanted, hy])) rfl k
end
end Go.Proofs.YtboghejfmmigkaaDoor.AE
/- A checked evaluator: the last rules. -/
namespace Go.Proofs.YtboghejfmmigkaaDoor.AE
open Go Go.RowKit Go.Proofs.YtboghejfmmigkaaDoor.AP
set_option linter.unusedSimpArgs false
set_option linter.unusedVariables false
section
variable {P : Program} {s : List (Nat × AV)} {o o' : Objs} {n d : Nat} {ty : TypeId} {pos : String} {after : Array Edge} {gd : Option (Nat × Bool)} {t t' : TypeId} {x y z : Operand}
theorem Ev.e_lenO (X : Cx P) {id E : Nat} {τ : Ty} {l : List τ.den} (hx : V s o n x = .own id) (ho : lookO o id = some (.arr E τ l)) (ht : X.ty t = some (.sl τ)) (hd : Nat.blt d n = true) : Ev P ⟨some d, .call ⟨.builtin .len, #[x], #[t]⟩, ty, pos, after, gd⟩ s o n (.v (.int .i64) (l.length : Int)) o :=
  Ev.len X hx (by simp only [lenAV, ho]) ht hd
end
/-- What lies at these names is as it was. -/
def Keep (ids : List Nat) (o0 o : Objs) : Prop := ∀ id, ids.contains id = true → lookO o id = lookO o0 id
theorem Keep.refl (ids : List Nat) (o : Objs) : Keep ids o o := fun _ _ => rfl
theorem Keep.new {ids : List Nat} {o0 o : Objs} {id : Nat} {ob : Ob} (hid : ids.contains id = false) (h : Keep ids o0 o) : Keep ids o0 ((id, ob) :: o) := fun i hi => by
  rw [lookO_cons, if_neg (by intro e; rw [e, hi] at hid; cases hid)]
  exact h i hi
theorem ka {R : List Nat} {o0 o : Objs} {id : Nat} {r : Option Ob} (h : Agree R o0 o) (hm : R.contains id = true) (hl : lookO o0 id = r) : lookO o id = r := (h id hm).trans hl
theorem one_box {o : Objs} {i j : Nat} {c : List AV} (h : lookO o i = some (.box c)) : oneC o (.box i j) = true := by simp [oneC, h]
theorem kp {ids : List Nat} {o0 o : Objs} {id : Nat} {r : Option Ob} (h : Keep ids o0 o) (hm : ids.contains id = true) (hl : lookO o0 id = r) : lookO o id = r := (h id hm).trans hl
section
variable {Φ : Objs → Prop} {P : Program} {all : Array Oper} {ms : List Nat} {l : List Oper} {K : St → Prop} {s : List (Nat × AV)} {o o' : Objs} {n d : Nat} {op : Op} {ty : TypeId} {pos : String} {after : Array Edge} {A : AV}
theorem RunD.mD (hq : ms.contains (all.size - (l.length + 1)) = true) (h : Ev P ⟨some d, op, ty, pos, after, none⟩ s o n A o') (k : RunD Φ P all ms l ⟨(d, A) :: s, o', n⟩ K) (hp : Φ o → Φ o' := by exact fun _ => trivial) : RunD Φ P all ms (⟨some d, op, ty, pos, after, none⟩ :: l) ⟨s, o, n⟩ K := RunD.m hq h rfl k hp
theorem RunE.un {D : DrawD} {g dg : Nat} {want : Bool} (hg : (all[g]?).bind (·.dst) = some dg) (hb : look s dg = .tup []) (hd : Nat.blt d n = true) (hW : wrO D (all.size - (l.length + 1)) = [])
    (k : RunE P all D l ⟨(d, .tup []) :: s, o, n⟩ K) : RunE P all D (⟨some d, op, ty, pos, after, some (g, want)⟩ :: l) ⟨s, o, n⟩ K :=
  RunE.step _ [] rfl hW (fun q hq => Stp2.off hq rfl hd (fun F N w0 ô loc a w hF hs => by
      have hl : F dg = .tup [] := by rw [hF dg (by simp [Oper.looksAt, hg]), hb]
      have hy := yields_none hs hg hl
      simp [Region.wanted, hy])) rfl k
end
end Go.Proofs.YtboghejfmmigkaaDoor.AE
/- A call that is stepped in place: what is lent may change. -/
namespace Go.Proofs.YtboghejfmmigkaaDoor.AE
open Go Go.RowKit Go.Proofs.YtboghejfmmigkaaDoor.AP
set_option linter.unusedSimpArgs false
set_option linter.unusedVariables false
/-- where the objects lie -/
def places (b : Nat) (loc : Nat → Nat × Nat) : Objs → Objs
  | [] => []
  | (i, _) :: r => (b + i, .place i (loc i).1 (loc i).2) :: places b loc r
def small (b : Nat) : Objs → Bool
  | [] => true
  | (i, _) :: r => Nat.blt i b && small b r
theorem small_of {b : Nat} : ∀ {o : Objs} {i : Nat} {ob : Ob}, small b o = true → lookO o i = some ob → i < b
  | (k, v) :: r, i, ob, h, hl => by
    unfold small at h
    rw [Bool.and_eq_true] at h
    rw [lookO_cons] at hl
    by_cases hk : k = i
    · subst hk; exact Nat.le_of_ble_eq_true h.1
    · rw [if_neg hk] at hl; exact small_of h.2 hl
theorem places_none (b : Nat) (loc : Nat → Nat × Nat) : ∀ (o : Objs) (i : Nat), i < b → lookO (places b loc o) i = none
  | [], _, _ => rfl
  | (k, v) :: r, i, h => by
    show lookO ((b + k, _) :: places b loc r) i = none
    rw [lookO_cons, if_neg (by omega)]
    exact places_none b loc r i h
theorem places_some (b : Nat) (loc : Nat → Nat × Nat) : ∀ (o : Objs) (i : Nat) (ob : Ob), lookO (places b loc o) i = some ob → ∃ k v, lookO o k = some v ∧ ob = .place k (loc k).1 (loc k).2
  | (k, v) :: r, i, ob, h => by
    have h : lookO ((b + k, Ob.place k (loc k).1 (loc k).2) :: places b loc r) i = some ob := h
    rw [lookO_cons] at h
    by_cases hk : b + k = i
    · rw [if_pos hk] at h; cases h
      exact ⟨k, v, by rw [lookO_cons, if_pos rfl], rfl⟩
    · rw [if_neg hk] at h
      obtain ⟨k', v', h1, h2⟩ := places_some b loc r i ob h
      by_cases hkk : k = k'
      · subst hkk; exact ⟨k, v, by rw [lookO_cons, if_pos rfl], h2⟩
      · exact ⟨k', v', by rw [lookO_cons, if_neg hkk]; exact h1, h2⟩
theorem lookO_app2 : ∀ (a b : Objs) (i : Nat), lookO (a ++ b) i = (match lookO a i with | some v => some v | none => lookO b i)
  | [], b, i => rfl
  | (k, v) :: r, b, i => by
    show lookO ((k, v) :: (r ++ b)) i = _
    rw [lookO_cons, lookO_cons]
    by_cases hk : k = i
    · rw [if_pos hk, if_pos hk]
    · rw [if_neg hk, if_neg hk]; exact lookO_app2 r b i
/-- what was lent is still there -/
def Back (b : Nat) (loc : Nat → Nat × Nat) (o2 : Objs) : Objs → Prop
  | [] => True
  | (id, ob) :: r => (∃ ob', lookO o2 id = some ob' ∧ Compat ob ob' ∧ (ob'.live = true → lookO o2 (b + id) = some (.place id (loc id).1 (loc id).2))) ∧ Back b loc o2 r
theorem Back.get {b : Nat} {loc : Nat → Nat × Nat} {o2 : Objs} : ∀ {o : Objs} {id : Nat} {ob : Ob}, Back b loc o2 o → lookO o id = some ob → ∃ ob', lookO o2 id = some ob' ∧ Compat ob ob' ∧ (ob'.live = true → lookO o2 (b + id) = some (.place id (loc id).1 (loc id).2))
  | (k, v) :: r, id, ob, h, hl => by
    rw [lookO_cons] at hl
    by_cases hk : k = id
    · rw [if_pos hk] at hl; cases hl; subst hk; exact h.1
    · rw [if_neg hk] at hl; exact h.2.get hl
section
variable {P : Program} {all : Array Oper} {l : List Oper} {s : List (Nat × AV)} {o : Objs} {n d : Nat} {ty : TypeId} {pos : String} {after : Array Edge}
/-- what a function hands back, as it lies in its slots -/
def inlR (P : Program) (fn : Func) (σ : St) (A : AV) : Prop :=
  ∀ N w0 loc2 a w, (∀ k, N k → w0.old k) → SatAt N w0 σ loc2 a w → ∃ u, (results fn a.tmps).run P w = .ok u w ∧ AV.rel w (Muts N loc2 σ.o) loc2 σ.o A u
theorem inlR.one {fn : Func} {σ : St} {t : Nat} {A : AV} (hr : fn.results = #[.tmp t]) (hA : look σ.s t = A) : inlR P fn σ A := fun N w0 loc2 a w hN hs => by
  refine ⟨a.tmps.getD t undef, by simp [results, hr], ?_⟩
  have := hs.slots t
  rwa [show look σ.s t = A from hA] at this
theorem inlR.many {fn : Func} {σ : St} {ts : List Nat} {As : List AV} (hr : fn.results.toList = ts.map .tmp) (h1 : Nat.beq ts.length 1 = false) (hA : ts.map (look σ.s) = As) : inlR P fn σ (.tup As) := fun N w0 loc2 a w hN hs => by
  have key : ∀ ts : List Nat, (((ts.map ResultVar.tmp).mapM (resV a.tmps)) : Sem (List Value)).run P w = .ok (ts.map fun t => a.tmps.getD t undef) w := by
    intro ts
    induction ts with
    | nil => simp
    | cons t ts ih =>
      rw [List.map_cons, List.mapM_cons, Sem.run_bind, show (resV a.tmps (.tmp t)).run P w = .ok (a.tmps.getD t undef) w from rfl, Result.andThen_ok, Sem.run_bind, ih, Result.andThen_ok]
      rfl
  have krel : ∀ ts : List Nat, AV.rels w (Muts N loc2 σ.o) loc2 σ.o (ts.map (look σ.s)) (ts.map fun t => a.tmps.getD t undef) := by
    intro ts
    induction ts with
    | nil => simp [AV.rels]
    | cons t ts ih =>
      rw [List.map_cons, List.map_cons, AV.rels]
      exact ⟨_, _, rfl, hs.slots t, ih⟩
  refine ⟨.tuple (ts.map fun t => a.tmps.getD t undef).toArray, ?_, ?_⟩
  · have e : fn.results = (ts.map ResultVar.tmp).toArray := by apply Array.toList_inj.1; simpa using hr
    have hne : ¬ (ts.map fun t => a.tmps.getD t undef).length = 1 := by rw [List.length_map]; exact Nat.ne_of_beq_eq_false h1
    have e2 : results fn a.tmps = (do let vs ← fn.results.mapM (resV a.tmps); pure (if h : vs.size = 1 then vs[0] else .tuple vs)) := by
      unfold results
      congr 1
    have k2 := key ts
    rw [e2, e, List.mapM_toArray]
    generalize ts.map ResultVar.tmp = rs at *
    generalize (ts.map fun t => a.tmps.getD t undef) = vs at *
    simp [k2, hne]
  · rw [AV.rel]
    exact ⟨_, rfl, by rw [← hA]; exact krel ts⟩
/-- how the run goes on behind a call that was stepped in place -/
def inlK (P : Program) (fn : Func) (b : Nat) (loc : Nat → Nat × Nat) (all : Array Oper) (l : List Oper) (s : List (Nat × AV)) (o : Objs) (n d : Nat) (K : St → Prop) (σ : St) : Prop :=
  ∃ A, inlR P fn σ A ∧ Back b loc σ.o o ∧ Run P all l ⟨(d, A) :: s, σ.o, n⟩ K
def inlO (P : Program) (fn : Func) (b : Nat) (loc : Nat → Nat × Nat) (all : Array Oper) (l : List Oper) (s : List (Nat × AV)) (o : Objs) (n d : Nat) (K : St → Prop) : Out → Prop
  | .normal σ => inlK P fn b loc all l s o n d K σ
  | .ret σ => inlK P fn b loc all l s o n d K σ
  | .exit _ _ => False
theorem mk0_get2 {w : World} {M : Nat → Prop} {loc : Nat → Nat × Nat} {o : Objs} : ∀ (avs : List AV) (us : List Value) (i t : Nat), AV.rels w M loc o avs us → AV.rel w M loc o (look (mk0 i avs) t) (if i ≤ t ∧ t < i + us.length then us.getD (t - i) undef else undef)
  | [], us, i, t, _ => by
    show AV.rel _ _ _ _ .bot _
    rw [AV.rel]; trivial
  | A :: avs, us, i, t, h => by
    rw [AV.rels] at h
    obtain ⟨u, us', rfl, h1, h2⟩ := h
    unfold mk0 look
    cases hb : Nat.beq i t with
    | true =>
      obtain rfl := Nat.eq_of_beq_eq_true hb
      simpa using h1
    | false =>
      have hne : i ≠ t := Nat.ne_of_beq_eq_false hb
      have := mk0_get2 avs us' (i + 1) t h2
      have e : (if i + 1 ≤ t ∧ t < i + 1 + us'.length then us'.getD (t - (i + 1)) undef else undef) = (if i ≤ t ∧ t < i + (u :: us').length then (u :: us').getD (t - i) undef else undef) := by
        by_cases hc : i + 1 ≤ t ∧ t < i + 1 + us'.length
        · rw [if_pos hc, if_pos (by simp; omega)]
          obtain ⟨m, rfl⟩ : ∃ m, t = i + 1 + m := ⟨t - (i + 1), by omega⟩
          rw [show i + 1 + m - i = m + 1 by omega, show i + 1 + m - (i + 1) = m by omega]
          simp
        · rw [if_neg hc, if_neg (by simp; omega)]
      rw [e] at this
      exact this
theorem rels_app2 {w : World} {M : Nat → Prop} {loc : Nat → Nat × Nat} {o : Objs} : ∀ {a b : List AV} {x y : List Value}, AV.rels w M loc o a x → AV.rels w M loc o b y → AV.rels w M loc o (a ++ b) (x ++ y)
  | [], b, x, y, h, k => by rw [AV.rels] at h; subst h; exact k
  | A :: a, b, x, y, h, k => by
    rw [AV.rels] at h
    obtain ⟨u, us', rfl, h1, h2⟩ := h
    show AV.rels w M loc o (A :: (a ++ b)) _
    rw [AV.rels]
    exact ⟨u, us' ++ y, rfl, h1, rels_app2 h2 k⟩
/-- A call that is stepped in place. -/
theorem Run.inl (b : Nat) {f : Operand} {args : Array Operand} {ts : Array TypeId} {g : Nat} {caps avs : List AV} {fn : Func} {c : Code} {K : St → Prop} (hg : Enters P g) (hfn : P.funcs[g]? = some fn) (hbd : fn.body = some c)
    (hf : V s o n f = .fn g caps) (hv : args.toList.map (V s o n) ++ caps = avs) (hn : Nat.ble avs.length fn.ntmps = true) (hd : Nat.blt d n = true) (hsm : small b o = true)
    (h : ∀ loc : Nat → Nat × Nat, T P c ⟨mk0 0 avs, places b loc o ++ o, fn.ntmps⟩ (inlO P fn b loc all l s o n d K)) :
    Run P all (⟨some d, .call ⟨.value f, args, ts⟩, ty, pos, after, none⟩ :: l) ⟨s, o, n⟩ K := Run.mk fun N w0 a w Q q hN hs hl hK => by
  obtain ⟨h1, h2⟩ := drop_head hl
  obtain ⟨loc, hs⟩ := hs
  rw [List.length_cons, List.range'_succ]
  unfold wpOps
  rw [h1]
  dsimp only
  rw [if_pos (show Region.wanted _ _ = true from rfl)]
  refine .inl ?_
  have hlk : Lk N w0 s o n (Op.call ⟨.value f, args, ts⟩).operands loc a w := hs.lk (fun _ _ => rfl)
  have hfv := hlk.look call_ops.1 hf
  rw [AV.rel] at hfv
  obtain ⟨us, hfu, hus⟩ := hfv
  unfold Oper.wp
  rw [run_call hg hfu w, Oper.upon_enter]
  -- the callee's base: all that stands, but what lies in objects
  have hold : ∀ k, w0.old k → k < w.heap.size ∧ ¬ ∃ id ob, Has loc o id ob ∧ (loc id).1 = k := fun k hk => ⟨hs.below.lt hk, by rintro ⟨id, ob, hh, rfl⟩; exact hs.rep.new id ob hh hk⟩
  obtain ⟨B, hBw, hBo⟩ : ∃ B : Base, B.w = w ∧ B.old = fun k => k < w.heap.size ∧ ¬ ∃ id ob, Has loc o id ob ∧ (loc id).1 = k :=
    ⟨⟨w, fun k => k < w.heap.size ∧ ¬ ∃ id ob, Has loc o id ob ∧ (loc id).1 = k, fun _ h => h.1, fun w' e1 e2 => w0.glo w' (Nat.le_trans hs.below.size e1) (fun k hk => (e2 k (hold k hk)).trans (hs.below.block k hk))⟩, rfl, rfl⟩
  have hbl : Bel B w := by rw [← hBw]; exact Bel.refl B
  have hlook : ∀ id ob, lookO (places b loc o ++ o) id = some ob → ob.live = true → lookO o id = some ob := by
    intro id ob h hl
    rw [lookO_app2] at h
    cases hp : lookO (places b loc o) id with
    | none => rw [hp] at h; exact h
    | some v =>
      rw [hp] at h; cases h
      obtain ⟨k, v, _, rfl⟩ := places_some b loc o id ob hp
      cases hl
  have hlook2 : ∀ id ob, lookO o id = some ob → lookO (places b loc o ++ o) id = some ob := by
    intro id ob h
    rw [lookO_app2, places_none b loc o id (small_of hsm h)]; exact h
  have hhas : ∀ id ob, Has loc (places b loc o ++ o) id ob → Has loc o id ob := fun id ob h => ⟨hlook id ob h.1 h.2.1, h.2.1, h.2.2⟩
  have hmu : ∀ k, Muts N loc (places b loc o ++ o) k → Muts N loc o k := by
    rintro k (h | ⟨id, ob, h, rfl⟩)
    · exact .inl h
    · exact .inr ⟨id, ob, hhas id ob h, rfl⟩
  have hkp : Keeps w w (Muts N loc o) (Muts N loc (places b loc o ++ o)) := keeps_less hmu
  have htu : Turns loc loc o (places b loc o ++ o) := fun id ob h => ⟨ob, hlook2 id ob h, .refl, fun _ => rfl⟩
  have hargs : AV.rels w (Muts N loc (places b loc o ++ o)) loc (places b loc o ++ o) avs (args.toList.map a.eval ++ us) := by
    refine AV.rels_turns hkp htu _ _ ?_
    rw [← hv]
    exact rels_app2 (ops_rels hlk _ call_ops.2) hus
  have hlen := rels_len hargs
  have hall : (args.toList.map a.eval ++ us).toArray = args.map a.eval ++ us.toArray := by apply Array.toList_inj.1; simp
  rw [← hall]
  have hsat : Sat N B ⟨mk0 0 avs, places b loc o ++ o, fn.ntmps⟩ { tmps := (args.toList.map a.eval ++ us).toArray ++ Array.replicate (fn.ntmps - (args.toList.map a.eval ++ us).toArray.size) undef, defers := [] } w := by
    refine ⟨loc, ⟨⟨fun id ob hh hk => ?_, fun id id' ob ob' h1 h2 he => hs.rep.inj id id' ob ob' (hhas _ _ h1) (hhas _ _ h2) he, fun id ob hl => ?_⟩, hbl, rfl, ?_, fun t => ?_⟩⟩
    · rw [hBo] at hk; exact hk.2 ⟨id, ob, hhas id ob hh, rfl⟩
    · have hl : lookO (places b loc o ++ o) id = some ob := hl
      rw [lookO_app2] at hl
      cases hp : lookO (places b loc o) id with
      | none => rw [hp] at hl; exact Ob.rel_turns hkp htu ob (fun _ _ => rfl) (hs.rep.obs id ob hl)
      | some v =>
        rw [hp] at hl; cases hl
        obtain ⟨k, v, h1, rfl⟩ := places_some b loc o id ob hp
        exact ⟨v, hlook2 k v h1, fun _ => rfl⟩
    · have := Nat.le_of_ble_eq_true hn
      have h3 : (args.toList.map a.eval ++ us).toArray.size = avs.length := by simpa using hlen
      rw [Array.size_append, Array.size_replicate, h3]
      show avs.length + (fn.ntmps - avs.length) = fn.ntmps
      omega
    · generalize args.toList.map a.eval ++ us = vs at *
      have := mk0_get2 avs vs 0 t hargs
      have e : (if 0 ≤ t ∧ t < 0 + vs.length then vs.getD (t - 0) undef else undef) = (vs.toArray ++ Array.replicate (fn.ntmps - vs.toArray.size) undef).getD t undef := by
        by_cases hc : t < vs.length
        · rw [if_pos (by omega)]
          simp [hc, Array.getD_eq_getD_getElem?, Array.getElem?_append]
        · rw [if_neg (by omega)]
          rw [Array.getD_eq_getD_getElem?, Array.getElem?_append]
          simp [hc, Array.getElem?_replicate]
          split <;> rfl
      rw [← e]
      exact this
  have hNB : ∀ k, N k → B.old k := fun k hk => by rw [hBo]; exact hold k (hN k hk)
  have fin : ∀ σ a' w', inlK P fn b loc all l s o n d K σ → Sat N B σ a' w' → a'.defers = [] ∧ ∃ u, (results fn a'.tmps).run P w' = .ok u w' ∧ wpOps P all Q (List.range' (q + 1) l.length) (a.put (some d) u) w' := by
    rintro σ a' w' ⟨A, hA, hback, hrun⟩ ⟨loc', hs'⟩
    obtain ⟨u, hu, hur⟩ := hA N B loc' a' w' hNB hs'
    refine ⟨hs'.defers, u, hu, ?_⟩
    have hbl' := hs'.below
    have hsz : w.heap.size ≤ w'.heap.size := by have := hbl'.size; rwa [hBw] at this
    have hblk : ∀ k, k < w.heap.size → (¬ ∃ id ob, Has loc o id ob ∧ (loc id).1 = k) → w'.heap[k]? = w.heap[k]? := fun k h1 h2 => by
      have := hbl'.block k (by rw [hBo]; exact ⟨h1, h2⟩)
      rwa [hBw] at this
    have hk : Keeps w w' (Muts N loc o) (Muts N loc' σ.o) := ⟨hsz, fun k h1 h2 => hblk k h1 (fun ⟨id, ob, hh, he⟩ => h2 (.inr ⟨id, ob, hh, he⟩)), fun k h1 h2 => by
      rcases h2 with h2 | ⟨id, ob, hh, rfl⟩
      · exact .inl h2
      · have h3 := hs'.rep.new id ob hh
        rw [hBo] at h3
        apply Classical.byContradiction
        intro h4
        exact h3 ⟨h1, fun ⟨i2, o2, hh2, he2⟩ => h4 (.inr ⟨i2, o2, hh2, he2⟩)⟩⟩
    have ht : Turns loc loc' o σ.o := fun id ob hl => by
      obtain ⟨ob', g1, g2, g3⟩ := hback.get hl
      refine ⟨ob', g1, g2, fun hlv => ?_⟩
      obtain ⟨ob2, e1, e2⟩ := hs'.rep.obs _ _ (g3 hlv)
      rw [g1] at e1
      cases e1
      exact e2 hlv
    have hs2 : SatF N w0 σ.o n (look s) loc' a w' := by
      refine ⟨⟨fun id ob hh hk0 => hs'.rep.new id ob hh (by rw [hBo]; exact hold _ hk0), hs'.rep.inj, hs'.rep.obs⟩, ?_, hs.defers, hs.size, fun t => AV.rel_turns hk ht _ _ (hs.slots t)⟩
      refine ⟨?_, ?_, ?_, Nat.le_trans hs.below.size hsz, fun k hk0 => (hblk k (hold k hk0).1 (hold k hk0).2).trans (hs.below.block k hk0)⟩
      · have := hbl'.os; rw [hBw] at this; exact this.trans hs.below.os
      · have := hbl'.tape; rw [hBw] at this; exact this.trans hs.below.tape
      · have := hbl'.output; rw [hBw] at this; exact this.trans hs.below.output
    exact hrun.out N w0 _ w' Q (q + 1) hN ⟨loc', hs2.put hd hur⟩ h2 hK
  refine Calls.mono (calls_of_wp (R := fun e w' => ∃ u, e = .returned u ∧ wpOps P all Q (List.range' (q + 1) l.length) (a.put (some d) u) w') hfn hbd (wp_mono (h loc N B _ w hNB hsat) ?_)) ?_
  · intro e a' w' he
    cases e with
    | normal =>
      obtain ⟨σ, hk, hs'⟩ := he
      obtain ⟨e1, u, e2, e3⟩ := fin σ a' w' hk hs'
      exact ⟨e1, u, e2, u, rfl, e3⟩
    | ret =>
      obtain ⟨σ, hk, hs'⟩ := he
      obtain ⟨e1, u, e2, e3⟩ := fin σ a' w' hk hs'
      exact ⟨e1, u, e2, u, rfl, e3⟩
    | exit id => obtain ⟨σ, hk, _⟩ := he; exact hk.elim
    | goto l => exact he.elim
    | panic ch => exact he.elim
    | outgrown => exact he.elim
  · rintro e w' ⟨u, rfl, hw⟩
    exact hw
end
end Go.Proofs.YtboghejfmmigkaaDoor.AE
/- Calls that are lent what may change: what a function makes of the objects that are handed in. -/
namespace Go.Proofs.YtboghejfmmigkaaDoor.AE
open Go Go.RowKit Go.Proofs.YtboghejfmmigkaaDoor.AP
set_option linter.unusedSimpArgs false
set_option linter.unusedVariables false

/-- Called with these values, where these objects lie: what comes back, and what the objects come to. -/
def SpecM (P : Program) (g : Nat) (avs : List AV) (q : Objs) (r : AV) (q' : Objs) : Prop :=
  ∀ (N : Nat → Prop) (B : Base) (loc : Nat → Nat × Nat) (w : World) (vs : List Value), (∀ k, N k → B.old k) → Rep N B.old q loc w → Bel B w → AV.rels w (Muts N loc q) loc q avs vs →
    Calls P g vs.toArray w fun e w' => ∃ u loc', e = .returned u ∧ Rep N B.old q' loc' w' ∧ AV.rel w' (Muts N loc' q') loc' q' r u ∧ Bel B w' ∧ Turns loc loc' q q'

theorem fnd_of_back : ∀ (rs : List (Nat × Nat)) (i j : Nat), okRen rs = true → back rs j = some i → fnd rs i = some j
  | [], _, _, _, h => by cases h
  | (x, y) :: r, i, j, ho, h => by
    obtain ⟨h1, h2⟩ := ren_all ho
    unfold back at h
    unfold fnd
    cases hb : Nat.beq y j with
    | true => rw [hb] at h; cases h; rw [Nat.beq_refl, Nat.eq_of_beq_eq_true hb]
    | false =>
      rw [hb] at h
      have h3 := fnd_of_back r i j h1 h
      have := (h2 i j (fnd_mem r i j h3)).1
      have : Nat.beq x i = false := by
        cases hc : Nat.beq x i with
        | true => exact absurd (Nat.eq_of_beq_eq_true hc).symm this
        | false => rfl
      rw [this]
      exact h3
theorem mapO_none (rs0 : List (Nat × Nat)) (o : Objs) : ∀ (rs : List (Nat × Nat)) (j : Nat), back rs j = none → lookO (mapO rs0 o rs) j = none
  | [], _, _ => rfl
  | (x, y) :: r, j, h => by
    unfold back at h
    unfold mapO
    show (match Nat.beq y j with | true => _ | false => _) = none
    cases hb : Nat.beq y j with
    | true => rw [hb] at h; cases h
    | false => rw [hb] at h; exact mapO_none rs0 o r j h
def noPl : Objs → Bool
  | [] => true
  | (_, .place _ _ _) :: _ => false
  | _ :: r => noPl r
theorem noPl_of : ∀ {o : Objs} {id i b c : Nat}, noPl o = true → lookO o id = some (.place i b c) → False
  | (k, v) :: r, id, i, b, c, h, hl => by
    have hr : noPl r = true := by cases v <;> first | exact h | cases h
    rw [lookO_cons] at hl
    by_cases hk : k = id
    · rw [if_pos hk] at hl; cases hl; cases h
    · rw [if_neg hk] at hl; exact noPl_of hr hl
theorem renOb_live {rs : List (Nat × Nat)} {ob : Ob} (h : (renOb rs (some ob)).live = true) : ob.live = true := by
  cases ob with
  | place i b c =>
    unfold renOb at h
    dsimp only at h
    split at h <;> cases h
  | dead => cases h
  | _ => rfl
theorem Compat.ren {a b : Ob} {rs : List (Nat × Nat)} (hp : ∀ i x c, a ≠ .place i x c) (h : Compat a b) : Compat a (renOb rs (some b)) := by
  cases h with
  | refl =>
    cases a with
    | arr E t l => exact .refl
    | box c => exact .box
    | map kt vt l => exact .refl
    | siter s p => exact .refl
    | dead => exact .refl
    | place i x c => exact absurd rfl (hp i x c)
  | dead => exact .dead
  | arr h => exact .arr h
  | box => exact .box
  | map => exact .map
  | siter => exact .siter
/-- A row by its other name, and what became of it. -/
theorem Compat.ren2 {a b : Ob} {rs rs' : List (Nat × Nat)} (hp : ∀ i x c, renOb rs (some a) ≠ .place i x c) (h : Compat (renOb rs (some a)) b) : Compat a (renOb rs' (some b)) ∨ (∃ i x c, a = .place i x c) := by
  cases a with
  | place i x c => exact .inr ⟨i, x, c, rfl⟩
  | arr E t l => exact .inl (Compat.ren (by rintro _ _ _ ⟨⟩) h)
  | map kt vt l => exact .inl (Compat.ren (by rintro _ _ _ ⟨⟩) h)
  | siter s p => exact .inl (Compat.ren (by rintro _ _ _ ⟨⟩) h)
  | dead => cases h <;> exact .inl .refl
  | box c =>
    left
    have h : Compat (.box (renAVs rs c)) b := h
    cases h with
    | refl => exact .box
    | dead => exact .dead
    | box => exact .box
/-- How what is handed in is read by the one that is called. -/
inductive ViewM (rs : List (Nat × Nat)) : AV → AV → Prop
  | ren {A B : AV} (h : renAV rs A = B) : ViewM rs A B
  | c {A B : AV} (h : ViewC A B) : ViewM rs A B
inductive ViewsM (rs : List (Nat × Nat)) : List AV → List AV → Prop
  | nil : ViewsM rs [] []
  | cons {A B : AV} {avs bs : List AV} (h : ViewM rs A B) (t : ViewsM rs avs bs) : ViewsM rs (A :: avs) (B :: bs)
theorem viewC_calm {w : World} {M M' : Nat → Prop} {loc loc' : Nat → Nat × Nat} {o o' : Objs} {A B : AV} {u : Value} (hk : Keeps w w M M') (h : ViewC A B) (hr : AV.rel w M loc o A u) : AV.rel w M' loc' o' B u := by
  have h1 : AV.rel w M loc' [] B u := h.rel hr
  exact AV.rel_turns hk Turns.none B u h1
theorem viewsM_rels {w : World} {M M' : Nat → Prop} {loc : Nat → Nat × Nat} {o : Objs} {rs : List (Nat × Nat)} (hok : okRen rs = true) (hk : Keeps w w M M') : ∀ {As Bs : List AV} {us : List Value}, ViewsM rs As Bs → AV.rels w M loc o As us → AV.rels w M' (locR rs loc) (mapO rs o rs) Bs us
  | _, _, us, .nil, hr => by rw [AV.rels] at hr ⊢; exact hr
  | _, _, us, .cons h t, hr => by
    rw [AV.rels] at hr ⊢
    obtain ⟨u, us', h1, h2, h3⟩ := hr
    refine ⟨u, us', h1, ?_, viewsM_rels hok hk t h3⟩
    cases h with
    | ren h => rw [← h]; exact ren_rel hok hk _ _ h2
    | c h => exact viewC_calm hk h h2
section
variable {N : Nat → Prop} {w0 : Base} {w : World} {loc : Nat → Nat × Nat} {a : Act} {o : Objs} {n : Nat} {F : Nat → AV}
theorem has_ren {rs : List (Nat × Nat)} (hok : okRen rs = true) {j : Nat} {ob' : Ob} (h : Has (locR rs loc) (mapO rs o rs) j ob') : ∃ i ob, fnd rs i = some j ∧ Has loc o i ob ∧ locR rs loc j = loc i := by
  obtain ⟨h1, h2, h3⟩ := h
  obtain ⟨i, g1, g2⟩ := of_mapO rs o rs j ob' hok h1
  have hl : locR rs loc j = loc i := by unfold locR; rw [back_of rs i j hok g1]
  rw [hl] at h3
  cases ho : lookO o i with
  | none => rw [ho] at g2; rw [g2] at h2; cases h2
  | some ob => rw [ho] at g2; rw [g2] at h2; exact ⟨i, ob, g1, ⟨ho, renOb_live h2, h3⟩, hl⟩
theorem muts_ren {rs : List (Nat × Nat)} (hok : okRen rs = true) : ∀ k, Muts N (locR rs loc) (mapO rs o rs) k → Muts N loc o k := by
  rintro k (h | ⟨j, ob', h, rfl⟩)
  · exact .inl h
  · obtain ⟨i, ob, _, h2, h3⟩ := has_ren hok h
    rw [h3]; exact .inr ⟨i, ob, h2, rfl⟩
end
/-- All names that are lent come back, and new ones are new. -/
def okBk (rs rs' : List (Nat × Nat)) (o : Objs) : Bool :=
  (rs.all fun p => match fnd rs' p.2 with | some y => Nat.beq y p.1 | none => false) && (rs'.all fun p => (match fnd rs p.2 with | some _ => true | none => false) || (match lookO o p.2 with | none => true | some _ => false))

section
variable {P : Program} {s : List (Nat × AV)} {o : Objs} {n : Nat} {ty : TypeId} {pos : String} {after : Array Edge} {gd : Option (Nat × Bool)}
theorem SatF.put' {N : Nat → Prop} {w0 : Base} {w : World} {loc : Nat → Nat × Nat} {a : Act} {F : Nat → AV} {d : Option Nat} {A : AV} {u : Value} (h : SatF N w0 o n F loc a w) (hd : (match d with | some d => Nat.blt d n | none => true) = true) (hu : AV.rel w (Muts N loc o) loc o A u) :
    SatF N w0 o n (upd F d A) loc (a.put d u) w := by
  cases d with
  | none => exact h
  | some d => exact h.put hd hu
/-- A call of what is lent what may change. -/
theorem Ev.lendM0 {d : Option Tmp} {f : Operand} {args : Array Operand} {ts : Array TypeId} {g : Nat} {caps avs : List AV} {r A : AV} {q q' o' : Objs} (rs rs' : List (Nat × Nat))
    (hg : Enters P g) (hS : SpecM P g avs q r q') (hf : V s o n f = .fn g caps) (hv : ViewsM rs (args.toList.map (V s o n) ++ caps) avs)
    (hq : mapO rs o rs = q) (hok : okRen rs = true) (hok' : okRen rs' = true) (hb : okBk rs rs' o = true) (hpl : noPl q = true)
    (hA : renAV rs' r = A) (ho : mapO rs' q' rs' ++ o = o') (hd : (match d with | some d => Nat.blt d n | none => true) = true) :
    Ev P ⟨d, .call ⟨.value f, args, ts⟩, ty, pos, after, gd⟩ s o n A o' :=
  Ev.calls hg fun F hF N w0 loc a w hN hs hl => by
    have hfr := hl.look call_ops.1 hf
    rw [AV.rel] at hfr
    obtain ⟨us, e1, e2⟩ := hfr
    refine ⟨us.toArray, e1, ?_⟩
    have hr := rels_append (ops_rels hl args.toList call_ops.2) e2
    subst hq
    -- the callee's base
    have hold : ∀ k, w0.old k → k < w.heap.size ∧ ¬ ∃ id ob, Has loc o id ob ∧ (∃ j, fnd rs id = some j) ∧ (loc id).1 = k := fun k hk => ⟨hs.below.lt hk, by rintro ⟨id, ob, hh, _, rfl⟩; exact hs.rep.new id ob hh hk⟩
    obtain ⟨B, hBw, hBo⟩ : ∃ B : Base, B.w = w ∧ B.old = fun k => k < w.heap.size ∧ ¬ ∃ id ob, Has loc o id ob ∧ (∃ j, fnd rs id = some j) ∧ (loc id).1 = k :=
      ⟨⟨w, fun k => k < w.heap.size ∧ ¬ ∃ id ob, Has loc o id ob ∧ (∃ j, fnd rs id = some j) ∧ (loc id).1 = k, fun _ h => h.1, fun w' e1 e2 => w0.glo w' (Nat.le_trans hs.below.size e1) (fun k hk => (e2 k (hold k hk)).trans (hs.below.block k hk))⟩, rfl, rfl⟩
    have hbl : Bel B w := by rw [← hBw]; exact Bel.refl B
    obtain ⟨N2, hN2⟩ : ∃ N2 : Nat → Prop, N2 = fun k => N k ∨ ∃ id ob, Has loc o id ob ∧ fnd rs id = none ∧ (loc id).1 = k := ⟨_, rfl⟩
    have hNB : ∀ k, N2 k → B.old k := by
      intro k hk
      rw [hN2] at hk
      rw [hBo]
      rcases hk with hk | ⟨id, ob, hh, h1, rfl⟩
      · exact hold k (hN k hk)
      · refine ⟨hs.rep.lt hh, ?_⟩
        rintro ⟨id2, ob2, hh2, ⟨j, hj⟩, he⟩
        obtain rfl := hs.rep.inj _ _ _ _ hh2 hh he
        rw [h1] at hj; cases hj
    have hMq : ∀ k, Muts N2 (locR rs loc) (mapO rs o rs) k → Muts N loc o k := by
      rintro k (h | ⟨j, ob', h, rfl⟩)
      · rw [hN2] at h
        rcases h with h | ⟨id, ob, hh, _, rfl⟩
        · exact .inl h
        · exact .inr ⟨id, ob, hh, rfl⟩
      · obtain ⟨i, ob, _, h2, h3⟩ := has_ren hok h
        rw [h3]; exact .inr ⟨i, ob, h2, rfl⟩
    have hkq : Keeps w w (Muts N loc o) (Muts N2 (locR rs loc) (mapO rs o rs)) := keeps_less hMq
    have hren := (hs.ren hok).rep
    have hrep : Rep N2 B.old (mapO rs o rs) (locR rs loc) w := by
      refine ⟨fun j ob' h hk => ?_, hren.inj, fun j ob' h => ?_⟩
      · obtain ⟨i, ob, h1, h2, h3⟩ := has_ren hok h
        rw [hBo, h3] at hk
        exact hk.2 ⟨i, ob, h2, ⟨j, h1⟩, rfl⟩
      · have hkk : Keeps w w (Muts N (locR rs loc) (mapO rs o rs)) (Muts N2 (locR rs loc) (mapO rs o rs)) → (ob'.rel w (Muts N2 (locR rs loc) (mapO rs o rs)) (locR rs loc) (mapO rs o rs) (locR rs loc j).1 (locR rs loc j).2) := fun hk => Ob.rel_turns hk Turns.refl ob' (fun _ _ => rfl) (hren.obs j ob' h)
        obtain ⟨i, g1, g2⟩ := of_mapO rs o rs j ob' hok h
        have hl2 : locR rs loc j = loc i := by unfold locR; rw [back_of rs i j hok g1]
        rw [hl2, g2]
        cases hob : lookO o i with
        | none => trivial
        | some ob =>
          have h9 := hs.rep.obs i ob hob
          cases ob with
          | dead => trivial
          | place i2 b c =>
            rw [g2, hob] at h
            unfold renOb at h ⊢
            dsimp only at h ⊢
            cases hf2 : fnd rs i2 with
            | none => trivial
            | some j2 => rw [hf2] at h; exact (noPl_of hpl h).elim
          | arr E t l => exact Ob.rel_turns hkq (Turns.none (loc := loc)) (.arr E t l) (fun _ _ => rfl) (by exact h9)
          | box c =>
            obtain ⟨hp, cur, E, h1, h2⟩ := h9
            exact ⟨hp, cur, E, h1, rens_rel hok hkq c _ h2⟩
          | map kt vt l => exact Ob.rel_turns hkq (Turns.none (loc := loc)) (.map kt vt l) (fun _ _ => rfl) (by exact h9)
          | siter s p => exact Ob.rel_turns hkq (Turns.none (loc := loc)) (.siter s p) (fun _ _ => rfl) (by exact h9)
    have hargs := viewsM_rels hok hkq hv hr
    have h := hS N2 B (locR rs loc) w (args.toList.map a.eval ++ us) hNB hrep hbl hargs
    have e : (args.toList.map a.eval ++ us).toArray = args.map a.eval ++ us.toArray := by apply Array.toList_inj.1; simp
    rw [e] at h
    refine h.mono ?_
    rintro e w' ⟨u, loc', rfl, hrep', hr', hbl', ht'⟩
    -- back by the caller's names
    have hsz : w.heap.size ≤ w'.heap.size := by have := hbl'.size; rwa [hBw] at this
    have hblk : ∀ k, B.old k → w'.heap[k]? = w.heap[k]? := fun k h1 => by have := hbl'.block k h1; rwa [hBw] at this
    have hsat2 : SatF N2 B q' 1 (fun t => match t with | 0 => r | _ => .bot) loc' { tmps := #[u], defers := [] } w' := ⟨hrep', hbl', rfl, rfl, fun t => by
      cases t with
      | zero => exact hr'
      | succ t => exact rel_bot⟩
    have hs2 := hsat2.ren hok'
    have hrep2 : Rep N2 B.old (mapO rs' q' rs') (locR rs' loc') w' := hs2.rep
    have hr2 : AV.rel w' (Muts N2 (locR rs' loc') (mapO rs' q' rs')) (locR rs' loc') (mapO rs' q' rs') A u := by
      have := hs2.slots 0
      rw [← hA]; exact this
    unfold okBk at hb
    rw [Bool.and_eq_true] at hb
    obtain ⟨hb1, hb2⟩ := hb
    have back1 : ∀ i j, fnd rs i = some j → fnd rs' j = some i := fun i j h => by
      have := List.all_eq_true.1 hb1 _ (fnd_mem rs i j h)
      dsimp only at this
      cases h2 : fnd rs' j with
      | none => rw [h2] at this; cases this
      | some y => rw [h2] at this; rw [Nat.eq_of_beq_eq_true this]
    have back2 : ∀ c i, fnd rs' c = some i → (∃ j, fnd rs i = some j) ∨ lookO o i = none := fun c i h => by
      have := List.all_eq_true.1 hb2 _ (fnd_mem rs' c i h)
      dsimp only at this
      rw [Bool.or_eq_true] at this
      rcases this with h | h
      · cases h2 : fnd rs i with
        | none => rw [h2] at h; cases h
        | some y => exact .inl ⟨y, rfl⟩
      · cases h2 : lookO o i with
        | none => exact .inr rfl
        | some y => rw [h2] at h; cases h
    generalize hq2 : mapO rs' q' rs' = q2 at *
    obtain ⟨loc3, hloc3⟩ : ∃ loc3 : Nat → Nat × Nat, loc3 = fun id => match back rs' id with | some c => loc' c | none => loc id := ⟨_, rfl⟩
    have l3a : ∀ id c, back rs' id = some c → loc3 id = loc' c ∧ locR rs' loc' id = loc' c := fun id c h => by rw [hloc3]; unfold locR; simp [h]
    have l3b : ∀ id, back rs' id = none → loc3 id = loc id := fun id h => by rw [hloc3]; simp [h]
    have lk2n : ∀ id, back rs' id = none → lookO q2 id = none := fun id h => by rw [← hq2]; exact mapO_none rs' q' rs' id h
    have lk2s : ∀ id c, back rs' id = some c → lookO q2 id = some (renOb rs' (lookO q' c)) := fun id c h => by rw [← hq2]; exact mapO_of rs' q' rs' c id hok' (fnd_of_back rs' c id hok' h)
    have lk3 : ∀ id, lookO (q2 ++ o) id = match back rs' id with | some c => some (renOb rs' (lookO q' c)) | none => lookO o id := fun id => by
      rw [lookO_app2]
      cases hbk : back rs' id with
      | none => rw [lk2n id hbk]
      | some c => rw [lk2s id c hbk]
    subst ho
    have ht3 : Turns loc loc3 o (q2 ++ o) := fun id ob hl => by
      rw [lk3 id]
      cases hbk : back rs' id with
      | none => exact ⟨ob, hl, .refl, fun _ => l3b id hbk⟩
      | some c =>
        have hfc := fnd_of_back rs' c id hok' hbk
        rcases back2 c id hfc with ⟨j, hj⟩ | hn
        · have := back1 id j hj
          have hcj : j = c := by
            have := back_of rs' j id hok' this
            rw [hbk] at this; exact (Option.some.inj this).symm
          subst hcj
          have hm : lookO (mapO rs o rs) j = some (renOb rs (some ob)) := by rw [mapO_of rs o rs id j hok hj, hl]
          obtain ⟨ob', g1, g2, g3⟩ := ht' j _ hm
          refine ⟨renOb rs' (some ob'), by show some (renOb rs' (lookO q' j)) = _; rw [g1], ?_, fun hlv => ?_⟩
          · rcases Compat.ren2 (rs' := rs') (fun i x c he => noPl_of hpl (he ▸ hm)) g2 with h | ⟨i, x, c, he⟩
            · exact h
            · subst he
              have hrd : renOb rs (some (.place i x c)) = .dead := by
                unfold renOb
                dsimp only
                cases hff : fnd rs i with
                | none => rfl
                | some j2 =>
                  exfalso
                  refine noPl_of hpl (i := j2) (b := x) (c := c) (id := j) (o := mapO rs o rs) ?_
                  rw [hm]; unfold renOb; dsimp only; rw [hff]
              rw [hrd] at g2
              have : ob' = .dead := by cases g2 <;> rfl
              subst this
              exact .dead
          · have := g3 (renOb_live hlv)
            rw [(l3a id j hbk).1, this]
            unfold locR
            rw [back_of rs id j hok hj]
        · rw [hn] at hl; cases hl
    have hhas3 : ∀ id ob, Has loc3 (q2 ++ o) id ob → (Has (locR rs' loc') q2 id ob ∧ loc3 id = locR rs' loc' id) ∨ (back rs' id = none ∧ Has loc o id ob ∧ loc3 id = loc id ∧ fnd rs id = none) := by
      rintro id ob ⟨h1, h2, h3⟩
      rw [lk3 id] at h1
      cases hbk : back rs' id with
      | none =>
        rw [hbk] at h1
        refine .inr ⟨rfl, ⟨h1, h2, by rwa [l3b id hbk] at h3⟩, l3b id hbk, ?_⟩
        cases hff : fnd rs id with
        | none => rfl
        | some j =>
          have := back_of rs' j id hok' (back1 id j hff)
          rw [hbk] at this; cases this
      | some c =>
        rw [hbk] at h1
        obtain ⟨e1, e2⟩ := l3a id c hbk
        exact .inl ⟨⟨by rw [lk2s id c hbk]; exact h1, h2, by rwa [e1, ← e2] at h3⟩, e1.trans e2.symm⟩
    have hBoth : ∀ id ob, Has loc o id ob → fnd rs id = none → B.old (loc id).1 := fun id ob hh h1 => by
      rw [hBo]
      refine ⟨hs.rep.lt hh, ?_⟩
      rintro ⟨id2, ob2, hh2, ⟨j, hj⟩, he⟩
      obtain rfl := hs.rep.inj _ _ _ _ hh2 hh he
      rw [h1] at hj; cases hj
    have hM3 : ∀ k, Muts N loc3 (q2 ++ o) k → Muts N2 (locR rs' loc') q2 k := by
      rintro k (h | ⟨id, ob, h, rfl⟩)
      · exact .inl (by rw [hN2]; exact .inl h)
      · rcases hhas3 id ob h with ⟨h1, h2⟩ | ⟨_, h1, h2, h3⟩
        · rw [h2]; exact .inr ⟨id, ob, h1, rfl⟩
        · rw [h2]; exact .inl (by rw [hN2]; exact .inr ⟨id, ob, h1, h3, rfl⟩)
    have hk2 : Keeps w' w' (Muts N2 (locR rs' loc') q2) (Muts N loc3 (q2 ++ o)) := keeps_less hM3
    have ht2 : Turns (locR rs' loc') loc3 q2 (q2 ++ o) := fun id ob hl => by
      refine ⟨ob, by rw [lookO_app2, hl], .refl, fun _ => ?_⟩
      cases hbk : back rs' id with
      | none => rw [lk2n id hbk] at hl; cases hl
      | some c => rw [(l3a id c hbk).1, (l3a id c hbk).2]
    have hk3 : Keeps w w' (Muts N loc o) (Muts N loc3 (q2 ++ o)) := by
      refine ⟨hsz, fun k h1 h2 => hblk k ?_, fun k h1 h2 => ?_⟩
      · rw [hBo]; exact ⟨h1, fun ⟨id, ob, hh, _, he⟩ => h2 (.inr ⟨id, ob, hh, he⟩)⟩
      · rcases h2 with h2 | ⟨id, ob, h, rfl⟩
        · exact .inl h2
        · rcases hhas3 id ob h with ⟨g1, g2⟩ | ⟨_, g1, g2, g3⟩
          · have h3 := hrep2.new id ob g1
            rw [hBo, ← g2] at h3
            apply Classical.byContradiction
            intro h4
            exact h3 ⟨h1, fun ⟨i2, o2, hh2, _, he2⟩ => h4 (.inr ⟨i2, o2, hh2, he2⟩)⟩
          · rw [g2]; exact .inr ⟨id, ob, g1, rfl⟩
    refine ⟨u, loc3, rfl, SatF.put' ?_ hd (AV.rel_turns hk2 ht2 _ _ hr2)⟩
    refine ⟨⟨fun id ob h hk0 => ?_, fun id id' ob ob' h1 h2 he => ?_, fun id ob h => ?_⟩, ⟨?_, ?_, ?_, Nat.le_trans hs.below.size hsz, fun k hk0 => (hblk k (by rw [hBo]; exact hold k hk0)).trans (hs.below.block k hk0)⟩, hs.defers, hs.size, fun t => AV.rel_turns hk3 ht3 _ _ (hs.slots t)⟩
    · rcases hhas3 id ob h with ⟨g1, g2⟩ | ⟨_, g1, g2, g3⟩
      · have h3 := hrep2.new id ob g1
        rw [hBo, ← g2] at h3
        exact h3 (hold _ hk0)
      · rw [g2] at hk0; exact hs.rep.new id ob g1 hk0
    · rcases hhas3 id ob h1 with ⟨g1, g2⟩ | ⟨_, g1, g2, g3⟩
      · rcases hhas3 id' ob' h2 with ⟨f1, f2⟩ | ⟨_, f1, f2, f3⟩
        · exact hrep2.inj id id' ob ob' g1 f1 (by rw [← g2, ← f2]; exact he)
        · exfalso
          have := hBoth id' ob' f1 f3
          rw [f2, g2] at he
          exact hrep2.new id ob g1 (by rw [he]; exact this)
      · rcases hhas3 id' ob' h2 with ⟨f1, f2⟩ | ⟨_, f1, f2, f3⟩
        · exfalso
          have := hBoth id ob g1 g3
          rw [f2, g2] at he
          exact hrep2.new id' ob' f1 (by rw [← he]; exact this)
        · exact hs.rep.inj id id' ob ob' g1 f1 (by rw [← g2, ← f2]; exact he)
    · rw [lk3 id] at h
      cases hbk : back rs' id with
      | none =>
        rw [hbk] at h
        rw [l3b id hbk]
        refine Ob.rel_turns hk3 ht3 ob (fun hlv hc => hblk _ ?_) (hs.rep.obs id ob h)
        refine hBoth id ob ⟨h, hlv, hc⟩ ?_
        cases hff : fnd rs id with
        | none => rfl
        | some j =>
          have := back_of rs' j id hok' (back1 id j hff)
          rw [hbk] at this; cases this
      | some c =>
        rw [hbk] at h
        have h2 : lookO q2 id = some ob := by rw [lk2s id c hbk]; exact h
        have := hrep2.obs id ob h2
        rw [(l3a id c hbk).1, ← (l3a id c hbk).2]
        exact Ob.rel_turns hk2 ht2 ob (fun _ _ => rfl) this
    · have := hbl'.os; rw [hBw] at this; exact this.trans hs.below.os
    · have := hbl'.tape; rw [hBw] at this; exact this.trans hs.below.tape
    · have := hbl'.output; rw [hBw] at this; exact this.trans hs.below.output
theorem Ev.lendM {d : Option Tmp} {f : Operand} {args : Array Operand} {ts : Array TypeId} {g : Nat} {caps avs : List AV} {r A : AV} {q q' W : Objs} (rs rs' : List (Nat × Nat))
    (hg : Enters P g) (hS : SpecM P g avs q r q') (hf : V s o n f = .fn g caps) (hv : ViewsM rs (args.toList.map (V s o n) ++ caps) avs)
    (hq : mapO rs o rs = q) (hok : okRen rs = true) (hok' : okRen rs' = true) (hb : okBk rs rs' o = true) (hpl : noPl q = true)
    (hA : renAV rs' r = A) (ho : mapO rs' q' rs' = W) (hd : (match d with | some d => Nat.blt d n | none => true) = true) :
    Ev P ⟨d, .call ⟨.value f, args, ts⟩, ty, pos, after, gd⟩ s o n A (W ++ o) := Ev.lendM0 rs rs' hg hS hf hv hq hok hok' hb hpl hA (by rw [ho]) hd
theorem mapO_agree {R : List Nat} {o ô : Objs} (h : Agree R o ô) (rs0 : List (Nat × Nat)) : ∀ (rs : List (Nat × Nat)), (rs.all fun p => R.contains p.1) = true → mapO rs0 ô rs = mapO rs0 o rs
  | [], _ => rfl
  | (x, y) :: r, hc => by
    rw [List.all_cons, Bool.and_eq_true] at hc
    unfold mapO
    rw [h x hc.1, mapO_agree h rs0 r hc.2]
theorem okBk_agree {R : List Nat} {o ô : Objs} (h : Agree R o ô) {rs rs' : List (Nat × Nat)} (hc : (rs'.all fun p => R.contains p.2) = true) (hb : okBk rs rs' o = true) : okBk rs rs' ô = true := by
  unfold okBk at hb ⊢
  rw [Bool.and_eq_true] at hb ⊢
  refine ⟨hb.1, List.all_eq_true.2 fun p hp => ?_⟩
  have h1 := List.all_eq_true.1 hb.2 p hp
  have h2 := List.all_eq_true.1 hc p hp
  rw [h p.2 h2]
  exact h1
/-- Those that change, of those that are told. -/
def UnchR (R : List Nat) (o : Objs) : Objs → Objs → Prop
  | [], W' => W' = []
  | (i, b) :: W, W' => (R.contains i = true ∧ lookO o i = some b ∧ UnchR R o W W') ∨ (∃ W'', W' = (i, b) :: W'' ∧ UnchR R o W W'')
def nodupK : Objs → Bool
  | [] => true
  | (i, _) :: W => (match lookO W i with | none => true | some _ => false) && nodupK W
theorem unch_none {R : List Nat} {o : Objs} : ∀ {W W' : Objs} {i : Nat}, UnchR R o W W' → lookO W i = none → lookO W' i = none
  | [], W', i, h, _ => by rw [show W' = [] from h]; rfl
  | (j, b) :: W, W', i, h, hn => by
    rw [lookO_cons] at hn
    by_cases hj : j = i
    · rw [if_pos hj] at hn; cases hn
    · rw [if_neg hj] at hn
      rcases h with ⟨_, _, h⟩ | ⟨W'', rfl, h⟩
      · exact unch_none h hn
      · rw [lookO_cons, if_neg hj]; exact unch_none h hn
theorem unch_look {R : List Nat} {o ô : Objs} (hag : Agree R o ô) : ∀ {W W' : Objs} (i : Nat), nodupK W = true → UnchR R o W W' → lookO (W' ++ ô) i = lookO (W ++ ô) i
  | [], W', i, _, h => by rw [show W' = [] from h]
  | (j, b) :: W, W', i, hd, h => by
    unfold nodupK at hd
    rw [Bool.and_eq_true] at hd
    show _ = lookO ((j, b) :: (W ++ ô)) i
    rw [lookO_cons]
    rcases h with ⟨h1, h2, h⟩ | ⟨W'', rfl, h⟩
    · by_cases hj : j = i
      · subst hj
        rw [if_pos rfl, lookO_app2]
        have hn : lookO W j = none := by
          cases hc : lookO W j with
          | none => rfl
          | some v => rw [hc] at hd; cases hd.1
        rw [unch_none h hn]
        exact (hag j h1).trans h2
      · rw [if_neg hj]; exact unch_look hag i hd.2 h
    · show lookO ((j, b) :: (W'' ++ ô)) i = _
      rw [lookO_cons]
      by_cases hj : j = i
      · rw [if_pos hj, if_pos hj]
      · rw [if_neg hj, if_neg hj]; exact unch_look hag i hd.2 h
theorem Ev.alikeO {op : Oper} {A : AV} {o1 o2 : Objs} (h : Ev P op s o n A o1) (e : ∀ i, lookO o2 i = lookO o1 i) : Ev P op s o n A o2 := Ev.mk fun F hF N w0 loc a w hN hs Q K hK =>
  h.out F hF N w0 loc a w hN hs Q K fun loc' a' w' hs' => hK loc' a' w' (hs'.alike e)
/-- The same where other things are done beside it. -/
theorem Ev.lendE {R : List Nat} {ô : Objs} (hag : Agree R o ô) {d : Option Tmp} {f : Operand} {args : Array Operand} {ts : Array TypeId} {g : Nat} {caps avs : List AV} {r A : AV} {q q' W : Objs} (rs rs' : List (Nat × Nat))
    (hR : ((rs.all fun p => R.contains p.1) && (rs'.all fun p => R.contains p.2)) = true)
    (hg : Enters P g) (hS : SpecM P g avs q r q') (hf : V s o n f = .fn g caps) (hv : ViewsM rs (args.toList.map (V s o n) ++ caps) avs)
    (hq : mapO rs o rs = q) (hok : okRen rs = true) (hok' : okRen rs' = true) (hb : okBk rs rs' o = true) (hpl : noPl q = true)
    {W' : Objs} (hA : renAV rs' r = A) (ho : mapO rs' q' rs' = W) (hu : UnchR R o W W') (hnd : nodupK W = true) (hd : (match d with | some d => Nat.blt d n | none => true) = true) :
    Ev P ⟨d, .call ⟨.value f, args, ts⟩, ty, pos, after, gd⟩ s ô n A (W' ++ ô) := by
  rw [Bool.and_eq_true] at hR
  exact Ev.alikeO (o1 := W ++ ô) (Ev.lendM rs rs' hg hS hf hv ((mapO_agree hag rs rs hR.1).trans hq) hok hok' (okBk_agree hag hR.2 hb) hpl hA ho hd) (fun i => unch_look hag i hnd hu)
end

/-! ### A function's begin and end -/
section
variable {P : Program} {g : Nat} {fn : Func} {c : Code} {r : AV} {q q' : Objs} {σ σ' : St} {b : Nat} {loc : Nat → Nat × Nat}
/-- What a function comes to. -/
def FinM (P : Program) (fn : Func) (loc : Nat → Nat × Nat) (q : Objs) (r : AV) (q' : Objs) (σ : St) : Prop :=
  ∀ N w0 a w, (∀ k, N k → w0.old k) → Sat N w0 σ a w → ∃ u loc', (results fn a.tmps).run P w = .ok u w ∧ Rep N w0.old q' loc' w ∧ AV.rel w (Muts N loc' q') loc' q' r u ∧ Turns loc loc' q q'
def finM (P : Program) (fn : Func) (loc : Nat → Nat × Nat) (q : Objs) (r : AV) (q' : Objs) : Out → Prop
  | .normal σ => FinM P fn loc q r q' σ
  | .ret σ => FinM P fn loc q r q' σ
  | .exit _ _ => False
theorem FinM.ghost (g : Ghost σ σ') (h : FinM P fn loc q r q' σ') : FinM P fn loc q r q' σ := fun N w0 a w hN hs => h N w0 a w hN (g N w0 a w hN hs)
/-- What was lent is still there, or told no more. -/
def BackF (b : Nat) (loc : Nat → Nat × Nat) (o2 : Objs) (rs : List (Nat × Nat)) (q' : Objs) : Objs → Prop
  | [] => True
  | (id, ob) :: r => ((fnd rs id = some id ∧ ∃ ob', lookO o2 id = some ob' ∧ Compat ob ob' ∧ (ob'.live = true → lookO o2 (b + id) = some (.place id (loc id).1 (loc id).2))) ∨ lookO q' id = some .dead) ∧ BackF b loc o2 rs q' r
theorem BackF.get {b : Nat} {loc : Nat → Nat × Nat} {o2 : Objs} {rs : List (Nat × Nat)} {q' : Objs} : ∀ {o : Objs} {id : Nat} {ob : Ob}, BackF b loc o2 rs q' o → lookO o id = some ob → (fnd rs id = some id ∧ ∃ ob', lookO o2 id = some ob' ∧ Compat ob ob' ∧ (ob'.live = true → lookO o2 (b + id) = some (.place id (loc id).1 (loc id).2))) ∨ lookO q' id = some .dead
  | (k, v) :: r, id, ob, h, hl => by
    rw [lookO_cons] at hl
    by_cases hk : k = id
    · rw [if_pos hk] at hl; cases hl; subst hk; exact h.1
    · rw [if_neg hk] at hl; exact h.2.get hl
theorem FinM.of {A : AV} (b : Nat) (rs : List (Nat × Nat)) (hA : inlR P fn σ A) (hok : okRen rs = true) (hr : renAV rs A = r) (hq : mapO rs σ.o rs = q') (hpl : noPl q = true)
    (hbk : BackF b loc σ.o rs q' q) : FinM P fn loc q r q' σ := fun N w0 a w hN ⟨loc2, hs⟩ => by
  obtain ⟨u, h1, h2⟩ := hA N w0 loc2 a w hN hs
  subst hq hr
  refine ⟨u, locR rs loc2, h1, (hs.ren hok).rep, ren_rel hok (keeps_less (muts_ren hok)) _ _ h2, fun id ob hl => ?_⟩
  rcases hbk.get hl with ⟨hf, ob', g1, g2, g3⟩ | hdead
  · refine ⟨renOb rs (some ob'), by rw [mapO_of rs σ.o rs id id hok hf, g1], Compat.ren (fun i x c he => noPl_of hpl (he ▸ hl)) g2, fun hlv => ?_⟩
    have hp := g3 (renOb_live hlv)
    obtain ⟨ob2, e1, e2⟩ := hs.rep.obs _ _ hp
    rw [g1] at e1
    cases e1
    unfold locR
    rw [back_of rs id id hok hf]
    exact e2 (renOb_live hlv)
  · exact ⟨.dead, hdead, .dead, fun h => by cases h⟩
theorem SpecM.enter (b : Nat) (avs : List AV) (n : Nat) (hf : P.funcs[g]? = some fn) (hbd : fn.body = some c) (hn : fn.ntmps = n) (hl : Nat.ble avs.length n = true) (hsm : small b q = true)
    (h : ∀ loc, T P c ⟨mk0 0 avs, places b loc q ++ q, n⟩ (finM P fn loc q r q')) : SpecM P g avs q r q' := fun N B loc w vs hN hrep hbel hr => by
  subst hn
  have hlook : ∀ id ob, lookO (places b loc q ++ q) id = some ob → ob.live = true → lookO q id = some ob := by
    intro id ob h hl
    rw [lookO_app2] at h
    cases hp : lookO (places b loc q) id with
    | none => rw [hp] at h; exact h
    | some v =>
      rw [hp] at h; cases h
      obtain ⟨k, v, _, rfl⟩ := places_some b loc q id ob hp
      cases hl
  have hlook2 : ∀ id ob, lookO q id = some ob → lookO (places b loc q ++ q) id = some ob := by
    intro id ob h
    rw [lookO_app2, places_none b loc q id (small_of hsm h)]; exact h
  have hhas : ∀ id ob, Has loc (places b loc q ++ q) id ob → Has loc q id ob := fun id ob h => ⟨hlook id ob h.1 h.2.1, h.2.1, h.2.2⟩
  have hmu : ∀ k, Muts N loc (places b loc q ++ q) k → Muts N loc q k := by
    rintro k (h | ⟨id, ob, h, rfl⟩)
    · exact .inl h
    · exact .inr ⟨id, ob, hhas id ob h, rfl⟩
  have hkp : Keeps w w (Muts N loc q) (Muts N loc (places b loc q ++ q)) := keeps_less hmu
  have htu : Turns loc loc q (places b loc q ++ q) := fun id ob h => ⟨ob, hlook2 id ob h, .refl, fun _ => rfl⟩
  have hargs := AV.rels_turns hkp htu _ _ hr
  have hlen := rels_len hargs
  have hsat : Sat N B ⟨mk0 0 avs, places b loc q ++ q, fn.ntmps⟩ { tmps := vs.toArray ++ Array.replicate (fn.ntmps - vs.toArray.size) undef, defers := [] } w := by
    refine ⟨loc, ⟨⟨fun id ob hh hk => hrep.new id ob (hhas id ob hh) hk, fun id id' ob ob' h1 h2 he => hrep.inj id id' ob ob' (hhas _ _ h1) (hhas _ _ h2) he, fun id ob hl => ?_⟩, hbel, rfl, ?_, fun t => ?_⟩⟩
    · have hl : lookO (places b loc q ++ q) id = some ob := hl
      rw [lookO_app2] at hl
      cases hp : lookO (places b loc q) id with
      | none => rw [hp] at hl; exact Ob.rel_turns hkp htu ob (fun _ _ => rfl) (hrep.obs id ob hl)
      | some v =>
        rw [hp] at hl; cases hl
        obtain ⟨k, v, h1, rfl⟩ := places_some b loc q id ob hp
        exact ⟨v, hlook2 k v h1, fun _ => rfl⟩
    · have := Nat.le_of_ble_eq_true hl
      have h3 : vs.toArray.size = avs.length := by simpa using hlen
      rw [Array.size_append, Array.size_replicate, h3]
      show avs.length + (fn.ntmps - avs.length) = fn.ntmps
      omega
    · have := mk0_get2 avs vs 0 t hargs
      have e : (if 0 ≤ t ∧ t < 0 + vs.length then vs.getD (t - 0) undef else undef) = (vs.toArray ++ Array.replicate (fn.ntmps - vs.toArray.size) undef).getD t undef := by
        by_cases hc : t < vs.length
        · rw [if_pos (by omega)]
          simp [hc, Array.getD_eq_getD_getElem?, Array.getElem?_append]
        · rw [if_neg (by omega)]
          rw [Array.getD_eq_getD_getElem?, Array.getElem?_append]
          simp [hc, Array.getElem?_replicate]
          split <;> rfl
      rw [← e]
      exact this
  refine calls_of_wp hf hbd (wp_mono (h loc N B _ w hN hsat) ?_)
  intro e a' w' he
  have fin : ∀ σ, FinM P fn loc q r q' σ → Sat N B σ a' w' → a'.defers = [] ∧ ∃ u, (results fn a'.tmps).run P w' = .ok u w' ∧ ∃ u_1 loc', (Ending.returned u = Ending.returned u_1) ∧ Rep N B.old q' loc' w' ∧ AV.rel w' (Muts N loc' q') loc' q' r u_1 ∧ Bel B w' ∧ Turns loc loc' q q' := by
    rintro σ hk ⟨loc2, hs'⟩
    obtain ⟨u, loc', h1, h2, h3, h4⟩ := hk N B a' w' hN ⟨loc2, hs'⟩
    exact ⟨hs'.defers, u, h1, u, loc', rfl, h2, h3, hs'.below, h4⟩
  cases e with
  | normal => obtain ⟨σ, hk, hs'⟩ := he; exact fin σ hk hs'
  | ret => obtain ⟨σ, hk, hs'⟩ := he; exact fin σ hk hs'
  | exit id => obtain ⟨σ, hk, _⟩ := he; exact hk.elim
  | goto l => exact he.elim
  | panic ch => exact he.elim
  | outgrown => exact he.elim
end
end Go.Proofs.YtboghejfmmigkaaDoor.AE
/- More rules: what a call hands back of variables, pointers that may be nil, the text builder. -/
namespace Go.Proofs.YtboghejfmmigkaaDoor.AE
open Go Go.RowKit Go.Proofs.YtboghejfmmigkaaDoor.AP
set_option linter.unusedSimpArgs false
set_option linter.unusedVariables false
section
variable {P : Program} {fn : Func} {σ : St}
/-- A result, as it is. -/
inductive ResA (X : Cx P) (σ : St) : ResultVar → AV → Prop
  | tmp {t : Nat} {A : AV} (h : look σ.s t = A) : ResA X σ (.tmp t) A
  | bot {t : Nat} : ResA X σ (.tmp t) .bot
  | cell {v t id off : Nat} {cells : List AV} {τ : Ty} {y : τ.den} (hv : look σ.s v = .box id off) (ho : lookO σ.o id = some (.box cells)) (ht : X.ty t = some τ) (hy : gath τ ((cells.drop off).take τ.sz) = some y) : ResA X σ (.cell v t) (.v τ y)
inductive ResAs (X : Cx P) (σ : St) : List ResultVar → List AV → Prop
  | nil : ResAs X σ [] []
  | cons {r : ResultVar} {B : AV} {rs : List ResultVar} {Bs : List AV} (h : ResA X σ r B) (t : ResAs X σ rs Bs) : ResAs X σ (r :: rs) (B :: Bs)
theorem ResA.val {X : Cx P} {N : Nat → Prop} {w0 : Base} {a : Act} {w : World} {loc : Nat → Nat × Nat} (hs : SatAt N w0 σ loc a w) {r : ResultVar} {B : AV} (h : ResA X σ r B) :
    ∃ u, (resV a.tmps r).run P w = .ok u w ∧ AV.rel w (Muts N loc σ.o) loc σ.o B u := by
  cases h with
  | tmp h => exact ⟨_, rfl, h ▸ hs.slots _⟩
  | bot => exact ⟨_, rfl, rel_bot⟩
  | cell hv ho ht hy =>
    rename_i v t id off cells τ y
    have hsl := hs.slots v
    rw [hv] at hsl
    have h1 := box_ptr ho hsl
    obtain ⟨_, cur, E, hcur, hrel⟩ := box_at hs.rep ho
    have h2 := (rels_take τ.sz (rels_take off hrel).2).1
    have hr := gath_rel τ _ y _ hy h2
    have h1' : a.tmps[v]?.getD undef = .pointer (some ⟨(loc id).1, off, none⟩) := by simpa using h1
    refine ⟨τ.val ((cur.toList.drop off).take τ.sz), ?_, by rw [AV.rel]; exact ⟨_, hr, rfl⟩⟩
    have hl := Ty.relc_len _ _ _ hr
    have := run_loadVar (X.ok _ _ ht) (w := w) (a := ⟨(loc id).1, off, none⟩) hl (fun j z hj => by
      rw [add_lit]
      rw [List.getElem?_take] at hj
      split at hj
      · rw [List.getElem?_drop] at hj
        simp [World.cell?, hcur]
        simpa using hj
      · cases hj) (fun ha => by rw [hl, Ty.sz_leaf ha])
    simp [resV, h1', asAddr, this]
theorem ResAs.vals {X : Cx P} {N : Nat → Prop} {w0 : Base} {a : Act} {w : World} {loc : Nat → Nat × Nat} (hs : SatAt N w0 σ loc a w) {rs : List ResultVar} {Bs : List AV} (h : ResAs X σ rs Bs) :
    ∃ us : List Value, ((rs.mapM (resV a.tmps)) : Sem (List Value)).run P w = .ok us w ∧ us.length = rs.length ∧ AV.rels w (Muts N loc σ.o) loc σ.o Bs us := by
  induction h with
  | nil => exact ⟨[], by simp, rfl, by simp [AV.rels]⟩
  | cons h _ ih =>
    obtain ⟨u, e1, e2⟩ := h.val hs
    obtain ⟨us, e3, e5, e4⟩ := ih
    refine ⟨u :: us, ?_, by simp [e5], by rw [AV.rels]; exact ⟨u, us, rfl, e2, e4⟩⟩
    rw [List.mapM_cons, Sem.run_bind, e1, Result.andThen_ok, Sem.run_bind, e3, Result.andThen_ok]
    rfl
theorem inlR.one' {X : Cx P} {r : ResultVar} {A : AV} (hr : fn.results.toList = [r]) (h : ResA X σ r A) : inlR P fn σ A := fun N w0 loc2 a w hN hs => by
  obtain ⟨u, e1, e2⟩ := h.val hs
  refine ⟨u, ?_, e2⟩
  have e : fn.results = #[r] := by apply Array.toList_inj.1; simpa using hr
  have e3 : results fn a.tmps = (do let vs ← fn.results.mapM (resV a.tmps); pure (if h : vs.size = 1 then vs[0] else .tuple vs)) := by
    unfold results
    congr 1
  rw [e3, e]
  simp [e1]
theorem inlR.many' {X : Cx P} {rs : List ResultVar} {As : List AV} (hr : fn.results.toList = rs) (h : ResAs X σ rs As) (h1 : Nat.beq rs.length 1 = false) : inlR P fn σ (.tup As) := fun N w0 loc2 a w hN hs => by
  obtain ⟨us, e1, e5, e2⟩ := h.vals hs
  refine ⟨.tuple us.toArray, ?_, by rw [AV.rel]; exact ⟨us, rfl, e2⟩⟩
  have e : fn.results = rs.toArray := by apply Array.toList_inj.1; simpa using hr
  have hne : ¬ us.length = 1 := by rw [e5]; exact Nat.ne_of_beq_eq_false h1
  have e3 : results fn a.tmps = (do let vs ← fn.results.mapM (resV a.tmps); pure (if h : vs.size = 1 then vs[0] else .tuple vs)) := by
    unfold results
    congr 1
  rw [e3, e, List.mapM_toArray]
  simp [e1, hne]
end
section
variable {s : List (Nat × AV)} {o : Objs} {n : Nat}
/-- An object that is told no more. -/
theorem SatF.kill0 {N : Nat → Prop} {w0 : Base} {w : World} {loc : Nat → Nat × Nat} {a : Act} {F : Nat → AV} {id : Nat} (hs : SatF N w0 o n F loc a w) : SatF N w0 ((id, .dead) :: o) n F loc a w := by
  have hlk : ∀ i, lookO ((id, Ob.dead) :: o) i = if id = i then some .dead else lookO o i := fun i => lookO_cons ..
  have hold : ∀ i ob1, Has loc ((id, .dead) :: o) i ob1 → id ≠ i ∧ Has loc o i ob1 := by
    rintro i ob1 ⟨h1, h2, h3⟩
    rw [hlk] at h1
    by_cases hi : id = i
    · rw [if_pos hi] at h1; cases h1; cases h2
    · rw [if_neg hi] at h1; exact ⟨hi, h1, h2, h3⟩
  have ht : Turns loc loc o ((id, .dead) :: o) := fun i ob1 h => by
    rw [hlk]
    by_cases hi : id = i
    · exact ⟨.dead, if_pos hi, .dead, fun _ => rfl⟩
    · exact ⟨ob1, by rw [if_neg hi]; exact h, .refl, fun _ => rfl⟩
  have hk : Keeps w w (Muts N loc o) (Muts N loc ((id, .dead) :: o)) := keeps_less (by
    rintro k (h | ⟨i, ob1, h, rfl⟩)
    · exact .inl h
    · exact .inr ⟨i, ob1, (hold i ob1 h).2, rfl⟩)
  refine hs.chg hs.below hk ht ⟨fun i ob1 h => hs.rep.new i ob1 (hold i ob1 h).2, fun i i' ob1 ob2 h1 h2 he => hs.rep.inj i i' ob1 ob2 (hold i ob1 h1).2 (hold i' ob2 h2).2 he, fun i ob1 h => ?_⟩
  rw [hlk] at h
  by_cases hi : id = i
  · rw [if_pos hi] at h; cases h; trivial
  · rw [if_neg hi] at h; exact Ob.rel_turns hk ht ob1 (fun _ _ => rfl) (hs.rep.obs i ob1 h)
theorem Ghost.kill {id : Nat} {ob : Ob} (ho : lookO o id = some ob) : Ghost ⟨s, o, n⟩ ⟨s, (id, .dead) :: o, n⟩ := fun N w0 a w hN ⟨loc, hs⟩ => ⟨loc, hs.kill0⟩
theorem cell_set {w : World} {M : Nat → Prop} {loc : Nat → Nat × Nat} {A B : AV} (hAB : ∀ u, AV.rel w M loc o A u → AV.rel w M loc o B u) : ∀ (cells : List AV) (us : List Value) (j : Nat), cells[j]? = some A → AV.rels w M loc o cells us → AV.rels w M loc o (cells.set j B) us
  | [], us, j, h, hr => by cases h
  | C :: l, us, j, h, hr => by
    rw [AV.rels] at hr
    obtain ⟨u, us', h1, h2, h3⟩ := hr
    cases j with
    | zero =>
      cases h
      rw [List.set_cons_zero, AV.rels]
      exact ⟨u, us', h1, hAB u h2, h3⟩
    | succ j =>
      rw [List.set_cons_succ, AV.rels]
      exact ⟨u, us', h1, h2, cell_set hAB l us' j h h3⟩
end

/-! ### Pointers that may be nil -/
def PT (P : Program) (t : TypeId) : Prop := ∃ e f, P.underlying t = some (.pointer e) ∧ P.info? e = some f ∧ f.size ≠ 0
def chkPT (P : Program) (t : TypeId) : Bool := match P.underlying t with
  | some (.pointer e) => (match P.info? e with | some f => !Nat.beq f.size 0 | none => false)
  | _ => false
theorem PT.of {P : Program} {t : TypeId} (h : chkPT P t = true) : PT P t := by
  unfold chkPT at h
  split at h
  · rename_i e he
    split at h
    · rename_i f hf
      exact ⟨e, f, he, hf, Nat.ne_of_beq_eq_false (by simpa using h)⟩
    · cases h
  · cases h
theorem PT.nil {P : Program} {t : TypeId} (h : PT P t) (a b : Option Addr) (hab : a = none ∨ b = none) (w : World) : (Op.equal t (.pointer a) (.pointer b)).run P w = .ok (a.isNone && b.isNone) w := by
  obtain ⟨e, f, h1, h2, h3⟩ := h
  have h : ∀ d : Nat, (Op.equalIn (d + 1) t (.pointer a) (.pointer b)).run P w = .ok (a.isNone && b.isNone) w := fun d => by
    cases a with
    | none => simp [Op.equalIn, run_underlying h1]
    | some a =>
      cases b with
      | none => simp [Op.equalIn, run_underlying h1]
      | some b => rcases hab with h | h <;> cases h
  exact h 9999
theorem PT.same {P : Program} {t : TypeId} (h : PT P t) (a : Addr) (w : World) : (Op.equal t (.pointer (some a)) (.pointer (some a))).run P w = .ok true w := by
  obtain ⟨e, f, h1, h2, h3⟩ := h
  have h : ∀ d : Nat, (Op.equalIn (d + 1) t (.pointer (some a)) (.pointer (some a))).run P w = .ok true w := fun d => by
    simp [Op.equalIn, run_underlying h1, sizeOf, typeInfo, h2, run_sameAddr_same]
  exact h 9999
section
variable {P : Program} {s : List (Nat × AV)} {o : Objs} {n d : Nat} {ty : TypeId} {pos : String} {after : Array Edge} {gd : Option (Nat × Bool)} {t t' : TypeId} {x y : Operand}
theorem bin_ptr {op : BinOp} {a b : Option Addr} {r c : Bool} {w : World} {ρ : Operand → Value} (hx : ρ x = .pointer a) (hy : ρ y = .pointer b) (hop : op = .eql ∧ r = c ∨ op = .neq ∧ r = !c) (h : (Op.equal t (.pointer a) (.pointer b)).run P w = .ok c w) :
    (execOp ρ ⟨some d, .binOp op t x y t', ty, pos, after, gd⟩).run P w = .ok (.value (.bool r)) w := by
  have e1 : ∀ op, (Go.binOp op t (.pointer a) (.pointer b)) = Go.binOp op t (ρ x) (ρ y) := fun _ => by rw [hx, hy]
  refine run_bin ρ op t t' x y ⟨fun c => by rw [hx]; simp, by rw [hx]; simp⟩ ?_
  rw [hx, hy]
  rcases hop with ⟨rfl, rfl⟩ | ⟨rfl, rfl⟩
  · simp [Go.binOp, h]
  · simp [Go.binOp, h]
/-- How a pointer stands to nil. -/
inductive NilB (o : Objs) : AV → Bool → Prop
  | nilp : NilB o .nilp true
  | box {i j : Nat} {c : List AV} (h : lookO o i = some (.box c)) : NilB o (.box i j) false
  | pn {b : Bool} {i j t : Nat} {c : List AV} (h : lookO o i = some (.box c)) : NilB o (.pn b i j t) b
  | ptr {t : Ty} {x : t.den} : NilB o (.ptr t x) false
theorem NilB.val {w : World} {M : Nat → Prop} {loc : Nat → Nat × Nat} {A : AV} {b : Bool} {u : Value} (h : NilB o A b) (hr : AV.rel w M loc o A u) : ∃ a, u = .pointer a ∧ a.isNone = b := by
  cases h with
  | nilp => rw [AV.rel] at hr; exact ⟨none, hr, rfl⟩
  | box h => exact ⟨_, box_ptr h hr, rfl⟩
  | pn h =>
    rw [AV.rel] at hr
    obtain ⟨ob, h1, h2⟩ := hr
    rw [h] at h1; cases h1
    have := (h2 _ rfl).1
    cases b
    · exact ⟨_, this, rfl⟩
    · exact ⟨_, this, rfl⟩
  | ptr => rw [AV.rel] at hr; obtain ⟨ad, h1, _⟩ := hr; exact ⟨_, h1, rfl⟩
theorem Ev.e_pnil {op : BinOp} {A : AV} {c r : Bool} (hp : PT P t) (hop : op = .eql ∧ r = c ∨ op = .neq ∧ r = !c) (hx : V s o n x = A) (hA : NilB o A c) (hy : V s o n y = .nilp) (hd : Nat.blt d n = true) : Ev P ⟨some d, .binOp op t x y t', ty, pos, after, gd⟩ s o n (.v .bool r) o :=
  Ev.pure hd (fun N w0 loc a w hs => by
    obtain ⟨p, h1, h2⟩ := hA.val (hs.look (by simp [Op.operands]) hx)
    have h3 := hs.look (by simp [Op.operands]) hy
    rw [AV.rel] at h3
    exact ⟨_, bin_ptr h1 h3 hop (by rw [PT.nil hp p none (.inr rfl) w]; simp [h2]), rel_bool⟩)
/-- A pointer that may be nil, held against what it points to, if it is not. -/
theorem Ev.e_pself {op : BinOp} {c r : Bool} {i j ty' : Nat} {cells : List AV} (hp : PT P t) (hop : op = .eql ∧ r = !c ∨ op = .neq ∧ r = c) (hx : V s o n x = .pn c i j ty') (ho : lookO o i = some (.box cells)) (hy : V s o n y = .box i j) (hd : Nat.blt d n = true) : Ev P ⟨some d, .binOp op t x y t', ty, pos, after, gd⟩ s o n (.v .bool r) o :=
  Ev.pure hd (fun N w0 loc a w hs => by
    have h1 := hs.look (by simp [Op.operands]) hx
    have h2 := box_ptr ho (hs.look (by simp [Op.operands]) hy)
    rw [AV.rel] at h1
    obtain ⟨ob, h3, h4⟩ := h1
    rw [ho] at h3; cases h3
    have h4 := (h4 _ rfl).1
    cases c with
    | true => exact ⟨_, bin_ptr (c := false) h4 h2 (by rcases hop with ⟨rfl, rfl⟩ | ⟨rfl, rfl⟩ <;> simp) (by simpa using PT.nil hp none (some ⟨(loc i).1, j, none⟩) (.inl rfl) w), rel_bool⟩
    | false => exact ⟨_, bin_ptr (c := true) h4 h2 (by rcases hop with ⟨rfl, rfl⟩ | ⟨rfl, rfl⟩ <;> simp) (PT.same hp _ w), rel_bool⟩)
theorem Ev.w0 {op : Oper} {A : AV} (h : Ev P op s o n A ([] ++ o)) : Ev P op s o n A o := h
theorem Ev.w1 {op : Oper} {A : AV} {i1 : Nat} {b1 : Ob} {o1 : Objs} (h : Ev P op s o n A ([(i1, b1)] ++ o1)) : Ev P op s o n A ((i1, b1) :: o1) := h
theorem Ev.w2 {op : Oper} {A : AV} {i1 i2 : Nat} {b1 b2 : Ob} {o1 : Objs} (h : Ev P op s o n A ([(i1, b1), (i2, b2)] ++ o1)) : Ev P op s o n A ((i1, b1) :: (i2, b2) :: o1) := h
theorem Ev.w3 {op : Oper} {A : AV} {i1 i2 i3 : Nat} {b1 b2 b3 : Ob} {o1 : Objs} (h : Ev P op s o n A ([(i1, b1), (i2, b2), (i3, b3)] ++ o1)) : Ev P op s o n A ((i1, b1) :: (i2, b2) :: (i3, b3) :: o1) := h
theorem Ev.w4 {op : Oper} {A : AV} {i1 i2 i3 i4 : Nat} {b1 b2 b3 b4 : Ob} {o1 : Objs} (h : Ev P op s o n A ([(i1, b1), (i2, b2), (i3, b3), (i4, b4)] ++ o1)) : Ev P op s o n A ((i1, b1) :: (i2, b2) :: (i3, b3) :: (i4, b4) :: o1) := h
theorem Ev.w10 {op : Oper} {A : AV} {i1 i2 i3 i4 i5 i6 i7 i8 i9 i10 : Nat} {b1 b2 b3 b4 b5 b6 b7 b8 b9 b10 : Ob} {o1 : Objs} (h : Ev P op s o n A ([(i1, b1), (i2, b2), (i3, b3), (i4, b4), (i5, b5), (i6, b6), (i7, b7), (i8, b8), (i9, b9), (i10, b10)] ++ o1)) : Ev P op s o n A ((i1, b1) :: (i2, b2) :: (i3, b3) :: (i4, b4) :: (i5, b5) :: (i6, b6) :: (i7, b7) :: (i8, b8) :: (i9, b9) :: (i10, b10) :: o1) := h
end
end Go.Proofs.YtboghejfmmigkaaDoor.AE
