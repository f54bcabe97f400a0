/- The code comes to the printed functions (printed by a program of ours). -/
import Derived.Test.YtihaljbhcnflfaaDoorQWT2
import Derived.Lib.Builder
import Derived.LaidEqlPtr
import Derived.Lib.AppendStr
import Derived.Lib.UnsafeStr
import Derived.Laws.Externs
import Derived.Test.YtihaljbhcnflfaaDoorProg
/- A call that is stepped in place: what is lent may change. -/
namespace Go.Proofs.YtihaljbhcnflfaaDoor.AE
open Go Go.RowKit Go.Proofs.YtihaljbhcnflfaaDoor.AP
set_option linter.unusedSimpArgs false
set_option linter.unusedVariables false
/-- where the objects lie -/
def places (b : Nat) (loc : Nat → Nat × Nat) : Objs → Objs
  | [] => []
  | (i, _) :: r => (b + i, .place i (loc i).1 (loc i).2) :: places b loc r
def small (b : Nat) : Objs → Bool
  | [] => true
  | (i, _) :: r => Nat.blt i b && small b r
theorem small_of {b : Nat} : ∀ {o : Objs} {i : Nat} {ob : Ob}, small b o = true → lookO o i = some ob → i < b
  | (k, v) :: r, i, ob, h, hl => by
    unfold small at h
    rw [Bool.and_eq_true] at h
    rw [lookO_cons] at hl
    by_cases hk : k = i
    · subst hk; exact Nat.le_of_ble_eq_true h.1
    · rw [if_neg hk] at hl; exact small_of h.2 hl
theorem places_none (b : Nat) (loc : Nat → Nat × Nat) : ∀ (o : Objs) (i : Nat), i < b → lookO (places b loc o) i = none
  | [], _, _ => rfl
  | (k, v) :: r, i, h => by
    show lookO ((b + k, _) :: places b loc r) i = none
    rw [lookO_cons, if_neg (by omega)]
    exact places_none b loc r i h
theorem places_some (b : Nat) (loc : Nat → Nat × Nat) : ∀ (o : Objs) (i : Nat) (ob : Ob), lookO (places b loc o) i = some ob → ∃ k v, lookO o k = some v ∧ ob = .place k (loc k).1 (loc k).2
  | (k, v) :: r, i, ob, h => by
    have h : lookO ((b + k, Ob.place k (loc k).1 (loc k).2) :: places b loc r) i = some ob := h
    rw [lookO_cons] at h
    by_cases hk : b + k = i
    · rw [if_pos hk] at h; cases h
      exact ⟨k, v, by rw [lookO_cons, if_pos rfl], rfl⟩
    · rw [if_neg hk] at h
      obtain ⟨k', v', h1, h2⟩ := places_some b loc r i ob h
      by_cases hkk : k = k'
      · subst hkk; exact ⟨k, v, by rw [lookO_cons, if_pos rfl], h2⟩
      · exact ⟨k', v', by rw [lookO_cons, if_neg hkk]; exact h1, h2⟩
theorem lookO_app2 : ∀ (a b : Objs) (i : Nat), lookO (a ++ b) i = (match lookO a i with | some v => some v | none => lookO b i)
  | [], b, i => rfl
  | (k, v) :: r, b, i => by
    show lookO ((k, v) :: (r ++ b)) i = _
    rw [lookO_cons, lookO_cons]
    by_cases hk : k = i
    · rw [if_pos hk, if_pos hk]
    · rw [if_neg hk, if_neg hk]; exact lookO_app2 r b i
/-- what was lent is still there -/
def Back (b : Nat) (loc : Nat → Nat × Nat) (o2 : Objs) : Objs → Prop
  | [] => True
  | (id, ob) :: r => (∃ ob', lookO o2 id = some ob' ∧ Compat ob ob' ∧ (ob'.live = true → lookO o2 (b + id) = some (.place id (loc id).1 (loc id).2))) ∧ Back b loc o2 r
theorem Back.get {b : Nat} {loc : Nat → Nat × Nat} {o2 : Objs} : ∀ {o : Objs} {id : Nat} {ob : Ob}, Back b loc o2 o → lookO o id = some ob → ∃ ob', lookO o2 id = some ob' ∧ Compat ob ob' ∧ (ob'.live = true → lookO o2 (b + id) = some (.place id (loc id).1 (loc id).2))
  | (k, v) :: r, id, ob, h, hl => by
    rw [lookO_cons] at hl
    by_cases hk : k = id
    · rw [if_pos hk] at hl; cases hl; subst hk; exact h.1
    · rw [if_neg hk] at hl; exact h.2.get hl
section
variable {P : Program} {all : Array Oper} {l : List Oper} {s : List (Nat × AV)} {o : Objs} {n d : Nat} {ty : TypeId} {pos : String} {after : Array Edge}
/-- what a function hands back, as it lies in its slots -/
def inlR (P : Program) (fn : Func) (σ : St) (A : AV) : Prop :=
  ∀ N w0 loc2 a w, (∀ k, N k → w0.old k) → SatAt N w0 σ loc2 a w → ∃ u, (results fn a.tmps).run P w = .ok u w ∧ AV.rel w (Muts N loc2 σ.o) loc2 σ.o A u
theorem inlR.one {fn : Func} {σ : St} {t : Nat} {A : AV} (hr : fn.results = #[.tmp t]) (hA : look σ.s t = A) : inlR P fn σ A := fun N w0 loc2 a w hN hs => by
  refine ⟨a.tmps.getD t undef, by simp [results, hr], ?_⟩
  have := hs.slots t
  rwa [show look σ.s t = A from hA] at this
theorem inlR.many {fn : Func} {σ : St} {ts : List Nat} {As : List AV} (hr : fn.results.toList = ts.map .tmp) (h1 : Nat.beq ts.length 1 = false) (hA : ts.map (look σ.s) = As) : inlR P fn σ (.tup As) := fun N w0 loc2 a w hN hs => by
  have key : ∀ ts : List Nat, (((ts.map ResultVar.tmp).mapM (resV a.tmps)) : Sem (List Value)).run P w = .ok (ts.map fun t => a.tmps.getD t undef) w := by
    intro ts
    induction ts with
    | nil => simp
    | cons t ts ih =>
      rw [List.map_cons, List.mapM_cons, Sem.run_bind, show (resV a.tmps (.tmp t)).run P w = .ok (a.tmps.getD t undef) w from rfl, Result.andThen_ok, Sem.run_bind, ih, Result.andThen_ok]
      rfl
  have krel : ∀ ts : List Nat, AV.rels w (Muts N loc2 σ.o) loc2 σ.o (ts.map (look σ.s)) (ts.map fun t => a.tmps.getD t undef) := by
    intro ts
    induction ts with
    | nil => simp [AV.rels]
    | cons t ts ih =>
      rw [List.map_cons, List.map_cons, AV.rels]
      exact ⟨_, _, rfl, hs.slots t, ih⟩
  refine ⟨.tuple (ts.map fun t => a.tmps.getD t undef).toArray, ?_, ?_⟩
  · have e : fn.results = (ts.map ResultVar.tmp).toArray := by apply Array.toList_inj.1; simpa using hr
    have hne : ¬ (ts.map fun t => a.tmps.getD t undef).length = 1 := by rw [List.length_map]; exact Nat.ne_of_beq_eq_false h1
    have e2 : results fn a.tmps = (do let vs ← fn.results.mapM (resV a.tmps); pure (if h : vs.size = 1 then vs[0] else .tuple vs)) := by
      unfold results
      congr 1
    have k2 := key ts
    rw [e2, e, List.mapM_toArray]
    generalize ts.map ResultVar.tmp = rs at *
    generalize (ts.map fun t => a.tmps.getD t undef) = vs at *
    simp [k2, hne]
  · rw [AV.rel]
    exact ⟨_, rfl, by rw [← hA]; exact krel ts⟩
/-- how the run goes on behind a call that was stepped in place -/
def inlK (P : Program) (fn : Func) (b : Nat) (loc : Nat → Nat × Nat) (all : Array Oper) (l : List Oper) (s : List (Nat × AV)) (o : Objs) (n d : Nat) (K : St → Prop) (σ : St) : Prop :=
  ∃ A, inlR P fn σ A ∧ Back b loc σ.o o ∧ Run P all l ⟨(d, A) :: s, σ.o, n⟩ K
def inlO (P : Program) (fn : Func) (b : Nat) (loc : Nat → Nat × Nat) (all : Array Oper) (l : List Oper) (s : List (Nat × AV)) (o : Objs) (n d : Nat) (K : St → Prop) : Out → Prop
  | .normal σ => inlK P fn b loc all l s o n d K σ
  | .ret σ => inlK P fn b loc all l s o n d K σ
  | .exit _ _ => False
theorem mk0_get2 {w : World} {M : Nat → Prop} {loc : Nat → Nat × Nat} {o : Objs} : ∀ (avs : List AV) (us : List Value) (i t : Nat), AV.rels w M loc o avs us → AV.rel w M loc o (look (mk0 i avs) t) (if i ≤ t ∧ t < i + us.length then us.getD (t - i) undef else undef)
  | [], us, i, t, _ => by
    show AV.rel _ _ _ _ .bot _
    rw [AV.rel]; trivial
  | A :: avs, us, i, t, h => by
    rw [AV.rels] at h
    obtain ⟨u, us', rfl, h1, h2⟩ := h
    unfold mk0 look
    cases hb : Nat.beq i t with
    | true =>
      obtain rfl := Nat.eq_of_beq_eq_true hb
      simpa using h1
    | false =>
      have hne : i ≠ t := Nat.ne_of_beq_eq_false hb
      have := mk0_get2 avs us' (i + 1) t h2
      have e : (if i + 1 ≤ t ∧ t < i + 1 + us'.length then us'.getD (t - (i + 1)) undef else undef) = (if i ≤ t ∧ t < i + (u :: us').length then (u :: us').getD (t - i) undef else undef) := by
        by_cases hc : i + 1 ≤ t ∧ t < i + 1 + us'.length
        · rw [if_pos hc, if_pos (by simp; omega)]
          obtain ⟨m, rfl⟩ : ∃ m, t = i + 1 + m := ⟨t - (i + 1), by omega⟩
          rw [show i + 1 + m - i = m + 1 by omega, show i + 1 + m - (i + 1) = m by omega]
          simp
        · rw [if_neg hc, if_neg (by simp; omega)]
      rw [e] at this
      exact this
theorem rels_app2 {w : World} {M : Nat → Prop} {loc : Nat → Nat × Nat} {o : Objs} : ∀ {a b : List AV} {x y : List Value}, AV.rels w M loc o a x → AV.rels w M loc o b y → AV.rels w M loc o (a ++ b) (x ++ y)
  | [], b, x, y, h, k => by rw [AV.rels] at h; subst h; exact k
  | A :: a, b, x, y, h, k => by
    rw [AV.rels] at h
    obtain ⟨u, us', rfl, h1, h2⟩ := h
    show AV.rels w M loc o (A :: (a ++ b)) _
    rw [AV.rels]
    exact ⟨u, us' ++ y, rfl, h1, rels_app2 h2 k⟩
/-- A call that is stepped in place. -/
theorem Run.inl (b : Nat) {f : Operand} {args : Array Operand} {ts : Array TypeId} {g : Nat} {caps avs : List AV} {fn : Func} {c : Code} {K : St → Prop} (hg : Enters P g) (hfn : P.funcs[g]? = some fn) (hbd : fn.body = some c)
    (hf : V s o n f = .fn g caps) (hv : args.toList.map (V s o n) ++ caps = avs) (hn : Nat.ble avs.length fn.ntmps = true) (hd : Nat.blt d n = true) (hsm : small b o = true)
    (h : ∀ loc : Nat → Nat × Nat, T P c ⟨mk0 0 avs, places b loc o ++ o, fn.ntmps⟩ (inlO P fn b loc all l s o n d K)) :
    Run P all (⟨some d, .call ⟨.value f, args, ts⟩, ty, pos, after, none⟩ :: l) ⟨s, o, n⟩ K := Run.mk fun N w0 a w Q q hN hs hl hK => by
  obtain ⟨h1, h2⟩ := drop_head hl
  obtain ⟨loc, hs⟩ := hs
  rw [List.length_cons, List.range'_succ]
  unfold wpOps
  rw [h1]
  dsimp only
  rw [if_pos (show Region.wanted _ _ = true from rfl)]
  refine .inl ?_
  have hlk : Lk N w0 s o n (Op.call ⟨.value f, args, ts⟩).operands loc a w := hs.lk (fun _ _ => rfl)
  have hfv := hlk.look call_ops.1 hf
  rw [AV.rel] at hfv
  obtain ⟨us, hfu, hus⟩ := hfv
  unfold Oper.wp
  rw [run_call hg hfu w, Oper.upon_enter]
  -- the callee's base: all that stands, but what lies in objects
  have hold : ∀ k, w0.old k → k < w.heap.size ∧ ¬ ∃ id ob, Has loc o id ob ∧ (loc id).1 = k := fun k hk => ⟨hs.below.lt hk, by rintro ⟨id, ob, hh, rfl⟩; exact hs.rep.new id ob hh hk⟩
  obtain ⟨B, hBw, hBo⟩ : ∃ B : Base, B.w = w ∧ B.old = fun k => k < w.heap.size ∧ ¬ ∃ id ob, Has loc o id ob ∧ (loc id).1 = k :=
    ⟨⟨w, fun k => k < w.heap.size ∧ ¬ ∃ id ob, Has loc o id ob ∧ (loc id).1 = k, fun _ h => h.1, fun w' e1 e2 => w0.glo w' (Nat.le_trans hs.below.size e1) (fun k hk => (e2 k (hold k hk)).trans (hs.below.block k hk))⟩, rfl, rfl⟩
  have hbl : Bel B w := by rw [← hBw]; exact Bel.refl B
  have hlook : ∀ id ob, lookO (places b loc o ++ o) id = some ob → ob.live = true → lookO o id = some ob := by
    intro id ob h hl
    rw [lookO_app2] at h
    cases hp : lookO (places b loc o) id with
    | none => rw [hp] at h; exact h
    | some v =>
      rw [hp] at h; cases h
      obtain ⟨k, v, _, rfl⟩ := places_some b loc o id ob hp
      cases hl
  have hlook2 : ∀ id ob, lookO o id = some ob → lookO (places b loc o ++ o) id = some ob := by
    intro id ob h
    rw [lookO_app2, places_none b loc o id (small_of hsm h)]; exact h
  have hhas : ∀ id ob, Has loc (places b loc o ++ o) id ob → Has loc o id ob := fun id ob h => ⟨hlook id ob h.1 h.2.1, h.2.1, h.2.2⟩
  have hmu : ∀ k, Muts N loc (places b loc o ++ o) k → Muts N loc o k := by
    rintro k (h | ⟨id, ob, h, rfl⟩)
    · exact .inl h
    · exact .inr ⟨id, ob, hhas id ob h, rfl⟩
  have hkp : Keeps w w (Muts N loc o) (Muts N loc (places b loc o ++ o)) := keeps_less hmu
  have htu : Turns loc loc o (places b loc o ++ o) := fun id ob h => ⟨ob, hlook2 id ob h, .refl, fun _ => rfl⟩
  have hargs : AV.rels w (Muts N loc (places b loc o ++ o)) loc (places b loc o ++ o) avs (args.toList.map a.eval ++ us) := by
    refine AV.rels_turns hkp htu _ _ ?_
    rw [← hv]
    exact rels_app2 (ops_rels hlk _ call_ops.2) hus
  have hlen := rels_len hargs
  have hall : (args.toList.map a.eval ++ us).toArray = args.map a.eval ++ us.toArray := by apply Array.toList_inj.1; simp
  rw [← hall]
  have hsat : Sat N B ⟨mk0 0 avs, places b loc o ++ o, fn.ntmps⟩ { tmps := (args.toList.map a.eval ++ us).toArray ++ Array.replicate (fn.ntmps - (args.toList.map a.eval ++ us).toArray.size) undef, defers := [] } w := by
    refine ⟨loc, ⟨⟨fun id ob hh hk => ?_, fun id id' ob ob' h1 h2 he => hs.rep.inj id id' ob ob' (hhas _ _ h1) (hhas _ _ h2) he, fun id ob hl => ?_⟩, hbl, rfl, ?_, fun t => ?_⟩⟩
    · rw [hBo] at hk; exact hk.2 ⟨id, ob, hhas id ob hh, rfl⟩
    · have hl : lookO (places b loc o ++ o) id = some ob := hl
      rw [lookO_app2] at hl
      cases hp : lookO (places b loc o) id with
      | none => rw [hp] at hl; exact Ob.rel_turns hkp htu ob (fun _ _ => rfl) (hs.rep.obs id ob hl)
      | some v =>
        rw [hp] at hl; cases hl
        obtain ⟨k, v, h1, rfl⟩ := places_some b loc o id ob hp
        exact ⟨v, hlook2 k v h1, fun _ => rfl⟩
    · have := Nat.le_of_ble_eq_true hn
      have h3 : (args.toList.map a.eval ++ us).toArray.size = avs.length := by simpa using hlen
      rw [Array.size_append, Array.size_replicate, h3]
      show avs.length + (fn.ntmps - avs.length) = fn.ntmps
      omega
    · generalize args.toList.map a.eval ++ us = vs at *
      have := mk0_get2 avs vs 0 t hargs
      have e : (if 0 ≤ t ∧ t < 0 + vs.length then vs.getD (t - 0) undef else undef) = (vs.toArray ++ Array.replicate (fn.ntmps - vs.toArray.size) undef).getD t undef := by
        by_cases hc : t < vs.length
        · rw [if_pos (by omega)]
          simp [hc, Array.getD_eq_getD_getElem?, Array.getElem?_append]
        · rw [if_neg (by omega)]
          rw [Array.getD_eq_getD_getElem?, Array.getElem?_append]
          simp [hc, Array.getElem?_replicate]
          split <;> rfl
      rw [← e]
      exact this
  have hNB : ∀ k, N k → B.old k := fun k hk => by rw [hBo]; exact hold k (hN k hk)
  have fin : ∀ σ a' w', inlK P fn b loc all l s o n d K σ → Sat N B σ a' w' → a'.defers = [] ∧ ∃ u, (results fn a'.tmps).run P w' = .ok u w' ∧ wpOps P all Q (List.range' (q + 1) l.length) (a.put (some d) u) w' := by
    rintro σ a' w' ⟨A, hA, hback, hrun⟩ ⟨loc', hs'⟩
    obtain ⟨u, hu, hur⟩ := hA N B loc' a' w' hNB hs'
    refine ⟨hs'.defers, u, hu, ?_⟩
    have hbl' := hs'.below
    have hsz : w.heap.size ≤ w'.heap.size := by have := hbl'.size; rwa [hBw] at this
    have hblk : ∀ k, k < w.heap.size → (¬ ∃ id ob, Has loc o id ob ∧ (loc id).1 = k) → w'.heap[k]? = w.heap[k]? := fun k h1 h2 => by
      have := hbl'.block k (by rw [hBo]; exact ⟨h1, h2⟩)
      rwa [hBw] at this
    have hk : Keeps w w' (Muts N loc o) (Muts N loc' σ.o) := ⟨hsz, fun k h1 h2 => hblk k h1 (fun ⟨id, ob, hh, he⟩ => h2 (.inr ⟨id, ob, hh, he⟩)), fun k h1 h2 => by
      rcases h2 with h2 | ⟨id, ob, hh, rfl⟩
      · exact .inl h2
      · have h3 := hs'.rep.new id ob hh
        rw [hBo] at h3
        apply Classical.byContradiction
        intro h4
        exact h3 ⟨h1, fun ⟨i2, o2, hh2, he2⟩ => h4 (.inr ⟨i2, o2, hh2, he2⟩)⟩⟩
    have ht : Turns loc loc' o σ.o := fun id ob hl => by
      obtain ⟨ob', g1, g2, g3⟩ := hback.get hl
      refine ⟨ob', g1, g2, fun hlv => ?_⟩
      obtain ⟨ob2, e1, e2⟩ := hs'.rep.obs _ _ (g3 hlv)
      rw [g1] at e1
      cases e1
      exact e2 hlv
    have hs2 : SatF N w0 σ.o n (look s) loc' a w' := by
      refine ⟨⟨fun id ob hh hk0 => hs'.rep.new id ob hh (by rw [hBo]; exact hold _ hk0), hs'.rep.inj, hs'.rep.obs⟩, ?_, hs.defers, hs.size, fun t => AV.rel_turns hk ht _ _ (hs.slots t)⟩
      refine ⟨?_, ?_, ?_, Nat.le_trans hs.below.size hsz, fun k hk0 => (hblk k (hold k hk0).1 (hold k hk0).2).trans (hs.below.block k hk0)⟩
      · have := hbl'.os; rw [hBw] at this; exact this.trans hs.below.os
      · have := hbl'.tape; rw [hBw] at this; exact this.trans hs.below.tape
      · have := hbl'.output; rw [hBw] at this; exact this.trans hs.below.output
    exact hrun.out N w0 _ w' Q (q + 1) hN ⟨loc', hs2.put hd hur⟩ h2 hK
  refine Calls.mono (calls_of_wp (R := fun e w' => ∃ u, e = .returned u ∧ wpOps P all Q (List.range' (q + 1) l.length) (a.put (some d) u) w') hfn hbd (wp_mono (h loc N B _ w hNB hsat) ?_)) ?_
  · intro e a' w' he
    cases e with
    | normal =>
      obtain ⟨σ, hk, hs'⟩ := he
      obtain ⟨e1, u, e2, e3⟩ := fin σ a' w' hk hs'
      exact ⟨e1, u, e2, u, rfl, e3⟩
    | ret =>
      obtain ⟨σ, hk, hs'⟩ := he
      obtain ⟨e1, u, e2, e3⟩ := fin σ a' w' hk hs'
      exact ⟨e1, u, e2, u, rfl, e3⟩
    | exit id => obtain ⟨σ, hk, _⟩ := he; exact hk.elim
    | goto l => exact he.elim
    | panic ch => exact he.elim
    | outgrown => exact he.elim
  · rintro e w' ⟨u, rfl, hw⟩
    exact hw
end
end Go.Proofs.YtihaljbhcnflfaaDoor.AE
/- Calls that are lent what may change: what a function makes of the objects that are handed in. -/
namespace Go.Proofs.YtihaljbhcnflfaaDoor.AE
open Go Go.RowKit Go.Proofs.YtihaljbhcnflfaaDoor.AP
set_option linter.unusedSimpArgs false
set_option linter.unusedVariables false

/-- Called with these values, where these objects lie: what comes back, and what the objects come to. -/
def SpecM (P : Program) (g : Nat) (avs : List AV) (q : Objs) (r : AV) (q' : Objs) : Prop :=
  ∀ (N : Nat → Prop) (B : Base) (loc : Nat → Nat × Nat) (w : World) (vs : List Value), (∀ k, N k → B.old k) → Rep N B.old q loc w → Bel B w → AV.rels w (Muts N loc q) loc q avs vs →
    Calls P g vs.toArray w fun e w' => ∃ u loc', e = .returned u ∧ Rep N B.old q' loc' w' ∧ AV.rel w' (Muts N loc' q') loc' q' r u ∧ Bel B w' ∧ Turns loc loc' q q'

theorem fnd_of_back : ∀ (rs : List (Nat × Nat)) (i j : Nat), okRen rs = true → back rs j = some i → fnd rs i = some j
  | [], _, _, _, h => by cases h
  | (x, y) :: r, i, j, ho, h => by
    obtain ⟨h1, h2⟩ := ren_all ho
    unfold back at h
    unfold fnd
    cases hb : Nat.beq y j with
    | true => rw [hb] at h; cases h; rw [Nat.beq_refl, Nat.eq_of_beq_eq_true hb]
    | false =>
      rw [hb] at h
      have h3 := fnd_of_back r i j h1 h
      have := (h2 i j (fnd_mem r i j h3)).1
      have : Nat.beq x i = false := by
        cases hc : Nat.beq x i with
        | true => exact absurd (Nat.eq_of_beq_eq_true hc).symm this
        | false => rfl
      rw [this]
      exact h3
theorem mapO_none (rs0 : List (Nat × Nat)) (o : Objs) : ∀ (rs : List (Nat × Nat)) (j : Nat), back rs j = none → lookO (mapO rs0 o rs) j = none
  | [], _, _ => rfl
  | (x, y) :: r, j, h => by
    unfold back at h
    unfold mapO
    show (match Nat.beq y j with | true => _ | false => _) = none
    cases hb : Nat.beq y j with
    | true => rw [hb] at h; cases h
    | false => rw [hb] at h; exact mapO_none rs0 o r j h
theorem fnd_of_mem : ∀ (rs : List (Nat × Nat)) (i j : Nat), okRen rs = true → (i, j) ∈ rs → fnd rs i = some j
  | (x, y) :: r, i, j, ho, h => by
    obtain ⟨h1, h2⟩ := ren_all ho
    unfold fnd
    rcases List.mem_cons.1 h with h | h
    · cases h; rw [Nat.beq_refl]
    · have := (h2 i j h).1
      have : Nat.beq x i = false := by
        cases hc : Nat.beq x i with
        | true => exact absurd (Nat.eq_of_beq_eq_true hc).symm this
        | false => rfl
      rw [this]
      exact fnd_of_mem r i j h1 h
def noPl : Objs → Bool
  | [] => true
  | (_, .place _ _ _) :: _ => false
  | _ :: r => noPl r
theorem noPl_of : ∀ {o : Objs} {id i b c : Nat}, noPl o = true → lookO o id = some (.place i b c) → False
  | (k, v) :: r, id, i, b, c, h, hl => by
    have hr : noPl r = true := by cases v <;> first | exact h | cases h
    rw [lookO_cons] at hl
    by_cases hk : k = id
    · rw [if_pos hk] at hl; cases hl; cases h
    · rw [if_neg hk] at hl; exact noPl_of hr hl
theorem renOb_live {rs : List (Nat × Nat)} {ob : Ob} (h : (renOb rs (some ob)).live = true) : ob.live = true := by
  cases ob with
  | place i b c =>
    unfold renOb at h
    dsimp only at h
    split at h <;> cases h
  | dead => cases h
  | _ => rfl
theorem renOb_live' {rs : List (Nat × Nat)} {ob : Ob} (h : ob.live = true) : (renOb rs (some ob)).live = true := by
  cases ob with
  | place i b c => cases h
  | dead => cases h
  | _ => rfl
theorem Compat.ren {a b : Ob} {rs : List (Nat × Nat)} (hp : ∀ i x c, a ≠ .place i x c) (h : Compat a b) : Compat a (renOb rs (some b)) := by
  cases h with
  | refl =>
    cases a with
    | arr E t l => exact .refl
    | box c => exact .box
    | map kt vt l => exact .refl
    | siter s p => exact .refl
    | dead => exact .refl
    | place i x c => exact absurd rfl (hp i x c)
  | dead => exact .dead
  | arr h => exact .arr h
  | box => exact .box
  | map => exact .map
  | siter => exact .siter
/-- A row by its other name, and what became of it. -/
theorem Compat.ren2 {a b : Ob} {rs rs' : List (Nat × Nat)} (hp : ∀ i x c, renOb rs (some a) ≠ .place i x c) (h : Compat (renOb rs (some a)) b) : Compat a (renOb rs' (some b)) ∨ (∃ i x c, a = .place i x c) := by
  cases a with
  | place i x c => exact .inr ⟨i, x, c, rfl⟩
  | arr E t l => exact .inl (Compat.ren (by rintro _ _ _ ⟨⟩) h)
  | map kt vt l => exact .inl (Compat.ren (by rintro _ _ _ ⟨⟩) h)
  | siter s p => exact .inl (Compat.ren (by rintro _ _ _ ⟨⟩) h)
  | dead => cases h <;> exact .inl .refl
  | box c =>
    left
    have h : Compat (.box (renAVs rs c)) b := h
    cases h with
    | refl => exact .box
    | dead => exact .dead
    | box => exact .box
/-- How what is handed in is read by the one that is called. -/
inductive ViewM (rs : List (Nat × Nat)) : AV → AV → Prop
  | ren {A B : AV} (h : renAV rs A = B) : ViewM rs A B
  | c {A B : AV} (h : ViewC A B) : ViewM rs A B
inductive ViewsM (rs : List (Nat × Nat)) : List AV → List AV → Prop
  | nil : ViewsM rs [] []
  | cons {A B : AV} {avs bs : List AV} (h : ViewM rs A B) (t : ViewsM rs avs bs) : ViewsM rs (A :: avs) (B :: bs)
theorem viewC_calm {w : World} {M M' : Nat → Prop} {loc loc' : Nat → Nat × Nat} {o o' : Objs} {A B : AV} {u : Value} (hk : Keeps w w M M') (h : ViewC A B) (hr : AV.rel w M loc o A u) : AV.rel w M' loc' o' B u := by
  have h1 : AV.rel w M loc' [] B u := h.rel hr
  exact AV.rel_turns hk Turns.none B u h1
theorem viewsM_rels {w : World} {M M' : Nat → Prop} {loc : Nat → Nat × Nat} {o : Objs} {rs : List (Nat × Nat)} (hok : okRen rs = true) (hk : Keeps w w M M') : ∀ {As Bs : List AV} {us : List Value}, ViewsM rs As Bs → AV.rels w M loc o As us → AV.rels w M' (locR rs loc) (mapO rs o rs) Bs us
  | _, _, us, .nil, hr => by rw [AV.rels] at hr ⊢; exact hr
  | _, _, us, .cons h t, hr => by
    rw [AV.rels] at hr ⊢
    obtain ⟨u, us', h1, h2, h3⟩ := hr
    refine ⟨u, us', h1, ?_, viewsM_rels hok hk t h3⟩
    cases h with
    | ren h => rw [← h]; exact ren_rel hok hk _ _ h2
    | c h => exact viewC_calm hk h h2
section
variable {N : Nat → Prop} {w0 : Base} {w : World} {loc : Nat → Nat × Nat} {a : Act} {o : Objs} {n : Nat} {F : Nat → AV}
theorem has_ren {rs : List (Nat × Nat)} (hok : okRen rs = true) {j : Nat} {ob' : Ob} (h : Has (locR rs loc) (mapO rs o rs) j ob') : ∃ i ob, fnd rs i = some j ∧ Has loc o i ob ∧ locR rs loc j = loc i := by
  obtain ⟨h1, h2, h3⟩ := h
  obtain ⟨i, g1, g2⟩ := of_mapO rs o rs j ob' hok h1
  have hl : locR rs loc j = loc i := by unfold locR; rw [back_of rs i j hok g1]
  rw [hl] at h3
  cases ho : lookO o i with
  | none => rw [ho] at g2; rw [g2] at h2; cases h2
  | some ob => rw [ho] at g2; rw [g2] at h2; exact ⟨i, ob, g1, ⟨ho, renOb_live h2, h3⟩, hl⟩
theorem muts_ren {rs : List (Nat × Nat)} (hok : okRen rs = true) : ∀ k, Muts N (locR rs loc) (mapO rs o rs) k → Muts N loc o k := by
  rintro k (h | ⟨j, ob', h, rfl⟩)
  · exact .inl h
  · obtain ⟨i, ob, _, h2, h3⟩ := has_ren hok h
    rw [h3]; exact .inr ⟨i, ob, h2, rfl⟩
end
/-- All names that are lent come back, and new ones are new. -/
def okBk (rs rs' : List (Nat × Nat)) (o : Objs) : Bool :=
  (rs.all fun p => match fnd rs' p.2 with | some y => Nat.beq y p.1 | none => false) && (rs'.all fun p => (match fnd rs p.2 with | some _ => true | none => false) || (match lookO o p.2 with | none => true | some _ => false))

section
variable {P : Program} {s : List (Nat × AV)} {o : Objs} {n : Nat} {ty : TypeId} {pos : String} {after : Array Edge} {gd : Option (Nat × Bool)}
theorem SatF.put' {N : Nat → Prop} {w0 : Base} {w : World} {loc : Nat → Nat × Nat} {a : Act} {F : Nat → AV} {d : Option Nat} {A : AV} {u : Value} (h : SatF N w0 o n F loc a w) (hd : (match d with | some d => Nat.blt d n | none => true) = true) (hu : AV.rel w (Muts N loc o) loc o A u) :
    SatF N w0 o n (upd F d A) loc (a.put d u) w := by
  cases d with
  | none => exact h
  | some d => exact h.put hd hu
/-- A call of what is lent what may change. -/
theorem Ev.lendM0 {d : Option Tmp} {f : Operand} {args : Array Operand} {ts : Array TypeId} {g : Nat} {caps avs : List AV} {r A : AV} {q q' o' : Objs} (rs rs' : List (Nat × Nat))
    (hg : Enters P g) (hS : SpecM P g avs q r q') (hf : V s o n f = .fn g caps) (hv : ViewsM rs (args.toList.map (V s o n) ++ caps) avs)
    (hq : mapO rs o rs = q) (hok : okRen rs = true) (hok' : okRen rs' = true) (hb : okBk rs rs' o = true) (hpl : noPl q = true)
    (hA : renAV rs' r = A) (ho : mapO rs' q' rs' ++ o = o') (hd : (match d with | some d => Nat.blt d n | none => true) = true) :
    Ev P ⟨d, .call ⟨.value f, args, ts⟩, ty, pos, after, gd⟩ s o n A o' :=
  Ev.calls hg fun F hF N w0 loc a w hN hs hl => by
    have hfr := hl.look call_ops.1 hf
    rw [AV.rel] at hfr
    obtain ⟨us, e1, e2⟩ := hfr
    refine ⟨us.toArray, e1, ?_⟩
    have hr := rels_append (ops_rels hl args.toList call_ops.2) e2
    subst hq
    -- the callee's base
    have hold : ∀ k, w0.old k → k < w.heap.size ∧ ¬ ∃ id ob, Has loc o id ob ∧ (∃ j, fnd rs id = some j) ∧ (loc id).1 = k := fun k hk => ⟨hs.below.lt hk, by rintro ⟨id, ob, hh, _, rfl⟩; exact hs.rep.new id ob hh hk⟩
    obtain ⟨B, hBw, hBo⟩ : ∃ B : Base, B.w = w ∧ B.old = fun k => k < w.heap.size ∧ ¬ ∃ id ob, Has loc o id ob ∧ (∃ j, fnd rs id = some j) ∧ (loc id).1 = k :=
      ⟨⟨w, fun k => k < w.heap.size ∧ ¬ ∃ id ob, Has loc o id ob ∧ (∃ j, fnd rs id = some j) ∧ (loc id).1 = k, fun _ h => h.1, fun w' e1 e2 => w0.glo w' (Nat.le_trans hs.below.size e1) (fun k hk => (e2 k (hold k hk)).trans (hs.below.block k hk))⟩, rfl, rfl⟩
    have hbl : Bel B w := by rw [← hBw]; exact Bel.refl B
    obtain ⟨N2, hN2⟩ : ∃ N2 : Nat → Prop, N2 = fun k => N k ∨ ∃ id ob, Has loc o id ob ∧ fnd rs id = none ∧ (loc id).1 = k := ⟨_, rfl⟩
    have hNB : ∀ k, N2 k → B.old k := by
      intro k hk
      rw [hN2] at hk
      rw [hBo]
      rcases hk with hk | ⟨id, ob, hh, h1, rfl⟩
      · exact hold k (hN k hk)
      · refine ⟨hs.rep.lt hh, ?_⟩
        rintro ⟨id2, ob2, hh2, ⟨j, hj⟩, he⟩
        obtain rfl := hs.rep.inj _ _ _ _ hh2 hh he
        rw [h1] at hj; cases hj
    have hMq : ∀ k, Muts N2 (locR rs loc) (mapO rs o rs) k → Muts N loc o k := by
      rintro k (h | ⟨j, ob', h, rfl⟩)
      · rw [hN2] at h
        rcases h with h | ⟨id, ob, hh, _, rfl⟩
        · exact .inl h
        · exact .inr ⟨id, ob, hh, rfl⟩
      · obtain ⟨i, ob, _, h2, h3⟩ := has_ren hok h
        rw [h3]; exact .inr ⟨i, ob, h2, rfl⟩
    have hkq : Keeps w w (Muts N loc o) (Muts N2 (locR rs loc) (mapO rs o rs)) := keeps_less hMq
    have hren := (hs.ren hok).rep
    have hrep : Rep N2 B.old (mapO rs o rs) (locR rs loc) w := by
      refine ⟨fun j ob' h hk => ?_, hren.inj, fun j ob' h => ?_⟩
      · obtain ⟨i, ob, h1, h2, h3⟩ := has_ren hok h
        rw [hBo, h3] at hk
        exact hk.2 ⟨i, ob, h2, ⟨j, h1⟩, rfl⟩
      · have hkk : Keeps w w (Muts N (locR rs loc) (mapO rs o rs)) (Muts N2 (locR rs loc) (mapO rs o rs)) → (ob'.rel w (Muts N2 (locR rs loc) (mapO rs o rs)) (locR rs loc) (mapO rs o rs) (locR rs loc j).1 (locR rs loc j).2) := fun hk => Ob.rel_turns hk Turns.refl ob' (fun _ _ => rfl) (hren.obs j ob' h)
        obtain ⟨i, g1, g2⟩ := of_mapO rs o rs j ob' hok h
        have hl2 : locR rs loc j = loc i := by unfold locR; rw [back_of rs i j hok g1]
        rw [hl2, g2]
        cases hob : lookO o i with
        | none => trivial
        | some ob =>
          have h9 := hs.rep.obs i ob hob
          cases ob with
          | dead => trivial
          | place i2 b c =>
            rw [g2, hob] at h
            unfold renOb at h ⊢
            dsimp only at h ⊢
            cases hf2 : fnd rs i2 with
            | none => trivial
            | some j2 => rw [hf2] at h; exact (noPl_of hpl h).elim
          | arr E t l => exact Ob.rel_turns hkq (Turns.none (loc := loc)) (.arr E t l) (fun _ _ => rfl) (by exact h9)
          | box c =>
            obtain ⟨hp, cur, E, h1, h2⟩ := h9
            exact ⟨hp, cur, E, h1, rens_rel hok hkq c _ h2⟩
          | map kt vt l => exact Ob.rel_turns hkq (Turns.none (loc := loc)) (.map kt vt l) (fun _ _ => rfl) (by exact h9)
          | siter s p => exact Ob.rel_turns hkq (Turns.none (loc := loc)) (.siter s p) (fun _ _ => rfl) (by exact h9)
    have hargs := viewsM_rels hok hkq hv hr
    have h := hS N2 B (locR rs loc) w (args.toList.map a.eval ++ us) hNB hrep hbl hargs
    have e : (args.toList.map a.eval ++ us).toArray = args.map a.eval ++ us.toArray := by apply Array.toList_inj.1; simp
    rw [e] at h
    refine h.mono ?_
    rintro e w' ⟨u, loc', rfl, hrep', hr', hbl', ht'⟩
    -- back by the caller's names
    have hsz : w.heap.size ≤ w'.heap.size := by have := hbl'.size; rwa [hBw] at this
    have hblk : ∀ k, B.old k → w'.heap[k]? = w.heap[k]? := fun k h1 => by have := hbl'.block k h1; rwa [hBw] at this
    have hsat2 : SatF N2 B q' 1 (fun t => match t with | 0 => r | _ => .bot) loc' { tmps := #[u], defers := [] } w' := ⟨hrep', hbl', rfl, rfl, fun t => by
      cases t with
      | zero => exact hr'
      | succ t => exact rel_bot⟩
    have hs2 := hsat2.ren hok'
    have hrep2 : Rep N2 B.old (mapO rs' q' rs') (locR rs' loc') w' := hs2.rep
    have hr2 : AV.rel w' (Muts N2 (locR rs' loc') (mapO rs' q' rs')) (locR rs' loc') (mapO rs' q' rs') A u := by
      have := hs2.slots 0
      rw [← hA]; exact this
    unfold okBk at hb
    rw [Bool.and_eq_true] at hb
    obtain ⟨hb1, hb2⟩ := hb
    have back1 : ∀ i j, fnd rs i = some j → fnd rs' j = some i := fun i j h => by
      have := List.all_eq_true.1 hb1 _ (fnd_mem rs i j h)
      dsimp only at this
      cases h2 : fnd rs' j with
      | none => rw [h2] at this; cases this
      | some y => rw [h2] at this; rw [Nat.eq_of_beq_eq_true this]
    have back2 : ∀ c i, fnd rs' c = some i → (∃ j, fnd rs i = some j) ∨ lookO o i = none := fun c i h => by
      have := List.all_eq_true.1 hb2 _ (fnd_mem rs' c i h)
      dsimp only at this
      rw [Bool.or_eq_true] at this
      rcases this with h | h
      · cases h2 : fnd rs i with
        | none => rw [h2] at h; cases h
        | some y => exact .inl ⟨y, rfl⟩
      · cases h2 : lookO o i with
        | none => exact .inr rfl
        | some y => rw [h2] at h; cases h
    generalize hq2 : mapO rs' q' rs' = q2 at *
    obtain ⟨loc3, hloc3⟩ : ∃ loc3 : Nat → Nat × Nat, loc3 = fun id => match back rs' id with | some c => loc' c | none => loc id := ⟨_, rfl⟩
    have l3a : ∀ id c, back rs' id = some c → loc3 id = loc' c ∧ locR rs' loc' id = loc' c := fun id c h => by rw [hloc3]; unfold locR; simp [h]
    have l3b : ∀ id, back rs' id = none → loc3 id = loc id := fun id h => by rw [hloc3]; simp [h]
    have lk2n : ∀ id, back rs' id = none → lookO q2 id = none := fun id h => by rw [← hq2]; exact mapO_none rs' q' rs' id h
    have lk2s : ∀ id c, back rs' id = some c → lookO q2 id = some (renOb rs' (lookO q' c)) := fun id c h => by rw [← hq2]; exact mapO_of rs' q' rs' c id hok' (fnd_of_back rs' c id hok' h)
    have lk3 : ∀ id, lookO (q2 ++ o) id = match back rs' id with | some c => some (renOb rs' (lookO q' c)) | none => lookO o id := fun id => by
      rw [lookO_app2]
      cases hbk : back rs' id with
      | none => rw [lk2n id hbk]
      | some c => rw [lk2s id c hbk]
    subst ho
    have ht3 : Turns loc loc3 o (q2 ++ o) := fun id ob hl => by
      rw [lk3 id]
      cases hbk : back rs' id with
      | none => exact ⟨ob, hl, .refl, fun _ => l3b id hbk⟩
      | some c =>
        have hfc := fnd_of_back rs' c id hok' hbk
        rcases back2 c id hfc with ⟨j, hj⟩ | hn
        · have := back1 id j hj
          have hcj : j = c := by
            have := back_of rs' j id hok' this
            rw [hbk] at this; exact (Option.some.inj this).symm
          subst hcj
          have hm : lookO (mapO rs o rs) j = some (renOb rs (some ob)) := by rw [mapO_of rs o rs id j hok hj, hl]
          obtain ⟨ob', g1, g2, g3⟩ := ht' j _ hm
          refine ⟨renOb rs' (some ob'), by show some (renOb rs' (lookO q' j)) = _; rw [g1], ?_, fun hlv => ?_⟩
          · rcases Compat.ren2 (rs' := rs') (fun i x c he => noPl_of hpl (he ▸ hm)) g2 with h | ⟨i, x, c, he⟩
            · exact h
            · subst he
              have hrd : renOb rs (some (.place i x c)) = .dead := by
                unfold renOb
                dsimp only
                cases hff : fnd rs i with
                | none => rfl
                | some j2 =>
                  exfalso
                  refine noPl_of hpl (i := j2) (b := x) (c := c) (id := j) (o := mapO rs o rs) ?_
                  rw [hm]; unfold renOb; dsimp only; rw [hff]
              rw [hrd] at g2
              have : ob' = .dead := by cases g2 <;> rfl
              subst this
              exact .dead
          · have := g3 (renOb_live hlv)
            rw [(l3a id j hbk).1, this]
            unfold locR
            rw [back_of rs id j hok hj]
        · rw [hn] at hl; cases hl
    have hhas3 : ∀ id ob, Has loc3 (q2 ++ o) id ob → (Has (locR rs' loc') q2 id ob ∧ loc3 id = locR rs' loc' id) ∨ (back rs' id = none ∧ Has loc o id ob ∧ loc3 id = loc id ∧ fnd rs id = none) := by
      rintro id ob ⟨h1, h2, h3⟩
      rw [lk3 id] at h1
      cases hbk : back rs' id with
      | none =>
        rw [hbk] at h1
        refine .inr ⟨rfl, ⟨h1, h2, by rwa [l3b id hbk] at h3⟩, l3b id hbk, ?_⟩
        cases hff : fnd rs id with
        | none => rfl
        | some j =>
          have := back_of rs' j id hok' (back1 id j hff)
          rw [hbk] at this; cases this
      | some c =>
        rw [hbk] at h1
        obtain ⟨e1, e2⟩ := l3a id c hbk
        exact .inl ⟨⟨by rw [lk2s id c hbk]; exact h1, h2, by rwa [e1, ← e2] at h3⟩, e1.trans e2.symm⟩
    have hBoth : ∀ id ob, Has loc o id ob → fnd rs id = none → B.old (loc id).1 := fun id ob hh h1 => by
      rw [hBo]
      refine ⟨hs.rep.lt hh, ?_⟩
      rintro ⟨id2, ob2, hh2, ⟨j, hj⟩, he⟩
      obtain rfl := hs.rep.inj _ _ _ _ hh2 hh he
      rw [h1] at hj; cases hj
    have hM3 : ∀ k, Muts N loc3 (q2 ++ o) k → Muts N2 (locR rs' loc') q2 k := by
      rintro k (h | ⟨id, ob, h, rfl⟩)
      · exact .inl (by rw [hN2]; exact .inl h)
      · rcases hhas3 id ob h with ⟨h1, h2⟩ | ⟨_, h1, h2, h3⟩
        · rw [h2]; exact .inr ⟨id, ob, h1, rfl⟩
        · rw [h2]; exact .inl (by rw [hN2]; exact .inr ⟨id, ob, h1, h3, rfl⟩)
    have hk2 : Keeps w' w' (Muts N2 (locR rs' loc') q2) (Muts N loc3 (q2 ++ o)) := keeps_less hM3
    have ht2 : Turns (locR rs' loc') loc3 q2 (q2 ++ o) := fun id ob hl => by
      refine ⟨ob, by rw [lookO_app2, hl], .refl, fun _ => ?_⟩
      cases hbk : back rs' id with
      | none => rw [lk2n id hbk] at hl; cases hl
      | some c => rw [(l3a id c hbk).1, (l3a id c hbk).2]
    have hk3 : Keeps w w' (Muts N loc o) (Muts N loc3 (q2 ++ o)) := by
      refine ⟨hsz, fun k h1 h2 => hblk k ?_, fun k h1 h2 => ?_⟩
      · rw [hBo]; exact ⟨h1, fun ⟨id, ob, hh, _, he⟩ => h2 (.inr ⟨id, ob, hh, he⟩)⟩
      · rcases h2 with h2 | ⟨id, ob, h, rfl⟩
        · exact .inl h2
        · rcases hhas3 id ob h with ⟨g1, g2⟩ | ⟨_, g1, g2, g3⟩
          · have h3 := hrep2.new id ob g1
            rw [hBo, ← g2] at h3
            apply Classical.byContradiction
            intro h4
            exact h3 ⟨h1, fun ⟨i2, o2, hh2, _, he2⟩ => h4 (.inr ⟨i2, o2, hh2, he2⟩)⟩
          · rw [g2]; exact .inr ⟨id, ob, g1, rfl⟩
    refine ⟨u, loc3, rfl, SatF.put' ?_ hd (AV.rel_turns hk2 ht2 _ _ hr2)⟩
    refine ⟨⟨fun id ob h hk0 => ?_, fun id id' ob ob' h1 h2 he => ?_, fun id ob h => ?_⟩, ⟨?_, ?_, ?_, Nat.le_trans hs.below.size hsz, fun k hk0 => (hblk k (by rw [hBo]; exact hold k hk0)).trans (hs.below.block k hk0)⟩, hs.defers, hs.size, fun t => AV.rel_turns hk3 ht3 _ _ (hs.slots t)⟩
    · rcases hhas3 id ob h with ⟨g1, g2⟩ | ⟨_, g1, g2, g3⟩
      · have h3 := hrep2.new id ob g1
        rw [hBo, ← g2] at h3
        exact h3 (hold _ hk0)
      · rw [g2] at hk0; exact hs.rep.new id ob g1 hk0
    · rcases hhas3 id ob h1 with ⟨g1, g2⟩ | ⟨_, g1, g2, g3⟩
      · rcases hhas3 id' ob' h2 with ⟨f1, f2⟩ | ⟨_, f1, f2, f3⟩
        · exact hrep2.inj id id' ob ob' g1 f1 (by rw [← g2, ← f2]; exact he)
        · exfalso
          have := hBoth id' ob' f1 f3
          rw [f2, g2] at he
          exact hrep2.new id ob g1 (by rw [he]; exact this)
      · rcases hhas3 id' ob' h2 with ⟨f1, f2⟩ | ⟨_, f1, f2, f3⟩
        · exfalso
          have := hBoth id ob g1 g3
          rw [f2, g2] at he
          exact hrep2.new id' ob' f1 (by rw [← he]; exact this)
        · exact hs.rep.inj id id' ob ob' g1 f1 (by rw [← g2, ← f2]; exact he)
    · rw [lk3 id] at h
      cases hbk : back rs' id with
      | none =>
        rw [hbk] at h
        rw [l3b id hbk]
        refine Ob.rel_turns hk3 ht3 ob (fun hlv hc => hblk _ ?_) (hs.rep.obs id ob h)
        refine hBoth id ob ⟨h, hlv, hc⟩ ?_
        cases hff : fnd rs id with
        | none => rfl
        | some j =>
          have := back_of rs' j id hok' (back1 id j hff)
          rw [hbk] at this; cases this
      | some c =>
        rw [hbk] at h
        have h2 : lookO q2 id = some ob := by rw [lk2s id c hbk]; exact h
        have := hrep2.obs id ob h2
        rw [(l3a id c hbk).1, ← (l3a id c hbk).2]
        exact Ob.rel_turns hk2 ht2 ob (fun _ _ => rfl) this
    · have := hbl'.os; rw [hBw] at this; exact this.trans hs.below.os
    · have := hbl'.tape; rw [hBw] at this; exact this.trans hs.below.tape
    · have := hbl'.output; rw [hBw] at this; exact this.trans hs.below.output
theorem Ev.lendM {d : Option Tmp} {f : Operand} {args : Array Operand} {ts : Array TypeId} {g : Nat} {caps avs : List AV} {r A : AV} {q q' W : Objs} (rs rs' : List (Nat × Nat))
    (hg : Enters P g) (hS : SpecM P g avs q r q') (hf : V s o n f = .fn g caps) (hv : ViewsM rs (args.toList.map (V s o n) ++ caps) avs)
    (hq : mapO rs o rs = q) (hok : okRen rs = true) (hok' : okRen rs' = true) (hb : okBk rs rs' o = true) (hpl : noPl q = true)
    (hA : renAV rs' r = A) (ho : mapO rs' q' rs' = W) (hd : (match d with | some d => Nat.blt d n | none => true) = true) :
    Ev P ⟨d, .call ⟨.value f, args, ts⟩, ty, pos, after, gd⟩ s o n A (W ++ o) := Ev.lendM0 rs rs' hg hS hf hv hq hok hok' hb hpl hA (by rw [ho]) hd
theorem mapO_agree {R : List Nat} {o ô : Objs} (h : Agree R o ô) (rs0 : List (Nat × Nat)) : ∀ (rs : List (Nat × Nat)), (rs.all fun p => R.contains p.1) = true → mapO rs0 ô rs = mapO rs0 o rs
  | [], _ => rfl
  | (x, y) :: r, hc => by
    rw [List.all_cons, Bool.and_eq_true] at hc
    unfold mapO
    rw [h x hc.1, mapO_agree h rs0 r hc.2]
theorem okBk_agree {R : List Nat} {o ô : Objs} (h : Agree R o ô) {rs rs' : List (Nat × Nat)} (hc : (rs'.all fun p => R.contains p.2) = true) (hb : okBk rs rs' o = true) : okBk rs rs' ô = true := by
  unfold okBk at hb ⊢
  rw [Bool.and_eq_true] at hb ⊢
  refine ⟨hb.1, List.all_eq_true.2 fun p hp => ?_⟩
  have h1 := List.all_eq_true.1 hb.2 p hp
  have h2 := List.all_eq_true.1 hc p hp
  rw [h p.2 h2]
  exact h1
/-- Those that change, of those that are told. -/
def UnchR (R : List Nat) (o : Objs) : Objs → Objs → Prop
  | [], W' => W' = []
  | (i, b) :: W, W' => (R.contains i = true ∧ lookO o i = some b ∧ UnchR R o W W') ∨ (∃ W'', W' = (i, b) :: W'' ∧ UnchR R o W W'')
def nodupK : Objs → Bool
  | [] => true
  | (i, _) :: W => (match lookO W i with | none => true | some _ => false) && nodupK W
theorem unch_none {R : List Nat} {o : Objs} : ∀ {W W' : Objs} {i : Nat}, UnchR R o W W' → lookO W i = none → lookO W' i = none
  | [], W', i, h, _ => by rw [show W' = [] from h]; rfl
  | (j, b) :: W, W', i, h, hn => by
    rw [lookO_cons] at hn
    by_cases hj : j = i
    · rw [if_pos hj] at hn; cases hn
    · rw [if_neg hj] at hn
      rcases h with ⟨_, _, h⟩ | ⟨W'', rfl, h⟩
      · exact unch_none h hn
      · rw [lookO_cons, if_neg hj]; exact unch_none h hn
theorem unch_look {R : List Nat} {o ô : Objs} (hag : Agree R o ô) : ∀ {W W' : Objs} (i : Nat), nodupK W = true → UnchR R o W W' → lookO (W' ++ ô) i = lookO (W ++ ô) i
  | [], W', i, _, h => by rw [show W' = [] from h]
  | (j, b) :: W, W', i, hd, h => by
    unfold nodupK at hd
    rw [Bool.and_eq_true] at hd
    show _ = lookO ((j, b) :: (W ++ ô)) i
    rw [lookO_cons]
    rcases h with ⟨h1, h2, h⟩ | ⟨W'', rfl, h⟩
    · by_cases hj : j = i
      · subst hj
        rw [if_pos rfl, lookO_app2]
        have hn : lookO W j = none := by
          cases hc : lookO W j with
          | none => rfl
          | some v => rw [hc] at hd; cases hd.1
        rw [unch_none h hn]
        exact (hag j h1).trans h2
      · rw [if_neg hj]; exact unch_look hag i hd.2 h
    · show lookO ((j, b) :: (W'' ++ ô)) i = _
      rw [lookO_cons]
      by_cases hj : j = i
      · rw [if_pos hj, if_pos hj]
      · rw [if_neg hj, if_neg hj]; exact unch_look hag i hd.2 h
theorem Ev.alikeO {op : Oper} {A : AV} {o1 o2 : Objs} (h : Ev P op s o n A o1) (e : ∀ i, lookO o2 i = lookO o1 i) : Ev P op s o n A o2 := Ev.mk fun F hF N w0 loc a w hN hs Q K hK =>
  h.out F hF N w0 loc a w hN hs Q K fun loc' a' w' hs' => hK loc' a' w' (hs'.alike e)
/-- The same where other things are done beside it. -/
theorem Ev.lendE {R : List Nat} {ô : Objs} (hag : Agree R o ô) {d : Option Tmp} {f : Operand} {args : Array Operand} {ts : Array TypeId} {g : Nat} {caps avs : List AV} {r A : AV} {q q' W : Objs} (rs rs' : List (Nat × Nat))
    (hR : ((rs.all fun p => R.contains p.1) && (rs'.all fun p => R.contains p.2)) = true)
    (hg : Enters P g) (hS : SpecM P g avs q r q') (hf : V s o n f = .fn g caps) (hv : ViewsM rs (args.toList.map (V s o n) ++ caps) avs)
    (hq : mapO rs o rs = q) (hok : okRen rs = true) (hok' : okRen rs' = true) (hb : okBk rs rs' o = true) (hpl : noPl q = true)
    {W' : Objs} (hA : renAV rs' r = A) (ho : mapO rs' q' rs' = W) (hu : UnchR R o W W') (hnd : nodupK W = true) (hd : (match d with | some d => Nat.blt d n | none => true) = true) :
    Ev P ⟨d, .call ⟨.value f, args, ts⟩, ty, pos, after, gd⟩ s ô n A (W' ++ ô) := by
  rw [Bool.and_eq_true] at hR
  exact Ev.alikeO (o1 := W ++ ô) (Ev.lendM rs rs' hg hS hf hv ((mapO_agree hag rs rs hR.1).trans hq) hok hok' (okBk_agree hag hR.2 hb) hpl hA ho hd) (fun i => unch_look hag i hnd hu)
end

/-! ### A function's begin and end -/
section
variable {P : Program} {g : Nat} {fn : Func} {c : Code} {r : AV} {q q' : Objs} {σ σ' : St} {b : Nat} {loc : Nat → Nat × Nat}
/-- What a function comes to. -/
def FinM (P : Program) (fn : Func) (loc : Nat → Nat × Nat) (q : Objs) (r : AV) (q' : Objs) (σ : St) : Prop :=
  ∀ N w0 a w, (∀ k, N k → w0.old k) → Sat N w0 σ a w → ∃ u loc', (results fn a.tmps).run P w = .ok u w ∧ Rep N w0.old q' loc' w ∧ AV.rel w (Muts N loc' q') loc' q' r u ∧ Turns loc loc' q q'
def finM (P : Program) (fn : Func) (loc : Nat → Nat × Nat) (q : Objs) (r : AV) (q' : Objs) : Out → Prop
  | .normal σ => FinM P fn loc q r q' σ
  | .ret σ => FinM P fn loc q r q' σ
  | .exit _ _ => False
theorem FinM.ghost (g : Ghost σ σ') (h : FinM P fn loc q r q' σ') : FinM P fn loc q r q' σ := fun N w0 a w hN hs => h N w0 a w hN (g N w0 a w hN hs)
/-- What was lent is still there, or told no more. -/
def BackF (b : Nat) (loc : Nat → Nat × Nat) (o2 : Objs) (rs : List (Nat × Nat)) (q' : Objs) : Objs → Prop
  | [] => True
  | (id, ob) :: r => ((fnd rs id = some id ∧ ∃ ob', lookO o2 id = some ob' ∧ Compat ob ob' ∧ (ob'.live = true → lookO o2 (b + id) = some (.place id (loc id).1 (loc id).2))) ∨ lookO q' id = some .dead) ∧ BackF b loc o2 rs q' r
theorem BackF.get {b : Nat} {loc : Nat → Nat × Nat} {o2 : Objs} {rs : List (Nat × Nat)} {q' : Objs} : ∀ {o : Objs} {id : Nat} {ob : Ob}, BackF b loc o2 rs q' o → lookO o id = some ob → (fnd rs id = some id ∧ ∃ ob', lookO o2 id = some ob' ∧ Compat ob ob' ∧ (ob'.live = true → lookO o2 (b + id) = some (.place id (loc id).1 (loc id).2))) ∨ lookO q' id = some .dead
  | (k, v) :: r, id, ob, h, hl => by
    rw [lookO_cons] at hl
    by_cases hk : k = id
    · rw [if_pos hk] at hl; cases hl; subst hk; exact h.1
    · rw [if_neg hk] at hl; exact h.2.get hl
theorem FinM.of {A : AV} (b : Nat) (rs : List (Nat × Nat)) (hA : inlR P fn σ A) (hok : okRen rs = true) (hr : renAV rs A = r) (hq : mapO rs σ.o rs = q') (hpl : noPl q = true)
    (hbk : BackF b loc σ.o rs q' q) : FinM P fn loc q r q' σ := fun N w0 a w hN ⟨loc2, hs⟩ => by
  obtain ⟨u, h1, h2⟩ := hA N w0 loc2 a w hN hs
  subst hq hr
  refine ⟨u, locR rs loc2, h1, (hs.ren hok).rep, ren_rel hok (keeps_less (muts_ren hok)) _ _ h2, fun id ob hl => ?_⟩
  rcases hbk.get hl with ⟨hf, ob', g1, g2, g3⟩ | hdead
  · refine ⟨renOb rs (some ob'), by rw [mapO_of rs σ.o rs id id hok hf, g1], Compat.ren (fun i x c he => noPl_of hpl (he ▸ hl)) g2, fun hlv => ?_⟩
    have hp := g3 (renOb_live hlv)
    obtain ⟨ob2, e1, e2⟩ := hs.rep.obs _ _ hp
    rw [g1] at e1
    cases e1
    unfold locR
    rw [back_of rs id id hok hf]
    exact e2 (renOb_live hlv)
  · exact ⟨.dead, hdead, .dead, fun h => by cases h⟩
theorem SpecM.enter (b : Nat) (avs : List AV) (n : Nat) (hf : P.funcs[g]? = some fn) (hbd : fn.body = some c) (hn : fn.ntmps = n) (hl : Nat.ble avs.length n = true) (hsm : small b q = true)
    (h : ∀ loc, T P c ⟨mk0 0 avs, places b loc q ++ q, n⟩ (finM P fn loc q r q')) : SpecM P g avs q r q' := fun N B loc w vs hN hrep hbel hr => by
  subst hn
  have hlook : ∀ id ob, lookO (places b loc q ++ q) id = some ob → ob.live = true → lookO q id = some ob := by
    intro id ob h hl
    rw [lookO_app2] at h
    cases hp : lookO (places b loc q) id with
    | none => rw [hp] at h; exact h
    | some v =>
      rw [hp] at h; cases h
      obtain ⟨k, v, _, rfl⟩ := places_some b loc q id ob hp
      cases hl
  have hlook2 : ∀ id ob, lookO q id = some ob → lookO (places b loc q ++ q) id = some ob := by
    intro id ob h
    rw [lookO_app2, places_none b loc q id (small_of hsm h)]; exact h
  have hhas : ∀ id ob, Has loc (places b loc q ++ q) id ob → Has loc q id ob := fun id ob h => ⟨hlook id ob h.1 h.2.1, h.2.1, h.2.2⟩
  have hmu : ∀ k, Muts N loc (places b loc q ++ q) k → Muts N loc q k := by
    rintro k (h | ⟨id, ob, h, rfl⟩)
    · exact .inl h
    · exact .inr ⟨id, ob, hhas id ob h, rfl⟩
  have hkp : Keeps w w (Muts N loc q) (Muts N loc (places b loc q ++ q)) := keeps_less hmu
  have htu : Turns loc loc q (places b loc q ++ q) := fun id ob h => ⟨ob, hlook2 id ob h, .refl, fun _ => rfl⟩
  have hargs := AV.rels_turns hkp htu _ _ hr
  have hlen := rels_len hargs
  have hsat : Sat N B ⟨mk0 0 avs, places b loc q ++ q, fn.ntmps⟩ { tmps := vs.toArray ++ Array.replicate (fn.ntmps - vs.toArray.size) undef, defers := [] } w := by
    refine ⟨loc, ⟨⟨fun id ob hh hk => hrep.new id ob (hhas id ob hh) hk, fun id id' ob ob' h1 h2 he => hrep.inj id id' ob ob' (hhas _ _ h1) (hhas _ _ h2) he, fun id ob hl => ?_⟩, hbel, rfl, ?_, fun t => ?_⟩⟩
    · have hl : lookO (places b loc q ++ q) id = some ob := hl
      rw [lookO_app2] at hl
      cases hp : lookO (places b loc q) id with
      | none => rw [hp] at hl; exact Ob.rel_turns hkp htu ob (fun _ _ => rfl) (hrep.obs id ob hl)
      | some v =>
        rw [hp] at hl; cases hl
        obtain ⟨k, v, h1, rfl⟩ := places_some b loc q id ob hp
        exact ⟨v, hlook2 k v h1, fun _ => rfl⟩
    · have := Nat.le_of_ble_eq_true hl
      have h3 : vs.toArray.size = avs.length := by simpa using hlen
      rw [Array.size_append, Array.size_replicate, h3]
      show avs.length + (fn.ntmps - avs.length) = fn.ntmps
      omega
    · have := mk0_get2 avs vs 0 t hargs
      have e : (if 0 ≤ t ∧ t < 0 + vs.length then vs.getD (t - 0) undef else undef) = (vs.toArray ++ Array.replicate (fn.ntmps - vs.toArray.size) undef).getD t undef := by
        by_cases hc : t < vs.length
        · rw [if_pos (by omega)]
          simp [hc, Array.getD_eq_getD_getElem?, Array.getElem?_append]
        · rw [if_neg (by omega)]
          rw [Array.getD_eq_getD_getElem?, Array.getElem?_append]
          simp [hc, Array.getElem?_replicate]
          split <;> rfl
      rw [← e]
      exact this
  refine calls_of_wp hf hbd (wp_mono (h loc N B _ w hN hsat) ?_)
  intro e a' w' he
  have fin : ∀ σ, FinM P fn loc q r q' σ → Sat N B σ a' w' → a'.defers = [] ∧ ∃ u, (results fn a'.tmps).run P w' = .ok u w' ∧ ∃ u_1 loc', (Ending.returned u = Ending.returned u_1) ∧ Rep N B.old q' loc' w' ∧ AV.rel w' (Muts N loc' q') loc' q' r u_1 ∧ Bel B w' ∧ Turns loc loc' q q' := by
    rintro σ hk ⟨loc2, hs'⟩
    obtain ⟨u, loc', h1, h2, h3, h4⟩ := hk N B a' w' hN ⟨loc2, hs'⟩
    exact ⟨hs'.defers, u, h1, u, loc', rfl, h2, h3, hs'.below, h4⟩
  cases e with
  | normal => obtain ⟨σ, hk, hs'⟩ := he; exact fin σ hk hs'
  | ret => obtain ⟨σ, hk, hs'⟩ := he; exact fin σ hk hs'
  | exit id => obtain ⟨σ, hk, _⟩ := he; exact hk.elim
  | goto l => exact he.elim
  | panic ch => exact he.elim
  | outgrown => exact he.elim
end
end Go.Proofs.YtihaljbhcnflfaaDoor.AE
/- More rules: what a call hands back of variables, pointers that may be nil, the text builder. -/
namespace Go.Proofs.YtihaljbhcnflfaaDoor.AE
open Go Go.RowKit Go.Proofs.YtihaljbhcnflfaaDoor.AP
set_option linter.unusedSimpArgs false
set_option linter.unusedVariables false
section
variable {P : Program} {fn : Func} {σ : St}
/-- A result, as it is. -/
inductive ResA (X : Cx P) (σ : St) : ResultVar → AV → Prop
  | tmp {t : Nat} {A : AV} (h : look σ.s t = A) : ResA X σ (.tmp t) A
  | bot {t : Nat} : ResA X σ (.tmp t) .bot
  | cell {v t id off : Nat} {cells : List AV} {τ : Ty} {y : τ.den} (hv : look σ.s v = .box id off) (ho : lookO σ.o id = some (.box cells)) (ht : X.ty t = some τ) (hy : gath τ ((cells.drop off).take τ.sz) = some y) : ResA X σ (.cell v t) (.v τ y)
inductive ResAs (X : Cx P) (σ : St) : List ResultVar → List AV → Prop
  | nil : ResAs X σ [] []
  | cons {r : ResultVar} {B : AV} {rs : List ResultVar} {Bs : List AV} (h : ResA X σ r B) (t : ResAs X σ rs Bs) : ResAs X σ (r :: rs) (B :: Bs)
theorem ResA.val {X : Cx P} {N : Nat → Prop} {w0 : Base} {a : Act} {w : World} {loc : Nat → Nat × Nat} (hs : SatAt N w0 σ loc a w) {r : ResultVar} {B : AV} (h : ResA X σ r B) :
    ∃ u, (resV a.tmps r).run P w = .ok u w ∧ AV.rel w (Muts N loc σ.o) loc σ.o B u := by
  cases h with
  | tmp h => exact ⟨_, rfl, h ▸ hs.slots _⟩
  | bot => exact ⟨_, rfl, rel_bot⟩
  | cell hv ho ht hy =>
    rename_i v t id off cells τ y
    have hsl := hs.slots v
    rw [hv] at hsl
    have h1 := box_ptr ho hsl
    obtain ⟨_, cur, E, hcur, hrel⟩ := box_at hs.rep ho
    have h2 := (rels_take τ.sz (rels_take off hrel).2).1
    have hr := gath_rel τ _ y _ hy h2
    have h1' : a.tmps[v]?.getD undef = .pointer (some ⟨(loc id).1, off, none⟩) := by simpa using h1
    refine ⟨τ.val ((cur.toList.drop off).take τ.sz), ?_, by rw [AV.rel]; exact ⟨_, hr, rfl⟩⟩
    have hl := Ty.relc_len _ _ _ hr
    have := run_loadVar (X.ok _ _ ht) (w := w) (a := ⟨(loc id).1, off, none⟩) hl (fun j z hj => by
      rw [add_lit]
      rw [List.getElem?_take] at hj
      split at hj
      · rw [List.getElem?_drop] at hj
        simp [World.cell?, hcur]
        simpa using hj
      · cases hj) (fun ha => by rw [hl, Ty.sz_leaf ha])
    simp [resV, h1', asAddr, this]
theorem ResAs.vals {X : Cx P} {N : Nat → Prop} {w0 : Base} {a : Act} {w : World} {loc : Nat → Nat × Nat} (hs : SatAt N w0 σ loc a w) {rs : List ResultVar} {Bs : List AV} (h : ResAs X σ rs Bs) :
    ∃ us : List Value, ((rs.mapM (resV a.tmps)) : Sem (List Value)).run P w = .ok us w ∧ us.length = rs.length ∧ AV.rels w (Muts N loc σ.o) loc σ.o Bs us := by
  induction h with
  | nil => exact ⟨[], by simp, rfl, by simp [AV.rels]⟩
  | cons h _ ih =>
    obtain ⟨u, e1, e2⟩ := h.val hs
    obtain ⟨us, e3, e5, e4⟩ := ih
    refine ⟨u :: us, ?_, by simp [e5], by rw [AV.rels]; exact ⟨u, us, rfl, e2, e4⟩⟩
    rw [List.mapM_cons, Sem.run_bind, e1, Result.andThen_ok, Sem.run_bind, e3, Result.andThen_ok]
    rfl
theorem inlR.one' {X : Cx P} {r : ResultVar} {A : AV} (hr : fn.results.toList = [r]) (h : ResA X σ r A) : inlR P fn σ A := fun N w0 loc2 a w hN hs => by
  obtain ⟨u, e1, e2⟩ := h.val hs
  refine ⟨u, ?_, e2⟩
  have e : fn.results = #[r] := by apply Array.toList_inj.1; simpa using hr
  have e3 : results fn a.tmps = (do let vs ← fn.results.mapM (resV a.tmps); pure (if h : vs.size = 1 then vs[0] else .tuple vs)) := by
    unfold results
    congr 1
  rw [e3, e]
  simp [e1]
theorem inlR.many' {X : Cx P} {rs : List ResultVar} {As : List AV} (hr : fn.results.toList = rs) (h : ResAs X σ rs As) (h1 : Nat.beq rs.length 1 = false) : inlR P fn σ (.tup As) := fun N w0 loc2 a w hN hs => by
  obtain ⟨us, e1, e5, e2⟩ := h.vals hs
  refine ⟨.tuple us.toArray, ?_, by rw [AV.rel]; exact ⟨us, rfl, e2⟩⟩
  have e : fn.results = rs.toArray := by apply Array.toList_inj.1; simpa using hr
  have hne : ¬ us.length = 1 := by rw [e5]; exact Nat.ne_of_beq_eq_false h1
  have e3 : results fn a.tmps = (do let vs ← fn.results.mapM (resV a.tmps); pure (if h : vs.size = 1 then vs[0] else .tuple vs)) := by
    unfold results
    congr 1
  rw [e3, e, List.mapM_toArray]
  simp [e1, hne]
end
section
variable {s : List (Nat × AV)} {o : Objs} {n : Nat}
/-- An object that is told no more. -/
theorem SatF.kill0 {N : Nat → Prop} {w0 : Base} {w : World} {loc : Nat → Nat × Nat} {a : Act} {F : Nat → AV} {id : Nat} (hs : SatF N w0 o n F loc a w) : SatF N w0 ((id, .dead) :: o) n F loc a w := by
  have hlk : ∀ i, lookO ((id, Ob.dead) :: o) i = if id = i then some .dead else lookO o i := fun i => lookO_cons ..
  have hold : ∀ i ob1, Has loc ((id, .dead) :: o) i ob1 → id ≠ i ∧ Has loc o i ob1 := by
    rintro i ob1 ⟨h1, h2, h3⟩
    rw [hlk] at h1
    by_cases hi : id = i
    · rw [if_pos hi] at h1; cases h1; cases h2
    · rw [if_neg hi] at h1; exact ⟨hi, h1, h2, h3⟩
  have ht : Turns loc loc o ((id, .dead) :: o) := fun i ob1 h => by
    rw [hlk]
    by_cases hi : id = i
    · exact ⟨.dead, if_pos hi, .dead, fun _ => rfl⟩
    · exact ⟨ob1, by rw [if_neg hi]; exact h, .refl, fun _ => rfl⟩
  have hk : Keeps w w (Muts N loc o) (Muts N loc ((id, .dead) :: o)) := keeps_less (by
    rintro k (h | ⟨i, ob1, h, rfl⟩)
    · exact .inl h
    · exact .inr ⟨i, ob1, (hold i ob1 h).2, rfl⟩)
  refine hs.chg hs.below hk ht ⟨fun i ob1 h => hs.rep.new i ob1 (hold i ob1 h).2, fun i i' ob1 ob2 h1 h2 he => hs.rep.inj i i' ob1 ob2 (hold i ob1 h1).2 (hold i' ob2 h2).2 he, fun i ob1 h => ?_⟩
  rw [hlk] at h
  by_cases hi : id = i
  · rw [if_pos hi] at h; cases h; trivial
  · rw [if_neg hi] at h; exact Ob.rel_turns hk ht ob1 (fun _ _ => rfl) (hs.rep.obs i ob1 h)
theorem Ghost.kill {id : Nat} {ob : Ob} (ho : lookO o id = some ob) : Ghost ⟨s, o, n⟩ ⟨s, (id, .dead) :: o, n⟩ := fun N w0 a w hN ⟨loc, hs⟩ => ⟨loc, hs.kill0⟩
theorem cell_set {w : World} {M : Nat → Prop} {loc : Nat → Nat × Nat} {A B : AV} (hAB : ∀ u, AV.rel w M loc o A u → AV.rel w M loc o B u) : ∀ (cells : List AV) (us : List Value) (j : Nat), cells[j]? = some A → AV.rels w M loc o cells us → AV.rels w M loc o (cells.set j B) us
  | [], us, j, h, hr => by cases h
  | C :: l, us, j, h, hr => by
    rw [AV.rels] at hr
    obtain ⟨u, us', h1, h2, h3⟩ := hr
    cases j with
    | zero =>
      cases h
      rw [List.set_cons_zero, AV.rels]
      exact ⟨u, us', h1, hAB u h2, h3⟩
    | succ j =>
      rw [List.set_cons_succ, AV.rels]
      exact ⟨u, us', h1, h2, cell_set hAB l us' j h h3⟩
end

/-! ### Pointers that may be nil -/
def PT (P : Program) (t : TypeId) : Prop := ∃ e f, P.underlying t = some (.pointer e) ∧ P.info? e = some f ∧ f.size ≠ 0
def chkPT (P : Program) (t : TypeId) : Bool := match P.underlying t with
  | some (.pointer e) => (match P.info? e with | some f => !Nat.beq f.size 0 | none => false)
  | _ => false
theorem PT.of {P : Program} {t : TypeId} (h : chkPT P t = true) : PT P t := by
  unfold chkPT at h
  split at h
  · rename_i e he
    split at h
    · rename_i f hf
      exact ⟨e, f, he, hf, Nat.ne_of_beq_eq_false (by simpa using h)⟩
    · cases h
  · cases h
theorem PT.nil {P : Program} {t : TypeId} (h : PT P t) (a b : Option Addr) (hab : a = none ∨ b = none) (w : World) : (Op.equal t (.pointer a) (.pointer b)).run P w = .ok (a.isNone && b.isNone) w := by
  obtain ⟨e, f, h1, h2, h3⟩ := h
  have h : ∀ d : Nat, (Op.equalIn (d + 1) t (.pointer a) (.pointer b)).run P w = .ok (a.isNone && b.isNone) w := fun d => by
    cases a with
    | none => simp [Op.equalIn, run_underlying h1]
    | some a =>
      cases b with
      | none => simp [Op.equalIn, run_underlying h1]
      | some b => rcases hab with h | h <;> cases h
  exact h 9999
theorem PT.same {P : Program} {t : TypeId} (h : PT P t) (a : Addr) (w : World) : (Op.equal t (.pointer (some a)) (.pointer (some a))).run P w = .ok true w := by
  obtain ⟨e, f, h1, h2, h3⟩ := h
  have h : ∀ d : Nat, (Op.equalIn (d + 1) t (.pointer (some a)) (.pointer (some a))).run P w = .ok true w := fun d => by
    simp [Op.equalIn, run_underlying h1, sizeOf, typeInfo, h2, run_sameAddr_same]
  exact h 9999
section
variable {P : Program} {s : List (Nat × AV)} {o : Objs} {n d : Nat} {ty : TypeId} {pos : String} {after : Array Edge} {gd : Option (Nat × Bool)} {t t' : TypeId} {x y : Operand}
theorem bin_ptr {op : BinOp} {a b : Option Addr} {r c : Bool} {w : World} {ρ : Operand → Value} (hx : ρ x = .pointer a) (hy : ρ y = .pointer b) (hop : op = .eql ∧ r = c ∨ op = .neq ∧ r = !c) (h : (Op.equal t (.pointer a) (.pointer b)).run P w = .ok c w) :
    (execOp ρ ⟨some d, .binOp op t x y t', ty, pos, after, gd⟩).run P w = .ok (.value (.bool r)) w := by
  have e1 : ∀ op, (Go.binOp op t (.pointer a) (.pointer b)) = Go.binOp op t (ρ x) (ρ y) := fun _ => by rw [hx, hy]
  refine run_bin ρ op t t' x y ⟨fun c => by rw [hx]; simp, by rw [hx]; simp⟩ ?_
  rw [hx, hy]
  rcases hop with ⟨rfl, rfl⟩ | ⟨rfl, rfl⟩
  · simp [Go.binOp, h]
  · simp [Go.binOp, h]
/-- How a pointer stands to nil. -/
inductive NilB (o : Objs) : AV → Bool → Prop
  | nilp : NilB o .nilp true
  | box {i j : Nat} {c : List AV} (h : lookO o i = some (.box c)) : NilB o (.box i j) false
  | pn {b : Bool} {i j t : Nat} {c : List AV} (h : lookO o i = some (.box c)) : NilB o (.pn b i j t) b
  | ptr {t : Ty} {x : t.den} : NilB o (.ptr t x) false
theorem NilB.val {w : World} {M : Nat → Prop} {loc : Nat → Nat × Nat} {A : AV} {b : Bool} {u : Value} (h : NilB o A b) (hr : AV.rel w M loc o A u) : ∃ a, u = .pointer a ∧ a.isNone = b := by
  cases h with
  | nilp => rw [AV.rel] at hr; exact ⟨none, hr, rfl⟩
  | box h => exact ⟨_, box_ptr h hr, rfl⟩
  | pn h =>
    rw [AV.rel] at hr
    obtain ⟨ob, h1, h2⟩ := hr
    rw [h] at h1; cases h1
    have := (h2 _ rfl).1
    cases b
    · exact ⟨_, this, rfl⟩
    · exact ⟨_, this, rfl⟩
  | ptr => rw [AV.rel] at hr; obtain ⟨ad, h1, _⟩ := hr; exact ⟨_, h1, rfl⟩
theorem Ev.e_pnil {op : BinOp} {A : AV} {c r : Bool} (hp : PT P t) (hop : op = .eql ∧ r = c ∨ op = .neq ∧ r = !c) (hx : V s o n x = A) (hA : NilB o A c) (hy : V s o n y = .nilp) (hd : Nat.blt d n = true) : Ev P ⟨some d, .binOp op t x y t', ty, pos, after, gd⟩ s o n (.v .bool r) o :=
  Ev.pure hd (fun N w0 loc a w hs => by
    obtain ⟨p, h1, h2⟩ := hA.val (hs.look (by simp [Op.operands]) hx)
    have h3 := hs.look (by simp [Op.operands]) hy
    rw [AV.rel] at h3
    exact ⟨_, bin_ptr h1 h3 hop (by rw [PT.nil hp p none (.inr rfl) w]; simp [h2]), rel_bool⟩)
theorem Ev.e_pnil' {op : BinOp} {A : AV} {c r : Bool} (hp : PT P t) (hop : op = .eql ∧ r = c ∨ op = .neq ∧ r = !c) (hy : V s o n y = A) (hA : NilB o A c) (hx : V s o n x = .nilp) (hd : Nat.blt d n = true) : Ev P ⟨some d, .binOp op t x y t', ty, pos, after, gd⟩ s o n (.v .bool r) o :=
  Ev.pure hd (fun N w0 loc a w hs => by
    obtain ⟨p, h1, h2⟩ := hA.val (hs.look (by simp [Op.operands]) hy)
    have h3 := hs.look (by simp [Op.operands]) hx
    rw [AV.rel] at h3
    exact ⟨_, bin_ptr h3 h1 hop (by rw [PT.nil hp none p (.inl rfl) w]; simp [h2]), rel_bool⟩)
/-- A pointer that may be nil, held against what it points to, if it is not. -/
theorem Ev.e_pself {op : BinOp} {c r : Bool} {i j ty' : Nat} {cells : List AV} (hp : PT P t) (hop : op = .eql ∧ r = !c ∨ op = .neq ∧ r = c) (hx : V s o n x = .pn c i j ty') (ho : lookO o i = some (.box cells)) (hy : V s o n y = .box i j) (hd : Nat.blt d n = true) : Ev P ⟨some d, .binOp op t x y t', ty, pos, after, gd⟩ s o n (.v .bool r) o :=
  Ev.pure hd (fun N w0 loc a w hs => by
    have h1 := hs.look (by simp [Op.operands]) hx
    have h2 := box_ptr ho (hs.look (by simp [Op.operands]) hy)
    rw [AV.rel] at h1
    obtain ⟨ob, h3, h4⟩ := h1
    rw [ho] at h3; cases h3
    have h4 := (h4 _ rfl).1
    cases c with
    | true => exact ⟨_, bin_ptr (c := false) h4 h2 (by rcases hop with ⟨rfl, rfl⟩ | ⟨rfl, rfl⟩ <;> simp) (by simpa using PT.nil hp none (some ⟨(loc i).1, j, none⟩) (.inl rfl) w), rel_bool⟩
    | false => exact ⟨_, bin_ptr (c := true) h4 h2 (by rcases hop with ⟨rfl, rfl⟩ | ⟨rfl, rfl⟩ <;> simp) (PT.same hp _ w), rel_bool⟩)
theorem Ev.w0 {op : Oper} {A : AV} (h : Ev P op s o n A ([] ++ o)) : Ev P op s o n A o := h
theorem Ev.w1 {op : Oper} {A : AV} {i1 : Nat} {b1 : Ob} {o1 : Objs} (h : Ev P op s o n A ([(i1, b1)] ++ o1)) : Ev P op s o n A ((i1, b1) :: o1) := h
theorem Ev.w2 {op : Oper} {A : AV} {i1 i2 : Nat} {b1 b2 : Ob} {o1 : Objs} (h : Ev P op s o n A ([(i1, b1), (i2, b2)] ++ o1)) : Ev P op s o n A ((i1, b1) :: (i2, b2) :: o1) := h
theorem Ev.w3 {op : Oper} {A : AV} {i1 i2 i3 : Nat} {b1 b2 b3 : Ob} {o1 : Objs} (h : Ev P op s o n A ([(i1, b1), (i2, b2), (i3, b3)] ++ o1)) : Ev P op s o n A ((i1, b1) :: (i2, b2) :: (i3, b3) :: o1) := h
theorem Ev.w4 {op : Oper} {A : AV} {i1 i2 i3 i4 : Nat} {b1 b2 b3 b4 : Ob} {o1 : Objs} (h : Ev P op s o n A ([(i1, b1), (i2, b2), (i3, b3), (i4, b4)] ++ o1)) : Ev P op s o n A ((i1, b1) :: (i2, b2) :: (i3, b3) :: (i4, b4) :: o1) := h
theorem Ev.w5 {op : Oper} {A : AV} {i1 i2 i3 i4 i5 : Nat} {b1 b2 b3 b4 b5 : Ob} {o1 : Objs} (h : Ev P op s o n A ([(i1, b1), (i2, b2), (i3, b3), (i4, b4), (i5, b5)] ++ o1)) : Ev P op s o n A ((i1, b1) :: (i2, b2) :: (i3, b3) :: (i4, b4) :: (i5, b5) :: o1) := h
theorem Ev.w6 {op : Oper} {A : AV} {i1 i2 i3 i4 i5 i6 : Nat} {b1 b2 b3 b4 b5 b6 : Ob} {o1 : Objs} (h : Ev P op s o n A ([(i1, b1), (i2, b2), (i3, b3), (i4, b4), (i5, b5), (i6, b6)] ++ o1)) : Ev P op s o n A ((i1, b1) :: (i2, b2) :: (i3, b3) :: (i4, b4) :: (i5, b5) :: (i6, b6) :: o1) := h
theorem Ev.w7 {op : Oper} {A : AV} {i1 i2 i3 i4 i5 i6 i7 : Nat} {b1 b2 b3 b4 b5 b6 b7 : Ob} {o1 : Objs} (h : Ev P op s o n A ([(i1, b1), (i2, b2), (i3, b3), (i4, b4), (i5, b5), (i6, b6), (i7, b7)] ++ o1)) : Ev P op s o n A ((i1, b1) :: (i2, b2) :: (i3, b3) :: (i4, b4) :: (i5, b5) :: (i6, b6) :: (i7, b7) :: o1) := h
theorem Ev.w8 {op : Oper} {A : AV} {i1 i2 i3 i4 i5 i6 i7 i8 : Nat} {b1 b2 b3 b4 b5 b6 b7 b8 : Ob} {o1 : Objs} (h : Ev P op s o n A ([(i1, b1), (i2, b2), (i3, b3), (i4, b4), (i5, b5), (i6, b6), (i7, b7), (i8, b8)] ++ o1)) : Ev P op s o n A ((i1, b1) :: (i2, b2) :: (i3, b3) :: (i4, b4) :: (i5, b5) :: (i6, b6) :: (i7, b7) :: (i8, b8) :: o1) := h
theorem Ev.w9 {op : Oper} {A : AV} {i1 i2 i3 i4 i5 i6 i7 i8 i9 : Nat} {b1 b2 b3 b4 b5 b6 b7 b8 b9 : Ob} {o1 : Objs} (h : Ev P op s o n A ([(i1, b1), (i2, b2), (i3, b3), (i4, b4), (i5, b5), (i6, b6), (i7, b7), (i8, b8), (i9, b9)] ++ o1)) : Ev P op s o n A ((i1, b1) :: (i2, b2) :: (i3, b3) :: (i4, b4) :: (i5, b5) :: (i6, b6) :: (i7, b7) :: (i8, b8) :: (i9, b9) :: o1) := h
theorem Ev.w10 {op : Oper} {A : AV} {i1 i2 i3 i4 i5 i6 i7 i8 i9 i10 : Nat} {b1 b2 b3 b4 b5 b6 b7 b8 b9 b10 : Ob} {o1 : Objs} (h : Ev P op s o n A ([(i1, b1), (i2, b2), (i3, b3), (i4, b4), (i5, b5), (i6, b6), (i7, b7), (i8, b8), (i9, b9), (i10, b10)] ++ o1)) : Ev P op s o n A ((i1, b1) :: (i2, b2) :: (i3, b3) :: (i4, b4) :: (i5, b5) :: (i6, b6) :: (i7, b7) :: (i8, b8) :: (i9, b9) :: (i10, b10) :: o1) := h
theorem Ev.w11 {op : Oper} {A : AV} {i1 i2 i3 i4 i5 i6 i7 i8 i9 i10 i11 : Nat} {b1 b2 b3 b4 b5 b6 b7 b8 b9 b10 b11 : Ob} {o1 : Objs} (h : Ev P op s o n A ([(i1, b1), (i2, b2), (i3, b3), (i4, b4), (i5, b5), (i6, b6), (i7, b7), (i8, b8), (i9, b9), (i10, b10), (i11, b11)] ++ o1)) : Ev P op s o n A ((i1, b1) :: (i2, b2) :: (i3, b3) :: (i4, b4) :: (i5, b5) :: (i6, b6) :: (i7, b7) :: (i8, b8) :: (i9, b9) :: (i10, b10) :: (i11, b11) :: o1) := h
theorem Ev.w12 {op : Oper} {A : AV} {i1 i2 i3 i4 i5 i6 i7 i8 i9 i10 i11 i12 : Nat} {b1 b2 b3 b4 b5 b6 b7 b8 b9 b10 b11 b12 : Ob} {o1 : Objs} (h : Ev P op s o n A ([(i1, b1), (i2, b2), (i3, b3), (i4, b4), (i5, b5), (i6, b6), (i7, b7), (i8, b8), (i9, b9), (i10, b10), (i11, b11), (i12, b12)] ++ o1)) : Ev P op s o n A ((i1, b1) :: (i2, b2) :: (i3, b3) :: (i4, b4) :: (i5, b5) :: (i6, b6) :: (i7, b7) :: (i8, b8) :: (i9, b9) :: (i10, b10) :: (i11, b11) :: (i12, b12) :: o1) := h
theorem Ev.w13 {op : Oper} {A : AV} {i1 i2 i3 i4 i5 i6 i7 i8 i9 i10 i11 i12 i13 : Nat} {b1 b2 b3 b4 b5 b6 b7 b8 b9 b10 b11 b12 b13 : Ob} {o1 : Objs} (h : Ev P op s o n A ([(i1, b1), (i2, b2), (i3, b3), (i4, b4), (i5, b5), (i6, b6), (i7, b7), (i8, b8), (i9, b9), (i10, b10), (i11, b11), (i12, b12), (i13, b13)] ++ o1)) : Ev P op s o n A ((i1, b1) :: (i2, b2) :: (i3, b3) :: (i4, b4) :: (i5, b5) :: (i6, b6) :: (i7, b7) :: (i8, b8) :: (i9, b9) :: (i10, b10) :: (i11, b11) :: (i12, b12) :: (i13, b13) :: o1) := h
theorem Ev.w14 {op : Oper} {A : AV} {i1 i2 i3 i4 i5 i6 i7 i8 i9 i10 i11 i12 i13 i14 : Nat} {b1 b2 b3 b4 b5 b6 b7 b8 b9 b10 b11 b12 b13 b14 : Ob} {o1 : Objs} (h : Ev P op s o n A ([(i1, b1), (i2, b2), (i3, b3), (i4, b4), (i5, b5), (i6, b6), (i7, b7), (i8, b8), (i9, b9), (i10, b10), (i11, b11), (i12, b12), (i13, b13), (i14, b14)] ++ o1)) : Ev P op s o n A ((i1, b1) :: (i2, b2) :: (i3, b3) :: (i4, b4) :: (i5, b5) :: (i6, b6) :: (i7, b7) :: (i8, b8) :: (i9, b9) :: (i10, b10) :: (i11, b11) :: (i12, b12) :: (i13, b13) :: (i14, b14) :: o1) := h
theorem Ev.w15 {op : Oper} {A : AV} {i1 i2 i3 i4 i5 i6 i7 i8 i9 i10 i11 i12 i13 i14 i15 : Nat} {b1 b2 b3 b4 b5 b6 b7 b8 b9 b10 b11 b12 b13 b14 b15 : Ob} {o1 : Objs} (h : Ev P op s o n A ([(i1, b1), (i2, b2), (i3, b3), (i4, b4), (i5, b5), (i6, b6), (i7, b7), (i8, b8), (i9, b9), (i10, b10), (i11, b11), (i12, b12), (i13, b13), (i14, b14), (i15, b15)] ++ o1)) : Ev P op s o n A ((i1, b1) :: (i2, b2) :: (i3, b3) :: (i4, b4) :: (i5, b5) :: (i6, b6) :: (i7, b7) :: (i8, b8) :: (i9, b9) :: (i10, b10) :: (i11, b11) :: (i12, b12) :: (i13, b13) :: (i14, b14) :: (i15, b15) :: o1) := h
theorem Ev.w16 {op : Oper} {A : AV} {i1 i2 i3 i4 i5 i6 i7 i8 i9 i10 i11 i12 i13 i14 i15 i16 : Nat} {b1 b2 b3 b4 b5 b6 b7 b8 b9 b10 b11 b12 b13 b14 b15 b16 : Ob} {o1 : Objs} (h : Ev P op s o n A ([(i1, b1), (i2, b2), (i3, b3), (i4, b4), (i5, b5), (i6, b6), (i7, b7), (i8, b8), (i9, b9), (i10, b10), (i11, b11), (i12, b12), (i13, b13), (i14, b14), (i15, b15), (i16, b16)] ++ o1)) : Ev P op s o n A ((i1, b1) :: (i2, b2) :: (i3, b3) :: (i4, b4) :: (i5, b5) :: (i6, b6) :: (i7, b7) :: (i8, b8) :: (i9, b9) :: (i10, b10) :: (i11, b11) :: (i12, b12) :: (i13, b13) :: (i14, b14) :: (i15, b15) :: (i16, b16) :: o1) := h
theorem Ev.w17 {op : Oper} {A : AV} {i1 i2 i3 i4 i5 i6 i7 i8 i9 i10 i11 i12 i13 i14 i15 i16 i17 : Nat} {b1 b2 b3 b4 b5 b6 b7 b8 b9 b10 b11 b12 b13 b14 b15 b16 b17 : Ob} {o1 : Objs} (h : Ev P op s o n A ([(i1, b1), (i2, b2), (i3, b3), (i4, b4), (i5, b5), (i6, b6), (i7, b7), (i8, b8), (i9, b9), (i10, b10), (i11, b11), (i12, b12), (i13, b13), (i14, b14), (i15, b15), (i16, b16), (i17, b17)] ++ o1)) : Ev P op s o n A ((i1, b1) :: (i2, b2) :: (i3, b3) :: (i4, b4) :: (i5, b5) :: (i6, b6) :: (i7, b7) :: (i8, b8) :: (i9, b9) :: (i10, b10) :: (i11, b11) :: (i12, b12) :: (i13, b13) :: (i14, b14) :: (i15, b15) :: (i16, b16) :: (i17, b17) :: o1) := h
theorem Ev.w18 {op : Oper} {A : AV} {i1 i2 i3 i4 i5 i6 i7 i8 i9 i10 i11 i12 i13 i14 i15 i16 i17 i18 : Nat} {b1 b2 b3 b4 b5 b6 b7 b8 b9 b10 b11 b12 b13 b14 b15 b16 b17 b18 : Ob} {o1 : Objs} (h : Ev P op s o n A ([(i1, b1), (i2, b2), (i3, b3), (i4, b4), (i5, b5), (i6, b6), (i7, b7), (i8, b8), (i9, b9), (i10, b10), (i11, b11), (i12, b12), (i13, b13), (i14, b14), (i15, b15), (i16, b16), (i17, b17), (i18, b18)] ++ o1)) : Ev P op s o n A ((i1, b1) :: (i2, b2) :: (i3, b3) :: (i4, b4) :: (i5, b5) :: (i6, b6) :: (i7, b7) :: (i8, b8) :: (i9, b9) :: (i10, b10) :: (i11, b11) :: (i12, b12) :: (i13, b13) :: (i14, b14) :: (i15, b15) :: (i16, b16) :: (i17, b17) :: (i18, b18) :: o1) := h
theorem Ev.w19 {op : Oper} {A : AV} {i1 i2 i3 i4 i5 i6 i7 i8 i9 i10 i11 i12 i13 i14 i15 i16 i17 i18 i19 : Nat} {b1 b2 b3 b4 b5 b6 b7 b8 b9 b10 b11 b12 b13 b14 b15 b16 b17 b18 b19 : Ob} {o1 : Objs} (h : Ev P op s o n A ([(i1, b1), (i2, b2), (i3, b3), (i4, b4), (i5, b5), (i6, b6), (i7, b7), (i8, b8), (i9, b9), (i10, b10), (i11, b11), (i12, b12), (i13, b13), (i14, b14), (i15, b15), (i16, b16), (i17, b17), (i18, b18), (i19, b19)] ++ o1)) : Ev P op s o n A ((i1, b1) :: (i2, b2) :: (i3, b3) :: (i4, b4) :: (i5, b5) :: (i6, b6) :: (i7, b7) :: (i8, b8) :: (i9, b9) :: (i10, b10) :: (i11, b11) :: (i12, b12) :: (i13, b13) :: (i14, b14) :: (i15, b15) :: (i16, b16) :: (i17, b17) :: (i18, b18) :: (i19, b19) :: o1) := h
theorem Ev.w20 {op : Oper} {A : AV} {i1 i2 i3 i4 i5 i6 i7 i8 i9 i10 i11 i12 i13 i14 i15 i16 i17 i18 i19 i20 : Nat} {b1 b2 b3 b4 b5 b6 b7 b8 b9 b10 b11 b12 b13 b14 b15 b16 b17 b18 b19 b20 : Ob} {o1 : Objs} (h : Ev P op s o n A ([(i1, b1), (i2, b2), (i3, b3), (i4, b4), (i5, b5), (i6, b6), (i7, b7), (i8, b8), (i9, b9), (i10, b10), (i11, b11), (i12, b12), (i13, b13), (i14, b14), (i15, b15), (i16, b16), (i17, b17), (i18, b18), (i19, b19), (i20, b20)] ++ o1)) : Ev P op s o n A ((i1, b1) :: (i2, b2) :: (i3, b3) :: (i4, b4) :: (i5, b5) :: (i6, b6) :: (i7, b7) :: (i8, b8) :: (i9, b9) :: (i10, b10) :: (i11, b11) :: (i12, b12) :: (i13, b13) :: (i14, b14) :: (i15, b15) :: (i16, b16) :: (i17, b17) :: (i18, b18) :: (i19, b19) :: (i20, b20) :: o1) := h
end
end Go.Proofs.YtihaljbhcnflfaaDoor.AE
/- The text builder: appends of texts to bytes, unsafe ways from bytes to a text, a pointer turned and turned back. -/
namespace Go.Proofs.YtihaljbhcnflfaaDoor.AE
open Go Go.RowKit Go.Proofs.YtihaljbhcnflfaaDoor.AP
set_option linter.unusedSimpArgs false
set_option linter.unusedVariables false

theorem flat_str {w : World} {M : Nat → Prop} (b : ByteArray) : Flat w M (.int .u8) (by_ b) (Lib.strCells b) := by
  unfold by_ Lib.strCells
  generalize b.data.toList = l
  induction l with
  | nil => rfl
  | cons x l ih => exact ⟨[.int .u8 (x.toNat : Int)], _, rfl, rfl, ih⟩
theorem by_length (b : ByteArray) : (by_ b).length = b.size := by
  unfold by_
  rw [List.length_map, Array.length_toList]
  rfl
section
variable {P : Program} {s : List (Nat × AV)} {o : Objs} {n d : Nat} {ty : TypeId} {pos : String} {after : Array Edge} {gd : Option (Nat × Bool)} {t t' : TypeId} {x y : Operand}
theorem run_app2 (ρ : Operand → Value) (x y : Operand) (t t' : TypeId) {u : Value} {w w' : World} (h : (Builtin.append_ #[t, t'] ty #[ρ x, ρ y]).run P w = .ok u w') :
    (execOp ρ ⟨some d, .call ⟨.builtin .append, #[x, y], #[t, t']⟩, ty, pos, after, gd⟩).run P w = .ok (.value u) w' := by
  simp only [execOp, resolve]
  simp [invoke, builtin, h]
theorem append_coreS (z : Bool) (X : Cx P) (id' : Nat) {id E : Nat} {l : List Int} {b : ByteArray} {N : Nat → Prop} {w0 : Base} {loc : Nat → Nat × Nat} {a : Act} {w : World} {F : Nat → AV} (hs : SatF N w0 o n F loc a w) (hX0 : AV.rel w (Muts N loc o) loc o (if z then .owz id else .own id) (a.eval x)) (hY : a.eval y = .string b) (ho : lookO o id = some (.arr E (.int .u8) l)) (ht : X.ty t = some (.sl (.int .u8))) (ht' : X.ty t' = some .str) (he : X.el t = some (E, 1))
    (hid' : lookO o id' = none) (hd : Nat.blt d n = true) (hfit : l.length + b.size ≤ 140737488355328) (Q : Exit → Act → World → Prop) (K : Act → World → Prop)
    (hK : ∀ loc' a' w', SatF N w0 ((id', .arr E (.int .u8) (l ++ by_ b)) :: (id, .dead) :: o) n (upd F (some d) (if z then .owz id' else .own id')) loc' a' w' → K a' w') :
    Oper.wp P ⟨some d, .call ⟨.builtin .append, #[x, y], #[t, t']⟩, ty, pos, after, gd⟩ a w K Q := by
  obtain ⟨A0, hX, hA0, hAz⟩ : ∃ A0, a.eval x = .slice A0 l.length (loc id).2 ∧ (0 < (loc id).2 → A0 = some ⟨(loc id).1, 0, none⟩) ∧ (z = true → (loc id).2 = 0 → A0 = none) := by
    cases z with
    | false => obtain ⟨A0, h1, h2⟩ := own_at ho hX0; exact ⟨A0, h1, h2, fun h => by cases h⟩
    | true =>
      have hX0 : AV.rel w (Muts N loc o) loc o (.owz id) (a.eval x) := hX0
      rw [AV.rel] at hX0
      obtain ⟨ob, h1, h2⟩ := hX0
      rw [ho] at h1; cases h1
      obtain ⟨A0, e1, e2, e3⟩ := h2 _ _ _ rfl
      exact ⟨A0, e1, e2, fun _ => e3⟩
  have hob := hs.rep.obs id _ ho
  obtain ⟨hu, hbi⟩ := X.elok t E 1 he
  obtain ⟨e, hu', hi⟩ := (X.ok _ _ ht).desc
  rw [hu] at hu'
  cases hu'
  have hut : P.underlying t' = some .string := (X.ok _ _ ht').desc
  obtain ⟨f, z, hf, hfs, hz, hzc, _⟩ := hi.info
  rw [hf] at hbi
  have hfb : f.bytes = 1 := Option.some.inj hbi
  have hfs : f.size = 1 := hfs
  have hz0 : z = .int .u8 0 := by
    obtain ⟨z', h1, h2, h3⟩ := hi.run_zero w
    have : z' = z := by
      simp [zeroValue, typeInfo, hf, hz] at h1
      exact h1.symm
    rw [← this, h3]; rfl
  subst hz0
  have hle : l.length ≤ (loc id).2 := hob.1
  have hmx : (loc id).2 ≤ maxL := hob.2.1
  have hbl := by_length b
  have rel_new : ∀ (g c : Nat) (w' : World) (A2 : Option Addr), (0 < c → A2 = some ⟨g, 0, none⟩) → (z = true → c = 0 → A2 = none) → AV.rel w' (Muts N (put2 loc id' g c) ((id', .arr E (.int .u8) (l ++ by_ b)) :: (id, .dead) :: o)) (put2 loc id' g c) ((id', .arr E (.int .u8) (l ++ by_ b)) :: (id, .dead) :: o) (if z then .owz id' else .own id') (.slice A2 (l.length + b.size) c) := by
    intro g c w' A2 h2 h3
    have e9 : l.length + b.size = (l ++ by_ b).length := by rw [List.length_append, hbl]
    cases z with
    | false =>
      show AV.rel _ _ _ _ (.own id') _
      rw [AV.rel]
      refine ⟨_, by rw [lookO_cons, if_pos rfl], fun E' t' l' e => ?_⟩
      cases e
      rw [put2_same]
      exact ⟨A2, congrArg (fun z => Value.slice A2 z c) e9, h2⟩
    | true =>
      show AV.rel _ _ _ _ (.owz id') _
      rw [AV.rel]
      refine ⟨_, by rw [lookO_cons, if_pos rfl], fun E' t' l' e => ?_⟩
      cases e
      rw [put2_same]
      exact ⟨A2, congrArg (fun z => Value.slice A2 z c) e9, h2, h3 rfl⟩
  have fin : ∀ (base g c : Nat) (w' : World) (xs : List Value), Flat w (Muts N loc o) (.int .u8) l xs → w'.ownsRow base E 1 (.slice (some ⟨g, 0, none⟩) (l.length + b.size) c) (l.length + b.size) (xs ++ Lib.strCells b) → (0 < c → w.heap.size ≤ g ∨ (0 < (loc id).2 ∧ g = (loc id).1)) → (z = true → 0 < c) →
      w'.os = w.os → w'.tape = w.tape → w'.output = w.output → w.heap.size ≤ w'.heap.size → (∀ k, k < w.heap.size → (0 < (loc id).2 → k ≠ (loc id).1) → w'.heap[k]? = w.heap[k]?) →
      (Builtin.append_ #[t, t'] ty #[a.eval x, a.eval y]).run P w = .ok (.slice (some ⟨g, 0, none⟩) (l.length + b.size) c) w' →
      Oper.wp P ⟨some d, .call ⟨.builtin .append, #[x, y], #[t, t']⟩, ty, pos, after, gd⟩ a w K Q := by
    intro base g c w' xs hxs hown hg hz9 h1 h2 h3 h4 h5 hrun
    unfold Oper.wp
    rw [run_app2 _ _ _ _ _ hrun]
    obtain ⟨hlen, hown⟩ := hown
    rcases hown with ⟨h, _⟩ | ⟨g', cap, cur, hv, _, hcur, hle, hmax, hcs, htk⟩
    · cases h
    injection hv with e1 _ e3
    subst e3
    obtain rfl : g = g' := congrArg Addr.block (Option.some.inj e1)
    rw [maxL_eq] at hmax
    have hlen2 : (l ++ by_ b).length = l.length + b.size := by rw [List.length_append, hbl]
    have := hs.move (w' := w') (id' := id') (g := g) (c := c) (ob' := .arr E (.int .u8) (l ++ by_ b)) ho rfl hid' hg h1 h2 h3 h4 h5 (fun M' loc' o' hk ht => flat_arr (t := .int .u8) (Nat.le_trans (Nat.le_of_eq hlen2) hle) hmax (fun _ => ⟨hcur, hcs, (hxs.append (flat_str b)).keeps hk, by have h9 := htk; rw [← hlen2] at h9; exact h9⟩))
    exact hK _ _ _ (this.put hd (rel_new g c w' _ (fun _ => rfl) (fun hz hc => absurd hc (by have := hz9 hz; omega))))
  have hmaxl : l.length + b.size ≤ maxLen := by rw [maxL_eq]; simp only [maxL]; omega
  by_cases hc : 0 < (loc id).2
  · have hA0 := hA0 hc
    subst hA0
    obtain ⟨cur, vs, hcur, hcs, hvs, htk⟩ := arr_flat hob hc
    have hown : w.ownsRow 0 E 1 (a.eval x) l.length vs := ⟨hvs.len, .inr ⟨_, _, cur, hX, Nat.zero_le _, hcur, hob.1, by rw [maxL_eq]; exact hob.2.1, hcs, htk⟩⟩
    obtain ⟨v', w', hrun, hown', hgrow, _⟩ := Lib.run_append_own_string (P := P) w 0 t t' ty E f hu hut hf hz hfs hfb (a.eval x) l.length vs hown b hmaxl hfit (Nat.zero_le _)
    have hat : (∃ c, 0 < c ∧ v' = .slice (some ⟨(loc id).1, 0, none⟩) (l.length + b.size) c) ∨ (∃ c, 0 < c ∧ v' = .slice (some ⟨w.heap.size, 0, none⟩) (l.length + b.size) c) := by
      by_cases hroom : l.length + b.size ≤ (loc id).2
      · have hcs1 : cur.size = (loc id).2 * 1 := hcs
        have := Lib.run_append_room_string (P := P) w t t' ty E f hu hut hf hfs (loc id).1 l.length (loc id).2 cur hcur b hroom (by omega)
        rw [hX] at hrun
        have this := hrun.symm.trans this
        cases this
        exact .inl ⟨_, hc, rfl⟩
      · have holds : ∀ j u, vs[j]? = some u → w.cell? ((⟨(loc id).1, 0, none⟩ : Addr).add j) = some u := hown.cells (g := (loc id).1) (by rw [hX]; rfl)
        have := Lib.run_append_grow_string (P := P) w t t' ty E f (.int .u8 0) hu hut hf hz ⟨(loc id).1, 0, none⟩ l.length (loc id).2 vs (by rw [hfs]; exact hvs.len) holds b (by omega) (by omega) (by rw [hfb]; exact growslice_fits (by omega) (by omega))
        rw [hX] at hrun
        have this := hrun.symm.trans this
        cases this
        exact .inr ⟨_, by have := grownCap_ge w (l.length + b.size) (loc id).2 E; omega, rfl⟩
    have hblk : ∀ k, k < w.heap.size → (0 < (loc id).2 → k ≠ (loc id).1) → w'.heap[k]? = w.heap[k]? := fun k hk hne => hgrow.block k hk (fun e => by
      rw [hX] at e
      simp only [Value.ownBlock, Option.some.injEq] at e
      exact hne hc e)
    rcases hat with ⟨c, hcp, rfl⟩ | ⟨c, hcp, rfl⟩
    · exact fin 0 _ c w' vs hvs hown' (fun _ => .inr ⟨hc, rfl⟩) (fun _ => hcp) hgrow.os hgrow.tape hgrow.output hgrow.size hblk (by rw [hY]; exact hrun)
    · exact fin 0 _ c w' vs hvs hown' (fun _ => .inl (Nat.le_refl _)) (fun _ => hcp) hgrow.os hgrow.tape hgrow.output hgrow.size hblk (by rw [hY]; exact hrun)
  · have hl0 : l = [] := List.eq_nil_of_length_eq_zero (by omega)
    subst hl0
    have hc0 : (loc id).2 = 0 := by omega
    rw [hc0] at hX
    have hX : a.eval x = .slice A0 0 0 := hX
    by_cases hb : b.size = 0
    · have hb0 : by_ b = [] := List.eq_nil_of_length_eq_zero (by omega)
      have hrun : (Builtin.append_ #[t, t'] ty #[a.eval x, a.eval y]).run P w = .ok (.slice A0 0 0) w := by
        rw [hX, hY]
        have h2 := Lib.run_firstCells_string (P := P) w 1 b
        rw [hb] at h2
        have h3 : Lib.strCells b = [] := List.eq_nil_of_length_eq_zero (by rw [Lib.strCells_length]; exact hb)
        rw [h3] at h2
        cases A0 <;> simp [Builtin.append_, run_underlying hu, run_underlying hut, sizeOf, typeInfo, hf, hfs, Builtin.lenOf, hb, h2, storeCells]
      unfold Oper.wp
      rw [run_app2 _ _ _ _ _ hrun]
      have := hs.move (w' := w) (id' := id') (g := (loc id).1) (c := 0) (ob' := .arr E (.int .u8) ([] ++ by_ b)) ho rfl hid' (fun h => absurd h (Nat.lt_irrefl _)) rfl rfl rfl (Nat.le_refl _) (fun _ _ _ => rfl) (fun M' loc' o' hk ht => by
        rw [hb0]
        exact flat_arr (t := .int .u8) (vs := []) (cur := #[]) (Nat.le_refl _) (Nat.zero_le _) (fun h => absurd h (Nat.lt_irrefl _)))
      have hr := rel_new (loc id).1 0 w A0 (fun h => absurd h (Nat.lt_irrefl _)) (fun hz _ => hAz hz hc0)
      rw [hb] at hr
      exact hK _ _ _ (this.put hd hr)
    · cases A0 with
      | none =>
        have hown : w.ownsRow 0 E 1 (a.eval x) 0 [] := by rw [hX]; exact World.ownsRow_nil w 0 E 1
        obtain ⟨v', w', hrun, hown', hgrow, _⟩ := Lib.run_append_own_string (P := P) w 0 t t' ty E f hu hut hf hz hfs hfb (a.eval x) 0 [] hown b (by simpa using hmaxl) (by simpa using hfit) (Nat.zero_le _)
        have := run_append_nil_string (P := P) w t t' ty E f (.int .u8 0) hu hut hf hz b (by omega) (by simp at hfit; omega) (by rw [hfb]; simp at hfit; omega)
        rw [hX] at hrun
        have this := hrun.symm.trans this
        obtain ⟨c, hcp, hv⟩ : ∃ c, 0 < c ∧ v' = .slice (some ⟨w.heap.size, 0, none⟩) b.size c := by cases this; exact ⟨_, by have := grownCap_ge w b.size 0 E; omega, rfl⟩
        subst hv
        exact fin 0 w.heap.size c w' [] rfl (by simpa using hown') (fun _ => .inl (Nat.le_refl _)) (fun _ => hcp) hgrow.os hgrow.tape hgrow.output hgrow.size (fun k hk hne => hgrow.block k hk (fun e => by rw [hX] at e; simp [Value.ownBlock] at e)) (by rw [hX, hY]; simpa using hrun)
      | some b0 =>
        have hrun := Lib.run_append_grow_string (P := P) w t t' ty E f (.int .u8 0) hu hut hf hz b0 0 0 [] (by simp) (by simp) b (by omega) (by simp at hfit; omega) (by rw [hfb]; exact growslice_fits (by omega) (by simp at hfit; omega))
        simp only [Nat.zero_add] at hrun
        refine fin 0 w.heap.size (grownCap w b.size 0 E) _ [] rfl ?_ (fun _ => .inl (Nat.le_refl _)) (fun _ => by have := grownCap_ge w b.size 0 E; omega) ?_ ?_ ?_ ?_ ?_ (by rw [hX, hY]; simpa using hrun)
        · have hge := grownCap_ge w b.size 0 E
          have hcm : grownCap w b.size 0 E ≤ maxLen := grownCap_le_maxLen w b.size 0 E (by simpa using hmaxl)
          refine ⟨by rw [List.nil_append, Lib.strCells_length]; simp, .inr ⟨w.heap.size, _, _, rfl, Nat.zero_le _, heap_alloc_new w.drew _, by simpa using hge, hcm, ?_, ?_⟩⟩
          · have hz1 : (Value.int IntKind.u8 0).cells.size = 1 := rfl
            simp only [Array.size_append, List.size_toArray, size_zeroCells, hz1, Lib.strCells_length, List.length_nil]
            omega
          · simp only [Array.toList_append, List.nil_append]
            rw [List.take_left' (by rw [Lib.strCells_length]; simp)]
        · rfl
        · rfl
        · rfl
        · simp
        · intro k hk _; exact Lib.alloc_old w.drew _ k hk
theorem Ev.e_apS (X : Cx P) (id' : Nat) {id E : Nat} {l r : List Int} {b : ByteArray} (h : apS_ l b = some r) (hx : V s o n x = .own id) (ho : lookO o id = some (.arr E (.int .u8) l)) (hy : V s o n y = .v .str b) (ht : X.ty t = some (.sl (.int .u8))) (ht' : X.ty t' = some .str) (he : X.el t = some (E, 1))
    (hid' : lookO o id' = none) (hd : Nat.blt d n = true) : Ev P ⟨some d, .call ⟨.builtin .append, #[x, y], #[t, t']⟩, ty, pos, after, gd⟩ s o n (.own id') ((id', .arr E (.int .u8) r) :: (id, .dead) :: o) := Ev.mk fun F hF N w0 loc a w _ hs Q K hK => by
  unfold apS_ at h
  split at h
  · rename_i hfit
    cases h
    exact append_coreS false X id' hs ((hs.lk hF).look (by simp [Op.operands, Call.operands]) hx) (of_str ((hs.lk hF).look (by simp [Op.operands, Call.operands]) hy)) ho ht ht' he hid' hd hfit Q K hK
  · cases h
/-- In the builder's row. -/
theorem Ev.e_apZ (X : Cx P) (id' : Nat) {id E : Nat} {l r : List Int} {b : ByteArray} (h : apS_ l b = some r) (hx : V s o n x = .owz id) (ho : lookO o id = some (.arr E (.int .u8) l)) (hy : V s o n y = .v .str b) (ht : X.ty t = some (.sl (.int .u8))) (ht' : X.ty t' = some .str) (he : X.el t = some (E, 1))
    (hid' : lookO o id' = none) (hd : Nat.blt d n = true) : Ev P ⟨some d, .call ⟨.builtin .append, #[x, y], #[t, t']⟩, ty, pos, after, gd⟩ s o n (.owz id') ((id', .arr E (.int .u8) r) :: (id, .dead) :: o) := Ev.mk fun F hF N w0 loc a w _ hs Q K hK => by
  unfold apS_ at h
  split at h
  · rename_i hfit
    cases h
    exact append_coreS true X id' hs ((hs.lk hF).look (by simp [Op.operands, Call.operands]) hx) (of_str ((hs.lk hF).look (by simp [Op.operands, Call.operands]) hy)) ho ht ht' he hid' hd hfit Q K hK
  · cases h
theorem owz_at {w : World} {M : Nat → Prop} {loc : Nat → Nat × Nat} {id E : Nat} {τ : Ty} {l : List τ.den} (ho : lookO o id = some (.arr E τ l)) {u : Value} (h : AV.rel w M loc o (.owz id) u) : ∃ A, u = .slice A l.length (loc id).2 ∧ (0 < (loc id).2 → A = some ⟨(loc id).1, 0, none⟩) ∧ ((loc id).2 = 0 → A = none) := by
  rw [AV.rel] at h
  obtain ⟨ob, h1, h2⟩ := h
  rw [ho] at h1; cases h1
  exact h2 _ _ _ rfl
theorem Ev.e_lenZ (X : Cx P) {id E : Nat} {τ : Ty} {l : List τ.den} (hx : V s o n x = .owz id) (ho : lookO o id = some (.arr E τ l)) (ht : X.ty t = some (.sl τ)) (hd : Nat.blt d n = true) : Ev P ⟨some d, .call ⟨.builtin .len, #[x], #[t]⟩, ty, pos, after, gd⟩ s o n (.v (.int .i64) (l.length : Int)) o :=
  Ev.pure hd (fun N w0 loc a w hs => by
    obtain ⟨A0, hX, _⟩ := owz_at ho (hs.look (by simp [Op.operands, Call.operands]) hx)
    obtain ⟨e, hu, _⟩ := (X.ok _ _ ht).desc
    refine ⟨.int .i64 l.length, run_callBuiltin _ _ _ _ (fun _ => ?_), rel_int⟩
    simp [builtin, Builtin.len_, hX, Go.underlying, hu, goInt])
theorem Ev.e_apSN (X : Cx P) (id0 id' : Nat) {E : Nat} {r : List Int} {b : ByteArray} (h : apS_ [] b = some r) (hx : V s o n x = .nil) (hy : V s o n y = .v .str b) (ht : X.ty t = some (.sl (.int .u8))) (ht' : X.ty t' = some .str) (he : X.el t = some (E, 1))
    (hid0 : lookO o id0 = none) (hid' : lookO ((id0, .arr E (.int .u8) ([] : List Int)) :: o) id' = none) (hd : Nat.blt d n = true) : Ev P ⟨some d, .call ⟨.builtin .append, #[x, y], #[t, t']⟩, ty, pos, after, gd⟩ s o n (.own id') ((id', .arr E (.int .u8) r) :: (id0, .dead) :: (id0, .arr E (.int .u8) ([] : List Int)) :: o) := Ev.mk fun F hF N w0 loc a w _ hs Q K hK => by
  unfold apS_ at h
  split at h
  · rename_i hfit
    cases h
    have h1 := hs.new (w' := w) (id := id0) (g := w.heap.size) (c := 0) (ob := .arr E (.int .u8) ([] : List Int)) hid0 (Nat.le_refl _) (Below.refl _ _) (fun M' loc' o' hk ht => ⟨Nat.le_refl _, Nat.zero_le _, fun h => absurd h (Nat.lt_irrefl _)⟩)
    have hx0 := (hs.lk hF).look (by simp [Op.operands, Call.operands]) hx
    rw [AV.rel] at hx0
    have hself : lookO ((id0, Ob.arr E (.int .u8) ([] : List Int)) :: o) id0 = some (.arr E (.int .u8) ([] : List Int)) := by rw [lookO_cons, if_pos rfl]
    refine append_coreS false X id' h1 (id := id0) (l := []) ?_ (of_str ((hs.lk hF).look (by simp [Op.operands, Call.operands]) hy)) hself ht ht' he hid' hd hfit Q K hK
    show AV.rel _ _ _ _ (.own id0) _
    rw [AV.rel]
    exact ⟨_, hself, fun E' t' l' e => by cases e; rw [put2_same]; exact ⟨none, hx0, fun h => absurd h (Nat.lt_irrefl _)⟩⟩
  · cases h

/-! ### From bytes to a text, without a copy -/
def US (P : Program) (t E : TypeId) : Prop := P.underlying t = some (.pointer E) ∧ P.cellsOf E = 1
def chkUS (P : Program) (t E : TypeId) : Bool := (match P.underlying t with | some (.pointer e) => Nat.beq e E | _ => false) && Nat.beq (P.cellsOf E) 1
theorem US.of {P : Program} {t E : TypeId} (h : chkUS P t E = true) : US P t E := by
  unfold chkUS at h
  rw [Bool.and_eq_true] at h
  refine ⟨?_, Nat.eq_of_beq_eq_true h.2⟩
  have h1 := h.1
  split at h1
  · rename_i e he; rw [he, Nat.eq_of_beq_eq_true h1]
  · cases h1
theorem Ev.e_usd (X : Cx P) {id E : Nat} {τ : Ty} {l : List τ.den} (h : decide (List.length (α := τ.den) l = 0) = false) (hx : V s o n x = .owz id) (ho : lookO o id = some (.arr E τ l)) (hd : Nat.blt d n = true) :
    Ev P ⟨some d, .call ⟨.builtin .unsafeSliceData, #[x], #[t]⟩, ty, pos, after, gd⟩ s o n (.oel id 0 0) o :=
  Ev.pure hd (fun N w0 loc a w hs => by
    obtain ⟨A0, hX, hA0, _⟩ := owz_at ho (hs.look (by simp [Op.operands, Call.operands]) hx)
    have hob := hs.rep.obs id _ ho
    have hl : 0 < List.length (α := τ.den) l := Nat.pos_of_ne_zero (of_decide_eq_false h)
    have h1 : List.length (α := τ.den) l ≤ (loc id).2 := hob.1
    have hc : 0 < (loc id).2 := by omega
    have hA0 := hA0 hc
    subst hA0
    have hrun := Lib.run_unsafeSliceData_row (P := P) w #[t] ty ⟨(loc id).1, 0, none⟩ l.length (loc id).2 (by omega)
    refine ⟨.pointer (some ⟨(loc id).1, 0, none⟩), ?_, ?_⟩
    · simp only [execOp, resolve]
      simp [invoke, builtin, hX, hrun]
    · rw [AV.rel]
      refine ⟨_, ho, fun E' t' l' e => ?_⟩
      cases e
      exact ⟨by omega, by simp⟩)
/-- Of a row of nothing: some pointer. -/
theorem Ev.e_usd0 (X : Cx P) {id E : Nat} {τ : Ty} {l : List τ.den} (h : decide (List.length (α := τ.den) l = 0) = true) (hx : V s o n x = .owz id) (ho : lookO o id = some (.arr E τ l)) (hd : Nat.blt d n = true) :
    Ev P ⟨some d, .call ⟨.builtin .unsafeSliceData, #[x], #[t]⟩, ty, pos, after, gd⟩ s o n .anyp o :=
  Ev.pure hd (fun N w0 loc a w hs => by
    obtain ⟨A0, hX, hA0, hA1⟩ := owz_at ho (hs.look (by simp [Op.operands, Call.operands]) hx)
    have hrel : ∀ q, AV.rel w (Muts N loc o) loc o .anyp (.pointer q) := fun q => by rw [AV.rel]; exact ⟨q, rfl⟩
    by_cases hc : (loc id).2 = 0
    · have hA1 := hA1 hc
      subst hA1
      refine ⟨.pointer none, ?_, hrel _⟩
      simp only [execOp, resolve]
      simp [invoke, builtin, hX, Lib.run_unsafeSliceData_nil]
    · have hA0 := hA0 (Nat.pos_of_ne_zero hc)
      subst hA0
      have hrun := Lib.run_unsafeSliceData_row (P := P) w #[t] ty ⟨(loc id).1, 0, none⟩ l.length (loc id).2 hc
      refine ⟨.pointer (some ⟨(loc id).1, 0, none⟩), ?_, hrel _⟩
      simp only [execOp, resolve]
      simp [invoke, builtin, hX, hrun])
theorem Ev.e_ust0 {id : Nat} {l : List Int} (h : decide (l.length = 0) = true) (hx : V s o n x = .anyp) (hy : V s o n y = .v (.int .i64) (l.length : Int)) (hd : Nat.blt d n = true) :
    Ev P ⟨some d, .call ⟨.builtin .unsafeString, #[x, y], #[t, t']⟩, ty, pos, after, gd⟩ s o n (.v .str (bs [])) ((id, .dead) :: o) := Ev.mk fun F hF N w0 loc a w hN hs Q K hK => by
  have hX := (hs.lk hF).look (by simp [Op.operands, Call.operands]) hx
  rw [AV.rel] at hX
  obtain ⟨q, hX⟩ := hX
  have hY := of_int ((hs.lk hF).look (by simp [Op.operands, Call.operands]) hy)
  have hl : l.length = 0 := of_decide_eq_true h
  have hY : a.eval y = .int .i64 0 := by rw [hY, hl]; rfl
  have hrun := Lib.run_unsafeString_none (P := P) w t t' ty q
  unfold Oper.wp
  have hw : (execOp a.eval ⟨some d, .call ⟨.builtin .unsafeString, #[x, y], #[t, t']⟩, ty, pos, after, gd⟩).run P w = .ok (.value (.string (bs []))) w := by
    simp only [execOp, resolve]
    simp [invoke, builtin, hX, hY, hrun]
    rfl
  rw [hw]
  exact hK _ _ _ (hs.kill0.put hd rel_str)
theorem Ev.e_ust {id E : Nat} {l : List Int} {b : ByteArray} {m : Int} (hE : US P t E) (h : ust l = some b) (hx : V s o n x = .oel id 0 0) (ho : lookO o id = some (.arr E (.int .u8) l)) (hy : V s o n y = .v (.int .i64) m) (hm : m = (l.length : Int)) (hd : Nat.blt d n = true) :
    Ev P ⟨some d, .call ⟨.builtin .unsafeString, #[x, y], #[t, t']⟩, ty, pos, after, gd⟩ s o n (.v .str b) ((id, .dead) :: o) := Ev.mk fun F hF N w0 loc a w hN hs Q K hK => by
  unfold ust at h
  split at h
  · rename_i hc
    cases h
    obtain ⟨hne, hall⟩ := hc
    have hlk := hs.lk hF
    have hX := (oel_at ho (hlk.look (by simp [Op.operands, Call.operands]) hx)).2
    have hY := of_int (hlk.look (by simp [Op.operands, Call.operands]) hy)
    have hob := hs.rep.obs id _ ho
    have hlp : 0 < l.length := by cases l with | nil => exact absurd rfl hne | cons a l => simp
    have h1 : l.length ≤ (loc id).2 := hob.1
    have hcp : 0 < (loc id).2 := by omega
    obtain ⟨cur, hcur, hcs, hrel⟩ := hob.2.2 hcp
    have hcs1 : cur.size = (loc id).2 := by rw [hcs]; exact Nat.mul_one _
    have hlen : (l.map fun n => UInt8.ofNat n.toNat).length = l.length := List.length_map _
    have hrun := Lib.run_unsafeString_row (P := P) w t t' ty E hE.1 hE.2 (loc id).1 cur.size (by simp [World.shape?, hcur]) (l.map fun n => UInt8.ofNat n.toNat) (by simpa using hne) (by rw [hlen]; omega) (by rw [hlen]; have := hob.2.1; unfold maxL at this; omega) (fun j u hj => by
      rw [List.getElem?_map] at hj
      cases hlj : l[j]? with
      | none => rw [hlj] at hj; cases hj
      | some z =>
        rw [hlj] at hj
        cases hj
        obtain ⟨ds, g1, g2⟩ := hrel j z hlj
        cases g1
        have g3 := g2 0 _ rfl
        have hz := List.all_eq_true.1 hall z (List.mem_of_getElem? hlj)
        rw [Bool.and_eq_true] at hz
        have z1 := of_decide_eq_true hz.1
        have z2 := of_decide_eq_true hz.2
        rw [add_lit]
        simp only [World.cell?, hcur]
        have e : (UInt8.ofNat z.toNat).toNat = z.toNat := by
          rw [UInt8.toNat_ofNat']
          exact Nat.mod_eq_of_lt (by omega)
        rw [e]
        have e2 : ((z.toNat : Nat) : Int) = z := by omega
        rw [e2]
        simpa [Ty.sz] using g3)
    rw [hlen] at hrun
    have hX' : a.eval x = .pointer (some ⟨(loc id).1, 0, none⟩) := by rw [hX]; simp
    have hY' : a.eval y = .int .i64 l.length := by rw [hY, hm]
    have hw : (execOp a.eval ⟨some d, .call ⟨.builtin .unsafeString, #[x, y], #[t, t']⟩, ty, pos, after, gd⟩).run P w = .ok (.value (.string (tx l))) (w.freeze ⟨(loc id).1, 0, none⟩ l.length) := by
      simp only [execOp, resolve]
      simp [invoke, builtin, hX', hY', hrun, tx]
    unfold Oper.wp
    rw [hw]
    have hh : Has loc o id (.arr E (.int .u8) l) := ⟨ho, rfl, hcp⟩
    have hlkd : ∀ i, lookO ((id, Ob.dead) :: o) i = if id = i then some .dead else lookO o i := fun i => lookO_cons ..
    have hold : ∀ i ob1, Has loc ((id, .dead) :: o) i ob1 → id ≠ i ∧ Has loc o i ob1 := by
      rintro i ob1 ⟨h1, h2, h3⟩
      rw [hlkd] at h1
      by_cases hi : id = i
      · rw [if_pos hi] at h1; cases h1; cases h2
      · rw [if_neg hi] at h1; exact ⟨hi, h1, h2, h3⟩
    have ht : Turns loc loc o ((id, .dead) :: o) := fun i ob1 h => by
      rw [hlkd]
      by_cases hi : id = i
      · exact ⟨.dead, if_pos hi, .dead, fun _ => rfl⟩
      · exact ⟨ob1, by rw [if_neg hi]; exact h, .refl, fun _ => rfl⟩
    have hfz : ∀ k, k ≠ (loc id).1 → (w.freeze ⟨(loc id).1, 0, none⟩ l.length).heap[k]? = w.heap[k]? := fun k hk => by
      unfold World.freeze
      split
      · rfl
      · simp [Array.getElem?_modify, Ne.symm hk]
    have hfs : (w.freeze ⟨(loc id).1, 0, none⟩ l.length).heap.size = w.heap.size := by
      unfold World.freeze
      split
      · rfl
      · simp
    have hfo : (w.freeze ⟨(loc id).1, 0, none⟩ l.length).os = w.os ∧ (w.freeze ⟨(loc id).1, 0, none⟩ l.length).tape = w.tape ∧ (w.freeze ⟨(loc id).1, 0, none⟩ l.length).output = w.output := by
      unfold World.freeze
      split <;> exact ⟨rfl, rfl, rfl⟩
    have hk : Keeps w (w.freeze ⟨(loc id).1, 0, none⟩ l.length) (Muts N loc o) (Muts N loc ((id, .dead) :: o)) := ⟨by rw [hfs]; exact Nat.le_refl _, fun k _ hm => hfz k (fun e => hm (.inr ⟨id, _, hh, e.symm⟩)), fun k _ hm => by
      rcases hm with h | ⟨i, ob1, h, rfl⟩
      · exact .inl h
      · exact .inr ⟨i, ob1, (hold i ob1 h).2, rfl⟩⟩
    have hbel : Bel w0 (w.freeze ⟨(loc id).1, 0, none⟩ l.length) := ⟨hfo.1.trans hs.below.os, hfo.2.1.trans hs.below.tape, hfo.2.2.trans hs.below.output, by rw [hfs]; exact hs.below.size, fun k hk0 => (hfz k (fun e => hs.rep.new id _ hh (e ▸ hk0))).trans (hs.below.block k hk0)⟩
    have hs2 := hs.chg hbel hk ht ⟨fun i ob1 h => hs.rep.new i ob1 (hold i ob1 h).2, fun i i' ob1 ob2 h1 h2 he => hs.rep.inj i i' ob1 ob2 (hold i ob1 h1).2 (hold i' ob2 h2).2 he, fun i ob1 h => by
      have h0 := h
      rw [hlkd] at h
      by_cases hi : id = i
      · rw [if_pos hi] at h; cases h; trivial
      · rw [if_neg hi] at h
        refine Ob.rel_turns hk ht ob1 (fun hl1 hc1 => hfz _ (fun e => hi ?_)) (hs.rep.obs i ob1 h)
        exact (hs.rep.inj i id ob1 _ ⟨h, hl1, hc1⟩ hh e).symm⟩
    exact hK _ _ _ (hs2.put hd rel_str)
  · cases h

/-! ### Copies -/
theorem Ev.e_rest (X : Cx P) {lo : Operand} {id E m : Nat} {τ : Ty} {l : List τ.den} {k : IntKind} {i : Int} (h : sfx l i = some m) (hx : V s o n x = .own id) (ho : lookO o id = some (.arr E τ l)) (hh : V s o n lo = .v (.int k) i) (ht : X.ty t = some (.sl τ)) (hd : Nat.blt d n = true) : Ev P ⟨some d, .slice t x (some lo) none none, ty, pos, after, gd⟩ s o n (.osl id m) o := by
  unfold sfx at h
  split at h
  · rename_i hc
    cases h
    exact Ev.rest X hx ho hh ht hd hc.1 hc.2
  · cases h
theorem Ev.e_cp (X : Cx P) {id i E : Nat} {τ : Ty} {l ys r : List τ.den} {A : AV} (h : cpy l i ys = some r) (hx : V s o n x = .osl id i) (ho : lookO o id = some (.arr E τ l)) (hy : V s o n y = A) (hA : Src o A τ ys) (ht : X.ty t = some (.sl τ)) (hd : Nat.blt d n = true) :
    Ev P ⟨some d, .call ⟨.builtin .copy, #[x, y], #[t, t']⟩, ty, pos, after, gd⟩ s o n (.v (.int .i64) (ys.length : Int)) ((id, .arr E τ r) :: o) := by
  unfold cpy at h
  split at h
  · rename_i hc
    cases h
    exact Ev.copy X hx ho hy hA ht hd hc
  · cases h
/-- A row, as the rest of itself. -/
theorem Ghost.whole {v id : Nat} {ob : Ob} (hv : look s v = .own id) (ho : lookO o id = some ob) : Ghost ⟨s, o, n⟩ ⟨(v, .osl id 0) :: s, o, n⟩ := fun N w0 a w hN ⟨loc, hs⟩ => ⟨loc, hs.say (by
  have h := hs.slots v
  rw [show look s v = .own id from hv, AV.rel] at h
  rw [AV.rel]
  obtain ⟨ob, h1, h2⟩ := h
  refine ⟨ob, h1, fun E t l e => ?_⟩
  obtain ⟨A, e1, e2⟩ := h2 E t l e
  exact ⟨Nat.zero_le _, A, by rw [e1]; simp, fun hc => by rw [e2 hc]; simp⟩)⟩

/-! ### A pointer turned, and turned back -/
def UP (P : Program) (t t' : TypeId) : Prop := ∃ e j, P.underlying t = some (.pointer e) ∧ P.underlying t' = some .unsafePointer ∧ P.info? e = some j ∧ j.size ≠ 0
def chkUP (P : Program) (t t' : TypeId) : Bool := match P.underlying t, P.underlying t' with
  | some (.pointer e), some .unsafePointer => (match P.info? e with | some j => !Nat.beq j.size 0 | none => false)
  | _, _ => false
theorem UP.of {P : Program} {t t' : TypeId} (h : chkUP P t t' = true) : UP P t t' := by
  unfold chkUP at h
  split at h
  · rename_i e h1 h2
    split at h
    · rename_i j hj
      exact ⟨e, j, h1, h2, hj, Nat.ne_of_beq_eq_false (by simpa using h)⟩
    · cases h
  · cases h
theorem Ev.e_toU {id off : Nat} {cells : List AV} (hp : UP P t t') (hx : V s o n x = .box id off) (ho : lookO o id = some (.box cells)) (hoff : Nat.blt off cells.length = true) (hd : Nat.blt d n = true) : Ev P ⟨some d, .convert t t' x, ty, pos, after, gd⟩ s o n (.box id off) o :=
  Ev.pure hd (fun N w0 loc a w hs => by
    have h0 := hs.look (by simp [Op.operands]) hx
    have h1 := box_ptr ho h0
    obtain ⟨_, cur, E, hcur, hrel⟩ := box_at hs.rep ho
    obtain ⟨e, j, h2, h3, h4, h5⟩ := hp
    have hlen := rels_len hrel
    have := Lib.run_to_unsafe (P := P) w (e := E) (cells := cur.size) ⟨(loc id).1, off, none⟩ h2 h3 h4 h5 (by simp [World.shape?, hcur]) (by rw [← Array.length_toList, hlen]; exact blt_lt hoff)
    refine ⟨_, ?_, h0⟩
    rw [h1]
    simp [execOp, h1, this])
/-- A pointer to what is laid so. -/
def UL (P : Program) (t t' T : TypeId) (k : Nat) : Prop := P.underlying t = some .unsafePointer ∧ P.underlying t' = some (.pointer T) ∧ (∃ j, P.info? T = some j) ∧ liesAt P P.depth T (k / P.cellsOf T) 0 T 1 = true
def chkUL (P : Program) (t t' T : TypeId) (k : Nat) : Bool := (match P.underlying t with | some .unsafePointer => true | _ => false) && (match P.underlying t' with | some (.pointer e) => Nat.beq e T | _ => false) && (P.info? T).isSome && liesAt P P.depth T (k / P.cellsOf T) 0 T 1
theorem UL.of {P : Program} {t t' T : TypeId} {k : Nat} (h : chkUL P t t' T k = true) : UL P t t' T k := by
  unfold chkUL at h
  simp only [Bool.and_eq_true] at h
  obtain ⟨⟨⟨h1, h2⟩, h3⟩, h4⟩ := h
  refine ⟨?_, ?_, Option.isSome_iff_exists.1 h3, h4⟩
  · split at h1
    · assumption
    · cases h1
  · split at h2
    · rename_i e he; rw [he, Nat.eq_of_beq_eq_true h2]
    · cases h2
theorem Ev.e_fromU {id T : Nat} {c : Bool} {cells : List AV} (hp : UL P t t' T (cells.length + 1)) (hx : V s o n x = .box id 0) (ho : lookO o id = some (.box (.pn c id 0 T :: cells))) (hd : Nat.blt d n = true) : Ev P ⟨some d, .convert t t' x, ty, pos, after, gd⟩ s o n (.box id 0) o :=
  Ev.pure hd (fun N w0 loc a w hs => by
    have h0 := hs.look (by simp [Op.operands]) hx
    have h1 := box_ptr ho h0
    obtain ⟨hbc, cur, E, hcur, hrel⟩ := box_at hs.rep ho
    obtain ⟨h2, h3, ⟨j, h4⟩, h5⟩ := hp
    have hlen := rels_len hrel
    have hcz : cur.size = cells.length + 1 := by rw [← Array.length_toList, hlen]; rfl
    rw [AV.rels] at hrel
    obtain ⟨u, us, _, hr, _⟩ := hrel
    rw [AV.rel] at hr
    obtain ⟨ob, g1, g2⟩ := hr
    rw [ho] at g1; cases g1
    have hT := (g2 _ rfl).2
    have hT' : (loc id).2 = T + 2 := hT
    have hE : (loc id).2 = E + 2 := hbc.2 cur E hcur (by rw [hT']; exact Nat.le_add_left 2 T)
    obtain rfl : E = T := Nat.add_right_cancel (hE.symm.trans hT')
    have := Lib.run_from_unsafe (P := P) w (e := E) (cells := cur.size) ⟨(loc id).1, 0, none⟩ h2 h3 h4 (by simp [World.shape?, hcur]) (by rw [hcz]; exact h5)
    refine ⟨_, ?_, h0⟩
    rw [h1]
    simp [execOp, h1, this])
/-- What hands back what it is handed. -/
def NE (P : Program) (g : Nat) : Prop := ∃ fn, P.funcs[g]? = some fn ∧ (fn.name == "runtime.NumGoroutine") = false ∧ fn.body.isNone = true ∧ Extern.findNext fn = none ∧ Extern.find fn = some Extern.AbiNoEscape.same
theorem Ev.e_noesc {f : Operand} {ts : Array TypeId} {g : Nat} {A : AV} (hg : NE P g) (hf : V s o n f = .fn g []) (hx : V s o n x = A) (hd : Nat.blt d n = true) : Ev P ⟨some d, .call ⟨.value f, #[x], ts⟩, ty, pos, after, gd⟩ s o n A o :=
  Ev.pure hd (fun N w0 loc a w hs => by
    have h1 := eval_fn hs (by simp [Op.operands, Call.operands]) hf
    have h2 := hs.look (x := x) (by simp [Op.operands, Call.operands]) hx
    obtain ⟨fn, g1, g2, g3, g4, g5⟩ := hg
    have := run_callFunc_extern g1 g2 g3 g4 g5 #[a.eval x] w
    rw [Lib.run_noEscape] at this
    refine ⟨_, ?_, h2⟩
    simp only [Result.andThen] at this
    simp [execOp, resolve, h1, Deferred.ofValue, invoke, this])

/-- Where a byte stands first. -/
def IB (P : Program) (g : Nat) : Prop := ∃ fn, P.funcs[g]? = some fn ∧ (fn.name == "runtime.NumGoroutine") = false ∧ fn.body.isNone = true ∧ Extern.findNext fn = none ∧ Extern.find fn = some Extern.BytealgIndexByte.indexByte
theorem Ev.e_idxb {f : Operand} {ts : Array TypeId} {g : Nat} {b : ByteArray} {c : Int} (hg : IB P g) (hf : V s o n f = .fn g []) (hx : V s o n x = .v .str b) (hy : V s o n y = .v (.int .u8) c) (hd : Nat.blt d n = true) : Ev P ⟨some d, .call ⟨.value f, #[x, y], ts⟩, ty, pos, after, gd⟩ s o n (.v (.int .i64) (ixb b c)) o :=
  Ev.pure hd (fun N w0 loc a w hs => by
    have h1 := eval_fn hs (by simp [Op.operands, Call.operands]) hf
    have h2 := of_str (hs.look (x := x) (by simp [Op.operands, Call.operands]) hx)
    have h3 := of_int (hs.look (x := y) (by simp [Op.operands, Call.operands]) hy)
    obtain ⟨fn, g1, g2, g3, g4, g5⟩ := hg
    have := run_callFunc_extern g1 g2 g3 g4 g5 #[.string b, .int .u8 c] w
    rw [run_indexByte_string] at this
    refine ⟨_, ?_, rel_int⟩
    simp only [Result.andThen] at this
    simp [execOp, resolve, h1, Deferred.ofValue, invoke, h2, h3, this, ixb])

/-! ### The builder's own cells -/
/-- A new builder. -/
theorem Ev.e_allocB (id id2 E2 : Nat) (hz : ZS P t (([.ptr, .sl] : List ZK).map ZK.val)) (hid : lookO o id = none) (hid2 : lookO ((id, Ob.dead) :: o) id2 = none) (hd : Nat.blt d n = true) : Ev P ⟨some d, .alloc t, ty, pos, after, gd⟩ s o n (.box id 0) ((id2, .arr E2 (.int .u8) ([] : List Int)) :: (id, .box [.pn true id 0 t, .owz id2]) :: o) := Ev.mk fun F _ N w0 loc a w _ hs Q K hK => by
  obtain ⟨f, z, hf, hfz, hzl⟩ := hz
  have hrun : (Instr.alloc t true (.tuple #[])).run P w = .ok (.pointer (some ⟨w.heap.size, 0, none⟩)) (w.alloc (.cells z.cells t)) := by
    simp [Instr.alloc, zeroValue, typeInfo, hf, hfz, newVar, newRow]
  unfold Oper.wp
  rw [show (execOp a.eval ⟨some d, .alloc t, ty, pos, after, gd⟩).run P w = .ok (.value (.pointer (some ⟨w.heap.size, 0, none⟩))) (w.alloc (.cells z.cells t)) from run_v hrun]
  have hr : ∀ (M : Nat → Prop) (loc : Nat → Nat × Nat) (o : Objs) (w : World), AV.rels w M loc o [.nilp, .nil] z.cells.toList := by
    intro M loc o w
    rw [hzl]
    rw [AV.rels]
    refine ⟨.pointer none, [.slice none 0 0], rfl, by rw [AV.rel], ?_⟩
    rw [AV.rels]
    exact ⟨_, [], rfl, by rw [AV.rel], by rw [AV.rels]⟩
  have h1 := hs.new (ob := .box [.nilp, .nil]) (c := t + 2) hid (Nat.le_refl _) (below_alloc' w (.cells z.cells t)) (fun M' loc' o' hk ht => ⟨⟨by omega, fun cur E h _ => by rw [alloc_get] at h; cases h; rfl⟩, _, _, alloc_get _ _, hr _ _ _ _⟩)
  have ho1 : lookO ((id, Ob.box [.nilp, .nil]) :: o) id = some (.box [.nilp, .nil]) := by rw [lookO_cons, if_pos rfl]
  obtain ⟨hc, cur, E, hcur, hrel⟩ := h1.rep.obs id _ ho1
  have h2 := h1.set (w' := w.alloc (.cells z.cells t)) (ob := .box [.nilp, .nil]) (ob' := .box [.pn true id 0 t, .nil]) ho1 rfl .box hc.1 rfl rfl rfl (Nat.le_refl _) (fun _ _ _ => rfl) (fun M' o' hk ht => ⟨hc, cur, E, hcur, AV.rels_turns hk ht _ _ (by
    refine cell_set (A := .nilp) (B := .pn true id 0 t) (fun u hu => ?_) [.nilp, .nil] _ 0 rfl hrel
    rw [AV.rel] at hu
    rw [AV.rel.eq_def]
    exact ⟨_, ho1, fun cells _ => ⟨hu, by rw [put2_same]⟩⟩)⟩)
  have h3 : SatF N w0 ((id, .box [.pn true id 0 t, .nil]) :: o) n F (put2 loc id w.heap.size (t + 2)) a (w.alloc (.cells z.cells t)) := h2.alike (fun i => by
    rw [lookO_cons, lookO_cons, lookO_cons]
    by_cases hi : id = i
    · rw [if_pos hi, if_pos hi]
    · rw [if_neg hi, if_neg hi, if_neg hi])
  have hne : id2 ≠ id := by
    intro e; rw [e, lookO_cons, if_pos rfl] at hid2; cases hid2
  have hn2 : lookO ((id, Ob.box [.pn true id 0 t, .nil]) :: o) id2 = none := by
    rw [lookO_cons, if_neg (Ne.symm hne)] at hid2 ⊢; exact hid2
  have h4 := h3.new (w' := w.alloc (.cells z.cells t)) (id := id2) (g := (w.alloc (.cells z.cells t)).heap.size) (c := 0) (ob := .arr E2 (.int .u8) ([] : List Int)) hn2 (Nat.le_refl _) (Below.refl _ _) (fun M' loc' o' hk ht => ⟨Nat.le_refl _, Nat.zero_le _, fun h => absurd h (Nat.lt_irrefl _)⟩)
  have ho4 : lookO ((id2, Ob.arr E2 (.int .u8) ([] : List Int)) :: (id, Ob.box [.pn true id 0 t, .nil]) :: o) id = some (.box [.pn true id 0 t, .nil]) := by
    rw [lookO_cons, if_neg hne, lookO_cons, if_pos rfl]
  have ho5 : lookO ((id2, Ob.arr E2 (.int .u8) ([] : List Int)) :: (id, Ob.box [.pn true id 0 t, .nil]) :: o) id2 = some (.arr E2 (.int .u8) ([] : List Int)) := by
    rw [lookO_cons, if_pos rfl]
  obtain ⟨hc4, cur4, E4, hcur4, hrel4⟩ := h4.rep.obs id _ ho4
  have h5 := h4.set (w' := w.alloc (.cells z.cells t)) (ob := .box [.pn true id 0 t, .nil]) (ob' := .box [.pn true id 0 t, .owz id2]) ho4 rfl .box hc4.1 rfl rfl rfl (Nat.le_refl _) (fun _ _ _ => rfl) (fun M' o' hk ht => ⟨hc4, cur4, E4, hcur4, AV.rels_turns hk ht _ _ (by
    refine cell_set (A := .nil) (B := .owz id2) (fun u hu => ?_) [.pn true id 0 t, .nil] _ 1 rfl hrel4
    rw [AV.rel] at hu
    rw [AV.rel.eq_def]
    refine ⟨_, ho5, fun E' t' l' e => ?_⟩
    cases e
    rw [put2_same]
    exact ⟨none, hu, fun h => absurd h (Nat.lt_irrefl _), fun _ => rfl⟩)⟩)
  refine hK _ _ _ ((h5.alike (o' := (id2, .arr E2 (.int .u8) ([] : List Int)) :: (id, .box [.pn true id 0 t, .owz id2]) :: o) (fun i => ?_)).put hd ?_)
  · rw [lookO_cons, lookO_cons, lookO_cons, lookO_cons, lookO_cons]
    by_cases hi : id = i
    · subst hi
      rw [if_neg hne, if_pos rfl, if_pos rfl]
    · by_cases hi2 : id2 = i
      · rw [if_pos hi2, if_neg hi, if_pos hi2]
      · rw [if_neg hi2, if_neg hi, if_neg hi, if_neg hi2, if_neg hi]
  · rw [AV.rel]
    refine ⟨_, by rw [lookO_cons, if_neg hne, lookO_cons, if_pos rfl], fun c e => ?_⟩
    cases e
    rw [put2_ne (Ne.symm hne), put2_same]
/-- It takes its own address. -/
theorem Ev.e_stPn {id T : Nat} {c : Bool} {cells : List AV} (hz : SZ P t false 1) (hx : V s o n x = .box id 0) (ho : lookO o id = some (.box (.pn c id 0 T :: cells))) (hy : V s o n y = .box id 0) :
    Ev P ⟨none, .store t x y, ty, pos, after, gd⟩ s o n .bot ((id, .box (.pn false id 0 T :: cells)) :: o) := Ev.mk fun F hF N w0 loc a w hN hs Q K hK => by
  obtain ⟨_, _, _, _, hrel0⟩ := box_at hs.rep ho
  rw [AV.rels] at hrel0
  obtain ⟨u0, _, _, hr0, _⟩ := hrel0
  rw [AV.rel] at hr0
  obtain ⟨ob0, g1, g2⟩ := hr0
  rw [ho] at g1; cases g1
  have hT := (g2 _ rfl).2
  have hlk := hs.lk hF
  have h1 := box_ptr ho (hlk.look (by simp [Op.operands]) hx)
  have hy1 := hlk.look (by simp [Op.operands]) hy
  have h1y := box_ptr ho hy1
  obtain ⟨hp, cur, E, hcur, hrel⟩ := box_at hs.rep ho
  have hlen := rels_len hrel
  have hcl : cur.size = cells.length + 1 := by rw [← Array.length_toList]; exact hlen
  have hst := run_storeCells_at (P := P) (loc id).1 0 E [a.eval y] 0 cur w hcur (by simp; omega) (by intro u hu; simp at hu; subst hu; rw [h1y]; simp [Value.oneCell'])
  have hcy : (a.eval y).cells = #[a.eval y] := by rw [h1y]; rfl
  have hrun : (execOp a.eval ⟨none, .store t x y, ty, pos, after, gd⟩).run P w = .ok .skip (w.setRow (loc id).1 (cur.toList.take 0 ++ [a.eval y] ++ cur.toList.drop (0 + 1)).toArray) := by
    have hsz : (a.eval y).cells.size = 1 := by rw [hcy]; rfl
    simp [execOp, h1, Instr.storeAt, Instr.sureAddr, storeVar, hz.size, hsz]
    rw [hcy]
    simp at hst ⊢
    simp [hst]
  unfold Oper.wp
  rw [hrun]
  have hset := setRow_heap w (loc id).1 cur (cur.toList.take 0 ++ [a.eval y] ++ cur.toList.drop (0 + 1)).toArray E (0, 0) hcur
  have := hs.set (w' := w.setRow (loc id).1 (cur.toList.take 0 ++ [a.eval y] ++ cur.toList.drop (0 + 1)).toArray) (ob := .box (.pn c id 0 T :: cells)) (ob' := .box (.pn false id 0 T :: cells)) ho rfl .box hp.1 rfl rfl rfl (by simp [World.setRow]) (fun k _ hk => setRow_other w _ k _ hk) (fun M' o' hk ht => ⟨hp.set hcur hset, _, _, hset, AV.rels_turns hk ht _ _ (by
    rw [List.toList_toArray]
    have := rels_mid (bs := [.pn false id 0 T]) (vs := [a.eval y]) 0 hrel (by
      rw [AV.rels]
      refine ⟨_, [], rfl, ?_, by rw [AV.rels]⟩
      rw [AV.rel]
      exact ⟨_, ho, fun cells _ => ⟨h1y, hT⟩⟩)
    simpa using this)⟩)
  exact hK _ _ _ this
end
end Go.Proofs.YtihaljbhcnflfaaDoor.AE
/- Values of the program's structs. -/
namespace Go.Proofs.YtihaljbhcnflfaaDoor.AP
abbrev D_api_Int : Type := (Bool × (List Int))
abbrev D_triviumref07_Z : Type := (Bool × (List Int))
end Go.Proofs.YtihaljbhcnflfaaDoor.AP
/- Types of the printed functions, and what the proofs say of them. -/
namespace Go.Proofs.YtihaljbhcnflfaaDoor.AE
open Go Go.RowKit Go.Proofs.YtihaljbhcnflfaaDoor.AP
abbrev Y_api_Int : Ty := (.pair .bool (.sl (.int .u64)))
abbrev Y_triviumref07_Z : Ty := (.pair .bool (.sl (.int .i64)))
def tab : Tab := [(3, (.int .i64), 0), (4, .bool, 0), (5, (.int .u8), 0), (9, .str, 0), (21, (.int .i32), 0), (22, (.sl (.int .u64)), 0), (23, (.sl (.int .u64)), 0), (25, Y_api_Int, 2), (34, (.sl (.int .i64)), 0), (36, Y_triviumref07_Z, 2), (59, (.int .u64), 0), (98, (.sl (.int .u8)), 0), (113, (.sl .str), 0)]
def els : Els := [(22, 59, 8), (23, 59, 8), (34, 3, 8), (98, 5, 1), (113, 9, 16)]
def X : Cx Tryd.prog := Cx.of tab els (by kernel_rfl) (by kernel_rfl)
theorem pl25 : placesOf Tryd.prog 25 = some [(0, 1), (1, 1)] := by kernel_rfl
theorem pl36 : placesOf Tryd.prog 36 = some [(0, 1), (1, 1)] := by kernel_rfl
theorem zs25 : ZS Tryd.prog 25 (([.bool, .sl] : List ZK).map ZK.val) := ZS.of (by kernel_rfl)
theorem zs117 : ZS Tryd.prog 117 (([.ptr, .sl] : List ZK).map ZK.val) := ZS.of (by kernel_rfl)
theorem sz25 : SZ Tryd.prog 25 true 2 := SZ.of (by kernel_rfl)
theorem sz98 : SZ Tryd.prog 98 false 1 := SZ.of (by kernel_rfl)
theorem sz115 : SZ Tryd.prog 115 false 1 := SZ.of (by kernel_rfl)
theorem fo117_0 : FO Tryd.prog 117 0 0 115 := FO.of (by kernel_rfl)
theorem fo117_1 : FO Tryd.prog 117 1 1 98 := FO.of (by kernel_rfl)
theorem en73 : Enters Tryd.prog 73 := ⟨_, Tryd.func73, rfl, rfl⟩
theorem en74 : Enters Tryd.prog 74 := ⟨_, Tryd.func74, rfl, rfl⟩
theorem en82 : Enters Tryd.prog 82 := ⟨_, Tryd.func82, rfl, rfl⟩
theorem en84 : Enters Tryd.prog 84 := ⟨_, Tryd.func84, rfl, rfl⟩
theorem en94 : Enters Tryd.prog 94 := ⟨_, Tryd.func94, rfl, rfl⟩
theorem pt115 : PT Tryd.prog 115 := PT.of (by kernel_rfl)
theorem up115_139 : UP Tryd.prog 115 139 := UP.of (by kernel_rfl)
theorem ul139_115_117_2 : UL Tryd.prog 139 115 117 2 := UL.of (by kernel_rfl)
theorem us137_5 : US Tryd.prog 137 5 := US.of (by kernel_rfl)
theorem ib104 : IB Tryd.prog 104 := ⟨_, Tryd.func104, by kernel_rfl, by kernel_rfl, by kernel_rfl, by kernel_rfl⟩
theorem ne100 : NE Tryd.prog 100 := ⟨_, Tryd.func100, by kernel_rfl, by kernel_rfl, by kernel_rfl, by kernel_rfl⟩
end Go.Proofs.YtihaljbhcnflfaaDoor.AE
/- Functions of the program, as Lean functions (printed by a program of ours). -/
namespace Go.Proofs.YtihaljbhcnflfaaDoor.AP
open Go
set_option linter.unusedVariables false
noncomputable section
def m_triviumref02_Clean_l1 (p0 : (List Int)) (p1 : Int) : (Int × (List Int)) → Option ((Int × (List Int)) ⊕ ((List Int)))
  | (v2, v3) =>
    bd (
      if decide (v2 < (p0.length : Int)) then (
        some (decide (v2 < p1)))
      else (
        some false)) fun v4 =>
    if v4 then (
      bd (rd p0 v2) fun x7 =>
      bd (rm .u64 x7 4294967296) fun x9 =>
      bd (ap 8 v3 [x9]) fun x11 =>
      some (.inl (wi64 (v2 + 1), x11)))
    else (
      some (.inr v3))
def m_triviumref02_Clean_l2  : (List Int) → Option (((List Int)) ⊕ ((List Int)))
  | v14 =>
    bd (
      if decide (0 < (v14.length : Int)) then (
        bd (rd v14 (wi64 ((v14.length : Int) - 1))) fun x17 =>
        some (decide (x17 = 0)))
      else (
        some false)) fun v15 =>
    if v15 then (
      bd (ct v14 0 (wi64 ((v14.length : Int) - 1))) fun x20 =>
      some (.inl x20))
    else (
      some (.inr v14))
def m_triviumref02_Clean (p0 : (List Int)) (p1 : Int) : Option ((List Int)) :=
  bd (lp (m_triviumref02_Clean_l1 p0 p1) (0, [])) fun v1 =>
  bd (lp (m_triviumref02_Clean_l2) v1) fun v13 =>
  some v13
def m_triviumref07_Clean (p0 : D_api_Int) (p1 : Int) : Option (D_api_Int) :=
  bd (m_triviumref02_Clean p0.2 p1) fun x1 =>
  if p0.1 then (
    some (decide (0 < (x1.length : Int)), x1))
  else (
    some (false, x1))
def m_internal_stringslite_HasPrefix (p0 : ByteArray) (p1 : ByteArray) : Option (Bool) :=
  if decide ((p1.size : Int) ≤ (p0.size : Int)) then (
    bd (cs p0 0 (p1.size : Int)) fun x2 =>
    some (sq x2 p1))
  else (
    some false)
def m_internal_stringslite_CutPrefix (p0 : ByteArray) (p1 : ByteArray) : Option (ByteArray × Bool) :=
  bd (m_internal_stringslite_HasPrefix p0 p1) fun x1 =>
  if !x1 then (
    some (p0, false))
  else (
    bd (cs p0 (p1.size : Int) p0.size) fun x4 =>
    some (x4, true))
def m_strings_CutPrefix (p0 : ByteArray) (p1 : ByteArray) : Option (ByteArray × Bool) :=
  bd (m_internal_stringslite_CutPrefix p0 p1) fun x1 =>
  some (x1.1, x1.2)
def m_digits_based (p0 : Int) : Option (Int) :=
  bd (
    if decide (p0 < 2) then (
      some true)
    else (
      some (decide (36 < p0)))) fun v1 =>
  if v1 then (
    some 2)
  else (
    some 0)
def m_internal_stringslite_IndexByte (p0 : ByteArray) (p1 : Int) : Option (Int) :=
  some (ixb p0 p1)
def m_strings_IndexByte (p0 : ByteArray) (p1 : Int) : Option (Int) :=
  bd (m_internal_stringslite_IndexByte p0 p1) fun x1 =>
  some x1
def m_digits_value (p0 : Int) (p1 : Int) : Option (Int × Bool) :=
  bd (m_strings_IndexByte (bs [48, 49, 50, 51, 52, 53, 54, 55, 56, 57, 97, 98, 99, 100, 101, 102, 103, 104, 105, 106, 107, 108, 109, 110, 111, 112, 113, 114, 115, 116, 117, 118, 119, 120, 121, 122]) (wu8 p0)) fun x1 =>
  if decide (p0 < 128) then (
    if decide (0 ≤ x1) then (
      some (wu64 (max x1 0), decide (x1 < p1)))
    else (
      some (wu64 (max x1 0), false)))
  else (
    some (wu64 (max x1 0), false))
def m_limb_Add (p0 : Int) (p1 : Int) (p2 : Int) : Option (Int × Int) :=
  lt (wu64 ((wu64 ((Go.bits .and .u64 p0 4294967295) + (Go.bits .and .u64 p1 4294967295))) + (Go.bits .and .u64 p2 4294967295))) fun x1 =>
  bd (sr .u64 x1 32) fun x3 =>
  some (Go.bits .and .u64 x1 4294967295, x3)
def m_limb_Mul (p0 : Int) (p1 : Int) (p2 : Int) (p3 : Int) : Option (Int × Int) :=
  lt (wu64 ((wu64 ((wu64 ((Go.bits .and .u64 p0 4294967295) * (Go.bits .and .u64 p1 4294967295))) + (Go.bits .and .u64 p2 4294967295))) + (Go.bits .and .u64 p3 4294967295))) fun x1 =>
  bd (sr .u64 x1 32) fun x3 =>
  some (Go.bits .and .u64 x1 4294967295, x3)
def m_nat_trim_l1 (p0 : (List Int)) : Int → Option ((Int) ⊕ (Int))
  | v2 =>
    bd (
      if decide (0 < v2) then (
        bd (rd p0 (wi64 (v2 - 1))) fun x5 =>
        some (decide (x5 = 0)))
      else (
        some false)) fun v3 =>
    if v3 then (
      some (.inl (wi64 (v2 - 1))))
    else (
      some (.inr v2))
def m_nat_trim (p0 : (List Int)) : Option ((List Int)) :=
  bd (lp (m_nat_trim_l1 p0) (p0.length : Int)) fun v1 =>
  bd (ct p0 0 v1) fun x8 =>
  some x8
def m_nat_Make_l1 (p0 : (List Int)) : (Int × (List Int)) → Option ((Int × (List Int)) ⊕ ((List Int) × Int))
  | (v3, v4) =>
    if decide (v3 < (p0.length : Int)) then (
      bd (rd p0 v3) fun x6 =>
      if decide (4294967296 ≤ x6) then (
        some (.inr ([], 2)))
      else (
        bd (ap 8 v4 [x6]) fun x9 =>
        some (.inl (wi64 (v3 + 1), x9))))
    else (
      bd (m_nat_trim v4) fun x11 =>
      some (.inr (x11, 0)))
def m_nat_Make (p0 : (List Int)) : Option ((List Int) × Int) :=
  bd (mk 8 0 0 (p0.length : Int)) fun x1 =>
  lp (m_nat_Make_l1 p0) (0, x1)
def m_mul_made (p0 : (List Int)) : Option ((List Int)) :=
  bd (m_nat_Make p0) fun x1 =>
  some x1.1
def m_mul_Small_l1 (p0 : (List Int)) (p1 : Int) : (Int × Int × (List Int)) → Option ((Int × Int × (List Int)) ⊕ (Int × (List Int)))
  | (v7, v8, v9) =>
    if decide (v8 < (p0.length : Int)) then (
      bd (rd p0 v8) fun x11 =>
      bd (m_limb_Mul x11 p1 v7 0) fun x13 =>
      bd (ix v9 v8) fun j15 =>
      lt (v9.set j15 x13.1) fun x17 =>
      some (.inl (x13.2, wi64 (v8 + 1), x17)))
    else (
      some (.inr (v7, v9)))
def m_mul_Small (p0 : (List Int)) (p1 : Int) (p2 : Int) : Option ((List Int)) :=
  bd (mk 8 0 (wi64 ((p0.length : Int) + 1)) (wi64 ((p0.length : Int) + 1))) fun x1 =>
  bd (m_limb_Add p2 0 0) fun x3 =>
  bd (lp (m_mul_Small_l1 p0 p1) (x3.1, 0, x1)) fun (v5, v6) =>
  bd (ix v6 (p0.length : Int)) fun j19 =>
  lt (v6.set j19 v5) fun x21 =>
  bd (m_mul_made x21) fun x23 =>
  some x23
def m_digits_From_l1 (p0 : ByteArray) (p1 : Int) : ((List Int) × Int × Int × Nat) → Option (((List Int) × Int × Int × Nat) ⊕ ((List Int) × Int))
  | (v5, v6, v7, v8) =>
    if decide (v8 < p0.size) then (
      bd (m_digits_value (dc1 p0 v8) p1) fun x10 =>
      if !x10.2 then (
        some (.inr ([], 5)))
      else (
        bd (
          if decide (4294967296 ≤ (wu64 (v6 * (wu64 p1)))) then (
            bd (m_mul_Small v5 v6 v7) fun x18 =>
            some (x18, 1, 0, dcn p0 v8))
          else (
            some (v5, v6, v7, dcn p0 v8))) fun (v13, v14, v15, v16) =>
        lt (wu64 ((wu64 (v15 * (wu64 p1))) + x10.1)) fun x20 =>
        some (.inl (v13, wu64 (v14 * (wu64 p1)), x20, v16))))
    else (
      bd (m_mul_Small v5 v6 v7) fun x22 =>
      some (.inr (x22, 0)))
def m_digits_From (p0 : ByteArray) (p1 : Int) : Option ((List Int) × Int) :=
  bd (m_digits_based p1) fun x1 =>
  if !decide (x1 = 0) then (
    some ([], x1))
  else (
    if sq p0 (bs []) then (
      some ([], 5))
    else (
      lp (m_digits_From_l1 p0 p1) ([], 1, 0, 0)))
def m_digits_Parse (p0 : ByteArray) : Option ((List Int) × Int) :=
  bd (m_digits_From p0 10) fun x1 =>
  some (x1.1, x1.2)
def m_whole_Made (p0 : Bool) (p1 : (List Int)) : Option (D_api_Int) :=
  bd (m_nat_Make p1) fun x1 =>
  if p0 then (
    some (decide (0 < (x1.1.length : Int)), x1.1))
  else (
    some (false, x1.1))
def m_whole_Parse (p0 : ByteArray) : Option (D_api_Int × Int) :=
  bd (m_strings_CutPrefix p0 (bs [45])) fun x1 =>
  bd (m_digits_Parse x1.1) fun x3 =>
  if !decide (x3.2 = 0) then (
    some ((false, []), x3.2))
  else (
    bd (m_whole_Made x1.2 x3.1) fun x6 =>
    some ((x6.1, x6.2), x3.2))
def m_triviumref06_digit (p0 : Int) (p1 : Int) : Option (Int) :=
  bd (
    bd (
      if decide (48 ≤ p0) then (
        some (decide (p0 ≤ 57)))
      else (
        some false)) fun v2 =>
    if v2 then (
      some (wi64 (wu8 (p0 - 48))))
    else (
      some (-1))) fun v1 =>
  bd (
    bd (
      if decide (97 ≤ p0) then (
        some (decide (p0 ≤ 122)))
      else (
        some false)) fun v6 =>
    if v6 then (
      some (wi64 ((wi64 (wu8 (p0 - 97))) + 10)))
    else (
      some v1)) fun v5 =>
  if decide (p1 ≤ v5) then (
    some (-1))
  else (
    some v5)
def m_triviumref02_Trim_l1 (p0 : (List Int)) : Int → Option ((Int) ⊕ (Int))
  | v2 =>
    bd (
      if decide (0 < v2) then (
        bd (rd p0 (wi64 (v2 - 1))) fun x5 =>
        some (decide (x5 = 0)))
      else (
        some false)) fun v3 =>
    if v3 then (
      some (.inl (wi64 (v2 - 1))))
    else (
      some (.inr v2))
def m_triviumref02_Trim (p0 : (List Int)) : Option ((List Int)) :=
  bd (lp (m_triviumref02_Trim_l1 p0) (p0.length : Int)) fun v1 =>
  bd (ct p0 0 v1) fun x8 =>
  bd (ap 8 [] x8) fun x10 =>
  some x10
def m_triviumref02_MulAdd_l1 (p0 : (List Int)) (p1 : Int) : (Int × Int × (List Int)) → Option ((Int × Int × (List Int)) ⊕ (Int × (List Int)))
  | (v3, v4, v5) =>
    if decide (v4 < (p0.length : Int)) then (
      bd (rd p0 v4) fun x7 =>
      bd (rm .i64 (wi64 (v3 + (wi64 (x7 * p1)))) 10000) fun x9 =>
      bd (ap 8 v5 [x9]) fun x11 =>
      bd (qd .i64 (wi64 (v3 + (wi64 (x7 * p1)))) 10000) fun x13 =>
      some (.inl (x13, wi64 (v4 + 1), x11)))
    else (
      some (.inr (v3, v5)))
def m_triviumref02_MulAdd_l2  : (Int × (List Int)) → Option ((Int × (List Int)) ⊕ ((List Int)))
  | (v16, v17) =>
    if decide (0 < v16) then (
      bd (rm .i64 v16 10000) fun x19 =>
      bd (ap 8 v17 [x19]) fun x21 =>
      bd (qd .i64 v16 10000) fun x23 =>
      some (.inl (x23, x21)))
    else (
      some (.inr v17))
def m_triviumref02_MulAdd (p0 : (List Int)) (p1 : Int) (p2 : Int) : Option ((List Int)) :=
  bd (lp (m_triviumref02_MulAdd_l1 p0 p1) (p2, 0, [])) fun (v1, v2) =>
  bd (lp (m_triviumref02_MulAdd_l2) (v1, v2)) fun v15 =>
  bd (m_triviumref02_Trim v15) fun x25 =>
  some x25
def m_triviumref02_DivSmall_l1 (p0 : (List Int)) (p1 : Int) : (Int × Int × (List Int)) → Option ((Int × Int × (List Int)) ⊕ (Int × (List Int)))
  | (v5, v6, v7) =>
    if decide (0 ≤ v6) then (
      bd (rd p0 v6) fun x9 =>
      bd (qd .i64 (wi64 ((wi64 (10000 * v5)) + x9)) p1) fun x11 =>
      bd (ix v7 v6) fun j13 =>
      lt (v7.set j13 x11) fun x15 =>
      bd (rm .i64 (wi64 ((wi64 (10000 * v5)) + x9)) p1) fun x17 =>
      some (.inl (x17, wi64 (v6 - 1), x15)))
    else (
      some (.inr (v5, v7)))
def m_triviumref02_DivSmall (p0 : (List Int)) (p1 : Int) : Option ((List Int) × Int) :=
  bd (mk 8 0 (p0.length : Int) (p0.length : Int)) fun x1 =>
  bd (lp (m_triviumref02_DivSmall_l1 p0 p1) (0, wi64 ((p0.length : Int) - 1), x1)) fun (v3, v4) =>
  bd (m_triviumref02_Trim v4) fun x19 =>
  some (x19, v3)
def m_triviumref02_Back_l1  : ((List Int) × (List Int)) → Option (((List Int) × (List Int)) ⊕ ((List Int)))
  | (v2, v3) =>
    if decide (0 < (v2.length : Int)) then (
      bd (m_triviumref02_DivSmall v2 4294967296) fun x5 =>
      bd (ap 8 v3 [wu64 x5.2]) fun x7 =>
      some (.inl (x5.1, x7)))
    else (
      some (.inr v3))
def m_triviumref02_Back (p0 : (List Int)) : Option ((List Int)) :=
  bd (lp (m_triviumref02_Back_l1) (p0, [])) fun v1 =>
  some v1
def m_triviumref06_From_l1 (p0 : ByteArray) (p1 : Int) : ((List Int) × Int) → Option (((List Int) × Int) ⊕ ((List Int) × Int))
  | (v5, v6) =>
    if decide (v6 < (p0.size : Int)) then (
      bd (bt p0 v6) fun x8 =>
      bd (m_triviumref06_digit x8 p1) fun x10 =>
      if decide (x10 < 0) then (
        some (.inr ([], 5)))
      else (
        bd (m_triviumref02_MulAdd v5 p1 x10) fun x13 =>
        some (.inl (x13, wi64 (v6 + 1)))))
    else (
      bd (m_triviumref02_Back v5) fun x15 =>
      some (.inr (x15, 0)))
def m_triviumref06_From (p0 : ByteArray) (p1 : Int) : Option ((List Int) × Int) :=
  bd (
    if decide (p1 < 2) then (
      some true)
    else (
      some (decide (36 < p1)))) fun v1 =>
  if v1 then (
    some ([], 2))
  else (
    if decide ((p0.size : Int) = 0) then (
      some ([], 5))
    else (
      lp (m_triviumref06_From_l1 p0 p1) ([], 0)))
def m_digits_chunk_l1 (p0 : Int) : (Int × Int) → Option ((Int × Int) ⊕ (Int × Int))
  | (v3, v4) =>
    if decide ((wu64 (v3 * (wu64 p0))) < 4294967296) then (
      some (.inl (wu64 (v3 * (wu64 p0)), wi64 (v4 + 1))))
    else (
      some (.inr (v3, v4)))
def m_digits_chunk (p0 : Int) : Option (Int × Int) :=
  bd (lp (m_digits_chunk_l1 p0) (wu64 p0, 1)) fun (v1, v2) =>
  some (v1, v2)
def m_limb_Div (p0 : Int) (p1 : Int) (p2 : Int) : Option (Int × Int × Int) :=
  lt (decide ((Go.bits .and .u64 p2 4294967295) = 0)) fun x1 =>
  if x1 then (
    some (0, 0, 3))
  else (
    lt (decide ((Go.bits .and .u64 p2 4294967295) ≤ (Go.bits .and .u64 p0 4294967295))) fun x4 =>
    if x4 then (
      some (0, 0, 2))
    else (
      bd (sh .u64 (Go.bits .and .u64 p0 4294967295) 32) fun x7 =>
      lt (Go.bits .or .u64 x7 (Go.bits .and .u64 p1 4294967295)) fun x9 =>
      bd (qd .u64 x9 (Go.bits .and .u64 p2 4294967295)) fun x11 =>
      bd (rm .u64 x9 (Go.bits .and .u64 p2 4294967295)) fun x13 =>
      some (x11, x13, 0)))
def m_divide_Small_l1 (p0 : (List Int)) (p1 : Int) : (Int × Int × (List Int)) → Option ((Int × Int × (List Int)) ⊕ (Int × (List Int)))
  | (v8, v9, v10) =>
    if decide (v9 < (p0.length : Int)) then (
      lt (wi64 ((wi64 ((p0.length : Int) - 1)) - v9)) fun x12 =>
      bd (rd p0 x12) fun x14 =>
      bd (m_limb_Div v8 x14 p1) fun x16 =>
      bd (ix v10 x12) fun j18 =>
      lt (v10.set j18 x16.1) fun x20 =>
      some (.inl (x16.2.1, wi64 (v9 + 1), x20)))
    else (
      some (.inr (v8, v10)))
def m_divide_Small (p0 : (List Int)) (p1 : Int) : Option ((List Int) × Int × Int) :=
  bd (rm .u64 p1 4294967296) fun x1 =>
  if decide (x1 = 0) then (
    some ([], 0, 3))
  else (
    bd (mk 8 0 (p0.length : Int) (p0.length : Int)) fun x4 =>
    bd (lp (m_divide_Small_l1 p0 p1) (0, 0, x4)) fun (v6, v7) =>
    bd (m_nat_Make v7) fun x22 =>
    some (x22.1, v6, 0))
def m_digits_piece_l1 (p1 : Int) (p2 : Int) : (Int × Int × (List Int)) → Option ((Int × Int × (List Int)) ⊕ ((List Int)))
  | (v4, v5, v6) =>
    if decide (v5 < p2) then (
      bd (rm .u64 v4 (wu64 p1)) fun x8 =>
      bd (bt (bs [48, 49, 50, 51, 52, 53, 54, 55, 56, 57, 97, 98, 99, 100, 101, 102, 103, 104, 105, 106, 107, 108, 109, 110, 111, 112, 113, 114, 115, 116, 117, 118, 119, 120, 121, 122]) x8) fun x10 =>
      bd (ix v6 (wi64 ((wi64 (p2 - 1)) - v5))) fun j12 =>
      lt (v6.set j12 x10) fun x14 =>
      bd (qd .u64 v4 (wu64 p1)) fun x16 =>
      some (.inl (x16, wi64 (v5 + 1), x14)))
    else (
      some (.inr v6))
def m_digits_piece (p0 : Int) (p1 : Int) (p2 : Int) : Option (ByteArray) :=
  bd (mk 1 0 p2 p2) fun x1 =>
  bd (lp (m_digits_piece_l1 p1 p2) (p0, 0, x1)) fun v3 =>
  some (tx v3)
def m_strings_Builder_copyCheck_M (o1_0 : Bool) (o2 : (List Int)) : Option (Bool) :=
  if o1_0 then (
    some false)
  else (
    some o1_0)
def m_strings_Builder_WriteString_M (p1 : ByteArray) (o1_0 : Bool) (o2 : (List Int)) : Option (Bool × (List Int)) :=
  bd (m_strings_Builder_copyCheck_M o1_0 o2) fun x2 =>
  bd (apS_ o2 p1) fun x3 =>
  some (x2, x3)
def m_strings_Builder_String_M (o1_0 : Bool) (o2 : (List Int)) : Option (ByteArray) :=
  if decide (o2.length = 0) then (
    some (bs []))
  else (
    bd (ust o2) fun x2 =>
    some x2)
def m_strings_trimLeftByte_l1 (p1 : Int) : ByteArray → Option ((ByteArray) ⊕ (ByteArray))
  | v2 =>
    bd (
      if decide (0 < (v2.size : Int)) then (
        bd (bt v2 0) fun x5 =>
        some (decide (x5 = p1)))
      else (
        some false)) fun v3 =>
    if v3 then (
      bd (cs v2 1 v2.size) fun x8 =>
      some (.inl x8))
    else (
      some (.inr v2))
def m_strings_trimLeftByte (p0 : ByteArray) (p1 : Int) : Option (ByteArray) :=
  bd (lp (m_strings_trimLeftByte_l1 p1) p0) fun v1 =>
  some v1
def m_strings_TrimLeft (p0 : ByteArray) (p1 : ByteArray) : Option (ByteArray) :=
  bd (
    if sq p0 (bs []) then (
      some true)
    else (
      some (sq p1 (bs [])))) fun v1 =>
  if v1 then (
    some p0)
  else (
    bd (
      if decide ((p1.size : Int) = 1) then (
        bd (bt p1 0) fun x6 =>
        some (decide (x6 < 128)))
      else (
        some false)) fun v4 =>
    if v4 then (
      bd (bt p1 0) fun x9 =>
      bd (m_strings_trimLeftByte p0 x9) fun x11 =>
      some x11)
    else (
      none))
def m_digits_In_l1 (p1 : Int) (x4 : (Int × Int)) : ((List Int) × (List ByteArray)) → Option (((List Int) × (List ByteArray)) ⊕ ((List ByteArray)))
  | (v9, v10) =>
    if decide (0 < (v9.length : Int)) then (
      bd (m_divide_Small v9 x4.1) fun x12 =>
      bd (m_digits_piece x12.2.1 p1 x4.2) fun x14 =>
      bd (ap 16 v10 [x14]) fun x16 =>
      some (.inl (x12.1, x16)))
    else (
      some (.inr v10))
def m_digits_In_l2 (v8 : (List ByteArray)) : (Int × Bool × (List Int)) → Option ((Int × Bool × (List Int)) ⊕ (Bool × (List Int)))
  | (v20, v21, v22) =>
    if decide (v20 < (v8.length : Int)) then (
      bd (rd v8 (wi64 ((wi64 ((v8.length : Int) - 1)) - v20))) fun x24 =>
      bd (m_strings_Builder_WriteString_M x24 v21 v22) fun x27 =>
      some (.inl (wi64 (v20 + 1), x27.1, x27.2)))
    else (
      some (.inr (v21, v22)))
def m_digits_In (p0 : (List Int)) (p1 : Int) : Option (ByteArray × Int) :=
  bd (m_digits_based p1) fun x1 =>
  if !decide (x1 = 0) then (
    some ((bs []), x1))
  else (
    bd (m_digits_chunk p1) fun x4 =>
    bd (m_nat_Make p0) fun x6 =>
    bd (lp (m_digits_In_l1 p1 x4) (x6.1, [])) fun v8 =>
    bd (lp (m_digits_In_l2 v8) (0, true, [])) fun (v18, v19) =>
    bd (m_strings_Builder_String_M v18 v19) fun x29 =>
    bd (m_strings_TrimLeft x29 (bs [48])) fun x30 =>
    bd (
      if sq x30 (bs []) then (
        some (bs [48]))
      else (
        some x30)) fun v32 =>
    some (v32, 0))
def m_digits_Print (p0 : (List Int)) : Option (ByteArray) :=
  bd (m_digits_In p0 10) fun x1 =>
  some x1.1
def m_whole_Print (p0 : D_api_Int) : Option (ByteArray) :=
  if p0.1 then (
    bd (m_digits_Print p0.2) fun x2 =>
    bd (cat (bs [45]) x2) fun x4 =>
    some x4)
  else (
    bd (m_digits_Print p0.2) fun x6 =>
    some x6)
def m_triviumref02_Of_l1 (p0 : (List Int)) : ((List Int) × Int) → Option (((List Int) × Int) ⊕ ((List Int)))
  | (v2, v3) =>
    if decide (0 ≤ v3) then (
      bd (rd p0 v3) fun x5 =>
      bd (rm .u64 x5 4294967296) fun x7 =>
      bd (m_triviumref02_MulAdd v2 4294967296 (wi64 x7)) fun x9 =>
      some (.inl (x9, wi64 (v3 - 1))))
    else (
      some (.inr v2))
def m_triviumref02_Of (p0 : (List Int)) : Option ((List Int)) :=
  bd (lp (m_triviumref02_Of_l1 p0) ([], wi64 ((p0.length : Int) - 1))) fun v1 =>
  some v1
def m_triviumref07_made (p0 : Bool) (p1 : (List Int)) : Option (D_triviumref07_Z) :=
  if p0 then (
    some (decide (0 < (p1.length : Int)), p1))
  else (
    some (false, p1))
def m_triviumref07_Of (p0 : D_api_Int) : Option (D_triviumref07_Z) :=
  bd (m_triviumref02_Of p0.2) fun x1 =>
  bd (m_triviumref07_made p0.1 x1) fun x3 =>
  some (x3.1, x3.2)
def m_triviumref02_Text_l1  : ((List Int) × (List Int)) → Option (((List Int) × (List Int)) ⊕ ((List Int)))
  | (v3, v4) =>
    if decide (0 < (v3.length : Int)) then (
      bd (m_triviumref02_DivSmall v3 10) fun x6 =>
      bd (ap 1 [wu8 (wi64 (48 + x6.2))] v4) fun x8 =>
      some (.inl (x6.1, x8)))
    else (
      some (.inr v4))
def m_triviumref02_Text (p0 : (List Int)) : Option (ByteArray) :=
  if decide ((p0.length : Int) = 0) then (
    some (bs [48]))
  else (
    bd (lp (m_triviumref02_Text_l1) (p0, [])) fun v2 =>
    some (tx v2))
def m_triviumref07_Print (p0 : D_triviumref07_Z) : Option (ByteArray) :=
  if p0.1 then (
    bd (m_triviumref02_Text p0.2) fun x2 =>
    bd (cat (bs [45]) x2) fun x4 =>
    some x4)
  else (
    bd (m_triviumref02_Text p0.2) fun x6 =>
    some x6)
def m_triviumref02_Same_l1 (p0 : (List Int)) (p1 : (List Int)) : Int → Option ((Int) ⊕ (Bool))
  | v2 =>
    if decide (v2 < (p0.length : Int)) then (
      bd (rd p0 v2) fun x4 =>
      bd (rd p1 v2) fun x6 =>
      if !decide (x4 = x6) then (
        some (.inr false))
      else (
        some (.inl (wi64 (v2 + 1)))))
    else (
      some (.inr true))
def m_triviumref02_Same (p0 : (List Int)) (p1 : (List Int)) : Option (Bool) :=
  if !decide ((p0.length : Int) = (p1.length : Int)) then (
    some false)
  else (
    lp (m_triviumref02_Same_l1 p0 p1) 0)
def m_triviumref07_Same (p0 : D_api_Int) (p1 : D_api_Int) : Option (Bool) :=
  if p0.1 == p1.1 then (
    bd (m_triviumref02_Same p0.2 p1.2) fun x2 =>
    some x2)
  else (
    some false)
def m_nat_Of (p0 : Int) : Option ((List Int)) :=
  bd (rm .u64 p0 4294967296) fun x1 =>
  bd (sr .u64 p0 32) fun x3 =>
  bd (m_nat_trim [x1, x3]) fun x5 =>
  some x5
def m_nat_at (p0 : (List Int)) (p1 : Int) : Option (Int) :=
  if decide ((p0.length : Int) ≤ p1) then (
    some 0)
  else (
    bd (rd p0 p1) fun x2 =>
    some x2)
def m_nat_Add_l1 (p0 : (List Int)) (p1 : (List Int)) (x1 : Int) : (Int × Int × (List Int)) → Option ((Int × Int × (List Int)) ⊕ (Int × (List Int)))
  | (v7, v8, v9) =>
    if decide (v8 < x1) then (
      bd (m_nat_at p0 v8) fun x11 =>
      bd (m_nat_at p1 v8) fun x13 =>
      bd (m_limb_Add x11 x13 v7) fun x15 =>
      bd (ix v9 v8) fun j17 =>
      lt (v9.set j17 x15.1) fun x19 =>
      some (.inl (x15.2, wi64 (v8 + 1), x19)))
    else (
      some (.inr (v7, v9)))
def m_nat_Add (p0 : (List Int)) (p1 : (List Int)) : Option ((List Int)) :=
  lt (max (p0.length : Int) (p1.length : Int)) fun x1 =>
  bd (mk 8 0 (wi64 (x1 + 1)) (wi64 (x1 + 1))) fun x3 =>
  bd (lp (m_nat_Add_l1 p0 p1 x1) (0, 0, x3)) fun (v5, v6) =>
  bd (ix v6 x1) fun j21 =>
  lt (v6.set j21 v5) fun x23 =>
  bd (m_nat_trim x23) fun x25 =>
  some x25
def m_whole_Of (p0 : Int) : Option (D_api_Int) :=
  if decide (p0 < 0) then (
    bd (m_nat_Of (wu64 (wi64 (0 - (wi64 (p0 + 1)))))) fun x2 =>
    bd (m_nat_Of 1) fun x4 =>
    bd (m_nat_Add x2 x4) fun x6 =>
    bd (m_whole_Made true x6) fun x8 =>
    some (x8.1, x8.2))
  else (
    bd (m_nat_Of (wu64 p0)) fun x10 =>
    bd (m_whole_Made false x10) fun x12 =>
    some (x12.1, x12.2))
def m_nat_May_l1 (p0 : (List Int)) : Int → Option ((Int) ⊕ (Bool))
  | v1 =>
    if decide (v1 < (p0.length : Int)) then (
      bd (rd p0 v1) fun x3 =>
      if decide (4294967296 ≤ x3) then (
        some (.inr false))
      else (
        some (.inl (wi64 (v1 + 1)))))
    else (
      if decide ((p0.length : Int) = 0) then (
        some (.inr true))
      else (
        bd (rd p0 (wi64 ((p0.length : Int) - 1))) fun x7 =>
        some (.inr (!decide (x7 = 0)))))
def m_nat_May (p0 : (List Int)) : Option (Bool) :=
  lp (m_nat_May_l1 p0) 0
def m_nat_Cmp_l1 (p0 : (List Int)) (p1 : (List Int)) : Int → Option ((Int) ⊕ (Int))
  | v7 =>
    if decide (0 ≤ v7) then (
      bd (rd p0 v7) fun x9 =>
      bd (rd p1 v7) fun x11 =>
      if decide (x9 < x11) then (
        some (.inr (-1)))
      else (
        bd (rd p0 v7) fun x14 =>
        bd (rd p1 v7) fun x16 =>
        if decide (x16 < x14) then (
          some (.inr 1))
        else (
          some (.inl (wi64 (v7 - 1))))))
    else (
      some (.inr 0))
def m_nat_Cmp (p0 : (List Int)) (p1 : (List Int)) : Option (Int) :=
  lt (decide ((p0.length : Int) < (p1.length : Int))) fun x1 =>
  if x1 then (
    some (-1))
  else (
    lt (decide ((p1.length : Int) < (p0.length : Int))) fun x4 =>
    if x4 then (
      some 1)
    else (
      lp (m_nat_Cmp_l1 p0 p1) (wi64 ((p0.length : Int) - 1))))
def m_limb_Bits_l1 (p0 : Int) : (Int × Int) → Option ((Int × Int) ⊕ (Int))
  | (v2, v3) =>
    if decide (v3 < 32) then (
      bd (
        bd (sr .u64 p0 v3) fun x6 =>
        if decide ((Go.bits .and .u64 x6 1) = 1) then (
          some (wi64 (v3 + 1)))
        else (
          some v2)) fun v5 =>
      some (.inl (v5, wi64 (v3 + 1))))
    else (
      some (.inr v2))
def m_limb_Bits (p0 : Int) : Option (Int) :=
  bd (lp (m_limb_Bits_l1 p0) (0, 0)) fun v1 =>
  some v1
def m_nat_shift (p0 : Int) : Option (Int) :=
  bd (
    if decide (p0 < 0) then (
      some true)
    else (
      some (decide (100000 < p0)))) fun v1 =>
  if v1 then (
    some 2)
  else (
    some 0)
def m_nat_Shl_l1 (p0 : (List Int)) (p1 : Int) : (Int × (List Int)) → Option ((Int × (List Int)) ⊕ ((List Int)))
  | (v11, v12) =>
    if decide (v11 < (p0.length : Int)) then (
      bd (rd p0 v11) fun x14 =>
      bd (qd .i64 p1 32) fun x16 =>
      bd (rm .i64 p1 32) fun x18 =>
      bd (sh .u64 x14 x18) fun x20 =>
      bd (rd v12 (wi64 (v11 + x16))) fun x22 =>
      bd (rm .u64 x20 4294967296) fun x24 =>
      bd (ix v12 (wi64 (v11 + x16))) fun j26 =>
      lt (v12.set j26 (Go.bits .or .u64 x22 x24)) fun x28 =>
      bd (sr .u64 x20 32) fun x30 =>
      bd (ix x28 (wi64 ((wi64 (v11 + x16)) + 1))) fun j32 =>
      lt (x28.set j32 x30) fun x34 =>
      some (.inl (wi64 (v11 + 1), x34)))
    else (
      some (.inr v12))
def m_nat_Shl (p0 : (List Int)) (p1 : Int) : Option ((List Int) × Int) :=
  bd (m_nat_shift p1) fun x1 =>
  bd (
    if !decide (x1 = 0) then (
      some true)
    else (
      some (decide ((p0.length : Int) = 0)))) fun v3 =>
  if v3 then (
    some ([], x1))
  else (
    bd (qd .i64 p1 32) fun x6 =>
    bd (mk 8 0 (wi64 ((wi64 ((p0.length : Int) + x6)) + 1)) (wi64 ((wi64 ((p0.length : Int) + x6)) + 1))) fun x8 =>
    bd (lp (m_nat_Shl_l1 p0 p1) (0, x8)) fun v10 =>
    bd (m_nat_trim v10) fun x36 =>
    some (x36, 0))
def m_divide_guess_l1 (p0 : (List Int)) (p1 : Int) (p2 : (List Int)) : (Int × Int) → Option ((Int × Int) ⊕ (Int))
  | (v16, v17) =>
    bd (
      if decide (4294967296 ≤ v16) then (
        some true)
      else (
        bd (rd p2 (wi64 ((p2.length : Int) - 2))) fun x20 =>
        bd (sh .u64 v17 32) fun x22 =>
        bd (rd p0 (wi64 ((wi64 (p1 + (p2.length : Int))) - 2))) fun x24 =>
        some (decide ((Go.bits .or .u64 x22 x24) < (wu64 (v16 * x20)))))) fun v18 =>
    if v18 then (
      bd (rd p2 (wi64 ((p2.length : Int) - 1))) fun x27 =>
      if decide (4294967296 ≤ (wu64 (v17 + x27))) then (
        some (.inr (wu64 (v16 - 1))))
      else (
        some (.inl (wu64 (v16 - 1), wu64 (v17 + x27)))))
    else (
      some (.inr v16))
def m_divide_guess (p0 : (List Int)) (p1 : Int) (p2 : (List Int)) : Option (Int) :=
  bd (rd p0 (wi64 (p1 + (p2.length : Int)))) fun x1 =>
  bd (sh .u64 x1 32) fun x3 =>
  bd (rd p0 (wi64 ((wi64 (p1 + (p2.length : Int))) - 1))) fun x5 =>
  bd (rd p2 (wi64 ((p2.length : Int) - 1))) fun x7 =>
  bd (qd .u64 (Go.bits .or .u64 x3 x5) x7) fun x9 =>
  bd (rd p2 (wi64 ((p2.length : Int) - 1))) fun x11 =>
  bd (rm .u64 (Go.bits .or .u64 x3 x5) x11) fun x13 =>
  bd (lp (m_divide_guess_l1 p0 p1 p2) (x9, x13)) fun v15 =>
  some v15
def m_divide_at (p0 : (List Int)) (p1 : Int) : Option (Int) :=
  if decide ((p0.length : Int) ≤ p1) then (
    some 0)
  else (
    bd (rd p0 p1) fun x2 =>
    some x2)
def m_limb_Sub (p0 : Int) (p1 : Int) (p2 : Int) : Option (Int × Int) :=
  lt (wu64 ((Go.bits .and .u64 p1 4294967295) + (Go.bits .and .u64 p2 4294967295))) fun x1 =>
  bd (
    if decide ((Go.bits .and .u64 p0 4294967295) < x1) then (
      bd (sr .u64 (wu64 ((wu64 (x1 - (Go.bits .and .u64 p0 4294967295))) + 4294967295)) 32) fun x5 =>
      some x5)
    else (
      some 0)) fun v3 =>
  bd (sh .u64 v3 32) fun x7 =>
  lt (wu64 ((wu64 ((Go.bits .and .u64 p0 4294967295) + x7)) - x1)) fun x9 =>
  some (x9, v3)
def m_divide_take_M_l1 (p1 : Int) (p2 : (List Int)) (p3 : Int) : (Int × Int × Int × (List Int)) → Option ((Int × Int × Int × (List Int)) ⊕ (Int × (List Int)))
  | (v3, v4, v5, v6) =>
    if decide (v5 < (wi64 ((p2.length : Int) + 1))) then (
      bd (m_divide_at p2 v5) fun x8 =>
      bd (m_limb_Mul p3 x8 v3 0) fun x10 =>
      bd (rd v6 (wi64 (p1 + v5))) fun x12 =>
      bd (m_limb_Sub x12 x10.1 v4) fun x14 =>
      bd (ix v6 (wi64 (p1 + v5))) fun j16 =>
      lt (v6.set j16 x14.1) fun x18 =>
      some (.inl (x10.2, x14.2, wi64 (v5 + 1), x18)))
    else (
      some (.inr (v4, v6)))
def m_divide_take_M (p1 : Int) (p2 : (List Int)) (p3 : Int) (o1 : (List Int)) : Option (Bool × (List Int)) :=
  bd (lp (m_divide_take_M_l1 p1 p2 p3) (0, 0, 0, o1)) fun (v1, v2) =>
  bd (eln o1 v2) fun _ =>
  some (decide (0 < v1), v2)
def m_divide_give_M_l1 (p1 : Int) (p2 : (List Int)) (o1 : (List Int)) : (Int × Int × (List Int)) → Option ((Int × Int × (List Int)) ⊕ ((List Int)))
  | (v1, v2, v3) =>
    if decide (v2 < (wi64 ((p2.length : Int) + 1))) then (
      bd (rd v3 (wi64 (p1 + v2))) fun x5 =>
      bd (m_divide_at p2 v2) fun x7 =>
      bd (m_limb_Add x5 x7 v1) fun x9 =>
      bd (ix v3 (wi64 (p1 + v2))) fun j11 =>
      lt (v3.set j11 x9.1) fun x13 =>
      some (.inl (x9.2, wi64 (v2 + 1), x13)))
    else (
      bd (eln o1 v3) fun _ =>
      some (.inr v3))
def m_divide_give_M (p1 : Int) (p2 : (List Int)) (o1 : (List Int)) : Option ((List Int)) :=
  lp (m_divide_give_M_l1 p1 p2 o1) (0, 0, o1)
def m_nat_Shr_l1 (p0 : (List Int)) (p1 : Int) (x10 : (List Int)) : (Int × (List Int)) → Option ((Int × (List Int)) ⊕ ((List Int)))
  | (v13, v14) =>
    if decide (v13 < (x10.length : Int)) then (
      bd (qd .i64 p1 32) fun x16 =>
      bd (rd p0 (wi64 (v13 + x16))) fun x18 =>
      bd (m_nat_at p0 (wi64 ((wi64 (v13 + x16)) + 1))) fun x20 =>
      bd (sh .u64 x20 32) fun x22 =>
      bd (rm .i64 p1 32) fun x24 =>
      bd (sr .u64 (Go.bits .or .u64 x18 x22) x24) fun x26 =>
      bd (rm .u64 x26 4294967296) fun x28 =>
      bd (ix v14 v13) fun j30 =>
      lt (v14.set j30 x28) fun x32 =>
      some (.inl (wi64 (v13 + 1), x32)))
    else (
      some (.inr v14))
def m_nat_Shr (p0 : (List Int)) (p1 : Int) : Option ((List Int) × Int) :=
  bd (m_nat_shift p1) fun x1 =>
  bd (
    if !decide (x1 = 0) then (
      some true)
    else (
      bd (qd .i64 p1 32) fun x5 =>
      some (decide ((p0.length : Int) ≤ x5)))) fun v3 =>
  if v3 then (
    some ([], x1))
  else (
    bd (qd .i64 p1 32) fun x8 =>
    bd (mk 8 0 (wi64 ((p0.length : Int) - x8)) (wi64 ((p0.length : Int) - x8))) fun x10 =>
    bd (lp (m_nat_Shr_l1 p0 p1 x10) (0, x10)) fun v12 =>
    bd (m_nat_trim v12) fun x34 =>
    some (x34, 0))
def m_divide_knuth_l1 (x5 : ((List Int) × Int)) : (Int × (List Int) × (List Int)) → Option ((Int × (List Int) × (List Int)) ⊕ ((List Int) × (List Int)))
  | (v19, v20, v21) =>
    if decide (0 ≤ v19) then (
      bd (
        bd (m_divide_guess v20 v19 x5.1) fun x25 =>
        bd (ix v21 v19) fun j27 =>
        lt (v21.set j27 x25) fun x29 =>
        bd (rd x29 v19) fun x31 =>
        bd (m_divide_take_M v19 x5.1 x31 v20) fun x34 =>
        if x34.1 then (
          bd (rd x29 v19) fun x36 =>
          bd (ix x29 v19) fun j38 =>
          lt (x29.set j38 (wu64 (x36 - 1))) fun x40 =>
          bd (m_divide_give_M v19 x5.1 x34.2) fun x43 =>
          some (x43, x40))
        else (
          some (x34.2, x29))) fun (v23, v24) =>
      some (.inl (wi64 (v19 - 1), v23, v24)))
    else (
      some (.inr (v20, v21)))
def m_divide_knuth (p0 : (List Int)) (p1 : (List Int)) : Option ((List Int) × (List Int)) :=
  bd (rd p1 (wi64 ((p1.length : Int) - 1))) fun x1 =>
  bd (m_limb_Bits x1) fun x3 =>
  bd (m_nat_Shl p1 (wi64 (32 - x3))) fun x5 =>
  bd (mk 8 0 (wi64 ((p0.length : Int) + 1)) (wi64 ((p0.length : Int) + 1))) fun x7 =>
  bd (m_nat_Shl p0 (wi64 (32 - x3))) fun x9 =>
  bd (cpy x7 0 x9.1) fun x11 =>
  bd (mk 8 0 (wi64 ((wi64 ((p0.length : Int) - (p1.length : Int))) + 1)) (wi64 ((wi64 ((p0.length : Int) - (p1.length : Int))) + 1))) fun x13 =>
  bd (
    lt (wi64 ((p0.length : Int) - (p1.length : Int))) fun x17 =>
    lp (m_divide_knuth_l1 x5) (x17, x11, x13)) fun (v15, v16) =>
  bd (m_nat_Make v16) fun x44 =>
  bd (m_nat_Make v15) fun x46 =>
  bd (m_nat_Shr x46.1 (wi64 (32 - x3))) fun x48 =>
  some (x44.1, x48.1)
def m_divide_Div (p0 : (List Int)) (p1 : (List Int)) : Option ((List Int) × (List Int) × Int) :=
  if decide ((p1.length : Int) = 0) then (
    some ([], [], 3))
  else (
    bd (
      bd (m_nat_May p0) fun x3 =>
      if !x3 then (
        some true)
      else (
        bd (m_nat_May p1) fun x6 =>
        some (!x6))) fun v2 =>
    if v2 then (
      some ([], [], 2))
    else (
      bd (m_nat_Cmp p0 p1) fun x9 =>
      if decide (x9 < 0) then (
        bd (m_nat_Make p0) fun x12 =>
        some ([], x12.1, x12.2))
      else (
        if decide ((p1.length : Int) = 1) then (
          bd (rd p1 0) fun x15 =>
          bd (m_divide_Small p0 x15) fun x17 =>
          bd (m_nat_Of x17.2.1) fun x19 =>
          some (x17.1, x19, x17.2.2))
        else (
          bd (m_divide_knuth p0 p1) fun x21 =>
          some (x21.1, x21.2, 0)))))
def m_nat_Sub_l1 (p0 : (List Int)) (p1 : (List Int)) (x4 : (List Int)) : (Int × Int × (List Int)) → Option ((Int × Int × (List Int)) ⊕ ((List Int)))
  | (v7, v8, v9) =>
    if decide (v8 < (x4.length : Int)) then (
      bd (rd p0 v8) fun x11 =>
      bd (m_nat_at p1 v8) fun x13 =>
      bd (m_limb_Sub x11 x13 v7) fun x15 =>
      bd (ix v9 v8) fun j17 =>
      lt (v9.set j17 x15.1) fun x19 =>
      some (.inl (x15.2, wi64 (v8 + 1), x19)))
    else (
      some (.inr v9))
def m_nat_Sub (p0 : (List Int)) (p1 : (List Int)) : Option ((List Int) × Int) :=
  bd (m_nat_Cmp p0 p1) fun x1 =>
  if decide (x1 < 0) then (
    some ([], 6))
  else (
    bd (mk 8 0 (p0.length : Int) (p0.length : Int)) fun x4 =>
    bd (lp (m_nat_Sub_l1 p0 p1 x4) (0, 0, x4)) fun v6 =>
    bd (m_nat_trim v6) fun x21 =>
    some (x21, 0))
def m_whole_Floor (p0 : D_api_Int) (p1 : D_api_Int) : Option (D_api_Int × D_api_Int × Int) :=
  bd (m_divide_Div p0.2 p1.2) fun x1 =>
  if !decide (x1.2.2 = 0) then (
    some ((false, []), (false, []), x1.2.2))
  else (
    bd (
      bd (
        if !(p0.1 == p1.1) then (
          some (decide (0 < (x1.2.1.length : Int))))
        else (
          some false)) fun v6 =>
      if v6 then (
        bd (m_nat_Of 1) fun x9 =>
        bd (m_nat_Add x1.1 x9) fun x11 =>
        bd (m_nat_Sub p1.2 x1.2.1) fun x13 =>
        some (x11, x13.1))
      else (
        some (x1.1, x1.2.1))) fun (v4, v5) =>
    bd (m_whole_Made (!(p0.1 == p1.1)) v4) fun x15 =>
    bd (m_whole_Made p1.1 v5) fun x17 =>
    some ((x15.1, x15.2), (x17.1, x17.2), x1.2.2))
def m_triviumlaw07_works  : Option (Bool) :=
  bd (m_whole_Of (-7)) fun x1 =>
  bd (m_whole_Of 2) fun x3 =>
  bd (m_whole_Floor x1 x3) fun x5 =>
  if decide (x5.2.2 = 0) then (
    bd (m_whole_Print (x5.1.1, x5.1.2)) fun x8 =>
    if sq x8 (bs [45, 52]) then (
      bd (m_whole_Print (x5.2.1.1, x5.2.1.2)) fun x11 =>
      some (sq x11 (bs [49])))
    else (
      some false))
  else (
    some false)
def m_triviumlaw07_WholeTexts (p0 : D_api_Int) (p1 : ByteArray) : Option (Bool) :=
  bd (m_triviumref07_Clean (p0.1, p0.2) 10) fun x1 =>
  bd (cs p1 0 (min (p1.size : Int) 100)) fun x3 =>
  bd (m_whole_Parse x3) fun x5 =>
  bd (
    if decide (0 < (x3.size : Int)) then (
      bd (bt x3 0) fun x9 =>
      some (decide (x9 = 45)))
    else (
      some false)) fun v7 =>
  bd (
    if v7 then (
      bd (cs x3 1 x3.size) fun x13 =>
      some x13)
    else (
      some x3)) fun v11 =>
  bd (m_triviumref06_From v11 10) fun x15 =>
  bd (m_whole_Print (x1.1, x1.2)) fun x17 =>
  bd (m_whole_Parse x17) fun x19 =>
  bd (m_whole_Print (x1.1, x1.2)) fun x21 =>
  bd (m_triviumref07_Of (x1.1, x1.2)) fun x23 =>
  bd (m_triviumref07_Print x23) fun x25 =>
  if sq x21 x25 then (
    if decide (x5.2 = x15.2) then (
      if v7 then (
        bd (m_triviumref07_Same (x5.1.1, x5.1.2) (decide (0 < (x15.1.length : Int)), x15.1)) fun x30 =>
        if x30 then (
          if decide (x19.2 = 0) then (
            bd (m_triviumref07_Same (x19.1.1, x19.1.2) (x1.1, x1.2)) fun x34 =>
            if x34 then (
              bd (m_triviumlaw07_works) fun x37 =>
              some x37)
            else (
              some false))
          else (
            some false))
        else (
          some false))
      else (
        bd (m_triviumref07_Same (x5.1.1, x5.1.2) (false, x15.1)) fun x39 =>
        if x39 then (
          if decide (x19.2 = 0) then (
            bd (m_triviumref07_Same (x19.1.1, x19.1.2) (x1.1, x1.2)) fun x43 =>
            if x43 then (
              bd (m_triviumlaw07_works) fun x46 =>
              some x46)
            else (
              some false))
          else (
            some false))
        else (
          some false)))
    else (
      some false))
  else (
    some false)
end
end Go.Proofs.YtihaljbhcnflfaaDoor.AP
/- The code comes to the printed functions (printed by a program of ours). -/
namespace Go.Proofs.YtihaljbhcnflfaaDoor.AE
open Go Go.RowKit Go.Proofs.YtihaljbhcnflfaaDoor.AP
set_option linter.unusedVariables false
set_option maxRecDepth 20000
theorem en25 : Enters Tryd.prog 25 := ⟨_, Tryd.func25, rfl, rfl⟩
theorem k_triviumref02_Clean {p0 : (List Int)} {p1 : Int} {y : (List Int)} (h : m_triviumref02_Clean p0 p1 = some y) : Spec Tryd.prog 25 [(.v (.sl (.int .u64)) p0), (.v (.int .i64) p1)] (.v (.sl (.int .u64)) y) [] := by
  rw [m_triviumref02_Clean] at h
  refine enterN [(.v (.sl (.int .u64)) p0), (.v (.int .i64) p1)] 45 Tryd.func25 rfl rfl rfl ?_
  refine T.seq ?_
  refine T.region ?_
  refine Run.go (Ev.assign rfl rfl) ?_
  refine Run.nil ?_
  refine T.seq ?_
  refine T.region ?_
  refine Run.go (Ev.build X 1 rfl rfl rfl rfl rfl rfl rfl rfl) ?_
  refine Run.go (Ev.assign rfl rfl) ?_
  refine Run.nil ?_
  obtain ⟨v1, hv, h⟩ := bdS h
  refine T.cut (fun _ : Unit => (⟨[(5, .own 6)], [(6, .arr 59 (.int .u64) v1)], 45⟩ : St)) (fun _ => True) ?_ (fun _ _ => ?_)
  · replace h := hv
    clear hv
    refine T.seq ?_
    refine T.region ?_
    refine Run.go (Ev.assign rfl rfl) ?_
    refine Run.nil ?_
    refine T.block ?_
    refine T.loop (LoopT.ghost (Ghost.only [(1, 19)] [0, 1, 5, 6] rfl) (LoopT.run (fun q : Int × (List Int) => (⟨[(0, .v (.sl (.int .u64)) p0), (1, .v (.int .i64) p1), (5, .own 19), (6, .v (.int .i64) q.1)], [(19, .arr 59 (.int .u64) q.2)], 45⟩ : St)) (fun q z1 h hz1 => ?_) h))
    obtain ⟨v2, v3⟩ := q
    dsimp only
    rw [m_triviumref02_Clean_l1] at h
    refine T.seq ?_
    obtain ⟨v4, hv, h⟩ := bdS h
    refine T.cut (fun _ : Unit => (⟨[(0, .v (.sl (.int .u64)) p0), (1, .v (.int .i64) p1), (5, .own 19), (6, .v (.int .i64) v2), (16, .v .bool v4)], [(19, .arr 59 (.int .u64) v3)], 45⟩ : St)) (fun _ => True) ?_ (fun _ _ => ?_)
    · replace h := hv
      clear hv
      refine T.region ?_
      refine Run.go (Ev.move rfl rfl) ?_
      refine Run.go (Ev.move rfl rfl) ?_
      refine Run.go (Ev.len X rfl rfl rfl rfl) ?_
      refine Run.go (Ev.int rfl rfl rfl rfl trivial) ?_
      refine Run.go (Ev.move rfl rfl) ?_
      rcases boolCases (decide (v2 < (p0.length : Int))) with hb5 | hb5
      · replace h := ifT hb5 h
        refine Run.on rfl rfl rfl hb5 (Ev.move rfl rfl) ?_
        refine Run.on rfl rfl rfl hb5 (Ev.move rfl rfl) ?_
        refine Run.on rfl rfl rfl hb5 (Ev.int rfl rfl rfl rfl trivial) ?_
        refine Run.go (Ev.pickT rfl hb5 rfl rfl) ?_
        refine Run.nil ?_
        cases h
        exact ⟨(), trivial, Ghost.only [(19, 19)] [0, 1, 5, 6, 16] rfl⟩
      · replace h := ifF hb5 h
        refine Run.offT rfl rfl rfl rfl hb5 ?_
        refine Run.offT rfl rfl rfl rfl hb5 ?_
        refine Run.offT rfl rfl rfl rfl hb5 ?_
        refine Run.go (Ev.pickF rfl hb5 rfl rfl) ?_
        refine Run.nil ?_
        cases h
        exact ⟨(), trivial, Ghost.only [(19, 19)] [0, 1, 5, 6, 16] rfl⟩
    · refine T.cond rfl (fun hb6 => ?_) (fun hb6 => ?_)
      · replace h := ifT hb6 h
        refine T.skip ?_
        refine T.seq ?_
        refine T.block ?_
        refine T.region ?_
        refine Run.go (Ev.move rfl rfl) ?_
        refine Run.go (Ev.move rfl rfl) ?_
        refine Run.go (Ev.move rfl rfl) ?_
        obtain ⟨x7, e8, h⟩ := bdS h
        refine Run.go (Ev.e_rd X e8 rfl rfl rfl rfl) ?_
        refine Run.go (Ev.load X rfl rfl rfl) ?_
        obtain ⟨x9, e10, h⟩ := bdS h
        refine Run.go (Ev.e_rm e10 rfl rfl rfl) ?_
        refine Run.go (Ev.build X 25 rfl rfl rfl rfl rfl rfl rfl rfl) ?_
        obtain ⟨x11, e12, h⟩ := bdS h
        refine Run.go (Ev.e_ap X 26 e12 rfl rfl rfl (.own rfl) rfl rfl rfl rfl rfl) ?_
        refine Run.go (Ev.assign rfl rfl) ?_
        refine Run.nil ?_
        refine T.region ?_
        refine Run.go (Ev.move rfl rfl) ?_
        refine Run.go (Ev.int rfl rfl rfl rfl trivial) ?_
        refine Run.go (Ev.assign rfl rfl) ?_
        refine Run.nil ?_
        cases h
        exact LoopT.ghost (Ghost.only [(26, 19)] [0, 1, 5, 6] rfl) hz1
      · replace h := ifF hb6 h
        refine T.exit ?_
        cases h
        cases hz1
        exact ⟨(), trivial, Ghost.only [(19, 6)] [5] rfl⟩
  · obtain ⟨v13, hv, h⟩ := bdS h
    refine T.cut (fun _ : Unit => (⟨[(5, .v (.sl (.int .u64)) v13)], [], 45⟩ : St)) (fun _ => True) ?_ (fun _ _ => ?_)
    · replace h := hv
      clear hv
      refine T.block ?_
      refine T.loop (LoopT.ghost (Ghost.trans (Ghost.firmAll (id := 6) rfl) (Ghost.only [] [5] rfl)) (LoopT.run (fun q : (List Int) => (⟨[(5, .v (.sl (.int .u64)) q)], [], 45⟩ : St)) (fun v14 z1 h hz1 => ?_) h))
      rw [m_triviumref02_Clean_l2] at h
      refine T.seq ?_
      obtain ⟨v15, hv, h⟩ := bdS h
      refine T.cut (fun _ : Unit => (⟨[(5, .v (.sl (.int .u64)) v14), (38, .v .bool v15)], [], 45⟩ : St)) (fun _ => True) ?_ (fun _ _ => ?_)
      · replace h := hv
        clear hv
        refine T.region ?_
        refine Run.go (Ev.move rfl rfl) ?_
        refine Run.go (Ev.len X rfl rfl rfl rfl) ?_
        refine Run.go (Ev.int rfl rfl rfl rfl trivial) ?_
        refine Run.go (Ev.move rfl rfl) ?_
        rcases boolCases (decide (0 < (v14.length : Int))) with hb16 | hb16
        · replace h := ifT hb16 h
          refine Run.on rfl rfl rfl hb16 (Ev.move rfl rfl) ?_
          refine Run.on rfl rfl rfl hb16 (Ev.move rfl rfl) ?_
          refine Run.on rfl rfl rfl hb16 (Ev.len X rfl rfl rfl rfl) ?_
          refine Run.on rfl rfl rfl hb16 (Ev.int rfl rfl rfl rfl trivial) ?_
          obtain ⟨x17, e18, h⟩ := bdS h
          refine Run.on rfl rfl rfl hb16 (Ev.e_rd X e18 rfl rfl rfl rfl) ?_
          refine Run.on rfl rfl rfl hb16 (Ev.load X rfl rfl rfl) ?_
          refine Run.on rfl rfl rfl hb16 (Ev.int rfl rfl rfl rfl trivial) ?_
          refine Run.go (Ev.pickT rfl hb16 rfl rfl) ?_
          refine Run.nil ?_
          cases h
          exact ⟨(), trivial, Ghost.only [] [5, 38] rfl⟩
        · replace h := ifF hb16 h
          refine Run.offT rfl rfl rfl rfl hb16 ?_
          refine Run.offT rfl rfl rfl rfl hb16 ?_
          refine Run.offT rfl rfl rfl rfl hb16 ?_
          refine Run.offT rfl rfl rfl rfl hb16 ?_
          refine Run.offT rfl rfl rfl rfl hb16 ?_
          refine Run.offT rfl rfl rfl rfl hb16 ?_
          refine Run.offT rfl rfl rfl rfl hb16 ?_
          refine Run.go (Ev.pickF rfl hb16 rfl rfl) ?_
          refine Run.nil ?_
          cases h
          exact ⟨(), trivial, Ghost.only [] [5, 38] rfl⟩
      · refine T.cond rfl (fun hb19 => ?_) (fun hb19 => ?_)
        · replace h := ifT hb19 h
          refine T.skip ?_
          refine T.block ?_
          refine T.region ?_
          refine Run.go (Ev.move rfl rfl) ?_
          refine Run.go (Ev.move rfl rfl) ?_
          refine Run.go (Ev.len X rfl rfl rfl rfl) ?_
          refine Run.go (Ev.int rfl rfl rfl rfl trivial) ?_
          obtain ⟨x20, e21, h⟩ := bdS h
          refine Run.go (Ev.e_ct X e21 rfl rfl rfl (fun _ h => by cases h) (fun _ => rfl) (fun _ _ => cutAt_of rfl) (fun h => by cases h)) ?_
          refine Run.go (Ev.assign rfl rfl) ?_
          refine Run.nil ?_
          cases h
          exact LoopT.ghost (Ghost.only [] [5] rfl) hz1
        · replace h := ifF hb19 h
          refine T.exit ?_
          cases h
          cases hz1
          exact ⟨(), trivial, Ghost.only [] [5] rfl⟩
    · refine T.seq ?_
      refine T.region ?_
      refine Run.go (Ev.move rfl rfl) ?_
      refine Run.go (Ev.assign rfl rfl) ?_
      refine Run.nil ?_
      refine T.ret ?_
      cases h
      exact Fin.one rfl .v
theorem en6 : Enters Tryd.prog 6 := ⟨_, Tryd.func6, rfl, rfl⟩
theorem k_triviumref07_Clean {p0 : D_api_Int} {p1 : Int} {y : D_api_Int} (h : m_triviumref07_Clean p0 p1 = some y) : Spec Tryd.prog 6 [(.v Y_api_Int p0), (.v (.int .i64) p1)] (.v Y_api_Int y) [] := by
  rw [m_triviumref07_Clean] at h
  refine enterN [(.v Y_api_Int p0), (.v (.int .i64) p1)] 19 Tryd.func6 rfl rfl rfl ?_
  refine T.seq ?_
  refine T.region ?_
  refine Run.go (Ev.box 1 rfl rfl rfl rfl) ?_
  refine Run.go (Ev.allocN X 2 rfl rfl rfl) ?_
  refine Run.nil ?_
  refine T.seq ?_
  refine T.region ?_
  refine Run.go (Ev.fieldBox X rfl rfl rfl rfl rfl) ?_
  refine Run.go (Ev.loadCell X rfl rfl rfl rfl rfl rfl) ?_
  refine Run.go (Ev.move rfl rfl) ?_
  obtain ⟨x1, e2, h⟩ := bdS h
  refine Run.go (Ev.callC en25 (k_triviumref02_Clean e2) rfl (.cons .v (.cons .v .nil)) rfl rfl) ?_
  refine Run.go (Ev.assign rfl rfl) ?_
  refine Run.nil ?_
  refine T.seq ?_
  refine T.region ?_
  refine Run.go (Ev.fieldBox X rfl rfl rfl rfl rfl) ?_
  refine Run.go (Ev.loadCell X rfl rfl rfl rfl rfl rfl) ?_
  refine Run.go (Ev.move rfl rfl) ?_
  rcases boolCases p0.1 with hb3 | hb3
  · replace h := ifT hb3 h
    refine Run.on rfl rfl rfl hb3 (Ev.move rfl rfl) ?_
    refine Run.on rfl rfl rfl hb3 (Ev.len X rfl rfl rfl rfl) ?_
    refine Run.on rfl rfl rfl hb3 (Ev.int rfl rfl rfl rfl trivial) ?_
    refine Run.go (Ev.pickT rfl hb3 rfl rfl) ?_
    refine Run.go (Ev.move rfl rfl) ?_
    refine Run.go (Ev.struct X pl25 rfl rfl rfl rfl rfl rfl rfl rfl) ?_
    refine Run.do_ (Ev.storeBox X rfl rfl rfl rfl rfl rfl rfl) ?_
    refine Run.nil ?_
    refine T.ret ?_
    cases h
    exact Fin.cell X rfl rfl rfl rfl rfl
  · replace h := ifF hb3 h
    refine Run.offT rfl rfl rfl rfl hb3 ?_
    refine Run.offT rfl rfl rfl rfl hb3 ?_
    refine Run.offT rfl rfl rfl rfl hb3 ?_
    refine Run.go (Ev.pickF rfl hb3 rfl rfl) ?_
    refine Run.go (Ev.move rfl rfl) ?_
    refine Run.go (Ev.struct X pl25 rfl rfl rfl rfl rfl rfl rfl rfl) ?_
    refine Run.do_ (Ev.storeBox X rfl rfl rfl rfl rfl rfl rfl) ?_
    refine Run.nil ?_
    refine T.ret ?_
    cases h
    exact Fin.cell X rfl rfl rfl rfl rfl
theorem en76 : Enters Tryd.prog 76 := ⟨_, Tryd.func76, rfl, rfl⟩
theorem k_internal_stringslite_HasPrefix {p0 : ByteArray} {p1 : ByteArray} {y : Bool} (h : m_internal_stringslite_HasPrefix p0 p1 = some y) : Spec Tryd.prog 76 [(.v .str p0), (.v .str p1)] (.v .bool y) [] := by
  rw [m_internal_stringslite_HasPrefix] at h
  refine enterN [(.v .str p0), (.v .str p1)] 18 Tryd.func76 rfl rfl rfl ?_
  refine T.seq ?_
  refine T.region ?_
  refine Run.go (Ev.assign rfl rfl) ?_
  refine Run.nil ?_
  refine T.seq ?_
  refine T.region ?_
  refine Run.go (Ev.move rfl rfl) ?_
  refine Run.go (Ev.len X rfl rfl rfl rfl) ?_
  refine Run.go (Ev.move rfl rfl) ?_
  refine Run.go (Ev.len X rfl rfl rfl rfl) ?_
  refine Run.go (Ev.int rfl rfl rfl rfl trivial) ?_
  refine Run.go (Ev.move rfl rfl) ?_
  rcases boolCases (decide ((p1.size : Int) ≤ (p0.size : Int))) with hb1 | hb1
  · replace h := ifT hb1 h
    refine Run.on rfl rfl rfl hb1 (Ev.move rfl rfl) ?_
    refine Run.on rfl rfl rfl hb1 (Ev.move rfl rfl) ?_
    refine Run.on rfl rfl rfl hb1 (Ev.len X rfl rfl rfl rfl) ?_
    obtain ⟨x2, e3, h⟩ := bdS h
    refine Run.on rfl rfl rfl hb1 (Ev.e_cs X e3 rfl rfl rfl (fun _ h => by cases h) (fun _ => rfl) (fun _ _ => cutAt_of rfl) (fun h => by cases h)) ?_
    refine Run.on rfl rfl rfl hb1 (Ev.move rfl rfl) ?_
    refine Run.on rfl rfl rfl hb1 (Ev.strs rfl rfl rfl rfl trivial) ?_
    refine Run.go (Ev.pickT rfl hb1 rfl rfl) ?_
    refine Run.go (Ev.assign rfl rfl) ?_
    refine Run.nil ?_
    refine T.ret ?_
    cases h
    exact Fin.one rfl .v
  · replace h := ifF hb1 h
    refine Run.offT rfl rfl rfl rfl hb1 ?_
    refine Run.offT rfl rfl rfl rfl hb1 ?_
    refine Run.offT rfl rfl rfl rfl hb1 ?_
    refine Run.offT rfl rfl rfl rfl hb1 ?_
    refine Run.offT rfl rfl rfl rfl hb1 ?_
    refine Run.offT rfl rfl rfl rfl hb1 ?_
    refine Run.go (Ev.pickF rfl hb1 rfl rfl) ?_
    refine Run.go (Ev.assign rfl rfl) ?_
    refine Run.nil ?_
    refine T.ret ?_
    cases h
    exact Fin.one rfl .v
theorem en65 : Enters Tryd.prog 65 := ⟨_, Tryd.func65, rfl, rfl⟩
theorem k_internal_stringslite_CutPrefix {p0 : ByteArray} {p1 : ByteArray} {y : ByteArray × Bool} (h : m_internal_stringslite_CutPrefix p0 p1 = some y) : Spec Tryd.prog 65 [(.v .str p0), (.v .str p1)] (.tup [.v .str y.1, .v .bool y.2]) [] := by
  rw [m_internal_stringslite_CutPrefix] at h
  refine enterN [(.v .str p0), (.v .str p1)] 15 Tryd.func65 rfl rfl rfl ?_
  refine T.seq ?_
  refine T.region ?_
  refine Run.go (Ev.assign rfl rfl) ?_
  refine Run.go (Ev.assign rfl rfl) ?_
  refine Run.nil ?_
  refine T.seq ?_
  refine T.seq ?_
  refine T.region ?_
  refine Run.go (Ev.move rfl rfl) ?_
  refine Run.go (Ev.move rfl rfl) ?_
  obtain ⟨x1, e2, h⟩ := bdS h
  refine Run.go (Ev.callC en76 (k_internal_stringslite_HasPrefix e2) rfl (.cons .v (.cons .v .nil)) rfl rfl) ?_
  refine Run.go (Ev.not rfl rfl) ?_
  refine Run.nil ?_
  refine T.cond rfl (fun hb3 => ?_) (fun hb3 => ?_)
  · replace h := ifT hb3 h
    refine T.seq ?_
    refine T.region ?_
    refine Run.go (Ev.move rfl rfl) ?_
    refine Run.go (Ev.assign rfl rfl) ?_
    refine Run.go (Ev.assign rfl rfl) ?_
    refine Run.nil ?_
    refine T.ret ?_
    cases h
    exact Fin.many X rfl (.cons (.tmp .v) (.cons (.tmp .v) .nil)) rfl
  · replace h := ifF hb3 h
    refine T.skip ?_
    refine T.seq ?_
    refine T.region ?_
    refine Run.go (Ev.move rfl rfl) ?_
    refine Run.go (Ev.move rfl rfl) ?_
    refine Run.go (Ev.len X rfl rfl rfl rfl) ?_
    obtain ⟨x4, e5, h⟩ := bdS h
    refine Run.go (Ev.e_cs X e5 rfl rfl rfl (fun _ _ => cutAt_of rfl) (fun h => by cases h) (fun _ h => by cases h) (fun _ => rfl)) ?_
    refine Run.go (Ev.assign rfl rfl) ?_
    refine Run.go (Ev.assign rfl rfl) ?_
    refine Run.nil ?_
    refine T.ret ?_
    cases h
    exact Fin.many X rfl (.cons (.tmp .v) (.cons (.tmp .v) .nil)) rfl
theorem en41 : Enters Tryd.prog 41 := ⟨_, Tryd.func41, rfl, rfl⟩
theorem k_strings_CutPrefix {p0 : ByteArray} {p1 : ByteArray} {y : ByteArray × Bool} (h : m_strings_CutPrefix p0 p1 = some y) : Spec Tryd.prog 41 [(.v .str p0), (.v .str p1)] (.tup [.v .str y.1, .v .bool y.2]) [] := by
  rw [m_strings_CutPrefix] at h
  refine enterN [(.v .str p0), (.v .str p1)] 11 Tryd.func41 rfl rfl rfl ?_
  refine T.seq ?_
  refine T.region ?_
  refine Run.go (Ev.assign rfl rfl) ?_
  refine Run.go (Ev.assign rfl rfl) ?_
  refine Run.nil ?_
  refine T.seq ?_
  refine T.region ?_
  refine Run.go (Ev.move rfl rfl) ?_
  refine Run.go (Ev.move rfl rfl) ?_
  obtain ⟨x1, e2, h⟩ := bdS h
  refine Run.go (Ev.callC en65 (k_internal_stringslite_CutPrefix e2) rfl (.cons .v (.cons .v .nil)) rfl rfl) ?_
  refine Run.go (Ev.extract rfl rfl rfl) ?_
  refine Run.go (Ev.extract rfl rfl rfl) ?_
  refine Run.go (Ev.assign rfl rfl) ?_
  refine Run.go (Ev.assign rfl rfl) ?_
  refine Run.nil ?_
  refine T.ret ?_
  cases h
  exact Fin.many X rfl (.cons (.tmp .v) (.cons (.tmp .v) .nil)) rfl
theorem en77 : Enters Tryd.prog 77 := ⟨_, Tryd.func77, rfl, rfl⟩
theorem k_digits_based {p0 : Int} {y : Int} (h : m_digits_based p0 = some y) : Spec Tryd.prog 77 [(.v (.int .i64) p0)] (.v (.int .i64) y) [] := by
  rw [m_digits_based] at h
  refine enterN [(.v (.int .i64) p0)] 9 Tryd.func77 rfl rfl rfl ?_
  refine T.seq ?_
  refine T.region ?_
  refine Run.go (Ev.assign rfl rfl) ?_
  refine Run.nil ?_
  refine T.seq ?_
  obtain ⟨v1, hv, h⟩ := bdS h
  refine T.cut (fun _ : Unit => (⟨[(8, .v .bool v1)], [], 9⟩ : St)) (fun _ => True) ?_ (fun _ _ => ?_)
  · replace h := hv
    clear hv
    refine T.region ?_
    refine Run.go (Ev.move rfl rfl) ?_
    refine Run.go (Ev.int rfl rfl rfl rfl trivial) ?_
    refine Run.go (Ev.move rfl rfl) ?_
    rcases boolCases (decide (p0 < 2)) with hb2 | hb2
    · replace h := ifT hb2 h
      refine Run.offT rfl rfl rfl rfl hb2 ?_
      refine Run.offT rfl rfl rfl rfl hb2 ?_
      refine Run.go (Ev.pickT rfl hb2 rfl rfl) ?_
      refine Run.nil ?_
      cases h
      exact ⟨(), trivial, Ghost.only [] [8] rfl⟩
    · replace h := ifF hb2 h
      refine Run.on rfl rfl rfl hb2 (Ev.move rfl rfl) ?_
      refine Run.on rfl rfl rfl hb2 (Ev.int rfl rfl rfl rfl trivial) ?_
      refine Run.go (Ev.pickF rfl hb2 rfl rfl) ?_
      refine Run.nil ?_
      cases h
      exact ⟨(), trivial, Ghost.only [] [8] rfl⟩
  · refine T.cond rfl (fun hb3 => ?_) (fun hb3 => ?_)
    · replace h := ifT hb3 h
      refine T.seq ?_
      refine T.region ?_
      refine Run.go (Ev.assign rfl rfl) ?_
      refine Run.nil ?_
      refine T.ret ?_
      cases h
      exact Fin.one rfl .v
    · replace h := ifF hb3 h
      refine T.skip ?_
      refine T.seq ?_
      refine T.region ?_
      refine Run.go (Ev.assign rfl rfl) ?_
      refine Run.nil ?_
      refine T.ret ?_
      cases h
      exact Fin.one rfl .v
theorem en99 : Enters Tryd.prog 99 := ⟨_, Tryd.func99, rfl, rfl⟩
theorem k_internal_stringslite_IndexByte {p0 : ByteArray} {p1 : Int} {y : Int} (h : m_internal_stringslite_IndexByte p0 p1 = some y) : Spec Tryd.prog 99 [(.v .str p0), (.v (.int .u8) p1)] (.v (.int .i64) y) [] := by
  rw [m_internal_stringslite_IndexByte] at h
  refine enterN [(.v .str p0), (.v (.int .u8) p1)] 8 Tryd.func99 rfl rfl rfl ?_
  refine T.seq ?_
  refine T.region ?_
  refine Run.go (Ev.assign rfl rfl) ?_
  refine Run.nil ?_
  refine T.seq ?_
  refine T.region ?_
  refine Run.go (Ev.move rfl rfl) ?_
  refine Run.go (Ev.move rfl rfl) ?_
  refine Run.go (Ev.e_idxb ib104 rfl rfl rfl rfl) ?_
  refine Run.go (Ev.assign rfl rfl) ?_
  refine Run.nil ?_
  refine T.ret ?_
  cases h
  exact Fin.one rfl .v
theorem en92 : Enters Tryd.prog 92 := ⟨_, Tryd.func92, rfl, rfl⟩
theorem k_strings_IndexByte {p0 : ByteArray} {p1 : Int} {y : Int} (h : m_strings_IndexByte p0 p1 = some y) : Spec Tryd.prog 92 [(.v .str p0), (.v (.int .u8) p1)] (.v (.int .i64) y) [] := by
  rw [m_strings_IndexByte] at h
  refine enterN [(.v .str p0), (.v (.int .u8) p1)] 8 Tryd.func92 rfl rfl rfl ?_
  refine T.seq ?_
  refine T.region ?_
  refine Run.go (Ev.assign rfl rfl) ?_
  refine Run.nil ?_
  refine T.seq ?_
  refine T.region ?_
  refine Run.go (Ev.move rfl rfl) ?_
  refine Run.go (Ev.move rfl rfl) ?_
  obtain ⟨x1, e2, h⟩ := bdS h
  refine Run.go (Ev.callC en99 (k_internal_stringslite_IndexByte e2) rfl (.cons .v (.cons .v .nil)) rfl rfl) ?_
  refine Run.go (Ev.assign rfl rfl) ?_
  refine Run.nil ?_
  refine T.ret ?_
  cases h
  exact Fin.one rfl .v
theorem en78 : Enters Tryd.prog 78 := ⟨_, Tryd.func78, rfl, rfl⟩
theorem k_digits_value {p0 : Int} {p1 : Int} {y : Int × Bool} (h : m_digits_value p0 p1 = some y) : Spec Tryd.prog 78 [(.v (.int .i32) p0), (.v (.int .i64) p1)] (.tup [.v (.int .u64) y.1, .v .bool y.2]) [] := by
  rw [m_digits_value] at h
  refine enterN [(.v (.int .i32) p0), (.v (.int .i64) p1)] 24 Tryd.func78 rfl rfl rfl ?_
  refine T.seq ?_
  refine T.region ?_
  refine Run.go (Ev.assign rfl rfl) ?_
  refine Run.go (Ev.assign rfl rfl) ?_
  refine Run.nil ?_
  refine T.seq ?_
  refine T.region ?_
  refine Run.go (Ev.move rfl rfl) ?_
  refine Run.go (Ev.conv X rfl rfl rfl rfl) ?_
  obtain ⟨x1, e2, h⟩ := bdS h
  refine Run.go (Ev.callC en92 (k_strings_IndexByte e2) rfl (.cons .v (.cons .v .nil)) rfl rfl) ?_
  refine Run.go (Ev.assign rfl rfl) ?_
  refine Run.nil ?_
  refine T.seq ?_
  refine T.region ?_
  refine Run.go (Ev.move rfl rfl) ?_
  refine Run.go (Ev.max rfl rfl rfl) ?_
  refine Run.go (Ev.conv X rfl rfl rfl rfl) ?_
  refine Run.go (Ev.move rfl rfl) ?_
  refine Run.go (Ev.int rfl rfl rfl rfl trivial) ?_
  refine Run.go (Ev.move rfl rfl) ?_
  rcases boolCases (decide (p0 < 128)) with hb3 | hb3
  · replace h := ifT hb3 h
    refine Run.on rfl rfl rfl hb3 (Ev.move rfl rfl) ?_
    refine Run.on rfl rfl rfl hb3 (Ev.int rfl rfl rfl rfl trivial) ?_
    refine Run.go (Ev.pickT rfl hb3 rfl rfl) ?_
    refine Run.go (Ev.move rfl rfl) ?_
    rcases boolCases (decide (0 ≤ x1)) with hb4 | hb4
    · replace h := ifT hb4 h
      refine Run.on rfl rfl rfl hb4 (Ev.move rfl rfl) ?_
      refine Run.on rfl rfl rfl hb4 (Ev.move rfl rfl) ?_
      refine Run.on rfl rfl rfl hb4 (Ev.int rfl rfl rfl rfl trivial) ?_
      refine Run.go (Ev.pickT rfl hb4 rfl rfl) ?_
      refine Run.go (Ev.assign rfl rfl) ?_
      refine Run.go (Ev.assign rfl rfl) ?_
      refine Run.nil ?_
      refine T.ret ?_
      cases h
      exact Fin.many X rfl (.cons (.tmp .v) (.cons (.tmp .v) .nil)) rfl
    · replace h := ifF hb4 h
      refine Run.offT rfl rfl rfl rfl hb4 ?_
      refine Run.offT rfl rfl rfl rfl hb4 ?_
      refine Run.offT rfl rfl rfl rfl hb4 ?_
      refine Run.go (Ev.pickF rfl hb4 rfl rfl) ?_
      refine Run.go (Ev.assign rfl rfl) ?_
      refine Run.go (Ev.assign rfl rfl) ?_
      refine Run.nil ?_
      refine T.ret ?_
      cases h
      exact Fin.many X rfl (.cons (.tmp .v) (.cons (.tmp .v) .nil)) rfl
  · replace h := ifF hb3 h
    refine Run.offT rfl rfl rfl rfl hb3 ?_
    refine Run.offT rfl rfl rfl rfl hb3 ?_
    refine Run.go (Ev.pickF rfl hb3 rfl rfl) ?_
    refine Run.go (Ev.move rfl rfl) ?_
    refine Run.offT rfl rfl rfl rfl rfl ?_
    refine Run.offT rfl rfl rfl rfl rfl ?_
    refine Run.offT rfl rfl rfl rfl rfl ?_
    refine Run.go (Ev.pickF rfl rfl rfl rfl) ?_
    refine Run.go (Ev.assign rfl rfl) ?_
    refine Run.go (Ev.assign rfl rfl) ?_
    refine Run.nil ?_
    refine T.ret ?_
    cases h
    exact Fin.many X rfl (.cons (.tmp .v) (.cons (.tmp .v) .nil)) rfl
theorem en54 : Enters Tryd.prog 54 := ⟨_, Tryd.func54, rfl, rfl⟩
theorem k_limb_Add {p0 : Int} {p1 : Int} {p2 : Int} {y : Int × Int} (h : m_limb_Add p0 p1 p2 = some y) : Spec Tryd.prog 54 [(.v (.int .u64) p0), (.v (.int .u64) p1), (.v (.int .u64) p2)] (.tup [.v (.int .u64) y.1, .v (.int .u64) y.2]) [] := by
  rw [m_limb_Add] at h
  refine enterN [(.v (.int .u64) p0), (.v (.int .u64) p1), (.v (.int .u64) p2)] 21 Tryd.func54 rfl rfl rfl ?_
  refine T.seq ?_
  refine T.region ?_
  refine Run.go (Ev.assign rfl rfl) ?_
  refine Run.go (Ev.assign rfl rfl) ?_
  refine Run.nil ?_
  refine T.seq ?_
  refine T.region ?_
  refine Run.go (Ev.move rfl rfl) ?_
  refine Run.go (Ev.int rfl rfl rfl rfl trivial) ?_
  refine Run.go (Ev.move rfl rfl) ?_
  refine Run.go (Ev.int rfl rfl rfl rfl trivial) ?_
  refine Run.go (Ev.int rfl rfl rfl rfl trivial) ?_
  refine Run.go (Ev.move rfl rfl) ?_
  refine Run.go (Ev.int rfl rfl rfl rfl trivial) ?_
  refine Run.go (Ev.int rfl rfl rfl rfl trivial) ?_
  obtain ⟨x1, e2, h⟩ := ltS h
  refine Run.go (Ev.avs (Ev.assign rfl rfl) e2) ?_
  refine Run.nil ?_
  refine T.seq ?_
  refine T.region ?_
  refine Run.go (Ev.move rfl rfl) ?_
  refine Run.go (Ev.int rfl rfl rfl rfl trivial) ?_
  refine Run.go (Ev.move rfl rfl) ?_
  obtain ⟨x3, e4, h⟩ := bdS h
  refine Run.go (Ev.e_sr e4 rfl rfl rfl) ?_
  refine Run.go (Ev.assign rfl rfl) ?_
  refine Run.go (Ev.assign rfl rfl) ?_
  refine Run.nil ?_
  refine T.ret ?_
  cases h
  exact Fin.many X rfl (.cons (.tmp .v) (.cons (.tmp .v) .nil)) rfl
theorem en90 : Enters Tryd.prog 90 := ⟨_, Tryd.func90, rfl, rfl⟩
theorem k_limb_Mul {p0 : Int} {p1 : Int} {p2 : Int} {p3 : Int} {y : Int × Int} (h : m_limb_Mul p0 p1 p2 p3 = some y) : Spec Tryd.prog 90 [(.v (.int .u64) p0), (.v (.int .u64) p1), (.v (.int .u64) p2), (.v (.int .u64) p3)] (.tup [.v (.int .u64) y.1, .v (.int .u64) y.2]) [] := by
  rw [m_limb_Mul] at h
  refine enterN [(.v (.int .u64) p0), (.v (.int .u64) p1), (.v (.int .u64) p2), (.v (.int .u64) p3)] 26 Tryd.func90 rfl rfl rfl ?_
  refine T.seq ?_
  refine T.region ?_
  refine Run.go (Ev.assign rfl rfl) ?_
  refine Run.go (Ev.assign rfl rfl) ?_
  refine Run.nil ?_
  refine T.seq ?_
  refine T.region ?_
  refine Run.go (Ev.move rfl rfl) ?_
  refine Run.go (Ev.int rfl rfl rfl rfl trivial) ?_
  refine Run.go (Ev.move rfl rfl) ?_
  refine Run.go (Ev.int rfl rfl rfl rfl trivial) ?_
  refine Run.go (Ev.int rfl rfl rfl rfl trivial) ?_
  refine Run.go (Ev.move rfl rfl) ?_
  refine Run.go (Ev.int rfl rfl rfl rfl trivial) ?_
  refine Run.go (Ev.int rfl rfl rfl rfl trivial) ?_
  refine Run.go (Ev.move rfl rfl) ?_
  refine Run.go (Ev.int rfl rfl rfl rfl trivial) ?_
  refine Run.go (Ev.int rfl rfl rfl rfl trivial) ?_
  obtain ⟨x1, e2, h⟩ := ltS h
  refine Run.go (Ev.avs (Ev.assign rfl rfl) e2) ?_
  refine Run.nil ?_
  refine T.seq ?_
  refine T.region ?_
  refine Run.go (Ev.move rfl rfl) ?_
  refine Run.go (Ev.int rfl rfl rfl rfl trivial) ?_
  refine Run.go (Ev.move rfl rfl) ?_
  obtain ⟨x3, e4, h⟩ := bdS h
  refine Run.go (Ev.e_sr e4 rfl rfl rfl) ?_
  refine Run.go (Ev.assign rfl rfl) ?_
  refine Run.go (Ev.assign rfl rfl) ?_
  refine Run.nil ?_
  refine T.ret ?_
  cases h
  exact Fin.many X rfl (.cons (.tmp .v) (.cons (.tmp .v) .nil)) rfl
theorem en56 : Enters Tryd.prog 56 := ⟨_, Tryd.func56, rfl, rfl⟩
theorem k_nat_trim {p0 : (List Int)} {y : (List Int)} (h : m_nat_trim p0 = some y) : Spec Tryd.prog 56 [(.v (.sl (.int .u64)) p0)] (.v (.sl (.int .u64)) y) [] := by
  rw [m_nat_trim] at h
  refine enterN [(.v (.sl (.int .u64)) p0)] 21 Tryd.func56 rfl rfl rfl ?_
  refine T.seq ?_
  refine T.region ?_
  refine Run.go (Ev.assign rfl rfl) ?_
  refine Run.nil ?_
  refine T.seq ?_
  refine T.region ?_
  refine Run.go (Ev.move rfl rfl) ?_
  refine Run.go (Ev.len X rfl rfl rfl rfl) ?_
  refine Run.go (Ev.assign rfl rfl) ?_
  refine Run.nil ?_
  obtain ⟨v1, hv, h⟩ := bdS h
  refine T.cut (fun _ : Unit => (⟨[(0, .v (.sl (.int .u64)) p0), (3, .v (.int .i64) v1)], [], 21⟩ : St)) (fun _ => True) ?_ (fun _ _ => ?_)
  · replace h := hv
    clear hv
    refine T.block ?_
    refine T.loop (LoopT.ghost (Ghost.only [] [0, 3] rfl) (LoopT.run (fun q : Int => (⟨[(0, .v (.sl (.int .u64)) p0), (3, .v (.int .i64) q)], [], 21⟩ : St)) (fun v2 z1 h hz1 => ?_) h))
    rw [m_nat_trim_l1] at h
    refine T.seq ?_
    obtain ⟨v3, hv, h⟩ := bdS h
    refine T.cut (fun _ : Unit => (⟨[(0, .v (.sl (.int .u64)) p0), (3, .v (.int .i64) v2), (15, .v .bool v3)], [], 21⟩ : St)) (fun _ => True) ?_ (fun _ _ => ?_)
    · replace h := hv
      clear hv
      refine T.region ?_
      refine Run.go (Ev.move rfl rfl) ?_
      refine Run.go (Ev.int rfl rfl rfl rfl trivial) ?_
      refine Run.go (Ev.move rfl rfl) ?_
      rcases boolCases (decide (0 < v2)) with hb4 | hb4
      · replace h := ifT hb4 h
        refine Run.on rfl rfl rfl hb4 (Ev.move rfl rfl) ?_
        refine Run.on rfl rfl rfl hb4 (Ev.move rfl rfl) ?_
        refine Run.on rfl rfl rfl hb4 (Ev.int rfl rfl rfl rfl trivial) ?_
        obtain ⟨x5, e6, h⟩ := bdS h
        refine Run.on rfl rfl rfl hb4 (Ev.e_rd X e6 rfl rfl rfl rfl) ?_
        refine Run.on rfl rfl rfl hb4 (Ev.load X rfl rfl rfl) ?_
        refine Run.on rfl rfl rfl hb4 (Ev.int rfl rfl rfl rfl trivial) ?_
        refine Run.go (Ev.pickT rfl hb4 rfl rfl) ?_
        refine Run.nil ?_
        cases h
        exact ⟨(), trivial, Ghost.only [] [0, 3, 15] rfl⟩
      · replace h := ifF hb4 h
        refine Run.offT rfl rfl rfl rfl hb4 ?_
        refine Run.offT rfl rfl rfl rfl hb4 ?_
        refine Run.offT rfl rfl rfl rfl hb4 ?_
        refine Run.offT rfl rfl rfl rfl hb4 ?_
        refine Run.offT rfl rfl rfl rfl hb4 ?_
        refine Run.offT rfl rfl rfl rfl hb4 ?_
        refine Run.go (Ev.pickF rfl hb4 rfl rfl) ?_
        refine Run.nil ?_
        cases h
        exact ⟨(), trivial, Ghost.only [] [0, 3, 15] rfl⟩
    · refine T.cond rfl (fun hb7 => ?_) (fun hb7 => ?_)
      · replace h := ifT hb7 h
        refine T.skip ?_
        refine T.block ?_
        refine T.region ?_
        refine Run.go (Ev.move rfl rfl) ?_
        refine Run.go (Ev.int rfl rfl rfl rfl trivial) ?_
        refine Run.go (Ev.assign rfl rfl) ?_
        refine Run.nil ?_
        cases h
        exact LoopT.ghost (Ghost.only [] [0, 3] rfl) hz1
      · replace h := ifF hb7 h
        refine T.exit ?_
        cases h
        cases hz1
        exact ⟨(), trivial, Ghost.only [] [0, 3] rfl⟩
  · refine T.seq ?_
    refine T.region ?_
    refine Run.go (Ev.move rfl rfl) ?_
    refine Run.go (Ev.move rfl rfl) ?_
    obtain ⟨x8, e9, h⟩ := bdS h
    refine Run.go (Ev.e_ct X e9 rfl rfl rfl (fun _ h => by cases h) (fun _ => rfl) (fun _ _ => cutAt_of rfl) (fun h => by cases h)) ?_
    refine Run.go (Ev.assign rfl rfl) ?_
    refine Run.nil ?_
    refine T.ret ?_
    cases h
    exact Fin.one rfl .v
theorem en50 : Enters Tryd.prog 50 := ⟨_, Tryd.func50, rfl, rfl⟩
theorem k_nat_Make {p0 : (List Int)} {y : (List Int) × Int} (h : m_nat_Make p0 = some y) : Spec Tryd.prog 50 [(.v (.sl (.int .u64)) p0)] (.tup [.v (.sl (.int .u64)) y.1, .v (.int .i64) y.2]) [] := by
  rw [m_nat_Make] at h
  refine enterN [(.v (.sl (.int .u64)) p0)] 25 Tryd.func50 rfl rfl rfl ?_
  refine T.seq ?_
  refine T.region ?_
  refine Run.go (Ev.assign rfl rfl) ?_
  refine Run.go (Ev.assign rfl rfl) ?_
  refine Run.nil ?_
  refine T.seq ?_
  refine T.region ?_
  refine Run.go (Ev.move rfl rfl) ?_
  refine Run.go (Ev.len X rfl rfl rfl rfl) ?_
  obtain ⟨x1, e2, h⟩ := bdS h
  refine Run.go (Ev.e_mk X 1 e2 rfl rfl rfl rfl rfl rfl) ?_
  refine Run.go (Ev.assign rfl rfl) ?_
  refine Run.nil ?_
  refine T.seq ?_
  refine T.seq ?_
  refine T.region ?_
  refine Run.go (Ev.move rfl rfl) ?_
  refine Run.go (Ev.len X rfl rfl rfl rfl) ?_
  refine Run.go (Ev.move rfl rfl) ?_
  refine Run.nil ?_
  refine T.block ?_
  refine T.loop (LoopT.ghost (Ghost.only [(1, 5)] [4, 10, 11, 12] rfl) (LoopT.run (fun q : Int × (List Int) => (⟨[(4, .own 5), (10, .v (.sl (.int .u64)) p0), (11, .v (.int .i64) ((p0.length : Int) : Int)), (12, .v (.int .i64) q.1)], [(5, .arr 59 (.int .u64) q.2)], 25⟩ : St)) (fun q z1 h hz1 => ?_) h))
  obtain ⟨v3, v4⟩ := q
  dsimp only
  rw [m_nat_Make_l1] at h
  refine T.seq ?_
  refine T.region ?_
  refine Run.go (Ev.int rfl rfl rfl rfl trivial) ?_
  refine Run.nil ?_
  refine T.seq ?_
  refine T.cond rfl (fun hb5 => ?_) (fun hb5 => ?_)
  · replace h := ifT hb5 h
    refine T.skip ?_
    refine T.seq ?_
    refine T.block ?_
    refine T.seq ?_
    refine T.region ?_
    obtain ⟨x6, e7, h⟩ := bdS h
    refine Run.go (Ev.e_rd X e7 rfl rfl rfl rfl) ?_
    refine Run.go (Ev.load X rfl rfl rfl) ?_
    refine Run.go (Ev.assign rfl rfl) ?_
    refine Run.nil ?_
    refine T.seq ?_
    refine T.seq ?_
    refine T.region ?_
    refine Run.go (Ev.move rfl rfl) ?_
    refine Run.go (Ev.int rfl rfl rfl rfl trivial) ?_
    refine Run.nil ?_
    refine T.cond rfl (fun hb8 => ?_) (fun hb8 => ?_)
    · replace h := ifT hb8 h
      refine T.seq ?_
      refine T.region ?_
      refine Run.go (Ev.assign rfl rfl) ?_
      refine Run.go (Ev.assign rfl rfl) ?_
      refine Run.nil ?_
      refine T.ret ?_
      cases h
      cases hz1
      exact Fin.many X rfl (.cons (.tmp .nilv) (.cons (.tmp .v) .nil)) rfl
    · replace h := ifF hb8 h
      refine T.skip ?_
      refine T.region ?_
      refine Run.go (Ev.move rfl rfl) ?_
      refine Run.go (Ev.move rfl rfl) ?_
      refine Run.go (Ev.build X 9 rfl rfl rfl rfl rfl rfl rfl rfl) ?_
      obtain ⟨x9, e10, h⟩ := bdS h
      refine Run.go (Ev.e_ap X 10 e10 rfl rfl rfl (.own rfl) rfl rfl rfl rfl rfl) ?_
      refine Run.go (Ev.assign rfl rfl) ?_
      refine Run.nil ?_
      refine T.region ?_
      refine Run.go (Ev.int rfl rfl rfl rfl trivial) ?_
      refine Run.go (Ev.move rfl rfl) ?_
      refine Run.nil ?_
      cases h
      exact LoopT.ghost (Ghost.only [(10, 5)] [4, 10, 11, 12] rfl) hz1
  · replace h := ifF hb5 h
    refine T.exit ?_
    refine T.seq ?_
    refine T.region ?_
    refine Run.go (Ev.move rfl rfl) ?_
    refine Run.ghost (Ghost.firmAll (id := 5) rfl) ?_
    obtain ⟨x11, e12, h⟩ := bdS h
    refine Run.go (Ev.callC en56 (k_nat_trim e12) rfl (.cons .v .nil) rfl rfl) ?_
    refine Run.go (Ev.assign rfl rfl) ?_
    refine Run.go (Ev.assign rfl rfl) ?_
    refine Run.nil ?_
    refine T.ret ?_
    cases h
    cases hz1
    exact Fin.many X rfl (.cons (.tmp .v) (.cons (.tmp .v) .nil)) rfl
theorem en93 : Enters Tryd.prog 93 := ⟨_, Tryd.func93, rfl, rfl⟩
theorem k_mul_made {p0 : (List Int)} {y : (List Int)} (h : m_mul_made p0 = some y) : Spec Tryd.prog 93 [(.v (.sl (.int .u64)) p0)] (.v (.sl (.int .u64)) y) [] := by
  rw [m_mul_made] at h
  refine enterN [(.v (.sl (.int .u64)) p0)] 11 Tryd.func93 rfl rfl rfl ?_
  refine T.seq ?_
  refine T.region ?_
  refine Run.go (Ev.assign rfl rfl) ?_
  refine Run.nil ?_
  refine T.seq ?_
  refine T.region ?_
  refine Run.go (Ev.move rfl rfl) ?_
  obtain ⟨x1, e2, h⟩ := bdS h
  refine Run.go (Ev.callC en50 (k_nat_Make e2) rfl (.cons .v .nil) rfl rfl) ?_
  refine Run.go (Ev.move rfl rfl) ?_
  refine Run.go (Ev.extract rfl rfl rfl) ?_
  refine Run.go (Ev.extract rfl rfl rfl) ?_
  refine Run.go (Ev.assign rfl rfl) ?_
  refine Run.go (Ev.assign rfl rfl) ?_
  refine Run.nil ?_
  refine T.seq ?_
  refine T.region ?_
  refine Run.go (Ev.move rfl rfl) ?_
  refine Run.go (Ev.assign rfl rfl) ?_
  refine Run.nil ?_
  refine T.ret ?_
  cases h
  exact Fin.one rfl .v
theorem en79 : Enters Tryd.prog 79 := ⟨_, Tryd.func79, rfl, rfl⟩
theorem k_mul_Small {p0 : (List Int)} {p1 : Int} {p2 : Int} {y : (List Int)} (h : m_mul_Small p0 p1 p2 = some y) : Spec Tryd.prog 79 [(.v (.sl (.int .u64)) p0), (.v (.int .u64) p1), (.v (.int .u64) p2)] (.v (.sl (.int .u64)) y) [] := by
  rw [m_mul_Small] at h
  refine enterN [(.v (.sl (.int .u64)) p0), (.v (.int .u64) p1), (.v (.int .u64) p2)] 46 Tryd.func79 rfl rfl rfl ?_
  refine T.seq ?_
  refine T.region ?_
  refine Run.go (Ev.assign rfl rfl) ?_
  refine Run.nil ?_
  refine T.seq ?_
  refine T.region ?_
  refine Run.go (Ev.move rfl rfl) ?_
  refine Run.go (Ev.len X rfl rfl rfl rfl) ?_
  refine Run.go (Ev.int rfl rfl rfl rfl trivial) ?_
  obtain ⟨x1, e2, h⟩ := bdS h
  refine Run.go (Ev.e_mk X 1 e2 rfl rfl rfl rfl rfl rfl) ?_
  refine Run.go (Ev.assign rfl rfl) ?_
  refine Run.nil ?_
  refine T.seq ?_
  refine T.region ?_
  refine Run.go (Ev.move rfl rfl) ?_
  obtain ⟨x3, e4, h⟩ := bdS h
  refine Run.go (Ev.callC en54 (k_limb_Add e4) rfl (.cons .v (.cons .v (.cons .v .nil))) rfl rfl) ?_
  refine Run.go (Ev.move rfl rfl) ?_
  refine Run.go (Ev.extract rfl rfl rfl) ?_
  refine Run.go (Ev.extract rfl rfl rfl) ?_
  refine Run.go (Ev.assign rfl rfl) ?_
  refine Run.go (Ev.assign rfl rfl) ?_
  refine Run.nil ?_
  obtain ⟨⟨v5, v6⟩, hv, h⟩ := bdS h
  refine T.cut (fun _ : Unit => (⟨[(0, .v (.sl (.int .u64)) p0), (7, .own 1), (8, .v (.int .u64) v5)], [(1, .arr 59 (.int .u64) v6)], 46⟩ : St)) (fun _ => True) ?_ (fun _ _ => ?_)
  · replace h := hv
    clear hv
    refine T.seq ?_
    refine T.region ?_
    refine Run.go (Ev.move rfl rfl) ?_
    refine Run.go (Ev.len X rfl rfl rfl rfl) ?_
    refine Run.go (Ev.move rfl rfl) ?_
    refine Run.nil ?_
    refine T.block ?_
    refine T.loop (LoopT.ghost (Ghost.only [(1, 1)] [0, 1, 7, 8, 21, 22, 23] rfl) (LoopT.run (fun q : Int × Int × (List Int) => (⟨[(0, .v (.sl (.int .u64)) p0), (1, .v (.int .u64) p1), (7, .own 1), (8, .v (.int .u64) q.1), (21, .v (.sl (.int .u64)) p0), (22, .v (.int .i64) ((p0.length : Int) : Int)), (23, .v (.int .i64) q.2.1)], [(1, .arr 59 (.int .u64) q.2.2)], 46⟩ : St)) (fun q z1 h hz1 => ?_) h))
    obtain ⟨v7, v8, v9⟩ := q
    dsimp only
    rw [m_mul_Small_l1] at h
    refine T.seq ?_
    refine T.region ?_
    refine Run.go (Ev.int rfl rfl rfl rfl trivial) ?_
    refine Run.nil ?_
    refine T.seq ?_
    refine T.cond rfl (fun hb10 => ?_) (fun hb10 => ?_)
    · replace h := ifT hb10 h
      refine T.skip ?_
      refine T.seq ?_
      refine T.block ?_
      refine T.seq ?_
      refine T.region ?_
      refine Run.go (Ev.move rfl rfl) ?_
      obtain ⟨x11, e12, h⟩ := bdS h
      refine Run.go (Ev.e_rd X e12 rfl rfl rfl rfl) ?_
      refine Run.go (Ev.load X rfl rfl rfl) ?_
      refine Run.go (Ev.assign rfl rfl) ?_
      refine Run.go (Ev.assign rfl rfl) ?_
      refine Run.nil ?_
      refine T.region ?_
      refine Run.go (Ev.move rfl rfl) ?_
      refine Run.go (Ev.move rfl rfl) ?_
      refine Run.go (Ev.move rfl rfl) ?_
      refine Run.go (Ev.move rfl rfl) ?_
      refine Run.go (Ev.move rfl rfl) ?_
      obtain ⟨x13, e14, h⟩ := bdS h
      refine Run.go (Ev.callC en90 (k_limb_Mul e14) rfl (.cons .v (.cons .v (.cons .v (.cons .v .nil)))) rfl rfl) ?_
      refine Run.go (Ev.move rfl rfl) ?_
      refine Run.go (Ev.extract rfl rfl rfl) ?_
      refine Run.go (Ev.extract rfl rfl rfl) ?_
      obtain ⟨j15, e16, h⟩ := bdS h
      refine Run.go (Ev.e_ixO X e16 rfl rfl rfl rfl rfl) ?_
      obtain ⟨x17, e18, h⟩ := ltS h
      refine Run.do_ (Ev.asO (Ev.storeEl X rfl rfl rfl rfl rfl) e18) ?_
      refine Run.go (Ev.assign rfl rfl) ?_
      refine Run.nil ?_
      refine T.region ?_
      refine Run.go (Ev.int rfl rfl rfl rfl trivial) ?_
      refine Run.go (Ev.move rfl rfl) ?_
      refine Run.nil ?_
      cases h
      exact LoopT.ghost (Ghost.only [(1, 1)] [0, 1, 7, 8, 21, 22, 23] rfl) hz1
    · replace h := ifF hb10 h
      refine T.exit ?_
      cases h
      cases hz1
      exact ⟨(), trivial, Ghost.only [(1, 1)] [0, 7, 8] rfl⟩
  · refine T.seq ?_
    refine T.region ?_
    refine Run.go (Ev.move rfl rfl) ?_
    refine Run.go (Ev.move rfl rfl) ?_
    refine Run.go (Ev.len X rfl rfl rfl rfl) ?_
    refine Run.go (Ev.move rfl rfl) ?_
    obtain ⟨j19, e20, h⟩ := bdS h
    refine Run.go (Ev.e_ixO X e20 rfl rfl rfl rfl rfl) ?_
    obtain ⟨x21, e22, h⟩ := ltS h
    refine Run.do_ (Ev.asO (Ev.storeEl X rfl rfl rfl rfl rfl) e22) ?_
    refine Run.nil ?_
    refine T.seq ?_
    refine T.region ?_
    refine Run.go (Ev.move rfl rfl) ?_
    refine Run.ghost (Ghost.firmAll (id := 1) rfl) ?_
    obtain ⟨x23, e24, h⟩ := bdS h
    refine Run.go (Ev.callC en93 (k_mul_made e24) rfl (.cons .v .nil) rfl rfl) ?_
    refine Run.go (Ev.assign rfl rfl) ?_
    refine Run.nil ?_
    refine T.ret ?_
    cases h
    exact Fin.one rfl .v
theorem en66 : Enters Tryd.prog 66 := ⟨_, Tryd.func66, rfl, rfl⟩
theorem k_digits_From {p0 : ByteArray} {p1 : Int} {y : (List Int) × Int} (h : m_digits_From p0 p1 = some y) : Spec Tryd.prog 66 [(.v .str p0), (.v (.int .i64) p1)] (.tup [.v (.sl (.int .u64)) y.1, .v (.int .i64) y.2]) [] := by
  rw [m_digits_From] at h
  refine enterN [(.v .str p0), (.v (.int .i64) p1)] 57 Tryd.func66 rfl rfl rfl ?_
  refine T.seq ?_
  refine T.region ?_
  refine Run.go (Ev.assign rfl rfl) ?_
  refine Run.go (Ev.assign rfl rfl) ?_
  refine Run.nil ?_
  refine T.seq ?_
  refine T.seq ?_
  refine T.region ?_
  refine Run.go (Ev.move rfl rfl) ?_
  obtain ⟨x1, e2, h⟩ := bdS h
  refine Run.go (Ev.callC en77 (k_digits_based e2) rfl (.cons .v .nil) rfl rfl) ?_
  refine Run.go (Ev.assign rfl rfl) ?_
  refine Run.nil ?_
  refine T.seq ?_
  refine T.region ?_
  refine Run.go (Ev.move rfl rfl) ?_
  refine Run.go (Ev.int rfl rfl rfl rfl trivial) ?_
  refine Run.nil ?_
  refine T.cond rfl (fun hb3 => ?_) (fun hb3 => ?_)
  · replace h := ifT hb3 h
    refine T.seq ?_
    refine T.region ?_
    refine Run.go (Ev.move rfl rfl) ?_
    refine Run.go (Ev.assign rfl rfl) ?_
    refine Run.go (Ev.assign rfl rfl) ?_
    refine Run.nil ?_
    refine T.ret ?_
    cases h
    exact Fin.many X rfl (.cons (.tmp .nilv) (.cons (.tmp .v) .nil)) rfl
  · replace h := ifF hb3 h
    refine T.skip ?_
    refine T.seq ?_
    refine T.seq ?_
    refine T.region ?_
    refine Run.go (Ev.move rfl rfl) ?_
    refine Run.go (Ev.strs rfl rfl rfl rfl trivial) ?_
    refine Run.nil ?_
    refine T.cond rfl (fun hb4 => ?_) (fun hb4 => ?_)
    · replace h := ifT hb4 h
      refine T.seq ?_
      refine T.region ?_
      refine Run.go (Ev.assign rfl rfl) ?_
      refine Run.go (Ev.assign rfl rfl) ?_
      refine Run.nil ?_
      refine T.ret ?_
      cases h
      exact Fin.many X rfl (.cons (.tmp .nilv) (.cons (.tmp .v) .nil)) rfl
    · replace h := ifF hb4 h
      refine T.skip ?_
      refine T.seq ?_
      refine T.region ?_
      refine Run.go (Ev.assign rfl rfl) ?_
      refine Run.nil ?_
      refine T.seq ?_
      refine T.region ?_
      refine Run.go (Ev.assign rfl rfl) ?_
      refine Run.go (Ev.assign rfl rfl) ?_
      refine Run.nil ?_
      refine T.seq ?_
      refine T.seq ?_
      refine T.region ?_
      refine Run.go (Ev.move rfl rfl) ?_
      refine Run.go (Ev.e_range X 1 rfl rfl rfl rfl) ?_
      refine Run.nil ?_
      refine T.block ?_
      refine T.loop (LoopT.ghost (Ghost.trans (Ghost.nilv (t := 7) (τ := (.int .u64)) rfl) (Ghost.only [(1, 1)] [1, 7, 8, 9, 22] rfl)) (LoopT.run (fun q : (List Int) × Int × Int × Nat => (⟨[(1, .v (.int .i64) p1), (7, .v (.sl (.int .u64)) q.1), (8, .v (.int .u64) q.2.1), (9, .v (.int .u64) q.2.2.1), (22, .it 1)], [(1, .siter p0 q.2.2.2)], 57⟩ : St)) (fun q z1 h hz1 => ?_) h))
      obtain ⟨v5, v6, v7, v8⟩ := q
      dsimp only
      rw [m_digits_From_l1] at h
      refine T.seq ?_
      refine T.region ?_
      rcases boolCases (decide (v8 < p0.size)) with hb9 | hb9
      · replace h := ifT hb9 h
        refine Run.go (Ev.e_nextT hb9 rfl rfl rfl) ?_
        refine Run.go (Ev.extract rfl rfl rfl) ?_
        refine Run.nil ?_
        refine T.seq ?_
        refine T.condT rfl rfl ?_
        refine T.skip ?_
        refine T.block ?_
        refine T.seq ?_
        refine T.region ?_
        refine Run.go (Ev.extract rfl rfl rfl) ?_
        refine Run.go (Ev.assign rfl rfl) ?_
        refine Run.nil ?_
        refine T.seq ?_
        refine T.region ?_
        refine Run.go (Ev.move rfl rfl) ?_
        refine Run.go (Ev.move rfl rfl) ?_
        obtain ⟨x10, e11, h⟩ := bdS h
        refine Run.go (Ev.callC en78 (k_digits_value e11) rfl (.cons .v (.cons .v .nil)) rfl rfl) ?_
        refine Run.go (Ev.move rfl rfl) ?_
        refine Run.go (Ev.extract rfl rfl rfl) ?_
        refine Run.go (Ev.extract rfl rfl rfl) ?_
        refine Run.go (Ev.assign rfl rfl) ?_
        refine Run.go (Ev.assign rfl rfl) ?_
        refine Run.nil ?_
        refine T.seq ?_
        refine T.seq ?_
        refine T.region ?_
        refine Run.go (Ev.move rfl rfl) ?_
        refine Run.go (Ev.not rfl rfl) ?_
        refine Run.nil ?_
        refine T.cond rfl (fun hb12 => ?_) (fun hb12 => ?_)
        · replace h := ifT hb12 h
          refine T.seq ?_
          refine T.region ?_
          refine Run.go (Ev.assign rfl rfl) ?_
          refine Run.go (Ev.assign rfl rfl) ?_
          refine Run.nil ?_
          refine T.ret ?_
          cases h
          cases hz1
          exact Fin.many X rfl (.cons (.tmp .nilv) (.cons (.tmp .v) .nil)) rfl
        · replace h := ifF hb12 h
          refine T.skip ?_
          obtain ⟨⟨v13, v14, v15, v16⟩, hv, h⟩ := bdS h
          refine T.cut (fun _ : Unit => (⟨[(1, .v (.int .i64) p1), (7, .v (.sl (.int .u64)) v13), (8, .v (.int .u64) v14), (9, .v (.int .u64) v15), (12, .v (.int .u64) x10.1), (22, .it 1)], [(1, .siter p0 v16)], 57⟩ : St)) (fun _ => True) ?_ (fun _ _ => ?_)
          · replace h := hv
            clear hv
            refine T.seq ?_
            refine T.region ?_
            refine Run.go (Ev.move rfl rfl) ?_
            refine Run.go (Ev.move rfl rfl) ?_
            refine Run.go (Ev.conv X rfl rfl rfl rfl) ?_
            refine Run.go (Ev.int rfl rfl rfl rfl trivial) ?_
            refine Run.go (Ev.int rfl rfl rfl rfl trivial) ?_
            refine Run.nil ?_
            refine T.cond rfl (fun hb17 => ?_) (fun hb17 => ?_)
            · replace h := ifT hb17 h
              refine T.seq ?_
              refine T.region ?_
              refine Run.go (Ev.move rfl rfl) ?_
              refine Run.go (Ev.move rfl rfl) ?_
              refine Run.go (Ev.move rfl rfl) ?_
              obtain ⟨x18, e19, h⟩ := bdS h
              refine Run.go (Ev.callC en79 (k_mul_Small e19) rfl (.cons .v (.cons .v (.cons .v .nil))) rfl rfl) ?_
              refine Run.go (Ev.assign rfl rfl) ?_
              refine Run.nil ?_
              refine T.region ?_
              refine Run.go (Ev.assign rfl rfl) ?_
              refine Run.go (Ev.assign rfl rfl) ?_
              refine Run.nil ?_
              cases h
              exact ⟨(), trivial, Ghost.only [(1, 1)] [1, 7, 8, 9, 12, 22] rfl⟩
            · replace h := ifF hb17 h
              refine T.skip ?_
              cases h
              exact ⟨(), trivial, Ghost.only [(1, 1)] [1, 7, 8, 9, 12, 22] rfl⟩
          · refine T.region ?_
            refine Run.go (Ev.move rfl rfl) ?_
            refine Run.go (Ev.move rfl rfl) ?_
            refine Run.go (Ev.conv X rfl rfl rfl rfl) ?_
            refine Run.go (Ev.int rfl rfl rfl rfl trivial) ?_
            refine Run.go (Ev.move rfl rfl) ?_
            refine Run.go (Ev.move rfl rfl) ?_
            refine Run.go (Ev.conv X rfl rfl rfl rfl) ?_
            refine Run.go (Ev.int rfl rfl rfl rfl trivial) ?_
            refine Run.go (Ev.move rfl rfl) ?_
            refine Run.go (Ev.int rfl rfl rfl rfl trivial) ?_
            refine Run.go (Ev.assign rfl rfl) ?_
            obtain ⟨x20, e21, h⟩ := ltS h
            refine Run.go (Ev.avs (Ev.assign rfl rfl) e21) ?_
            refine Run.nil ?_
            cases h
            exact LoopT.ghost (Ghost.only [(1, 1)] [1, 7, 8, 9, 22] rfl) hz1
      · replace h := ifF hb9 h
        refine Run.go (Ev.e_nextF hb9 rfl rfl rfl) ?_
        refine Run.go (Ev.extract rfl rfl rfl) ?_
        refine Run.nil ?_
        refine T.seq ?_
        refine T.condF rfl rfl ?_
        refine T.exit ?_
        refine T.seq ?_
        refine T.region ?_
        refine Run.go (Ev.move rfl rfl) ?_
        refine Run.go (Ev.move rfl rfl) ?_
        refine Run.go (Ev.move rfl rfl) ?_
        obtain ⟨x22, e23, h⟩ := bdS h
        refine Run.go (Ev.callC en79 (k_mul_Small e23) rfl (.cons .v (.cons .v (.cons .v .nil))) rfl rfl) ?_
        refine Run.go (Ev.assign rfl rfl) ?_
        refine Run.go (Ev.assign rfl rfl) ?_
        refine Run.nil ?_
        refine T.ret ?_
        cases h
        cases hz1
        exact Fin.many X rfl (.cons (.tmp .v) (.cons (.tmp .v) .nil)) rfl
theorem en42 : Enters Tryd.prog 42 := ⟨_, Tryd.func42, rfl, rfl⟩
theorem k_digits_Parse {p0 : ByteArray} {y : (List Int) × Int} (h : m_digits_Parse p0 = some y) : Spec Tryd.prog 42 [(.v .str p0)] (.tup [.v (.sl (.int .u64)) y.1, .v (.int .i64) y.2]) [] := by
  rw [m_digits_Parse] at h
  refine enterN [(.v .str p0)] 8 Tryd.func42 rfl rfl rfl ?_
  refine T.seq ?_
  refine T.region ?_
  refine Run.go (Ev.assign rfl rfl) ?_
  refine Run.go (Ev.assign rfl rfl) ?_
  refine Run.nil ?_
  refine T.seq ?_
  refine T.region ?_
  refine Run.go (Ev.move rfl rfl) ?_
  obtain ⟨x1, e2, h⟩ := bdS h
  refine Run.go (Ev.callC en66 (k_digits_From e2) rfl (.cons .v (.cons .v .nil)) rfl rfl) ?_
  refine Run.go (Ev.extract rfl rfl rfl) ?_
  refine Run.go (Ev.extract rfl rfl rfl) ?_
  refine Run.go (Ev.assign rfl rfl) ?_
  refine Run.go (Ev.assign rfl rfl) ?_
  refine Run.nil ?_
  refine T.ret ?_
  cases h
  exact Fin.many X rfl (.cons (.tmp .v) (.cons (.tmp .v) .nil)) rfl
theorem en24 : Enters Tryd.prog 24 := ⟨_, Tryd.func24, rfl, rfl⟩
theorem k_whole_Made {p0 : Bool} {p1 : (List Int)} {y : D_api_Int} (h : m_whole_Made p0 p1 = some y) : Spec Tryd.prog 24 [(.v .bool p0), (.v (.sl (.int .u64)) p1)] (.v Y_api_Int y) [] := by
  rw [m_whole_Made] at h
  refine enterN [(.v .bool p0), (.v (.sl (.int .u64)) p1)] 20 Tryd.func24 rfl rfl rfl ?_
  refine T.seq ?_
  refine T.region ?_
  refine Run.go (Ev.allocN X 1 rfl rfl rfl) ?_
  refine Run.nil ?_
  refine T.seq ?_
  refine T.region ?_
  refine Run.go (Ev.move rfl rfl) ?_
  obtain ⟨x1, e2, h⟩ := bdS h
  refine Run.go (Ev.callC en50 (k_nat_Make e2) rfl (.cons .v .nil) rfl rfl) ?_
  refine Run.go (Ev.move rfl rfl) ?_
  refine Run.go (Ev.extract rfl rfl rfl) ?_
  refine Run.go (Ev.extract rfl rfl rfl) ?_
  refine Run.go (Ev.assign rfl rfl) ?_
  refine Run.go (Ev.assign rfl rfl) ?_
  refine Run.nil ?_
  refine T.seq ?_
  refine T.region ?_
  refine Run.go (Ev.move rfl rfl) ?_
  refine Run.go (Ev.move rfl rfl) ?_
  rcases boolCases p0 with hb3 | hb3
  · replace h := ifT hb3 h
    refine Run.on rfl rfl rfl hb3 (Ev.move rfl rfl) ?_
    refine Run.on rfl rfl rfl hb3 (Ev.len X rfl rfl rfl rfl) ?_
    refine Run.on rfl rfl rfl hb3 (Ev.int rfl rfl rfl rfl trivial) ?_
    refine Run.go (Ev.pickT rfl hb3 rfl rfl) ?_
    refine Run.go (Ev.move rfl rfl) ?_
    refine Run.go (Ev.struct X pl25 rfl rfl rfl rfl rfl rfl rfl rfl) ?_
    refine Run.do_ (Ev.storeBox X rfl rfl rfl rfl rfl rfl rfl) ?_
    refine Run.nil ?_
    refine T.ret ?_
    cases h
    exact Fin.cell X rfl rfl rfl rfl rfl
  · replace h := ifF hb3 h
    refine Run.offT rfl rfl rfl rfl hb3 ?_
    refine Run.offT rfl rfl rfl rfl hb3 ?_
    refine Run.offT rfl rfl rfl rfl hb3 ?_
    refine Run.go (Ev.pickF rfl hb3 rfl rfl) ?_
    refine Run.go (Ev.move rfl rfl) ?_
    refine Run.go (Ev.struct X pl25 rfl rfl rfl rfl rfl rfl rfl rfl) ?_
    refine Run.do_ (Ev.storeBox X rfl rfl rfl rfl rfl rfl rfl) ?_
    refine Run.nil ?_
    refine T.ret ?_
    cases h
    exact Fin.cell X rfl rfl rfl rfl rfl
theorem en15 : Enters Tryd.prog 15 := ⟨_, Tryd.func15, rfl, rfl⟩
theorem k_whole_Parse {p0 : ByteArray} {y : D_api_Int × Int} (h : m_whole_Parse p0 = some y) : Spec Tryd.prog 15 [(.v .str p0)] (.tup [.v Y_api_Int y.1, .v (.int .i64) y.2]) [] := by
  rw [m_whole_Parse] at h
  refine enterN [(.v .str p0)] 26 Tryd.func15 rfl rfl rfl ?_
  refine T.seq ?_
  refine T.region ?_
  refine Run.go (Ev.allocN X 1 rfl rfl rfl) ?_
  refine Run.go (Ev.assign rfl rfl) ?_
  refine Run.nil ?_
  refine T.seq ?_
  refine T.region ?_
  refine Run.go (Ev.move rfl rfl) ?_
  obtain ⟨x1, e2, h⟩ := bdS h
  refine Run.go (Ev.callC en41 (k_strings_CutPrefix e2) rfl (.cons .v (.cons .v .nil)) rfl rfl) ?_
  refine Run.go (Ev.move rfl rfl) ?_
  refine Run.go (Ev.extract rfl rfl rfl) ?_
  refine Run.go (Ev.extract rfl rfl rfl) ?_
  refine Run.go (Ev.assign rfl rfl) ?_
  refine Run.go (Ev.assign rfl rfl) ?_
  refine Run.nil ?_
  refine T.seq ?_
  refine T.region ?_
  refine Run.go (Ev.move rfl rfl) ?_
  obtain ⟨x3, e4, h⟩ := bdS h
  refine Run.go (Ev.callC en42 (k_digits_Parse e4) rfl (.cons .v .nil) rfl rfl) ?_
  refine Run.go (Ev.move rfl rfl) ?_
  refine Run.go (Ev.extract rfl rfl rfl) ?_
  refine Run.go (Ev.extract rfl rfl rfl) ?_
  refine Run.go (Ev.assign rfl rfl) ?_
  refine Run.go (Ev.assign rfl rfl) ?_
  refine Run.nil ?_
  refine T.seq ?_
  refine T.seq ?_
  refine T.region ?_
  refine Run.go (Ev.move rfl rfl) ?_
  refine Run.go (Ev.int rfl rfl rfl rfl trivial) ?_
  refine Run.nil ?_
  refine T.cond rfl (fun hb5 => ?_) (fun hb5 => ?_)
  · replace h := ifT hb5 h
    refine T.seq ?_
    refine T.region ?_
    refine Run.go (Ev.structC pl25 zs25 rfl rfl rfl) ?_
    refine Run.go (Ev.move rfl rfl) ?_
    refine Run.do_ (Ev.storeC sz25 rfl rfl rfl rfl rfl rfl) ?_
    refine Run.go (Ev.assign rfl rfl) ?_
    refine Run.nil ?_
    refine T.ret ?_
    cases h
    exact Fin.many X rfl (.cons (.cell rfl rfl rfl rfl) (.cons (.tmp .v) .nil)) rfl
  · replace h := ifF hb5 h
    refine T.skip ?_
    refine T.seq ?_
    refine T.region ?_
    refine Run.go (Ev.move rfl rfl) ?_
    refine Run.go (Ev.move rfl rfl) ?_
    obtain ⟨x6, e7, h⟩ := bdS h
    refine Run.go (Ev.callC en24 (k_whole_Made e7) rfl (.cons .v (.cons .v .nil)) rfl rfl) ?_
    refine Run.go (Ev.move rfl rfl) ?_
    refine Run.do_ (Ev.storeBox X rfl rfl rfl rfl rfl rfl rfl) ?_
    refine Run.go (Ev.assign rfl rfl) ?_
    refine Run.nil ?_
    refine T.ret ?_
    cases h
    exact Fin.many X rfl (.cons (.cell rfl rfl rfl rfl) (.cons (.tmp .v) .nil)) rfl
theorem en43 : Enters Tryd.prog 43 := ⟨_, Tryd.func43, rfl, rfl⟩
theorem k_triviumref06_digit {p0 : Int} {p1 : Int} {y : Int} (h : m_triviumref06_digit p0 p1 = some y) : Spec Tryd.prog 43 [(.v (.int .u8) p0), (.v (.int .i64) p1)] (.v (.int .i64) y) [] := by
  rw [m_triviumref06_digit] at h
  refine enterN [(.v (.int .u8) p0), (.v (.int .i64) p1)] 29 Tryd.func43 rfl rfl rfl ?_
  refine T.seq ?_
  refine T.region ?_
  refine Run.go (Ev.assign rfl rfl) ?_
  refine Run.nil ?_
  refine T.seq ?_
  refine T.region ?_
  refine Run.go (Ev.assign rfl rfl) ?_
  refine Run.nil ?_
  obtain ⟨v1, hv, h⟩ := bdS h
  refine T.cut (fun _ : Unit => (⟨[(0, .v (.int .u8) p0), (1, .v (.int .i64) p1), (5, .v (.int .i64) v1)], [], 29⟩ : St)) (fun _ => True) ?_ (fun _ _ => ?_)
  · replace h := hv
    clear hv
    obtain ⟨v2, hv, h⟩ := bdS h
    refine T.cut (fun _ : Unit => (⟨[(0, .v (.int .u8) p0), (1, .v (.int .i64) p1), (5, .v (.int .i64) ((-1) : Int)), (11, .v .bool v2)], [], 29⟩ : St)) (fun _ => True) ?_ (fun _ _ => ?_)
    · replace h := hv
      clear hv
      refine T.region ?_
      refine Run.go (Ev.move rfl rfl) ?_
      refine Run.go (Ev.int rfl rfl rfl rfl trivial) ?_
      refine Run.go (Ev.move rfl rfl) ?_
      rcases boolCases (decide (48 ≤ p0)) with hb3 | hb3
      · replace h := ifT hb3 h
        refine Run.on rfl rfl rfl hb3 (Ev.move rfl rfl) ?_
        refine Run.on rfl rfl rfl hb3 (Ev.int rfl rfl rfl rfl trivial) ?_
        refine Run.go (Ev.pickT rfl hb3 rfl rfl) ?_
        refine Run.nil ?_
        cases h
        exact ⟨(), trivial, Ghost.only [] [0, 1, 5, 11] rfl⟩
      · replace h := ifF hb3 h
        refine Run.offT rfl rfl rfl rfl hb3 ?_
        refine Run.offT rfl rfl rfl rfl hb3 ?_
        refine Run.go (Ev.pickF rfl hb3 rfl rfl) ?_
        refine Run.nil ?_
        cases h
        exact ⟨(), trivial, Ghost.only [] [0, 1, 5, 11] rfl⟩
    · refine T.cond rfl (fun hb4 => ?_) (fun hb4 => ?_)
      · replace h := ifT hb4 h
        refine T.region ?_
        refine Run.go (Ev.move rfl rfl) ?_
        refine Run.go (Ev.int rfl rfl rfl rfl trivial) ?_
        refine Run.go (Ev.conv X rfl rfl rfl rfl) ?_
        refine Run.go (Ev.assign rfl rfl) ?_
        refine Run.nil ?_
        cases h
        exact ⟨(), trivial, Ghost.only [] [0, 1, 5] rfl⟩
      · replace h := ifF hb4 h
        refine T.skip ?_
        cases h
        exact ⟨(), trivial, Ghost.only [] [0, 1, 5] rfl⟩
  · obtain ⟨v5, hv, h⟩ := bdS h
    refine T.cut (fun _ : Unit => (⟨[(1, .v (.int .i64) p1), (5, .v (.int .i64) v5)], [], 29⟩ : St)) (fun _ => True) ?_ (fun _ _ => ?_)
    · replace h := hv
      clear hv
      obtain ⟨v6, hv, h⟩ := bdS h
      refine T.cut (fun _ : Unit => (⟨[(0, .v (.int .u8) p0), (1, .v (.int .i64) p1), (5, .v (.int .i64) v1), (20, .v .bool v6)], [], 29⟩ : St)) (fun _ => True) ?_ (fun _ _ => ?_)
      · replace h := hv
        clear hv
        refine T.region ?_
        refine Run.go (Ev.move rfl rfl) ?_
        refine Run.go (Ev.int rfl rfl rfl rfl trivial) ?_
        refine Run.go (Ev.move rfl rfl) ?_
        rcases boolCases (decide (97 ≤ p0)) with hb7 | hb7
        · replace h := ifT hb7 h
          refine Run.on rfl rfl rfl hb7 (Ev.move rfl rfl) ?_
          refine Run.on rfl rfl rfl hb7 (Ev.int rfl rfl rfl rfl trivial) ?_
          refine Run.go (Ev.pickT rfl hb7 rfl rfl) ?_
          refine Run.nil ?_
          cases h
          exact ⟨(), trivial, Ghost.only [] [0, 1, 5, 20] rfl⟩
        · replace h := ifF hb7 h
          refine Run.offT rfl rfl rfl rfl hb7 ?_
          refine Run.offT rfl rfl rfl rfl hb7 ?_
          refine Run.go (Ev.pickF rfl hb7 rfl rfl) ?_
          refine Run.nil ?_
          cases h
          exact ⟨(), trivial, Ghost.only [] [0, 1, 5, 20] rfl⟩
      · refine T.cond rfl (fun hb8 => ?_) (fun hb8 => ?_)
        · replace h := ifT hb8 h
          refine T.region ?_
          refine Run.go (Ev.move rfl rfl) ?_
          refine Run.go (Ev.int rfl rfl rfl rfl trivial) ?_
          refine Run.go (Ev.conv X rfl rfl rfl rfl) ?_
          refine Run.go (Ev.int rfl rfl rfl rfl trivial) ?_
          refine Run.go (Ev.assign rfl rfl) ?_
          refine Run.nil ?_
          cases h
          exact ⟨(), trivial, Ghost.only [] [1, 5] rfl⟩
        · replace h := ifF hb8 h
          refine T.skip ?_
          cases h
          exact ⟨(), trivial, Ghost.only [] [1, 5] rfl⟩
    · refine T.seq ?_
      refine T.seq ?_
      refine T.region ?_
      refine Run.go (Ev.move rfl rfl) ?_
      refine Run.go (Ev.move rfl rfl) ?_
      refine Run.go (Ev.int rfl rfl rfl rfl trivial) ?_
      refine Run.nil ?_
      refine T.cond rfl (fun hb9 => ?_) (fun hb9 => ?_)
      · replace h := ifT hb9 h
        refine T.seq ?_
        refine T.region ?_
        refine Run.go (Ev.assign rfl rfl) ?_
        refine Run.nil ?_
        refine T.ret ?_
        cases h
        exact Fin.one rfl .v
      · replace h := ifF hb9 h
        refine T.skip ?_
        refine T.seq ?_
        refine T.region ?_
        refine Run.go (Ev.move rfl rfl) ?_
        refine Run.go (Ev.assign rfl rfl) ?_
        refine Run.nil ?_
        refine T.ret ?_
        cases h
        exact Fin.one rfl .v
theorem en58 : Enters Tryd.prog 58 := ⟨_, Tryd.func58, rfl, rfl⟩
theorem k_triviumref02_Trim {p0 : (List Int)} {y : (List Int)} (h : m_triviumref02_Trim p0 = some y) : Spec Tryd.prog 58 [(.v (.sl (.int .i64)) p0)] (.v (.sl (.int .i64)) y) [] := by
  rw [m_triviumref02_Trim] at h
  refine enterN [(.v (.sl (.int .i64)) p0)] 23 Tryd.func58 rfl rfl rfl ?_
  refine T.seq ?_
  refine T.region ?_
  refine Run.go (Ev.assign rfl rfl) ?_
  refine Run.nil ?_
  refine T.seq ?_
  refine T.region ?_
  refine Run.go (Ev.move rfl rfl) ?_
  refine Run.go (Ev.len X rfl rfl rfl rfl) ?_
  refine Run.go (Ev.assign rfl rfl) ?_
  refine Run.nil ?_
  obtain ⟨v1, hv, h⟩ := bdS h
  refine T.cut (fun _ : Unit => (⟨[(0, .v (.sl (.int .i64)) p0), (3, .v (.int .i64) v1)], [], 23⟩ : St)) (fun _ => True) ?_ (fun _ _ => ?_)
  · replace h := hv
    clear hv
    refine T.block ?_
    refine T.loop (LoopT.ghost (Ghost.only [] [0, 3] rfl) (LoopT.run (fun q : Int => (⟨[(0, .v (.sl (.int .i64)) p0), (3, .v (.int .i64) q)], [], 23⟩ : St)) (fun v2 z1 h hz1 => ?_) h))
    rw [m_triviumref02_Trim_l1] at h
    refine T.seq ?_
    obtain ⟨v3, hv, h⟩ := bdS h
    refine T.cut (fun _ : Unit => (⟨[(0, .v (.sl (.int .i64)) p0), (3, .v (.int .i64) v2), (15, .v .bool v3)], [], 23⟩ : St)) (fun _ => True) ?_ (fun _ _ => ?_)
    · replace h := hv
      clear hv
      refine T.region ?_
      refine Run.go (Ev.move rfl rfl) ?_
      refine Run.go (Ev.int rfl rfl rfl rfl trivial) ?_
      refine Run.go (Ev.move rfl rfl) ?_
      rcases boolCases (decide (0 < v2)) with hb4 | hb4
      · replace h := ifT hb4 h
        refine Run.on rfl rfl rfl hb4 (Ev.move rfl rfl) ?_
        refine Run.on rfl rfl rfl hb4 (Ev.move rfl rfl) ?_
        refine Run.on rfl rfl rfl hb4 (Ev.int rfl rfl rfl rfl trivial) ?_
        obtain ⟨x5, e6, h⟩ := bdS h
        refine Run.on rfl rfl rfl hb4 (Ev.e_rd X e6 rfl rfl rfl rfl) ?_
        refine Run.on rfl rfl rfl hb4 (Ev.load X rfl rfl rfl) ?_
        refine Run.on rfl rfl rfl hb4 (Ev.int rfl rfl rfl rfl trivial) ?_
        refine Run.go (Ev.pickT rfl hb4 rfl rfl) ?_
        refine Run.nil ?_
        cases h
        exact ⟨(), trivial, Ghost.only [] [0, 3, 15] rfl⟩
      · replace h := ifF hb4 h
        refine Run.offT rfl rfl rfl rfl hb4 ?_
        refine Run.offT rfl rfl rfl rfl hb4 ?_
        refine Run.offT rfl rfl rfl rfl hb4 ?_
        refine Run.offT rfl rfl rfl rfl hb4 ?_
        refine Run.offT rfl rfl rfl rfl hb4 ?_
        refine Run.offT rfl rfl rfl rfl hb4 ?_
        refine Run.go (Ev.pickF rfl hb4 rfl rfl) ?_
        refine Run.nil ?_
        cases h
        exact ⟨(), trivial, Ghost.only [] [0, 3, 15] rfl⟩
    · refine T.cond rfl (fun hb7 => ?_) (fun hb7 => ?_)
      · replace h := ifT hb7 h
        refine T.skip ?_
        refine T.block ?_
        refine T.region ?_
        refine Run.go (Ev.move rfl rfl) ?_
        refine Run.go (Ev.int rfl rfl rfl rfl trivial) ?_
        refine Run.go (Ev.assign rfl rfl) ?_
        refine Run.nil ?_
        cases h
        exact LoopT.ghost (Ghost.only [] [0, 3] rfl) hz1
      · replace h := ifF hb7 h
        refine T.exit ?_
        cases h
        cases hz1
        exact ⟨(), trivial, Ghost.only [] [0, 3] rfl⟩
  · refine T.seq ?_
    refine T.region ?_
    refine Run.go (Ev.build X 1 rfl rfl rfl rfl rfl rfl rfl rfl) ?_
    refine Run.go (Ev.move rfl rfl) ?_
    refine Run.go (Ev.move rfl rfl) ?_
    obtain ⟨x8, e9, h⟩ := bdS h
    refine Run.go (Ev.e_ct X e9 rfl rfl rfl (fun _ h => by cases h) (fun _ => rfl) (fun _ _ => cutAt_of rfl) (fun h => by cases h)) ?_
    obtain ⟨x10, e11, h⟩ := bdS h
    refine Run.go (Ev.e_ap X 2 e11 rfl rfl rfl .v rfl rfl rfl rfl rfl) ?_
    refine Run.go (Ev.assign rfl rfl) ?_
    refine Run.nil ?_
    refine T.ret ?_
    cases h
    exact Fin.one rfl (.own rfl)
end Go.Proofs.YtihaljbhcnflfaaDoor.AE
