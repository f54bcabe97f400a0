/- The law FormNets holds of every input: the row. -/
import Derived.Test.YtbmogniipgmkiaaGreatQFN6
import Derived.Test.YtbmogniipgmkiaaGreatRows
import Derived.Test.YtbmogniipgmkiaaGreatQFN5
import Derived.WalkKit
import Derived.ProofKit
import Derived.OpenShut
import Derived.ShutString
import Derived.ChangeOld
import Derived.Below
import Derived.Lib.SmallJoins
import Derived.Lay
import Derived.SevenTiedAt
import Derived.Lib.LaidTab
import Derived.Lib.LaidU8
import Derived.Stop.LaidErr
import Derived.LaidMore
/- Whether networks are well formed: the law, plain. -/
namespace Go.Proofs.YtbmogniipgmkiaaGreat.AP
open Go
set_option linter.unusedVariables false
set_option linter.unusedSimpArgs false
theorem lp_mapAll {α β X : Type} {f : (Int × List β) → Option ((Int × List β) ⊕ X)} (l : List α) (h : α → β) (e : Option X)
    (hs : ∀ (i : Nat) x acc, l[i]? = some x → acc.length = i → f ((i : Int), acc) = some (.inl ((i : Int) + 1, acc ++ [h x])))
    (hd : lp f ((l.length : Int), l.map h) = e) : lp f (0, []) = e := by
  refine lp_mapN l l.length h e (fun i x acc hx _ ha => hs i x acc hx ha) ?_
  rw [List.take_length]; exact hd
def nodeNames (x : D_api_Net) : List ByteArray := x.2.1.map (·.1)
def linkNames (x : D_api_Net) : List ByteArray := x.2.2.1.map (·.1)
theorem szs_map {α : Type} {l : List α} {h : α → ByteArray} {n : Nat} (hl : l.length ≤ n) (hn : n ≤ 9223372036854775807) (hs : ∀ x ∈ l, (h x).size ≤ 20) : Szs (l.map h) :=
  ⟨by unfold Big; simp; omega, fun s hs' => by obtain ⟨y, hy, rfl⟩ := List.mem_map.1 hs'; have := hs y hy; omega⟩
theorem CNet.szV {x : D_api_Net} (h : CNet x) : Szs (nodeNames x) := szs_map h.2.1.1 (by decide) fun y hy => (h.2.1.2 y hy).1
theorem CNet.szE {x : D_api_Net} (h : CNet x) : Szs (linkNames x) := szs_map h.2.2.1.1 (by decide) fun y hy => (h.2.2.1.2 y hy).1
theorem ap1 {α : Type} {l : List α} {x : α} {n b : Nat} (h : l.length ≤ n) (hb : (n + 1) * b ≤ 140737488355328) : ap b l [x] = some (l ++ [x]) := ap_of (by
  have : (l.length + [x].length) * b ≤ (n + 1) * b := Nat.mul_le_mul_right b (by simp; omega)
  omega)
theorem nodesF_eq (x : D_api_Net) (h : CNet x) : m_formed_nodesRight x = some (namesOK (nodeNames x)) := by
  unfold m_formed_nodesRight
  rw [lp_mapAll x.2.1 (·.1) (some (nodeNames x)) (fun i y acc hy ha => by
    obtain ⟨e1, e2, e3⟩ := ix_step (X := Int) h.bigN hy
    have hlt := len_of_get hy
    have hl := h.2.1.1
    simp only [m_formed_nodesRight_l1, e1, if_true, e2, bd_some, ap1 (l := acc) (x := y.1) (n := 8) (b := 16) (by omega) (by decide), e3]) (lp_done (by simp only [m_formed_nodesRight_l1, dlt]; rfl)), bd_some, namedF_eq _ h.szV, bd_some]
theorem linksF_eq (x : D_api_Net) (h : CNet x) : m_formed_linksRight x = some (namesOK (linkNames x)) := by
  unfold m_formed_linksRight
  rw [lp_mapAll x.2.2.1 (·.1) (some (linkNames x)) (fun i y acc hy ha => by
    obtain ⟨e1, e2, e3⟩ := ix_step (X := Int) h.bigL hy
    have hlt := len_of_get hy
    have hl := h.2.2.1.1
    simp only [m_formed_linksRight_l1, e1, if_true, e2, bd_some, ap1 (l := acc) (x := y.1) (n := 8) (b := 16) (by omega) (by decide), e3]) (lp_done (by simp only [m_formed_linksRight_l1, dlt]; rfl)), bd_some, namedF_eq _ h.szE, bd_some]
noncomputable def netV (x : D_api_Net) : Int :=
  if !namesOK (nodeNames x) then 2 else if !homesOK x then 3 else if !namesOK (linkNames x) then 4 else if !endsOK x then 5 else if !partsOK x then 6 else if !rulesOK x then 7 else if !groupsOK x then 8 else if !hopsOK x then 9 else 0
theorem netF_eq (x : D_api_Net) (h : CNet x) : m_formed_net x = some (netV x) := by
  unfold m_formed_net netV
  rw [show ((x.1, x.2.1, x.2.2.1, x.2.2.2) : D_api_Net) = x from rfl, nodesF_eq x h, homesF_eq x h, linksF_eq x h, endsF_eq x h, partsF_eq x h, rulesF_eq x h, groupsF_eq x h, hopsF_eq x h]
  simp only [bd_some]
  cases namesOK (nodeNames x) <;> cases homesOK x <;> cases namesOK (linkNames x) <;> cases endsOK x <;> cases partsOK x <;> cases rulesOK x <;> cases groupsOK x <;> cases hopsOK x <;> rfl
theorem endsR_eq (x : D_api_Net) (h : CNet x) : lp (m_triviumref23_net_l10 x) 0 = if endsOK x then m_triviumref23_net_k1 x else some 5 := by
  refine lp_all x.2.2.1 (endOK x) 5 _ (fun i y hy => ?_) (lp_up (by simp only [m_triviumref23_net_l10, dlt]; rfl))
  obtain ⟨e1, e2, e3⟩ := ix_step (X := Int) h.bigL hy
  have n1 : ∀ s, m_triviumref23_Node (x.1, x.2.1, x.2.2.1, x.2.2.2) s = some (idx (isV s) x.2.1) := fun s => rNode_eq x s h.bigN
  simp only [m_triviumref23_net_l10, e1, if_true, e2, bd_some, n1, e3]
  unfold endOK has
  by_cases ha : idx (isV y.2.1) x.2.1 < 0
  · rw [if_pos (decide_eq_true ha), bd_some, decide_eq_false (show ¬ 0 ≤ idx (isV y.2.1) x.2.1 by omega)]; rfl
  · rw [if_neg (by simpa using ha), bd_some, decide_eq_true (show 0 ≤ idx (isV y.2.1) x.2.1 by omega)]
    by_cases hb : idx (isV y.2.2.1) x.2.1 < 0
    · rw [decide_eq_true hb, decide_eq_false (show ¬ 0 ≤ idx (isV y.2.2.1) x.2.1 by omega)]; rfl
    · rw [decide_eq_false hb, decide_eq_true (show 0 ≤ idx (isV y.2.2.1) x.2.1 by omega)]; rfl
theorem partsR_eq (x : D_api_Net) (h : CNet x) : m_triviumref23_net_k1 x = if partsOK x then m_triviumref23_net_k2 x else some 6 := by
  unfold m_triviumref23_net_k1
  refine lp_all x.2.2.1 partOK 6 _ (fun i y hy => ?_) (lp_up (by simp only [m_triviumref23_net_l9, dlt]; rfl))
  obtain ⟨e1, e2, e3⟩ := ix_step (X := Int) h.bigL hy
  have e4 := partR_eq y (h.2.2.1.2 y (List.mem_of_getElem? hy))
  unfold partR at e4
  obtain ⟨b, hb, hb2⟩ := bdS e4
  cases hb2
  simp only [m_triviumref23_net_l9, e1, if_true, e2, bd_some, e3]
  rw [hb, bd_some]
  cases partOK y <;> rfl
theorem netR_eq (x : D_api_Net) (h : CNet x) : m_triviumref23_net x = some (netV x) := by
  have n1 : lp (m_triviumref23_net_l1 x) (0, []) = some (nodeNames x) :=
    lp_mapAll x.2.1 (·.1) (some (nodeNames x)) (fun i y acc hy ha => by
      obtain ⟨e1, e2, e3⟩ := ix_step (X := Int) h.bigN hy
      have hlt := len_of_get hy
      have hl := h.2.1.1
      simp only [m_triviumref23_net_l1, e1, if_true, e2, bd_some, ap1 (l := acc) (x := y.1) (n := 8) (b := 16) (by omega) (by decide), e3]) (lp_done (by simp only [m_triviumref23_net_l1, dlt]; rfl))
  have n2 : lp (m_triviumref23_net_l2 x) (0, []) = some (linkNames x) :=
    lp_mapAll x.2.2.1 (·.1) (some (linkNames x)) (fun i y acc hy ha => by
      obtain ⟨e1, e2, e3⟩ := ix_step (X := Int) h.bigL hy
      have hlt := len_of_get hy
      have hl := h.2.2.1.1
      simp only [m_triviumref23_net_l2, e1, if_true, e2, bd_some, ap1 (l := acc) (x := y.1) (n := 8) (b := 16) (by omega) (by decide), e3]) (lp_done (by simp only [m_triviumref23_net_l2, dlt]; rfl))
  unfold m_triviumref23_net netV
  have k2 : m_triviumref23_net_k2 x = lp (m_triviumref23_net_l7 x) 0 := rfl
  have k3 : m_triviumref23_net_k3 x = lp (m_triviumref23_net_l5 x) 0 := rfl
  rw [n1, bd_some, n2, bd_some, namedR_eq _ h.szV, bd_some, show ((x.1, x.2.1, x.2.2.1, x.2.2.2) : D_api_Net) = x from rfl, homesR_eq x h, bd_some, namedR_eq _ h.szE, bd_some, endsR_eq x h, partsR_eq x h, k2, rulesR_eq x h, k3, groupsR_eq x h, hopsR_eq x h]
  cases namesOK (nodeNames x) <;> cases homesOK x <;> cases namesOK (linkNames x) <;> cases endsOK x <;> cases partsOK x <;> cases rulesOK x <;> cases groupsOK x <;> cases hopsOK x <;> rfl
/-! all networks -/
noncomputable def firstBad : List D_api_Net → Int
  | [] => 0
  | x :: l => if netV x = 0 then firstBad l else netV x
theorem nets_loop {f : Int → Option (Int ⊕ Int)} (l : List D_api_Net) (hb : Big l) (h : ∀ (i : Nat) x, l[i]? = some x → f (i : Int) = some (if netV x = 0 then .inl ((i : Int) + 1) else .inr (netV x))) (he : f (l.length : Int) = some (.inr 0)) : lp f 0 = some (firstBad l) := by
  have main : ∀ (k i : Nat), i + k = l.length → lp f (i : Int) = some (firstBad (l.drop i)) := by
    intro k
    induction k with
    | zero =>
      intro i hk
      obtain rfl : i = l.length := by omega
      rw [List.drop_length, lp_done he]; rfl
    | succ k ih =>
      intro i hk
      have hx : l[i]? = some l[i] := List.getElem?_eq_getElem (by omega)
      have hd : l.drop i = l[i] :: l.drop (i + 1) := List.drop_eq_getElem_cons (by omega)
      have hs := h i _ hx
      rw [hd]
      unfold firstBad
      by_cases h0 : netV l[i] = 0
      · rw [if_pos h0] at hs ⊢
        rw [lp_more hs]; exact ih (i + 1) (by omega)
      · rw [if_neg h0] at hs ⊢
        rw [lp_done hs]
  exact main l.length 0 (by omega)
def netNames (l : List D_api_Net) : List ByteArray := l.map (·.1)
noncomputable def netsV (l : List D_api_Net) : Int := if !namesOK (netNames l) then 1 else firstBad l
theorem netsF_eq (l : List D_api_Net) (h : CNets l) : m_formed_Nets l = some (netsV l) := by
  have sz : Szs (netNames l) := szs_map h.1 (by decide) fun y hy => (h.2 y hy).1
  unfold m_formed_Nets netsV
  rw [lp_mapAll l (·.1) (some (netNames l)) (fun i y acc hy ha => by
    obtain ⟨e1, e2, e3⟩ := ix_step (X := Int) h.big hy
    have hlt := len_of_get hy
    have hl := h.1
    simp only [m_formed_Nets_l1, e1, if_true, e2, bd_some, ap1 (l := acc) (x := y.1) (n := 8) (b := 16) (by omega) (by decide), e3]) (lp_done (by simp only [m_formed_Nets_l1, dlt]; rfl)), bd_some, namedF_eq _ sz, bd_some]
  rw [nets_loop l h.big (fun i x hx => by
    obtain ⟨e1, e2, e3⟩ := ix_step (X := Int) h.big hx
    have e4 : m_formed_net (x.1, x.2.1, x.2.2.1, x.2.2.2) = some (netV x) := netF_eq x (h.2 x (List.mem_of_getElem? hx))
    simp only [m_formed_Nets_l2, e1, if_true, e2, bd_some, e4, e3]
    by_cases h0 : netV x = 0
    · simp [h0]
    · simp [h0]) (by simp only [m_formed_Nets_l2, dlt]; rfl)]
  cases namesOK (netNames l) <;> rfl
theorem netsR_eq (l : List D_api_Net) (h : CNets l) : m_triviumref23_Nets l = some (netsV l) := by
  have sz : Szs (netNames l) := szs_map h.1 (by decide) fun y hy => (h.2 y hy).1
  unfold m_triviumref23_Nets netsV
  rw [lp_mapAll l (·.1) (some (netNames l)) (fun i y acc hy ha => by
    obtain ⟨e1, e2, e3⟩ := ix_step (X := Int) h.big hy
    have hlt := len_of_get hy
    have hl := h.1
    simp only [m_triviumref23_Nets_l1, e1, if_true, e2, bd_some, ap1 (l := acc) (x := y.1) (n := 8) (b := 16) (by omega) (by decide), e3]) (lp_done (by simp only [m_triviumref23_Nets_l1, dlt]; rfl)), bd_some, namedR_eq _ sz, bd_some]
  rw [nets_loop l h.big (fun i x hx => by
    obtain ⟨e1, e2, e3⟩ := ix_step (X := Int) h.big hx
    have e4 : m_triviumref23_net x = some (netV x) := netR_eq x (h.2 x (List.mem_of_getElem? hx))
    simp only [m_triviumref23_Nets_l2, e1, if_true, e2, bd_some, e4, e3]
    by_cases h0 : netV x = 0
    · simp [h0]
    · simp [h0]) (by simp only [m_triviumref23_Nets_l2, dlt]; rfl)]
  cases namesOK (netNames l) <;> rfl
theorem formNets_plain (l : List D_api_Net) (s : ByteArray) (hl : m_triviumref22_Clean l = some (clNets l) ∧ CNets (clNets l)) : m_triviumlaw23_FormNets l s = some true := by
  obtain ⟨h1, h⟩ := hl
  unfold m_triviumlaw23_FormNets
  rw [h1, bd_some]
  generalize clNets l = L at *
  rw [again_eq h, bd_some]
  have hf : ∃ n, m_formed_Find L s = some (n, decide (0 ≤ idx (isN s) L)) ∧ (0 ≤ idx (isN s) L → sq n.1 s = true) := by
    unfold m_formed_Find
    rw [iFind_eq L s h.big, bd_some]
    by_cases hi : idx (isN s) L < 0
    · exact ⟨((bs []), [], [], []), by rw [if_pos (decide_eq_true hi), decide_eq_false (by omega)], fun h => by omega⟩
    · obtain ⟨x, g1, g2⟩ := idx_rd (p := isN s) (l := L) (by omega)
      exact ⟨x, by rw [if_neg (by simpa using hi), g1, bd_some, decide_eq_true (by omega)], fun _ => g2⟩
  obtain ⟨n, hn, hn2⟩ := hf
  rw [hn, bd_some, rFind_eq L s h.big, bd_some]
  have e0 : (if (!(decide (0 ≤ idx (isN s) L) == decide (0 ≤ idx (isN s) L))) = true then some true else if decide (0 ≤ idx (isN s) L) = true then some (!sq n.1 s) else some false) = some false := by
    rw [if_neg (by simp)]
    by_cases hi : 0 ≤ idx (isN s) L
    · rw [if_pos (decide_eq_true hi), hn2 hi]; rfl
    · rw [if_neg (by simpa using hi)]
  dsimp only
  rw [e0, bd_some, if_neg (by decide)]
  rw [lp_all L (fun _ => true) false (some true) (fun i x hx => by
    obtain ⟨e1, e2, e3⟩ := ix_step (X := Int) h.big hx
    have hx' := h.2 x (List.mem_of_getElem? hx)
    simp only [m_triviumlaw23_FormNets_l1, e1, if_true, e2, bd_some, fNode_eq x s hx'.bigN, fLink_eq x s hx'.bigL, rNode_eq x s hx'.bigN, rLink_eq x s hx'.bigL, e3]
    simp) (lp_done (by
    simp only [m_triviumlaw23_FormNets_l1, dlt, again_eq h, netsF_eq L h, netsR_eq L h, works23, bd_some]
    simp))]
  simp
end Go.Proofs.YtbmogniipgmkiaaGreat.AP
/- FormNets: the plain law, of all that may be handed in. -/
namespace Go.Proofs.YtbmogniipgmkiaaGreat.Pure
open Go Go.Proofs.YtbmogniipgmkiaaGreat.AP Go.Proofs.YtbmogniipgmkiaaGreat.AE
theorem FormNets (y0 : List D_api_Net) (h0 : Ty.ok (.sl Y_api_Net) y0) (y1 : ByteArray) (_h1 : Ty.ok .str y1) : m_triviumlaw23_FormNets y0 y1 = some true :=
  formNets_plain y0 y1 (ok_nets h0)
end Go.Proofs.YtbmogniipgmkiaaGreat.Pure
/- The law FormNets holds of every input: the row. -/
namespace Go.Proofs.YtbmogniipgmkiaaGreat.formNets
open Go.ChangeShapes Go.WideShapes Go.ChangeAt Go.RowKit
set_option linter.unusedVariables false
theorem own : ownKnob Tryz.prog.godebug = none := by kernel_rfl
theorem laidOut : laidOutB Tryz.prog = true := by kernel_rfl
set_option maxRecDepth 100000 in
theorem lifted (os : Os) (started : os.Started) (H : Type) (enc : TypeId × Value → H) :
    ReturnsInHanded {} Tryz.checked os 3 .any (Rows.formNetsSpec.pre6 enc Tryz.prog Tryz.f3 Rows.formNetsRow.domain false) (Rows.formNetsSpec.post enc Tryz.prog Tryz.f3 false true false false) := by
  refine returnsInHanded_of_change_sized (C := Tryz.checked) own started (by kernel_rfl) Tryz.func3
    (ChangeSpec.witness6 (enc := enc) (C := Tryz.checked) false ⟨#[], #[.slice none 0 0, .string ByteArray.empty], []⟩ 8 (by kernel_rfl) (by kernel_rfl) (by kernel_rfl) (by kernel_rfl)) ?_
  intro W base args ds gs before hval0 hW hcnd hsz0 _
  clear hsz0
  have hval : ∀ (j : Nat) t v, Tryz.f3.params[j]? = some t → args[j]? = some v → Value.okWide Tryz.prog W .any base t v := hval0
  have hW' := hW
  obtain ⟨p, q, hA0, hV, rfl, hfz, hnd⟩ := hW
  have hA : DataW.TrodAll enc Tryz.prog W 0 (fun _ => true) true Tryz.f3.params.toList args.toList ds p := hA0
  rw [Tryz.params3] at hA hval
  obtain ⟨v0, vs0, d0, ds0, p0, q0, hargs, rfl, rfl, h0, r0⟩ := trodAll_cons hA
  obtain ⟨v1, vs1, d1, ds1, p1, q1, rfl, rfl, rfl, h1, r1⟩ := trodAll_cons r0
  obtain ⟨rfl, rfl, rfl⟩ := trodAll_nil r1
  obtain rfl : args = #[v0, v1] := by cases args; simp_all
  obtain ⟨rfl, rfl⟩ := trodVars_none hV
  have lt0 : ∀ x ∈ p0, x.block < W.heap.size := by obtain ⟨m, hm⟩ := h0; exact DataW.trod_lt m _ _ _ hm
  obtain ⟨a0, o0, e0⟩ := AE.open_v (t := (.sl AE.Y_api_Net)) ⟨40, by kernel_rfl⟩ (hval 0 22 v0 rfl rfl) h0
  have lt1 : ∀ x ∈ p1, x.block < W.heap.size := by obtain ⟨m, hm⟩ := h1; exact DataW.trod_lt m _ _ _ hm
  obtain ⟨a1, o1, e1⟩ := AE.open_v (t := .str) ⟨40, by kernel_rfl⟩ (hval 1 9 v1 rfl rfl) h1
  clear hA0 hval0
  have h := Pure.FormNets a0 o0 a1 o1
  have C := AE.law_calls (AE.k_triviumlaw23_FormNets h) (W := W) (args := [v0, v1]) ⟨v0, [v1], rfl, e0, v1, [], rfl, e1, rfl⟩
  refine C.mono fun e W' ⟨he, bel⟩ => ?_
  subst he
  exact ⟨_, rfl, _, _, _, [], _, [], hW', trodAll_mk1 (shut_bool Tryz.underlying4 _), (trodAll_cons_mk (Below.trod laidOut (by kernel_rfl) (of_decide_eq_true (by kernel_rfl)) h0 bel lt0) (trodAll_cons_mk (Below.trod laidOut (by kernel_rfl) (of_decide_eq_true (by kernel_rfl)) h1 bel lt1) trodAll_mk0)), rfl, bel.frame _, fun h => by cases h⟩
theorem over : Rows.formNetsRow.holds Tryz.pinned (OpenSpec.ofChange Rows.formNetsSpec) :=
  OpenClaim.holds_of_wide 3 Tryz.f3 rfl rfl rfl rfl rfl rfl rfl ⟨rfl, rfl, rfl, rfl, rfl⟩ rfl rfl rfl rfl rfl (by kernel_rfl) Tryz.func3 (by kernel_rfl)
    (of_decide_eq_true (by kernel_rfl)) (by unfold Func.isWrapper; first | (rw [if_pos (by decide +kernel)]; kernel_rfl) | (rw [if_neg (by decide +kernel)]; exact ⟨rfl, rfl⟩))
    (fun os started H enc _ => lifted os started H enc)
theorem proved : Rows.FormNetsSaid := over
#print axioms proved
end Go.Proofs.YtbmogniipgmkiaaGreat.formNets
namespace Go.Proofs.YtbmogniipgmkiaaGreat
/-- The statement, under a short name, for the claim. -/
theorem formNets_holds : Rows.FormNetsSaid := formNets.proved
end Go.Proofs.YtbmogniipgmkiaaGreat
