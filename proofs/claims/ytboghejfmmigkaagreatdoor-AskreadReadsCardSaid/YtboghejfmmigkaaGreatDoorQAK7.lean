/- The law AskreadReads holds of every input: the row, and its card. -/
import Derived.Test.YtboghejfmmigkaaGreatDoorQAK6
import Derived.Test.YtboghejfmmigkaaGreatDoorQAK3
import Derived.Test.YtboghejfmmigkaaGreatDoorCards
import Derived.Test.YtboghejfmmigkaaGreatDoorTie
import Derived.Test.YtboghejfmmigkaaGreatDoorQAK5
import Derived.WalkKit
import Derived.ProofKit
import Derived.OpenShut
import Derived.ShutString
import Derived.ChangeOld
import Derived.Below
import Derived.Lib.SmallJoins
import Derived.Lay
import Derived.SevenTiedAt
import Derived.Lib.LaidTab
import Derived.Lib.LaidU8
import Derived.Stop.LaidErr
import Derived.LaidMore
/- Queries of tokens: the document's way; texts read as queries. -/
namespace Go.Proofs.YtboghejfmmigkaaGreatDoor.AP
open Go Go.RowKit Go.Proofs.YtboghejfmmigkaaGreatDoor.Tri
set_option linter.unusedVariables false
set_option linter.unusedSimpArgs false
set_option maxRecDepth 4000
theorem refMay_ok (w : List UInt8) (ln fo e : Int) (L l : List Tok) (i : Nat) (hL : L.length ≤ 1000000000) (h : L.drop i = l) : m_triviumref20_Reader_May_M (bs w) 0 ln fo L (i : Int) e = some (match pTok e w l with | .ok r => (true, ((i + 1 : Nat) : Int)) | .error _ => (false, (i : Int))) := by
  unfold m_triviumref20_Reader_May_M
  rw [decide_eq_true rfl, if_pos rfl, refTake_eq w L l i e hL h, bd_some]
  cases pTok e w l <;> rfl
theorem refFail_ok (ln fo e : Int) (L l : List Tok) (i : Nat) (h : L.drop i = l) : m_triviumref20_Reader_Fail_M 0 ln fo L (i : Int) e = some (1, lnO e l) := by
  unfold m_triviumref20_Reader_Fail_M
  rw [decide_eq_true rfl, if_pos rfl, refLine_eq L l i e h, bd_some]
theorem refIdent_bad (B ln fo e : Int) (L : List Tok) (i : Int) (hB : B ≠ 0) : m_triviumref20_Reader_Ident_M B ln fo L i e = some (bs [], B, ln, i) := by
  unfold m_triviumref20_Reader_Ident_M
  rw [decide_eq_false hB, Bool.not_false, if_pos rfl]
theorem refIdent_ok (ln fo e : Int) (L l : List Tok) (i : Nat) (hL : L.length ≤ 1000000000) (h : L.drop i = l) : m_triviumref20_Reader_Ident_M 0 ln fo L (i : Int) e = some (match pName e l with | .ok (v, r) => (v, 0, ln, ((i + 1 : Nat) : Int)) | .error c => (bs [], 1, c, (i : Int))) := by
  unfold m_triviumref20_Reader_Ident_M
  rw [decide_eq_true rfl, Bool.not_true, if_neg Bool.false_ne_true, refName_eq L l i e hL h, bd_some]
  cases hp : pName e l with
  | ok v => rfl
  | error c =>
    dsimp only
    rw [Bool.not_false, if_pos rfl, refFail_ok ln fo e L l i h, bd_some, bd_some, pName_err hp]
theorem refMust_bad (w : List UInt8) (B ln fo e : Int) (L : List Tok) (i : Int) (hB : B ≠ 0) : m_triviumref20_Reader_Must_M (bs w) B ln fo L i e = some (B, ln, i) := by
  unfold m_triviumref20_Reader_Must_M
  rw [decide_eq_false hB, if_neg Bool.false_ne_true, bd_some]; rfl
theorem refMust_ok (w : List UInt8) (ln fo e : Int) (L l : List Tok) (i : Nat) (hL : L.length ≤ 1000000000) (h : L.drop i = l) : m_triviumref20_Reader_Must_M (bs w) 0 ln fo L (i : Int) e = some (match pTok e w l with | .ok r => (0, ln, ((i + 1 : Nat) : Int)) | .error c => (1, c, (i : Int))) := by
  unfold m_triviumref20_Reader_Must_M
  rw [decide_eq_true rfl, if_pos rfl, refTake_eq w L l i e hL h, bd_some, bd_some]
  cases hp : pTok e w l with
  | ok r => rfl
  | error c =>
    dsimp only
    rw [Bool.not_false, if_pos rfl, refFail_ok ln fo e L l i h, bd_some, pTok_err hp]
theorem refPrefixR_bad (B ln fo e : Int) (L : List Tok) (i : Int) (hB : B ≠ 0) : m_triviumref20_Reader_Prefix_M B ln fo L i e = some ((0, 0), B, ln, fo, i) := by
  unfold m_triviumref20_Reader_Prefix_M
  rw [decide_eq_false hB, Bool.not_false, if_pos rfl]
theorem refAddress_bad (B ln fo e : Int) (L : List Tok) (i : Int) (hB : B ≠ 0) : m_triviumref21_address_M B ln fo L i e = some (0, B, ln, fo, i) := by
  unfold m_triviumref21_address_M
  rw [decide_eq_false hB, Bool.not_false, if_pos rfl]
theorem refNumberR_bad (B ln fo e : Int) (L : List Tok) (i : Int) (hB : B ≠ 0) : m_triviumref20_Reader_Number_M B ln fo L i e = some (0, B, ln, i) := by
  unfold m_triviumref20_Reader_Number_M
  rw [decide_eq_false hB, Bool.not_false, if_pos rfl]
theorem refPrefixR_ok (ln fo e : Int) (L l : List Tok) (i : Nat) (hL : L.length ≤ 1000000000) (h : L.drop i = l) (hl : Toks l) : m_triviumref20_Reader_Prefix_M 0 ln fo L (i : Int) e = some (match pFig e prefB fo l with | .ok (v, r, fo') => (v, 0, ln, fo', ((i + 1 : Nat) : Int)) | .error c => ((0, 0), 1, c, fo, (i : Int))) := by
  unfold m_triviumref20_Reader_Prefix_M
  rw [decide_eq_true rfl, Bool.not_true, if_neg Bool.false_ne_true, refLine_eq L l i e h, bd_some, refFigure_eq L l i e hL h, bd_some]
  cases hf : figT l with
  | none =>
    rw [pFig_none hf]
    dsimp only
    rw [refPrefix_eq [] (by decide), bd_some, Bool.not_false, if_pos rfl, bd_some, if_pos rfl, refFail_ok ln fo e L l i h, bd_some]
  | some tr =>
    obtain ⟨t, r⟩ := tr
    obtain ⟨rfl, hp⟩ := pFig_some (e := e) (f := prefB) (fo := fo) hf
    rw [hp]
    have hsz := hl.head.2
    rw [size_list] at hsz
    have hq := refPrefix_eq t.2.1.data.toList hsz
    rw [show bs t.2.1.data.toList = t.2.1 from rfl] at hq
    dsimp only
    rw [hq, bd_some, Bool.not_true, if_neg Bool.false_ne_true, bd_some]
    generalize prefB t.2.1.data.toList = F
    obtain ⟨⟨v2, v3⟩, er⟩ := F
    dsimp only
    by_cases h5 : er = 5
    · rw [if_pos h5, decide_eq_true h5, if_pos rfl, refFail_ok ln fo e L _ i h, bd_some]
    · rw [if_neg h5, decide_eq_false h5, if_neg Bool.false_ne_true]
      dsimp only
      by_cases h0 : er = 0
      · rw [decide_eq_true h0, Bool.not_true, if_neg Bool.false_ne_true, bd_some, if_neg (show ¬ (er ≠ 0 ∧ fo = 0) from fun hh => hh.1 h0)]
      · rw [decide_eq_false h0, Bool.not_false, if_pos rfl]
        unfold m_triviumref20_Reader_Mark_M
        by_cases hfo : fo = 0
        · rw [if_pos (show er ≠ 0 ∧ fo = 0 from ⟨h0, hfo⟩), decide_eq_true hfo]; rfl
        · rw [if_neg (show ¬ (er ≠ 0 ∧ fo = 0) from fun hh => hfo hh.2), decide_eq_false hfo]; rfl
theorem refAddress_ok (ln fo e : Int) (L l : List Tok) (i : Nat) (hL : L.length ≤ 1000000000) (h : L.drop i = l) (hl : Toks l) : m_triviumref21_address_M 0 ln fo L (i : Int) e = some (match pFig e addrB fo l with | .ok (v, r, fo') => (v, 0, ln, fo', ((i + 1 : Nat) : Int)) | .error c => (0, 1, c, fo, (i : Int))) := by
  unfold m_triviumref21_address_M
  rw [decide_eq_true rfl, Bool.not_true, if_neg Bool.false_ne_true, refLine_eq L l i e h, bd_some, refFigure_eq L l i e hL h, bd_some]
  cases hf : figT l with
  | none =>
    rw [pFig_none hf]
    dsimp only
    rw [refAddr_eq [] (by decide), bd_some, Bool.not_false, if_pos rfl, bd_some, if_pos rfl, refFail_ok ln fo e L l i h, bd_some]
  | some tr =>
    obtain ⟨t, r⟩ := tr
    obtain ⟨rfl, hp⟩ := pFig_some (e := e) (f := addrB) (fo := fo) hf
    rw [hp]
    have hsz := hl.head.2
    rw [size_list] at hsz
    have hq := refAddr_eq t.2.1.data.toList hsz
    rw [show bs t.2.1.data.toList = t.2.1 from rfl] at hq
    dsimp only
    rw [hq, bd_some, Bool.not_true, if_neg Bool.false_ne_true, bd_some]
    generalize addrB t.2.1.data.toList = F
    obtain ⟨v2, er⟩ := F
    dsimp only
    by_cases h5 : er = 5
    · rw [if_pos h5, decide_eq_true h5, if_pos rfl, refFail_ok ln fo e L _ i h, bd_some]
    · rw [if_neg h5, decide_eq_false h5, if_neg Bool.false_ne_true]
      dsimp only
      by_cases h0 : er = 0
      · rw [decide_eq_true h0, Bool.not_true, if_neg Bool.false_ne_true, bd_some, if_neg (show ¬ (er ≠ 0 ∧ fo = 0) from fun hh => hh.1 h0)]
      · rw [decide_eq_false h0, Bool.not_false, if_pos rfl]
        unfold m_triviumref20_Reader_Mark_M
        by_cases hfo : fo = 0
        · rw [if_pos (show er ≠ 0 ∧ fo = 0 from ⟨h0, hfo⟩), decide_eq_true hfo]; rfl
        · rw [if_neg (show ¬ (er ≠ 0 ∧ fo = 0) from fun hh => hfo hh.2), decide_eq_false hfo]; rfl
theorem cntB_form (w : List UInt8) : (cntB w).2 = 0 ∨ (cntB w).2 = 5 := by
  unfold cntB cntV
  cases rd10 w with
  | none => exact .inr rfl
  | some v => dsimp only; split <;> exact .inl rfl
theorem refNumberR_ok (ln fo e : Int) (L l : List Tok) (i : Nat) (hL : L.length ≤ 1000000000) (h : L.drop i = l) (hl : Toks l) : m_triviumref20_Reader_Number_M 0 ln fo L (i : Int) e = some (match pFig e cntB fo l with | .ok (v, r, fo') => (v, 0, ln, ((i + 1 : Nat) : Int)) | .error c => (0, 1, c, (i : Int))) := by
  unfold m_triviumref20_Reader_Number_M
  rw [decide_eq_true rfl, Bool.not_true, if_neg Bool.false_ne_true, refFigure_eq L l i e hL h, bd_some]
  cases hf : figT l with
  | none =>
    rw [pFig_none hf]
    dsimp only
    rw [refCount_eq [] (by decide), bd_some, Bool.not_false, if_pos rfl, bd_some, if_pos rfl, refFail_ok ln fo e L l i h, bd_some]
  | some tr =>
    obtain ⟨t, r⟩ := tr
    obtain ⟨rfl, hp⟩ := pFig_some (e := e) (f := cntB) (fo := fo) hf
    rw [hp]
    have hsz := hl.head.2
    rw [size_list] at hsz
    have hq := refCount_eq t.2.1.data.toList hsz
    rw [show bs t.2.1.data.toList = t.2.1 from rfl] at hq
    have hc := cntB_form t.2.1.data.toList
    dsimp only
    rw [hq, bd_some, Bool.not_true, if_neg Bool.false_ne_true, bd_some]
    generalize cntB t.2.1.data.toList = F at hc
    obtain ⟨v2, er⟩ := F
    dsimp only at hc ⊢
    rcases hc with rfl | rfl
    · rfl
    · rw [decide_eq_false (show ¬ ((5 : Int) = 0) by decide), Bool.not_false, if_pos rfl, refFail_ok ln fo e L _ i h, bd_some, if_pos rfl]
theorem cnt_fo {e fo fo' v : Int} {l r : List Tok} (h : pFig e cntB fo l = .ok (v, r, fo')) : fo' = fo := by
  cases l with
  | nil => cases h
  | cons t r' =>
    rw [pFig_cons] at h
    by_cases hh : t.1 = 2 ∧ (cntB t.2.1.data.toList).2 ≠ 5
    · rw [if_pos hh] at h
      have h0 : (cntB t.2.1.data.toList).2 = 0 := (cntB_form _).resolve_right hh.2
      rw [if_neg (show ¬ ((cntB t.2.1.data.toList).2 ≠ 0 ∧ fo = 0) from fun x => x.1 h0)] at h
      cases h; rfl
    · rw [if_neg hh] at h; cases h
/-- the document's kind of a query -/
def refKind (o1_1 o1_2 o1_3 : Int) (o2_0 : List Tok) (o2_1 o2_2 : Int) : Option (Int × Int × Int × Int) :=
    bd (m_triviumref20_Reader_May_M (bs [112, 114, 111, 98]) o1_1 o1_2 o1_3 o2_0 o2_1 o2_2) fun x6 =>
    if x6.1 then (
      some (o1_1, o1_2, x6.2, 1))
    else (
      bd (m_triviumref20_Reader_May_M (bs [104, 111, 112, 115]) o1_1 o1_2 o1_3 o2_0 x6.2 o2_2) fun x9 =>
      if x9.1 then (
        some (o1_1, o1_2, x9.2, 2))
      else (
        bd (m_triviumref20_Reader_May_M (bs [119, 105, 116, 104, 105, 110]) o1_1 o1_2 o1_3 o2_0 x9.2 o2_2) fun x12 =>
        if x12.1 then (
          some (o1_1, o1_2, x12.2, 3))
        else (
          bd (m_triviumref20_Reader_May_M (bs [99, 111, 109, 112, 97, 114, 101]) o1_1 o1_2 o1_3 o2_0 x12.2 o2_2) fun x15 =>
          if x15.1 then (
            some (o1_1, o1_2, x15.2, 4))
          else (
            bd (m_triviumref20_Reader_Fail_M o1_1 o1_2 o1_3 o2_0 x15.2 o2_2) fun x18 =>
            some (x18.1, x18.2, x15.2, 0)))))
theorem refKind_eq (ln fo e : Int) (L l : List Tok) (i : Nat) (hL : L.length ≤ 1000000000) (h : L.drop i = l) : refKind 0 ln fo L (i : Int) e = some (match pKind e l with | .ok (k, r) => (0, ln, ((i + 1 : Nat) : Int), k) | .error c => (1, c, (i : Int), 0)) := by
  unfold refKind
  have hK : pKind e l = match pTok e [112, 114, 111, 98] l with | .ok r => .ok (1, r) | .error _ => match pTok e [104, 111, 112, 115] l with | .ok r => .ok (2, r) | .error _ => match pTok e [119, 105, 116, 104, 105, 110] l with | .ok r => .ok (3, r) | .error _ => match pTok e [99, 111, 109, 112, 97, 114, 101] l with | .ok r => .ok (4, r) | .error _ => .error (lnO e l) := rfl
  rw [hK, refMay_ok _ ln fo e L l i hL h, bd_some]
  cases pTok e [112, 114, 111, 98] l with
  | ok r => rfl
  | error _ =>
    dsimp only
    rw [if_neg Bool.false_ne_true, refMay_ok _ ln fo e L l i hL h, bd_some]
    cases pTok e [104, 111, 112, 115] l with
    | ok r => rfl
    | error _ =>
      dsimp only
      rw [if_neg Bool.false_ne_true, refMay_ok _ ln fo e L l i hL h, bd_some]
      cases pTok e [119, 105, 116, 104, 105, 110] l with
      | ok r => rfl
      | error _ =>
        dsimp only
        rw [if_neg Bool.false_ne_true, refMay_ok _ ln fo e L l i hL h, bd_some]
        cases pTok e [99, 111, 109, 112, 97, 114, 101] l with
        | ok r => rfl
        | error _ =>
          dsimp only
          rw [if_neg Bool.false_ne_true, refFail_ok ln fo e L l i h, bd_some]
/-- where a query leads -/
noncomputable def refDest (k v1 v2 fo : Int) (L : List Tok) (i e : Int) : Option (Int × Int × Int × Int × Int × Int × Int) :=
    if decide (k = 4) then (
      bd (m_triviumref20_Reader_Prefix_M v1 v2 fo L i e) fun x39 =>
      some (x39.2.1, x39.2.2.1, x39.2.2.2.1, x39.2.2.2.2, 0, x39.1.1, x39.1.2))
    else (
      bd (m_triviumref21_address_M v1 v2 fo L i e) fun x41 =>
      some (x41.2.1, x41.2.2.1, x41.2.2.2.1, x41.2.2.2.2, x41.1, 0, 0))
theorem refDest_bad (k B ln fo e : Int) (L : List Tok) (i : Int) (hB : B ≠ 0) : refDest k B ln fo L i e = some (B, ln, fo, i, 0, 0, 0) := by
  unfold refDest
  by_cases h4 : k = 4
  · rw [if_pos (decide_eq_true h4), refPrefixR_bad _ _ _ _ _ _ hB, bd_some]
  · rw [if_neg (by rw [decide_eq_true_eq]; exact h4), refAddress_bad _ _ _ _ _ _ hB, bd_some]
theorem refDest_ok (k ln fo e : Int) (L l : List Tok) (i : Nat) (hL : L.length ≤ 1000000000) (h : L.drop i = l) (hl : Toks l) : refDest k 0 ln fo L (i : Int) e = some (match pFig e (fDest k) fo l with | .ok (v, r, fo') => (0, ln, fo', ((i + 1 : Nat) : Int), v.1, v.2.1, v.2.2) | .error c => (1, c, fo, (i : Int), 0, 0, 0)) := by
  unfold refDest
  by_cases h4 : k = 4
  · rw [if_pos (decide_eq_true h4), refPrefixR_ok ln fo e L l i hL h hl, bd_some]
    cases l with
    | nil => rfl
    | cons t r =>
      rw [pFig_cons, pFig_cons]
      have hd : fDest k t.2.1.data.toList = ((0, (prefB t.2.1.data.toList).1), (prefB t.2.1.data.toList).2) := by unfold fDest; rw [if_pos h4]
      rw [hd]
      dsimp only
      by_cases hh : t.1 = 2 ∧ (prefB t.2.1.data.toList).2 ≠ 5
      · rw [if_pos hh, if_pos hh]
      · rw [if_neg hh, if_neg hh]
  · rw [if_neg (by rw [decide_eq_true_eq]; exact h4), refAddress_ok ln fo e L l i hL h hl, bd_some]
    cases l with
    | nil => rfl
    | cons t r =>
      rw [pFig_cons, pFig_cons]
      have hd : fDest k t.2.1.data.toList = (((addrB t.2.1.data.toList).1, (0, 0)), (addrB t.2.1.data.toList).2) := by unfold fDest; rw [if_neg h4]
      rw [hd]
      dsimp only
      by_cases hh : t.1 = 2 ∧ (addrB t.2.1.data.toList).2 ≠ 5
      · rw [if_pos hh, if_pos hh]
      · rw [if_neg hh, if_neg hh]
theorem drop_next {L r : List Tok} {t : Tok} {i : Nat} (h : L.drop i = t :: r) : L.drop (i + 1) = r := (drop_rd h).2.2
theorem refQuery_eq (ln fo e : Int) (L l : List Tok) (i : Nat) (hL : L.length ≤ 1000000) (h : L.drop i = l) (hl : Toks l) :
    match pQuery e fo l with
    | .ok (q, r, fo') => ∃ i' : Nat, i < i' ∧ L.drop i' = r ∧ i' ≤ L.length ∧ m_triviumref21_query_M 0 ln fo L (i : Int) e = some (q, 0, ln, fo', (i' : Int))
    | .error b => ∃ q fo' i', m_triviumref21_query_M 0 ln fo L (i : Int) e = some (q, 1, b, fo', i') := by
  have hE : m_triviumref21_query_M 0 ln fo L (i : Int) e = bd (refKind 0 ln fo L (i : Int) e) fun (v1, v2, v3, v4) =>
      bd (m_triviumref20_Reader_Ident_M v1 v2 fo L v3 e) fun x20 =>
      bd (if decide (v4 = 4) then (bd (m_triviumref20_Reader_Ident_M x20.2.1 x20.2.2.1 fo L x20.2.2.2 e) fun x27 => some (x27.2.1, x27.2.2.1, x27.2.2.2, x27.1)) else (some (x20.2.1, x20.2.2.1, x20.2.2.2, (bs [])))) fun (v21, v22, v23, v24) =>
      bd (m_triviumref20_Reader_Ident_M v21 v22 fo L v23 e) fun x29 =>
      bd (refDest v4 x29.2.1 x29.2.2.1 fo L x29.2.2.2 e) fun (v30, v31, v32, v33, v34, v35, v36) =>
      bd (if decide (v4 = 3) then (bd (m_triviumref20_Reader_Number_M v30 v31 v32 L v33 e) fun x48 => some (x48.2.1, x48.2.2.1, x48.2.2.2, x48.1)) else (some (v30, v31, v33, 0))) fun (v42, v43, v44, v45) =>
      bd (m_triviumref20_Reader_Must_M (bs [59]) v42 v43 v32 L v44 e) fun x50 =>
      some ((v4, x20.1, v24, x29.1, v34, (v35, v36), v45), x50.1, x50.2.1, v32, x50.2.2) := rfl
  have hL' : L.length ≤ 1000000000 := by omega
  rw [hE]
  unfold pQuery
  have ne1 : (1 : Int) ≠ 0 := by decide
  have dead : ∀ (b k : Int) (n o f : ByteArray) (fo2 j d p1 p2 : Int), ∃ q fo' i', (bd (if decide (k = 3) then (bd (m_triviumref20_Reader_Number_M 1 b fo2 L j e) fun x48 => some (x48.2.1, x48.2.2.1, x48.2.2.2, x48.1)) else (some (1, b, j, 0))) fun (v42, v43, v44, v45) =>
      bd (m_triviumref20_Reader_Must_M (bs [59]) v42 v43 fo2 L v44 e) fun x50 =>
      some (((k, n, o, f, d, (p1, p2), v45) : D_api_Query), x50.1, x50.2.1, fo2, x50.2.2)) = some (q, 1, b, fo', i') := by
    intro b k n o f fo2 j d p1 p2
    by_cases h3 : k = 3
    · rw [if_pos (decide_eq_true h3), refNumberR_bad _ _ _ _ _ _ ne1, bd_some, bd_some]
      dsimp only
      rw [refMust_bad _ _ _ _ _ _ _ ne1, bd_some]
      exact ⟨_, _, _, rfl⟩
    · rw [if_neg (by rw [decide_eq_true_eq]; exact h3), bd_some]
      dsimp only
      rw [refMust_bad _ _ _ _ _ _ _ ne1, bd_some]
      exact ⟨_, _, _, rfl⟩
  have dead3 : ∀ (b k : Int) (n o : ByteArray) (j : Int), ∃ q fo' i', (bd (m_triviumref20_Reader_Ident_M 1 b fo L j e) fun x29 =>
      bd (refDest k x29.2.1 x29.2.2.1 fo L x29.2.2.2 e) fun (v30, v31, v32, v33, v34, v35, v36) =>
      bd (if decide (k = 3) then (bd (m_triviumref20_Reader_Number_M v30 v31 v32 L v33 e) fun x48 => some (x48.2.1, x48.2.2.1, x48.2.2.2, x48.1)) else (some (v30, v31, v33, 0))) fun (v42, v43, v44, v45) =>
      bd (m_triviumref20_Reader_Must_M (bs [59]) v42 v43 v32 L v44 e) fun x50 =>
      some (((k, n, o, x29.1, v34, (v35, v36), v45) : D_api_Query), x50.1, x50.2.1, v32, x50.2.2)) = some (q, 1, b, fo', i') := by
    intro b k n o j
    rw [refIdent_bad _ _ _ _ _ _ ne1, bd_some]
    dsimp only
    rw [refDest_bad _ _ _ _ _ _ _ ne1, bd_some]
    exact dead b k n o (bs []) fo j 0 0 0
  have dead2 : ∀ (b k : Int) (n : ByteArray) (j : Int), ∃ q fo' i', (bd (if decide (k = 4) then (bd (m_triviumref20_Reader_Ident_M 1 b fo L j e) fun x27 => some (x27.2.1, x27.2.2.1, x27.2.2.2, x27.1)) else (some (1, b, j, (bs [])))) fun (v21, v22, v23, v24) =>
      bd (m_triviumref20_Reader_Ident_M v21 v22 fo L v23 e) fun x29 =>
      bd (refDest k x29.2.1 x29.2.2.1 fo L x29.2.2.2 e) fun (v30, v31, v32, v33, v34, v35, v36) =>
      bd (if decide (k = 3) then (bd (m_triviumref20_Reader_Number_M v30 v31 v32 L v33 e) fun x48 => some (x48.2.1, x48.2.2.1, x48.2.2.2, x48.1)) else (some (v30, v31, v33, 0))) fun (v42, v43, v44, v45) =>
      bd (m_triviumref20_Reader_Must_M (bs [59]) v42 v43 v32 L v44 e) fun x50 =>
      some (((k, n, v24, x29.1, v34, (v35, v36), v45) : D_api_Query), x50.1, x50.2.1, v32, x50.2.2)) = some (q, 1, b, fo', i') := by
    intro b k n j
    by_cases h4 : k = 4
    · rw [if_pos (decide_eq_true h4), refIdent_bad _ _ _ _ _ _ ne1, bd_some, bd_some]
      exact dead3 b k n (bs []) j
    · rw [if_neg (by rw [decide_eq_true_eq]; exact h4), bd_some]
      exact dead3 b k n (bs []) j
  rw [refKind_eq ln fo e L l i hL' h, bd_some]
  cases hk : pKind e l with
  | error b =>
    rw [ebd_er]
    dsimp only
    rw [refIdent_bad _ _ _ _ _ _ ne1, bd_some]
    exact dead2 b 0 (bs []) (i : Int)
  | ok kr =>
    obtain ⟨k, r1⟩ := kr
    obtain ⟨t1, rfl⟩ := pKindL_ok _ hk
    have h1 := hl.tail
    have d1 := drop_next h
    rw [ebd_ok]
    dsimp only
    rw [refIdent_ok ln fo e L r1 (i + 1) hL' d1, bd_some]
    cases hn : pName e r1 with
    | error b =>
      rw [ebd_er]
      exact dead2 b k (bs []) ((i + 1 : Nat) : Int)
    | ok nr =>
      obtain ⟨n, r2⟩ := nr
      obtain ⟨t2, rfl, _⟩ := pName_ok hn
      have h2 := h1.tail
      have d2 := drop_next d1
      rw [ebd_ok]
      dsimp only
      have tail4 : ∀ (o : ByteArray) (r3 : List Tok) (j : Nat), Toks r3 → L.drop j = r3 → i < j →
          match ebd (pName e r3) fun f => ebd (pFig e (fDest k) fo f.2) fun d => ebd (pCount e k d.2.2 d.2.1) fun c => ebd (pTok e [59] c.2.1) fun r => (.ok ((k, n, o, f.1, d.1.1, d.1.2, c.1), r, c.2.2) : Except Int (D_api_Query × List Tok × Int)) with
          | .ok (q, r, fo') => ∃ i' : Nat, i < i' ∧ L.drop i' = r ∧ i' ≤ L.length ∧ (bd (m_triviumref20_Reader_Ident_M 0 ln fo L (j : Int) e) fun x29 =>
              bd (refDest k x29.2.1 x29.2.2.1 fo L x29.2.2.2 e) fun (v30, v31, v32, v33, v34, v35, v36) =>
              bd (if decide (k = 3) then (bd (m_triviumref20_Reader_Number_M v30 v31 v32 L v33 e) fun x48 => some (x48.2.1, x48.2.2.1, x48.2.2.2, x48.1)) else (some (v30, v31, v33, 0))) fun (v42, v43, v44, v45) =>
              bd (m_triviumref20_Reader_Must_M (bs [59]) v42 v43 v32 L v44 e) fun x50 =>
              some (((k, n, o, x29.1, v34, (v35, v36), v45) : D_api_Query), x50.1, x50.2.1, v32, x50.2.2)) = some (q, 0, ln, fo', (i' : Int))
          | .error b => ∃ q fo' i', (bd (m_triviumref20_Reader_Ident_M 0 ln fo L (j : Int) e) fun x29 =>
              bd (refDest k x29.2.1 x29.2.2.1 fo L x29.2.2.2 e) fun (v30, v31, v32, v33, v34, v35, v36) =>
              bd (if decide (k = 3) then (bd (m_triviumref20_Reader_Number_M v30 v31 v32 L v33 e) fun x48 => some (x48.2.1, x48.2.2.1, x48.2.2.2, x48.1)) else (some (v30, v31, v33, 0))) fun (v42, v43, v44, v45) =>
              bd (m_triviumref20_Reader_Must_M (bs [59]) v42 v43 v32 L v44 e) fun x50 =>
              some (((k, n, o, x29.1, v34, (v35, v36), v45) : D_api_Query), x50.1, x50.2.1, v32, x50.2.2)) = some (q, 1, b, fo', i') := by
        intro o r3 j h3 dj hij
        rw [refIdent_ok ln fo e L r3 j hL' dj, bd_some]
        cases hf : pName e r3 with
        | error b =>
          rw [ebd_er]
          dsimp only
          rw [refDest_bad _ _ _ _ _ _ _ ne1, bd_some]
          exact dead b k n o (bs []) fo (j : Int) 0 0 0
        | ok fr =>
          obtain ⟨f, r4⟩ := fr
          obtain ⟨t3, rfl, _⟩ := pName_ok hf
          have h4 := h3.tail
          have d4 := drop_next dj
          rw [ebd_ok]
          dsimp only
          rw [refDest_ok k ln fo e L r4 (j + 1) hL' d4 h4, bd_some]
          cases hd : pFig e (fDest k) fo r4 with
          | error b =>
            rw [ebd_er]
            exact dead b k n o f fo ((j + 1 : Nat) : Int) 0 0 0
          | ok dr =>
            obtain ⟨⟨d, p1, p2⟩, r5, fo2⟩ := dr
            obtain ⟨t4, rfl, _⟩ := pFig_ok hd
            have h5 := h4.tail
            have d5 := drop_next d4
            rw [ebd_ok]
            dsimp only
            unfold pCount
            have endOf : ∀ (c : Int) (r6 : List Tok) (j6 : Nat), L.drop j6 = r6 → i < j6 →
                match ebd (pTok e [59] r6) fun r => (.ok ((k, n, o, f, d, (p1, p2), c), r, fo2) : Except Int (D_api_Query × List Tok × Int)) with
                | .ok (q, r, fo') => ∃ i' : Nat, i < i' ∧ L.drop i' = r ∧ i' ≤ L.length ∧ (bd (m_triviumref20_Reader_Must_M (bs [59]) 0 ln fo2 L (j6 : Int) e) fun x50 => some (((k, n, o, f, d, (p1, p2), c) : D_api_Query), x50.1, x50.2.1, fo2, x50.2.2)) = some (q, 0, ln, fo', (i' : Int))
                | .error b => ∃ q fo' i', (bd (m_triviumref20_Reader_Must_M (bs [59]) 0 ln fo2 L (j6 : Int) e) fun x50 => some (((k, n, o, f, d, (p1, p2), c) : D_api_Query), x50.1, x50.2.1, fo2, x50.2.2)) = some (q, 1, b, fo', i') := by
              intro c r6 j6 dj6 hj6
              rw [refMust_ok [59] ln fo2 e L r6 j6 hL' dj6, bd_some]
              cases ht : pTok e [59] r6 with
              | error b => rw [ebd_er]; exact ⟨_, _, _, rfl⟩
              | ok r =>
                obtain ⟨t7, rfl, _⟩ := pTok_ok ht
                obtain ⟨q1, _, q3⟩ := drop_rd dj6
                rw [ebd_ok]
                exact ⟨j6 + 1, by omega, q3, by omega, rfl⟩
            by_cases h3k : k = 3
            · rw [if_pos h3k, if_pos (decide_eq_true h3k), refNumberR_ok ln fo2 e L r5 (j + 1 + 1) hL' d5 h5, bd_some]
              cases hc : pFig e cntB fo2 r5 with
              | error b =>
                rw [ebd_er, bd_some]
                dsimp only
                rw [refMust_bad _ _ _ _ _ _ _ ne1, bd_some]
                exact ⟨_, _, _, rfl⟩
              | ok cr =>
                obtain ⟨c, r6, fo3⟩ := cr
                obtain rfl := cnt_fo hc
                obtain ⟨t5, rfl, _⟩ := pFig_ok hc
                rw [ebd_ok, bd_some]
                exact endOf c r6 (j + 1 + 1 + 1) (drop_next d5) (by omega)
            · rw [if_neg h3k, if_neg (by rw [decide_eq_true_eq]; exact h3k), ebd_ok, bd_some]
              exact endOf 0 r5 (j + 1 + 1) d5 (by omega)
      unfold pOther
      by_cases h4k : k = 4
      · rw [if_pos h4k, if_pos (decide_eq_true h4k), refIdent_ok ln fo e L r2 (i + 1 + 1) hL' d2, bd_some]
        cases ho : pName e r2 with
        | error b =>
          rw [ebd_er, bd_some]
          exact dead3 b k n (bs []) ((i + 1 + 1 : Nat) : Int)
        | ok or_ =>
          obtain ⟨o, r3⟩ := or_
          obtain ⟨t6, rfl, _⟩ := pName_ok ho
          rw [ebd_ok, bd_some]
          exact tail4 o r3 (i + 1 + 1 + 1) h2.tail (drop_next d2) (by omega)
      · rw [if_neg h4k, if_neg (by rw [decide_eq_true_eq]; exact h4k), ebd_ok, bd_some]
        exact tail4 (bs []) r2 (i + 1 + 1) h2 d2 (by omega)
end Go.Proofs.YtboghejfmmigkaaGreatDoor.AP
/- Texts read as queries: the program's way and the document's; the plain laws. -/
namespace Go.Proofs.YtboghejfmmigkaaGreatDoor.AP
open Go Go.RowKit Go.Proofs.YtboghejfmmigkaaGreatDoor.Tri
set_option linter.unusedVariables false
set_option linter.unusedSimpArgs false
set_option maxRecDepth 4000
abbrev AskR := List D_api_Query × Int × Int
/-- all queries of tokens -/
def pAll (e : Int) : Nat → List Tok → Int → List D_api_Query → AskR
  | _, [], fo, acc => if fo = 0 then (acc, 0, 0) else ([], fo, 22)
  | 0, _ :: _, fo, acc => ([], 0, 0)
  | k + 1, t :: r, fo, acc => match pQuery e fo (t :: r) with
    | .error b => ([], b, 21)
    | .ok (q, l, fo') => pAll e k l fo' (acc ++ [q])
/-- a text's queries -/
def askV (l : List UInt8) : AskR := if (allV l).2.2 = 0 then pAll (allV l).2.1 (allV l).1.length (allV l).1 0 [] else ([], (allV l).2.1, (allV l).2.2)
theorem allV_err (l : List UInt8) : (allV l).2.2 = 0 ∨ (allV l).2.2 = 21 := by
  unfold allV
  split
  · exact .inl rfl
  · exact .inr rfl
theorem allV_toks (l : List UInt8) (hl : l.length ≤ 1000000) : Toks (allV l).1 ∧ 1 ≤ (allV l).2.1 ∧ (allV l).1.length ≤ l.length := by
  obtain ⟨h1, h2, h3, h4⟩ := lx_ok l.length l 1 (Nat.le_refl _) (by omega)
  unfold allV
  split
  · exact ⟨fun t ht => ⟨(h1 t ht).1, by have := (h1 t ht).2.1; omega⟩, h2, h4⟩
  · exact ⟨fun t ht => (by cases ht), h2, Nat.zero_le _⟩
theorem pQuery_len {e fo fo' : Int} {l r : List Tok} {q : D_api_Query} (h : pQuery e fo l = .ok (q, r, fo')) : ∃ n, 0 < n ∧ n ≤ l.length ∧ r = l.drop n := by
  unfold pQuery at h
  cases hk : pKind e l with
  | error b => rw [hk] at h; cases h
  | ok kr =>
    obtain ⟨k, r1⟩ := kr
    obtain ⟨t1, rfl⟩ := pKindL_ok _ hk
    rw [hk, ebd_ok] at h
    dsimp only at h
    cases hn : pName e r1 with
    | error b => rw [hn] at h; cases h
    | ok nr =>
      obtain ⟨n, r2⟩ := nr
      obtain ⟨t2, rfl, _⟩ := pName_ok hn
      rw [hn, ebd_ok] at h
      dsimp only at h
      have tail : ∀ (o : ByteArray) (r3 : List Tok) (m : Nat), m ≤ (t1 :: t2 :: r2).length → r3 = (t1 :: t2 :: r2).drop m →
          (ebd (pName e r3) fun f => ebd (pFig e (fDest k) fo f.2) fun d => ebd (pCount e k d.2.2 d.2.1) fun c => ebd (pTok e [59] c.2.1) fun r => (.ok ((k, n, o, f.1, d.1.1, d.1.2, c.1), r, c.2.2) : Except Int (D_api_Query × List Tok × Int))) = .ok (q, r, fo') → ∃ n, 0 < n ∧ n ≤ (t1 :: t2 :: r2).length ∧ r = (t1 :: t2 :: r2).drop n := by
        intro o r3 m hm hr3 h
        cases hf : pName e r3 with
        | error b => rw [hf] at h; cases h
        | ok fr =>
          obtain ⟨f, r4⟩ := fr
          obtain ⟨t3, rfl, _⟩ := pName_ok hf
          rw [hf, ebd_ok] at h
          dsimp only at h
          obtain ⟨l4, _, e4⟩ := drop_rd hr3.symm
          cases hd : pFig e (fDest k) fo r4 with
          | error b => rw [hd] at h; cases h
          | ok dr =>
            obtain ⟨d, r5, fo2⟩ := dr
            obtain ⟨t4, rfl, _⟩ := pFig_ok hd
            rw [hd, ebd_ok] at h
            dsimp only at h
            obtain ⟨l5, _, e5⟩ := drop_rd e4
            have fin : ∀ (c : Int) (r6 : List Tok) (fo3 : Int) (m6 : Nat), (t1 :: t2 :: r2).drop m6 = r6 → ebd (pTok e [59] r6) (fun r => (.ok ((k, n, o, f, d.1, d.2, c), r, fo3) : Except Int (D_api_Query × List Tok × Int))) = .ok (q, r, fo') → ∃ n, 0 < n ∧ n ≤ (t1 :: t2 :: r2).length ∧ r = (t1 :: t2 :: r2).drop n := by
              intro c r6 fo3 m6 e6 h
              cases ht : pTok e [59] r6 with
              | error b => rw [ht] at h; cases h
              | ok r7 =>
                obtain ⟨t7, rfl, _⟩ := pTok_ok ht
                rw [ht, ebd_ok] at h
                obtain ⟨l7, _, e7⟩ := drop_rd e6
                cases h
                exact ⟨m6 + 1, by omega, by omega, e7.symm⟩
            unfold pCount at h
            by_cases h3 : k = 3
            · rw [if_pos h3] at h
              cases hc : pFig e cntB fo2 r5 with
              | error b => rw [hc] at h; cases h
              | ok cr =>
                obtain ⟨c, r6, fo3⟩ := cr
                obtain ⟨t5, rfl, _⟩ := pFig_ok hc
                rw [hc, ebd_ok] at h
                obtain ⟨l6, _, e6⟩ := drop_rd e5
                exact fin c r6 fo3 _ e6 h
            · rw [if_neg h3, ebd_ok] at h
              exact fin 0 r5 fo2 _ e5 h
      unfold pOther at h
      by_cases h4 : k = 4
      · rw [if_pos h4] at h
        cases ho : pName e r2 with
        | error b => rw [ho] at h; cases h
        | ok or_ =>
          obtain ⟨o, r3⟩ := or_
          obtain ⟨t6, rfl, _⟩ := pName_ok ho
          rw [ho, ebd_ok] at h
          exact tail o r3 3 (by simp) rfl h
      · rw [if_neg h4, ebd_ok] at h
        exact tail (bs []) r2 2 (by simp) rfl h
theorem askRead_loop (line er e : Int) (he : 1 ≤ e) (L : List Tok) (X : List Tok) : ∀ (k : Nat) (l : List Tok) (fo : Int) (acc : List D_api_Query), l.length ≤ k → Toks l → acc.length + l.length ≤ 1000000 →
    ∃ v12 v13 v14 v15, lp (m_askread_Read_l2 (line, er, X, e)) (0, fo, acc, l) = some (v12, v13, v14, v15) ∧ (if v12 ≠ 0 then ([], v12, 21) else if v13 ≠ 0 then ([], v13, 22) else (v14, 0, 0)) = pAll e k l fo acc
  | k, [], fo, acc, hk, hl, ha => by
    refine ⟨0, fo, acc, [], lp_done (by rfl), ?_⟩
    rw [if_neg (show ¬ ((0 : Int) ≠ 0) from fun h => h rfl)]
    unfold pAll
    by_cases h : fo = 0
    · rw [if_neg (show ¬ (fo ≠ 0) from fun hh => hh h), if_pos h]
    · rw [if_pos h, if_neg h]
  | 0, t :: r, fo, acc, hk, hl, ha => by simp at hk
  | k + 1, t :: r, fo, acc, hk, hl, ha => by
    have hq := askQuery_eq fo e (t :: r) hl he
    have e1 : decide ((((t :: r).length : Nat) : Int) = 0) = false := decide_eq_false (by simp; omega)
    have hap : ∀ q : D_api_Query, ap 88 acc [q] = some (acc ++ [q]) := fun q => ap_of (by simp at ha ⊢; omega)
    unfold pAll
    cases hp : pQuery e fo (t :: r) with
    | error b =>
      rw [hp] at hq
      obtain ⟨hb, q, fo', r', hq⟩ := hq
      refine ⟨b, fo', acc ++ [q], r', ?_, by rw [if_pos hb]⟩
      rw [lp_more (s' := (b, fo', acc ++ [q], r')) (by
        simp only [m_askread_Read_l2, decide_true, if_true, m_lex_Reader_Done_M_2, bd_some, e1, Bool.not_false]
        rw [hq, bd_some, hap, bd_some])]
      exact lp_done (by simp only [m_askread_Read_l2, decide_eq_false hb, Bool.false_eq_true, if_false, bd_some])
    | ok v =>
      obtain ⟨q, r', fo'⟩ := v
      obtain ⟨n, hn0, hn1, hn⟩ := pQuery_len hp
      rw [hp] at hq
      dsimp only at hq ⊢
      have hlen : r'.length + n = (t :: r).length := by rw [hn, List.length_drop]; omega
      obtain ⟨v12, v13, v14, v15, g1, g2⟩ := askRead_loop line er e he L X k r' fo' (acc ++ [q]) (by omega) (by rw [hn]; exact hl.drop n) (by simp at ha hlen ⊢; omega)
      refine ⟨v12, v13, v14, v15, ?_, g2⟩
      rw [lp_more (s' := (0, fo', acc ++ [q], r')) (by
        simp only [m_askread_Read_l2, decide_true, if_true, m_lex_Reader_Done_M_2, bd_some, e1, Bool.not_false]
        rw [hq, bd_some, hap, bd_some])]
      exact g1
theorem askRead_eq (l : List UInt8) (hl : l.length ≤ 1000000) : m_askread_Read (bs l) = some (askV l) := by
  obtain ⟨h1, h2, h3⟩ := allV_toks l hl
  unfold m_askread_Read m_lex_New_M askV
  rw [lexAll_eq l hl, bd_some]
  rcases allV_err l with h0 | h0
  · rw [h0, if_neg (show ¬ ((!decide ((0 : Int) = 0)) = true) by decide), bd_some, alt2_r, if_pos rfl]
    dsimp only
    rw [if_neg (show ¬ ((!decide ((0 : Int) = 0)) = true) by decide)]
    obtain ⟨v12, v13, v14, v15, g1, g2⟩ := askRead_loop (allV l).2.1 0 (allV l).2.1 h2 [] (allV l).1 (allV l).1.length (allV l).1 0 [] (Nat.le_refl _) h1 (by simp; omega)
    rw [g1, bd_some, ← g2]
    dsimp only
    by_cases a : v12 = 0
    · rw [decide_eq_true a, Bool.not_true, if_neg Bool.false_ne_true, if_neg (show ¬ (v12 ≠ 0) from fun h => h a)]
      by_cases b : v13 = 0
      · rw [decide_eq_true b, Bool.not_true, if_neg Bool.false_ne_true, if_neg (show ¬ (v13 ≠ 0) from fun h => h b)]
      · rw [decide_eq_false b, Bool.not_false, if_pos rfl, if_pos b]
    · rw [decide_eq_false a, Bool.not_false, if_pos rfl, if_pos a]
  · rw [h0, if_pos (show ((!decide ((21 : Int) = 0)) = true) by decide), bd_some, alt2_l, if_pos (show ((!decide ((21 : Int) = 0)) = true) by decide), if_neg (by decide)]
theorem refRead_loop (line ln e : Int) (he : 1 ≤ e) (L : List Tok) (hL : L.length ≤ 1000000) (hT : Toks L) : ∀ (k : Nat) (l : List Tok) (i : Nat) (fo : Int) (acc : List D_api_Query), l.length ≤ k → L.drop i = l → i ≤ L.length → acc.length ≤ i →
    ∃ v6 v7 v8 v9 v10, lp (m_triviumref21_Read_l2 (line, L, e)) (0, ln, fo, acc, (i : Int)) = some (v6, v7, v8, v9, v10) ∧ (if v6 ≠ 0 then ([], v7, 21) else if v8 ≠ 0 then ([], v8, 22) else (v9, 0, 0)) = pAll e k l fo acc
  | k, [], i, fo, acc, hk, hd, hi, ha => by
    have hlen := drop_nil_ge hd
    refine ⟨0, ln, fo, acc, (i : Int), lp_done (by
      simp only [m_triviumref21_Read_l2, decide_true, if_true]
      rw [bd_some, if_neg (by rw [decide_eq_true_eq]; omega)]), ?_⟩
    rw [if_neg (show ¬ ((0 : Int) ≠ 0) from fun h => h rfl)]
    unfold pAll
    by_cases h : fo = 0
    · rw [if_neg (show ¬ (fo ≠ 0) from fun hh => hh h), if_pos h]
    · rw [if_pos h, if_neg h]
  | 0, t :: r, i, fo, acc, hk, hd, hi, ha => by simp at hk
  | k + 1, t :: r, i, fo, acc, hk, hd, hi, ha => by
    have hq := refQuery_eq ln fo e L (t :: r) i hL hd (hd ▸ hT.drop i)
    obtain ⟨hlt, _, _⟩ := drop_rd hd
    have e1 : decide ((i : Int) < ((L.length : Nat) : Int)) = true := decide_eq_true (by omega)
    have hap : ∀ q : D_api_Query, ap 88 acc [q] = some (acc ++ [q]) := fun q => ap_of (by simp; omega)
    unfold pAll
    cases hp : pQuery e fo (t :: r) with
    | error b =>
      rw [hp] at hq
      obtain ⟨q, fo', i', hq⟩ := hq
      refine ⟨1, b, fo', acc ++ [q], i', ?_, by rw [if_pos (by decide)]⟩
      rw [lp_more (s' := (1, b, fo', acc ++ [q], i')) (by
        simp only [m_triviumref21_Read_l2, decide_true, if_true, bd_some, e1]
        rw [hq, bd_some, hap, bd_some])]
      exact lp_done (by rfl)
    | ok v =>
      obtain ⟨q, r', fo'⟩ := v
      rw [hp] at hq
      obtain ⟨i', hi1, hi2, hi3, hq⟩ := hq
      dsimp only
      have hlen : r'.length ≤ k := by
        have a1 := congrArg List.length hi2
        have a2 := congrArg List.length hd
        simp at a1 a2 hk
        omega
      obtain ⟨v6, v7, v8, v9, v10, g1, g2⟩ := refRead_loop line ln e he L hL hT k r' i' fo' (acc ++ [q]) hlen hi2 hi3 (by simp; omega)
      refine ⟨v6, v7, v8, v9, v10, ?_, g2⟩
      rw [lp_more (s' := (0, ln, fo', acc ++ [q], (i' : Int))) (by
        simp only [m_triviumref21_Read_l2, decide_true, if_true, bd_some, e1]
        rw [hq, bd_some, hap, bd_some])]
      exact g1
theorem refRead_eq (l : List UInt8) (hl : l.length ≤ 1000000) : m_triviumref21_Read (bs l) = some (askV l) := by
  obtain ⟨h1, h2, h3⟩ := allV_toks l hl
  unfold m_triviumref21_Read m_triviumref20_Begin_M askV
  rw [refAll_eq l hl, bd_some]
  rcases allV_err l with h0 | h0
  · rw [h0, if_neg (show ¬ ((!decide ((0 : Int) = 0)) = true) by decide), bd_some, alt2_r, if_pos rfl]
    dsimp only
    rw [if_neg (show ¬ ((!true) = true) by decide)]
    obtain ⟨v6, v7, v8, v9, v10, g1, g2⟩ := refRead_loop (allV l).2.1 0 (allV l).2.1 h2 (allV l).1 (by omega) h1 (allV l).1.length (allV l).1 0 0 [] (Nat.le_refl _) rfl (by omega) (by simp)
    rw [show ((0 : Nat) : Int) = 0 from rfl] at g1
    rw [g1, bd_some, ← g2]
    dsimp only
    unfold m_triviumref20_Reader_Told_M
    by_cases a : v6 = 0
    · rw [decide_eq_true a, Bool.not_true, if_neg Bool.false_ne_true, if_neg (show ¬ (v6 ≠ 0) from fun h => h a)]
      by_cases b : v8 = 0
      · rw [decide_eq_true b, Bool.not_true, if_neg Bool.false_ne_true, bd_some, if_neg (show ¬ (v8 ≠ 0) from fun h => h b)]; rfl
      · rw [decide_eq_false b, Bool.not_false, if_pos rfl, bd_some, if_pos b]; rfl
    · rw [decide_eq_false a, Bool.not_false, if_pos rfl, bd_some, if_pos a]; rfl
  · rw [h0, if_pos (show ((!decide ((21 : Int) = 0)) = true) by decide), bd_some, alt2_l, if_pos (show ((!false) = true) by decide), if_neg (by decide)]
theorem sq_refl (a : ByteArray) : sq a a = true := sq_iff.2 rfl
theorem askSame_eq (l : List D_api_Query) (hl : l.length ≤ 1000000000) : m_triviumref21_Same l l = some true := by
  unfold m_triviumref21_Same
  rw [decide_eq_true rfl, Bool.not_true, if_neg Bool.false_ne_true]
  have h : ∀ i, i < l.length → m_triviumref21_Same_l1 l l ((i : Nat) : Int) = some (.inl (((i + 1 : Nat)) : Int)) := by
    intro i hi
    have e1 : decide ((i : Int) < ((l.length : Nat) : Int)) = true := decide_eq_true (by omega)
    have e2 : rd l (i : Int) = some l[i] := rd_at hi
    simp only [m_triviumref21_Same_l1, e1, if_true, e2, bd_some, sq_refl, decide_true, Bool.and_true, Bool.not_true, Bool.false_eq_true, if_false]
    rw [wi64_eq (by omega) (by omega)]; rfl
  have := lp_ind (f := m_triviumref21_Same_l1 l l) (fun i => (i : Int)) l.length (some true) h (lp_done (by
    have e1 : decide (((l.length : Nat) : Int) < ((l.length : Nat) : Int)) = false := decide_eq_false (by omega)
    simp only [m_triviumref21_Same_l1, e1, Bool.false_eq_true, if_false]))
  exact this
theorem pAll_len (e : Int) : ∀ (k : Nat) (l : List Tok) (fo : Int) (acc : List D_api_Query), l.length ≤ k → (pAll e k l fo acc).1.length ≤ acc.length + l.length
  | k, [], fo, acc, hk => by unfold pAll; split <;> simp
  | 0, t :: r, fo, acc, hk => by simp at hk
  | k + 1, t :: r, fo, acc, hk => by
    unfold pAll
    cases hp : pQuery e fo (t :: r) with
    | error b => simp
    | ok v =>
      obtain ⟨q, r', fo'⟩ := v
      obtain ⟨n, hn0, hn1, hn⟩ := pQuery_len hp
      have hlen : r'.length + n = (t :: r).length := by rw [hn, List.length_drop]; omega
      have := pAll_len e k r' fo' (acc ++ [q]) (by omega)
      dsimp only
      simp at this hlen ⊢
      omega
theorem askV_len (l : List UInt8) (hl : l.length ≤ 1000000) : (askV l).1.length ≤ 1000000 := by
  obtain ⟨h1, h2, h3⟩ := allV_toks l hl
  unfold askV
  split
  · have := pAll_len (allV l).2.1 (allV l).1.length (allV l).1 0 [] (Nat.le_refl _)
    simp at this; omega
  · simp
def askEx : List UInt8 := [112, 114, 111, 98, 32, 97, 32, 114, 32, 49, 48, 46, 48, 46, 48, 46, 49, 59]
theorem askEx_eq : askV askEx = ([(1, bs [97], bs [], bs [114], 167772161, (0, 0), 0)], 0, 0) := by kernel_rfl
theorem works21 : m_triviumlaw21_works = some true := by
  unfold m_triviumlaw21_works
  rw [show (bs [112, 114, 111, 98, 32, 97, 32, 114, 32, 49, 48, 46, 48, 46, 48, 46, 49, 59]) = bs askEx from rfl, askRead_eq askEx (by decide), bd_some, askEx_eq]
  rw [if_pos (by rfl), if_pos (by rfl), if_pos (by rfl)]
  show bd (rd [_] 0) _ = _
  rw [rd0, bd_some, lt_eq]
  simp [sq_refl]
theorem cs_min (b : ByteArray) (m : Nat) : cs b 0 (min (b.size : Int) (m : Int)) = some (bs (b.data.toList.take m)) := by
  have h := cs_bs b.data.toList 0 (min b.data.toList.length m) (by omega) (by omega)
  rw [show bs b.data.toList = b from rfl, List.drop_zero] at h
  have e1 : ((min b.data.toList.length m : Nat) : Int) = min (b.size : Int) (m : Int) := by
    rw [size_list]; omega
  rw [show ((0 : Nat) : Int) = 0 from rfl, e1] at h
  rw [h]
  congr 2
  by_cases hle : b.data.toList.length ≤ m
  · rw [Nat.min_eq_left hle, List.take_length, List.take_of_length_le hle]
  · rw [Nat.min_eq_right (by omega)]
theorem askreadReads_plain (s : ByteArray) : m_triviumlaw21_AskreadReads s = some true := by
  have hl : (s.data.toList.take 1500).length ≤ 1000000 := by rw [List.length_take]; omega
  unfold m_triviumlaw21_AskreadReads
  rw [show (1500 : Int) = ((1500 : Nat) : Int) from rfl, cs_min s 1500, bd_some, askRead_eq _ hl, bd_some, refRead_eq _ hl, bd_some, if_pos (decide_eq_true rfl), if_pos (decide_eq_true rfl), askSame_eq _ (by have := askV_len _ hl; omega), bd_some, if_pos rfl, works21, bd_some]
end Go.Proofs.YtboghejfmmigkaaGreatDoor.AP
/- AskreadReads: the plain law, of all that may be handed in. -/
namespace Go.Proofs.YtboghejfmmigkaaGreatDoor.Pure
open Go Go.Proofs.YtboghejfmmigkaaGreatDoor.AP Go.Proofs.YtboghejfmmigkaaGreatDoor.AE
theorem AskreadReads (y0 : ByteArray) (h0 : Ty.ok .str y0) : m_triviumlaw21_AskreadReads y0 = some true := askreadReads_plain y0
end Go.Proofs.YtboghejfmmigkaaGreatDoor.Pure
/- The law AskreadReads holds of every input: the row, and its card. -/
namespace Go.Proofs.YtboghejfmmigkaaGreatDoor.askreadReads
open Go.ChangeShapes Go.WideShapes Go.ChangeAt Go.RowKit
set_option linter.unusedVariables false
theorem own : ownKnob Tryz.prog.godebug = none := by kernel_rfl
theorem laidOut : laidOutB Tryz.prog = true := by kernel_rfl
theorem table {W : World} (h : laidMet Tryz.prog Rows.askreadReadsRow.laid W) : AE.Glo W := trivial
set_option maxRecDepth 100000 in
theorem lifted (os : Os) (started : os.Started) (H : Type) (enc : TypeId × Value → H) :
    ReturnsInHanded {} Tryz.checked os 3 .any (fun w args => (Rows.askreadReadsSpec.pre enc Tryz.prog Tryz.f3 [] false w args ∧ laidMetH Tryz.prog Rows.askreadReadsRow.laid w) ∧ sizedMet enc Tryz.prog Tryz.f3 (OpenSpec.ofChange Rows.askreadReadsSpec) false w args)
      (Rows.askreadReadsSpec.post enc Tryz.prog Tryz.f3 false true false false) := by
  refine returnsInHanded_of_change_and (C := Tryz.checked) (X := fun w _ => laidMetH Tryz.prog Rows.askreadReadsRow.laid w) (fun _ _ _ hh h => h.of_heap hh) own started (by kernel_rfl) Tryz.func3
    (ChangeSpec.witness_shaped (enc := enc) (C := Tryz.checked) (os := os) (X := fun w _ => laidMetH Tryz.prog Rows.askreadReadsRow.laid w) false (World.laidAll Tryz.prog os Rows.askreadReadsRow.laid) #[.string ByteArray.empty] 8 (World.laidAll_os _ _ _)
      (World.shaped_of_ZipB (by kernel_rfl) (by kernel_rfl)) (by kernel_rfl) (by kernel_rfl) (by kernel_rfl)
      (by rw [MakeChecks.laidMetH_plain _ _ _ (by kernel_rfl)]; exact laidMet_laidAll _ (by kernel_rfl) (by kernel_rfl))) ?_
  intro W base args ds gs before hval0 hW _ hsz0 hL0 _
  have hL : laidMet Tryz.prog Rows.askreadReadsRow.laid W := by rw [MakeChecks.laidMetH_plain _ _ _ (by kernel_rfl)] at hL0; exact hL0
  clear hsz0
  have hval : ∀ (j : Nat) t v, Tryz.f3.params[j]? = some t → args[j]? = some v → Value.okWide Tryz.prog W .any base t v := hval0
  have hW' := hW
  obtain ⟨p, q, hA0, hV, rfl, hfz, hnd⟩ := hW
  have hA : DataW.TrodAll enc Tryz.prog W 0 (fun _ => true) true Tryz.f3.params.toList args.toList ds p := hA0
  rw [Tryz.params3] at hA hval
  obtain ⟨v0, vs0, d0, ds0, p0, q0, hargs, rfl, rfl, h0, r0⟩ := trodAll_cons hA
  obtain ⟨rfl, rfl, rfl⟩ := trodAll_nil r0
  obtain rfl : args = #[v0] := by cases args; simp_all
  obtain ⟨rfl, rfl⟩ := trodVars_none hV
  have lt0 : ∀ x ∈ p0, x.block < W.heap.size := by obtain ⟨m, hm⟩ := h0; exact DataW.trod_lt m _ _ _ hm
  obtain ⟨a0, o0, e0⟩ := AE.open_v (t := .str) ⟨40, by kernel_rfl⟩ (hval 0 9 v0 rfl rfl) h0
  clear hA0 hval0
  have h := Pure.AskreadReads a0 o0
  have C := AE.law_calls (table hL) (AE.k_triviumlaw21_AskreadReads h) (W := W) (args := [v0]) ⟨v0, [], rfl, e0, rfl⟩
  refine C.mono fun e W' ⟨he, bel⟩ => ?_
  subst he
  exact ⟨_, rfl, _, _, _, [], _, [], hW', trodAll_mk1 (shut_bool Tryz.underlying4 _), (trodAll_cons_mk (Below.trod laidOut (by kernel_rfl) (of_decide_eq_true (by kernel_rfl)) h0 bel lt0) trodAll_mk0), rfl, bel.frame _, fun h => by cases h⟩
theorem over : Rows.askreadReadsRow.holds Tryz.pinned (OpenSpec.ofChange Rows.askreadReadsSpec) :=
  OpenClaim.holds_of_wide 3 Tryz.f3 rfl rfl rfl rfl rfl rfl rfl ⟨rfl, rfl, rfl, rfl, rfl⟩ rfl rfl rfl rfl rfl (by kernel_rfl) Tryz.func3 (by kernel_rfl)
    (of_decide_eq_true (by kernel_rfl)) (by unfold Func.isWrapper; first | (rw [if_pos (by decide +kernel)]; kernel_rfl) | (rw [if_neg (by decide +kernel)]; exact ⟨rfl, rfl⟩))
    (fun os started H enc _ => lifted os started H enc)
theorem proved : Rows.AskreadReadsSaid := over
theorem plain (f : FuncId) (fn : Func) (hf : Tryz.pinned.checked.prog.funcNamed "trivium/triviumlaw21.AskreadReads" = some f) (hfn : Tryz.pinned.checked.prog.funcs[f]? = some fn) :
    false = Tryz.pinned.checked.prog.looks [] ∧ ∀ (j : Nat) t, fn.params[j]? = some t → Tryz.pinned.checked.prog.wantsStandIn t = false := by
  obtain rfl : f = 3 := Option.some.inj ((show Tryz.prog.funcNamed "trivium/triviumlaw21.AskreadReads" = some 3 by kernel_rfl).symm.trans hf) |>.symm
  obtain rfl : fn = Tryz.f3 := (Option.some.inj (Tryz.func3.symm.trans hfn)).symm
  exact ⟨by kernel_rfl, fun j t ht => by
    rw [Tryz.params3] at ht
    have hm : t ∈ [9] := by simpa using Array.mem_of_getElem? ht
    have hall : ([9].all fun u => !Tryz.prog.wantsStandIn u) = true := by kernel_rfl
    exact (show Tryz.prog.wantsStandIn t = false by simpa using List.all_eq_true.1 hall t hm)⟩
theorem card : Rows.AskreadReadsCardSaid :=
  Claim7.holds_tied_plain_at .later [] _ _ _ _ proved (fun _ h => by cases h) (by kernel_rfl) (fun _ h => by cases h) askreadReads_row_tie rfl ⟨rfl, rfl⟩ (by kernel_rfl) rfl plain (by kernel_rfl)
#print axioms card
end Go.Proofs.YtboghejfmmigkaaGreatDoor.askreadReads
namespace Go.Proofs.YtboghejfmmigkaaGreatDoor
/-- The statement, under a short name, for the claim. -/
theorem askreadReads_holds : Rows.AskreadReadsCardSaid := askreadReads.card
end Go.Proofs.YtboghejfmmigkaaGreatDoor
