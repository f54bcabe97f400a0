/- The law ReportLines holds of every input: the row, and its card. -/
import Derived.Test.YtkjkipkfndckfaaGreatDoorQRL5
import Derived.Test.YtkjkipkfndckfaaGreatDoorQRL3
import Derived.Test.YtkjkipkfndckfaaGreatDoorCards
import Derived.Test.YtkjkipkfndckfaaGreatDoorTie
import Derived.Test.YtkjkipkfndckfaaGreatDoorQRL4
import Derived.WalkKit
import Derived.ProofKit
import Derived.OpenShut
import Derived.ShutString
import Derived.ChangeOld
import Derived.Below
import Derived.Lib.SmallJoins
import Derived.Lay
import Derived.SevenTiedAt
import Derived.Lib.LaidTab
import Derived.Lib.LaidU8
import Derived.Stop.LaidErr
import Derived.LaidMore
/- Queries' texts, by both. -/
namespace Go.Proofs.YtkjkipkfndckfaaGreatDoor.AP
open Go
set_option linter.unusedVariables false
set_option linter.unusedSimpArgs false
/-- a query's text -/
def qyL (k : Int) (N O F : List UInt8) (d : Int) (p : D_api_Prefix) (K : Int) : List UInt8 :=
  if k = 1 then Lib.join [[112, 114, 111, 98], N, F, prL d] [32] ++ [59]
  else if k = 2 then Lib.join [[104, 111, 112, 115], N, F, prL d] [32] ++ [59]
  else if k = 3 then Lib.join [[119, 105, 116, 104, 105, 110], N, F, prL d, Lib.itoa K] [32] ++ [59]
  else if k = 4 then Lib.join [[99, 111, 109, 112, 97, 114, 101], N, O, F, txL p] [32] ++ [59]
  else []
section
variable (k : Int) (N O F : List UInt8) (d : Int) (p : D_api_Prefix) (K : Int) (hN : N.length ≤ 1000) (hO : O.length ≤ 1000) (hF : F.length ≤ 1000) (hd0 : 0 ≤ d) (hd1 : d < 4294967296) (hp0 : 0 ≤ p.1) (hp1 : p.1 < 4294967296) (hK0 : -9223372036854775807 ≤ K) (hK1 : K ≤ 9223372036854775807)
include hN hO hF hd0 hd1 hp0 hp1 hK0 hK1
theorem qyL_len : (qyL k N O F d p K).length ≤ 6000 := by
  have l1 := prL_len d hd0 hd1
  have l2 := txL_len p hp0 hp1
  have l3 := itoa_len K (by omega) hK1
  unfold qyL
  split
  · simp only [join2, Lib.join_one, List.length_append, List.length_cons, List.length_nil]; omega
  split
  · simp only [join2, Lib.join_one, List.length_append, List.length_cons, List.length_nil]; omega
  split
  · simp only [join2, Lib.join_one, List.length_append, List.length_cons, List.length_nil]; omega
  split
  · simp only [join2, Lib.join_one, List.length_append, List.length_cons, List.length_nil]; omega
  · simp
theorem query_eq : m_canon_Query (k, bs N, bs O, bs F, d, p, K) = some (bs (qyL k N O F d p K)) := by
  have l1 := prL_len d hd0 hd1
  have l2 := txL_len p hp0 hp1
  have l3 := itoa_len K (by omega) hK1
  have e1 := print_eq d hd0 hd1
  have e2 : m_addr_Text (p.1, p.2) = some (bs (txL p)) := text_eq p hp0 hp1
  have e3 := itoa_bs K (by omega) hK1
  have w1 := words_bs [[112, 114, 111, 98], N, F, prL d] (by simp) (by simp; omega)
  have w2 := words_bs [[104, 111, 112, 115], N, F, prL d] (by simp) (by simp; omega)
  have w3 := words_bs [[119, 105, 116, 104, 105, 110], N, F, prL d, Lib.itoa K] (by simp) (by simp; omega)
  have w4 := words_bs [[99, 111, 109, 112, 97, 114, 101], N, O, F, txL p] (by simp) (by simp; omega)
  simp only [List.map_cons, List.map_nil] at w1 w2 w3 w4
  have c1 := cat_bs (a := Lib.join [[112, 114, 111, 98], N, F, prL d] [32]) (b := [59]) (by simp only [join2, Lib.join_one, List.length_append, List.length_cons, List.length_nil]; omega)
  have c2 := cat_bs (a := Lib.join [[104, 111, 112, 115], N, F, prL d] [32]) (b := [59]) (by simp only [join2, Lib.join_one, List.length_append, List.length_cons, List.length_nil]; omega)
  have c3 := cat_bs (a := Lib.join [[119, 105, 116, 104, 105, 110], N, F, prL d, Lib.itoa K] [32]) (b := [59]) (by simp only [join2, Lib.join_one, List.length_append, List.length_cons, List.length_nil]; omega)
  have c4 := cat_bs (a := Lib.join [[99, 111, 109, 112, 97, 114, 101], N, O, F, txL p] [32]) (b := [59]) (by simp only [join2, Lib.join_one, List.length_append, List.length_cons, List.length_nil]; omega)
  unfold m_canon_Query qyL
  simp only [e1, bd_some]
  by_cases h1 : k = 1
  · simp only [h1, decide_true, if_true, w1, bd_some, c1]
  by_cases h2 : k = 2
  · simp only [h2, decide_true, if_true, w2, bd_some, c2]
    rfl
  by_cases h3 : k = 3
  · simp only [h3, decide_true, if_true, w3, bd_some, c3, e3]
    rfl
  by_cases h4 : k = 4
  · simp only [h4, decide_true, if_true, w4, bd_some, c4, e2]
    rfl
  · simp only [decide_eq_false h1, decide_eq_false h2, decide_eq_false h3, decide_eq_false h4, if_neg h1, if_neg h2, if_neg h3, if_neg h4]
    rfl
theorem refQuery_eq : m_triviumref22_Query (k, bs N, bs O, bs F, d, p, K) = some (bs (qyL k N O F d p K)) := by
  have l1 := prL_len d hd0 hd1
  have l2 := txL_len p hp0 hp1
  have l3 := itoa_len K (by omega) hK1
  have e1 := refPrint_eq d hd0 hd1
  have e2 : m_triviumref18_Text (p.1, p.2) = some (bs (txL p)) := refText_eq p hp0 hp1
  have e3 := baseItoa K hK0 hK1
  unfold m_triviumref22_Query qyL
  simp only [e1, e2, e3]
  generalize prL d = D at *
  generalize txL p = T at *
  generalize Lib.itoa K = I at *
  simp (disch := (simp only [List.length_append, List.length_cons, List.length_nil]; omega)) only [cat_bs, bd_some]
  by_cases h1 : k = 1
  · simp [h1, join2, Lib.join_one, List.append_assoc]
  by_cases h2 : k = 2
  · simp [h2, join2, Lib.join_one, List.append_assoc]
  by_cases h3 : k = 3
  · simp [h3, join2, Lib.join_one, List.append_assoc]
  by_cases h4 : k = 4
  · simp [h4, join2, Lib.join_one, List.append_assoc]
  · simp [h1, h2, h3, h4]
end
/-- a query that may be written -/
def Qok (q : D_api_Query) : Prop := q.2.1.size ≤ 1000 ∧ q.2.2.1.size ≤ 1000 ∧ q.2.2.2.1.size ≤ 1000 ∧ (0 ≤ q.2.2.2.2.1 ∧ q.2.2.2.2.1 < 4294967296) ∧ (0 ≤ q.2.2.2.2.2.1.1 ∧ q.2.2.2.2.2.1.1 < 4294967296) ∧ (-9223372036854775807 ≤ q.2.2.2.2.2.2 ∧ q.2.2.2.2.2.2 ≤ 9223372036854775807)
def qL (q : D_api_Query) : List UInt8 := qyL q.1 q.2.1.data.toList q.2.2.1.data.toList q.2.2.2.1.data.toList q.2.2.2.2.1 q.2.2.2.2.2.1 q.2.2.2.2.2.2
theorem qL_len {q : D_api_Query} (h : Qok q) : (qL q).length ≤ 6000 := qyL_len _ _ _ _ _ _ _ h.1 h.2.1 h.2.2.1 h.2.2.2.1.1 h.2.2.2.1.2 h.2.2.2.2.1.1 h.2.2.2.2.1.2 h.2.2.2.2.2.1 h.2.2.2.2.2.2
theorem qL_eq {q : D_api_Query} (h : Qok q) : m_canon_Query q = some (bs (qL q)) := query_eq _ _ _ _ _ _ _ h.1 h.2.1 h.2.2.1 h.2.2.2.1.1 h.2.2.2.1.2 h.2.2.2.2.1.1 h.2.2.2.2.1.2 h.2.2.2.2.2.1 h.2.2.2.2.2.2
theorem qL_ref {q : D_api_Query} (h : Qok q) : m_triviumref22_Query q = some (bs (qL q)) := refQuery_eq _ _ _ _ _ _ _ h.1 h.2.1 h.2.2.1 h.2.2.2.1.1 h.2.2.2.1.2 h.2.2.2.2.1.1 h.2.2.2.2.1.2 h.2.2.2.2.2.1 h.2.2.2.2.2.2
/-- queries' text -/
def qsL (l : List D_api_Query) : List UInt8 := (l.map fun q => qL q ++ [10]).flatten
end Go.Proofs.YtkjkipkfndckfaaGreatDoor.AP
/- Queries that are cleaned may be written; the law of their texts. -/
namespace Go.Proofs.YtkjkipkfndckfaaGreatDoor.AP
open Go
set_option linter.unusedVariables false
set_option linter.unusedSimpArgs false
def shB (s : ByteArray) : ByteArray := s.extract 0 (min s.size 20)
theorem shB_size (s : ByteArray) : (shB s).size ≤ 20 := by
  unfold shB
  rw [ByteArray.size_extract]
  omega
theorem short_shB (s : ByteArray) : m_triviumref22_short s = some (shB s) := by
  have : cs s 0 (min (s.size : Int) 20) = some (shB s) := by
    unfold cs shB
    rw [if_pos (by omega)]
    have : (min (s.size : Int) 20).toNat = min s.size 20 := by omega
    rw [this]
    rfl
  unfold m_triviumref22_short
  rw [this]
  rfl
def cK (K : Int) : Int := if K < -1000000 then 3 else if 2147483648 < K then 3 else K
theorem cK_ok (K : Int) : -1000000 ≤ cK K ∧ cK K ≤ 2147483648 := by
  unfold cK
  split
  · omega
  · split <;> omega
def cQ (q : D_api_Query) : D_api_Query := (q.1, shB q.2.1, shB q.2.2.1, shB q.2.2.2.1, q.2.2.2.2.1, (q.2.2.2.2.2.1.1, q.2.2.2.2.2.1.2), cK q.2.2.2.2.2.2)
theorem cleanQuery_eq (q : D_api_Query) : m_triviumref22_CleanQuery q = some (cQ q) := by
  unfold m_triviumref22_CleanQuery cQ cK
  simp only [short_shB, bd_some]
  by_cases h1 : q.2.2.2.2.2.2 < -1000000
  · simp only [decide_eq_true h1, if_true, bd_some, if_pos h1]
  · by_cases h2 : 2147483648 < q.2.2.2.2.2.2
    · simp only [decide_eq_false h1, decide_eq_true h2, Bool.false_eq_true, if_false, if_true, bd_some, if_neg h1, if_pos h2]
    · simp only [decide_eq_false h1, decide_eq_false h2, Bool.false_eq_true, if_false, bd_some, if_neg h1, if_neg h2]
/-- a query whose addresses may be -/
def Qin (q : D_api_Query) : Prop := (0 ≤ q.2.2.2.2.1 ∧ q.2.2.2.2.1 < 4294967296) ∧ (0 ≤ q.2.2.2.2.2.1.1 ∧ q.2.2.2.2.2.1.1 < 4294967296)
theorem cQ_ok {q : D_api_Query} (h : Qin q) : Qok (cQ q) := by
  have h1 := shB_size q.2.1
  have h2 := shB_size q.2.2.1
  have h3 := shB_size q.2.2.2.1
  have h4 := cK_ok q.2.2.2.2.2.2
  refine ⟨?_, ?_, ?_, h.1, h.2, ?_, ?_⟩
  · show (shB q.2.1).size ≤ 1000; omega
  · show (shB q.2.2.1).size ≤ 1000; omega
  · show (shB q.2.2.2.1).size ≤ 1000; omega
  · show -9223372036854775807 ≤ cK _; omega
  · show cK _ ≤ 9223372036854775807; omega
end Go.Proofs.YtkjkipkfndckfaaGreatDoor.AP
/- Reports: lines, by both. -/
namespace Go.Proofs.YtkjkipkfndckfaaGreatDoor.AP
open Go Go.Proofs.YtkjkipkfndckfaaGreatDoor.Tri
set_option linter.unusedVariables false
set_option linter.unusedSimpArgs false
set_option maxRecDepth 4000
/-- a verdict's words -/
def vdL (k : Int) : List UInt8 :=
  if k = 1 then [101, 113, 117, 97, 108] else if k = 2 then [65, 32, 100, 111, 109, 105, 110, 97, 116, 101, 115] else if k = 3 then [66, 32, 100, 111, 109, 105, 110, 97, 116, 101, 115] else if k = 4 then [105, 110, 99, 111, 109, 112, 97, 114, 97, 98, 108, 101] else []
theorem vdL_len (k : Int) : (vdL k).length ≤ 12 := by
  unfold vdL
  repeat' split
  all_goals decide
theorem verdict_eq (k : Int) : m_report_Verdict k = some (bs (vdL k)) := by
  unfold m_report_Verdict vdL
  by_cases h1 : k = 1
  · rw [if_pos (decide_eq_true h1), if_pos h1]
  · rw [if_neg (by simpa using h1), if_neg h1]
    by_cases h2 : k = 2
    · rw [if_pos (decide_eq_true h2), if_pos h2, lt_eq]
    · rw [if_neg (by simpa using h2), if_neg h2]
      by_cases h3 : k = 3
      · rw [if_pos (decide_eq_true h3), if_pos h3, lt_eq]
      · rw [if_neg (by simpa using h3), if_neg h3]
        by_cases h4 : k = 4
        · rw [if_pos (decide_eq_true h4), if_pos h4, lt_eq]
        · rw [if_neg (by simpa using h4), if_neg h4]
theorem refVerdict_eq (k : Int) : m_triviumref38_Verdict k = some (bs (vdL k)) := by
  unfold m_triviumref38_Verdict
  by_cases h0 : k < 0
  · rw [if_pos (decide_eq_true h0), bd_some, if_pos rfl]
    unfold vdL
    rw [if_neg (by omega), if_neg (by omega), if_neg (by omega), if_neg (by omega)]
  · rw [if_neg (by simpa using h0), bd_some]
    by_cases h4 : 4 < k
    · rw [if_pos (decide_eq_true h4)]
      unfold vdL
      rw [if_neg (by omega), if_neg (by omega), if_neg (by omega), if_neg (by omega)]
    · rw [if_neg (by simpa using h4)]
      have : k = 0 ∨ k = 1 ∨ k = 2 ∨ k = 3 ∨ k = 4 := by omega
      rcases this with rfl | rfl | rfl | rfl | rfl <;> rfl
/-- a witness's text -/
def atL (is : Bool) (d : Int) (x y : List UInt8) : List UInt8 := if is then [32, 97, 116, 32] ++ (prL d ++ 32 :: (x ++ 32 :: y)) else []
def wl (is : Bool) (d : Int) (x y : List UInt8) : List (List UInt8) := if is then [[97, 116], prL d, x, y] else []
def wA (is : Bool) (d : Int) (X Y : D_api_Rat) : D_compare_Witness := if is then (true, d, X, Y) else (false, 0, ((false, []), []), ((false, []), []))
def wB (is : Bool) (d : Int) (X Y : D_triviumref08_Q) : D_triviumref36_Witness := if is then (true, d, X, Y) else (false, 0, ((false, []), []), ((false, []), []))
theorem atL_len (is : Bool) (d : Int) (x y : List UInt8) (h0 : 0 ≤ d) (h1 : d < 4294967296) (hx : x.length ≤ 200) (hy : y.length ≤ 200) : (atL is d x y).length ≤ 600 := by
  have := prL_len d h0 h1
  unfold atL
  split
  · simp only [List.length_append, List.length_cons, List.length_nil]; omega
  · simp
theorem join_wl (V : List UInt8) (i j : Bool) (d e : Int) (x y z t : List UInt8) : Lib.join (V :: (wl i d x y ++ wl j e z t)) [32] = V ++ (atL i d x y ++ atL j e z t) := by
  cases i <;> cases j <;> simp only [wl, atL, if_true, Bool.false_eq_true, if_false, List.nil_append, List.append_nil, List.cons_append, join2, Lib.join_one, List.append_assoc]
section
variable (d e : Int) (hd0 : 0 ≤ d) (hd1 : d < 4294967296) (he0 : 0 ≤ e) (he1 : e < 4294967296) (x y z : List UInt8) (hx : x.length ≤ 200) (hy : y.length ≤ 200) (hz : z.length ≤ 200)
  (X Y Z : D_api_Rat) (pX : m_ratio_Print X = some (bs x)) (pY : m_ratio_Print Y = some (bs y)) (pZ : m_ratio_Print Z = some (bs z))
include hd0 hd1 he0 he1 hx hy hz pX pY pZ
theorem repVerdict_eq (k : Int) (f s : Bool) : m_report_verdict (k, wA f d X Y, wA s e Y Z) = some (bs (vdL k ++ (atL f d x y ++ atL s e y z))) := by
  have step : ∀ (i : Int) (w : D_compare_Witness) (is : Bool) (g : Int) (U W : D_api_Rat) (u v : List UInt8) (l : List (List UInt8)), (i = 0 ∨ i = 1) → rd [wA f d X Y, wA s e Y Z] i = some (wA is g U W) → 0 ≤ g → g < 4294967296 → m_ratio_Print U = some (bs u) → m_ratio_Print W = some (bs v) → l.length ≤ 100 →
      m_report_verdict_l1 (k, wA f d X Y, wA s e Y Z) (i, l.map bs) = some (.inl (i + 1, (l ++ wl is g u v).map bs)) := by
    intro i w is g U W u v l hi hr g0 g1 hU hW hl
    unfold m_report_verdict_l1
    show (if decide (i < 2) = true then bd (bd (rd [wA f d X Y, wA s e Y Z] i) fun x8 => if x8.1 = true then bd (m_addr_Print x8.2.1) fun x11 => bd (m_ratio_Print x8.2.2.1) fun x13 => bd (m_ratio_Print x8.2.2.2) fun x15 => bd (ap 16 (l.map bs) [bs [97, 116], x11, x13, x15]) fun x17 => some x17 else some (l.map bs)) (fun v7 => some (Sum.inl (wi64 (i + 1), v7))) else some (Sum.inr (l.map bs))) = _
    rw [if_pos (decide_eq_true (by omega)), hr, bd_some]
    have e1 : wi64 (i + 1) = i + 1 := wi64_eq (by omega) (by omega)
    cases is with
    | true =>
      show bd (if true = true then bd (m_addr_Print g) fun x11 => bd (m_ratio_Print U) fun x13 => bd (m_ratio_Print W) fun x15 => bd (ap 16 (l.map bs) [bs [97, 116], x11, x13, x15]) fun x17 => some x17 else some (l.map bs)) _ = _
      rw [if_pos rfl, print_eq g g0 g1, bd_some, hU, bd_some, hW, bd_some, ap_of (by rw [List.length_map]; simp; omega), bd_some, bd_some, e1]
      show some (Sum.inl (i + 1, List.map bs l ++ [bs [97, 116], bs (prL g), bs u, bs v])) = _
      unfold wl
      rw [if_pos rfl, List.map_append]; rfl
    | false =>
      show bd (if false = true then _ else some (l.map bs)) _ = _
      rw [if_neg (by decide), bd_some, e1]
      unfold wl
      rw [if_neg (by decide), List.append_nil]
  have s0 := step 0 (wA f d X Y) f d X Y x y [vdL k] (.inl rfl) rfl hd0 hd1 pX pY (by simp)
  have s1 := step 1 (wA s e Y Z) s e Y Z y z ([vdL k] ++ wl f d x y) (.inr rfl) rfl he0 he1 pY pZ (by unfold wl; split <;> simp)
  have l0 := vdL_len k
  have l1 := atL_len f d x y hd0 hd1 hx hy
  have l2 := atL_len s e y z he0 he1 hy hz
  unfold m_report_verdict
  show bd (m_report_Verdict k) _ = _
  rw [verdict_eq, bd_some]
  have run : lp (m_report_verdict_l1 (k, wA f d X Y, wA s e Y Z)) (0, [bs (vdL k)]) = some ((vdL k :: (wl f d x y ++ wl s e y z)).map bs) := by
    have s0' : m_report_verdict_l1 (k, wA f d X Y, wA s e Y Z) (0, [bs (vdL k)]) = some (.inl (1, ([vdL k] ++ wl f d x y).map bs)) := s0
    have s1' : m_report_verdict_l1 (k, wA f d X Y, wA s e Y Z) (1, ([vdL k] ++ wl f d x y).map bs) = some (.inl (2, ([vdL k] ++ wl f d x y ++ wl s e y z).map bs)) := s1
    rw [lp_more s0', lp_more s1', lp_done (x := ([vdL k] ++ wl f d x y ++ wl s e y z).map bs) (by unfold m_report_verdict_l1; show (if decide ((2 : Int) < 2) = true then _ else some (Sum.inr _)) = _; rw [if_neg (by decide)])]
    simp
  rw [run, bd_some]
  unfold m_report_Words
  have hj := join_wl (vdL k) f s d e x y y z
  have hlen : (vdL k :: (wl f d x y ++ wl s e y z)).length ≤ 140737488355328 := by
    unfold wl
    split <;> split <;> simp
  rw [join_bs _ [32] hlen (by rw [hj]; simp only [List.length_append]; omega), bd_some, bd_some, hj]
end
/-- an answer's text -/
def tdL (k vk : Int) (is f s : Bool) (d e : Int) (x y z : List UInt8) : List UInt8 :=
  if k = 1 then [100, 101, 108, 105, 118, 101, 114, 32] ++ (x ++ ([32, 100, 114, 111, 112, 32] ++ (y ++ ([32, 108, 111, 111, 112, 32] ++ z))))
  else if k = 2 then (if is then x else [117, 110, 100, 101, 102, 105, 110, 101, 100])
  else if k = 3 then y
  else if k = 4 then vdL vk ++ (atL f d x y ++ atL s e y z) else []
def isT (k : Int) : Bool := decide (k = 1) || decide (k = 2) || decide (k = 3) || decide (k = 4)
theorem told1_eq (x y z : List UInt8) (hx : x.length ≤ 200) (hy : y.length ≤ 200) (hz : z.length ≤ 200) (X Y Z : D_api_Rat) (pX : m_ratio_Print X = some (bs x)) (pY : m_ratio_Print Y = some (bs y)) (pZ : m_ratio_Print Z = some (bs z)) (M : D_hops_Mean) (W : D_api_Rat) (V : D_compare_Verdict) :
    m_report_told (1, (X, Y, Z), M, W, V) = some (bs ([100, 101, 108, 105, 118, 101, 114, 32] ++ (x ++ ([32, 100, 114, 111, 112, 32] ++ (y ++ ([32, 108, 111, 111, 112, 32] ++ z))))), true) := by
  have hj : Lib.join [[100, 101, 108, 105, 118, 101, 114], x, [100, 114, 111, 112], y, [108, 111, 111, 112], z] [32] = [100, 101, 108, 105, 118, 101, 114, 32] ++ (x ++ ([32, 100, 114, 111, 112, 32] ++ (y ++ ([32, 108, 111, 111, 112, 32] ++ z)))) := by
    simp only [join2, Lib.join_one, List.append_assoc, List.cons_append, List.nil_append]
  have hw : m_report_Words [bs [100, 101, 108, 105, 118, 101, 114], bs x, bs [100, 114, 111, 112], bs y, bs [108, 111, 111, 112], bs z] = some (bs ([100, 101, 108, 105, 118, 101, 114, 32] ++ (x ++ ([32, 100, 114, 111, 112, 32] ++ (y ++ ([32, 108, 111, 111, 112, 32] ++ z)))))) := by
    unfold m_report_Words
    have := join_bs [[100, 101, 108, 105, 118, 101, 114], x, [100, 114, 111, 112], y, [108, 111, 111, 112], z] [32] (by simp) (by rw [hj]; simp only [List.length_append, List.length_cons, List.length_nil]; omega)
    rw [hj] at this
    rw [show [bs [100, 101, 108, 105, 118, 101, 114], bs x, bs [100, 114, 111, 112], bs y, bs [108, 111, 111, 112], bs z] = [[100, 101, 108, 105, 118, 101, 114], x, [100, 114, 111, 112], y, [108, 111, 111, 112], z].map bs from rfl, this, bd_some]
  unfold m_report_told
  show (if decide ((1 : Int) = 1) = true then bd (m_ratio_Print X) (fun x2 => bd (m_ratio_Print Y) fun x4 => bd (m_ratio_Print Z) _) else _) = _
  rw [if_pos (by decide), pX, bd_some, pY, bd_some, pZ, bd_some, hw, bd_some]
section
variable (d e : Int) (hd0 : 0 ≤ d) (hd1 : d < 4294967296) (he0 : 0 ≤ e) (he1 : e < 4294967296) (x y z : List UInt8) (hx : x.length ≤ 200) (hy : y.length ≤ 200) (hz : z.length ≤ 200)
include hd0 hd1 he0 he1 hx hy hz
theorem tdL_len (k vk : Int) (is f s : Bool) : (tdL k vk is f s d e x y z).length ≤ 1500 := by
  have l0 := vdL_len vk
  have l1 := atL_len f d x y hd0 hd1 hx hy
  have l2 := atL_len s e y z he0 he1 hy hz
  unfold tdL
  repeat' split
  all_goals first
    | (simp only [List.length_append, List.length_cons, List.length_nil]; omega)
    | omega
theorem told_eq (X Y Z : D_api_Rat) (pX : m_ratio_Print X = some (bs x)) (pY : m_ratio_Print Y = some (bs y)) (pZ : m_ratio_Print Z = some (bs z)) (k vk : Int) (is f s : Bool) :
    m_report_told (k, (X, Y, Z), (is, X), Y, (vk, wA f d X Y, wA s e Y Z)) = some (bs (tdL k vk is f s d e x y z), isT k) := by
  by_cases h1 : k = 1
  · subst h1
    rw [told1_eq x y z hx hy hz X Y Z pX pY pZ]
    unfold tdL
    rw [if_pos rfl]; rfl
  · have rv := repVerdict_eq d e hd0 hd1 he0 he1 x y z hx hy hz X Y Z pX pY pZ vk f s
    unfold m_report_told tdL isT
    rw [if_neg (by simpa using h1), if_neg h1, decide_eq_false h1]
    by_cases h2 : k = 2
    · rw [if_pos (decide_eq_true h2), if_pos h2, decide_eq_true h2]
      cases is with
      | true =>
        show (if (!true) = true then _ else bd (m_ratio_Print X) _) = _
        rw [if_neg (by decide), pX, bd_some, if_pos rfl]; rfl
      | false => rfl
    · rw [if_neg (by simpa using h2), if_neg h2, decide_eq_false h2]
      by_cases h3 : k = 3
      · rw [if_pos (decide_eq_true h3), if_pos h3, decide_eq_true h3]
        show bd (m_ratio_Print Y) _ = _
        rw [pY, bd_some]; rfl
      · rw [if_neg (by simpa using h3), if_neg h3, decide_eq_false h3]
        by_cases h4 : k = 4
        · rw [if_pos (decide_eq_true h4), if_pos h4, decide_eq_true h4]
          show bd (m_report_verdict (vk, wA f d X Y, wA s e Y Z)) _ = _
          rw [rv, bd_some]; rfl
        · rw [if_neg (by simpa using h4), if_neg h4, decide_eq_false h4]; rfl
end
/-! a query's text, but for its end -/
theorem qyL_end (k : Int) (N O F : List UInt8) (d : Int) (p : D_api_Prefix) (K : Int) : qyL k N O F d p K = [] ∨ ∃ r, qyL k N O F d p K = r ++ [59] := by
  unfold qyL
  repeat' split
  · exact .inr ⟨_, rfl⟩
  · exact .inr ⟨_, rfl⟩
  · exact .inr ⟨_, rfl⟩
  · exact .inr ⟨_, rfl⟩
  · exact .inl rfl
theorem trim59 (l : List UInt8) (hl : l.length ≤ 1000000) (h : l = [] ∨ ∃ r, l = r ++ [59]) : m_strings_TrimSuffix (bs l) (bs [59]) = some (bs l.dropLast) := by
  unfold m_strings_TrimSuffix m_internal_stringslite_TrimSuffix m_internal_stringslite_HasSuffix
  rcases h with rfl | ⟨r, rfl⟩
  · rfl
  · have hlen : (r ++ [59]).length = r.length + 1 := by simp
    have e0 : wi64 ((((bs (r ++ [59])).size : Nat) : Int) - (((bs [59]).size : Nat) : Int)) = ((r.length : Nat) : Int) := by
      rw [bs_size, bs_size, hlen]
      show wi64 (((r.length + 1 : Nat) : Int) - 1) = _
      rw [wi64_eq (by omega) (by omega)]; omega
    have e1 : cs (bs (r ++ [59])) ((r.length : Nat) : Int) (((bs (r ++ [59])).size : Nat) : Int) = some (bs [59]) := by
      have := cs_bs (r ++ [59]) r.length (r ++ [59]).length (by simp) (Nat.le_refl _)
      rw [List.take_length, List.drop_left' rfl] at this
      exact this
    have e2 : cs (bs (r ++ [59])) 0 ((r.length : Nat) : Int) = some (bs r) := by
      have := cs_bs (r ++ [59]) 0 r.length (by omega) (by simp)
      rw [List.drop_zero, List.take_left' rfl] at this
      exact this
    rw [e0, if_pos (decide_eq_true (by rw [bs_size, bs_size, hlen]; simp only [List.length_cons, List.length_nil]; omega)), e1, bd_some, bd_some, sq_self, if_pos rfl, e2, bd_some, bd_some, List.dropLast_concat]
theorem line_of (q : D_api_Query) (A : D_engine_Answer) (td : List UInt8) (hq : Qok q) (ht : td.length ≤ 2000) (h : m_report_told A = some (bs td, true)) : m_report_Line q A = some (bs ((qL q).dropLast ++ ([58, 32] ++ td))) := by
  have hl := qL_len hq
  have hdl : (qL q).dropLast.length ≤ 6000 := by rw [List.length_dropLast]; omega
  have ht2 := trim59 (qL q) (by omega) (qyL_end _ _ _ _ _ _ _)
  have hj : Lib.join [(qL q).dropLast ++ [58], td] [32] = (qL q).dropLast ++ ([58, 32] ++ td) := by
    simp only [join2, Lib.join_one, List.append_assoc, List.cons_append, List.nil_append]
  unfold m_report_Line
  show bd (m_report_told A) (fun x1 => if (!x1.2) = true then some (bs []) else bd (m_canon_Query q) _) = _
  rw [h, bd_some]
  dsimp only
  rw [if_neg (by decide), qL_eq hq, bd_some, ht2, bd_some, cat_bs (by simp only [List.length_cons, List.length_nil]; omega), bd_some]
  unfold m_report_Words
  have := join_bs [(qL q).dropLast ++ [58], td] [32] (by simp) (by rw [hj]; simp only [List.length_append, List.length_cons, List.length_nil]; omega)
  rw [hj] at this
  rw [show [bs ((qL q).dropLast ++ [58]), bs td] = [(qL q).dropLast ++ [58], td].map bs from rfl, this, bd_some, bd_some]
theorem line_none (q : D_api_Query) (A : D_engine_Answer) (s : ByteArray) (h : m_report_told A = some (s, false)) : m_report_Line q A = some (bs []) := by
  unfold m_report_Line
  show bd (m_report_told A) _ = _
  rw [h, bd_some]
  rfl
end Go.Proofs.YtkjkipkfndckfaaGreatDoor.AP
/- Reports: the document's lines; the chapter's example; the plain law. -/
namespace Go.Proofs.YtkjkipkfndckfaaGreatDoor.AP
open Go Go.Proofs.YtkjkipkfndckfaaGreatDoor.Tri
set_option linter.unusedVariables false
set_option linter.unusedSimpArgs false
set_option maxRecDepth 4000
theorem refAt_eq (is : Bool) (d : Int) (hd0 : 0 ≤ d) (hd1 : d < 4294967296) (x y : List UInt8) (hx : x.length ≤ 200) (hy : y.length ≤ 200) (X Y : D_triviumref08_Q) (pX : m_triviumref09_Print X = some (bs x)) (pY : m_triviumref09_Print Y = some (bs y)) :
    m_triviumref38_at (wB is d X Y) = some (bs (atL is d x y)) := by
  have l1 := prL_len d hd0 hd1
  cases is with
  | false => rfl
  | true =>
    unfold m_triviumref38_at
    show (if (!true) = true then _ else bd (m_triviumref18_Print d) fun x2 => bd (cat (bs [32, 97, 116, 32]) x2) fun x4 => bd (cat x4 (bs [32])) fun x6 => bd (m_triviumref09_Print X) fun x8 => bd (cat x6 x8) fun x10 => bd (cat x10 (bs [32])) fun x12 => bd (m_triviumref09_Print Y) fun x14 => bd (cat x12 x14) fun x16 => some x16) = _
    rw [if_neg (by decide), refPrint_eq d hd0 hd1, bd_some]
    rw [cat_bs (by simp only [List.length_cons, List.length_nil]; omega), bd_some, cat_bs (by simp only [List.length_append, List.length_cons, List.length_nil]; omega), bd_some, pX, bd_some, cat_bs (by simp only [List.length_append, List.length_cons, List.length_nil]; omega), bd_some, cat_bs (by simp only [List.length_append, List.length_cons, List.length_nil]; omega), bd_some, pY, bd_some, cat_bs (by simp only [List.length_append, List.length_cons, List.length_nil]; omega), bd_some]
    unfold atL
    rw [if_pos rfl]
    simp only [List.append_assoc, List.cons_append, List.nil_append]
section
variable (d e : Int) (hd0 : 0 ≤ d) (hd1 : d < 4294967296) (he0 : 0 ≤ e) (he1 : e < 4294967296) (x y z : List UInt8) (hx : x.length ≤ 200) (hy : y.length ≤ 200) (hz : z.length ≤ 200)
include hd0 hd1 he0 he1 hx hy hz
theorem refLine_eq (q : D_api_Query) (hq : Qok q) (X Y Z : D_triviumref08_Q) (pX : m_triviumref09_Print X = some (bs x)) (pY : m_triviumref09_Print Y = some (bs y)) (pZ : m_triviumref09_Print Z = some (bs z)) (k vk : Int) (is f s : Bool) :
    m_triviumref38_Line q (k, (X, Y, Z), (is, X), Y, (vk, wB f d X Y, wB s e Y Z)) = some (bs (if isT k then (qL q).dropLast ++ ([58, 32] ++ tdL k vk is f s d e x y z) else [])) := by
  have hl := qL_len hq
  have hdl : (qL q).dropLast.length ≤ 6000 := by rw [List.length_dropLast]; omega
  have ev3 : (if decide (0 < (((bs (qL q)).size : Nat) : Int)) = true then bd (cs (bs (qL q)) 0 (wi64 ((((bs (qL q)).size : Nat) : Int) - 1))) fun x5 => some x5 else some (bs (qL q))) = some (bs (qL q).dropLast) := by
    by_cases h0 : qL q = []
    · rw [h0]; rfl
    · have hlen := List.length_pos_iff.2 h0
      have e0 : wi64 ((((bs (qL q)).size : Nat) : Int) - 1) = (((qL q).length - 1 : Nat) : Int) := by rw [bs_size, wi64_eq (by omega) (by omega)]; omega
      have e1 : cs (bs (qL q)) 0 (((qL q).length - 1 : Nat) : Int) = some (bs (qL q).dropLast) := by
        have := cs_bs (qL q) 0 ((qL q).length - 1) (by omega) (by omega)
        rw [List.drop_zero, ← List.dropLast_eq_take] at this
        exact this
      rw [if_pos (decide_eq_true (by rw [bs_size]; omega)), e0, e1, bd_some]
  have l0 := vdL_len vk
  have l1 := atL_len f d x y hd0 hd1 hx hy
  have l2 := atL_len s e y z he0 he1 hy hz
  have ra := refAt_eq f d hd0 hd1 x y hx hy X Y pX pY
  have rb := refAt_eq s e he0 he1 y z hy hz Y Z pY pZ
  unfold m_triviumref38_Line
  show bd (m_triviumref22_Query q) _ = _
  rw [qL_ref hq, bd_some, ev3, bd_some]
  generalize (qL q).dropLast = b at *
  rw [cat_bs (by simp only [List.length_cons, List.length_nil]; omega), bd_some]
  have cc : ∀ u v : List UInt8, u.length ≤ 10000 → v.length ≤ 1000 → cat (bs u) (bs v) = some (bs (u ++ v)) := fun u v hu hv => cat_bs (by omega)
  unfold tdL isT
  by_cases h1 : k = 1
  · subst h1
    show (if decide ((1 : Int) = 1) = true then bd (cat (bs (b ++ [58, 32])) (bs [100, 101, 108, 105, 118, 101, 114, 32])) fun x10 => bd (m_triviumref09_Print X) fun x12 => bd (cat x10 x12) fun x14 => bd (cat x14 (bs [32, 100, 114, 111, 112, 32])) fun x16 => bd (m_triviumref09_Print Y) fun x18 => bd (cat x16 x18) fun x20 => bd (cat x20 (bs [32, 108, 111, 111, 112, 32])) fun x22 => bd (m_triviumref09_Print Z) fun x24 => bd (cat x22 x24) fun x26 => some x26 else _) = _
    rw [if_pos (by decide), cc _ _ (by simp only [List.length_append, List.length_cons, List.length_nil]; omega) (by simp), bd_some, pX, bd_some, cc _ _ (by simp only [List.length_append, List.length_cons, List.length_nil]; omega) (by omega), bd_some, cc _ _ (by simp only [List.length_append, List.length_cons, List.length_nil]; omega) (by simp), bd_some, pY, bd_some, cc _ _ (by simp only [List.length_append, List.length_cons, List.length_nil]; omega) (by omega), bd_some, cc _ _ (by simp only [List.length_append, List.length_cons, List.length_nil]; omega) (by simp), bd_some, pZ, bd_some, cc _ _ (by simp only [List.length_append, List.length_cons, List.length_nil]; omega) (by omega), bd_some]
    simp
  · have d1 : decide (k = 1) = false := decide_eq_false h1
    by_cases h2 : k = 2
    · subst h2
      cases is with
      | true =>
        show bd (m_triviumref09_Print X) (fun x34 => bd (cat (bs (b ++ [58, 32])) x34) fun x36 => some x36) = _
        rw [pX, bd_some, cc _ _ (by simp only [List.length_append, List.length_cons, List.length_nil]; omega) (by omega), bd_some]
        simp
      | false =>
        show bd (cat (bs (b ++ [58, 32])) (bs [117, 110, 100, 101, 102, 105, 110, 101, 100])) (fun x31 => some x31) = _
        rw [cc _ _ (by simp only [List.length_append, List.length_cons, List.length_nil]; omega) (by simp), bd_some]
        simp
    · have d2 : decide (k = 2) = false := decide_eq_false h2
      by_cases h3 : k = 3
      · subst h3
        show bd (m_triviumref09_Print Y) (fun x39 => bd (cat (bs (b ++ [58, 32])) x39) fun x41 => some x41) = _
        rw [pY, bd_some, cc _ _ (by simp only [List.length_append, List.length_cons, List.length_nil]; omega) (by omega), bd_some]
        simp
      · have d3 : decide (k = 3) = false := decide_eq_false h3
        by_cases h4 : k = 4
        · subst h4
          show bd (m_triviumref38_Verdict vk) (fun x44 => bd (cat (bs (b ++ [58, 32])) x44) fun x46 => bd (m_triviumref38_at (wB f d X Y)) fun x48 => bd (cat x46 x48) fun x50 => bd (m_triviumref38_at (wB s e Y Z)) fun x52 => bd (cat x50 x52) fun x54 => some x54) = _
          rw [refVerdict_eq, bd_some, cc _ _ (by simp only [List.length_append, List.length_cons, List.length_nil]; omega) (by omega), bd_some, ra, bd_some, cc _ _ (by simp only [List.length_append, List.length_cons, List.length_nil]; omega) (by omega), bd_some, rb, bd_some, cc _ _ (by simp only [List.length_append, List.length_cons, List.length_nil]; omega) (by omega), bd_some]
          simp
        · have d4 : decide (k = 4) = false := decide_eq_false h4
          simp only [d1, d2, d3, d4, Bool.false_eq_true, if_false, Bool.or_false, bd_some]
end
/-! the law's answers -/
def rc (t : D_api_Rat) : D_api_Rat := rI (cleanN t 1) (cleanD t 1)
def qc (t : D_api_Rat) : D_triviumref08_Q := rQ (cleanN t 1) (cleanD t 1)
def rcL (t : D_api_Rat) : List UInt8 := rtL (cleanN t 1) (cleanD t 1)
theorem rc_facts (t : D_api_Rat) : m_ratio_Print (rc t) = some (bs (rcL t)) ∧ m_triviumref09_Print (qc t) = some (bs (rcL t)) ∧ (rcL t).length ≤ 200 ∧ m_triviumref08_Of (rc t) = some (qc t) := by
  have hbp := cleanD_pos t 1
  have hbl := cleanD_lt t 1 (by decide)
  have hal := cleanN_lt t 1
  have la := nl_len (x := ((cleanN t 1).natAbs : Int)) (n := 1) (by omega) hal
  have lb := nl_len (x := cleanD t 1) (n := 1) (by omega) hbl
  have za := zl_nl_len (x := ((cleanN t 1).natAbs : Int)) (by omega)
  have zb := zl_nl_len (x := cleanD t 1) (by omega)
  have hl := rtL_len (cleanN t 1) (cleanD t 1) (by omega)
  exact ⟨ratioPrint_eq _ _ (by omega) (by omega) (by omega), ref09Print_eq _ _ (by omega) (by omega) (by omega), by unfold rcL; omega, ref08Of_eq _ _ (by omega) (by omega) (by omega)⟩
def Rin (t : D_api_Rat) : Prop := Limbs t.1.2 ∧ Limbs t.2 ∧ t.1.2.length ≤ 9223372036854775807 ∧ t.2.length ≤ 9223372036854775807
theorem rc_clean (t : D_api_Rat) (h : Rin t) : m_triviumref08_Clean ((t.1.1, t.1.2), t.2) 1 = some (rc t) := ref08Clean_eq t 1 h.1 h.2.1 (by decide) (by decide) h.2.2.1 h.2.2.2 (by decide)
def anA (k vk : Int) (is f s : Bool) (d : Int) (X Y Z : D_api_Rat) : D_engine_Answer := (k, (X, Y, Z), (is, X), Y, (vk, wA f d X Y, wA s (d / 2) Y Z))
def anB (k vk : Int) (is f s : Bool) (d : Int) (X Y Z : D_triviumref08_Q) : D_triviumref37_Answer := (k, (X, Y, Z), (is, X), Y, (vk, wB f d X Y, wB s (d / 2) Y Z))
theorem both_eq (k vk : Int) (is f s : Bool) (d : Int) (tX tY tZ : D_api_Rat) (h0 : 0 ≤ d) (h1 : d < 4294967296) (hX : Rin tX) (hY : Rin tY) (hZ : Rin tZ) : m_triviumlaw38_both (k, vk, is, f, s, d, tX, tY, tZ) = some (anA k vk is f s d (rc tX) (rc tY) (rc tZ), anB k vk is f s d (qc tX) (qc tY) (qc tZ)) := by
  have c1 := rc_clean tX hX
  have c2 := rc_clean tY hY
  have c3 := rc_clean tZ hZ
  have o1 : m_triviumref08_Of (((rc tX).1.1, (rc tX).1.2), (rc tX).2) = some (qc tX) := (rc_facts tX).2.2.2
  have o2 : m_triviumref08_Of (((rc tY).1.1, (rc tY).1.2), (rc tY).2) = some (qc tY) := (rc_facts tY).2.2.2
  have o3 : m_triviumref08_Of (((rc tZ).1.1, (rc tZ).1.2), (rc tZ).2) = some (qc tZ) := (rc_facts tZ).2.2.2
  have q2 : qd .u32 d 2 = some (d / 2) := by
    unfold qd
    rw [if_neg (by decide)]
    congr 1
    rw [Int.tdiv_eq_ediv_of_nonneg h0]
    have e0 : IntKind.u32.wrap (d / 2) = (d / 2) % 4294967296 := rfl
    rw [e0, Int.emod_eq_of_lt (by omega) (by omega)]
  unfold m_triviumlaw38_both
  dsimp only
  rw [c1, bd_some, c2, bd_some, c3, bd_some, o1, bd_some, o2, bd_some, o3, bd_some, q2]
  cases f <;> cases s <;> rfl
theorem frac_eq (a b : Int) (ha : m_whole_Of a = some (zI a)) (hb : m_whole_Of b = some (zI b)) (h0 : 0 < b) (la : Lm 1 a) (lb : Lm 1 b) : m_rat_Frac a b = some (rI (a / Int.gcd a b) (b / Int.gcd a b), 0) := by
  unfold m_rat_Frac
  rw [ha, bd_some, hb, bd_some, rMake_eq a b h0 la lb (by decide), bd_some]
theorem itoa_one (i : Nat) (h : i < 10) : Lib.itoa (i : Int) = [UInt8.ofNat (48 + i)] := by
  unfold Lib.itoa
  rw [if_neg (by omega), Int.toNat_natCast, Lib.decDigits_one h]
theorem works38 : m_triviumlaw38_works = some true := by
  have n1 : ∀ x : Int, 0 ≤ x → x < 4294967296 → (nl x).length ≤ 1 := fun x h0 h1 => nl_len h0 (by rw [Int.pow_one]; exact h1)
  have z1 : ∀ x : Int, 0 ≤ x → x < 4294967296 → (zl x).length ≤ 3 := fun x h0 h1 => by have := zl_nl_len h0; have := n1 x h0 h1; omega
  have wof : ∀ x : Int, 0 ≤ x → x < 100 → m_whole_Of x = some (zI x) := fun x h0 h1 => by
    have := n1 x h0 (by omega)
    unfold m_whole_Of
    rw [if_neg (by rw [decide_eq_true_eq]; omega), show wu64 x = x from wu64_eq h0 (by omega), natOf_eq x h0 (by omega), bd_some, wMade_eq _ _ h0 (by omega), bd_some, if_neg (by decide)]
  have lm : ∀ x : Int, 0 ≤ x → x < 100 → Lm 1 x := fun x h0 h1 => by unfold Lm; rw [Int.pow_one]; omega
  have f1 : m_rat_Frac 2 3 = some (rI 2 3, 0) := frac_eq 2 3 (wof 2 (by decide) (by decide)) (wof 3 (by decide) (by decide)) (by decide) (lm 2 (by decide) (by decide)) (lm 3 (by decide) (by decide))
  have f2 : m_rat_Frac 1 3 = some (rI 1 3, 0) := frac_eq 1 3 (wof 1 (by decide) (by decide)) (wof 3 (by decide) (by decide)) (by decide) (lm 1 (by decide) (by decide)) (lm 3 (by decide) (by decide))
  have f3 : m_rat_Of 0 = some (rI 0 1) := by
    unfold m_rat_Of m_rat_one
    rw [wof 0 (by decide) (by decide), bd_some, natOf_eq 1 (by decide) (by decide)]
    rfl
  have p : ∀ a b : Int, 0 ≤ a → a < 100 → 0 ≤ b → b < 100 → m_ratio_Print (rI a b) = some (bs (rtL a b)) := fun a b a0 a1 b0 b1 => ratioPrint_eq a b b0 (by rw [show ((a.natAbs : Nat) : Int) = a by omega]; have := z1 a a0 (by omega); omega) (by have := z1 b b0 (by omega); omega)
  have t23 : rtL 2 3 = [50, 47, 51] := by
    unfold rtL zsL
    rw [if_neg (by decide), if_neg (by decide)]
    show Lib.decDigits 2 ++ 47 :: Lib.decDigits 3 = _
    rw [Lib.decDigits_one (by decide), Lib.decDigits_one (by decide)]; rfl
  have t13 : rtL 1 3 = [49, 47, 51] := by
    unfold rtL zsL
    rw [if_neg (by decide), if_neg (by decide)]
    show Lib.decDigits 1 ++ 47 :: Lib.decDigits 3 = _
    rw [Lib.decDigits_one (by decide), Lib.decDigits_one (by decide)]; rfl
  have t01 : rtL 0 1 = [48] := by
    unfold rtL zsL
    rw [if_pos rfl, if_neg (by decide)]
    exact Lib.decDigits_one (by decide)
  have p1 := p 2 3 (by decide) (by decide) (by decide) (by decide)
  have p2 := p 1 3 (by decide) (by decide) (by decide) (by decide)
  have p3 := p 0 1 (by decide) (by decide) (by decide) (by decide)
  rw [t23] at p1
  rw [t13] at p2
  rw [t01] at p3
  have td := told1_eq [50, 47, 51] [49, 47, 51] [48] (by decide) (by decide) (by decide) (rI 2 3) (rI 1 3) (rI 0 1) p1 p2 p3 (false, ((false, []), [])) ((false, []), []) (0, (false, 0, ((false, []), []), ((false, []), [])), (false, 0, ((false, []), []), ((false, []), [])))
  have hq : Qok (1, bs [97], bs [], bs [115], 16843009, (0, 0), 0) := by
    refine ⟨?_, ?_, ?_, ⟨?_, ?_⟩, ⟨?_, ?_⟩, ?_, ?_⟩ <;> decide
  have hpr : prL 16843009 = [49, 46, 49, 46, 49, 46, 49] := by
    show Lib.itoa ((1 : Nat) : Int) ++ 46 :: (Lib.itoa ((1 : Nat) : Int) ++ 46 :: (Lib.itoa ((1 : Nat) : Int) ++ 46 :: Lib.itoa ((1 : Nat) : Int))) = _
    rw [itoa_one 1 (by decide)]; rfl
  have hqL : qL (1, bs [97], bs [], bs [115], 16843009, (0, 0), 0) = [112, 114, 111, 98, 32, 97, 32, 115, 32, 49, 46, 49, 46, 49, 46, 49, 59] := by
    show qyL 1 [97] [] [115] 16843009 (0, 0) 0 = _
    unfold qyL
    rw [if_pos rfl, hpr]
    simp only [join2, Lib.join_one]
    rfl
  have hline := line_of (1, bs [97], bs [], bs [115], 16843009, (0, 0), 0) _ _ hq (by decide) td
  rw [hqL] at hline
  unfold m_triviumlaw38_works
  rw [f1, bd_some, f2, bd_some, f3, bd_some]
  show bd (m_report_Line (1, bs [97], bs [], bs [115], 16843009, (0, 0), 0) (1, (rI 2 3, rI 1 3, rI 0 1), (false, ((false, []), [])), ((false, []), []), (0, (false, 0, ((false, []), []), ((false, []), [])), (false, 0, ((false, []), []), ((false, []), []))))) _ = _
  rw [hline, bd_some, lt_eq, sq_bs]
  rfl
def Tin (t : D_triviumlaw38_Told) : Prop := (0 ≤ t.2.2.2.2.2.1 ∧ t.2.2.2.2.2.1 < 4294967296) ∧ Rin t.2.2.2.2.2.2.1 ∧ Rin t.2.2.2.2.2.2.2.1 ∧ Rin t.2.2.2.2.2.2.2.2
theorem lines_same (q : D_api_Query) (hq : Qok q) (k vk : Int) (is f s : Bool) (d : Int) (tX tY tZ : D_api_Rat) (h0 : 0 ≤ d) (h1 : d < 4294967296) : ∃ r : List UInt8, r.length ≤ 8000 ∧ m_report_Line q (anA k vk is f s d (rc tX) (rc tY) (rc tZ)) = some (bs r) ∧ m_triviumref38_Line q (anB k vk is f s d (qc tX) (qc tY) (qc tZ)) = some (bs r) := by
  obtain ⟨x1, x2, x3, -⟩ := rc_facts tX
  obtain ⟨y1, y2, y3, -⟩ := rc_facts tY
  obtain ⟨z1, z2, z3, -⟩ := rc_facts tZ
  have ht := told_eq d (d / 2) h0 h1 (by omega) (by omega) (rcL tX) (rcL tY) (rcL tZ) x3 y3 z3 (rc tX) (rc tY) (rc tZ) x1 y1 z1 k vk is f s
  have hr := refLine_eq d (d / 2) h0 h1 (by omega) (by omega) (rcL tX) (rcL tY) (rcL tZ) x3 y3 z3 q hq (qc tX) (qc tY) (qc tZ) x2 y2 z2 k vk is f s
  have hlen := tdL_len d (d / 2) h0 h1 (by omega) (by omega) (rcL tX) (rcL tY) (rcL tZ) x3 y3 z3 k vk is f s
  have hl := qL_len hq
  have hdl : (qL q).dropLast.length ≤ 6000 := by rw [List.length_dropLast]; omega
  refine ⟨_, ?_, ?_, hr⟩
  · split
    · simp only [List.length_append, List.length_cons, List.length_nil]; omega
    · simp
  · cases hT : isT k with
    | true =>
      rw [hT] at ht
      rw [if_pos rfl]
      exact line_of q _ _ hq (by omega) ht
    | false =>
      rw [hT] at ht
      rw [if_neg (by decide)]
      exact line_none q _ _ ht
theorem reportLines_plain (q : D_api_Query) (t : D_triviumlaw38_Told) (kd : Int) (hq : Qin q) (ht : Tin t) : m_triviumlaw38_ReportLines q t kd = some true := by
  obtain ⟨k, vk, is, f, s, d, tX, tY, tZ⟩ := t
  obtain ⟨⟨h0, h1⟩, hX, hY, hZ⟩ := ht
  obtain ⟨r, -, r1, r2⟩ := lines_same (cQ q) (cQ_ok hq) k vk is f s d tX tY tZ h0 h1
  unfold m_triviumlaw38_ReportLines
  show bd (m_triviumref22_CleanQuery q) (fun x1 => bd (m_triviumlaw38_both (k, vk, is, f, s, d, tX, tY, tZ)) _) = _
  rw [cleanQuery_eq q, bd_some, both_eq k vk is f s d tX tY tZ h0 h1 hX hY hZ, bd_some]
  show bd (m_report_Line (cQ q) (anA k vk is f s d (rc tX) (rc tY) (rc tZ))) (fun x5 => bd (m_triviumref38_Line (cQ q) (anB k vk is f s d (qc tX) (qc tY) (qc tZ))) _) = _
  rw [r1, bd_some, r2, bd_some, sq_self, if_pos rfl, verdict_eq, bd_some, refVerdict_eq, bd_some, sq_self, if_pos rfl, works38, bd_some]
end Go.Proofs.YtkjkipkfndckfaaGreatDoor.AP
/- ReportLines: the plain law, of all that may be handed in. -/
namespace Go.Proofs.YtkjkipkfndckfaaGreatDoor.Pure
open Go Go.Proofs.YtkjkipkfndckfaaGreatDoor.AP Go.Proofs.YtkjkipkfndckfaaGreatDoor.AE
theorem rng {k : IntKind} {n : Int} (h : (Lit.int k n).wf = true) : k.min ≤ n ∧ n ≤ k.max := by
  have h : (decide (k.min ≤ n) && decide (n ≤ k.max)) = true := h
  rw [Bool.and_eq_true, decide_eq_true_eq, decide_eq_true_eq] at h
  exact h
theorem rng32 {n : Int} (h : (Lit.int .u32 n).wf = true) : 0 ≤ n ∧ n < 4294967296 := ⟨(rng h).1, Int.lt_add_one_of_le (rng h).2⟩
theorem rin {t : D_api_Rat} (h : Ty.ok Y_api_Rat t) : Rin t := ⟨u64lim h.1.2, u64lim h.2, h.1.2.1, h.2.1⟩
theorem ReportLines (y0 : D_api_Query) (h0 : Ty.ok Y_api_Query y0) (y1 : D_triviumlaw38_Told) (h1 : Ty.ok Y_triviumlaw38_Told y1) (y2 : Int) (h2 : Ty.ok (.int .i64) y2) : m_triviumlaw38_ReportLines y0 y1 y2 = some true :=
  reportLines_plain y0 y1 y2 ⟨rng32 h0.2.2.2.2.1, rng32 h0.2.2.2.2.2.1.1⟩ ⟨rng32 h1.2.2.2.2.2.1, rin h1.2.2.2.2.2.2.1, rin h1.2.2.2.2.2.2.2.1, rin h1.2.2.2.2.2.2.2.2⟩
end Go.Proofs.YtkjkipkfndckfaaGreatDoor.Pure
/- The law ReportLines holds of every input: the row, and its card. -/
namespace Go.Proofs.YtkjkipkfndckfaaGreatDoor.reportLines
open Go.ChangeShapes Go.WideShapes Go.ChangeAt Go.RowKit
set_option linter.unusedVariables false
theorem own : ownKnob Tryz.prog.godebug = none := by kernel_rfl
theorem laidOut : laidOutB Tryz.prog = true := by kernel_rfl
theorem gTab : Tryz.prog.globalNamed "internal/strconv.uint64pow10" = some 1 := by kernel_rfl
theorem gTabType : (Tryz.prog.globals[1]?).map (·.type) = some 185 := by kernel_rfl
theorem cellsA : Tryz.prog.cellsOf 185 = 20 := by kernel_rfl
theorem cellsE : Tryz.prog.cellsOf 104 = 1 := by kernel_rfl
theorem table {W : World} (h : laidMet Tryz.prog Rows.reportLinesRow.laid W) : AE.Glo W :=
  Lib.tabIs_of_head (rest := _) gTab gTabType Tryz.underlying185 Tryz.underlying104 cellsE cellsA (laidMet.tail (laidMet.tail h))
set_option maxRecDepth 100000 in
theorem lifted (os : Os) (started : os.Started) (H : Type) (enc : TypeId × Value → H) :
    ReturnsInHanded {} Tryz.checked os 3 .any (fun w args => (Rows.reportLinesSpec.pre enc Tryz.prog Tryz.f3 [] false w args ∧ laidMetH Tryz.prog Rows.reportLinesRow.laid w) ∧ sizedMet enc Tryz.prog Tryz.f3 (OpenSpec.ofChange Rows.reportLinesSpec) false w args)
      (Rows.reportLinesSpec.post enc Tryz.prog Tryz.f3 false true false false) := by
  refine returnsInHanded_of_change_and (C := Tryz.checked) (X := fun w _ => laidMetH Tryz.prog Rows.reportLinesRow.laid w) (fun _ _ _ hh h => h.of_heap hh) own started (by kernel_rfl) Tryz.func3
    (ChangeSpec.witness_shaped (enc := enc) (C := Tryz.checked) (os := os) (X := fun w _ => laidMetH Tryz.prog Rows.reportLinesRow.laid w) false (World.laidAll Tryz.prog os Rows.reportLinesRow.laid) #[.agg #[.int .i64 0, .string ByteArray.empty, .string ByteArray.empty, .string ByteArray.empty, .int .u32 0, .int .u32 0, .int .i64 0, .int .i64 0], .agg #[.int .i64 0, .int .i64 0, .bool false, .bool false, .bool false, .int .u32 0, .bool false, .slice none 0 0, .slice none 0 0, .bool false, .slice none 0 0, .slice none 0 0, .bool false, .slice none 0 0, .slice none 0 0], .int .i64 0] 8 (World.laidAll_os _ _ _)
      (World.shaped_of_ZipB (by kernel_rfl) (by kernel_rfl)) (by kernel_rfl) (by kernel_rfl) (by kernel_rfl)
      (by rw [MakeChecks.laidMetH_plain _ _ _ (by kernel_rfl)]; exact laidMet_laidAll _ (by kernel_rfl) (by kernel_rfl))) ?_
  intro W base args ds gs before hval0 hW _ hsz0 hL0 _
  have hL : laidMet Tryz.prog Rows.reportLinesRow.laid W := by rw [MakeChecks.laidMetH_plain _ _ _ (by kernel_rfl)] at hL0; exact hL0
  clear hsz0
  have hval : ∀ (j : Nat) t v, Tryz.f3.params[j]? = some t → args[j]? = some v → Value.okWide Tryz.prog W .any base t v := hval0
  have hW' := hW
  obtain ⟨p, q, hA0, hV, rfl, hfz, hnd⟩ := hW
  have hA : DataW.TrodAll enc Tryz.prog W 0 (fun _ => true) true Tryz.f3.params.toList args.toList ds p := hA0
  rw [Tryz.params3] at hA hval
  obtain ⟨v0, vs0, d0, ds0, p0, q0, hargs, rfl, rfl, h0, r0⟩ := trodAll_cons hA
  obtain ⟨v1, vs1, d1, ds1, p1, q1, rfl, rfl, rfl, h1, r1⟩ := trodAll_cons r0
  obtain ⟨v2, vs2, d2, ds2, p2, q2, rfl, rfl, rfl, h2, r2⟩ := trodAll_cons r1
  obtain ⟨rfl, rfl, rfl⟩ := trodAll_nil r2
  obtain rfl : args = #[v0, v1, v2] := by cases args; simp_all
  obtain ⟨rfl, rfl⟩ := trodVars_none hV
  have lt0 : ∀ x ∈ p0, x.block < W.heap.size := by obtain ⟨m, hm⟩ := h0; exact DataW.trod_lt m _ _ _ hm
  obtain ⟨a0, o0, e0⟩ := AE.open_v (t := AE.Y_api_Query) ⟨40, by kernel_rfl⟩ (hval 0 26 v0 rfl rfl) h0
  have lt1 : ∀ x ∈ p1, x.block < W.heap.size := by obtain ⟨m, hm⟩ := h1; exact DataW.trod_lt m _ _ _ hm
  obtain ⟨a1, o1, e1⟩ := AE.open_v (t := AE.Y_triviumlaw38_Told) ⟨40, by kernel_rfl⟩ (hval 1 34 v1 rfl rfl) h1
  have lt2 : ∀ x ∈ p2, x.block < W.heap.size := by obtain ⟨m, hm⟩ := h2; exact DataW.trod_lt m _ _ _ hm
  obtain ⟨a2, o2, e2⟩ := AE.open_v (t := (.int .i64)) ⟨40, by kernel_rfl⟩ (hval 2 3 v2 rfl rfl) h2
  clear hA0 hval0
  have h := Pure.ReportLines a0 o0 a1 o1 a2 o2
  have C := AE.law_calls (table hL) (AE.k_triviumlaw38_ReportLines h) (W := W) (args := [v0, v1, v2]) ⟨v0, [v1, v2], rfl, e0, v1, [v2], rfl, e1, v2, [], rfl, e2, rfl⟩
  refine C.mono fun e W' ⟨he, bel⟩ => ?_
  subst he
  exact ⟨_, rfl, _, _, _, [], _, [], hW', trodAll_mk1 (shut_bool Tryz.underlying4 _), (trodAll_cons_mk (Below.trod laidOut (by kernel_rfl) (of_decide_eq_true (by kernel_rfl)) h0 bel lt0) (trodAll_cons_mk (Below.trod laidOut (by kernel_rfl) (of_decide_eq_true (by kernel_rfl)) h1 bel lt1) (trodAll_cons_mk (Below.trod laidOut (by kernel_rfl) (of_decide_eq_true (by kernel_rfl)) h2 bel lt2) trodAll_mk0))), rfl, bel.frame _, fun h => by cases h⟩
theorem over : Rows.reportLinesRow.holds Tryz.pinned (OpenSpec.ofChange Rows.reportLinesSpec) :=
  OpenClaim.holds_of_wide 3 Tryz.f3 rfl rfl rfl rfl rfl rfl rfl ⟨rfl, rfl, rfl, rfl, rfl⟩ rfl rfl rfl rfl rfl (by kernel_rfl) Tryz.func3 (by kernel_rfl)
    (of_decide_eq_true (by kernel_rfl)) (by unfold Func.isWrapper; first | (rw [if_pos (by decide +kernel)]; kernel_rfl) | (rw [if_neg (by decide +kernel)]; exact ⟨rfl, rfl⟩))
    (fun os started H enc _ => lifted os started H enc)
theorem proved : Rows.ReportLinesSaid := over
theorem plain (f : FuncId) (fn : Func) (hf : Tryz.pinned.checked.prog.funcNamed "trivium/triviumlaw38.ReportLines" = some f) (hfn : Tryz.pinned.checked.prog.funcs[f]? = some fn) :
    false = Tryz.pinned.checked.prog.looks [] ∧ ∀ (j : Nat) t, fn.params[j]? = some t → Tryz.pinned.checked.prog.wantsStandIn t = false := by
  obtain rfl : f = 3 := Option.some.inj ((show Tryz.prog.funcNamed "trivium/triviumlaw38.ReportLines" = some 3 by kernel_rfl).symm.trans hf) |>.symm
  obtain rfl : fn = Tryz.f3 := (Option.some.inj (Tryz.func3.symm.trans hfn)).symm
  exact ⟨by kernel_rfl, fun j t ht => by
    rw [Tryz.params3] at ht
    have hm : t ∈ [26, 34, 3] := by simpa using Array.mem_of_getElem? ht
    have hall : ([26, 34, 3].all fun u => !Tryz.prog.wantsStandIn u) = true := by kernel_rfl
    exact (show Tryz.prog.wantsStandIn t = false by simpa using List.all_eq_true.1 hall t hm)⟩
theorem card : Rows.ReportLinesCardSaid :=
  Claim7.holds_tied_plain_at .later [] _ _ _ _ proved (fun _ h => by cases h) (by kernel_rfl) (fun _ h => by cases h) reportLines_row_tie rfl ⟨rfl, rfl⟩ (by kernel_rfl) rfl plain (by kernel_rfl)
#print axioms card
end Go.Proofs.YtkjkipkfndckfaaGreatDoor.reportLines
namespace Go.Proofs.YtkjkipkfndckfaaGreatDoor
/-- The statement, under a short name, for the claim. -/
theorem reportLines_holds : Rows.ReportLinesCardSaid := reportLines.card
end Go.Proofs.YtkjkipkfndckfaaGreatDoor
