/- The code comes to the printed functions (printed by a program of ours). -/
import Derived.Test.YtbmogniipgmkiaaGreatQFQ2
/- Functions of the program, as Lean functions (printed by a program of ours). -/
namespace Go.Proofs.YtbmogniipgmkiaaGreat.AP
open Go
set_option linter.unusedVariables false
noncomputable section
def m_triviumref22_short (p0 : ByteArray) : Option (ByteArray) :=
  bd (cs p0 0 (min (p0.size : Int) 20)) fun x1 =>
  some x1
def m_triviumref02_Clean_l1 (p0 : (List Int)) (p1 : Int) : (Int × (List Int)) → Option ((Int × (List Int)) ⊕ ((List Int)))
  | (v2, v3) =>
    bd (
      if decide (v2 < (p0.length : Int)) then (
        some (decide (v2 < p1)))
      else (
        some false)) fun v4 =>
    if v4 then (
      bd (rd p0 v2) fun x7 =>
      bd (rm .u64 x7 4294967296) fun x9 =>
      bd (ap 8 v3 [x9]) fun x11 =>
      some (.inl (wi64 (v2 + 1), x11)))
    else (
      some (.inr v3))
def m_triviumref02_Clean_l2  : (List Int) → Option (((List Int)) ⊕ ((List Int)))
  | v14 =>
    bd (
      if decide (0 < (v14.length : Int)) then (
        bd (rd v14 (wi64 ((v14.length : Int) - 1))) fun x17 =>
        some (decide (x17 = 0)))
      else (
        some false)) fun v15 =>
    if v15 then (
      bd (ct v14 0 (wi64 ((v14.length : Int) - 1))) fun x20 =>
      some (.inl x20))
    else (
      some (.inr v14))
def m_triviumref02_Clean (p0 : (List Int)) (p1 : Int) : Option ((List Int)) :=
  bd (lp (m_triviumref02_Clean_l1 p0 p1) (0, [])) fun v1 =>
  bd (lp (m_triviumref02_Clean_l2) v1) fun v13 =>
  some v13
def m_triviumref07_Clean (p0 : D_api_Int) (p1 : Int) : Option (D_api_Int) :=
  bd (m_triviumref02_Clean p0.2 p1) fun x1 =>
  if p0.1 then (
    some (decide (0 < (x1.length : Int)), x1))
  else (
    some (false, x1))
def m_triviumref02_Trim_l1 (p0 : (List Int)) : Int → Option ((Int) ⊕ (Int))
  | v2 =>
    bd (
      if decide (0 < v2) then (
        bd (rd p0 (wi64 (v2 - 1))) fun x5 =>
        some (decide (x5 = 0)))
      else (
        some false)) fun v3 =>
    if v3 then (
      some (.inl (wi64 (v2 - 1))))
    else (
      some (.inr v2))
def m_triviumref02_Trim (p0 : (List Int)) : Option ((List Int)) :=
  bd (lp (m_triviumref02_Trim_l1 p0) (p0.length : Int)) fun v1 =>
  bd (ct p0 0 v1) fun x8 =>
  bd (ap 8 [] x8) fun x10 =>
  some x10
def m_triviumref02_MulAdd_l1 (p0 : (List Int)) (p1 : Int) : (Int × Int × (List Int)) → Option ((Int × Int × (List Int)) ⊕ (Int × (List Int)))
  | (v3, v4, v5) =>
    if decide (v4 < (p0.length : Int)) then (
      bd (rd p0 v4) fun x7 =>
      bd (rm .i64 (wi64 (v3 + (wi64 (x7 * p1)))) 10000) fun x9 =>
      bd (ap 8 v5 [x9]) fun x11 =>
      bd (qd .i64 (wi64 (v3 + (wi64 (x7 * p1)))) 10000) fun x13 =>
      some (.inl (x13, wi64 (v4 + 1), x11)))
    else (
      some (.inr (v3, v5)))
def m_triviumref02_MulAdd_l2  : (Int × (List Int)) → Option ((Int × (List Int)) ⊕ ((List Int)))
  | (v16, v17) =>
    if decide (0 < v16) then (
      bd (rm .i64 v16 10000) fun x19 =>
      bd (ap 8 v17 [x19]) fun x21 =>
      bd (qd .i64 v16 10000) fun x23 =>
      some (.inl (x23, x21)))
    else (
      some (.inr v17))
def m_triviumref02_MulAdd (p0 : (List Int)) (p1 : Int) (p2 : Int) : Option ((List Int)) :=
  bd (lp (m_triviumref02_MulAdd_l1 p0 p1) (p2, 0, [])) fun (v1, v2) =>
  bd (lp (m_triviumref02_MulAdd_l2) (v1, v2)) fun v15 =>
  bd (m_triviumref02_Trim v15) fun x25 =>
  some x25
def m_triviumref02_Of_l1 (p0 : (List Int)) : ((List Int) × Int) → Option (((List Int) × Int) ⊕ ((List Int)))
  | (v2, v3) =>
    if decide (0 ≤ v3) then (
      bd (rd p0 v3) fun x5 =>
      bd (rm .u64 x5 4294967296) fun x7 =>
      bd (m_triviumref02_MulAdd v2 4294967296 (wi64 x7)) fun x9 =>
      some (.inl (x9, wi64 (v3 - 1))))
    else (
      some (.inr v2))
def m_triviumref02_Of (p0 : (List Int)) : Option ((List Int)) :=
  bd (lp (m_triviumref02_Of_l1 p0) ([], wi64 ((p0.length : Int) - 1))) fun v1 =>
  some v1
def m_triviumref07_made (p0 : Bool) (p1 : (List Int)) : Option (D_triviumref07_Z) :=
  if p0 then (
    some (decide (0 < (p1.length : Int)), p1))
  else (
    some (false, p1))
def m_triviumref07_Of (p0 : D_api_Int) : Option (D_triviumref07_Z) :=
  bd (m_triviumref02_Of p0.2) fun x1 =>
  bd (m_triviumref07_made p0.1 x1) fun x3 =>
  some (x3.1, x3.2)
def m_triviumref02_Cmp_l1 (p0 : (List Int)) (p1 : (List Int)) : Int → Option ((Int) ⊕ (Int))
  | v3 =>
    if decide (0 ≤ v3) then (
      bd (rd p0 v3) fun x5 =>
      bd (rd p1 v3) fun x7 =>
      if decide (x5 < x7) then (
        some (.inr (-1)))
      else (
        bd (rd p0 v3) fun x10 =>
        bd (rd p1 v3) fun x12 =>
        if decide (x12 < x10) then (
          some (.inr 1))
        else (
          some (.inl (wi64 (v3 - 1))))))
    else (
      some (.inr 0))
def m_triviumref02_Cmp (p0 : (List Int)) (p1 : (List Int)) : Option (Int) :=
  if !decide ((p0.length : Int) = (p1.length : Int)) then (
    if decide ((p0.length : Int) < (p1.length : Int)) then (
      some (-1))
    else (
      some 1))
  else (
    lp (m_triviumref02_Cmp_l1 p0 p1) (wi64 ((p0.length : Int) - 1)))
def m_triviumref02_Sub_l1 (p0 : (List Int)) (p1 : (List Int)) : (Int × Int × (List Int)) → Option ((Int × Int × (List Int)) ⊕ ((List Int)))
  | (v2, v3, v4) =>
    if decide (v3 < (p0.length : Int)) then (
      bd (rd p0 v3) fun x6 =>
      bd (
        if decide (v3 < (p1.length : Int)) then (
          bd (rd p1 v3) fun x10 =>
          some (wi64 ((wi64 (x6 - v2)) - x10)))
        else (
          some (wi64 (x6 - v2)))) fun v8 =>
      bd (
        if decide (v8 < 0) then (
          some (1, wi64 (v8 + 10000)))
        else (
          some (0, v8))) fun (v12, v13) =>
      bd (ap 8 v4 [v13]) fun x15 =>
      some (.inl (v12, wi64 (v3 + 1), x15)))
    else (
      some (.inr v4))
def m_triviumref02_Sub (p0 : (List Int)) (p1 : (List Int)) : Option ((List Int)) :=
  bd (lp (m_triviumref02_Sub_l1 p0 p1) (0, 0, [])) fun v1 =>
  bd (m_triviumref02_Trim v1) fun x17 =>
  some x17
def m_triviumref02_Div_l2 (p1 : (List Int)) (x15 : (List Int)) : (Int × Int) → Option ((Int × Int) ⊕ (Int))
  | (v18, v19) =>
    if decide (1 < (wi64 (v19 - v18))) then (
      bd (qd .i64 (wi64 (v18 + v19)) 2) fun x21 =>
      bd (m_triviumref02_MulAdd p1 x21 0) fun x23 =>
      bd (m_triviumref02_Cmp x23 x15) fun x25 =>
      if decide (x25 ≤ 0) then (
        some (.inl (x21, v19)))
      else (
        some (.inl (v18, x21))))
    else (
      some (.inr v18))
def m_triviumref02_Div_l1 (p0 : (List Int)) (p1 : (List Int)) : ((List Int) × Int × (List Int)) → Option (((List Int) × Int × (List Int)) ⊕ ((List Int) × (List Int)))
  | (v5, v6, v7) =>
    if decide (0 ≤ v6) then (
      bd (
        bd (rd p0 v6) fun x11 =>
        bd (ap 8 [x11] v5) fun x13 =>
        bd (m_triviumref02_Trim x13) fun x15 =>
        bd (lp (m_triviumref02_Div_l2 p1 x15) (0, 10000)) fun v17 =>
        bd (ix v7 v6) fun j28 =>
        lt (v7.set j28 v17) fun x30 =>
        bd (m_triviumref02_MulAdd p1 v17 0) fun x32 =>
        bd (m_triviumref02_Sub x15 x32) fun x34 =>
        some (x34, x30)) fun (v9, v10) =>
      some (.inl (v9, wi64 (v6 - 1), v10)))
    else (
      some (.inr (v5, v7)))
def m_triviumref02_Div (p0 : (List Int)) (p1 : (List Int)) : Option ((List Int) × (List Int)) :=
  bd (mk 8 0 (p0.length : Int) (p0.length : Int)) fun x1 =>
  bd (lp (m_triviumref02_Div_l1 p0 p1) ([], wi64 ((p0.length : Int) - 1), x1)) fun (v3, v4) =>
  bd (m_triviumref02_Trim v4) fun x36 =>
  some (x36, v3)
def m_triviumref02_Gcd_l1  : ((List Int) × (List Int)) → Option (((List Int) × (List Int)) ⊕ ((List Int)))
  | (v2, v3) =>
    if decide (0 < (v3.length : Int)) then (
      bd (m_triviumref02_Div v2 v3) fun x5 =>
      some (.inl (v3, x5.2)))
    else (
      some (.inr v2))
def m_triviumref02_Gcd (p0 : (List Int)) (p1 : (List Int)) : Option ((List Int)) :=
  bd (lp (m_triviumref02_Gcd_l1) (p0, p1)) fun v1 =>
  some v1
def m_triviumref08_Low (p0 : D_triviumref07_Z) (p1 : (List Int)) : Option (D_triviumref08_Q) :=
  bd (m_triviumref02_Gcd p0.2 p1) fun x1 =>
  bd (m_triviumref02_Div p0.2 x1) fun x3 =>
  bd (m_triviumref02_Div p1 x1) fun x5 =>
  if p0.1 then (
    some ((decide (0 < (x3.1.length : Int)), x3.1), x5.1))
  else (
    some ((false, x3.1), x5.1))
def m_triviumref02_DivSmall_l1 (p0 : (List Int)) (p1 : Int) : (Int × Int × (List Int)) → Option ((Int × Int × (List Int)) ⊕ (Int × (List Int)))
  | (v5, v6, v7) =>
    if decide (0 ≤ v6) then (
      bd (rd p0 v6) fun x9 =>
      bd (qd .i64 (wi64 ((wi64 (10000 * v5)) + x9)) p1) fun x11 =>
      bd (ix v7 v6) fun j13 =>
      lt (v7.set j13 x11) fun x15 =>
      bd (rm .i64 (wi64 ((wi64 (10000 * v5)) + x9)) p1) fun x17 =>
      some (.inl (x17, wi64 (v6 - 1), x15)))
    else (
      some (.inr (v5, v7)))
def m_triviumref02_DivSmall (p0 : (List Int)) (p1 : Int) : Option ((List Int) × Int) :=
  bd (mk 8 0 (p0.length : Int) (p0.length : Int)) fun x1 =>
  bd (lp (m_triviumref02_DivSmall_l1 p0 p1) (0, wi64 ((p0.length : Int) - 1), x1)) fun (v3, v4) =>
  bd (m_triviumref02_Trim v4) fun x19 =>
  some (x19, v3)
def m_triviumref02_Back_l1  : ((List Int) × (List Int)) → Option (((List Int) × (List Int)) ⊕ ((List Int)))
  | (v2, v3) =>
    if decide (0 < (v2.length : Int)) then (
      bd (m_triviumref02_DivSmall v2 4294967296) fun x5 =>
      bd (ap 8 v3 [wu64 x5.2]) fun x7 =>
      some (.inl (x5.1, x7)))
    else (
      some (.inr v3))
def m_triviumref02_Back (p0 : (List Int)) : Option ((List Int)) :=
  bd (lp (m_triviumref02_Back_l1) (p0, [])) fun v1 =>
  some v1
def m_triviumref07_Back (p0 : D_triviumref07_Z) : Option (D_api_Int) :=
  bd (m_triviumref02_Back p0.2) fun x1 =>
  some (p0.1, x1)
def m_triviumref08_Back (p0 : D_triviumref08_Q) : Option (D_api_Rat) :=
  bd (m_triviumref07_Back (p0.1.1, p0.1.2)) fun x1 =>
  bd (m_triviumref02_Back p0.2) fun x3 =>
  some ((x1.1, x1.2), x3)
def m_triviumref08_Clean (p0 : D_api_Rat) (p1 : Int) : Option (D_api_Rat) :=
  bd (m_triviumref02_Clean p0.2 p1) fun x1 =>
  bd (
    if decide ((x1.length : Int) = 0) then (
      some [1])
    else (
      some x1)) fun v3 =>
  bd (m_triviumref07_Clean (p0.1.1, p0.1.2) p1) fun x5 =>
  bd (m_triviumref07_Of x5) fun x7 =>
  bd (m_triviumref02_Of v3) fun x9 =>
  bd (m_triviumref08_Low x7 x9) fun x11 =>
  bd (m_triviumref08_Back x11) fun x13 =>
  some ((x13.1.1, x13.1.2), x13.2)
def m_triviumref22_CleanRule_l2 (p0 : D_api_Rule) (v4 : Int) : (Int × (List D_api_Hop)) → Option ((Int × (List D_api_Hop)) ⊕ ((List D_api_Hop)))
  | (v11, v12) =>
    bd (
      bd (rd p0.2.2.2 v4) fun x14 =>
      if decide (v11 < (x14.length : Int)) then (
        some (decide (v11 < 5)))
      else (
        some false)) fun v13 =>
    if v13 then (
      bd (rd p0.2.2.2 v4) fun x18 =>
      bd (rd x18 v11) fun x20 =>
      bd (
        bd (
          if decide (x20.2 < (-1000000)) then (
            some true)
          else (
            some (decide (2147483648 < x20.2)))) fun v23 =>
        if v23 then (
          some 2)
        else (
          some x20.2)) fun v22 =>
      bd (rd p0.2.2.2 v4) fun x26 =>
      bd (rd x26 v11) fun x28 =>
      bd (m_triviumref22_short x28.1) fun x30 =>
      bd (ap 24 v12 [(x30, v22)]) fun x32 =>
      some (.inl (wi64 (v11 + 1), x32)))
    else (
      some (.inr v12))
def m_triviumref22_CleanRule_l1 (p0 : D_api_Rule) : (Int × (List (List D_api_Hop))) → Option ((Int × (List (List D_api_Hop))) ⊕ ((List (List D_api_Hop))))
  | (v4, v5) =>
    bd (
      if decide (v4 < (p0.2.2.2.length : Int)) then (
        some (decide (v4 < 4)))
      else (
        some false)) fun v6 =>
    if v6 then (
      bd (
        bd (lp (m_triviumref22_CleanRule_l2 p0 v4) (0, [])) fun v10 =>
        bd (ap 24 v5 [v10]) fun x34 =>
        some x34) fun v9 =>
      some (.inl (wi64 (v4 + 1), v9)))
    else (
      some (.inr v5))
def m_triviumref22_CleanRule (p0 : D_api_Rule) : Option (D_api_Rule) :=
  bd (m_triviumref22_short p0.1) fun x1 =>
  bd (lp (m_triviumref22_CleanRule_l1 p0) (0, [])) fun v3 =>
  some (x1, (p0.2.1.1, p0.2.1.2), p0.2.2.1, v3)
def m_triviumref22_Clean_l2 (x8 : D_api_Net) : (Int × (List D_api_Node)) → Option ((Int × (List D_api_Node)) ⊕ ((List D_api_Node)))
  | (v13, v14) =>
    bd (
      if decide (v13 < (x8.2.1.length : Int)) then (
        some (decide (v13 < 5)))
      else (
        some false)) fun v15 =>
    if v15 then (
      bd (rd x8.2.1 v13) fun x18 =>
      bd (m_triviumref22_short x18.1) fun x20 =>
      bd (rd x8.2.1 v13) fun x22 =>
      bd (rd x8.2.1 v13) fun x24 =>
      bd (ct x22.2 0 (min (x24.2.length : Int) 3)) fun x26 =>
      bd (ap 16 [] x26) fun x28 =>
      bd (ap 40 v14 [(x20, x28)]) fun x30 =>
      some (.inl (wi64 (v13 + 1), x30)))
    else (
      some (.inr v14))
def m_triviumref22_Clean_l3 (x8 : D_api_Net) : (Int × (List D_api_Link)) → Option ((Int × (List D_api_Link)) ⊕ ((List D_api_Link)))
  | (v33, v34) =>
    bd (
      if decide (v33 < (x8.2.2.1.length : Int)) then (
        some (decide (v33 < 8)))
      else (
        some false)) fun v35 =>
    if v35 then (
      bd (rd x8.2.2.1 v33) fun x38 =>
      bd (m_triviumref22_short x38.1) fun x40 =>
      bd (m_triviumref22_short x38.2.1) fun x42 =>
      bd (m_triviumref22_short x38.2.2.1) fun x44 =>
      bd (m_triviumref08_Clean ((x38.2.2.2.1.1, x38.2.2.2.1.2), x38.2.2.2.2) 1) fun x46 =>
      bd (ap 104 v34 [(x40, x42, x44, ((x46.1.1, x46.1.2), x46.2))]) fun x48 =>
      some (.inl (wi64 (v33 + 1), x48)))
    else (
      some (.inr v34))
def m_triviumref22_Clean_l4 (x8 : D_api_Net) : (Int × (List D_api_Rule)) → Option ((Int × (List D_api_Rule)) ⊕ ((List D_api_Rule)))
  | (v51, v52) =>
    bd (
      if decide (v51 < (x8.2.2.2.length : Int)) then (
        some (decide (v51 < 8)))
      else (
        some false)) fun v53 =>
    if v53 then (
      bd (rd x8.2.2.2 v51) fun x56 =>
      bd (m_triviumref22_CleanRule x56) fun x58 =>
      bd (ap 64 v52 [x58]) fun x60 =>
      some (.inl (wi64 (v51 + 1), x60)))
    else (
      some (.inr v52))
def m_triviumref22_Clean_l1 (p0 : (List D_api_Net)) : (Int × (List D_api_Net)) → Option ((Int × (List D_api_Net)) ⊕ ((List D_api_Net)))
  | (v2, v3) =>
    bd (
      if decide (v2 < (p0.length : Int)) then (
        some (decide (v2 < 3)))
      else (
        some false)) fun v4 =>
    if v4 then (
      bd (
        bd (rd p0 v2) fun x8 =>
        bd (m_triviumref22_short x8.1) fun x10 =>
        bd (lp (m_triviumref22_Clean_l2 x8) (0, [])) fun v12 =>
        bd (lp (m_triviumref22_Clean_l3 x8) (0, [])) fun v32 =>
        bd (lp (m_triviumref22_Clean_l4 x8) (0, [])) fun v50 =>
        bd (ap 88 v3 [(x10, v12, v32, v50)]) fun x62 =>
        some x62) fun v7 =>
      some (.inl (wi64 (v2 + 1), v7)))
    else (
      some (.inr v3))
def m_triviumref22_Clean (p0 : (List D_api_Net)) : Option ((List D_api_Net)) :=
  bd (lp (m_triviumref22_Clean_l1 p0) (0, [])) fun v1 =>
  some v1
def m_triviumref22_CleanQuery (p0 : D_api_Query) : Option (D_api_Query) :=
  bd (m_triviumref22_short p0.2.1) fun x1 =>
  bd (m_triviumref22_short p0.2.2.1) fun x3 =>
  bd (m_triviumref22_short p0.2.2.2.1) fun x5 =>
  bd (
    bd (
      if decide (p0.2.2.2.2.2.2 < (-1000000)) then (
        some true)
      else (
        some (decide (2147483648 < p0.2.2.2.2.2.2)))) fun v8 =>
    if v8 then (
      some 3)
    else (
      some p0.2.2.2.2.2.2)) fun v7 =>
  some (p0.1, x1, x3, x5, p0.2.2.2.2.1, (p0.2.2.2.2.2.1.1, p0.2.2.2.2.2.1.2), v7)
def m_triviumref23_Find_l1 (p0 : (List D_api_Net)) (p1 : ByteArray) : Int → Option ((Int) ⊕ (Int))
  | v1 =>
    if decide (v1 < (p0.length : Int)) then (
      bd (rd p0 v1) fun x3 =>
      if sq x3.1 p1 then (
        some (.inr v1))
      else (
        some (.inl (wi64 (v1 + 1)))))
    else (
      some (.inr (-1)))
def m_triviumref23_Find (p0 : (List D_api_Net)) (p1 : ByteArray) : Option (Int) :=
  lp (m_triviumref23_Find_l1 p0 p1) 0
def m_triviumref23_Node_l1 (p0 : D_api_Net) (p1 : ByteArray) : Int → Option ((Int) ⊕ (Int))
  | v1 =>
    if decide (v1 < (p0.2.1.length : Int)) then (
      bd (rd p0.2.1 v1) fun x3 =>
      if sq x3.1 p1 then (
        some (.inr v1))
      else (
        some (.inl (wi64 (v1 + 1)))))
    else (
      some (.inr (-1)))
def m_triviumref23_Node (p0 : D_api_Net) (p1 : ByteArray) : Option (Int) :=
  lp (m_triviumref23_Node_l1 p0 p1) 0
def m_triviumref18_Size_l1  : (Int × Int) → Option ((Int × Int) ⊕ (Int))
  | (v2, v3) =>
    if decide (v3 < 32) then (
      some (.inl (wu64 (2 * v2), wi64 (v3 + 1))))
    else (
      some (.inr v2))
def m_triviumref18_Size (p0 : Int) : Option (Int) :=
  bd (lp (m_triviumref18_Size_l1) (1, p0)) fun v1 =>
  some v1
def m_triviumref18_May (p0 : D_api_Prefix) : Option (Bool) :=
  if decide (0 ≤ p0.2) then (
    if decide (p0.2 ≤ 32) then (
      bd (m_triviumref18_Size p0.2) fun x3 =>
      bd (rm .u64 (wu64 p0.1) x3) fun x5 =>
      some (decide (x5 = 0)))
    else (
      some false))
  else (
    some false)
def m_triviumref23_Query (p0 : (List D_api_Net)) (p1 : D_api_Query) : Option (Bool) :=
  bd (m_triviumref23_Find p0 p1.2.1) fun x1 =>
  bd (
    if decide (p1.1 < 1) then (
      some true)
    else (
      if decide (4 < p1.1) then (
        some true)
      else (
        if decide (x1 < 0) then (
          some true)
        else (
          bd (rd p0 x1) fun x7 =>
          bd (m_triviumref23_Node x7 p1.2.2.2.1) fun x9 =>
          if decide (x9 < 0) then (
            some true)
          else (
            if decide (p1.2.2.2.2.2.2 < 0) then (
              some true)
            else (
              if !decide (p1.2.2.2.2.2.2 = 0) then (
                some (!decide (p1.1 = 3)))
              else (
                some false))))))) fun v3 =>
  if v3 then (
    some false)
  else (
    if !decide (p1.1 = 4) then (
      if sq p1.2.2.1 (bs []) then (
        lt (decide (p1.2.2.2.2.2.1.1 = 0) && decide (p1.2.2.2.2.2.1.2 = 0)) fun x17 =>
        some x17)
      else (
        some false))
    else (
      bd (m_triviumref23_Find p0 p1.2.2.1) fun x19 =>
      if decide (0 ≤ x19) then (
        bd (rd p0 x19) fun x22 =>
        bd (m_triviumref23_Node x22 p1.2.2.2.1) fun x24 =>
        if decide (0 ≤ x24) then (
          if decide (p1.2.2.2.2.1 = 0) then (
            bd (m_triviumref18_May (p1.2.2.2.2.2.1.1, p1.2.2.2.2.2.1.2)) fun x28 =>
            some x28)
          else (
            some false))
        else (
          some false))
      else (
        some false)))
def m_formed_Find_1 (p0 : D_api_Net) (p1 : ByteArray) : Option (Bool) :=
  some (sq p0.1 p1)
def m_slices_IndexFunc_api_Net_api_Net__formed_Find_1_l1 (p0 : (List D_api_Net)) (p1_0 : ByteArray) : Int → Option ((Int) ⊕ (Int))
  | v1 =>
    if decide (v1 < (p0.length : Int)) then (
      bd (rd p0 v1) fun x3 =>
      bd (m_formed_Find_1 x3 p1_0) fun x5 =>
      if x5 then (
        some (.inr v1))
      else (
        some (.inl (wi64 (v1 + 1)))))
    else (
      some (.inr (-1)))
def m_slices_IndexFunc_api_Net_api_Net__formed_Find_1 (p0 : (List D_api_Net)) (p1_0 : ByteArray) : Option (Int) :=
  lp (m_slices_IndexFunc_api_Net_api_Net__formed_Find_1_l1 p0 p1_0) 0
def m_formed_Find (p0 : (List D_api_Net)) (p1 : ByteArray) : Option (D_api_Net × Bool) :=
  bd (m_slices_IndexFunc_api_Net_api_Net__formed_Find_1 p0 p1) fun x1 =>
  if decide (x1 < 0) then (
    some (((bs []), [], [], []), false))
  else (
    bd (rd p0 x1) fun x4 =>
    some ((x4.1, x4.2.1, x4.2.2.1, x4.2.2.2), true))
def m_formed_Node_1 (p0 : D_api_Node) (p1 : ByteArray) : Option (Bool) :=
  some (sq p0.1 p1)
def m_slices_IndexFunc_api_Node_api_Node__formed_Node_1_l1 (p0 : (List D_api_Node)) (p1_0 : ByteArray) : Int → Option ((Int) ⊕ (Int))
  | v1 =>
    if decide (v1 < (p0.length : Int)) then (
      bd (rd p0 v1) fun x3 =>
      bd (m_formed_Node_1 x3 p1_0) fun x5 =>
      if x5 then (
        some (.inr v1))
      else (
        some (.inl (wi64 (v1 + 1)))))
    else (
      some (.inr (-1)))
def m_slices_IndexFunc_api_Node_api_Node__formed_Node_1 (p0 : (List D_api_Node)) (p1_0 : ByteArray) : Option (Int) :=
  lp (m_slices_IndexFunc_api_Node_api_Node__formed_Node_1_l1 p0 p1_0) 0
def m_formed_Node (p0 : D_api_Net) (p1 : ByteArray) : Option (Int × Bool) :=
  bd (m_slices_IndexFunc_api_Node_api_Node__formed_Node_1 p0.2.1 p1) fun x1 =>
  some (max x1 0, decide (0 ≤ x1))
def m_formed_in (p0 : (List D_api_Net)) (p1 : ByteArray) (p2 : ByteArray) : Option (Bool) :=
  bd (m_formed_Find p0 p1) fun x1 =>
  if !x1.2 then (
    some false)
  else (
    bd (m_formed_Node (x1.1.1, x1.1.2.1, x1.1.2.2.1, x1.1.2.2.2) p2) fun x4 =>
    some x4.2)
def m_addr_Mask (p0 : Int) : Option (Int) :=
  bd (sh .u64 4294967295 (wi64 (32 - (min (max p0 0) 32)))) fun x1 =>
  some (wu32 x1)
def m_addr_May (p0 : D_api_Prefix) : Option (Bool) :=
  if decide (0 ≤ p0.2) then (
    if decide (p0.2 ≤ 32) then (
      bd (m_addr_Mask p0.2) fun x3 =>
      lt (decide ((Go.bits .andNot .u32 p0.1 x3) = 0)) fun x5 =>
      some x5)
    else (
      some false))
  else (
    some false)
def m_formed_Query (p0 : (List D_api_Net)) (p1 : D_api_Query) : Option (Bool) :=
  bd (
    bd (m_formed_in p0 p1.2.1 p1.2.2.2.1) fun x2 =>
    if !x2 then (
      some true)
    else (
      if decide (p1.2.2.2.2.2.2 < 0) then (
        some true)
      else (
        if decide (0 < p1.2.2.2.2.2.2) then (
          some (!decide (p1.1 = 3)))
        else (
          some false)))) fun v1 =>
  if v1 then (
    some false)
  else (
    bd (
      if decide (p1.1 = 1) then (
        some (decide (p1.1 = 1)))
      else (
        if decide (p1.1 = 2) then (
          some (decide (p1.1 = 2)))
        else (
          some (decide (p1.1 = 3))))) fun v8 =>
    if v8 then (
      if sq p1.2.2.1 (bs []) then (
        lt (decide (p1.2.2.2.2.2.1.1 = 0) && decide (p1.2.2.2.2.2.1.2 = 0)) fun x13 =>
        some x13)
      else (
        some false))
    else (
      if decide (p1.1 = 4) then (
        bd (m_formed_in p0 p1.2.2.1 p1.2.2.2.1) fun x16 =>
        if x16 then (
          if decide (p1.2.2.2.2.1 = 0) then (
            bd (m_addr_May (p1.2.2.2.2.2.1.1, p1.2.2.2.2.2.1.2)) fun x20 =>
            some x20)
          else (
            some false))
        else (
          some false))
      else (
        some false)))
def m_formed_Queries_1 (p0 : D_api_Query) (p1 : (List D_api_Net)) : Option (Bool) :=
  bd (m_formed_Query p1 (p0.1, p0.2.1, p0.2.2.1, p0.2.2.2.1, p0.2.2.2.2.1, (p0.2.2.2.2.2.1.1, p0.2.2.2.2.2.1.2), p0.2.2.2.2.2.2)) fun x1 =>
  some (!x1)
def m_slices_IndexFunc_api_Query_api_Query__formed_Queries_1_l1 (p0 : (List D_api_Query)) (p1_0 : (List D_api_Net)) : Int → Option ((Int) ⊕ (Int))
  | v1 =>
    if decide (v1 < (p0.length : Int)) then (
      bd (rd p0 v1) fun x3 =>
      bd (m_formed_Queries_1 x3 p1_0) fun x5 =>
      if x5 then (
        some (.inr v1))
      else (
        some (.inl (wi64 (v1 + 1)))))
    else (
      some (.inr (-1)))
def m_slices_IndexFunc_api_Query_api_Query__formed_Queries_1 (p0 : (List D_api_Query)) (p1_0 : (List D_api_Net)) : Option (Int) :=
  lp (m_slices_IndexFunc_api_Query_api_Query__formed_Queries_1_l1 p0 p1_0) 0
def m_slices_ContainsFunc_api_Query_api_Query__formed_Queries_1 (p0 : (List D_api_Query)) (p1_0 : (List D_api_Net)) : Option (Bool) :=
  bd (m_slices_IndexFunc_api_Query_api_Query__formed_Queries_1 p0 p1_0) fun x1 =>
  some (decide (0 ≤ x1))
def m_formed_Queries (p0 : (List D_api_Net)) (p1 : (List D_api_Query)) : Option (Bool) :=
  bd (m_slices_ContainsFunc_api_Query_api_Query__formed_Queries_1 p1 p0) fun x1 =>
  some (!x1)
def m_name_letter (p0 : Int) : Option (Bool) :=
  if decide (97 ≤ p0) then (
    some (decide (p0 ≤ 122)))
  else (
    some false)
def m_name_other (p0 : Int) : Option (Bool) :=
  if decide (48 ≤ p0) then (
    if decide (p0 ≤ 57) then (
      some true)
    else (
      if decide (p0 = 45) then (
        some true)
      else (
        some (decide (p0 = 95)))))
  else (
    if decide (p0 = 45) then (
      some true)
    else (
      some (decide (p0 = 95))))
def m_name_Word_l1 (p0 : ByteArray) : Nat → Option ((Nat) ⊕ (Bool))
  | v1 =>
    if decide (v1 < p0.size) then (
      bd (
        bd (m_name_letter (dc1 p0 v1)) fun x5 =>
        if !x5 then (
          if decide ((v1 : Int) = 0) then (
            some (true, dcn p0 v1))
          else (
            bd (m_name_other (dc1 p0 v1)) fun x9 =>
            some (!x9, dcn p0 v1)))
        else (
          some (false, dcn p0 v1))) fun (v3, v4) =>
      if v3 then (
        some (.inr false))
      else (
        some (.inl v4)))
    else (
      some (.inr (!sq p0 (bs []))))
def m_name_Word (p0 : ByteArray) : Option (Bool) :=
  lp (m_name_Word_l1 p0) 0
def m_name_Keywords  : Option ((List ByteArray)) :=
  some [(bs [110, 101, 116, 119, 111, 114, 107]), (bs [110, 111, 100, 101]), (bs [104, 111, 109, 101]), (bs [108, 105, 110, 107]), (bs [102, 97, 105, 108]), (bs [114, 117, 108, 101]), (bs [100, 114, 111, 112]), (bs [118, 105, 97]), (bs [101, 108, 115, 101]), (bs [112, 114, 111, 98]), (bs [104, 111, 112, 115]), (bs [119, 105, 116, 104, 105, 110]), (bs [99, 111, 109, 112, 97, 114, 101])]
def m_slices_Index_string_string_l1 (p0 : (List ByteArray)) (p1 : ByteArray) : Int → Option ((Int) ⊕ (Int))
  | v1 =>
    if decide (v1 < (p0.length : Int)) then (
      bd (rd p0 v1) fun x3 =>
      if sq p1 x3 then (
        some (.inr v1))
      else (
        some (.inl (wi64 (v1 + 1)))))
    else (
      some (.inr (-1)))
def m_slices_Index_string_string (p0 : (List ByteArray)) (p1 : ByteArray) : Option (Int) :=
  lp (m_slices_Index_string_string_l1 p0 p1) 0
def m_slices_Contains_string_string (p0 : (List ByteArray)) (p1 : ByteArray) : Option (Bool) :=
  bd (m_slices_Index_string_string p0 p1) fun x1 =>
  some (decide (0 ≤ x1))
def m_name_Keyword (p0 : ByteArray) : Option (Bool) :=
  bd (m_name_Keywords) fun x1 =>
  bd (m_slices_Contains_string_string x1 p0) fun x3 =>
  some x3
def m_name_Name (p0 : ByteArray) : Option (Bool) :=
  bd (m_name_Word p0) fun x1 =>
  if x1 then (
    bd (m_name_Keyword p0) fun x4 =>
    some (!x4))
  else (
    some false)
def m_name_Twice_l1 (p0 : (List ByteArray)) : (Int × (List (ByteArray × Bool))) → Option ((Int × (List (ByteArray × Bool))) ⊕ (ByteArray × Bool))
  | (v1, v2) =>
    if decide (v1 < (p0.length : Int)) then (
      bd (rd p0 v1) fun x4 =>
      if (mget sq false v2 x4).1 then (
        some (.inr (x4, true)))
      else (
        lt (mput sq v2 x4 true) fun x7 =>
        some (.inl (wi64 (v1 + 1), x7))))
    else (
      some (.inr ((bs []), false)))
def m_name_Twice (p0 : (List ByteArray)) : Option (ByteArray × Bool) :=
  lp (m_name_Twice_l1 p0) (0, [])
def m_formed_named_l1 (p0 : (List ByteArray)) : Int → Option ((Int) ⊕ (Bool))
  | v1 =>
    if decide (v1 < (p0.length : Int)) then (
      bd (rd p0 v1) fun x3 =>
      bd (m_name_Name x3) fun x5 =>
      if !x5 then (
        some (.inr false))
      else (
        some (.inl (wi64 (v1 + 1)))))
    else (
      bd (m_name_Twice p0) fun x8 =>
      some (.inr (!x8.2)))
def m_formed_named (p0 : (List ByteArray)) : Option (Bool) :=
  lp (m_formed_named_l1 p0) 0
def m_formed_nodesRight_l1 (p0 : D_api_Net) : (Int × (List ByteArray)) → Option ((Int × (List ByteArray)) ⊕ ((List ByteArray)))
  | (v2, v3) =>
    if decide (v2 < (p0.2.1.length : Int)) then (
      bd (rd p0.2.1 v2) fun x5 =>
      bd (ap 16 v3 [x5.1]) fun x7 =>
      some (.inl (wi64 (v2 + 1), x7)))
    else (
      some (.inr v3))
def m_formed_nodesRight (p0 : D_api_Net) : Option (Bool) :=
  bd (lp (m_formed_nodesRight_l1 p0) (0, [])) fun v1 =>
  bd (m_formed_named v1) fun x9 =>
  some x9
def m_formed_homesRight_l2 (v1 : Int) (x3 : D_api_Node) : (Int × (List (D_api_Prefix × Bool))) → Option ((Int × (List (D_api_Prefix × Bool))) ⊕ ((Int) ⊕ (Bool)))
  | (v5, v6) =>
    if decide (v5 < (x3.2.length : Int)) then (
      bd (rd x3.2 v5) fun x8 =>
      bd (
        bd (m_addr_May (x8.1, x8.2)) fun x11 =>
        if !x11 then (
          some true)
        else (
          some ((mget E_api_Prefix false v6 (x8.1, x8.2)).1))) fun v10 =>
      if v10 then (
        some (.inr (.inr false)))
      else (
        lt (mput E_api_Prefix v6 (x8.1, x8.2) true) fun x15 =>
        some (.inl (wi64 (v5 + 1), x15))))
    else (
      some (.inr (.inl (wi64 (v1 + 1)))))
def m_formed_homesRight_l1 (p0 : D_api_Net) : Int → Option ((Int) ⊕ (Bool))
  | v1 =>
    if decide (v1 < (p0.2.1.length : Int)) then (
      bd (rd p0.2.1 v1) fun x3 =>
      lp (m_formed_homesRight_l2 v1 x3) (0, []))
    else (
      some (.inr true))
def m_formed_homesRight (p0 : D_api_Net) : Option (Bool) :=
  lp (m_formed_homesRight_l1 p0) 0
def m_formed_linksRight_l1 (p0 : D_api_Net) : (Int × (List ByteArray)) → Option ((Int × (List ByteArray)) ⊕ ((List ByteArray)))
  | (v2, v3) =>
    if decide (v2 < (p0.2.2.1.length : Int)) then (
      bd (rd p0.2.2.1 v2) fun x5 =>
      bd (ap 16 v3 [x5.1]) fun x7 =>
      some (.inl (wi64 (v2 + 1), x7)))
    else (
      some (.inr v3))
def m_formed_linksRight (p0 : D_api_Net) : Option (Bool) :=
  bd (lp (m_formed_linksRight_l1 p0) (0, [])) fun v1 =>
  bd (m_formed_named v1) fun x9 =>
  some x9
def m_formed_endsRight_1 (p0 : D_api_Link) (p1 : D_api_Net) : Option (Bool) :=
  bd (m_formed_Node p1 p0.2.1) fun x1 =>
  bd (m_formed_Node p1 p0.2.2.1) fun x3 =>
  if !x1.2 then (
    some true)
  else (
    some (!x3.2))
def m_slices_IndexFunc_api_Link_api_Link__formed_endsRight_1_l1 (p0 : (List D_api_Link)) (p1_0 : D_api_Net) : Int → Option ((Int) ⊕ (Int))
  | v1 =>
    if decide (v1 < (p0.length : Int)) then (
      bd (rd p0 v1) fun x3 =>
      bd (m_formed_endsRight_1 x3 p1_0) fun x5 =>
      if x5 then (
        some (.inr v1))
      else (
        some (.inl (wi64 (v1 + 1)))))
    else (
      some (.inr (-1)))
def m_slices_IndexFunc_api_Link_api_Link__formed_endsRight_1 (p0 : (List D_api_Link)) (p1_0 : D_api_Net) : Option (Int) :=
  lp (m_slices_IndexFunc_api_Link_api_Link__formed_endsRight_1_l1 p0 p1_0) 0
def m_slices_ContainsFunc_api_Link_api_Link__formed_endsRight_1 (p0 : (List D_api_Link)) (p1_0 : D_api_Net) : Option (Bool) :=
  bd (m_slices_IndexFunc_api_Link_api_Link__formed_endsRight_1 p0 p1_0) fun x1 =>
  some (decide (0 ≤ x1))
def m_formed_endsRight (p0 : D_api_Net) : Option (Bool) :=
  bd (m_slices_ContainsFunc_api_Link_api_Link__formed_endsRight_1 p0.2.2.1 (p0.1, p0.2.1, p0.2.2.1, p0.2.2.2)) fun x1 =>
  some (!x1)
def m_nat_May_l1 (p0 : (List Int)) : Int → Option ((Int) ⊕ (Bool))
  | v1 =>
    if decide (v1 < (p0.length : Int)) then (
      bd (rd p0 v1) fun x3 =>
      if decide (4294967296 ≤ x3) then (
        some (.inr false))
      else (
        some (.inl (wi64 (v1 + 1)))))
    else (
      if decide ((p0.length : Int) = 0) then (
        some (.inr true))
      else (
        bd (rd p0 (wi64 ((p0.length : Int) - 1))) fun x7 =>
        some (.inr (!decide (x7 = 0)))))
def m_nat_May (p0 : (List Int)) : Option (Bool) :=
  lp (m_nat_May_l1 p0) 0
def m_nat_trim_l1 (p0 : (List Int)) : Int → Option ((Int) ⊕ (Int))
  | v2 =>
    bd (
      if decide (0 < v2) then (
        bd (rd p0 (wi64 (v2 - 1))) fun x5 =>
        some (decide (x5 = 0)))
      else (
        some false)) fun v3 =>
    if v3 then (
      some (.inl (wi64 (v2 - 1))))
    else (
      some (.inr v2))
def m_nat_trim (p0 : (List Int)) : Option ((List Int)) :=
  bd (lp (m_nat_trim_l1 p0) (p0.length : Int)) fun v1 =>
  bd (ct p0 0 v1) fun x8 =>
  some x8
def m_nat_Make_l1 (p0 : (List Int)) : (Int × (List Int)) → Option ((Int × (List Int)) ⊕ ((List Int) × Int))
  | (v3, v4) =>
    if decide (v3 < (p0.length : Int)) then (
      bd (rd p0 v3) fun x6 =>
      if decide (4294967296 ≤ x6) then (
        some (.inr ([], 2)))
      else (
        bd (ap 8 v4 [x6]) fun x9 =>
        some (.inl (wi64 (v3 + 1), x9))))
    else (
      bd (m_nat_trim v4) fun x11 =>
      some (.inr (x11, 0)))
def m_nat_Make (p0 : (List Int)) : Option ((List Int) × Int) :=
  bd (mk 8 0 0 (p0.length : Int)) fun x1 =>
  lp (m_nat_Make_l1 p0) (0, x1)
def m_nat_Cmp_l1 (p0 : (List Int)) (p1 : (List Int)) : Int → Option ((Int) ⊕ (Int))
  | v7 =>
    if decide (0 ≤ v7) then (
      bd (rd p0 v7) fun x9 =>
      bd (rd p1 v7) fun x11 =>
      if decide (x9 < x11) then (
        some (.inr (-1)))
      else (
        bd (rd p0 v7) fun x14 =>
        bd (rd p1 v7) fun x16 =>
        if decide (x16 < x14) then (
          some (.inr 1))
        else (
          some (.inl (wi64 (v7 - 1))))))
    else (
      some (.inr 0))
def m_nat_Cmp (p0 : (List Int)) (p1 : (List Int)) : Option (Int) :=
  lt (decide ((p0.length : Int) < (p1.length : Int))) fun x1 =>
  if x1 then (
    some (-1))
  else (
    lt (decide ((p1.length : Int) < (p0.length : Int))) fun x4 =>
    if x4 then (
      some 1)
    else (
      lp (m_nat_Cmp_l1 p0 p1) (wi64 ((p0.length : Int) - 1))))
def m_limb_Div (p0 : Int) (p1 : Int) (p2 : Int) : Option (Int × Int × Int) :=
  lt (decide ((Go.bits .and .u64 p2 4294967295) = 0)) fun x1 =>
  if x1 then (
    some (0, 0, 3))
  else (
    lt (decide ((Go.bits .and .u64 p2 4294967295) ≤ (Go.bits .and .u64 p0 4294967295))) fun x4 =>
    if x4 then (
      some (0, 0, 2))
    else (
      bd (sh .u64 (Go.bits .and .u64 p0 4294967295) 32) fun x7 =>
      lt (Go.bits .or .u64 x7 (Go.bits .and .u64 p1 4294967295)) fun x9 =>
      bd (qd .u64 x9 (Go.bits .and .u64 p2 4294967295)) fun x11 =>
      bd (rm .u64 x9 (Go.bits .and .u64 p2 4294967295)) fun x13 =>
      some (x11, x13, 0)))
def m_divide_Small_l1 (p0 : (List Int)) (p1 : Int) : (Int × Int × (List Int)) → Option ((Int × Int × (List Int)) ⊕ (Int × (List Int)))
  | (v8, v9, v10) =>
    if decide (v9 < (p0.length : Int)) then (
      lt (wi64 ((wi64 ((p0.length : Int) - 1)) - v9)) fun x12 =>
      bd (rd p0 x12) fun x14 =>
      bd (m_limb_Div v8 x14 p1) fun x16 =>
      bd (ix v10 x12) fun j18 =>
      lt (v10.set j18 x16.1) fun x20 =>
      some (.inl (x16.2.1, wi64 (v9 + 1), x20)))
    else (
      some (.inr (v8, v10)))
def m_divide_Small (p0 : (List Int)) (p1 : Int) : Option ((List Int) × Int × Int) :=
  bd (rm .u64 p1 4294967296) fun x1 =>
  if decide (x1 = 0) then (
    some ([], 0, 3))
  else (
    bd (mk 8 0 (p0.length : Int) (p0.length : Int)) fun x4 =>
    bd (lp (m_divide_Small_l1 p0 p1) (0, 0, x4)) fun (v6, v7) =>
    bd (m_nat_Make v7) fun x22 =>
    some (x22.1, v6, 0))
def m_nat_Of (p0 : Int) : Option ((List Int)) :=
  bd (rm .u64 p0 4294967296) fun x1 =>
  bd (sr .u64 p0 32) fun x3 =>
  bd (m_nat_trim [x1, x3]) fun x5 =>
  some x5
def m_limb_Bits_l1 (p0 : Int) : (Int × Int) → Option ((Int × Int) ⊕ (Int))
  | (v2, v3) =>
    if decide (v3 < 32) then (
      bd (
        bd (sr .u64 p0 v3) fun x6 =>
        if decide ((Go.bits .and .u64 x6 1) = 1) then (
          some (wi64 (v3 + 1)))
        else (
          some v2)) fun v5 =>
      some (.inl (v5, wi64 (v3 + 1))))
    else (
      some (.inr v2))
def m_limb_Bits (p0 : Int) : Option (Int) :=
  bd (lp (m_limb_Bits_l1 p0) (0, 0)) fun v1 =>
  some v1
def m_nat_shift (p0 : Int) : Option (Int) :=
  bd (
    if decide (p0 < 0) then (
      some true)
    else (
      some (decide (100000 < p0)))) fun v1 =>
  if v1 then (
    some 2)
  else (
    some 0)
def m_nat_Shl_l1 (p0 : (List Int)) (p1 : Int) : (Int × (List Int)) → Option ((Int × (List Int)) ⊕ ((List Int)))
  | (v11, v12) =>
    if decide (v11 < (p0.length : Int)) then (
      bd (rd p0 v11) fun x14 =>
      bd (qd .i64 p1 32) fun x16 =>
      bd (rm .i64 p1 32) fun x18 =>
      bd (sh .u64 x14 x18) fun x20 =>
      bd (rd v12 (wi64 (v11 + x16))) fun x22 =>
      bd (rm .u64 x20 4294967296) fun x24 =>
      bd (ix v12 (wi64 (v11 + x16))) fun j26 =>
      lt (v12.set j26 (Go.bits .or .u64 x22 x24)) fun x28 =>
      bd (sr .u64 x20 32) fun x30 =>
      bd (ix x28 (wi64 ((wi64 (v11 + x16)) + 1))) fun j32 =>
      lt (x28.set j32 x30) fun x34 =>
      some (.inl (wi64 (v11 + 1), x34)))
    else (
      some (.inr v12))
def m_nat_Shl (p0 : (List Int)) (p1 : Int) : Option ((List Int) × Int) :=
  bd (m_nat_shift p1) fun x1 =>
  bd (
    if !decide (x1 = 0) then (
      some true)
    else (
      some (decide ((p0.length : Int) = 0)))) fun v3 =>
  if v3 then (
    some ([], x1))
  else (
    bd (qd .i64 p1 32) fun x6 =>
    bd (mk 8 0 (wi64 ((wi64 ((p0.length : Int) + x6)) + 1)) (wi64 ((wi64 ((p0.length : Int) + x6)) + 1))) fun x8 =>
    bd (lp (m_nat_Shl_l1 p0 p1) (0, x8)) fun v10 =>
    bd (m_nat_trim v10) fun x36 =>
    some (x36, 0))
/- not shown: copy -/
def m_divide_knuth (p0 : (List Int)) (p1 : (List Int)) : Option ((List Int) × (List Int)) := none
def m_divide_Div (p0 : (List Int)) (p1 : (List Int)) : Option ((List Int) × (List Int) × Int) :=
  if decide ((p1.length : Int) = 0) then (
    some ([], [], 3))
  else (
    bd (
      bd (m_nat_May p0) fun x3 =>
      if !x3 then (
        some true)
      else (
        bd (m_nat_May p1) fun x6 =>
        some (!x6))) fun v2 =>
    if v2 then (
      some ([], [], 2))
    else (
      bd (m_nat_Cmp p0 p1) fun x9 =>
      if decide (x9 < 0) then (
        bd (m_nat_Make p0) fun x12 =>
        some ([], x12.1, x12.2))
      else (
        if decide ((p1.length : Int) = 1) then (
          bd (rd p1 0) fun x15 =>
          bd (m_divide_Small p0 x15) fun x17 =>
          bd (m_nat_Of x17.2.1) fun x19 =>
          some (x17.1, x19, x17.2.2))
        else (
          bd (m_divide_knuth p0 p1) fun x21 =>
          some (x21.1, x21.2, 0)))))
def m_divide_Mod (p0 : (List Int)) (p1 : (List Int)) : Option ((List Int) × Int) :=
  bd (m_divide_Div p0 p1) fun x1 =>
  some (x1.2.1, x1.2.2)
def m_gcd_Euclid_l1  : ((List Int) × (List Int)) → Option (((List Int) × (List Int)) ⊕ ((List Int)))
  | (v6, v7) =>
    if decide (0 < (v7.length : Int)) then (
      bd (m_divide_Mod v6 v7) fun x9 =>
      some (.inl (v7, x9.1)))
    else (
      some (.inr v6))
def m_gcd_Euclid (p0 : (List Int)) (p1 : (List Int)) : Option ((List Int)) :=
  bd (m_nat_Make p0) fun x1 =>
  bd (m_nat_Make p1) fun x3 =>
  bd (lp (m_gcd_Euclid_l1) (x1.1, x3.1)) fun v5 =>
  some v5
def m_gcd_Coprime (p0 : (List Int)) (p1 : (List Int)) : Option (Bool) :=
  bd (m_gcd_Euclid p0 p1) fun x1 =>
  bd (m_nat_Of 1) fun x3 =>
  bd (m_nat_Cmp x1 x3) fun x5 =>
  some (decide (x5 = 0))
def m_rat_May (p0 : D_api_Rat) : Option (Bool) :=
  bd (
    bd (m_nat_May p0.1.2) fun x2 =>
    if !x2 then (
      some true)
    else (
      bd (m_nat_May p0.2) fun x5 =>
      if !x5 then (
        some true)
      else (
        some (decide ((p0.2.length : Int) = 0))))) fun v1 =>
  if v1 then (
    some false)
  else (
    bd (
      if p0.1.1 then (
        some (decide ((p0.1.2.length : Int) = 0)))
      else (
        some false)) fun v9 =>
    if v9 then (
      some false)
    else (
      bd (m_gcd_Coprime p0.1.2 p0.2) fun x12 =>
      some x12))
def m_whole_Sign (p0 : D_api_Int) : Option (Int) :=
  if decide ((p0.2.length : Int) = 0) then (
    some 0)
  else (
    if p0.1 then (
      some (-1))
    else (
      some 1))
def m_rat_Sign (p0 : D_api_Rat) : Option (Int) :=
  bd (m_whole_Sign (p0.1.1, p0.1.2)) fun x1 =>
  some x1
def m_nat_at (p0 : (List Int)) (p1 : Int) : Option (Int) :=
  if decide ((p0.length : Int) ≤ p1) then (
    some 0)
  else (
    bd (rd p0 p1) fun x2 =>
    some x2)
def m_limb_Add (p0 : Int) (p1 : Int) (p2 : Int) : Option (Int × Int) :=
  lt (wu64 ((wu64 ((Go.bits .and .u64 p0 4294967295) + (Go.bits .and .u64 p1 4294967295))) + (Go.bits .and .u64 p2 4294967295))) fun x1 =>
  bd (sr .u64 x1 32) fun x3 =>
  some (Go.bits .and .u64 x1 4294967295, x3)
def m_nat_Add_l1 (p0 : (List Int)) (p1 : (List Int)) (x1 : Int) : (Int × Int × (List Int)) → Option ((Int × Int × (List Int)) ⊕ (Int × (List Int)))
  | (v7, v8, v9) =>
    if decide (v8 < x1) then (
      bd (m_nat_at p0 v8) fun x11 =>
      bd (m_nat_at p1 v8) fun x13 =>
      bd (m_limb_Add x11 x13 v7) fun x15 =>
      bd (ix v9 v8) fun j17 =>
      lt (v9.set j17 x15.1) fun x19 =>
      some (.inl (x15.2, wi64 (v8 + 1), x19)))
    else (
      some (.inr (v7, v9)))
def m_nat_Add (p0 : (List Int)) (p1 : (List Int)) : Option ((List Int)) :=
  lt (max (p0.length : Int) (p1.length : Int)) fun x1 =>
  bd (mk 8 0 (wi64 (x1 + 1)) (wi64 (x1 + 1))) fun x3 =>
  bd (lp (m_nat_Add_l1 p0 p1 x1) (0, 0, x3)) fun (v5, v6) =>
  bd (ix v6 x1) fun j21 =>
  lt (v6.set j21 v5) fun x23 =>
  bd (m_nat_trim x23) fun x25 =>
  some x25
def m_whole_Made (p0 : Bool) (p1 : (List Int)) : Option (D_api_Int) :=
  bd (m_nat_Make p1) fun x1 =>
  if p0 then (
    some (decide (0 < (x1.1.length : Int)), x1.1))
  else (
    some (false, x1.1))
def m_whole_Of (p0 : Int) : Option (D_api_Int) :=
  if decide (p0 < 0) then (
    bd (m_nat_Of (wu64 (wi64 (0 - (wi64 (p0 + 1)))))) fun x2 =>
    bd (m_nat_Of 1) fun x4 =>
    bd (m_nat_Add x2 x4) fun x6 =>
    bd (m_whole_Made true x6) fun x8 =>
    some (x8.1, x8.2))
  else (
    bd (m_nat_Of (wu64 p0)) fun x10 =>
    bd (m_whole_Made false x10) fun x12 =>
    some (x12.1, x12.2))
def m_rat_one  : Option ((List Int)) :=
  bd (m_nat_Of 1) fun x1 =>
  some x1
def m_rat_Of (p0 : Int) : Option (D_api_Rat) :=
  bd (m_whole_Of p0) fun x1 =>
  bd (m_rat_one) fun x3 =>
  some ((x1.1, x1.2), x3)
def m_rat_up (p0 : D_api_Rat) : Option (D_api_Int) :=
  bd (m_whole_Made false p0.2) fun x1 =>
  some (x1.1, x1.2)
def m_limb_Mul (p0 : Int) (p1 : Int) (p2 : Int) (p3 : Int) : Option (Int × Int) :=
  lt (wu64 ((wu64 ((wu64 ((Go.bits .and .u64 p0 4294967295) * (Go.bits .and .u64 p1 4294967295))) + (Go.bits .and .u64 p2 4294967295))) + (Go.bits .and .u64 p3 4294967295))) fun x1 =>
  bd (sr .u64 x1 32) fun x3 =>
  some (Go.bits .and .u64 x1 4294967295, x3)
def m_mul_made (p0 : (List Int)) : Option ((List Int)) :=
  bd (m_nat_Make p0) fun x1 =>
  some x1.1
def m_mul_Long_l2 (p1 : (List Int)) (v4 : Int) (x8 : Int) : (Int × Int × (List Int)) → Option ((Int × Int × (List Int)) ⊕ (Int × (List Int)))
  | (v12, v13, v14) =>
    if decide (v13 < (p1.length : Int)) then (
      bd (rd p1 v13) fun x16 =>
      bd (rd v14 (wi64 (v4 + v13))) fun x18 =>
      bd (m_limb_Mul x8 x16 x18 v12) fun x20 =>
      bd (ix v14 (wi64 (v4 + v13))) fun j22 =>
      lt (v14.set j22 x20.1) fun x24 =>
      some (.inl (x20.2, wi64 (v13 + 1), x24)))
    else (
      some (.inr (v12, v14)))
def m_mul_Long_l1 (p0 : (List Int)) (p1 : (List Int)) : (Int × (List Int)) → Option ((Int × (List Int)) ⊕ ((List Int)))
  | (v4, v5) =>
    if decide (v4 < (p0.length : Int)) then (
      bd (
        bd (rd p0 v4) fun x8 =>
        bd (lp (m_mul_Long_l2 p1 v4 x8) (0, 0, v5)) fun (v10, v11) =>
        bd (ix v11 (wi64 (v4 + (p1.length : Int)))) fun j26 =>
        lt (v11.set j26 v10) fun x28 =>
        some x28) fun v7 =>
      some (.inl (wi64 (v4 + 1), v7)))
    else (
      some (.inr v5))
def m_mul_Long (p0 : (List Int)) (p1 : (List Int)) : Option ((List Int)) :=
  bd (mk 8 0 (wi64 ((p0.length : Int) + (p1.length : Int))) (wi64 ((p0.length : Int) + (p1.length : Int)))) fun x1 =>
  bd (lp (m_mul_Long_l1 p0 p1) (0, x1)) fun v3 =>
  bd (m_mul_made v3) fun x30 =>
  some x30
def m_mul_cut (p0 : (List Int)) (p1 : Int) : Option ((List Int) × (List Int)) :=
  bd (ct p0 0 (min p1 (p0.length : Int))) fun x1 =>
  bd (m_mul_made x1) fun x3 =>
  bd (ct p0 (min p1 (p0.length : Int)) p0.length) fun x5 =>
  bd (m_mul_made x5) fun x7 =>
  some (x3, x7)
/- not shown: recursive trivium/mul.Short -/
def m_mul_Short (p0 : (List Int)) (p1 : (List Int)) : Option ((List Int)) := none
def m_mul_Mul (p0 : (List Int)) (p1 : (List Int)) : Option ((List Int)) :=
  bd (m_mul_Short p0 p1) fun x1 =>
  some x1
def m_whole_Mul (p0 : D_api_Int) (p1 : D_api_Int) : Option (D_api_Int) :=
  bd (m_mul_Mul p0.2 p1.2) fun x1 =>
  bd (m_whole_Made (!(p0.1 == p1.1)) x1) fun x3 =>
  some (x3.1, x3.2)
def m_whole_Cmp (p0 : D_api_Int) (p1 : D_api_Int) : Option (Int) :=
  bd (m_whole_Sign (p0.1, p0.2)) fun x1 =>
  bd (m_whole_Sign (p1.1, p1.2)) fun x3 =>
  if decide (x1 < x3) then (
    some (-1))
  else (
    if decide (x3 < x1) then (
      some 1)
    else (
      bd (m_nat_Cmp p0.2 p1.2) fun x7 =>
      some (wi64 (x1 * x7))))
def m_rat_Cmp (p0 : D_api_Rat) (p1 : D_api_Rat) : Option (Int) :=
  bd (m_rat_up ((p1.1.1, p1.1.2), p1.2)) fun x1 =>
  bd (m_whole_Mul (p0.1.1, p0.1.2) x1) fun x3 =>
  bd (m_rat_up ((p0.1.1, p0.1.2), p0.2)) fun x5 =>
  bd (m_whole_Mul (p1.1.1, p1.1.2) x5) fun x7 =>
  bd (m_whole_Cmp x3 x7) fun x9 =>
  some x9
def m_formed_partsRight_1 (p0 : D_api_Link) : Option (Bool) :=
  bd (m_rat_May ((p0.2.2.2.1.1, p0.2.2.2.1.2), p0.2.2.2.2)) fun x1 =>
  if !x1 then (
    some true)
  else (
    bd (m_rat_Sign ((p0.2.2.2.1.1, p0.2.2.2.1.2), p0.2.2.2.2)) fun x4 =>
    if decide (x4 < 0) then (
      some true)
    else (
      bd (m_rat_Of 1) fun x7 =>
      bd (m_rat_Cmp ((p0.2.2.2.1.1, p0.2.2.2.1.2), p0.2.2.2.2) x7) fun x9 =>
      some (decide (0 < x9))))
def m_slices_IndexFunc_api_Link_api_Link__formed_partsRight_1_l1 (p0 : (List D_api_Link)) : Int → Option ((Int) ⊕ (Int))
  | v1 =>
    if decide (v1 < (p0.length : Int)) then (
      bd (rd p0 v1) fun x3 =>
      bd (m_formed_partsRight_1 x3) fun x5 =>
      if x5 then (
        some (.inr v1))
      else (
        some (.inl (wi64 (v1 + 1)))))
    else (
      some (.inr (-1)))
def m_slices_IndexFunc_api_Link_api_Link__formed_partsRight_1 (p0 : (List D_api_Link)) : Option (Int) :=
  lp (m_slices_IndexFunc_api_Link_api_Link__formed_partsRight_1_l1 p0) 0
def m_slices_ContainsFunc_api_Link_api_Link__formed_partsRight_1 (p0 : (List D_api_Link)) : Option (Bool) :=
  bd (m_slices_IndexFunc_api_Link_api_Link__formed_partsRight_1 p0) fun x1 =>
  some (decide (0 ≤ x1))
def m_formed_partsRight (p0 : D_api_Net) : Option (Bool) :=
  bd (m_slices_ContainsFunc_api_Link_api_Link__formed_partsRight_1 p0.2.2.1) fun x1 =>
  some (!x1)
def m_formed_rulesRight_l1 (p0 : D_api_Net) : (Int × (List (D_formed_key × Bool))) → Option ((Int × (List (D_formed_key × Bool))) ⊕ (Bool))
  | (v1, v2) =>
    if decide (v1 < (p0.2.2.2.length : Int)) then (
      bd (rd p0.2.2.2 v1) fun x4 =>
      bd (m_formed_Node (p0.1, p0.2.1, p0.2.2.1, p0.2.2.2) x4.1) fun x6 =>
      bd (
        if !x6.2 then (
          some true)
        else (
          bd (m_addr_May (x4.2.1.1, x4.2.1.2)) fun x10 =>
          if !x10 then (
            some true)
          else (
            some ((mget E_formed_key false v2 (x4.1, (x4.2.1.1, x4.2.1.2))).1)))) fun v8 =>
      if v8 then (
        some (.inr false))
      else (
        lt (mput E_formed_key v2 (x4.1, (x4.2.1.1, x4.2.1.2)) true) fun x14 =>
        some (.inl (wi64 (v1 + 1), x14))))
    else (
      some (.inr true))
def m_formed_rulesRight (p0 : D_api_Net) : Option (Bool) :=
  lp (m_formed_rulesRight_l1 p0) (0, [])
def m_formed_groupsRight_1 (p0 : (List D_api_Hop)) : Option (Bool) :=
  some (decide ((p0.length : Int) = 0))
def m_slices_IndexFunc_api_Hop_api_Hop__formed_groupsRight_1_l1 (p0 : (List (List D_api_Hop))) : Int → Option ((Int) ⊕ (Int))
  | v1 =>
    if decide (v1 < (p0.length : Int)) then (
      bd (rd p0 v1) fun x3 =>
      bd (m_formed_groupsRight_1 x3) fun x5 =>
      if x5 then (
        some (.inr v1))
      else (
        some (.inl (wi64 (v1 + 1)))))
    else (
      some (.inr (-1)))
def m_slices_IndexFunc_api_Hop_api_Hop__formed_groupsRight_1 (p0 : (List (List D_api_Hop))) : Option (Int) :=
  lp (m_slices_IndexFunc_api_Hop_api_Hop__formed_groupsRight_1_l1 p0) 0
def m_slices_ContainsFunc_api_Hop_api_Hop__formed_groupsRight_1 (p0 : (List (List D_api_Hop))) : Option (Bool) :=
  bd (m_slices_IndexFunc_api_Hop_api_Hop__formed_groupsRight_1 p0) fun x1 =>
  some (decide (0 ≤ x1))
def m_formed_groupsRight_l1 (p0 : D_api_Net) : Int → Option ((Int) ⊕ (Bool))
  | v1 =>
    if decide (v1 < (p0.2.2.2.length : Int)) then (
      bd (rd p0.2.2.2 v1) fun x3 =>
      bd (
        if !(x3.2.2.1 == (decide ((x3.2.2.2.length : Int) = 0))) then (
          some true)
        else (
          bd (m_slices_ContainsFunc_api_Hop_api_Hop__formed_groupsRight_1 x3.2.2.2) fun x7 =>
          some x7)) fun v5 =>
      if v5 then (
        some (.inr false))
      else (
        some (.inl (wi64 (v1 + 1)))))
    else (
      some (.inr true))
def m_formed_groupsRight (p0 : D_api_Net) : Option (Bool) :=
  lp (m_formed_groupsRight_l1 p0) 0
def m_formed_Link_1 (p0 : D_api_Link) (p1 : ByteArray) : Option (Bool) :=
  some (sq p0.1 p1)
def m_slices_IndexFunc_api_Link_api_Link__formed_Link_1_l1 (p0 : (List D_api_Link)) (p1_0 : ByteArray) : Int → Option ((Int) ⊕ (Int))
  | v1 =>
    if decide (v1 < (p0.length : Int)) then (
      bd (rd p0 v1) fun x3 =>
      bd (m_formed_Link_1 x3 p1_0) fun x5 =>
      if x5 then (
        some (.inr v1))
      else (
        some (.inl (wi64 (v1 + 1)))))
    else (
      some (.inr (-1)))
def m_slices_IndexFunc_api_Link_api_Link__formed_Link_1 (p0 : (List D_api_Link)) (p1_0 : ByteArray) : Option (Int) :=
  lp (m_slices_IndexFunc_api_Link_api_Link__formed_Link_1_l1 p0 p1_0) 0
def m_formed_Link (p0 : D_api_Net) (p1 : ByteArray) : Option (Int × Bool) :=
  bd (m_slices_IndexFunc_api_Link_api_Link__formed_Link_1 p0.2.2.1 p1) fun x1 =>
  some (max x1 0, decide (0 ≤ x1))
def m_formed_hopsRight_l3 (p0 : D_api_Net) (x3 : D_api_Rule) (v5 : Int) (x7 : (List D_api_Hop)) : (Int × (List ByteArray)) → Option ((Int × (List ByteArray)) ⊕ ((Int) ⊕ ((Int) ⊕ (Bool))))
  | (v9, v10) =>
    if decide (v9 < (x7.length : Int)) then (
      bd (rd x7 v9) fun x12 =>
      bd (m_formed_Link (p0.1, p0.2.1, p0.2.2.1, p0.2.2.2) x12.1) fun x14 =>
      bd (
        if !x14.2 then (
          some true)
        else (
          bd (rd p0.2.2.1 x14.1) fun x18 =>
          if !sq x18.2.1 x3.1 then (
            some true)
          else (
            some (decide (x12.2 < 1))))) fun v16 =>
      if v16 then (
        some (.inr (.inr (.inr false))))
      else (
        bd (ap 16 v10 [x12.1]) fun x22 =>
        some (.inl (wi64 (v9 + 1), x22))))
    else (
      bd (m_name_Twice v10) fun x24 =>
      if x24.2 then (
        some (.inr (.inr (.inr false))))
      else (
        some (.inr (.inl (wi64 (v5 + 1))))))
def m_formed_hopsRight_l2 (p0 : D_api_Net) (v1 : Int) (x3 : D_api_Rule) : Int → Option ((Int) ⊕ ((Int) ⊕ (Bool)))
  | v5 =>
    if decide (v5 < (x3.2.2.2.length : Int)) then (
      bd (rd x3.2.2.2 v5) fun x7 =>
      lp (m_formed_hopsRight_l3 p0 x3 v5 x7) (0, []))
    else (
      some (.inr (.inl (wi64 (v1 + 1)))))
def m_formed_hopsRight_l1 (p0 : D_api_Net) : Int → Option ((Int) ⊕ (Bool))
  | v1 =>
    if decide (v1 < (p0.2.2.2.length : Int)) then (
      bd (rd p0.2.2.2 v1) fun x3 =>
      lp (m_formed_hopsRight_l2 p0 v1 x3) 0)
    else (
      some (.inr true))
def m_formed_hopsRight (p0 : D_api_Net) : Option (Bool) :=
  lp (m_formed_hopsRight_l1 p0) 0
def m_formed_net (p0 : D_api_Net) : Option (Int) :=
  bd (m_formed_nodesRight (p0.1, p0.2.1, p0.2.2.1, p0.2.2.2)) fun x1 =>
  if !x1 then (
    some 2)
  else (
    bd (m_formed_homesRight (p0.1, p0.2.1, p0.2.2.1, p0.2.2.2)) fun x4 =>
    if !x4 then (
      some 3)
    else (
      bd (m_formed_linksRight (p0.1, p0.2.1, p0.2.2.1, p0.2.2.2)) fun x7 =>
      if !x7 then (
        some 4)
      else (
        bd (m_formed_endsRight (p0.1, p0.2.1, p0.2.2.1, p0.2.2.2)) fun x10 =>
        if !x10 then (
          some 5)
        else (
          bd (m_formed_partsRight (p0.1, p0.2.1, p0.2.2.1, p0.2.2.2)) fun x13 =>
          if !x13 then (
            some 6)
          else (
            bd (m_formed_rulesRight (p0.1, p0.2.1, p0.2.2.1, p0.2.2.2)) fun x16 =>
            if !x16 then (
              some 7)
            else (
              bd (m_formed_groupsRight (p0.1, p0.2.1, p0.2.2.1, p0.2.2.2)) fun x19 =>
              if !x19 then (
                some 8)
              else (
                bd (m_formed_hopsRight (p0.1, p0.2.1, p0.2.2.1, p0.2.2.2)) fun x22 =>
                if !x22 then (
                  some 9)
                else (
                  some 0))))))))
def m_formed_Nets_l1 (p0 : (List D_api_Net)) : (Int × (List ByteArray)) → Option ((Int × (List ByteArray)) ⊕ ((List ByteArray)))
  | (v2, v3) =>
    if decide (v2 < (p0.length : Int)) then (
      bd (rd p0 v2) fun x5 =>
      bd (ap 16 v3 [x5.1]) fun x7 =>
      some (.inl (wi64 (v2 + 1), x7)))
    else (
      some (.inr v3))
def m_formed_Nets_l2 (p0 : (List D_api_Net)) : Int → Option ((Int) ⊕ (Int))
  | v12 =>
    if decide (v12 < (p0.length : Int)) then (
      bd (rd p0 v12) fun x14 =>
      bd (m_formed_net (x14.1, x14.2.1, x14.2.2.1, x14.2.2.2)) fun x16 =>
      if !decide (x16 = 0) then (
        some (.inr x16))
      else (
        some (.inl (wi64 (v12 + 1)))))
    else (
      some (.inr 0))
def m_formed_Nets (p0 : (List D_api_Net)) : Option (Int) :=
  bd (lp (m_formed_Nets_l1 p0) (0, [])) fun v1 =>
  bd (m_formed_named v1) fun x9 =>
  if !x9 then (
    some 1)
  else (
    lp (m_formed_Nets_l2 p0) 0)
def m_triviumlaw23_works  : Option (Bool) :=
  bd (m_formed_Nets [((bs [97]), [], [], []), ((bs [97]), [], [], [])]) fun x1 =>
  if decide (x1 = 1) then (
    bd (m_formed_Nets [((bs [97]), [], [], [])]) fun x4 =>
    some (decide (x4 = 0)))
  else (
    some false)
def m_triviumlaw23_FormQueries_l1 (p1 : (List D_api_Query)) (x1 : (List D_api_Net)) : (Bool × Int × (List D_api_Query)) → Option ((Bool × Int × (List D_api_Query)) ⊕ (Bool))
  | (v3, v4, v5) =>
    bd (
      if decide (v4 < (p1.length : Int)) then (
        some (decide (v4 < 8)))
      else (
        some false)) fun v6 =>
    if v6 then (
      bd (rd p1 v4) fun x9 =>
      bd (m_triviumref22_CleanQuery x9) fun x11 =>
      bd (ap 88 v5 [(x11.1, x11.2.1, x11.2.2.1, x11.2.2.2.1, x11.2.2.2.2.1, (x11.2.2.2.2.2.1.1, x11.2.2.2.2.2.1.2), x11.2.2.2.2.2.2)]) fun x13 =>
      bd (
        if v3 then (
          bd (m_triviumref23_Query x1 (x11.1, x11.2.1, x11.2.2.1, x11.2.2.2.1, x11.2.2.2.2.1, (x11.2.2.2.2.2.1.1, x11.2.2.2.2.2.1.2), x11.2.2.2.2.2.2)) fun x17 =>
          some x17)
        else (
          some false)) fun v15 =>
      bd (m_formed_Query x1 (x11.1, x11.2.1, x11.2.2.1, x11.2.2.2.1, x11.2.2.2.2.1, (x11.2.2.2.2.2.1.1, x11.2.2.2.2.2.1.2), x11.2.2.2.2.2.2)) fun x19 =>
      bd (m_triviumref23_Query x1 (x11.1, x11.2.1, x11.2.2.1, x11.2.2.2.1, x11.2.2.2.2.1, (x11.2.2.2.2.2.1.1, x11.2.2.2.2.2.1.2), x11.2.2.2.2.2.2)) fun x21 =>
      if !(x19 == x21) then (
        some (.inr false))
      else (
        some (.inl (v15, wi64 (v4 + 1), x13))))
    else (
      bd (m_formed_Queries x1 v5) fun x24 =>
      if x24 == v3 then (
        bd (m_triviumlaw23_works) fun x27 =>
        some (.inr x27))
      else (
        some (.inr false)))
def m_triviumlaw23_FormQueries (p0 : (List D_api_Net)) (p1 : (List D_api_Query)) : Option (Bool) :=
  bd (m_triviumref22_Clean p0) fun x1 =>
  lp (m_triviumlaw23_FormQueries_l1 p1 x1) (true, 0, [])
end
end Go.Proofs.YtbmogniipgmkiaaGreat.AP
/- The code comes to the printed functions (printed by a program of ours). -/
namespace Go.Proofs.YtbmogniipgmkiaaGreat.AE
open Go Go.RowKit Go.Proofs.YtbmogniipgmkiaaGreat.AP
set_option linter.unusedVariables false
set_option maxRecDepth 20000
theorem k_triviumref22_short {p0 : ByteArray} {y : ByteArray} (h : m_triviumref22_short p0 = some y) : Spec Tryz.prog 19 [(.v .str p0)] (.v .str y) [] := by
  rw [m_triviumref22_short] at h
  refine enterN [(.v .str p0)] 8 Tryz.func19 rfl rfl rfl ?_
  refine T.seq ?_
  refine T.region ?_
  refine Run.go (Ev.assign rfl rfl) ?_
  refine Run.nil ?_
  refine T.seq ?_
  refine T.region ?_
  refine Run.go (Ev.move rfl rfl) ?_
  refine Run.go (Ev.move rfl rfl) ?_
  refine Run.go (Ev.len X rfl rfl rfl rfl) ?_
  refine Run.go (Ev.min rfl rfl rfl) ?_
  obtain ⟨x1, e2, h⟩ := bdS h
  refine Run.go (Ev.e_cs X e2 rfl rfl rfl (fun _ h => by cases h) (fun _ => rfl) (fun _ _ => cutAt_of rfl) (fun h => by cases h)) ?_
  refine Run.go (Ev.assign rfl rfl) ?_
  refine Run.nil ?_
  refine T.ret ?_
  cases h
  exact Fin.one rfl .v
theorem en19 : Enters Tryz.prog 19 := ⟨_, Tryz.func19, rfl, rfl⟩
theorem k_triviumref02_Clean {p0 : (List Int)} {p1 : Int} {y : (List Int)} (h : m_triviumref02_Clean p0 p1 = some y) : Spec Tryz.prog 37 [(.v (.sl (.int .u64)) p0), (.v (.int .i64) p1)] (.v (.sl (.int .u64)) y) [] := by
  rw [m_triviumref02_Clean] at h
  refine enterN [(.v (.sl (.int .u64)) p0), (.v (.int .i64) p1)] 45 Tryz.func37 rfl rfl rfl ?_
  refine T.seq ?_
  refine T.region ?_
  refine Run.go (Ev.assign rfl rfl) ?_
  refine Run.nil ?_
  refine T.seq ?_
  refine T.region ?_
  refine Run.go (Ev.build X 1 rfl rfl rfl rfl rfl rfl rfl rfl) ?_
  refine Run.go (Ev.assign rfl rfl) ?_
  refine Run.nil ?_
  obtain ⟨v1, hv, h⟩ := bdS h
  refine T.cut (fun _ : Unit => (⟨[(5, .own 6)], [(6, .arr 81 (.int .u64) v1)], 45⟩ : St)) (fun _ => True) ?_ (fun _ _ => ?_)
  · replace h := hv
    clear hv
    refine T.seq ?_
    refine T.region ?_
    refine Run.go (Ev.assign rfl rfl) ?_
    refine Run.nil ?_
    refine T.block ?_
    refine T.loop (LoopT.ghost (Ghost.only [(1, 19)] [0, 1, 5, 6] rfl) (LoopT.run (fun q : Int × (List Int) => (⟨[(0, .v (.sl (.int .u64)) p0), (1, .v (.int .i64) p1), (5, .own 19), (6, .v (.int .i64) q.1)], [(19, .arr 81 (.int .u64) q.2)], 45⟩ : St)) (fun q z1 h hz1 => ?_) h))
    obtain ⟨v2, v3⟩ := q
    dsimp only
    rw [m_triviumref02_Clean_l1] at h
    refine T.seq ?_
    obtain ⟨v4, hv, h⟩ := bdS h
    refine T.cut (fun _ : Unit => (⟨[(0, .v (.sl (.int .u64)) p0), (1, .v (.int .i64) p1), (5, .own 19), (6, .v (.int .i64) v2), (16, .v .bool v4)], [(19, .arr 81 (.int .u64) v3)], 45⟩ : St)) (fun _ => True) ?_ (fun _ _ => ?_)
    · replace h := hv
      clear hv
      refine T.region ?_
      refine Run.go (Ev.move rfl rfl) ?_
      refine Run.go (Ev.move rfl rfl) ?_
      refine Run.go (Ev.len X rfl rfl rfl rfl) ?_
      refine Run.go (Ev.int rfl rfl rfl rfl trivial) ?_
      refine Run.go (Ev.move rfl rfl) ?_
      rcases boolCases (decide (v2 < (p0.length : Int))) with hb5 | hb5
      · replace h := ifT hb5 h
        refine Run.on rfl rfl rfl hb5 (Ev.move rfl rfl) ?_
        refine Run.on rfl rfl rfl hb5 (Ev.move rfl rfl) ?_
        refine Run.on rfl rfl rfl hb5 (Ev.int rfl rfl rfl rfl trivial) ?_
        refine Run.go (Ev.pickT rfl hb5 rfl rfl) ?_
        refine Run.nil ?_
        cases h
        exact ⟨(), trivial, Ghost.only [(19, 19)] [0, 1, 5, 6, 16] rfl⟩
      · replace h := ifF hb5 h
        refine Run.offT rfl rfl rfl rfl hb5 ?_
        refine Run.offT rfl rfl rfl rfl hb5 ?_
        refine Run.offT rfl rfl rfl rfl hb5 ?_
        refine Run.go (Ev.pickF rfl hb5 rfl rfl) ?_
        refine Run.nil ?_
        cases h
        exact ⟨(), trivial, Ghost.only [(19, 19)] [0, 1, 5, 6, 16] rfl⟩
    · refine T.cond rfl (fun hb6 => ?_) (fun hb6 => ?_)
      · replace h := ifT hb6 h
        refine T.skip ?_
        refine T.seq ?_
        refine T.block ?_
        refine T.region ?_
        refine Run.go (Ev.move rfl rfl) ?_
        refine Run.go (Ev.move rfl rfl) ?_
        refine Run.go (Ev.move rfl rfl) ?_
        obtain ⟨x7, e8, h⟩ := bdS h
        refine Run.go (Ev.e_rd X e8 rfl rfl rfl rfl) ?_
        refine Run.go (Ev.load X rfl rfl rfl) ?_
        obtain ⟨x9, e10, h⟩ := bdS h
        refine Run.go (Ev.e_rm e10 rfl rfl rfl) ?_
        refine Run.go (Ev.build X 25 rfl rfl rfl rfl rfl rfl rfl rfl) ?_
        obtain ⟨x11, e12, h⟩ := bdS h
        refine Run.go (Ev.e_ap X 26 e12 rfl rfl rfl (.own rfl) rfl rfl rfl rfl rfl) ?_
        refine Run.go (Ev.assign rfl rfl) ?_
        refine Run.nil ?_
        refine T.region ?_
        refine Run.go (Ev.move rfl rfl) ?_
        refine Run.go (Ev.int rfl rfl rfl rfl trivial) ?_
        refine Run.go (Ev.assign rfl rfl) ?_
        refine Run.nil ?_
        cases h
        exact LoopT.ghost (Ghost.only [(26, 19)] [0, 1, 5, 6] rfl) hz1
      · replace h := ifF hb6 h
        refine T.exit ?_
        cases h
        cases hz1
        exact ⟨(), trivial, Ghost.only [(19, 6)] [5] rfl⟩
  · obtain ⟨v13, hv, h⟩ := bdS h
    refine T.cut (fun _ : Unit => (⟨[(5, .v (.sl (.int .u64)) v13)], [], 45⟩ : St)) (fun _ => True) ?_ (fun _ _ => ?_)
    · replace h := hv
      clear hv
      refine T.block ?_
      refine T.loop (LoopT.ghost (Ghost.trans (Ghost.firmAll (id := 6) rfl) (Ghost.only [] [5] rfl)) (LoopT.run (fun q : (List Int) => (⟨[(5, .v (.sl (.int .u64)) q)], [], 45⟩ : St)) (fun v14 z1 h hz1 => ?_) h))
      rw [m_triviumref02_Clean_l2] at h
      refine T.seq ?_
      obtain ⟨v15, hv, h⟩ := bdS h
      refine T.cut (fun _ : Unit => (⟨[(5, .v (.sl (.int .u64)) v14), (38, .v .bool v15)], [], 45⟩ : St)) (fun _ => True) ?_ (fun _ _ => ?_)
      · replace h := hv
        clear hv
        refine T.region ?_
        refine Run.go (Ev.move rfl rfl) ?_
        refine Run.go (Ev.len X rfl rfl rfl rfl) ?_
        refine Run.go (Ev.int rfl rfl rfl rfl trivial) ?_
        refine Run.go (Ev.move rfl rfl) ?_
        rcases boolCases (decide (0 < (v14.length : Int))) with hb16 | hb16
        · replace h := ifT hb16 h
          refine Run.on rfl rfl rfl hb16 (Ev.move rfl rfl) ?_
          refine Run.on rfl rfl rfl hb16 (Ev.move rfl rfl) ?_
          refine Run.on rfl rfl rfl hb16 (Ev.len X rfl rfl rfl rfl) ?_
          refine Run.on rfl rfl rfl hb16 (Ev.int rfl rfl rfl rfl trivial) ?_
          obtain ⟨x17, e18, h⟩ := bdS h
          refine Run.on rfl rfl rfl hb16 (Ev.e_rd X e18 rfl rfl rfl rfl) ?_
          refine Run.on rfl rfl rfl hb16 (Ev.load X rfl rfl rfl) ?_
          refine Run.on rfl rfl rfl hb16 (Ev.int rfl rfl rfl rfl trivial) ?_
          refine Run.go (Ev.pickT rfl hb16 rfl rfl) ?_
          refine Run.nil ?_
          cases h
          exact ⟨(), trivial, Ghost.only [] [5, 38] rfl⟩
        · replace h := ifF hb16 h
          refine Run.offT rfl rfl rfl rfl hb16 ?_
          refine Run.offT rfl rfl rfl rfl hb16 ?_
          refine Run.offT rfl rfl rfl rfl hb16 ?_
          refine Run.offT rfl rfl rfl rfl hb16 ?_
          refine Run.offT rfl rfl rfl rfl hb16 ?_
          refine Run.offT rfl rfl rfl rfl hb16 ?_
          refine Run.offT rfl rfl rfl rfl hb16 ?_
          refine Run.go (Ev.pickF rfl hb16 rfl rfl) ?_
          refine Run.nil ?_
          cases h
          exact ⟨(), trivial, Ghost.only [] [5, 38] rfl⟩
      · refine T.cond rfl (fun hb19 => ?_) (fun hb19 => ?_)
        · replace h := ifT hb19 h
          refine T.skip ?_
          refine T.block ?_
          refine T.region ?_
          refine Run.go (Ev.move rfl rfl) ?_
          refine Run.go (Ev.move rfl rfl) ?_
          refine Run.go (Ev.len X rfl rfl rfl rfl) ?_
          refine Run.go (Ev.int rfl rfl rfl rfl trivial) ?_
          obtain ⟨x20, e21, h⟩ := bdS h
          refine Run.go (Ev.e_ct X e21 rfl rfl rfl (fun _ h => by cases h) (fun _ => rfl) (fun _ _ => cutAt_of rfl) (fun h => by cases h)) ?_
          refine Run.go (Ev.assign rfl rfl) ?_
          refine Run.nil ?_
          cases h
          exact LoopT.ghost (Ghost.only [] [5] rfl) hz1
        · replace h := ifF hb19 h
          refine T.exit ?_
          cases h
          cases hz1
          exact ⟨(), trivial, Ghost.only [] [5] rfl⟩
    · refine T.seq ?_
      refine T.region ?_
      refine Run.go (Ev.move rfl rfl) ?_
      refine Run.go (Ev.assign rfl rfl) ?_
      refine Run.nil ?_
      refine T.ret ?_
      cases h
      exact Fin.one rfl .v
theorem en37 : Enters Tryz.prog 37 := ⟨_, Tryz.func37, rfl, rfl⟩
theorem k_triviumref07_Clean {p0 : D_api_Int} {p1 : Int} {y : D_api_Int} (h : m_triviumref07_Clean p0 p1 = some y) : Spec Tryz.prog 41 [(.v Y_api_Int p0), (.v (.int .i64) p1)] (.v Y_api_Int y) [] := by
  rw [m_triviumref07_Clean] at h
  refine enterN [(.v Y_api_Int p0), (.v (.int .i64) p1)] 19 Tryz.func41 rfl rfl rfl ?_
  refine T.seq ?_
  refine T.region ?_
  refine Run.go (Ev.box 1 rfl rfl rfl rfl) ?_
  refine Run.go (Ev.allocN X 2 rfl rfl rfl) ?_
  refine Run.nil ?_
  refine T.seq ?_
  refine T.region ?_
  refine Run.go (Ev.fieldBox X rfl rfl rfl rfl rfl) ?_
  refine Run.go (Ev.loadCell X rfl rfl rfl rfl rfl rfl) ?_
  refine Run.go (Ev.move rfl rfl) ?_
  obtain ⟨x1, e2, h⟩ := bdS h
  refine Run.go (Ev.callC en37 (k_triviumref02_Clean e2) rfl (.cons .v (.cons .v .nil)) rfl rfl) ?_
  refine Run.go (Ev.assign rfl rfl) ?_
  refine Run.nil ?_
  refine T.seq ?_
  refine T.region ?_
  refine Run.go (Ev.fieldBox X rfl rfl rfl rfl rfl) ?_
  refine Run.go (Ev.loadCell X rfl rfl rfl rfl rfl rfl) ?_
  refine Run.go (Ev.move rfl rfl) ?_
  rcases boolCases p0.1 with hb3 | hb3
  · replace h := ifT hb3 h
    refine Run.on rfl rfl rfl hb3 (Ev.move rfl rfl) ?_
    refine Run.on rfl rfl rfl hb3 (Ev.len X rfl rfl rfl rfl) ?_
    refine Run.on rfl rfl rfl hb3 (Ev.int rfl rfl rfl rfl trivial) ?_
    refine Run.go (Ev.pickT rfl hb3 rfl rfl) ?_
    refine Run.go (Ev.move rfl rfl) ?_
    refine Run.go (Ev.struct X pl56 rfl rfl rfl rfl rfl rfl rfl rfl) ?_
    refine Run.do_ (Ev.storeBox X rfl rfl rfl rfl rfl rfl rfl) ?_
    refine Run.nil ?_
    refine T.ret ?_
    cases h
    exact Fin.cell X rfl rfl rfl rfl rfl
  · replace h := ifF hb3 h
    refine Run.offT rfl rfl rfl rfl hb3 ?_
    refine Run.offT rfl rfl rfl rfl hb3 ?_
    refine Run.offT rfl rfl rfl rfl hb3 ?_
    refine Run.go (Ev.pickF rfl hb3 rfl rfl) ?_
    refine Run.go (Ev.move rfl rfl) ?_
    refine Run.go (Ev.struct X pl56 rfl rfl rfl rfl rfl rfl rfl rfl) ?_
    refine Run.do_ (Ev.storeBox X rfl rfl rfl rfl rfl rfl rfl) ?_
    refine Run.nil ?_
    refine T.ret ?_
    cases h
    exact Fin.cell X rfl rfl rfl rfl rfl
theorem en41 : Enters Tryz.prog 41 := ⟨_, Tryz.func41, rfl, rfl⟩
theorem k_triviumref02_Trim {p0 : (List Int)} {y : (List Int)} (h : m_triviumref02_Trim p0 = some y) : Spec Tryz.prog 90 [(.v (.sl (.int .i64)) p0)] (.v (.sl (.int .i64)) y) [] := by
  rw [m_triviumref02_Trim] at h
  refine enterN [(.v (.sl (.int .i64)) p0)] 23 Tryz.func90 rfl rfl rfl ?_
  refine T.seq ?_
  refine T.region ?_
  refine Run.go (Ev.assign rfl rfl) ?_
  refine Run.nil ?_
  refine T.seq ?_
  refine T.region ?_
  refine Run.go (Ev.move rfl rfl) ?_
  refine Run.go (Ev.len X rfl rfl rfl rfl) ?_
  refine Run.go (Ev.assign rfl rfl) ?_
  refine Run.nil ?_
  obtain ⟨v1, hv, h⟩ := bdS h
  refine T.cut (fun _ : Unit => (⟨[(0, .v (.sl (.int .i64)) p0), (3, .v (.int .i64) v1)], [], 23⟩ : St)) (fun _ => True) ?_ (fun _ _ => ?_)
  · replace h := hv
    clear hv
    refine T.block ?_
    refine T.loop (LoopT.ghost (Ghost.only [] [0, 3] rfl) (LoopT.run (fun q : Int => (⟨[(0, .v (.sl (.int .i64)) p0), (3, .v (.int .i64) q)], [], 23⟩ : St)) (fun v2 z1 h hz1 => ?_) h))
    rw [m_triviumref02_Trim_l1] at h
    refine T.seq ?_
    obtain ⟨v3, hv, h⟩ := bdS h
    refine T.cut (fun _ : Unit => (⟨[(0, .v (.sl (.int .i64)) p0), (3, .v (.int .i64) v2), (15, .v .bool v3)], [], 23⟩ : St)) (fun _ => True) ?_ (fun _ _ => ?_)
    · replace h := hv
      clear hv
      refine T.region ?_
      refine Run.go (Ev.move rfl rfl) ?_
      refine Run.go (Ev.int rfl rfl rfl rfl trivial) ?_
      refine Run.go (Ev.move rfl rfl) ?_
      rcases boolCases (decide (0 < v2)) with hb4 | hb4
      · replace h := ifT hb4 h
        refine Run.on rfl rfl rfl hb4 (Ev.move rfl rfl) ?_
        refine Run.on rfl rfl rfl hb4 (Ev.move rfl rfl) ?_
        refine Run.on rfl rfl rfl hb4 (Ev.int rfl rfl rfl rfl trivial) ?_
        obtain ⟨x5, e6, h⟩ := bdS h
        refine Run.on rfl rfl rfl hb4 (Ev.e_rd X e6 rfl rfl rfl rfl) ?_
        refine Run.on rfl rfl rfl hb4 (Ev.load X rfl rfl rfl) ?_
        refine Run.on rfl rfl rfl hb4 (Ev.int rfl rfl rfl rfl trivial) ?_
        refine Run.go (Ev.pickT rfl hb4 rfl rfl) ?_
        refine Run.nil ?_
        cases h
        exact ⟨(), trivial, Ghost.only [] [0, 3, 15] rfl⟩
      · replace h := ifF hb4 h
        refine Run.offT rfl rfl rfl rfl hb4 ?_
        refine Run.offT rfl rfl rfl rfl hb4 ?_
        refine Run.offT rfl rfl rfl rfl hb4 ?_
        refine Run.offT rfl rfl rfl rfl hb4 ?_
        refine Run.offT rfl rfl rfl rfl hb4 ?_
        refine Run.offT rfl rfl rfl rfl hb4 ?_
        refine Run.go (Ev.pickF rfl hb4 rfl rfl) ?_
        refine Run.nil ?_
        cases h
        exact ⟨(), trivial, Ghost.only [] [0, 3, 15] rfl⟩
    · refine T.cond rfl (fun hb7 => ?_) (fun hb7 => ?_)
      · replace h := ifT hb7 h
        refine T.skip ?_
        refine T.block ?_
        refine T.region ?_
        refine Run.go (Ev.move rfl rfl) ?_
        refine Run.go (Ev.int rfl rfl rfl rfl trivial) ?_
        refine Run.go (Ev.assign rfl rfl) ?_
        refine Run.nil ?_
        cases h
        exact LoopT.ghost (Ghost.only [] [0, 3] rfl) hz1
      · replace h := ifF hb7 h
        refine T.exit ?_
        cases h
        cases hz1
        exact ⟨(), trivial, Ghost.only [] [0, 3] rfl⟩
  · refine T.seq ?_
    refine T.region ?_
    refine Run.go (Ev.build X 1 rfl rfl rfl rfl rfl rfl rfl rfl) ?_
    refine Run.go (Ev.move rfl rfl) ?_
    refine Run.go (Ev.move rfl rfl) ?_
    obtain ⟨x8, e9, h⟩ := bdS h
    refine Run.go (Ev.e_ct X e9 rfl rfl rfl (fun _ h => by cases h) (fun _ => rfl) (fun _ _ => cutAt_of rfl) (fun h => by cases h)) ?_
    obtain ⟨x10, e11, h⟩ := bdS h
    refine Run.go (Ev.e_ap X 2 e11 rfl rfl rfl .v rfl rfl rfl rfl rfl) ?_
    refine Run.go (Ev.assign rfl rfl) ?_
    refine Run.nil ?_
    refine T.ret ?_
    cases h
    exact Fin.one rfl (.own rfl)
theorem en90 : Enters Tryz.prog 90 := ⟨_, Tryz.func90, rfl, rfl⟩
theorem k_triviumref02_MulAdd {p0 : (List Int)} {p1 : Int} {p2 : Int} {y : (List Int)} (h : m_triviumref02_MulAdd p0 p1 p2 = some y) : Spec Tryz.prog 69 [(.v (.sl (.int .i64)) p0), (.v (.int .i64) p1), (.v (.int .i64) p2)] (.v (.sl (.int .i64)) y) [] := by
  rw [m_triviumref02_MulAdd] at h
  refine enterN [(.v (.sl (.int .i64)) p0), (.v (.int .i64) p1), (.v (.int .i64) p2)] 42 Tryz.func69 rfl rfl rfl ?_
  refine T.seq ?_
  refine T.region ?_
  refine Run.go (Ev.assign rfl rfl) ?_
  refine Run.nil ?_
  refine T.seq ?_
  refine T.region ?_
  refine Run.go (Ev.build X 1 rfl rfl rfl rfl rfl rfl rfl rfl) ?_
  refine Run.go (Ev.assign rfl rfl) ?_
  refine Run.nil ?_
  obtain ⟨⟨v1, v2⟩, hv, h⟩ := bdS h
  refine T.cut (fun _ : Unit => (⟨[(2, .v (.int .i64) v1), (7, .own 5)], [(5, .arr 3 (.int .i64) v2)], 42⟩ : St)) (fun _ => True) ?_ (fun _ _ => ?_)
  · replace h := hv
    clear hv
    refine T.seq ?_
    refine T.region ?_
    refine Run.go (Ev.assign rfl rfl) ?_
    refine Run.nil ?_
    refine T.block ?_
    refine T.loop (LoopT.ghost (Ghost.only [(1, 15)] [0, 1, 2, 7, 8] rfl) (LoopT.run (fun q : Int × Int × (List Int) => (⟨[(0, .v (.sl (.int .i64)) p0), (1, .v (.int .i64) p1), (2, .v (.int .i64) q.1), (7, .own 15), (8, .v (.int .i64) q.2.1)], [(15, .arr 3 (.int .i64) q.2.2)], 42⟩ : St)) (fun q z1 h hz1 => ?_) h))
    obtain ⟨v3, v4, v5⟩ := q
    dsimp only
    rw [m_triviumref02_MulAdd_l1] at h
    refine T.seq ?_
    refine T.seq ?_
    refine T.region ?_
    refine Run.go (Ev.move rfl rfl) ?_
    refine Run.go (Ev.move rfl rfl) ?_
    refine Run.go (Ev.len X rfl rfl rfl rfl) ?_
    refine Run.go (Ev.int rfl rfl rfl rfl trivial) ?_
    refine Run.nil ?_
    refine T.cond rfl (fun hb6 => ?_) (fun hb6 => ?_)
    · replace h := ifT hb6 h
      refine T.skip ?_
      refine T.seq ?_
      refine T.block ?_
      refine T.seq ?_
      refine T.region ?_
      refine Run.go (Ev.move rfl rfl) ?_
      refine Run.go (Ev.move rfl rfl) ?_
      refine Run.go (Ev.move rfl rfl) ?_
      obtain ⟨x7, e8, h⟩ := bdS h
      refine Run.go (Ev.e_rd X e8 rfl rfl rfl rfl) ?_
      refine Run.go (Ev.load X rfl rfl rfl) ?_
      refine Run.go (Ev.move rfl rfl) ?_
      refine Run.go (Ev.int rfl rfl rfl rfl trivial) ?_
      refine Run.go (Ev.int rfl rfl rfl rfl trivial) ?_
      refine Run.go (Ev.assign rfl rfl) ?_
      refine Run.nil ?_
      refine T.seq ?_
      refine T.region ?_
      refine Run.go (Ev.move rfl rfl) ?_
      refine Run.go (Ev.move rfl rfl) ?_
      obtain ⟨x9, e10, h⟩ := bdS h
      refine Run.go (Ev.e_rm e10 rfl rfl rfl) ?_
      refine Run.go (Ev.build X 19 rfl rfl rfl rfl rfl rfl rfl rfl) ?_
      obtain ⟨x11, e12, h⟩ := bdS h
      refine Run.go (Ev.e_ap X 20 e12 rfl rfl rfl (.own rfl) rfl rfl rfl rfl rfl) ?_
      refine Run.go (Ev.assign rfl rfl) ?_
      refine Run.nil ?_
      refine T.region ?_
      refine Run.go (Ev.move rfl rfl) ?_
      obtain ⟨x13, e14, h⟩ := bdS h
      refine Run.go (Ev.e_qd e14 rfl rfl rfl) ?_
      refine Run.go (Ev.assign rfl rfl) ?_
      refine Run.nil ?_
      refine T.region ?_
      refine Run.go (Ev.move rfl rfl) ?_
      refine Run.go (Ev.int rfl rfl rfl rfl trivial) ?_
      refine Run.go (Ev.assign rfl rfl) ?_
      refine Run.nil ?_
      cases h
      exact LoopT.ghost (Ghost.only [(20, 15)] [0, 1, 2, 7, 8] rfl) hz1
    · replace h := ifF hb6 h
      refine T.exit ?_
      cases h
      cases hz1
      exact ⟨(), trivial, Ghost.only [(15, 5)] [2, 7] rfl⟩
  · obtain ⟨v15, hv, h⟩ := bdS h
    refine T.cut (fun _ : Unit => (⟨[(7, .own 24)], [(24, .arr 3 (.int .i64) v15)], 42⟩ : St)) (fun _ => True) ?_ (fun _ _ => ?_)
    · replace h := hv
      clear hv
      refine T.block ?_
      refine T.loop (LoopT.ghost (Ghost.only [(5, 34)] [2, 7] rfl) (LoopT.run (fun q : Int × (List Int) => (⟨[(2, .v (.int .i64) q.1), (7, .own 34)], [(34, .arr 3 (.int .i64) q.2)], 42⟩ : St)) (fun q z1 h hz1 => ?_) h))
      obtain ⟨v16, v17⟩ := q
      dsimp only
      rw [m_triviumref02_MulAdd_l2] at h
      refine T.seq ?_
      refine T.seq ?_
      refine T.region ?_
      refine Run.go (Ev.move rfl rfl) ?_
      refine Run.go (Ev.int rfl rfl rfl rfl trivial) ?_
      refine Run.nil ?_
      refine T.cond rfl (fun hb18 => ?_) (fun hb18 => ?_)
      · replace h := ifT hb18 h
        refine T.skip ?_
        refine T.block ?_
        refine T.seq ?_
        refine T.region ?_
        refine Run.go (Ev.move rfl rfl) ?_
        refine Run.go (Ev.move rfl rfl) ?_
        obtain ⟨x19, e20, h⟩ := bdS h
        refine Run.go (Ev.e_rm e20 rfl rfl rfl) ?_
        refine Run.go (Ev.build X 38 rfl rfl rfl rfl rfl rfl rfl rfl) ?_
        obtain ⟨x21, e22, h⟩ := bdS h
        refine Run.go (Ev.e_ap X 39 e22 rfl rfl rfl (.own rfl) rfl rfl rfl rfl rfl) ?_
        refine Run.go (Ev.assign rfl rfl) ?_
        refine Run.nil ?_
        refine T.region ?_
        refine Run.go (Ev.move rfl rfl) ?_
        obtain ⟨x23, e24, h⟩ := bdS h
        refine Run.go (Ev.e_qd e24 rfl rfl rfl) ?_
        refine Run.go (Ev.assign rfl rfl) ?_
        refine Run.nil ?_
        cases h
        exact LoopT.ghost (Ghost.only [(39, 34)] [2, 7] rfl) hz1
      · replace h := ifF hb18 h
        refine T.exit ?_
        cases h
        cases hz1
        exact ⟨(), trivial, Ghost.only [(34, 24)] [7] rfl⟩
    · refine T.seq ?_
      refine T.region ?_
      refine Run.go (Ev.move rfl rfl) ?_
      refine Run.ghost (Ghost.firmAll (id := 24) rfl) ?_
      obtain ⟨x25, e26, h⟩ := bdS h
      refine Run.go (Ev.callC en90 (k_triviumref02_Trim e26) rfl (.cons .v .nil) rfl rfl) ?_
      refine Run.go (Ev.assign rfl rfl) ?_
      refine Run.nil ?_
      refine T.ret ?_
      cases h
      exact Fin.one rfl .v
theorem en69 : Enters Tryz.prog 69 := ⟨_, Tryz.func69, rfl, rfl⟩
theorem k_triviumref02_Of {p0 : (List Int)} {y : (List Int)} (h : m_triviumref02_Of p0 = some y) : Spec Tryz.prog 42 [(.v (.sl (.int .u64)) p0)] (.v (.sl (.int .i64)) y) [] := by
  rw [m_triviumref02_Of] at h
  refine enterN [(.v (.sl (.int .u64)) p0)] 22 Tryz.func42 rfl rfl rfl ?_
  refine T.seq ?_
  refine T.region ?_
  refine Run.go (Ev.assign rfl rfl) ?_
  refine Run.nil ?_
  refine T.seq ?_
  refine T.region ?_
  refine Run.go (Ev.build X 1 rfl rfl rfl rfl rfl rfl rfl rfl) ?_
  refine Run.go (Ev.assign rfl rfl) ?_
  refine Run.nil ?_
  obtain ⟨v1, hv, h⟩ := bdS h
  refine T.cut (fun _ : Unit => (⟨[(3, .v (.sl (.int .i64)) v1)], [], 22⟩ : St)) (fun _ => True) ?_ (fun _ _ => ?_)
  · replace h := hv
    clear hv
    refine T.seq ?_
    refine T.region ?_
    refine Run.go (Ev.move rfl rfl) ?_
    refine Run.go (Ev.len X rfl rfl rfl rfl) ?_
    refine Run.go (Ev.int rfl rfl rfl rfl trivial) ?_
    refine Run.go (Ev.assign rfl rfl) ?_
    refine Run.nil ?_
    refine T.block ?_
    refine T.loop (LoopT.ghost (Ghost.trans (Ghost.firmAll (id := 1) rfl) (Ghost.only [] [0, 3, 4] rfl)) (LoopT.run (fun q : (List Int) × Int => (⟨[(0, .v (.sl (.int .u64)) p0), (3, .v (.sl (.int .i64)) q.1), (4, .v (.int .i64) q.2)], [], 22⟩ : St)) (fun q z1 h hz1 => ?_) h))
    obtain ⟨v2, v3⟩ := q
    dsimp only
    rw [m_triviumref02_Of_l1] at h
    refine T.seq ?_
    refine T.seq ?_
    refine T.region ?_
    refine Run.go (Ev.move rfl rfl) ?_
    refine Run.go (Ev.int rfl rfl rfl rfl trivial) ?_
    refine Run.nil ?_
    refine T.cond rfl (fun hb4 => ?_) (fun hb4 => ?_)
    · replace h := ifT hb4 h
      refine T.skip ?_
      refine T.seq ?_
      refine T.block ?_
      refine T.region ?_
      refine Run.go (Ev.move rfl rfl) ?_
      refine Run.go (Ev.move rfl rfl) ?_
      refine Run.go (Ev.move rfl rfl) ?_
      obtain ⟨x5, e6, h⟩ := bdS h
      refine Run.go (Ev.e_rd X e6 rfl rfl rfl rfl) ?_
      refine Run.go (Ev.load X rfl rfl rfl) ?_
      obtain ⟨x7, e8, h⟩ := bdS h
      refine Run.go (Ev.e_rm e8 rfl rfl rfl) ?_
      refine Run.go (Ev.conv X rfl rfl rfl rfl) ?_
      obtain ⟨x9, e10, h⟩ := bdS h
      refine Run.go (Ev.callC en69 (k_triviumref02_MulAdd e10) rfl (.cons .v (.cons .v (.cons .v .nil))) rfl rfl) ?_
      refine Run.go (Ev.assign rfl rfl) ?_
      refine Run.nil ?_
      refine T.region ?_
      refine Run.go (Ev.move rfl rfl) ?_
      refine Run.go (Ev.int rfl rfl rfl rfl trivial) ?_
      refine Run.go (Ev.assign rfl rfl) ?_
      refine Run.nil ?_
      cases h
      exact LoopT.ghost (Ghost.only [] [0, 3, 4] rfl) hz1
    · replace h := ifF hb4 h
      refine T.exit ?_
      cases h
      cases hz1
      exact ⟨(), trivial, Ghost.only [] [3] rfl⟩
  · refine T.seq ?_
    refine T.region ?_
    refine Run.go (Ev.move rfl rfl) ?_
    refine Run.go (Ev.assign rfl rfl) ?_
    refine Run.nil ?_
    refine T.ret ?_
    cases h
    exact Fin.one rfl .v
theorem en42 : Enters Tryz.prog 42 := ⟨_, Tryz.func42, rfl, rfl⟩
theorem k_triviumref07_made {p0 : Bool} {p1 : (List Int)} {y : D_triviumref07_Z} (h : m_triviumref07_made p0 p1 = some y) : Spec Tryz.prog 68 [(.v .bool p0), (.v (.sl (.int .i64)) p1)] (.v Y_triviumref07_Z y) [] := by
  rw [m_triviumref07_made] at h
  refine enterN [(.v .bool p0), (.v (.sl (.int .i64)) p1)] 13 Tryz.func68 rfl rfl rfl ?_
  refine T.seq ?_
  refine T.region ?_
  refine Run.go (Ev.allocN X 1 rfl rfl rfl) ?_
  refine Run.nil ?_
  refine T.seq ?_
  refine T.region ?_
  refine Run.go (Ev.move rfl rfl) ?_
  refine Run.go (Ev.move rfl rfl) ?_
  rcases boolCases p0 with hb1 | hb1
  · replace h := ifT hb1 h
    refine Run.on rfl rfl rfl hb1 (Ev.move rfl rfl) ?_
    refine Run.on rfl rfl rfl hb1 (Ev.len X rfl rfl rfl rfl) ?_
    refine Run.on rfl rfl rfl hb1 (Ev.int rfl rfl rfl rfl trivial) ?_
    refine Run.go (Ev.pickT rfl hb1 rfl rfl) ?_
    refine Run.go (Ev.move rfl rfl) ?_
    refine Run.go (Ev.struct X pl86 rfl rfl rfl rfl rfl rfl rfl rfl) ?_
    refine Run.do_ (Ev.storeBox X rfl rfl rfl rfl rfl rfl rfl) ?_
    refine Run.nil ?_
    refine T.ret ?_
    cases h
    exact Fin.cell X rfl rfl rfl rfl rfl
  · replace h := ifF hb1 h
    refine Run.offT rfl rfl rfl rfl hb1 ?_
    refine Run.offT rfl rfl rfl rfl hb1 ?_
    refine Run.offT rfl rfl rfl rfl hb1 ?_
    refine Run.go (Ev.pickF rfl hb1 rfl rfl) ?_
    refine Run.go (Ev.move rfl rfl) ?_
    refine Run.go (Ev.struct X pl86 rfl rfl rfl rfl rfl rfl rfl rfl) ?_
    refine Run.do_ (Ev.storeBox X rfl rfl rfl rfl rfl rfl rfl) ?_
    refine Run.nil ?_
    refine T.ret ?_
    cases h
    exact Fin.cell X rfl rfl rfl rfl rfl
theorem en68 : Enters Tryz.prog 68 := ⟨_, Tryz.func68, rfl, rfl⟩
theorem k_triviumref07_Of {p0 : D_api_Int} {y : D_triviumref07_Z} (h : m_triviumref07_Of p0 = some y) : Spec Tryz.prog 40 [(.v Y_api_Int p0)] (.v Y_triviumref07_Z y) [] := by
  rw [m_triviumref07_Of] at h
  refine enterN [(.v Y_api_Int p0)] 9 Tryz.func40 rfl rfl rfl ?_
  refine T.seq ?_
  refine T.region ?_
  refine Run.go (Ev.box 1 rfl rfl rfl rfl) ?_
  refine Run.go (Ev.allocN X 2 rfl rfl rfl) ?_
  refine Run.nil ?_
  refine T.seq ?_
  refine T.drawM [6] [0, 1, 0, 4, 12, 31, 63] (by kernel_rfl) (by kernel_rfl) ?_
  refine RunD.a rfl rfl (Ev.fieldBox X rfl rfl rfl rfl rfl) ?_
  refine RunD.a rfl rfl (Ev.loadCell X rfl rfl rfl rfl rfl rfl) ?_
  refine RunD.a rfl rfl (Ev.fieldBox X rfl rfl rfl rfl rfl) ?_
  refine RunD.a rfl rfl (Ev.loadCell X rfl rfl rfl rfl rfl rfl) ?_
  obtain ⟨x1, e2, h⟩ := bdS h
  refine RunD.a rfl rfl (Ev.callC en42 (k_triviumref02_Of e2) rfl (.cons .v .nil) rfl rfl) ?_
  obtain ⟨x3, e4, h⟩ := bdS h
  refine RunD.a rfl rfl (Ev.callC en68 (k_triviumref07_made e4) rfl (.cons .v (.cons .v .nil)) rfl rfl) ?_
  refine RunD.mN rfl (Ev.storeBox X rfl rfl rfl rfl rfl rfl rfl) ?_
  refine RunD.nil ?_
  refine T.ret ?_
  cases h
  exact Fin.cell X rfl rfl rfl rfl rfl
theorem en40 : Enters Tryz.prog 40 := ⟨_, Tryz.func40, rfl, rfl⟩
theorem k_triviumref02_Cmp {p0 : (List Int)} {p1 : (List Int)} {y : Int} (h : m_triviumref02_Cmp p0 p1 = some y) : Spec Tryz.prog 91 [(.v (.sl (.int .i64)) p0), (.v (.sl (.int .i64)) p1)] (.v (.int .i64) y) [] := by
  rw [m_triviumref02_Cmp] at h
  refine enterN [(.v (.sl (.int .i64)) p0), (.v (.sl (.int .i64)) p1)] 41 Tryz.func91 rfl rfl rfl ?_
  refine T.seq ?_
  refine T.region ?_
  refine Run.go (Ev.assign rfl rfl) ?_
  refine Run.nil ?_
  refine T.seq ?_
  refine T.seq ?_
  refine T.region ?_
  refine Run.go (Ev.move rfl rfl) ?_
  refine Run.go (Ev.len X rfl rfl rfl rfl) ?_
  refine Run.go (Ev.move rfl rfl) ?_
  refine Run.go (Ev.len X rfl rfl rfl rfl) ?_
  refine Run.go (Ev.int rfl rfl rfl rfl trivial) ?_
  refine Run.nil ?_
  refine T.cond rfl (fun hb1 => ?_) (fun hb1 => ?_)
  · replace h := ifT hb1 h
    refine T.seq ?_
    refine T.seq ?_
    refine T.region ?_
    refine Run.go (Ev.move rfl rfl) ?_
    refine Run.go (Ev.len X rfl rfl rfl rfl) ?_
    refine Run.go (Ev.move rfl rfl) ?_
    refine Run.go (Ev.len X rfl rfl rfl rfl) ?_
    refine Run.go (Ev.int rfl rfl rfl rfl trivial) ?_
    refine Run.nil ?_
    refine T.cond rfl (fun hb2 => ?_) (fun hb2 => ?_)
    · replace h := ifT hb2 h
      refine T.seq ?_
      refine T.region ?_
      refine Run.go (Ev.assign rfl rfl) ?_
      refine Run.nil ?_
      refine T.ret ?_
      cases h
      exact Fin.one rfl .v
    · replace h := ifF hb2 h
      refine T.skip ?_
      refine T.seq ?_
      refine T.region ?_
      refine Run.go (Ev.assign rfl rfl) ?_
      refine Run.nil ?_
      refine T.ret ?_
      cases h
      exact Fin.one rfl .v
  · replace h := ifF hb1 h
    refine T.skip ?_
    refine T.seq ?_
    refine T.seq ?_
    refine T.region ?_
    refine Run.go (Ev.move rfl rfl) ?_
    refine Run.go (Ev.len X rfl rfl rfl rfl) ?_
    refine Run.go (Ev.int rfl rfl rfl rfl trivial) ?_
    refine Run.go (Ev.assign rfl rfl) ?_
    refine Run.nil ?_
    refine T.block ?_
    refine T.loop (LoopT.ghost (Ghost.only [] [0, 1, 5] rfl) (LoopT.run (fun q : Int => (⟨[(0, .v (.sl (.int .i64)) p0), (1, .v (.sl (.int .i64)) p1), (5, .v (.int .i64) q)], [], 41⟩ : St)) (fun v3 z1 h hz1 => ?_) h))
    rw [m_triviumref02_Cmp_l1] at h
    refine T.seq ?_
    refine T.seq ?_
    refine T.region ?_
    refine Run.go (Ev.move rfl rfl) ?_
    refine Run.go (Ev.int rfl rfl rfl rfl trivial) ?_
    refine Run.nil ?_
    refine T.cond rfl (fun hb4 => ?_) (fun hb4 => ?_)
    · replace h := ifT hb4 h
      refine T.skip ?_
      refine T.seq ?_
      refine T.block ?_
      refine T.seq ?_
      refine T.seq ?_
      refine T.drawM [] [0, 0, 3, 7, 0, 0, 48, 112, 255] (by kernel_rfl) (by kernel_rfl) ?_
      refine RunD.w (fun _ => Ev.move rfl rfl) ?_
      refine RunD.w (fun _ => Ev.move rfl rfl) ?_
      obtain ⟨x5, e6, h⟩ := bdS h
      refine RunD.a rfl rfl (Ev.e_rd X e6 rfl rfl rfl rfl) ?_
      refine RunD.a rfl rfl (Ev.load X rfl rfl rfl) ?_
      refine RunD.w (fun _ => Ev.move rfl rfl) ?_
      refine RunD.w (fun _ => Ev.move rfl rfl) ?_
      obtain ⟨x7, e8, h⟩ := bdS h
      refine RunD.a rfl rfl (Ev.e_rd X e8 rfl rfl rfl rfl) ?_
      refine RunD.a rfl rfl (Ev.load X rfl rfl rfl) ?_
      refine RunD.w (fun _ => Ev.int rfl rfl rfl rfl trivial) ?_
      refine RunD.nil ?_
      refine T.cond rfl (fun hb9 => ?_) (fun hb9 => ?_)
      · replace h := ifT hb9 h
        refine T.seq ?_
        refine T.region ?_
        refine Run.go (Ev.assign rfl rfl) ?_
        refine Run.nil ?_
        refine T.ret ?_
        cases h
        cases hz1
        exact Fin.one rfl .v
      · replace h := ifF hb9 h
        refine T.skip ?_
        refine T.seq ?_
        refine T.drawM [] [0, 0, 3, 7, 0, 0, 48, 112, 255] (by kernel_rfl) (by kernel_rfl) ?_
        refine RunD.w (fun _ => Ev.move rfl rfl) ?_
        refine RunD.w (fun _ => Ev.move rfl rfl) ?_
        obtain ⟨x10, e11, h⟩ := bdS h
        refine RunD.a rfl rfl (Ev.e_rd X e11 rfl rfl rfl rfl) ?_
        refine RunD.a rfl rfl (Ev.load X rfl rfl rfl) ?_
        refine RunD.w (fun _ => Ev.move rfl rfl) ?_
        refine RunD.w (fun _ => Ev.move rfl rfl) ?_
        obtain ⟨x12, e13, h⟩ := bdS h
        refine RunD.a rfl rfl (Ev.e_rd X e13 rfl rfl rfl rfl) ?_
        refine RunD.a rfl rfl (Ev.load X rfl rfl rfl) ?_
        refine RunD.w (fun _ => Ev.int rfl rfl rfl rfl trivial) ?_
        refine RunD.nil ?_
        refine T.cond rfl (fun hb14 => ?_) (fun hb14 => ?_)
        · replace h := ifT hb14 h
          refine T.seq ?_
          refine T.region ?_
          refine Run.go (Ev.assign rfl rfl) ?_
          refine Run.nil ?_
          refine T.ret ?_
          cases h
          cases hz1
          exact Fin.one rfl .v
        · replace h := ifF hb14 h
          refine T.skip ?_
          refine T.region ?_
          refine Run.go (Ev.move rfl rfl) ?_
          refine Run.go (Ev.int rfl rfl rfl rfl trivial) ?_
          refine Run.go (Ev.assign rfl rfl) ?_
          refine Run.nil ?_
          cases h
          exact LoopT.ghost (Ghost.only [] [0, 1, 5] rfl) hz1
    · replace h := ifF hb4 h
      refine T.exit ?_
      refine T.seq ?_
      refine T.region ?_
      refine Run.go (Ev.assign rfl rfl) ?_
      refine Run.nil ?_
      refine T.ret ?_
      cases h
      cases hz1
      exact Fin.one rfl .v
theorem en91 : Enters Tryz.prog 91 := ⟨_, Tryz.func91, rfl, rfl⟩
theorem k_triviumref02_Sub {p0 : (List Int)} {p1 : (List Int)} {y : (List Int)} (h : m_triviumref02_Sub p0 p1 = some y) : Spec Tryz.prog 92 [(.v (.sl (.int .i64)) p0), (.v (.sl (.int .i64)) p1)] (.v (.sl (.int .i64)) y) [] := by
  rw [m_triviumref02_Sub] at h
  refine enterN [(.v (.sl (.int .i64)) p0), (.v (.sl (.int .i64)) p1)] 42 Tryz.func92 rfl rfl rfl ?_
  refine T.seq ?_
  refine T.region ?_
  refine Run.go (Ev.assign rfl rfl) ?_
  refine Run.nil ?_
  refine T.seq ?_
  refine T.region ?_
  refine Run.go (Ev.build X 1 rfl rfl rfl rfl rfl rfl rfl rfl) ?_
  refine Run.go (Ev.assign rfl rfl) ?_
  refine Run.go (Ev.assign rfl rfl) ?_
  refine Run.nil ?_
  obtain ⟨v1, hv, h⟩ := bdS h
  refine T.cut (fun _ : Unit => (⟨[(5, .own 7)], [(7, .arr 3 (.int .i64) v1)], 42⟩ : St)) (fun _ => True) ?_ (fun _ _ => ?_)
  · replace h := hv
    clear hv
    refine T.seq ?_
    refine T.region ?_
    refine Run.go (Ev.assign rfl rfl) ?_
    refine Run.nil ?_
    refine T.block ?_
    refine T.loop (LoopT.ghost (Ghost.only [(1, 23)] [0, 1, 5, 6, 7] rfl) (LoopT.run (fun q : Int × Int × (List Int) => (⟨[(0, .v (.sl (.int .i64)) p0), (1, .v (.sl (.int .i64)) p1), (5, .own 23), (6, .v (.int .i64) q.1), (7, .v (.int .i64) q.2.1)], [(23, .arr 3 (.int .i64) q.2.2)], 42⟩ : St)) (fun q z1 h hz1 => ?_) h))
    obtain ⟨v2, v3, v4⟩ := q
    dsimp only
    rw [m_triviumref02_Sub_l1] at h
    refine T.seq ?_
    refine T.seq ?_
    refine T.region ?_
    refine Run.go (Ev.move rfl rfl) ?_
    refine Run.go (Ev.move rfl rfl) ?_
    refine Run.go (Ev.len X rfl rfl rfl rfl) ?_
    refine Run.go (Ev.int rfl rfl rfl rfl trivial) ?_
    refine Run.nil ?_
    refine T.cond rfl (fun hb5 => ?_) (fun hb5 => ?_)
    · replace h := ifT hb5 h
      refine T.skip ?_
      refine T.seq ?_
      refine T.block ?_
      refine T.seq ?_
      refine T.region ?_
      refine Run.go (Ev.move rfl rfl) ?_
      refine Run.go (Ev.move rfl rfl) ?_
      obtain ⟨x6, e7, h⟩ := bdS h
      refine Run.go (Ev.e_rd X e7 rfl rfl rfl rfl) ?_
      refine Run.go (Ev.load X rfl rfl rfl) ?_
      refine Run.go (Ev.move rfl rfl) ?_
      refine Run.go (Ev.int rfl rfl rfl rfl trivial) ?_
      refine Run.go (Ev.assign rfl rfl) ?_
      refine Run.nil ?_
      obtain ⟨v8, hv, h⟩ := bdS h
      refine T.cut (fun _ : Unit => (⟨[(0, .v (.sl (.int .i64)) p0), (1, .v (.sl (.int .i64)) p1), (5, .own 23), (7, .v (.int .i64) v3), (8, .v (.int .i64) v8)], [(23, .arr 3 (.int .i64) v4)], 42⟩ : St)) (fun _ => True) ?_ (fun _ _ => ?_)
      · replace h := hv
        clear hv
        refine T.seq ?_
        refine T.region ?_
        refine Run.go (Ev.move rfl rfl) ?_
        refine Run.go (Ev.move rfl rfl) ?_
        refine Run.go (Ev.len X rfl rfl rfl rfl) ?_
        refine Run.go (Ev.int rfl rfl rfl rfl trivial) ?_
        refine Run.nil ?_
        refine T.cond rfl (fun hb9 => ?_) (fun hb9 => ?_)
        · replace h := ifT hb9 h
          refine T.region ?_
          refine Run.go (Ev.move rfl rfl) ?_
          refine Run.go (Ev.move rfl rfl) ?_
          refine Run.go (Ev.move rfl rfl) ?_
          obtain ⟨x10, e11, h⟩ := bdS h
          refine Run.go (Ev.e_rd X e11 rfl rfl rfl rfl) ?_
          refine Run.go (Ev.load X rfl rfl rfl) ?_
          refine Run.go (Ev.int rfl rfl rfl rfl trivial) ?_
          refine Run.go (Ev.assign rfl rfl) ?_
          refine Run.nil ?_
          cases h
          exact ⟨(), trivial, Ghost.only [(23, 23)] [0, 1, 5, 7, 8] rfl⟩
        · replace h := ifF hb9 h
          refine T.skip ?_
          cases h
          exact ⟨(), trivial, Ghost.only [(23, 23)] [0, 1, 5, 7, 8] rfl⟩
      · refine T.seq ?_
        refine T.region ?_
        refine Run.go (Ev.assign rfl rfl) ?_
        refine Run.nil ?_
        obtain ⟨⟨v12, v13⟩, hv, h⟩ := bdS h
        refine T.cut (fun _ : Unit => (⟨[(0, .v (.sl (.int .i64)) p0), (1, .v (.sl (.int .i64)) p1), (5, .own 23), (6, .v (.int .i64) v12), (7, .v (.int .i64) v3), (8, .v (.int .i64) v13)], [(23, .arr 3 (.int .i64) v4)], 42⟩ : St)) (fun _ => True) ?_ (fun _ _ => ?_)
        · replace h := hv
          clear hv
          refine T.seq ?_
          refine T.region ?_
          refine Run.go (Ev.move rfl rfl) ?_
          refine Run.go (Ev.int rfl rfl rfl rfl trivial) ?_
          refine Run.nil ?_
          refine T.cond rfl (fun hb14 => ?_) (fun hb14 => ?_)
          · replace h := ifT hb14 h
            refine T.region ?_
            refine Run.go (Ev.move rfl rfl) ?_
            refine Run.go (Ev.int rfl rfl rfl rfl trivial) ?_
            refine Run.go (Ev.assign rfl rfl) ?_
            refine Run.go (Ev.assign rfl rfl) ?_
            refine Run.nil ?_
            cases h
            exact ⟨(), trivial, Ghost.only [(23, 23)] [0, 1, 5, 6, 7, 8] rfl⟩
          · replace h := ifF hb14 h
            refine T.skip ?_
            cases h
            exact ⟨(), trivial, Ghost.only [(23, 23)] [0, 1, 5, 6, 7, 8] rfl⟩
        · refine T.region ?_
          refine Run.go (Ev.move rfl rfl) ?_
          refine Run.go (Ev.move rfl rfl) ?_
          refine Run.go (Ev.build X 31 rfl rfl rfl rfl rfl rfl rfl rfl) ?_
          obtain ⟨x15, e16, h⟩ := bdS h
          refine Run.go (Ev.e_ap X 32 e16 rfl rfl rfl (.own rfl) rfl rfl rfl rfl rfl) ?_
          refine Run.go (Ev.assign rfl rfl) ?_
          refine Run.nil ?_
          refine T.region ?_
          refine Run.go (Ev.move rfl rfl) ?_
          refine Run.go (Ev.int rfl rfl rfl rfl trivial) ?_
          refine Run.go (Ev.assign rfl rfl) ?_
          refine Run.nil ?_
          cases h
          exact LoopT.ghost (Ghost.only [(32, 23)] [0, 1, 5, 6, 7] rfl) hz1
    · replace h := ifF hb5 h
      refine T.exit ?_
      cases h
      cases hz1
      exact ⟨(), trivial, Ghost.only [(23, 7)] [5] rfl⟩
  · refine T.seq ?_
    refine T.region ?_
    refine Run.go (Ev.move rfl rfl) ?_
    refine Run.ghost (Ghost.firmAll (id := 7) rfl) ?_
    obtain ⟨x17, e18, h⟩ := bdS h
    refine Run.go (Ev.callC en90 (k_triviumref02_Trim e18) rfl (.cons .v .nil) rfl rfl) ?_
    refine Run.go (Ev.assign rfl rfl) ?_
    refine Run.nil ?_
    refine T.ret ?_
    cases h
    exact Fin.one rfl .v
theorem en92 : Enters Tryz.prog 92 := ⟨_, Tryz.func92, rfl, rfl⟩
theorem k_triviumref02_Div {p0 : (List Int)} {p1 : (List Int)} {y : (List Int) × (List Int)} (h : m_triviumref02_Div p0 p1 = some y) : Spec Tryz.prog 67 [(.v (.sl (.int .i64)) p0), (.v (.sl (.int .i64)) p1)] (.tup [.v (.sl (.int .i64)) y.1, .v (.sl (.int .i64)) y.2]) [] := by
  rw [m_triviumref02_Div] at h
  refine enterN [(.v (.sl (.int .i64)) p0), (.v (.sl (.int .i64)) p1)] 59 Tryz.func67 rfl rfl rfl ?_
  refine T.seq ?_
  refine T.region ?_
  refine Run.go (Ev.assign rfl rfl) ?_
  refine Run.go (Ev.assign rfl rfl) ?_
  refine Run.nil ?_
  refine T.seq ?_
  refine T.region ?_
  refine Run.go (Ev.move rfl rfl) ?_
  refine Run.go (Ev.len X rfl rfl rfl rfl) ?_
  obtain ⟨x1, e2, h⟩ := bdS h
  refine Run.go (Ev.e_mk X 1 e2 rfl rfl rfl rfl rfl rfl) ?_
  refine Run.go (Ev.build X 2 rfl rfl rfl rfl rfl rfl rfl rfl) ?_
  refine Run.go (Ev.assign rfl rfl) ?_
  refine Run.go (Ev.assign rfl rfl) ?_
  refine Run.nil ?_
  obtain ⟨⟨v3, v4⟩, hv, h⟩ := bdS h
  refine T.cut (fun _ : Unit => (⟨[(6, .own 1), (7, .v (.sl (.int .i64)) v3)], [(1, .arr 3 (.int .i64) v4)], 59⟩ : St)) (fun _ => True) ?_ (fun _ _ => ?_)
  · replace h := hv
    clear hv
    refine T.seq ?_
    refine T.region ?_
    refine Run.go (Ev.move rfl rfl) ?_
    refine Run.go (Ev.len X rfl rfl rfl rfl) ?_
    refine Run.go (Ev.int rfl rfl rfl rfl trivial) ?_
    refine Run.go (Ev.assign rfl rfl) ?_
    refine Run.nil ?_
    refine T.block ?_
    refine T.loop (LoopT.ghost (Ghost.trans (Ghost.firmAll (id := 2) rfl) (Ghost.only [(1, 1)] [0, 1, 6, 7, 8] rfl)) (LoopT.run (fun q : (List Int) × Int × (List Int) => (⟨[(0, .v (.sl (.int .i64)) p0), (1, .v (.sl (.int .i64)) p1), (6, .own 1), (7, .v (.sl (.int .i64)) q.1), (8, .v (.int .i64) q.2.1)], [(1, .arr 3 (.int .i64) q.2.2)], 59⟩ : St)) (fun q z1 h hz1 => ?_) h))
    obtain ⟨v5, v6, v7⟩ := q
    dsimp only
    rw [m_triviumref02_Div_l1] at h
    refine T.seq ?_
    refine T.seq ?_
    refine T.region ?_
    refine Run.go (Ev.move rfl rfl) ?_
    refine Run.go (Ev.int rfl rfl rfl rfl trivial) ?_
    refine Run.nil ?_
    refine T.cond rfl (fun hb8 => ?_) (fun hb8 => ?_)
    · replace h := ifT hb8 h
      refine T.skip ?_
      obtain ⟨⟨v9, v10⟩, hv, h⟩ := bdS h
      refine T.cut (fun _ : Unit => (⟨[(0, .v (.sl (.int .i64)) p0), (1, .v (.sl (.int .i64)) p1), (6, .own 1), (7, .v (.sl (.int .i64)) v9), (8, .v (.int .i64) v6)], [(1, .arr 3 (.int .i64) v10)], 59⟩ : St)) (fun _ => True) ?_ (fun _ _ => ?_)
      · replace h := hv
        clear hv
        refine T.block ?_
        refine T.seq ?_
        refine T.region ?_
        refine Run.go (Ev.move rfl rfl) ?_
        refine Run.go (Ev.move rfl rfl) ?_
        obtain ⟨x11, e12, h⟩ := bdS h
        refine Run.go (Ev.e_rd X e12 rfl rfl rfl rfl) ?_
        refine Run.go (Ev.load X rfl rfl rfl) ?_
        refine Run.go (Ev.build X 117 rfl rfl rfl rfl rfl rfl rfl rfl) ?_
        refine Run.go (Ev.move rfl rfl) ?_
        obtain ⟨x13, e14, h⟩ := bdS h
        refine Run.go (Ev.e_ap X 118 e14 rfl rfl rfl .v rfl rfl rfl rfl rfl) ?_
        refine Run.ghost (Ghost.firmAll (id := 118) rfl) ?_
        obtain ⟨x15, e16, h⟩ := bdS h
        refine Run.go (Ev.callC en90 (k_triviumref02_Trim e16) rfl (.cons .v .nil) rfl rfl) ?_
        refine Run.go (Ev.assign rfl rfl) ?_
        refine Run.nil ?_
        refine T.seq ?_
        refine T.region ?_
        refine Run.go (Ev.assign rfl rfl) ?_
        refine Run.go (Ev.assign rfl rfl) ?_
        refine Run.nil ?_
        obtain ⟨v17, hv, h⟩ := bdS h
        refine T.cut (fun _ : Unit => (⟨[(0, .v (.sl (.int .i64)) p0), (1, .v (.sl (.int .i64)) p1), (6, .own 1), (7, .v (.sl (.int .i64)) x15), (8, .v (.int .i64) v6), (9, .v (.int .i64) v17)], [(1, .arr 3 (.int .i64) v7)], 59⟩ : St)) (fun _ => True) ?_ (fun _ _ => ?_)
        · replace h := hv
          clear hv
          refine T.block ?_
          refine T.loop (LoopT.ghost (Ghost.only [(1, 1)] [0, 1, 6, 7, 8, 9, 10] rfl) (LoopT.run (fun q : Int × Int => (⟨[(0, .v (.sl (.int .i64)) p0), (1, .v (.sl (.int .i64)) p1), (6, .own 1), (7, .v (.sl (.int .i64)) x15), (8, .v (.int .i64) v6), (9, .v (.int .i64) q.1), (10, .v (.int .i64) q.2)], [(1, .arr 3 (.int .i64) v7)], 59⟩ : St)) (fun q z2 h hz2 => ?_) h))
          obtain ⟨v18, v19⟩ := q
          dsimp only
          rw [m_triviumref02_Div_l2] at h
          refine T.seq ?_
          refine T.seq ?_
          refine T.region ?_
          refine Run.go (Ev.move rfl rfl) ?_
          refine Run.go (Ev.move rfl rfl) ?_
          refine Run.go (Ev.int rfl rfl rfl rfl trivial) ?_
          refine Run.go (Ev.int rfl rfl rfl rfl trivial) ?_
          refine Run.nil ?_
          refine T.cond rfl (fun hb20 => ?_) (fun hb20 => ?_)
          · replace h := ifT hb20 h
            refine T.skip ?_
            refine T.block ?_
            refine T.seq ?_
            refine T.region ?_
            refine Run.go (Ev.move rfl rfl) ?_
            refine Run.go (Ev.move rfl rfl) ?_
            refine Run.go (Ev.int rfl rfl rfl rfl trivial) ?_
            obtain ⟨x21, e22, h⟩ := bdS h
            refine Run.go (Ev.e_qd e22 rfl rfl rfl) ?_
            refine Run.go (Ev.assign rfl rfl) ?_
            refine Run.nil ?_
            refine T.seq ?_
            refine T.region ?_
            refine Run.go (Ev.move rfl rfl) ?_
            refine Run.go (Ev.move rfl rfl) ?_
            obtain ⟨x23, e24, h⟩ := bdS h
            refine Run.go (Ev.callC en69 (k_triviumref02_MulAdd e24) rfl (.cons .v (.cons .v (.cons .v .nil))) rfl rfl) ?_
            refine Run.go (Ev.move rfl rfl) ?_
            obtain ⟨x25, e26, h⟩ := bdS h
            refine Run.go (Ev.callC en91 (k_triviumref02_Cmp e26) rfl (.cons .v (.cons .v .nil)) rfl rfl) ?_
            refine Run.go (Ev.int rfl rfl rfl rfl trivial) ?_
            refine Run.nil ?_
            refine T.cond rfl (fun hb27 => ?_) (fun hb27 => ?_)
            · replace h := ifT hb27 h
              refine T.region ?_
              refine Run.go (Ev.move rfl rfl) ?_
              refine Run.go (Ev.assign rfl rfl) ?_
              refine Run.nil ?_
              cases h
              exact LoopT.ghost (Ghost.only [(1, 1)] [0, 1, 6, 7, 8, 9, 10] rfl) hz2
            · replace h := ifF hb27 h
              refine T.region ?_
              refine Run.go (Ev.move rfl rfl) ?_
              refine Run.go (Ev.assign rfl rfl) ?_
              refine Run.nil ?_
              cases h
              exact LoopT.ghost (Ghost.only [(1, 1)] [0, 1, 6, 7, 8, 9, 10] rfl) hz2
          · replace h := ifF hb20 h
            refine T.exit ?_
            cases h
            cases hz2
            exact ⟨(), trivial, Ghost.only [(1, 1)] [0, 1, 6, 7, 8, 9] rfl⟩
        · refine T.seq ?_
          refine T.region ?_
          refine Run.go (Ev.move rfl rfl) ?_
          refine Run.go (Ev.move rfl rfl) ?_
          refine Run.go (Ev.move rfl rfl) ?_
          obtain ⟨j28, e29, h⟩ := bdS h
          refine Run.go (Ev.e_ixO X e29 rfl rfl rfl rfl rfl) ?_
          obtain ⟨x30, e31, h⟩ := ltS h
          refine Run.do_ (Ev.asO (Ev.storeEl X rfl rfl rfl rfl rfl) e31) ?_
          refine Run.nil ?_
          refine T.region ?_
          refine Run.go (Ev.move rfl rfl) ?_
          refine Run.go (Ev.move rfl rfl) ?_
          refine Run.go (Ev.move rfl rfl) ?_
          obtain ⟨x32, e33, h⟩ := bdS h
          refine Run.go (Ev.callC en69 (k_triviumref02_MulAdd e33) rfl (.cons .v (.cons .v (.cons .v .nil))) rfl rfl) ?_
          obtain ⟨x34, e35, h⟩ := bdS h
          refine Run.go (Ev.callC en92 (k_triviumref02_Sub e35) rfl (.cons .v (.cons .v .nil)) rfl rfl) ?_
          refine Run.go (Ev.assign rfl rfl) ?_
          refine Run.nil ?_
          cases h
          exact ⟨(), trivial, Ghost.only [(1, 1)] [0, 1, 6, 7, 8] rfl⟩
      · refine T.region ?_
        refine Run.go (Ev.move rfl rfl) ?_
        refine Run.go (Ev.int rfl rfl rfl rfl trivial) ?_
        refine Run.go (Ev.assign rfl rfl) ?_
        refine Run.nil ?_
        cases h
        exact LoopT.ghost (Ghost.only [(1, 1)] [0, 1, 6, 7, 8] rfl) hz1
    · replace h := ifF hb8 h
      refine T.exit ?_
      cases h
      cases hz1
      exact ⟨(), trivial, Ghost.only [(1, 1)] [6, 7] rfl⟩
  · refine T.seq ?_
    refine T.region ?_
    refine Run.go (Ev.move rfl rfl) ?_
    refine Run.ghost (Ghost.firmAll (id := 1) rfl) ?_
    obtain ⟨x36, e37, h⟩ := bdS h
    refine Run.go (Ev.callC en90 (k_triviumref02_Trim e37) rfl (.cons .v .nil) rfl rfl) ?_
    refine Run.go (Ev.move rfl rfl) ?_
    refine Run.go (Ev.assign rfl rfl) ?_
    refine Run.go (Ev.assign rfl rfl) ?_
    refine Run.nil ?_
    refine T.ret ?_
    cases h
    exact Fin.many X rfl (.cons (.tmp .v) (.cons (.tmp .v) .nil)) rfl
theorem en67 : Enters Tryz.prog 67 := ⟨_, Tryz.func67, rfl, rfl⟩
theorem k_triviumref02_Gcd {p0 : (List Int)} {p1 : (List Int)} {y : (List Int)} (h : m_triviumref02_Gcd p0 p1 = some y) : Spec Tryz.prog 66 [(.v (.sl (.int .i64)) p0), (.v (.sl (.int .i64)) p1)] (.v (.sl (.int .i64)) y) [] := by
  rw [m_triviumref02_Gcd] at h
  refine enterN [(.v (.sl (.int .i64)) p0), (.v (.sl (.int .i64)) p1)] 19 Tryz.func66 rfl rfl rfl ?_
  refine T.seq ?_
  refine T.region ?_
  refine Run.go (Ev.assign rfl rfl) ?_
  refine Run.nil ?_
  obtain ⟨v1, hv, h⟩ := bdS h
  refine T.cut (fun _ : Unit => (⟨[(0, .v (.sl (.int .i64)) v1)], [], 19⟩ : St)) (fun _ => True) ?_ (fun _ _ => ?_)
  · replace h := hv
    clear hv
    refine T.block ?_
    refine T.loop (LoopT.ghost (Ghost.only [] [0, 1] rfl) (LoopT.run (fun q : (List Int) × (List Int) => (⟨[(0, .v (.sl (.int .i64)) q.1), (1, .v (.sl (.int .i64)) q.2)], [], 19⟩ : St)) (fun q z1 h hz1 => ?_) h))
    obtain ⟨v2, v3⟩ := q
    dsimp only
    rw [m_triviumref02_Gcd_l1] at h
    refine T.seq ?_
    refine T.seq ?_
    refine T.region ?_
    refine Run.go (Ev.move rfl rfl) ?_
    refine Run.go (Ev.len X rfl rfl rfl rfl) ?_
    refine Run.go (Ev.int rfl rfl rfl rfl trivial) ?_
    refine Run.nil ?_
    refine T.cond rfl (fun hb4 => ?_) (fun hb4 => ?_)
    · replace h := ifT hb4 h
      refine T.skip ?_
      refine T.block ?_
      refine T.seq ?_
      refine T.region ?_
      refine Run.go (Ev.move rfl rfl) ?_
      refine Run.go (Ev.move rfl rfl) ?_
      obtain ⟨x5, e6, h⟩ := bdS h
      refine Run.go (Ev.callC en67 (k_triviumref02_Div e6) rfl (.cons .v (.cons .v .nil)) rfl rfl) ?_
      refine Run.go (Ev.move rfl rfl) ?_
      refine Run.go (Ev.extract rfl rfl rfl) ?_
      refine Run.go (Ev.extract rfl rfl rfl) ?_
      refine Run.go (Ev.assign rfl rfl) ?_
      refine Run.go (Ev.assign rfl rfl) ?_
      refine Run.nil ?_
      refine T.region ?_
      refine Run.go (Ev.move rfl rfl) ?_
      refine Run.go (Ev.move rfl rfl) ?_
      refine Run.go (Ev.assign rfl rfl) ?_
      refine Run.go (Ev.assign rfl rfl) ?_
      refine Run.nil ?_
      cases h
      exact LoopT.ghost (Ghost.only [] [0, 1] rfl) hz1
    · replace h := ifF hb4 h
      refine T.exit ?_
      cases h
      cases hz1
      exact ⟨(), trivial, Ghost.only [] [0] rfl⟩
  · refine T.seq ?_
    refine T.region ?_
    refine Run.go (Ev.move rfl rfl) ?_
    refine Run.go (Ev.assign rfl rfl) ?_
    refine Run.nil ?_
    refine T.ret ?_
    cases h
    exact Fin.one rfl .v
theorem en66 : Enters Tryz.prog 66 := ⟨_, Tryz.func66, rfl, rfl⟩
theorem k_triviumref08_Low {p0 : D_triviumref07_Z} {p1 : (List Int)} {y : D_triviumref08_Q} (h : m_triviumref08_Low p0 p1 = some y) : Spec Tryz.prog 39 [(.v Y_triviumref07_Z p0), (.v (.sl (.int .i64)) p1)] (.v Y_triviumref08_Q y) [] := by
  rw [m_triviumref08_Low] at h
  refine enterN [(.v Y_triviumref07_Z p0), (.v (.sl (.int .i64)) p1)] 38 Tryz.func39 rfl rfl rfl ?_
  refine T.seq ?_
  refine T.region ?_
  refine Run.go (Ev.box 1 rfl rfl rfl rfl) ?_
  refine Run.go (Ev.allocN X 2 rfl rfl rfl) ?_
  refine Run.nil ?_
  refine T.seq ?_
  refine T.region ?_
  refine Run.go (Ev.fieldBox X rfl rfl rfl rfl rfl) ?_
  refine Run.go (Ev.loadCell X rfl rfl rfl rfl rfl rfl) ?_
  refine Run.go (Ev.move rfl rfl) ?_
  obtain ⟨x1, e2, h⟩ := bdS h
  refine Run.go (Ev.callC en66 (k_triviumref02_Gcd e2) rfl (.cons .v (.cons .v .nil)) rfl rfl) ?_
  refine Run.go (Ev.assign rfl rfl) ?_
  refine Run.nil ?_
  refine T.seq ?_
  refine T.region ?_
  refine Run.go (Ev.fieldBox X rfl rfl rfl rfl rfl) ?_
  refine Run.go (Ev.loadCell X rfl rfl rfl rfl rfl rfl) ?_
  refine Run.go (Ev.move rfl rfl) ?_
  obtain ⟨x3, e4, h⟩ := bdS h
  refine Run.go (Ev.callC en67 (k_triviumref02_Div e4) rfl (.cons .v (.cons .v .nil)) rfl rfl) ?_
  refine Run.go (Ev.move rfl rfl) ?_
  refine Run.go (Ev.extract rfl rfl rfl) ?_
  refine Run.go (Ev.extract rfl rfl rfl) ?_
  refine Run.go (Ev.assign rfl rfl) ?_
  refine Run.go (Ev.assign rfl rfl) ?_
  refine Run.nil ?_
  refine T.seq ?_
  refine T.region ?_
  refine Run.go (Ev.move rfl rfl) ?_
  refine Run.go (Ev.move rfl rfl) ?_
  obtain ⟨x5, e6, h⟩ := bdS h
  refine Run.go (Ev.callC en67 (k_triviumref02_Div e6) rfl (.cons .v (.cons .v .nil)) rfl rfl) ?_
  refine Run.go (Ev.move rfl rfl) ?_
  refine Run.go (Ev.extract rfl rfl rfl) ?_
  refine Run.go (Ev.extract rfl rfl rfl) ?_
  refine Run.go (Ev.assign rfl rfl) ?_
  refine Run.go (Ev.assign rfl rfl) ?_
  refine Run.nil ?_
  refine T.seq ?_
  refine T.region ?_
  refine Run.go (Ev.fieldBox X rfl rfl rfl rfl rfl) ?_
  refine Run.go (Ev.loadCell X rfl rfl rfl rfl rfl rfl) ?_
  refine Run.go (Ev.move rfl rfl) ?_
  rcases boolCases p0.1 with hb7 | hb7
  · replace h := ifT hb7 h
    refine Run.on rfl rfl rfl hb7 (Ev.move rfl rfl) ?_
    refine Run.on rfl rfl rfl hb7 (Ev.len X rfl rfl rfl rfl) ?_
    refine Run.on rfl rfl rfl hb7 (Ev.int rfl rfl rfl rfl trivial) ?_
    refine Run.go (Ev.pickT rfl hb7 rfl rfl) ?_
    refine Run.go (Ev.move rfl rfl) ?_
    refine Run.go (Ev.struct X pl86 rfl rfl rfl rfl rfl rfl rfl rfl) ?_
    refine Run.go (Ev.move rfl rfl) ?_
    refine Run.go (Ev.struct X pl88 rfl rfl rfl rfl rfl rfl rfl rfl) ?_
    refine Run.do_ (Ev.storeBox X rfl rfl rfl rfl rfl rfl rfl) ?_
    refine Run.nil ?_
    refine T.ret ?_
    cases h
    exact Fin.cell X rfl rfl rfl rfl rfl
  · replace h := ifF hb7 h
    refine Run.offT rfl rfl rfl rfl hb7 ?_
    refine Run.offT rfl rfl rfl rfl hb7 ?_
    refine Run.offT rfl rfl rfl rfl hb7 ?_
    refine Run.go (Ev.pickF rfl hb7 rfl rfl) ?_
    refine Run.go (Ev.move rfl rfl) ?_
    refine Run.go (Ev.struct X pl86 rfl rfl rfl rfl rfl rfl rfl rfl) ?_
    refine Run.go (Ev.move rfl rfl) ?_
    refine Run.go (Ev.struct X pl88 rfl rfl rfl rfl rfl rfl rfl rfl) ?_
    refine Run.do_ (Ev.storeBox X rfl rfl rfl rfl rfl rfl rfl) ?_
    refine Run.nil ?_
    refine T.ret ?_
    cases h
    exact Fin.cell X rfl rfl rfl rfl rfl
theorem en39 : Enters Tryz.prog 39 := ⟨_, Tryz.func39, rfl, rfl⟩
theorem k_triviumref02_DivSmall {p0 : (List Int)} {p1 : Int} {y : (List Int) × Int} (h : m_triviumref02_DivSmall p0 p1 = some y) : Spec Tryz.prog 89 [(.v (.sl (.int .i64)) p0), (.v (.int .i64) p1)] (.tup [.v (.sl (.int .i64)) y.1, .v (.int .i64) y.2]) [] := by
  rw [m_triviumref02_DivSmall] at h
  refine enterN [(.v (.sl (.int .i64)) p0), (.v (.int .i64) p1)] 38 Tryz.func89 rfl rfl rfl ?_
  refine T.seq ?_
  refine T.region ?_
  refine Run.go (Ev.assign rfl rfl) ?_
  refine Run.go (Ev.assign rfl rfl) ?_
  refine Run.nil ?_
  refine T.seq ?_
  refine T.region ?_
  refine Run.go (Ev.move rfl rfl) ?_
  refine Run.go (Ev.len X rfl rfl rfl rfl) ?_
  obtain ⟨x1, e2, h⟩ := bdS h
  refine Run.go (Ev.e_mk X 1 e2 rfl rfl rfl rfl rfl rfl) ?_
  refine Run.go (Ev.assign rfl rfl) ?_
  refine Run.go (Ev.assign rfl rfl) ?_
  refine Run.nil ?_
  obtain ⟨⟨v3, v4⟩, hv, h⟩ := bdS h
  refine T.cut (fun _ : Unit => (⟨[(6, .own 1), (7, .v (.int .i64) v3)], [(1, .arr 3 (.int .i64) v4)], 38⟩ : St)) (fun _ => True) ?_ (fun _ _ => ?_)
  · replace h := hv
    clear hv
    refine T.seq ?_
    refine T.region ?_
    refine Run.go (Ev.move rfl rfl) ?_
    refine Run.go (Ev.len X rfl rfl rfl rfl) ?_
    refine Run.go (Ev.int rfl rfl rfl rfl trivial) ?_
    refine Run.go (Ev.assign rfl rfl) ?_
    refine Run.nil ?_
    refine T.block ?_
    refine T.loop (LoopT.ghost (Ghost.only [(1, 1)] [0, 1, 6, 7, 8] rfl) (LoopT.run (fun q : Int × Int × (List Int) => (⟨[(0, .v (.sl (.int .i64)) p0), (1, .v (.int .i64) p1), (6, .own 1), (7, .v (.int .i64) q.1), (8, .v (.int .i64) q.2.1)], [(1, .arr 3 (.int .i64) q.2.2)], 38⟩ : St)) (fun q z1 h hz1 => ?_) h))
    obtain ⟨v5, v6, v7⟩ := q
    dsimp only
    rw [m_triviumref02_DivSmall_l1] at h
    refine T.seq ?_
    refine T.seq ?_
    refine T.region ?_
    refine Run.go (Ev.move rfl rfl) ?_
    refine Run.go (Ev.int rfl rfl rfl rfl trivial) ?_
    refine Run.nil ?_
    refine T.cond rfl (fun hb8 => ?_) (fun hb8 => ?_)
    · replace h := ifT hb8 h
      refine T.skip ?_
      refine T.seq ?_
      refine T.block ?_
      refine T.seq ?_
      refine T.region ?_
      refine Run.go (Ev.move rfl rfl) ?_
      refine Run.go (Ev.int rfl rfl rfl rfl trivial) ?_
      refine Run.go (Ev.move rfl rfl) ?_
      refine Run.go (Ev.move rfl rfl) ?_
      obtain ⟨x9, e10, h⟩ := bdS h
      refine Run.go (Ev.e_rd X e10 rfl rfl rfl rfl) ?_
      refine Run.go (Ev.load X rfl rfl rfl) ?_
      refine Run.go (Ev.int rfl rfl rfl rfl trivial) ?_
      refine Run.go (Ev.assign rfl rfl) ?_
      refine Run.nil ?_
      refine T.seq ?_
      refine T.region ?_
      refine Run.go (Ev.move rfl rfl) ?_
      refine Run.go (Ev.move rfl rfl) ?_
      refine Run.go (Ev.move rfl rfl) ?_
      refine Run.go (Ev.move rfl rfl) ?_
      obtain ⟨x11, e12, h⟩ := bdS h
      refine Run.go (Ev.e_qd e12 rfl rfl rfl) ?_
      obtain ⟨j13, e14, h⟩ := bdS h
      refine Run.go (Ev.e_ixO X e14 rfl rfl rfl rfl rfl) ?_
      obtain ⟨x15, e16, h⟩ := ltS h
      refine Run.do_ (Ev.asO (Ev.storeEl X rfl rfl rfl rfl rfl) e16) ?_
      refine Run.nil ?_
      refine T.region ?_
      refine Run.go (Ev.move rfl rfl) ?_
      refine Run.go (Ev.move rfl rfl) ?_
      obtain ⟨x17, e18, h⟩ := bdS h
      refine Run.go (Ev.e_rm e18 rfl rfl rfl) ?_
      refine Run.go (Ev.assign rfl rfl) ?_
      refine Run.nil ?_
      refine T.region ?_
      refine Run.go (Ev.move rfl rfl) ?_
      refine Run.go (Ev.int rfl rfl rfl rfl trivial) ?_
      refine Run.go (Ev.assign rfl rfl) ?_
      refine Run.nil ?_
      cases h
      exact LoopT.ghost (Ghost.only [(1, 1)] [0, 1, 6, 7, 8] rfl) hz1
    · replace h := ifF hb8 h
      refine T.exit ?_
      cases h
      cases hz1
      exact ⟨(), trivial, Ghost.only [(1, 1)] [6, 7] rfl⟩
  · refine T.seq ?_
    refine T.region ?_
    refine Run.go (Ev.move rfl rfl) ?_
    refine Run.ghost (Ghost.firmAll (id := 1) rfl) ?_
    obtain ⟨x19, e20, h⟩ := bdS h
    refine Run.go (Ev.callC en90 (k_triviumref02_Trim e20) rfl (.cons .v .nil) rfl rfl) ?_
    refine Run.go (Ev.move rfl rfl) ?_
    refine Run.go (Ev.assign rfl rfl) ?_
    refine Run.go (Ev.assign rfl rfl) ?_
    refine Run.nil ?_
    refine T.ret ?_
    cases h
    exact Fin.many X rfl (.cons (.tmp .v) (.cons (.tmp .v) .nil)) rfl
theorem en89 : Enters Tryz.prog 89 := ⟨_, Tryz.func89, rfl, rfl⟩
theorem k_triviumref02_Back {p0 : (List Int)} {y : (List Int)} (h : m_triviumref02_Back p0 = some y) : Spec Tryz.prog 65 [(.v (.sl (.int .i64)) p0)] (.v (.sl (.int .u64)) y) [] := by
  rw [m_triviumref02_Back] at h
  refine enterN [(.v (.sl (.int .i64)) p0)] 22 Tryz.func65 rfl rfl rfl ?_
  refine T.seq ?_
  refine T.region ?_
  refine Run.go (Ev.assign rfl rfl) ?_
  refine Run.nil ?_
  refine T.seq ?_
  refine T.region ?_
  refine Run.go (Ev.build X 1 rfl rfl rfl rfl rfl rfl rfl rfl) ?_
  refine Run.go (Ev.assign rfl rfl) ?_
  refine Run.nil ?_
  obtain ⟨v1, hv, h⟩ := bdS h
  refine T.cut (fun _ : Unit => (⟨[(3, .own 5)], [(5, .arr 81 (.int .u64) v1)], 22⟩ : St)) (fun _ => True) ?_ (fun _ _ => ?_)
  · replace h := hv
    clear hv
    refine T.block ?_
    refine T.loop (LoopT.ghost (Ghost.only [(1, 15)] [0, 3] rfl) (LoopT.run (fun q : (List Int) × (List Int) => (⟨[(0, .v (.sl (.int .i64)) q.1), (3, .own 15)], [(15, .arr 81 (.int .u64) q.2)], 22⟩ : St)) (fun q z1 h hz1 => ?_) h))
    obtain ⟨v2, v3⟩ := q
    dsimp only
    rw [m_triviumref02_Back_l1] at h
    refine T.seq ?_
    refine T.seq ?_
    refine T.region ?_
    refine Run.go (Ev.move rfl rfl) ?_
    refine Run.go (Ev.len X rfl rfl rfl rfl) ?_
    refine Run.go (Ev.int rfl rfl rfl rfl trivial) ?_
    refine Run.nil ?_
    refine T.cond rfl (fun hb4 => ?_) (fun hb4 => ?_)
    · replace h := ifT hb4 h
      refine T.skip ?_
      refine T.block ?_
      refine T.seq ?_
      refine T.region ?_
      refine Run.go (Ev.move rfl rfl) ?_
      obtain ⟨x5, e6, h⟩ := bdS h
      refine Run.go (Ev.callC en89 (k_triviumref02_DivSmall e6) rfl (.cons .v (.cons .v .nil)) rfl rfl) ?_
      refine Run.go (Ev.move rfl rfl) ?_
      refine Run.go (Ev.extract rfl rfl rfl) ?_
      refine Run.go (Ev.extract rfl rfl rfl) ?_
      refine Run.go (Ev.assign rfl rfl) ?_
      refine Run.go (Ev.assign rfl rfl) ?_
      refine Run.nil ?_
      refine T.seq ?_
      refine T.region ?_
      refine Run.go (Ev.move rfl rfl) ?_
      refine Run.go (Ev.move rfl rfl) ?_
      refine Run.go (Ev.conv X rfl rfl rfl rfl) ?_
      refine Run.go (Ev.build X 19 rfl rfl rfl rfl rfl rfl rfl rfl) ?_
      obtain ⟨x7, e8, h⟩ := bdS h
      refine Run.go (Ev.e_ap X 20 e8 rfl rfl rfl (.own rfl) rfl rfl rfl rfl rfl) ?_
      refine Run.go (Ev.assign rfl rfl) ?_
      refine Run.nil ?_
      refine T.region ?_
      refine Run.go (Ev.move rfl rfl) ?_
      refine Run.go (Ev.assign rfl rfl) ?_
      refine Run.nil ?_
      cases h
      exact LoopT.ghost (Ghost.only [(20, 15)] [0, 3] rfl) hz1
    · replace h := ifF hb4 h
      refine T.exit ?_
      cases h
      cases hz1
      exact ⟨(), trivial, Ghost.only [(15, 5)] [3] rfl⟩
  · refine T.seq ?_
    refine T.region ?_
    refine Run.go (Ev.move rfl rfl) ?_
    refine Run.go (Ev.assign rfl rfl) ?_
    refine Run.nil ?_
    refine T.ret ?_
    cases h
    exact Fin.one rfl (.own rfl)
theorem en65 : Enters Tryz.prog 65 := ⟨_, Tryz.func65, rfl, rfl⟩
theorem k_triviumref07_Back {p0 : D_triviumref07_Z} {y : D_api_Int} (h : m_triviumref07_Back p0 = some y) : Spec Tryz.prog 64 [(.v Y_triviumref07_Z p0)] (.v Y_api_Int y) [] := by
  rw [m_triviumref07_Back] at h
  refine enterN [(.v Y_triviumref07_Z p0)] 9 Tryz.func64 rfl rfl rfl ?_
  refine T.seq ?_
  refine T.region ?_
  refine Run.go (Ev.box 1 rfl rfl rfl rfl) ?_
  refine Run.go (Ev.allocN X 2 rfl rfl rfl) ?_
  refine Run.nil ?_
  refine T.seq ?_
  refine T.drawM [6] [0, 1, 0, 4, 12, 31, 63] (by kernel_rfl) (by kernel_rfl) ?_
  refine RunD.a rfl rfl (Ev.fieldBox X rfl rfl rfl rfl rfl) ?_
  refine RunD.a rfl rfl (Ev.loadCell X rfl rfl rfl rfl rfl rfl) ?_
  refine RunD.a rfl rfl (Ev.fieldBox X rfl rfl rfl rfl rfl) ?_
  refine RunD.a rfl rfl (Ev.loadCell X rfl rfl rfl rfl rfl rfl) ?_
  obtain ⟨x1, e2, h⟩ := bdS h
  refine RunD.a rfl rfl (Ev.callC en65 (k_triviumref02_Back e2) rfl (.cons .v .nil) rfl rfl) ?_
  refine RunD.w (fun _ => Ev.struct X pl56 rfl rfl rfl rfl rfl rfl rfl rfl) ?_
  refine RunD.mN rfl (Ev.storeBox X rfl rfl rfl rfl rfl rfl rfl) ?_
  refine RunD.nil ?_
  refine T.ret ?_
  cases h
  exact Fin.cell X rfl rfl rfl rfl rfl
theorem en64 : Enters Tryz.prog 64 := ⟨_, Tryz.func64, rfl, rfl⟩
end Go.Proofs.YtbmogniipgmkiaaGreat.AE
/- The code comes to the printed functions (printed by a program of ours). -/
namespace Go.Proofs.YtbmogniipgmkiaaGreat.AE
open Go Go.RowKit Go.Proofs.YtbmogniipgmkiaaGreat.AP
set_option linter.unusedVariables false
set_option maxRecDepth 20000
theorem k_triviumref08_Back {p0 : D_triviumref08_Q} {y : D_api_Rat} (h : m_triviumref08_Back p0 = some y) : Spec Tryz.prog 38 [(.v Y_triviumref08_Q p0)] (.v Y_api_Rat y) [] := by
  rw [m_triviumref08_Back] at h
  refine enterN [(.v Y_triviumref08_Q p0)] 10 Tryz.func38 rfl rfl rfl ?_
  refine T.seq ?_
  refine T.region ?_
  refine Run.go (Ev.box 1 rfl rfl rfl rfl) ?_
  refine Run.go (Ev.allocN X 2 rfl rfl rfl) ?_
  refine Run.nil ?_
  refine T.seq ?_
  refine T.drawM [7] [0, 1, 3, 0, 8, 31, 63, 127] (by kernel_rfl) (by kernel_rfl) ?_
  refine RunD.a rfl rfl (Ev.fieldBox X rfl rfl rfl rfl rfl) ?_
  refine RunD.a rfl rfl (Ev.loadBox X rfl rfl rfl rfl rfl) ?_
  obtain ⟨x1, e2, h⟩ := bdS h
  refine RunD.a rfl rfl (Ev.callC en64 (k_triviumref07_Back e2) rfl (.cons .v .nil) rfl rfl) ?_
  refine RunD.a rfl rfl (Ev.fieldBox X rfl rfl rfl rfl rfl) ?_
  refine RunD.a rfl rfl (Ev.loadCell X rfl rfl rfl rfl rfl rfl) ?_
  obtain ⟨x3, e4, h⟩ := bdS h
  refine RunD.a rfl rfl (Ev.callC en65 (k_triviumref02_Back e4) rfl (.cons .v .nil) rfl rfl) ?_
  refine RunD.w (fun _ => Ev.struct X pl58 rfl rfl rfl rfl rfl rfl rfl rfl) ?_
  refine RunD.mN rfl (Ev.storeBox X rfl rfl rfl rfl rfl rfl rfl) ?_
  refine RunD.nil ?_
  refine T.ret ?_
  cases h
  exact Fin.cell X rfl rfl rfl rfl rfl
theorem en38 : Enters Tryz.prog 38 := ⟨_, Tryz.func38, rfl, rfl⟩
theorem k_triviumref08_Clean {p0 : D_api_Rat} {p1 : Int} {y : D_api_Rat} (h : m_triviumref08_Clean p0 p1 = some y) : Spec Tryz.prog 20 [(.v Y_api_Rat p0), (.v (.int .i64) p1)] (.v Y_api_Rat y) [] := by
  rw [m_triviumref08_Clean] at h
  refine enterN [(.v Y_api_Rat p0), (.v (.int .i64) p1)] 23 Tryz.func20 rfl rfl rfl ?_
  refine T.seq ?_
  refine T.region ?_
  refine Run.go (Ev.box 1 rfl rfl rfl rfl) ?_
  refine Run.go (Ev.allocN X 2 rfl rfl rfl) ?_
  refine Run.nil ?_
  refine T.seq ?_
  refine T.region ?_
  refine Run.go (Ev.fieldBox X rfl rfl rfl rfl rfl) ?_
  refine Run.go (Ev.loadCell X rfl rfl rfl rfl rfl rfl) ?_
  refine Run.go (Ev.move rfl rfl) ?_
  obtain ⟨x1, e2, h⟩ := bdS h
  refine Run.go (Ev.callC en37 (k_triviumref02_Clean e2) rfl (.cons .v (.cons .v .nil)) rfl rfl) ?_
  refine Run.go (Ev.assign rfl rfl) ?_
  refine Run.nil ?_
  obtain ⟨v3, hv, h⟩ := bdS h
  refine T.cut (fun _ : Unit => (⟨[(1, .v (.int .i64) p1), (2, .box 1 0), (4, .box 2 0), (5, .v (.sl (.int .u64)) v3)], [(1, .box [.v .bool p0.1.1, .v (.sl (.int .u64)) p0.1.2, .v (.sl (.int .u64)) p0.2]), (2, .box [.v .bool false, .nil, .nil])], 23⟩ : St)) (fun _ => True) ?_ (fun _ _ => ?_)
  · replace h := hv
    clear hv
    refine T.seq ?_
    refine T.region ?_
    refine Run.go (Ev.move rfl rfl) ?_
    refine Run.go (Ev.len X rfl rfl rfl rfl) ?_
    refine Run.go (Ev.int rfl rfl rfl rfl trivial) ?_
    refine Run.nil ?_
    refine T.cond rfl (fun hb4 => ?_) (fun hb4 => ?_)
    · replace h := ifT hb4 h
      refine T.region ?_
      refine Run.go (Ev.build X 6 rfl rfl rfl rfl rfl rfl rfl rfl) ?_
      refine Run.go (Ev.assign rfl rfl) ?_
      refine Run.nil ?_
      cases h
      exact ⟨(), trivial, Ghost.trans (Ghost.firmAll (id := 6) rfl) (Ghost.only [(1, 1), (2, 2)] [1, 2, 4, 5] rfl)⟩
    · replace h := ifF hb4 h
      refine T.skip ?_
      cases h
      exact ⟨(), trivial, Ghost.only [(1, 1), (2, 2)] [1, 2, 4, 5] rfl⟩
  · refine T.seq ?_
    refine T.region ?_
    refine Run.go (Ev.fieldBox X rfl rfl rfl rfl rfl) ?_
    refine Run.go (Ev.loadBox X rfl rfl rfl rfl rfl) ?_
    refine Run.go (Ev.move rfl rfl) ?_
    obtain ⟨x5, e6, h⟩ := bdS h
    refine Run.go (Ev.callC en41 (k_triviumref07_Clean e6) rfl (.cons .v (.cons .v .nil)) rfl rfl) ?_
    obtain ⟨x7, e8, h⟩ := bdS h
    refine Run.go (Ev.callC en40 (k_triviumref07_Of e8) rfl (.cons .v .nil) rfl rfl) ?_
    refine Run.go (Ev.move rfl rfl) ?_
    obtain ⟨x9, e10, h⟩ := bdS h
    refine Run.go (Ev.callC en42 (k_triviumref02_Of e10) rfl (.cons .v .nil) rfl rfl) ?_
    obtain ⟨x11, e12, h⟩ := bdS h
    refine Run.go (Ev.callC en39 (k_triviumref08_Low e12) rfl (.cons .v (.cons .v .nil)) rfl rfl) ?_
    obtain ⟨x13, e14, h⟩ := bdS h
    refine Run.go (Ev.callC en38 (k_triviumref08_Back e14) rfl (.cons .v .nil) rfl rfl) ?_
    refine Run.do_ (Ev.storeBox X rfl rfl rfl rfl rfl rfl rfl) ?_
    refine Run.nil ?_
    refine T.ret ?_
    cases h
    exact Fin.cell X rfl rfl rfl rfl rfl
theorem en20 : Enters Tryz.prog 20 := ⟨_, Tryz.func20, rfl, rfl⟩
theorem k_triviumref22_CleanRule {p0 : D_api_Rule} {y : D_api_Rule} (h : m_triviumref22_CleanRule p0 = some y) : Spec Tryz.prog 21 [(.v Y_api_Rule p0)] (.v Y_api_Rule y) [] := by
  rw [m_triviumref22_CleanRule] at h
  refine enterN [(.v Y_api_Rule p0)] 79 Tryz.func21 rfl rfl rfl ?_
  refine T.seq ?_
  refine T.region ?_
  refine Run.go (Ev.box 1 rfl rfl rfl rfl) ?_
  refine Run.go (Ev.allocN X 2 rfl rfl rfl) ?_
  refine Run.nil ?_
  refine T.seq ?_
  refine T.drawE [([1], []), ([1], []), ([], []), ([1], []), ([1], []), ([1], []), ([1], []), ([], []), ([4], [4]), ([4], [4])] [0, 1, 3, 0, 8, 0, 32, 127, 0, 511] (by kernel_rfl) (by kernel_rfl) ?_
  refine RunE.go0 [1] (fun ô hô => Ev.fieldBox X rfl (ka hô rfl rfl) rfl rfl rfl) rfl rfl ?_
  refine RunE.go0 [1] (fun ô hô => Ev.loadCell X rfl (ka hô rfl rfl) rfl rfl rfl rfl) rfl rfl ?_
  obtain ⟨x1, e2, h⟩ := bdS h
  refine RunE.go0 [] (fun ô hô => Ev.callC en19 (k_triviumref22_short e2) rfl (.cons .v .nil) rfl rfl) rfl rfl ?_
  refine RunE.go0 [1] (fun ô hô => Ev.fieldBox X rfl (ka hô rfl rfl) rfl rfl rfl) rfl rfl ?_
  refine RunE.go0 [1] (fun ô hô => Ev.loadBox X rfl (ka hô rfl rfl) rfl rfl rfl) rfl rfl ?_
  refine RunE.go0 [1] (fun ô hô => Ev.fieldBox X rfl (ka hô rfl rfl) rfl rfl rfl) rfl rfl ?_
  refine RunE.go0 [1] (fun ô hô => Ev.loadCell X rfl (ka hô rfl rfl) rfl rfl rfl rfl) rfl rfl ?_
  refine RunE.go0 [] (fun ô hô => Ev.structC pl64 zs64 rfl rfl rfl) rfl rfl ?_
  refine RunE.go1 [4] (fun ô hô => Ev.allocN X 4 rfl (ka hô rfl rfl) rfl) rfl rfl ?_
  refine RunE.do1 [4] (fun ô hô => Ev.storeC sz64 rfl (ka hô rfl rfl) rfl rfl rfl rfl) rfl rfl ?_
  refine RunE.nil ?_
  obtain ⟨v3, hv, h⟩ := bdS h
  refine T.cut (fun _ : Unit => (⟨[(2, .box 2 0), (3, .box 4 0)], [(2, .box [.v .str ((bs []) : ByteArray), .v (.int .u32) (0 : Int), .v (.int .i64) (0 : Int), .v .bool false, .nil]), (4, .box [.v .str x1, .v (.int .u32) p0.2.1.1, .v (.int .i64) p0.2.1.2, .v .bool p0.2.2.1, .own 149]), (149, .arr 93 (.sl Y_api_Hop) v3)], 79⟩ : St)) (fun _ => True) ?_ (fun _ _ => ?_)
  · replace h := hv
    clear hv
    refine T.seq ?_
    refine T.region ?_
    refine Run.go (Ev.assign rfl rfl) ?_
    refine Run.nil ?_
    refine T.block ?_
    refine T.loop (LoopT.ghost (Ghost.trans (Ghost.emptyC 4 4 1649 93 (.sl Y_api_Hop) rfl rfl rfl) (Ghost.only [(1, 1), (2, 2), (4, 4), (1649, 1147)] [1, 2, 3, 4] rfl)) (LoopT.run (fun q : Int × (List (List D_api_Hop)) => (⟨[(1, .box 1 0), (2, .box 2 0), (3, .box 4 0), (4, .v (.int .i64) q.1)], [(1, .box [.v .str p0.1, .v (.int .u32) p0.2.1.1, .v (.int .i64) p0.2.1.2, .v .bool p0.2.2.1, .v (.sl (.sl Y_api_Hop)) p0.2.2.2]), (2, .box [.v .str ((bs []) : ByteArray), .v (.int .u32) (0 : Int), .v (.int .i64) (0 : Int), .v .bool false, .nil]), (4, .box [.v .str x1, .v (.int .u32) p0.2.1.1, .v (.int .i64) p0.2.1.2, .v .bool p0.2.2.1, .own 1147]), (1147, .arr 93 (.sl Y_api_Hop) q.2)], 79⟩ : St)) (fun q z1 h hz1 => ?_) h))
    obtain ⟨v4, v5⟩ := q
    dsimp only
    rw [m_triviumref22_CleanRule_l1] at h
    refine T.seq ?_
    obtain ⟨v6, hv, h⟩ := bdS h
    refine T.cut (fun _ : Unit => (⟨[(1, .box 1 0), (2, .box 2 0), (3, .box 4 0), (4, .v (.int .i64) v4), (24, .v .bool v6)], [(1, .box [.v .str p0.1, .v (.int .u32) p0.2.1.1, .v (.int .i64) p0.2.1.2, .v .bool p0.2.2.1, .v (.sl (.sl Y_api_Hop)) p0.2.2.2]), (2, .box [.v .str ((bs []) : ByteArray), .v (.int .u32) (0 : Int), .v (.int .i64) (0 : Int), .v .bool false, .nil]), (4, .box [.v .str x1, .v (.int .u32) p0.2.1.1, .v (.int .i64) p0.2.1.2, .v .bool p0.2.2.1, .own 1147]), (1147, .arr 93 (.sl Y_api_Hop) v5)], 79⟩ : St)) (fun _ => True) ?_ (fun _ _ => ?_)
    · replace h := hv
      clear hv
      refine T.region ?_
      refine Run.go (Ev.move rfl rfl) ?_
      refine Run.go (Ev.fieldBox X rfl rfl rfl rfl rfl) ?_
      refine Run.go (Ev.loadCell X rfl rfl rfl rfl rfl rfl) ?_
      refine Run.go (Ev.len X rfl rfl rfl rfl) ?_
      refine Run.go (Ev.int rfl rfl rfl rfl trivial) ?_
      refine Run.go (Ev.move rfl rfl) ?_
      rcases boolCases (decide (v4 < (p0.2.2.2.length : Int))) with hb7 | hb7
      · replace h := ifT hb7 h
        refine Run.on rfl rfl rfl hb7 (Ev.move rfl rfl) ?_
        refine Run.on rfl rfl rfl hb7 (Ev.int rfl rfl rfl rfl trivial) ?_
        refine Run.go (Ev.pickT rfl hb7 rfl rfl) ?_
        refine Run.nil ?_
        cases h
        exact ⟨(), trivial, Ghost.only [(1, 1), (2, 2), (4, 4), (1147, 1147)] [1, 2, 3, 4, 24] rfl⟩
      · replace h := ifF hb7 h
        refine Run.offT rfl rfl rfl rfl hb7 ?_
        refine Run.offT rfl rfl rfl rfl hb7 ?_
        refine Run.go (Ev.pickF rfl hb7 rfl rfl) ?_
        refine Run.nil ?_
        cases h
        exact ⟨(), trivial, Ghost.only [(1, 1), (2, 2), (4, 4), (1147, 1147)] [1, 2, 3, 4, 24] rfl⟩
    · refine T.cond rfl (fun hb8 => ?_) (fun hb8 => ?_)
      · replace h := ifT hb8 h
        refine T.skip ?_
        obtain ⟨v9, hv, h⟩ := bdS h
        refine T.cut (fun _ : Unit => (⟨[(1, .box 1 0), (2, .box 2 0), (3, .box 4 0), (4, .v (.int .i64) v4)], [(1, .box [.v .str p0.1, .v (.int .u32) p0.2.1.1, .v (.int .i64) p0.2.1.2, .v .bool p0.2.2.1, .v (.sl (.sl Y_api_Hop)) p0.2.2.2]), (2, .box [.v .str ((bs []) : ByteArray), .v (.int .u32) (0 : Int), .v (.int .i64) (0 : Int), .v .bool false, .nil]), (4, .box [.v .str x1, .v (.int .u32) p0.2.1.1, .v (.int .i64) p0.2.1.2, .v .bool p0.2.2.1, .own 1823]), (1823, .arr 93 (.sl Y_api_Hop) v9)], 79⟩ : St)) (fun _ => True) ?_ (fun _ _ => ?_)
        · replace h := hv
          clear hv
          refine T.block ?_
          refine T.seq ?_
          refine T.region ?_
          refine Run.go (Ev.build X 1828 rfl rfl rfl rfl rfl rfl rfl rfl) ?_
          refine Run.go (Ev.assign rfl rfl) ?_
          refine Run.nil ?_
          obtain ⟨v10, hv, h⟩ := bdS h
          refine T.cut (fun _ : Unit => (⟨[(1, .box 1 0), (2, .box 2 0), (3, .box 4 0), (4, .v (.int .i64) v4), (5, .own 1859)], [(1, .box [.v .str p0.1, .v (.int .u32) p0.2.1.1, .v (.int .i64) p0.2.1.2, .v .bool p0.2.2.1, .v (.sl (.sl Y_api_Hop)) p0.2.2.2]), (2, .box [.v .str ((bs []) : ByteArray), .v (.int .u32) (0 : Int), .v (.int .i64) (0 : Int), .v .bool false, .nil]), (4, .box [.v .str x1, .v (.int .u32) p0.2.1.1, .v (.int .i64) p0.2.1.2, .v .bool p0.2.2.1, .own 1147]), (1859, .arr 95 Y_api_Hop v10), (1147, .arr 93 (.sl Y_api_Hop) v5)], 79⟩ : St)) (fun _ => True) ?_ (fun _ _ => ?_)
          · replace h := hv
            clear hv
            refine T.seq ?_
            refine T.region ?_
            refine Run.go (Ev.assign rfl rfl) ?_
            refine Run.nil ?_
            refine T.block ?_
            refine T.loop (LoopT.ghost (Ghost.only [(1, 1), (2, 2), (4, 4), (1828, 1945), (1147, 1147)] [1, 2, 3, 4, 5, 6] rfl) (LoopT.run (fun q : Int × (List D_api_Hop) => (⟨[(1, .box 1 0), (2, .box 2 0), (3, .box 4 0), (4, .v (.int .i64) v4), (5, .own 1945), (6, .v (.int .i64) q.1)], [(1, .box [.v .str p0.1, .v (.int .u32) p0.2.1.1, .v (.int .i64) p0.2.1.2, .v .bool p0.2.2.1, .v (.sl (.sl Y_api_Hop)) p0.2.2.2]), (2, .box [.v .str ((bs []) : ByteArray), .v (.int .u32) (0 : Int), .v (.int .i64) (0 : Int), .v .bool false, .nil]), (4, .box [.v .str x1, .v (.int .u32) p0.2.1.1, .v (.int .i64) p0.2.1.2, .v .bool p0.2.2.1, .own 1147]), (1945, .arr 95 Y_api_Hop q.2), (1147, .arr 93 (.sl Y_api_Hop) v5)], 79⟩ : St)) (fun q z2 h hz2 => ?_) h))
            obtain ⟨v11, v12⟩ := q
            dsimp only
            rw [m_triviumref22_CleanRule_l2] at h
            refine T.seq ?_
            obtain ⟨v13, hv, h⟩ := bdS h
            refine T.cut (fun _ : Unit => (⟨[(1, .box 1 0), (2, .box 2 0), (3, .box 4 0), (4, .v (.int .i64) v4), (5, .own 1945), (6, .v (.int .i64) v11), (39, .v .bool v13)], [(1, .box [.v .str p0.1, .v (.int .u32) p0.2.1.1, .v (.int .i64) p0.2.1.2, .v .bool p0.2.2.1, .v (.sl (.sl Y_api_Hop)) p0.2.2.2]), (2, .box [.v .str ((bs []) : ByteArray), .v (.int .u32) (0 : Int), .v (.int .i64) (0 : Int), .v .bool false, .nil]), (4, .box [.v .str x1, .v (.int .u32) p0.2.1.1, .v (.int .i64) p0.2.1.2, .v .bool p0.2.2.1, .own 1147]), (1945, .arr 95 Y_api_Hop v12), (1147, .arr 93 (.sl Y_api_Hop) v5)], 79⟩ : St)) (fun _ => True) ?_ (fun _ _ => ?_)
            · replace h := hv
              clear hv
              refine T.region ?_
              refine Run.go (Ev.move rfl rfl) ?_
              refine Run.go (Ev.fieldBox X rfl rfl rfl rfl rfl) ?_
              refine Run.go (Ev.loadCell X rfl rfl rfl rfl rfl rfl) ?_
              refine Run.go (Ev.move rfl rfl) ?_
              obtain ⟨x14, e15, h⟩ := bdS h
              refine Run.go (Ev.e_rd X e15 rfl rfl rfl rfl) ?_
              refine Run.go (Ev.load X rfl rfl rfl) ?_
              refine Run.go (Ev.len X rfl rfl rfl rfl) ?_
              refine Run.go (Ev.int rfl rfl rfl rfl trivial) ?_
              refine Run.go (Ev.move rfl rfl) ?_
              rcases boolCases (decide (v11 < (x14.length : Int))) with hb16 | hb16
              · replace h := ifT hb16 h
                refine Run.on rfl rfl rfl hb16 (Ev.move rfl rfl) ?_
                refine Run.on rfl rfl rfl hb16 (Ev.int rfl rfl rfl rfl trivial) ?_
                refine Run.go (Ev.pickT rfl hb16 rfl rfl) ?_
                refine Run.nil ?_
                cases h
                exact ⟨(), trivial, Ghost.only [(1, 1), (2, 2), (4, 4), (1945, 1945), (1147, 1147)] [1, 2, 3, 4, 5, 6, 39] rfl⟩
              · replace h := ifF hb16 h
                refine Run.offT rfl rfl rfl rfl hb16 ?_
                refine Run.offT rfl rfl rfl rfl hb16 ?_
                refine Run.go (Ev.pickF rfl hb16 rfl rfl) ?_
                refine Run.nil ?_
                cases h
                exact ⟨(), trivial, Ghost.only [(1, 1), (2, 2), (4, 4), (1945, 1945), (1147, 1147)] [1, 2, 3, 4, 5, 6, 39] rfl⟩
            · refine T.cond rfl (fun hb17 => ?_) (fun hb17 => ?_)
              · replace h := ifT hb17 h
                refine T.skip ?_
                refine T.seq ?_
                refine T.block ?_
                refine T.seq ?_
                refine T.region ?_
                refine Run.go (Ev.fieldBox X rfl rfl rfl rfl rfl) ?_
                refine Run.go (Ev.loadCell X rfl rfl rfl rfl rfl rfl) ?_
                refine Run.go (Ev.move rfl rfl) ?_
                obtain ⟨x18, e19, h⟩ := bdS h
                refine Run.go (Ev.e_rd X e19 rfl rfl rfl rfl) ?_
                refine Run.go (Ev.load X rfl rfl rfl) ?_
                refine Run.go (Ev.move rfl rfl) ?_
                obtain ⟨x20, e21, h⟩ := bdS h
                refine Run.go (Ev.e_rd X e21 rfl rfl rfl rfl) ?_
                refine Run.go (Ev.fieldAddr X rfl rfl rfl rfl) ?_
                refine Run.go (Ev.load X rfl rfl rfl) ?_
                refine Run.go (Ev.assign rfl rfl) ?_
                refine Run.nil ?_
                obtain ⟨v22, hv, h⟩ := bdS h
                refine T.cut (fun _ : Unit => (⟨[(1, .box 1 0), (2, .box 2 0), (3, .box 4 0), (4, .v (.int .i64) v4), (5, .own 1945), (6, .v (.int .i64) v11), (7, .v (.int .i64) v22)], [(1, .box [.v .str p0.1, .v (.int .u32) p0.2.1.1, .v (.int .i64) p0.2.1.2, .v .bool p0.2.2.1, .v (.sl (.sl Y_api_Hop)) p0.2.2.2]), (2, .box [.v .str ((bs []) : ByteArray), .v (.int .u32) (0 : Int), .v (.int .i64) (0 : Int), .v .bool false, .nil]), (4, .box [.v .str x1, .v (.int .u32) p0.2.1.1, .v (.int .i64) p0.2.1.2, .v .bool p0.2.2.1, .own 1147]), (1945, .arr 95 Y_api_Hop v12), (1147, .arr 93 (.sl Y_api_Hop) v5)], 79⟩ : St)) (fun _ => True) ?_ (fun _ _ => ?_)
                · replace h := hv
                  clear hv
                  obtain ⟨v23, hv, h⟩ := bdS h
                  refine T.cut (fun _ : Unit => (⟨[(1, .box 1 0), (2, .box 2 0), (3, .box 4 0), (4, .v (.int .i64) v4), (5, .own 1945), (6, .v (.int .i64) v11), (7, .v (.int .i64) x20.2), (56, .v .bool v23)], [(1, .box [.v .str p0.1, .v (.int .u32) p0.2.1.1, .v (.int .i64) p0.2.1.2, .v .bool p0.2.2.1, .v (.sl (.sl Y_api_Hop)) p0.2.2.2]), (2, .box [.v .str ((bs []) : ByteArray), .v (.int .u32) (0 : Int), .v (.int .i64) (0 : Int), .v .bool false, .nil]), (4, .box [.v .str x1, .v (.int .u32) p0.2.1.1, .v (.int .i64) p0.2.1.2, .v .bool p0.2.2.1, .own 1147]), (1945, .arr 95 Y_api_Hop v12), (1147, .arr 93 (.sl Y_api_Hop) v5)], 79⟩ : St)) (fun _ => True) ?_ (fun _ _ => ?_)
                  · replace h := hv
                    clear hv
                    refine T.region ?_
                    refine Run.go (Ev.move rfl rfl) ?_
                    refine Run.go (Ev.int rfl rfl rfl rfl trivial) ?_
                    refine Run.go (Ev.move rfl rfl) ?_
                    rcases boolCases (decide (x20.2 < (-1000000))) with hb24 | hb24
                    · replace h := ifT hb24 h
                      refine Run.offT rfl rfl rfl rfl hb24 ?_
                      refine Run.offT rfl rfl rfl rfl hb24 ?_
                      refine Run.go (Ev.pickT rfl hb24 rfl rfl) ?_
                      refine Run.nil ?_
                      cases h
                      exact ⟨(), trivial, Ghost.only [(1, 1), (2, 2), (4, 4), (1945, 1945), (1147, 1147)] [1, 2, 3, 4, 5, 6, 7, 56] rfl⟩
                    · replace h := ifF hb24 h
                      refine Run.on rfl rfl rfl hb24 (Ev.move rfl rfl) ?_
                      refine Run.on rfl rfl rfl hb24 (Ev.int rfl rfl rfl rfl trivial) ?_
                      refine Run.go (Ev.pickF rfl hb24 rfl rfl) ?_
                      refine Run.nil ?_
                      cases h
                      exact ⟨(), trivial, Ghost.only [(1, 1), (2, 2), (4, 4), (1945, 1945), (1147, 1147)] [1, 2, 3, 4, 5, 6, 7, 56] rfl⟩
                  · refine T.cond rfl (fun hb25 => ?_) (fun hb25 => ?_)
                    · replace h := ifT hb25 h
                      refine T.region ?_
                      refine Run.go (Ev.assign rfl rfl) ?_
                      refine Run.nil ?_
                      cases h
                      exact ⟨(), trivial, Ghost.only [(1, 1), (2, 2), (4, 4), (1945, 1945), (1147, 1147)] [1, 2, 3, 4, 5, 6, 7] rfl⟩
                    · replace h := ifF hb25 h
                      refine T.skip ?_
                      cases h
                      exact ⟨(), trivial, Ghost.only [(1, 1), (2, 2), (4, 4), (1945, 1945), (1147, 1147)] [1, 2, 3, 4, 5, 6, 7] rfl⟩
                · refine T.region ?_
                  refine Run.go (Ev.move rfl rfl) ?_
                  refine Run.go (Ev.fieldBox X rfl rfl rfl rfl rfl) ?_
                  refine Run.go (Ev.loadCell X rfl rfl rfl rfl rfl rfl) ?_
                  refine Run.go (Ev.move rfl rfl) ?_
                  obtain ⟨x26, e27, h⟩ := bdS h
                  refine Run.go (Ev.e_rd X e27 rfl rfl rfl rfl) ?_
                  refine Run.go (Ev.load X rfl rfl rfl) ?_
                  refine Run.go (Ev.move rfl rfl) ?_
                  obtain ⟨x28, e29, h⟩ := bdS h
                  refine Run.go (Ev.e_rd X e29 rfl rfl rfl rfl) ?_
                  refine Run.go (Ev.fieldAddr X rfl rfl rfl rfl) ?_
                  refine Run.go (Ev.load X rfl rfl rfl) ?_
                  obtain ⟨x30, e31, h⟩ := bdS h
                  refine Run.go (Ev.callC en19 (k_triviumref22_short e31) rfl (.cons .v .nil) rfl rfl) ?_
                  refine Run.go (Ev.move rfl rfl) ?_
                  refine Run.go (Ev.struct X pl95 rfl rfl rfl rfl rfl rfl rfl rfl) ?_
                  refine Run.go (Ev.build X 1994 rfl rfl rfl rfl rfl rfl rfl rfl) ?_
                  obtain ⟨x32, e33, h⟩ := bdS h
                  refine Run.go (Ev.e_ap X 1995 e33 rfl rfl rfl (.own rfl) rfl rfl rfl rfl rfl) ?_
                  refine Run.go (Ev.assign rfl rfl) ?_
                  refine Run.nil ?_
                  refine T.region ?_
                  refine Run.go (Ev.move rfl rfl) ?_
                  refine Run.go (Ev.int rfl rfl rfl rfl trivial) ?_
                  refine Run.go (Ev.assign rfl rfl) ?_
                  refine Run.nil ?_
                  cases h
                  exact LoopT.ghost (Ghost.only [(1, 1), (2, 2), (4, 4), (1995, 1945), (1147, 1147)] [1, 2, 3, 4, 5, 6] rfl) hz2
              · replace h := ifF hb17 h
                refine T.exit ?_
                cases h
                cases hz2
                exact ⟨(), trivial, Ghost.only [(1, 1), (2, 2), (4, 4), (1945, 1859), (1147, 1147)] [1, 2, 3, 4, 5] rfl⟩
          · refine T.region ?_
            refine Run.go (Ev.fieldBox X rfl rfl rfl rfl rfl) ?_
            refine Run.go (Ev.loadCell X rfl rfl rfl rfl rfl rfl) ?_
            refine Run.go (Ev.move rfl rfl) ?_
            refine Run.ghost (Ghost.firmAll (id := 1859) rfl) ?_
            refine Run.go (Ev.build X 1996 rfl rfl rfl rfl rfl rfl rfl rfl) ?_
            obtain ⟨x34, e35, h⟩ := bdS h
            refine Run.go (Ev.e_ap X 1997 e35 rfl rfl rfl (.own rfl) rfl rfl rfl rfl rfl) ?_
            refine Run.go (Ev.fieldBox X rfl rfl rfl rfl rfl) ?_
            refine Run.do_ (Ev.storeC sz62 rfl rfl rfl rfl rfl rfl) ?_
            refine Run.nil ?_
            cases h
            exact ⟨(), trivial, Ghost.only [(1, 1), (2, 2), (4, 4), (1997, 1823)] [1, 2, 3, 4] rfl⟩
        · refine T.region ?_
          refine Run.go (Ev.move rfl rfl) ?_
          refine Run.go (Ev.int rfl rfl rfl rfl trivial) ?_
          refine Run.go (Ev.assign rfl rfl) ?_
          refine Run.nil ?_
          cases h
          exact LoopT.ghost (Ghost.only [(1, 1), (2, 2), (4, 4), (1823, 1147)] [1, 2, 3, 4] rfl) hz1
      · replace h := ifF hb8 h
        refine T.exit ?_
        cases h
        cases hz1
        exact ⟨(), trivial, Ghost.only [(2, 2), (4, 4), (1147, 149)] [2, 3] rfl⟩
  · refine T.seq ?_
    refine T.region ?_
    refine Run.go (Ev.loadStn sz64 rfl rfl rfl rfl) ?_
    refine Run.do_ (Ev.storeC sz64 rfl rfl rfl rfl rfl rfl) ?_
    refine Run.nil ?_
    refine T.ret ?_
    cases h
    refine Fin.ghost (Ghost.firmAll (id := 149) rfl) ?_
    exact Fin.cell X rfl rfl rfl rfl rfl
theorem en21 : Enters Tryz.prog 21 := ⟨_, Tryz.func21, rfl, rfl⟩
theorem k_triviumref22_Clean {p0 : (List D_api_Net)} {y : (List D_api_Net)} (h : m_triviumref22_Clean p0 = some y) : Spec Tryz.prog 5 [(.v (.sl Y_api_Net) p0)] (.v (.sl Y_api_Net) y) [] := by
  rw [m_triviumref22_Clean] at h
  refine enterN [(.v (.sl Y_api_Net) p0)] 132 Tryz.func5 rfl rfl rfl ?_
  refine T.seq ?_
  refine T.region ?_
  refine Run.go (Ev.assign rfl rfl) ?_
  refine Run.nil ?_
  refine T.seq ?_
  refine T.region ?_
  refine Run.go (Ev.build X 1 rfl rfl rfl rfl rfl rfl rfl rfl) ?_
  refine Run.go (Ev.assign rfl rfl) ?_
  refine Run.nil ?_
  obtain ⟨v1, hv, h⟩ := bdS h
  refine T.cut (fun _ : Unit => (⟨[(3, .own 621)], [(621, .arr 28 Y_api_Net v1)], 132⟩ : St)) (fun _ => True) ?_ (fun _ _ => ?_)
  · replace h := hv
    clear hv
    refine T.seq ?_
    refine T.region ?_
    refine Run.go (Ev.assign rfl rfl) ?_
    refine Run.nil ?_
    refine T.block ?_
    refine T.loop (LoopT.ghost (Ghost.only [(1, 2467)] [0, 3, 4] rfl) (LoopT.run (fun q : Int × (List D_api_Net) => (⟨[(0, .v (.sl Y_api_Net) p0), (3, .own 2467), (4, .v (.int .i64) q.1)], [(2467, .arr 28 Y_api_Net q.2)], 132⟩ : St)) (fun q z1 h hz1 => ?_) h))
    obtain ⟨v2, v3⟩ := q
    dsimp only
    rw [m_triviumref22_Clean_l1] at h
    refine T.seq ?_
    obtain ⟨v4, hv, h⟩ := bdS h
    refine T.cut (fun _ : Unit => (⟨[(0, .v (.sl Y_api_Net) p0), (3, .own 2467), (4, .v (.int .i64) v2), (19, .v .bool v4)], [(2467, .arr 28 Y_api_Net v3)], 132⟩ : St)) (fun _ => True) ?_ (fun _ _ => ?_)
    · replace h := hv
      clear hv
      refine T.region ?_
      refine Run.go (Ev.move rfl rfl) ?_
      refine Run.go (Ev.move rfl rfl) ?_
      refine Run.go (Ev.len X rfl rfl rfl rfl) ?_
      refine Run.go (Ev.int rfl rfl rfl rfl trivial) ?_
      refine Run.go (Ev.move rfl rfl) ?_
      rcases boolCases (decide (v2 < (p0.length : Int))) with hb5 | hb5
      · replace h := ifT hb5 h
        refine Run.on rfl rfl rfl hb5 (Ev.move rfl rfl) ?_
        refine Run.on rfl rfl rfl hb5 (Ev.int rfl rfl rfl rfl trivial) ?_
        refine Run.go (Ev.pickT rfl hb5 rfl rfl) ?_
        refine Run.nil ?_
        cases h
        exact ⟨(), trivial, Ghost.only [(2467, 2467)] [0, 3, 4, 19] rfl⟩
      · replace h := ifF hb5 h
        refine Run.offT rfl rfl rfl rfl hb5 ?_
        refine Run.offT rfl rfl rfl rfl hb5 ?_
        refine Run.go (Ev.pickF rfl hb5 rfl rfl) ?_
        refine Run.nil ?_
        cases h
        exact ⟨(), trivial, Ghost.only [(2467, 2467)] [0, 3, 4, 19] rfl⟩
    · refine T.cond rfl (fun hb6 => ?_) (fun hb6 => ?_)
      · replace h := ifT hb6 h
        refine T.skip ?_
        obtain ⟨v7, hv, h⟩ := bdS h
        refine T.cut (fun _ : Unit => (⟨[(0, .v (.sl Y_api_Net) p0), (3, .own 3389), (4, .v (.int .i64) v2)], [(3389, .arr 28 Y_api_Net v7)], 132⟩ : St)) (fun _ => True) ?_ (fun _ _ => ?_)
        · replace h := hv
          clear hv
          refine T.block ?_
          refine T.seq ?_
          refine T.region ?_
          refine Run.go (Ev.move rfl rfl) ?_
          refine Run.go (Ev.move rfl rfl) ?_
          obtain ⟨x8, e9, h⟩ := bdS h
          refine Run.go (Ev.e_rd X e9 rfl rfl rfl rfl) ?_
          refine Run.go (Ev.load X rfl rfl rfl) ?_
          refine Run.go (Ev.allocN X 3391 rfl rfl rfl) ?_
          refine Run.do_ (Ev.storeBox X rfl rfl rfl rfl rfl rfl rfl) ?_
          refine Run.nil ?_
          refine T.seq ?_
          refine T.region ?_
          refine Run.go (Ev.fieldBox X rfl rfl rfl rfl rfl) ?_
          refine Run.go (Ev.loadCell X rfl rfl rfl rfl rfl rfl) ?_
          obtain ⟨x10, e11, h⟩ := bdS h
          refine Run.go (Ev.callC en19 (k_triviumref22_short e11) rfl (.cons .v .nil) rfl rfl) ?_
          refine Run.go (Ev.structC pl28 zs28 rfl rfl rfl) ?_
          refine Run.go (Ev.allocN X 3392 rfl rfl rfl) ?_
          refine Run.do_ (Ev.storeC sz28 rfl rfl rfl rfl rfl rfl) ?_
          refine Run.nil ?_
          obtain ⟨v12, hv, h⟩ := bdS h
          refine T.cut (fun _ : Unit => (⟨[(0, .v (.sl Y_api_Net) p0), (3, .own 2467), (4, .v (.int .i64) v2), (5, .box 3391 0), (6, .box 3392 0)], [(2467, .arr 28 Y_api_Net v3), (3391, .box [.v .str x8.1, .v (.sl Y_api_Node) x8.2.1, .v (.sl Y_api_Link) x8.2.2.1, .v (.sl Y_api_Rule) x8.2.2.2]), (3392, .box [.v .str x10, .own 3407, .nil, .nil]), (3407, .arr 52 Y_api_Node v12)], 132⟩ : St)) (fun _ => True) ?_ (fun _ _ => ?_)
          · replace h := hv
            clear hv
            refine T.seq ?_
            refine T.region ?_
            refine Run.go (Ev.assign rfl rfl) ?_
            refine Run.nil ?_
            refine T.block ?_
            refine T.loop (LoopT.ghost (Ghost.trans (Ghost.emptyC 3392 1 3482 52 Y_api_Node rfl rfl rfl) (Ghost.only [(2467, 2467), (3391, 3391), (3392, 3392), (3482, 3460)] [0, 3, 4, 5, 6, 7] rfl)) (LoopT.run (fun q : Int × (List D_api_Node) => (⟨[(0, .v (.sl Y_api_Net) p0), (3, .own 2467), (4, .v (.int .i64) v2), (5, .box 3391 0), (6, .box 3392 0), (7, .v (.int .i64) q.1)], [(2467, .arr 28 Y_api_Net v3), (3391, .box [.v .str x8.1, .v (.sl Y_api_Node) x8.2.1, .v (.sl Y_api_Link) x8.2.2.1, .v (.sl Y_api_Rule) x8.2.2.2]), (3392, .box [.v .str x10, .own 3460, .nil, .nil]), (3460, .arr 52 Y_api_Node q.2)], 132⟩ : St)) (fun q z2 h hz2 => ?_) h))
            obtain ⟨v13, v14⟩ := q
            dsimp only
            rw [m_triviumref22_Clean_l2] at h
            refine T.seq ?_
            obtain ⟨v15, hv, h⟩ := bdS h
            refine T.cut (fun _ : Unit => (⟨[(0, .v (.sl Y_api_Net) p0), (3, .own 2467), (4, .v (.int .i64) v2), (5, .box 3391 0), (6, .box 3392 0), (7, .v (.int .i64) v13), (38, .v .bool v15)], [(2467, .arr 28 Y_api_Net v3), (3391, .box [.v .str x8.1, .v (.sl Y_api_Node) x8.2.1, .v (.sl Y_api_Link) x8.2.2.1, .v (.sl Y_api_Rule) x8.2.2.2]), (3392, .box [.v .str x10, .own 3460, .nil, .nil]), (3460, .arr 52 Y_api_Node v14)], 132⟩ : St)) (fun _ => True) ?_ (fun _ _ => ?_)
            · replace h := hv
              clear hv
              refine T.region ?_
              refine Run.go (Ev.move rfl rfl) ?_
              refine Run.go (Ev.fieldBox X rfl rfl rfl rfl rfl) ?_
              refine Run.go (Ev.loadCell X rfl rfl rfl rfl rfl rfl) ?_
              refine Run.go (Ev.len X rfl rfl rfl rfl) ?_
              refine Run.go (Ev.int rfl rfl rfl rfl trivial) ?_
              refine Run.go (Ev.move rfl rfl) ?_
              rcases boolCases (decide (v13 < (x8.2.1.length : Int))) with hb16 | hb16
              · replace h := ifT hb16 h
                refine Run.on rfl rfl rfl hb16 (Ev.move rfl rfl) ?_
                refine Run.on rfl rfl rfl hb16 (Ev.int rfl rfl rfl rfl trivial) ?_
                refine Run.go (Ev.pickT rfl hb16 rfl rfl) ?_
                refine Run.nil ?_
                cases h
                exact ⟨(), trivial, Ghost.only [(2467, 2467), (3391, 3391), (3392, 3392), (3460, 3460)] [0, 3, 4, 5, 6, 7, 38] rfl⟩
              · replace h := ifF hb16 h
                refine Run.offT rfl rfl rfl rfl hb16 ?_
                refine Run.offT rfl rfl rfl rfl hb16 ?_
                refine Run.go (Ev.pickF rfl hb16 rfl rfl) ?_
                refine Run.nil ?_
                cases h
                exact ⟨(), trivial, Ghost.only [(2467, 2467), (3391, 3391), (3392, 3392), (3460, 3460)] [0, 3, 4, 5, 6, 7, 38] rfl⟩
            · refine T.cond rfl (fun hb17 => ?_) (fun hb17 => ?_)
              · replace h := ifT hb17 h
                refine T.skip ?_
                refine T.seq ?_
                refine T.block ?_
                refine T.drawE [([3392], []), ([3392], []), ([3391], []), ([3391], []), ([], []), ([], []), ([], []), ([], []), ([], []), ([3491], [3491]), ([3391], []), ([3391], []), ([], []), ([], []), ([], []), ([], []), ([3391], []), ([3391], []), ([], []), ([], []), ([], []), ([], []), ([], []), ([], []), ([], []), ([3491, 3492], [3491]), ([], []), ([3493], []), ([3460, 3494], [3494, 3460]), ([3392], []), ([3392, 3494], [3392])] [0, 1, 0, 4, 0, 28, 60, 124, 252, 0, 0, 1024, 0, 7168, 15360, 31744, 0, 65536, 0, 458752, 983040, 2031616, 4128768, 8323072, 16776192, 33554428, 67108860, 134217724, 268435455, 536870911, 1073741823] (by kernel_rfl) (by kernel_rfl) ?_
                refine RunE.go0 [3392] (fun ô hô => Ev.fieldBox X rfl (ka hô rfl rfl) rfl rfl rfl) rfl rfl ?_
                refine RunE.go0 [3392] (fun ô hô => Ev.loadCell X rfl (ka hô rfl rfl) rfl rfl rfl rfl) rfl rfl ?_
                refine RunE.go0 [3391] (fun ô hô => Ev.fieldBox X rfl (ka hô rfl rfl) rfl rfl rfl) rfl rfl ?_
                refine RunE.go0 [3391] (fun ô hô => Ev.loadCell X rfl (ka hô rfl rfl) rfl rfl rfl rfl) rfl rfl ?_
                refine RunE.go0 [] (fun ô hô => Ev.move rfl rfl) rfl rfl ?_
                obtain ⟨x18, e19, h⟩ := bdS h
                refine RunE.go0 [] (fun ô hô => Ev.e_rd X e19 rfl rfl rfl rfl) rfl rfl ?_
                refine RunE.go0 [] (fun ô hô => Ev.fieldAddr X rfl rfl rfl rfl) rfl rfl ?_
                refine RunE.go0 [] (fun ô hô => Ev.load X rfl rfl rfl) rfl rfl ?_
                obtain ⟨x20, e21, h⟩ := bdS h
                refine RunE.go0 [] (fun ô hô => Ev.callC en19 (k_triviumref22_short e21) rfl (.cons .v .nil) rfl rfl) rfl rfl ?_
                refine RunE.go1 [3491] (fun ô hô => Ev.build X 3491 rfl rfl rfl rfl rfl (ka hô rfl rfl) rfl rfl) rfl rfl ?_
                refine RunE.go0 [3391] (fun ô hô => Ev.fieldBox X rfl (ka hô rfl rfl) rfl rfl rfl) rfl rfl ?_
                refine RunE.go0 [3391] (fun ô hô => Ev.loadCell X rfl (ka hô rfl rfl) rfl rfl rfl rfl) rfl rfl ?_
                refine RunE.go0 [] (fun ô hô => Ev.move rfl rfl) rfl rfl ?_
                obtain ⟨x22, e23, h⟩ := bdS h
                refine RunE.go0 [] (fun ô hô => Ev.e_rd X e23 rfl rfl rfl rfl) rfl rfl ?_
                refine RunE.go0 [] (fun ô hô => Ev.fieldAddr X rfl rfl rfl rfl) rfl rfl ?_
                refine RunE.go0 [] (fun ô hô => Ev.load X rfl rfl rfl) rfl rfl ?_
                refine RunE.go0 [3391] (fun ô hô => Ev.fieldBox X rfl (ka hô rfl rfl) rfl rfl rfl) rfl rfl ?_
                refine RunE.go0 [3391] (fun ô hô => Ev.loadCell X rfl (ka hô rfl rfl) rfl rfl rfl rfl) rfl rfl ?_
                refine RunE.go0 [] (fun ô hô => Ev.move rfl rfl) rfl rfl ?_
                obtain ⟨x24, e25, h⟩ := bdS h
                refine RunE.go0 [] (fun ô hô => Ev.e_rd X e25 rfl rfl rfl rfl) rfl rfl ?_
                refine RunE.go0 [] (fun ô hô => Ev.fieldAddr X rfl rfl rfl rfl) rfl rfl ?_
                refine RunE.go0 [] (fun ô hô => Ev.load X rfl rfl rfl) rfl rfl ?_
                refine RunE.go0 [] (fun ô hô => Ev.len X rfl rfl rfl rfl) rfl rfl ?_
                refine RunE.go0 [] (fun ô hô => Ev.min rfl rfl rfl) rfl rfl ?_
                obtain ⟨x26, e27, h⟩ := bdS h
                refine RunE.go0 [] (fun ô hô => Ev.e_ct X e27 rfl rfl rfl (fun _ h => by cases h) (fun _ => rfl) (fun _ _ => cutAt_of rfl) (fun h => by cases h)) rfl rfl ?_
                obtain ⟨x28, e29, h⟩ := bdS h
                refine RunE.go1 [3491, 3492] (fun ô hô => Ev.firmNewA (by exact kaD hô rfl rfl rfl) rfl (Ev.e_ap X 3492 e29 rfl (ka hô rfl rfl) rfl .v rfl rfl rfl (ka hô rfl rfl) rfl)) rfl rfl ?_
                refine RunE.go0 [] (fun ô hô => Ev.struct X pl52 rfl rfl rfl rfl rfl rfl rfl rfl) rfl rfl ?_
                refine RunE.go0 [3493] (fun ô hô => Ev.firmNew (by exact ka hô rfl rfl) rfl (Ev.build X 3493 rfl rfl rfl rfl rfl (ka hô rfl rfl) rfl rfl)) rfl rfl ?_
                obtain ⟨x30, e31, h⟩ := bdS h
                refine RunE.go2 [3460, 3494] (fun ô hô => Ev.e_ap X 3494 e31 rfl (ka hô rfl rfl) rfl .v rfl rfl rfl (ka hô rfl rfl) rfl) rfl rfl ?_
                refine RunE.go0 [3392] (fun ô hô => Ev.fieldBox X rfl (ka hô rfl rfl) rfl rfl rfl) rfl rfl ?_
                refine RunE.do1 [3392, 3494] (fun ô hô => Ev.storeC sz24 rfl (ka hô rfl rfl) rfl (sp_own (ka hô rfl rfl)) rfl rfl) rfl rfl ?_
                refine RunE.nil ?_
                refine T.region ?_
                refine Run.go (Ev.move rfl rfl) ?_
                refine Run.go (Ev.int rfl rfl rfl rfl trivial) ?_
                refine Run.go (Ev.assign rfl rfl) ?_
                refine Run.nil ?_
                cases h
                exact LoopT.ghost (Ghost.only [(2467, 2467), (3391, 3391), (3392, 3392), (3494, 3460)] [0, 3, 4, 5, 6, 7] rfl) hz2
              · replace h := ifF hb17 h
                refine T.exit ?_
                cases h
                cases hz2
                exact ⟨(), trivial, Ghost.only [(2467, 2467), (3391, 3391), (3392, 3392), (3460, 3407)] [0, 3, 4, 5, 6] rfl⟩
          · obtain ⟨v32, hv, h⟩ := bdS h
            refine T.cut (fun _ : Unit => (⟨[(0, .v (.sl Y_api_Net) p0), (3, .own 2467), (4, .v (.int .i64) v2), (5, .box 3391 0), (6, .box 3392 0)], [(2467, .arr 28 Y_api_Net v3), (3391, .box [.v .str x8.1, .v (.sl Y_api_Node) x8.2.1, .v (.sl Y_api_Link) x8.2.2.1, .v (.sl Y_api_Rule) x8.2.2.2]), (3392, .box [.v .str x10, .own 3407, .own 3508, .nil]), (3407, .arr 52 Y_api_Node v12), (3508, .arr 60 Y_api_Link v32)], 132⟩ : St)) (fun _ => True) ?_ (fun _ _ => ?_)
            · replace h := hv
              clear hv
              refine T.seq ?_
              refine T.region ?_
              refine Run.go (Ev.assign rfl rfl) ?_
              refine Run.nil ?_
              refine T.block ?_
              refine T.loop (LoopT.ghost (Ghost.trans (Ghost.emptyC 3392 2 3581 60 Y_api_Link rfl rfl rfl) (Ghost.only [(2467, 2467), (3391, 3391), (3392, 3392), (3407, 3407), (3581, 3559)] [0, 3, 4, 5, 6, 8] rfl)) (LoopT.run (fun q : Int × (List D_api_Link) => (⟨[(0, .v (.sl Y_api_Net) p0), (3, .own 2467), (4, .v (.int .i64) v2), (5, .box 3391 0), (6, .box 3392 0), (8, .v (.int .i64) q.1)], [(2467, .arr 28 Y_api_Net v3), (3391, .box [.v .str x8.1, .v (.sl Y_api_Node) x8.2.1, .v (.sl Y_api_Link) x8.2.2.1, .v (.sl Y_api_Rule) x8.2.2.2]), (3392, .box [.v .str x10, .own 3407, .own 3559, .nil]), (3407, .arr 52 Y_api_Node v12), (3559, .arr 60 Y_api_Link q.2)], 132⟩ : St)) (fun q z2 h hz2 => ?_) h))
              obtain ⟨v33, v34⟩ := q
              dsimp only
              rw [m_triviumref22_Clean_l3] at h
              refine T.seq ?_
              obtain ⟨v35, hv, h⟩ := bdS h
              refine T.cut (fun _ : Unit => (⟨[(0, .v (.sl Y_api_Net) p0), (3, .own 2467), (4, .v (.int .i64) v2), (5, .box 3391 0), (6, .box 3392 0), (8, .v (.int .i64) v33), (79, .v .bool v35)], [(2467, .arr 28 Y_api_Net v3), (3391, .box [.v .str x8.1, .v (.sl Y_api_Node) x8.2.1, .v (.sl Y_api_Link) x8.2.2.1, .v (.sl Y_api_Rule) x8.2.2.2]), (3392, .box [.v .str x10, .own 3407, .own 3559, .nil]), (3407, .arr 52 Y_api_Node v12), (3559, .arr 60 Y_api_Link v34)], 132⟩ : St)) (fun _ => True) ?_ (fun _ _ => ?_)
              · replace h := hv
                clear hv
                refine T.region ?_
                refine Run.go (Ev.move rfl rfl) ?_
                refine Run.go (Ev.fieldBox X rfl rfl rfl rfl rfl) ?_
                refine Run.go (Ev.loadCell X rfl rfl rfl rfl rfl rfl) ?_
                refine Run.go (Ev.len X rfl rfl rfl rfl) ?_
                refine Run.go (Ev.int rfl rfl rfl rfl trivial) ?_
                refine Run.go (Ev.move rfl rfl) ?_
                rcases boolCases (decide (v33 < (x8.2.2.1.length : Int))) with hb36 | hb36
                · replace h := ifT hb36 h
                  refine Run.on rfl rfl rfl hb36 (Ev.move rfl rfl) ?_
                  refine Run.on rfl rfl rfl hb36 (Ev.int rfl rfl rfl rfl trivial) ?_
                  refine Run.go (Ev.pickT rfl hb36 rfl rfl) ?_
                  refine Run.nil ?_
                  cases h
                  exact ⟨(), trivial, Ghost.only [(2467, 2467), (3391, 3391), (3392, 3392), (3407, 3407), (3559, 3559)] [0, 3, 4, 5, 6, 8, 79] rfl⟩
                · replace h := ifF hb36 h
                  refine Run.offT rfl rfl rfl rfl hb36 ?_
                  refine Run.offT rfl rfl rfl rfl hb36 ?_
                  refine Run.go (Ev.pickF rfl hb36 rfl rfl) ?_
                  refine Run.nil ?_
                  cases h
                  exact ⟨(), trivial, Ghost.only [(2467, 2467), (3391, 3391), (3392, 3392), (3407, 3407), (3559, 3559)] [0, 3, 4, 5, 6, 8, 79] rfl⟩
              · refine T.cond rfl (fun hb37 => ?_) (fun hb37 => ?_)
                · replace h := ifT hb37 h
                  refine T.skip ?_
                  refine T.seq ?_
                  refine T.block ?_
                  refine T.seq ?_
                  refine T.region ?_
                  refine Run.go (Ev.fieldBox X rfl rfl rfl rfl rfl) ?_
                  refine Run.go (Ev.loadCell X rfl rfl rfl rfl rfl rfl) ?_
                  refine Run.go (Ev.move rfl rfl) ?_
                  obtain ⟨x38, e39, h⟩ := bdS h
                  refine Run.go (Ev.e_rd X e39 rfl rfl rfl rfl) ?_
                  refine Run.go (Ev.load X rfl rfl rfl) ?_
                  refine Run.go (Ev.allocN X 3587 rfl rfl rfl) ?_
                  refine Run.do_ (Ev.storeBox X rfl rfl rfl rfl rfl rfl rfl) ?_
                  refine Run.nil ?_
                  refine T.drawE [([3392], []), ([3392], []), ([3587], []), ([3587], []), ([], []), ([3587], []), ([3587], []), ([], []), ([3587], []), ([3587], []), ([], []), ([3587], []), ([3587], []), ([], []), ([], []), ([3590], []), ([3559, 3591], [3591, 3559]), ([3392], []), ([3392, 3591], [3392])] [0, 1, 0, 4, 12, 0, 32, 124, 0, 256, 1020, 0, 2048, 8188, 16380, 32764, 65535, 131071, 262143] (by kernel_rfl) (by kernel_rfl) ?_
                  refine RunE.go0 [3392] (fun ô hô => Ev.fieldBox X rfl (ka hô rfl rfl) rfl rfl rfl) rfl rfl ?_
                  refine RunE.go0 [3392] (fun ô hô => Ev.loadCell X rfl (ka hô rfl rfl) rfl rfl rfl rfl) rfl rfl ?_
                  refine RunE.go0 [3587] (fun ô hô => Ev.fieldBox X rfl (ka hô rfl rfl) rfl rfl rfl) rfl rfl ?_
                  refine RunE.go0 [3587] (fun ô hô => Ev.loadCell X rfl (ka hô rfl rfl) rfl rfl rfl rfl) rfl rfl ?_
                  obtain ⟨x40, e41, h⟩ := bdS h
                  refine RunE.go0 [] (fun ô hô => Ev.callC en19 (k_triviumref22_short e41) rfl (.cons .v .nil) rfl rfl) rfl rfl ?_
                  refine RunE.go0 [3587] (fun ô hô => Ev.fieldBox X rfl (ka hô rfl rfl) rfl rfl rfl) rfl rfl ?_
                  refine RunE.go0 [3587] (fun ô hô => Ev.loadCell X rfl (ka hô rfl rfl) rfl rfl rfl rfl) rfl rfl ?_
                  obtain ⟨x42, e43, h⟩ := bdS h
                  refine RunE.go0 [] (fun ô hô => Ev.callC en19 (k_triviumref22_short e43) rfl (.cons .v .nil) rfl rfl) rfl rfl ?_
                  refine RunE.go0 [3587] (fun ô hô => Ev.fieldBox X rfl (ka hô rfl rfl) rfl rfl rfl) rfl rfl ?_
                  refine RunE.go0 [3587] (fun ô hô => Ev.loadCell X rfl (ka hô rfl rfl) rfl rfl rfl rfl) rfl rfl ?_
                  obtain ⟨x44, e45, h⟩ := bdS h
                  refine RunE.go0 [] (fun ô hô => Ev.callC en19 (k_triviumref22_short e45) rfl (.cons .v .nil) rfl rfl) rfl rfl ?_
                  refine RunE.go0 [3587] (fun ô hô => Ev.fieldBox X rfl (ka hô rfl rfl) rfl rfl rfl) rfl rfl ?_
                  refine RunE.go0 [3587] (fun ô hô => Ev.loadBox X rfl (ka hô rfl rfl) rfl rfl rfl) rfl rfl ?_
                  obtain ⟨x46, e47, h⟩ := bdS h
                  refine RunE.go0 [] (fun ô hô => Ev.callC en20 (k_triviumref08_Clean e47) rfl (.cons .v (.cons .v .nil)) rfl rfl) rfl rfl ?_
                  refine RunE.go0 [] (fun ô hô => Ev.struct X pl60 rfl rfl rfl rfl rfl rfl rfl rfl) rfl rfl ?_
                  refine RunE.go0 [3590] (fun ô hô => Ev.firmNew (by exact ka hô rfl rfl) rfl (Ev.build X 3590 rfl rfl rfl rfl rfl (ka hô rfl rfl) rfl rfl)) rfl rfl ?_
                  obtain ⟨x48, e49, h⟩ := bdS h
                  refine RunE.go2 [3559, 3591] (fun ô hô => Ev.e_ap X 3591 e49 rfl (ka hô rfl rfl) rfl .v rfl rfl rfl (ka hô rfl rfl) rfl) rfl rfl ?_
                  refine RunE.go0 [3392] (fun ô hô => Ev.fieldBox X rfl (ka hô rfl rfl) rfl rfl rfl) rfl rfl ?_
                  refine RunE.do1 [3392, 3591] (fun ô hô => Ev.storeC sz25 rfl (ka hô rfl rfl) rfl (sp_own (ka hô rfl rfl)) rfl rfl) rfl rfl ?_
                  refine RunE.nil ?_
                  refine T.region ?_
                  refine Run.go (Ev.move rfl rfl) ?_
                  refine Run.go (Ev.int rfl rfl rfl rfl trivial) ?_
                  refine Run.go (Ev.assign rfl rfl) ?_
                  refine Run.nil ?_
                  cases h
                  exact LoopT.ghost (Ghost.only [(2467, 2467), (3391, 3391), (3392, 3392), (3407, 3407), (3591, 3559)] [0, 3, 4, 5, 6, 8] rfl) hz2
                · replace h := ifF hb37 h
                  refine T.exit ?_
                  cases h
                  cases hz2
                  exact ⟨(), trivial, Ghost.only [(2467, 2467), (3391, 3391), (3392, 3392), (3407, 3407), (3559, 3508)] [0, 3, 4, 5, 6] rfl⟩
            · obtain ⟨v50, hv, h⟩ := bdS h
              refine T.cut (fun _ : Unit => (⟨[(0, .v (.sl Y_api_Net) p0), (3, .own 2467), (4, .v (.int .i64) v2), (6, .box 3392 0)], [(2467, .arr 28 Y_api_Net v3), (3392, .box [.v .str x10, .own 3407, .own 3508, .own 3606]), (3407, .arr 52 Y_api_Node v12), (3508, .arr 60 Y_api_Link v32), (3606, .arr 64 Y_api_Rule v50)], 132⟩ : St)) (fun _ => True) ?_ (fun _ _ => ?_)
              · replace h := hv
                clear hv
                refine T.seq ?_
                refine T.region ?_
                refine Run.go (Ev.assign rfl rfl) ?_
                refine Run.nil ?_
                refine T.block ?_
                refine T.loop (LoopT.ghost (Ghost.trans (Ghost.emptyC 3392 3 3684 64 Y_api_Rule rfl rfl rfl) (Ghost.only [(2467, 2467), (3391, 3391), (3392, 3392), (3407, 3407), (3508, 3508), (3684, 3660)] [0, 3, 4, 5, 6, 10] rfl)) (LoopT.run (fun q : Int × (List D_api_Rule) => (⟨[(0, .v (.sl Y_api_Net) p0), (3, .own 2467), (4, .v (.int .i64) v2), (5, .box 3391 0), (6, .box 3392 0), (10, .v (.int .i64) q.1)], [(2467, .arr 28 Y_api_Net v3), (3391, .box [.v .str x8.1, .v (.sl Y_api_Node) x8.2.1, .v (.sl Y_api_Link) x8.2.2.1, .v (.sl Y_api_Rule) x8.2.2.2]), (3392, .box [.v .str x10, .own 3407, .own 3508, .own 3660]), (3407, .arr 52 Y_api_Node v12), (3508, .arr 60 Y_api_Link v32), (3660, .arr 64 Y_api_Rule q.2)], 132⟩ : St)) (fun q z2 h hz2 => ?_) h))
                obtain ⟨v51, v52⟩ := q
                dsimp only
                rw [m_triviumref22_Clean_l4] at h
                refine T.seq ?_
                obtain ⟨v53, hv, h⟩ := bdS h
                refine T.cut (fun _ : Unit => (⟨[(0, .v (.sl Y_api_Net) p0), (3, .own 2467), (4, .v (.int .i64) v2), (5, .box 3391 0), (6, .box 3392 0), (10, .v (.int .i64) v51), (113, .v .bool v53)], [(2467, .arr 28 Y_api_Net v3), (3391, .box [.v .str x8.1, .v (.sl Y_api_Node) x8.2.1, .v (.sl Y_api_Link) x8.2.2.1, .v (.sl Y_api_Rule) x8.2.2.2]), (3392, .box [.v .str x10, .own 3407, .own 3508, .own 3660]), (3407, .arr 52 Y_api_Node v12), (3508, .arr 60 Y_api_Link v32), (3660, .arr 64 Y_api_Rule v52)], 132⟩ : St)) (fun _ => True) ?_ (fun _ _ => ?_)
                · replace h := hv
                  clear hv
                  refine T.region ?_
                  refine Run.go (Ev.move rfl rfl) ?_
                  refine Run.go (Ev.fieldBox X rfl rfl rfl rfl rfl) ?_
                  refine Run.go (Ev.loadCell X rfl rfl rfl rfl rfl rfl) ?_
                  refine Run.go (Ev.len X rfl rfl rfl rfl) ?_
                  refine Run.go (Ev.int rfl rfl rfl rfl trivial) ?_
                  refine Run.go (Ev.move rfl rfl) ?_
                  rcases boolCases (decide (v51 < (x8.2.2.2.length : Int))) with hb54 | hb54
                  · replace h := ifT hb54 h
                    refine Run.on rfl rfl rfl hb54 (Ev.move rfl rfl) ?_
                    refine Run.on rfl rfl rfl hb54 (Ev.int rfl rfl rfl rfl trivial) ?_
                    refine Run.go (Ev.pickT rfl hb54 rfl rfl) ?_
                    refine Run.nil ?_
                    cases h
                    exact ⟨(), trivial, Ghost.only [(2467, 2467), (3391, 3391), (3392, 3392), (3407, 3407), (3508, 3508), (3660, 3660)] [0, 3, 4, 5, 6, 10, 113] rfl⟩
                  · replace h := ifF hb54 h
                    refine Run.offT rfl rfl rfl rfl hb54 ?_
                    refine Run.offT rfl rfl rfl rfl hb54 ?_
                    refine Run.go (Ev.pickF rfl hb54 rfl rfl) ?_
                    refine Run.nil ?_
                    cases h
                    exact ⟨(), trivial, Ghost.only [(2467, 2467), (3391, 3391), (3392, 3392), (3407, 3407), (3508, 3508), (3660, 3660)] [0, 3, 4, 5, 6, 10, 113] rfl⟩
                · refine T.cond rfl (fun hb55 => ?_) (fun hb55 => ?_)
                  · replace h := ifT hb55 h
                    refine T.skip ?_
                    refine T.seq ?_
                    refine T.block ?_
                    refine T.drawE [([3392], []), ([3392], []), ([3391], []), ([3391], []), ([], []), ([], []), ([], []), ([], []), ([3693], []), ([3660, 3694], [3694, 3660]), ([3392], []), ([3392, 3694], [3392])] [0, 1, 0, 4, 0, 28, 60, 124, 252, 511, 1023, 2047] (by kernel_rfl) (by kernel_rfl) ?_
                    refine RunE.go0 [3392] (fun ô hô => Ev.fieldBox X rfl (ka hô rfl rfl) rfl rfl rfl) rfl rfl ?_
                    refine RunE.go0 [3392] (fun ô hô => Ev.loadCell X rfl (ka hô rfl rfl) rfl rfl rfl rfl) rfl rfl ?_
                    refine RunE.go0 [3391] (fun ô hô => Ev.fieldBox X rfl (ka hô rfl rfl) rfl rfl rfl) rfl rfl ?_
                    refine RunE.go0 [3391] (fun ô hô => Ev.loadCell X rfl (ka hô rfl rfl) rfl rfl rfl rfl) rfl rfl ?_
                    refine RunE.go0 [] (fun ô hô => Ev.move rfl rfl) rfl rfl ?_
                    obtain ⟨x56, e57, h⟩ := bdS h
                    refine RunE.go0 [] (fun ô hô => Ev.e_rd X e57 rfl rfl rfl rfl) rfl rfl ?_
                    refine RunE.go0 [] (fun ô hô => Ev.load X rfl rfl rfl) rfl rfl ?_
                    obtain ⟨x58, e59, h⟩ := bdS h
                    refine RunE.go0 [] (fun ô hô => Ev.callC en21 (k_triviumref22_CleanRule e59) rfl (.cons .v .nil) rfl rfl) rfl rfl ?_
                    refine RunE.go0 [3693] (fun ô hô => Ev.firmNew (by exact ka hô rfl rfl) rfl (Ev.build X 3693 rfl rfl rfl rfl rfl (ka hô rfl rfl) rfl rfl)) rfl rfl ?_
                    obtain ⟨x60, e61, h⟩ := bdS h
                    refine RunE.go2 [3660, 3694] (fun ô hô => Ev.e_ap X 3694 e61 rfl (ka hô rfl rfl) rfl .v rfl rfl rfl (ka hô rfl rfl) rfl) rfl rfl ?_
                    refine RunE.go0 [3392] (fun ô hô => Ev.fieldBox X rfl (ka hô rfl rfl) rfl rfl rfl) rfl rfl ?_
                    refine RunE.do1 [3392, 3694] (fun ô hô => Ev.storeC sz26 rfl (ka hô rfl rfl) rfl (sp_own (ka hô rfl rfl)) rfl rfl) rfl rfl ?_
                    refine RunE.nil ?_
                    refine T.region ?_
                    refine Run.go (Ev.move rfl rfl) ?_
                    refine Run.go (Ev.int rfl rfl rfl rfl trivial) ?_
                    refine Run.go (Ev.assign rfl rfl) ?_
                    refine Run.nil ?_
                    cases h
                    exact LoopT.ghost (Ghost.only [(2467, 2467), (3391, 3391), (3392, 3392), (3407, 3407), (3508, 3508), (3694, 3660)] [0, 3, 4, 5, 6, 10] rfl) hz2
                  · replace h := ifF hb55 h
                    refine T.exit ?_
                    cases h
                    cases hz2
                    exact ⟨(), trivial, Ghost.only [(2467, 2467), (3392, 3392), (3407, 3407), (3508, 3508), (3660, 3606)] [0, 3, 4, 6] rfl⟩
              · refine T.region ?_
                refine Run.go (Ev.move rfl rfl) ?_
                refine Run.go (Ev.loadStn sz28 rfl rfl rfl rfl) ?_
                refine Run.ghost (Ghost.firmAll (id := 3407) rfl) ?_
                refine Run.ghost (Ghost.firmAll (id := 3508) rfl) ?_
                refine Run.ghost (Ghost.firmAll (id := 3606) rfl) ?_
                refine Run.ghost (Ghost.stv (t := 128) (τ := Y_api_Net) (y := ((x10, v12, v32, v50) : D_api_Net)) rfl rfl rfl) ?_
                refine Run.go (Ev.build X 3695 rfl rfl rfl rfl rfl rfl rfl rfl) ?_
                obtain ⟨x62, e63, h⟩ := bdS h
                refine Run.go (Ev.e_ap X 3696 e63 rfl rfl rfl (.own rfl) rfl rfl rfl rfl rfl) ?_
                refine Run.go (Ev.assign rfl rfl) ?_
                refine Run.nil ?_
                cases h
                exact ⟨(), trivial, Ghost.only [(3696, 3389)] [0, 3, 4] rfl⟩
        · refine T.region ?_
          refine Run.go (Ev.move rfl rfl) ?_
          refine Run.go (Ev.int rfl rfl rfl rfl trivial) ?_
          refine Run.go (Ev.assign rfl rfl) ?_
          refine Run.nil ?_
          cases h
          exact LoopT.ghost (Ghost.only [(3389, 2467)] [0, 3, 4] rfl) hz1
      · replace h := ifF hb6 h
        refine T.exit ?_
        cases h
        cases hz1
        exact ⟨(), trivial, Ghost.only [(2467, 621)] [3] rfl⟩
  · refine T.seq ?_
    refine T.region ?_
    refine Run.go (Ev.move rfl rfl) ?_
    refine Run.go (Ev.assign rfl rfl) ?_
    refine Run.nil ?_
    refine T.ret ?_
    cases h
    exact Fin.one rfl (.own rfl)
theorem en5 : Enters Tryz.prog 5 := ⟨_, Tryz.func5, rfl, rfl⟩
theorem k_triviumref22_CleanQuery {p0 : D_api_Query} {y : D_api_Query} (h : m_triviumref22_CleanQuery p0 = some y) : Spec Tryz.prog 15 [(.v Y_api_Query p0)] (.v Y_api_Query y) [] := by
  rw [m_triviumref22_CleanQuery] at h
  refine enterN [(.v Y_api_Query p0)] 25 Tryz.func15 rfl rfl rfl ?_
  refine T.seq ?_
  refine T.region ?_
  refine Run.go (Ev.box 1 rfl rfl rfl rfl) ?_
  refine Run.go (Ev.allocN X 2 rfl rfl rfl) ?_
  refine Run.nil ?_
  refine T.seq ?_
  refine T.drawM [10, 12, 14] [0, 1, 3, 0, 8, 31, 0, 64, 255, 223, 1023, 2047, 4095, 8191, 16383] (by kernel_rfl) (by kernel_rfl) ?_
  refine RunD.a rfl rfl (Ev.fieldBox X rfl rfl rfl rfl rfl) ?_
  refine RunD.a rfl rfl (Ev.loadCell X rfl rfl rfl rfl rfl rfl) ?_
  obtain ⟨x1, e2, h⟩ := bdS h
  refine RunD.a rfl rfl (Ev.callC en19 (k_triviumref22_short e2) rfl (.cons .v .nil) rfl rfl) ?_
  refine RunD.a rfl rfl (Ev.fieldBox X rfl rfl rfl rfl rfl) ?_
  refine RunD.a rfl rfl (Ev.loadCell X rfl rfl rfl rfl rfl rfl) ?_
  obtain ⟨x3, e4, h⟩ := bdS h
  refine RunD.a rfl rfl (Ev.callC en19 (k_triviumref22_short e4) rfl (.cons .v .nil) rfl rfl) ?_
  refine RunD.a rfl rfl (Ev.fieldBox X rfl rfl rfl rfl rfl) ?_
  refine RunD.a rfl rfl (Ev.loadCell X rfl rfl rfl rfl rfl rfl) ?_
  obtain ⟨x5, e6, h⟩ := bdS h
  refine RunD.a rfl rfl (Ev.callC en19 (k_triviumref22_short e6) rfl (.cons .v .nil) rfl rfl) ?_
  refine RunD.a rfl rfl (Ev.fieldBox X rfl rfl rfl rfl rfl) ?_
  refine RunD.mN rfl (Ev.storeBox X rfl rfl rfl rfl rfl rfl rfl) ?_
  refine RunD.a rfl rfl (Ev.fieldBox X rfl rfl rfl rfl rfl) ?_
  refine RunD.mN rfl (Ev.storeBox X rfl rfl rfl rfl rfl rfl rfl) ?_
  refine RunD.a rfl rfl (Ev.fieldBox X rfl rfl rfl rfl rfl) ?_
  refine RunD.mN rfl (Ev.storeBox X rfl rfl rfl rfl rfl rfl rfl) ?_
  refine RunD.nil ?_
  obtain ⟨v7, hv, h⟩ := bdS h
  refine T.cut (fun _ : Unit => (⟨[(1, .box 1 0), (2, .box 2 0)], [(1, .box [.v (.int .i64) p0.1, .v .str x1, .v .str x3, .v .str x5, .v (.int .u32) p0.2.2.2.2.1, .v (.int .u32) p0.2.2.2.2.2.1.1, .v (.int .i64) p0.2.2.2.2.2.1.2, .v (.int .i64) v7]), (2, .box [.v (.int .i64) (0 : Int), .v .str ((bs []) : ByteArray), .v .str ((bs []) : ByteArray), .v .str ((bs []) : ByteArray), .v (.int .u32) (0 : Int), .v (.int .u32) (0 : Int), .v (.int .i64) (0 : Int), .v (.int .i64) (0 : Int)])], 25⟩ : St)) (fun _ => True) ?_ (fun _ _ => ?_)
  · replace h := hv
    clear hv
    obtain ⟨v8, hv, h⟩ := bdS h
    refine T.cut (fun _ : Unit => (⟨[(1, .box 1 0), (2, .box 2 0), (22, .v .bool v8)], [(1, .box [.v (.int .i64) p0.1, .v .str x1, .v .str x3, .v .str x5, .v (.int .u32) p0.2.2.2.2.1, .v (.int .u32) p0.2.2.2.2.2.1.1, .v (.int .i64) p0.2.2.2.2.2.1.2, .v (.int .i64) p0.2.2.2.2.2.2]), (2, .box [.v (.int .i64) (0 : Int), .v .str ((bs []) : ByteArray), .v .str ((bs []) : ByteArray), .v .str ((bs []) : ByteArray), .v (.int .u32) (0 : Int), .v (.int .u32) (0 : Int), .v (.int .i64) (0 : Int), .v (.int .i64) (0 : Int)])], 25⟩ : St)) (fun _ => True) ?_ (fun _ _ => ?_)
    · replace h := hv
      clear hv
      refine T.region ?_
      refine Run.go (Ev.fieldBox X rfl rfl rfl rfl rfl) ?_
      refine Run.go (Ev.loadCell X rfl rfl rfl rfl rfl rfl) ?_
      refine Run.go (Ev.int rfl rfl rfl rfl trivial) ?_
      refine Run.go (Ev.move rfl rfl) ?_
      rcases boolCases (decide (p0.2.2.2.2.2.2 < (-1000000))) with hb9 | hb9
      · replace h := ifT hb9 h
        refine Run.offT rfl rfl rfl rfl hb9 ?_
        refine Run.offT rfl rfl rfl rfl hb9 ?_
        refine Run.offT rfl rfl rfl rfl hb9 ?_
        refine Run.go (Ev.pickT rfl hb9 rfl rfl) ?_
        refine Run.nil ?_
        cases h
        exact ⟨(), trivial, Ghost.only [(1, 1), (2, 2)] [1, 2, 22] rfl⟩
      · replace h := ifF hb9 h
        refine Run.on rfl rfl rfl hb9 (Ev.fieldBox X rfl rfl rfl rfl rfl) ?_
        refine Run.on rfl rfl rfl hb9 (Ev.loadCell X rfl rfl rfl rfl rfl rfl) ?_
        refine Run.on rfl rfl rfl hb9 (Ev.int rfl rfl rfl rfl trivial) ?_
        refine Run.go (Ev.pickF rfl hb9 rfl rfl) ?_
        refine Run.nil ?_
        cases h
        exact ⟨(), trivial, Ghost.only [(1, 1), (2, 2)] [1, 2, 22] rfl⟩
    · refine T.cond rfl (fun hb10 => ?_) (fun hb10 => ?_)
      · replace h := ifT hb10 h
        refine T.region ?_
        refine Run.go (Ev.fieldBox X rfl rfl rfl rfl rfl) ?_
        refine Run.do_ (Ev.storeBox X rfl rfl rfl rfl rfl rfl rfl) ?_
        refine Run.nil ?_
        cases h
        exact ⟨(), trivial, Ghost.only [(1, 1), (2, 2)] [1, 2] rfl⟩
      · replace h := ifF hb10 h
        refine T.skip ?_
        cases h
        exact ⟨(), trivial, Ghost.only [(1, 1), (2, 2)] [1, 2] rfl⟩
  · refine T.seq ?_
    refine T.region ?_
    refine Run.go (Ev.loadBox X rfl rfl rfl rfl rfl) ?_
    refine Run.do_ (Ev.storeBox X rfl rfl rfl rfl rfl rfl rfl) ?_
    refine Run.nil ?_
    refine T.ret ?_
    cases h
    exact Fin.cell X rfl rfl rfl rfl rfl
theorem en15 : Enters Tryz.prog 15 := ⟨_, Tryz.func15, rfl, rfl⟩
theorem k_triviumref23_Find {p0 : (List D_api_Net)} {p1 : ByteArray} {y : Int} (h : m_triviumref23_Find p0 p1 = some y) : Spec Tryz.prog 7 [(.v (.sl Y_api_Net) p0), (.v .str p1)] (.v (.int .i64) y) [] := by
  rw [m_triviumref23_Find] at h
  refine enterN [(.v (.sl Y_api_Net) p0), (.v .str p1)] 20 Tryz.func7 rfl rfl rfl ?_
  refine T.seq ?_
  refine T.region ?_
  refine Run.go (Ev.assign rfl rfl) ?_
  refine Run.nil ?_
  refine T.seq ?_
  refine T.seq ?_
  refine T.region ?_
  refine Run.go (Ev.assign rfl rfl) ?_
  refine Run.nil ?_
  refine T.block ?_
  refine T.loop (LoopT.ghost (Ghost.only [] [0, 1, 5] rfl) (LoopT.run (fun q : Int => (⟨[(0, .v (.sl Y_api_Net) p0), (1, .v .str p1), (5, .v (.int .i64) q)], [], 20⟩ : St)) (fun v1 z1 h hz1 => ?_) h))
  rw [m_triviumref23_Find_l1] at h
  refine T.seq ?_
  refine T.seq ?_
  refine T.region ?_
  refine Run.go (Ev.move rfl rfl) ?_
  refine Run.go (Ev.move rfl rfl) ?_
  refine Run.go (Ev.len X rfl rfl rfl rfl) ?_
  refine Run.go (Ev.int rfl rfl rfl rfl trivial) ?_
  refine Run.nil ?_
  refine T.cond rfl (fun hb2 => ?_) (fun hb2 => ?_)
  · replace h := ifT hb2 h
    refine T.skip ?_
    refine T.seq ?_
    refine T.block ?_
    refine T.seq ?_
    refine T.region ?_
    refine Run.go (Ev.move rfl rfl) ?_
    refine Run.go (Ev.move rfl rfl) ?_
    obtain ⟨x3, e4, h⟩ := bdS h
    refine Run.go (Ev.e_rd X e4 rfl rfl rfl rfl) ?_
    refine Run.go (Ev.fieldAddr X rfl rfl rfl rfl) ?_
    refine Run.go (Ev.load X rfl rfl rfl) ?_
    refine Run.go (Ev.move rfl rfl) ?_
    refine Run.go (Ev.strs rfl rfl rfl rfl trivial) ?_
    refine Run.nil ?_
    refine T.cond rfl (fun hb5 => ?_) (fun hb5 => ?_)
    · replace h := ifT hb5 h
      refine T.seq ?_
      refine T.region ?_
      refine Run.go (Ev.move rfl rfl) ?_
      refine Run.go (Ev.assign rfl rfl) ?_
      refine Run.nil ?_
      refine T.ret ?_
      cases h
      cases hz1
      exact Fin.one rfl .v
    · replace h := ifF hb5 h
      refine T.skip ?_
      refine T.region ?_
      refine Run.go (Ev.move rfl rfl) ?_
      refine Run.go (Ev.int rfl rfl rfl rfl trivial) ?_
      refine Run.go (Ev.assign rfl rfl) ?_
      refine Run.nil ?_
      cases h
      exact LoopT.ghost (Ghost.only [] [0, 1, 5] rfl) hz1
  · replace h := ifF hb2 h
    refine T.exit ?_
    refine T.seq ?_
    refine T.region ?_
    refine Run.go (Ev.assign rfl rfl) ?_
    refine Run.nil ?_
    refine T.ret ?_
    cases h
    cases hz1
    exact Fin.one rfl .v
theorem en7 : Enters Tryz.prog 7 := ⟨_, Tryz.func7, rfl, rfl⟩
end Go.Proofs.YtbmogniipgmkiaaGreat.AE
/- The code comes to the printed functions (printed by a program of ours). -/
namespace Go.Proofs.YtbmogniipgmkiaaGreat.AE
open Go Go.RowKit Go.Proofs.YtbmogniipgmkiaaGreat.AP
set_option linter.unusedVariables false
set_option maxRecDepth 20000
theorem k_triviumref23_Node {p0 : D_api_Net} {p1 : ByteArray} {y : Int} (h : m_triviumref23_Node p0 p1 = some y) : Spec Tryz.prog 10 [(.v Y_api_Net p0), (.v .str p1)] (.v (.int .i64) y) [] := by
  rw [m_triviumref23_Node] at h
  refine enterN [(.v Y_api_Net p0), (.v .str p1)] 22 Tryz.func10 rfl rfl rfl ?_
  refine T.seq ?_
  refine T.region ?_
  refine Run.go (Ev.box 1 rfl rfl rfl rfl) ?_
  refine Run.go (Ev.assign rfl rfl) ?_
  refine Run.nil ?_
  refine T.seq ?_
  refine T.seq ?_
  refine T.region ?_
  refine Run.go (Ev.assign rfl rfl) ?_
  refine Run.nil ?_
  refine T.block ?_
  refine T.loop (LoopT.ghost (Ghost.only [(1, 1)] [1, 2, 5] rfl) (LoopT.run (fun q : Int => (⟨[(1, .v .str p1), (2, .box 1 0), (5, .v (.int .i64) q)], [(1, .box [.v .str p0.1, .v (.sl Y_api_Node) p0.2.1, .v (.sl Y_api_Link) p0.2.2.1, .v (.sl Y_api_Rule) p0.2.2.2])], 22⟩ : St)) (fun v1 z1 h hz1 => ?_) h))
  rw [m_triviumref23_Node_l1] at h
  refine T.seq ?_
  refine T.seq ?_
  refine T.region ?_
  refine Run.go (Ev.move rfl rfl) ?_
  refine Run.go (Ev.fieldBox X rfl rfl rfl rfl rfl) ?_
  refine Run.go (Ev.loadCell X rfl rfl rfl rfl rfl rfl) ?_
  refine Run.go (Ev.len X rfl rfl rfl rfl) ?_
  refine Run.go (Ev.int rfl rfl rfl rfl trivial) ?_
  refine Run.nil ?_
  refine T.cond rfl (fun hb2 => ?_) (fun hb2 => ?_)
  · replace h := ifT hb2 h
    refine T.skip ?_
    refine T.seq ?_
    refine T.block ?_
    refine T.seq ?_
    refine T.region ?_
    refine Run.go (Ev.fieldBox X rfl rfl rfl rfl rfl) ?_
    refine Run.go (Ev.loadCell X rfl rfl rfl rfl rfl rfl) ?_
    refine Run.go (Ev.move rfl rfl) ?_
    obtain ⟨x3, e4, h⟩ := bdS h
    refine Run.go (Ev.e_rd X e4 rfl rfl rfl rfl) ?_
    refine Run.go (Ev.fieldAddr X rfl rfl rfl rfl) ?_
    refine Run.go (Ev.load X rfl rfl rfl) ?_
    refine Run.go (Ev.move rfl rfl) ?_
    refine Run.go (Ev.strs rfl rfl rfl rfl trivial) ?_
    refine Run.nil ?_
    refine T.cond rfl (fun hb5 => ?_) (fun hb5 => ?_)
    · replace h := ifT hb5 h
      refine T.seq ?_
      refine T.region ?_
      refine Run.go (Ev.move rfl rfl) ?_
      refine Run.go (Ev.assign rfl rfl) ?_
      refine Run.nil ?_
      refine T.ret ?_
      cases h
      cases hz1
      exact Fin.one rfl .v
    · replace h := ifF hb5 h
      refine T.skip ?_
      refine T.region ?_
      refine Run.go (Ev.move rfl rfl) ?_
      refine Run.go (Ev.int rfl rfl rfl rfl trivial) ?_
      refine Run.go (Ev.assign rfl rfl) ?_
      refine Run.nil ?_
      cases h
      exact LoopT.ghost (Ghost.only [(1, 1)] [1, 2, 5] rfl) hz1
  · replace h := ifF hb2 h
    refine T.exit ?_
    refine T.seq ?_
    refine T.region ?_
    refine Run.go (Ev.assign rfl rfl) ?_
    refine Run.nil ?_
    refine T.ret ?_
    cases h
    cases hz1
    exact Fin.one rfl .v
theorem en10 : Enters Tryz.prog 10 := ⟨_, Tryz.func10, rfl, rfl⟩
theorem k_triviumref18_Size {p0 : Int} {y : Int} (h : m_triviumref18_Size p0 = some y) : Spec Tryz.prog 61 [(.v (.int .i64) p0)] (.v (.int .u64) y) [] := by
  rw [m_triviumref18_Size] at h
  refine enterN [(.v (.int .i64) p0)] 13 Tryz.func61 rfl rfl rfl ?_
  refine T.seq ?_
  refine T.region ?_
  refine Run.go (Ev.assign rfl rfl) ?_
  refine Run.nil ?_
  refine T.seq ?_
  refine T.region ?_
  refine Run.go (Ev.assign rfl rfl) ?_
  refine Run.nil ?_
  obtain ⟨v1, hv, h⟩ := bdS h
  refine T.cut (fun _ : Unit => (⟨[(3, .v (.int .u64) v1)], [], 13⟩ : St)) (fun _ => True) ?_ (fun _ _ => ?_)
  · replace h := hv
    clear hv
    refine T.seq ?_
    refine T.region ?_
    refine Run.go (Ev.move rfl rfl) ?_
    refine Run.go (Ev.assign rfl rfl) ?_
    refine Run.nil ?_
    refine T.block ?_
    refine T.loop (LoopT.ghost (Ghost.only [] [3, 4] rfl) (LoopT.run (fun q : Int × Int => (⟨[(3, .v (.int .u64) q.1), (4, .v (.int .i64) q.2)], [], 13⟩ : St)) (fun q z1 h hz1 => ?_) h))
    obtain ⟨v2, v3⟩ := q
    dsimp only
    rw [m_triviumref18_Size_l1] at h
    refine T.seq ?_
    refine T.seq ?_
    refine T.region ?_
    refine Run.go (Ev.move rfl rfl) ?_
    refine Run.go (Ev.int rfl rfl rfl rfl trivial) ?_
    refine Run.nil ?_
    refine T.cond rfl (fun hb4 => ?_) (fun hb4 => ?_)
    · replace h := ifT hb4 h
      refine T.skip ?_
      refine T.seq ?_
      refine T.block ?_
      refine T.region ?_
      refine Run.go (Ev.move rfl rfl) ?_
      refine Run.go (Ev.int rfl rfl rfl rfl trivial) ?_
      refine Run.go (Ev.assign rfl rfl) ?_
      refine Run.nil ?_
      refine T.region ?_
      refine Run.go (Ev.move rfl rfl) ?_
      refine Run.go (Ev.int rfl rfl rfl rfl trivial) ?_
      refine Run.go (Ev.assign rfl rfl) ?_
      refine Run.nil ?_
      cases h
      exact LoopT.ghost (Ghost.only [] [3, 4] rfl) hz1
    · replace h := ifF hb4 h
      refine T.exit ?_
      cases h
      cases hz1
      exact ⟨(), trivial, Ghost.only [] [3] rfl⟩
  · refine T.seq ?_
    refine T.region ?_
    refine Run.go (Ev.move rfl rfl) ?_
    refine Run.go (Ev.assign rfl rfl) ?_
    refine Run.nil ?_
    refine T.ret ?_
    cases h
    exact Fin.one rfl .v
theorem en61 : Enters Tryz.prog 61 := ⟨_, Tryz.func61, rfl, rfl⟩
theorem k_triviumref18_May {p0 : D_api_Prefix} {y : Bool} (h : m_triviumref18_May p0 = some y) : Spec Tryz.prog 32 [(.v Y_api_Prefix p0)] (.v .bool y) [] := by
  rw [m_triviumref18_May] at h
  refine enterN [(.v Y_api_Prefix p0)] 21 Tryz.func32 rfl rfl rfl ?_
  refine T.seq ?_
  refine T.region ?_
  refine Run.go (Ev.box 1 rfl rfl rfl rfl) ?_
  refine Run.go (Ev.assign rfl rfl) ?_
  refine Run.nil ?_
  refine T.seq ?_
  refine T.drawM [] [0, 1, 3, 7, 15, 31, 63, 127, 255, 511, 1023, 2047, 511, 4607, 12799, 32767, 65535, 131071, 262143] (by kernel_rfl) (by kernel_rfl) ?_
  refine RunD.a rfl rfl (Ev.fieldBox X rfl rfl rfl rfl rfl) ?_
  refine RunD.a rfl rfl (Ev.loadCell X rfl rfl rfl rfl rfl rfl) ?_
  refine RunD.w (fun _ => Ev.int rfl rfl rfl rfl trivial) ?_
  refine RunD.w (fun _ => Ev.move rfl rfl) ?_
  rcases boolCases (decide (0 ≤ p0.2)) with hb1 | hb1
  · replace h := ifT hb1 h
    refine RunD.on rfl rfl rfl hb1 rfl (fun ô hô => by obtain rfl := hô.resolve_left (by decide); exact Ev.fieldBox X rfl rfl rfl rfl rfl) ?_
    refine RunD.on rfl rfl rfl hb1 rfl (fun ô hô => by obtain rfl := hô.resolve_left (by decide); exact Ev.loadCell X rfl rfl rfl rfl rfl rfl) ?_
    refine RunD.on rfl rfl rfl hb1 rfl (fun _ _ => Ev.int rfl rfl rfl rfl trivial) ?_
    refine RunD.w (fun _ => Ev.pickT rfl hb1 rfl rfl) ?_
    refine RunD.w (fun _ => Ev.move rfl rfl) ?_
    rcases boolCases (decide (p0.2 ≤ 32)) with hb2 | hb2
    · replace h := ifT hb2 h
      refine RunD.on rfl rfl rfl hb2 rfl (fun ô hô => by obtain rfl := hô.resolve_left (by decide); exact Ev.fieldBox X rfl rfl rfl rfl rfl) ?_
      refine RunD.on rfl rfl rfl hb2 rfl (fun ô hô => by obtain rfl := hô.resolve_left (by decide); exact Ev.loadCell X rfl rfl rfl rfl rfl rfl) ?_
      refine RunD.on rfl rfl rfl hb2 rfl (fun ô hô => by obtain rfl := hô.resolve_left (by decide); exact Ev.conv X rfl rfl rfl rfl) ?_
      refine RunD.on rfl rfl rfl hb2 rfl (fun ô hô => by obtain rfl := hô.resolve_left (by decide); exact Ev.fieldBox X rfl rfl rfl rfl rfl) ?_
      refine RunD.on rfl rfl rfl hb2 rfl (fun ô hô => by obtain rfl := hô.resolve_left (by decide); exact Ev.loadCell X rfl rfl rfl rfl rfl rfl) ?_
      obtain ⟨x3, e4, h⟩ := bdS h
      refine RunD.on rfl rfl rfl hb2 rfl (fun ô hô => by obtain rfl := hô.resolve_left (by decide); exact Ev.callC en61 (k_triviumref18_Size e4) rfl (.cons .v .nil) rfl rfl) ?_
      obtain ⟨x5, e6, h⟩ := bdS h
      refine RunD.on rfl rfl rfl hb2 rfl (fun _ _ => Ev.e_rm e6 rfl rfl rfl) ?_
      refine RunD.on rfl rfl rfl hb2 rfl (fun _ _ => Ev.int rfl rfl rfl rfl trivial) ?_
      refine RunD.w (fun _ => Ev.pickT rfl hb2 rfl rfl) ?_
      refine RunD.w (fun _ => Ev.assign rfl rfl) ?_
      refine RunD.nil ?_
      refine T.ret ?_
      cases h
      exact Fin.one rfl .v
    · replace h := ifF hb2 h
      refine RunD.offT rfl rfl rfl rfl hb2 ?_
      refine RunD.offT rfl rfl rfl rfl hb2 ?_
      refine RunD.offT rfl rfl rfl rfl hb2 ?_
      refine RunD.offT rfl rfl rfl rfl hb2 ?_
      refine RunD.offT rfl rfl rfl rfl hb2 ?_
      refine RunD.offT rfl rfl rfl rfl hb2 ?_
      refine RunD.offT rfl rfl rfl rfl hb2 ?_
      refine RunD.offT rfl rfl rfl rfl hb2 ?_
      refine RunD.w (fun _ => Ev.pickF rfl hb2 rfl rfl) ?_
      refine RunD.w (fun _ => Ev.assign rfl rfl) ?_
      refine RunD.nil ?_
      refine T.ret ?_
      cases h
      exact Fin.one rfl .v
  · replace h := ifF hb1 h
    refine RunD.offT rfl rfl rfl rfl hb1 ?_
    refine RunD.offT rfl rfl rfl rfl hb1 ?_
    refine RunD.offT rfl rfl rfl rfl hb1 ?_
    refine RunD.w (fun _ => Ev.pickF rfl hb1 rfl rfl) ?_
    refine RunD.w (fun _ => Ev.move rfl rfl) ?_
    refine RunD.offT rfl rfl rfl rfl rfl ?_
    refine RunD.offT rfl rfl rfl rfl rfl ?_
    refine RunD.offT rfl rfl rfl rfl rfl ?_
    refine RunD.offT rfl rfl rfl rfl rfl ?_
    refine RunD.offT rfl rfl rfl rfl rfl ?_
    refine RunD.offT rfl rfl rfl rfl rfl ?_
    refine RunD.offT rfl rfl rfl rfl rfl ?_
    refine RunD.offT rfl rfl rfl rfl rfl ?_
    refine RunD.w (fun _ => Ev.pickF rfl rfl rfl rfl) ?_
    refine RunD.w (fun _ => Ev.assign rfl rfl) ?_
    refine RunD.nil ?_
    refine T.ret ?_
    cases h
    exact Fin.one rfl .v
theorem en32 : Enters Tryz.prog 32 := ⟨_, Tryz.func32, rfl, rfl⟩
theorem k_triviumref23_Query {p0 : (List D_api_Net)} {p1 : D_api_Query} {y : Bool} (h : m_triviumref23_Query p0 p1 = some y) : Spec Tryz.prog 16 [(.v (.sl Y_api_Net) p0), (.v Y_api_Query p1)] (.v .bool y) [] := by
  rw [m_triviumref23_Query] at h
  refine enterN [(.v (.sl Y_api_Net) p0), (.v Y_api_Query p1)] 86 Tryz.func16 rfl rfl rfl ?_
  refine T.seq ?_
  refine T.region ?_
  refine Run.go (Ev.box 1 rfl rfl rfl rfl) ?_
  refine Run.go (Ev.assign rfl rfl) ?_
  refine Run.nil ?_
  refine T.seq ?_
  refine T.region ?_
  refine Run.go (Ev.move rfl rfl) ?_
  refine Run.go (Ev.fieldBox X rfl rfl rfl rfl rfl) ?_
  refine Run.go (Ev.loadCell X rfl rfl rfl rfl rfl rfl) ?_
  obtain ⟨x1, e2, h⟩ := bdS h
  refine Run.go (Ev.callC en7 (k_triviumref23_Find e2) rfl (.cons .v (.cons .v .nil)) rfl rfl) ?_
  refine Run.go (Ev.assign rfl rfl) ?_
  refine Run.nil ?_
  refine T.seq ?_
  obtain ⟨v3, hv, h⟩ := bdS h
  refine T.cut (fun _ : Unit => (⟨[(0, .v (.sl Y_api_Net) p0), (3, .box 1 0), (47, .v .bool v3)], [(1, .box [.v (.int .i64) p1.1, .v .str p1.2.1, .v .str p1.2.2.1, .v .str p1.2.2.2.1, .v (.int .u32) p1.2.2.2.2.1, .v (.int .u32) p1.2.2.2.2.2.1.1, .v (.int .i64) p1.2.2.2.2.2.1.2, .v (.int .i64) p1.2.2.2.2.2.2])], 86⟩ : St)) (fun _ => True) ?_ (fun _ _ => ?_)
  · replace h := hv
    clear hv
    refine T.drawM [] [0, 1, 3, 7, 15, 31, 63, 127, 255, 511, 1023, 2047, 4095, 8191, 8191, 32767, 65535, 8191, 139263, 524287, 1048575, 2097151, 4194303, 8388607, 16777215, 33554431, 67108863, 134217727, 268435455, 536870911, 1073741823, 2147483647, 4294967295, 8589934591, 17179869183, 34359738367, 68719476735] (by kernel_rfl) (by kernel_rfl) ?_
    refine RunD.a rfl rfl (Ev.fieldBox X rfl rfl rfl rfl rfl) ?_
    refine RunD.a rfl rfl (Ev.loadCell X rfl rfl rfl rfl rfl rfl) ?_
    refine RunD.w (fun _ => Ev.int rfl rfl rfl rfl trivial) ?_
    refine RunD.w (fun _ => Ev.move rfl rfl) ?_
    rcases boolCases (decide (p1.1 < 1)) with hb4 | hb4
    · replace h := ifT hb4 h
      refine RunD.offT rfl rfl rfl rfl hb4 ?_
      refine RunD.offT rfl rfl rfl rfl hb4 ?_
      refine RunD.offT rfl rfl rfl rfl hb4 ?_
      refine RunD.w (fun _ => Ev.pickT rfl hb4 rfl rfl) ?_
      refine RunD.w (fun _ => Ev.move rfl rfl) ?_
      refine RunD.offT rfl rfl rfl rfl rfl ?_
      refine RunD.offT rfl rfl rfl rfl rfl ?_
      refine RunD.w (fun _ => Ev.pickT rfl rfl rfl rfl) ?_
      refine RunD.w (fun _ => Ev.move rfl rfl) ?_
      refine RunD.offT rfl rfl rfl rfl rfl ?_
      refine RunD.offT rfl rfl rfl rfl rfl ?_
      refine RunD.offT rfl rfl rfl rfl rfl ?_
      refine RunD.offT rfl rfl rfl rfl rfl ?_
      refine RunD.offT rfl rfl rfl rfl rfl ?_
      refine RunD.offT rfl rfl rfl rfl rfl ?_
      refine RunD.offT rfl rfl rfl rfl rfl ?_
      refine RunD.offT rfl rfl rfl rfl rfl ?_
      refine RunD.w (fun _ => Ev.pickT rfl rfl rfl rfl) ?_
      refine RunD.w (fun _ => Ev.move rfl rfl) ?_
      refine RunD.offT rfl rfl rfl rfl rfl ?_
      refine RunD.offT rfl rfl rfl rfl rfl ?_
      refine RunD.offT rfl rfl rfl rfl rfl ?_
      refine RunD.w (fun _ => Ev.pickT rfl rfl rfl rfl) ?_
      refine RunD.w (fun _ => Ev.move rfl rfl) ?_
      refine RunD.offT rfl rfl rfl rfl rfl ?_
      refine RunD.offT rfl rfl rfl rfl rfl ?_
      refine RunD.offT rfl rfl rfl rfl rfl ?_
      refine RunD.offT rfl rfl rfl rfl rfl ?_
      refine RunD.un rfl rfl rfl ?_
      refine RunD.un rfl rfl rfl ?_
      refine RunD.un rfl rfl rfl ?_
      refine RunD.offT rfl rfl rfl rfl rfl ?_
      refine RunD.w (fun _ => Ev.pickT rfl rfl rfl rfl) ?_
      refine RunD.nil ?_
      cases h
      exact ⟨(), trivial, Ghost.only [(1, 1)] [0, 3, 47] rfl⟩
    · replace h := ifF hb4 h
      refine RunD.on rfl rfl rfl hb4 rfl (fun ô hô => by obtain rfl := hô.resolve_left (by decide); exact Ev.fieldBox X rfl rfl rfl rfl rfl) ?_
      refine RunD.on rfl rfl rfl hb4 rfl (fun ô hô => by obtain rfl := hô.resolve_left (by decide); exact Ev.loadCell X rfl rfl rfl rfl rfl rfl) ?_
      refine RunD.on rfl rfl rfl hb4 rfl (fun _ _ => Ev.int rfl rfl rfl rfl trivial) ?_
      refine RunD.w (fun _ => Ev.pickF rfl hb4 rfl rfl) ?_
      refine RunD.w (fun _ => Ev.move rfl rfl) ?_
      rcases boolCases (decide (4 < p1.1)) with hb5 | hb5
      · replace h := ifT hb5 h
        refine RunD.offT rfl rfl rfl rfl hb5 ?_
        refine RunD.offT rfl rfl rfl rfl hb5 ?_
        refine RunD.w (fun _ => Ev.pickT rfl hb5 rfl rfl) ?_
        refine RunD.w (fun _ => Ev.move rfl rfl) ?_
        refine RunD.offT rfl rfl rfl rfl rfl ?_
        refine RunD.offT rfl rfl rfl rfl rfl ?_
        refine RunD.offT rfl rfl rfl rfl rfl ?_
        refine RunD.offT rfl rfl rfl rfl rfl ?_
        refine RunD.offT rfl rfl rfl rfl rfl ?_
        refine RunD.offT rfl rfl rfl rfl rfl ?_
        refine RunD.offT rfl rfl rfl rfl rfl ?_
        refine RunD.offT rfl rfl rfl rfl rfl ?_
        refine RunD.w (fun _ => Ev.pickT rfl rfl rfl rfl) ?_
        refine RunD.w (fun _ => Ev.move rfl rfl) ?_
        refine RunD.offT rfl rfl rfl rfl rfl ?_
        refine RunD.offT rfl rfl rfl rfl rfl ?_
        refine RunD.offT rfl rfl rfl rfl rfl ?_
        refine RunD.w (fun _ => Ev.pickT rfl rfl rfl rfl) ?_
        refine RunD.w (fun _ => Ev.move rfl rfl) ?_
        refine RunD.offT rfl rfl rfl rfl rfl ?_
        refine RunD.offT rfl rfl rfl rfl rfl ?_
        refine RunD.offT rfl rfl rfl rfl rfl ?_
        refine RunD.offT rfl rfl rfl rfl rfl ?_
        refine RunD.un rfl rfl rfl ?_
        refine RunD.un rfl rfl rfl ?_
        refine RunD.un rfl rfl rfl ?_
        refine RunD.offT rfl rfl rfl rfl rfl ?_
        refine RunD.w (fun _ => Ev.pickT rfl rfl rfl rfl) ?_
        refine RunD.nil ?_
        cases h
        exact ⟨(), trivial, Ghost.only [(1, 1)] [0, 3, 47] rfl⟩
      · replace h := ifF hb5 h
        refine RunD.on rfl rfl rfl hb5 rfl (fun _ _ => Ev.move rfl rfl) ?_
        refine RunD.on rfl rfl rfl hb5 rfl (fun _ _ => Ev.int rfl rfl rfl rfl trivial) ?_
        refine RunD.w (fun _ => Ev.pickF rfl hb5 rfl rfl) ?_
        refine RunD.w (fun _ => Ev.move rfl rfl) ?_
        rcases boolCases (decide (x1 < 0)) with hb6 | hb6
        · replace h := ifT hb6 h
          refine RunD.offT rfl rfl rfl rfl hb6 ?_
          refine RunD.offT rfl rfl rfl rfl hb6 ?_
          refine RunD.offT rfl rfl rfl rfl hb6 ?_
          refine RunD.offT rfl rfl rfl rfl hb6 ?_
          refine RunD.offT rfl rfl rfl rfl hb6 ?_
          refine RunD.offT rfl rfl rfl rfl hb6 ?_
          refine RunD.offT rfl rfl rfl rfl hb6 ?_
          refine RunD.offT rfl rfl rfl rfl hb6 ?_
          refine RunD.w (fun _ => Ev.pickT rfl hb6 rfl rfl) ?_
          refine RunD.w (fun _ => Ev.move rfl rfl) ?_
          refine RunD.offT rfl rfl rfl rfl rfl ?_
          refine RunD.offT rfl rfl rfl rfl rfl ?_
          refine RunD.offT rfl rfl rfl rfl rfl ?_
          refine RunD.w (fun _ => Ev.pickT rfl rfl rfl rfl) ?_
          refine RunD.w (fun _ => Ev.move rfl rfl) ?_
          refine RunD.offT rfl rfl rfl rfl rfl ?_
          refine RunD.offT rfl rfl rfl rfl rfl ?_
          refine RunD.offT rfl rfl rfl rfl rfl ?_
          refine RunD.offT rfl rfl rfl rfl rfl ?_
          refine RunD.un rfl rfl rfl ?_
          refine RunD.un rfl rfl rfl ?_
          refine RunD.un rfl rfl rfl ?_
          refine RunD.offT rfl rfl rfl rfl rfl ?_
          refine RunD.w (fun _ => Ev.pickT rfl rfl rfl rfl) ?_
          refine RunD.nil ?_
          cases h
          exact ⟨(), trivial, Ghost.only [(1, 1)] [0, 3, 47] rfl⟩
        · replace h := ifF hb6 h
          refine RunD.on rfl rfl rfl hb6 rfl (fun _ _ => Ev.move rfl rfl) ?_
          refine RunD.on rfl rfl rfl hb6 rfl (fun _ _ => Ev.move rfl rfl) ?_
          obtain ⟨x7, e8, h⟩ := bdS h
          refine RunD.on rfl rfl rfl hb6 rfl (fun ô hô => by obtain rfl := hô.resolve_left (by decide); exact Ev.e_rd X e8 rfl rfl rfl rfl) ?_
          refine RunD.on rfl rfl rfl hb6 rfl (fun ô hô => by obtain rfl := hô.resolve_left (by decide); exact Ev.load X rfl rfl rfl) ?_
          refine RunD.on rfl rfl rfl hb6 rfl (fun ô hô => by obtain rfl := hô.resolve_left (by decide); exact Ev.fieldBox X rfl rfl rfl rfl rfl) ?_
          refine RunD.on rfl rfl rfl hb6 rfl (fun ô hô => by obtain rfl := hô.resolve_left (by decide); exact Ev.loadCell X rfl rfl rfl rfl rfl rfl) ?_
          obtain ⟨x9, e10, h⟩ := bdS h
          refine RunD.on rfl rfl rfl hb6 rfl (fun ô hô => by obtain rfl := hô.resolve_left (by decide); exact Ev.callC en10 (k_triviumref23_Node e10) rfl (.cons .v (.cons .v .nil)) rfl rfl) ?_
          refine RunD.on rfl rfl rfl hb6 rfl (fun _ _ => Ev.int rfl rfl rfl rfl trivial) ?_
          refine RunD.w (fun _ => Ev.pickF rfl hb6 rfl rfl) ?_
          refine RunD.w (fun _ => Ev.move rfl rfl) ?_
          rcases boolCases (decide (x9 < 0)) with hb11 | hb11
          · replace h := ifT hb11 h
            refine RunD.offT rfl rfl rfl rfl hb11 ?_
            refine RunD.offT rfl rfl rfl rfl hb11 ?_
            refine RunD.offT rfl rfl rfl rfl hb11 ?_
            refine RunD.w (fun _ => Ev.pickT rfl hb11 rfl rfl) ?_
            refine RunD.w (fun _ => Ev.move rfl rfl) ?_
            refine RunD.offT rfl rfl rfl rfl rfl ?_
            refine RunD.offT rfl rfl rfl rfl rfl ?_
            refine RunD.offT rfl rfl rfl rfl rfl ?_
            refine RunD.offT rfl rfl rfl rfl rfl ?_
            refine RunD.un rfl rfl rfl ?_
            refine RunD.un rfl rfl rfl ?_
            refine RunD.un rfl rfl rfl ?_
            refine RunD.offT rfl rfl rfl rfl rfl ?_
            refine RunD.w (fun _ => Ev.pickT rfl rfl rfl rfl) ?_
            refine RunD.nil ?_
            cases h
            exact ⟨(), trivial, Ghost.only [(1, 1)] [0, 3, 47] rfl⟩
          · replace h := ifF hb11 h
            refine RunD.on rfl rfl rfl hb11 rfl (fun ô hô => by obtain rfl := hô.resolve_left (by decide); exact Ev.fieldBox X rfl rfl rfl rfl rfl) ?_
            refine RunD.on rfl rfl rfl hb11 rfl (fun ô hô => by obtain rfl := hô.resolve_left (by decide); exact Ev.loadCell X rfl rfl rfl rfl rfl rfl) ?_
            refine RunD.on rfl rfl rfl hb11 rfl (fun _ _ => Ev.int rfl rfl rfl rfl trivial) ?_
            refine RunD.w (fun _ => Ev.pickF rfl hb11 rfl rfl) ?_
            refine RunD.w (fun _ => Ev.move rfl rfl) ?_
            rcases boolCases (decide (p1.2.2.2.2.2.2 < 0)) with hb12 | hb12
            · replace h := ifT hb12 h
              refine RunD.offT rfl rfl rfl rfl hb12 ?_
              refine RunD.offT rfl rfl rfl rfl hb12 ?_
              refine RunD.offT rfl rfl rfl rfl hb12 ?_
              refine RunD.offT rfl rfl rfl rfl hb12 ?_
              refine RunD.un rfl rfl rfl ?_
              refine RunD.un rfl rfl rfl ?_
              refine RunD.un rfl rfl rfl ?_
              refine RunD.offT rfl rfl rfl rfl hb12 ?_
              refine RunD.w (fun _ => Ev.pickT rfl hb12 rfl rfl) ?_
              refine RunD.nil ?_
              cases h
              exact ⟨(), trivial, Ghost.only [(1, 1)] [0, 3, 47] rfl⟩
            · replace h := ifF hb12 h
              refine RunD.on rfl rfl rfl hb12 rfl (fun ô hô => by obtain rfl := hô.resolve_left (by decide); exact Ev.fieldBox X rfl rfl rfl rfl rfl) ?_
              refine RunD.on rfl rfl rfl hb12 rfl (fun ô hô => by obtain rfl := hô.resolve_left (by decide); exact Ev.loadCell X rfl rfl rfl rfl rfl rfl) ?_
              refine RunD.on rfl rfl rfl hb12 rfl (fun _ _ => Ev.int rfl rfl rfl rfl trivial) ?_
              refine RunD.on rfl rfl rfl hb12 rfl (fun _ _ => Ev.move rfl rfl) ?_
              rcases boolCases (!decide (p1.2.2.2.2.2.2 = 0)) with hb13 | hb13
              · replace h := ifT hb13 h
                refine RunD.on rfl rfl rfl hb13 rfl (fun ô hô => by obtain rfl := hô.resolve_left (by decide); exact Ev.fieldBox X rfl rfl rfl rfl rfl) ?_
                refine RunD.on rfl rfl rfl hb13 rfl (fun ô hô => by obtain rfl := hô.resolve_left (by decide); exact Ev.loadCell X rfl rfl rfl rfl rfl rfl) ?_
                refine RunD.on rfl rfl rfl hb13 rfl (fun _ _ => Ev.int rfl rfl rfl rfl trivial) ?_
                refine RunD.on rfl rfl rfl hb12 rfl (fun _ _ => Ev.pickT rfl hb13 rfl rfl) ?_
                refine RunD.w (fun _ => Ev.pickF rfl hb12 rfl rfl) ?_
                refine RunD.nil ?_
                cases h
                exact ⟨(), trivial, Ghost.only [(1, 1)] [0, 3, 47] rfl⟩
              · replace h := ifF hb13 h
                refine RunD.offT rfl rfl rfl rfl hb13 ?_
                refine RunD.offT rfl rfl rfl rfl hb13 ?_
                refine RunD.offT rfl rfl rfl rfl hb13 ?_
                refine RunD.on rfl rfl rfl hb12 rfl (fun _ _ => Ev.pickF rfl hb13 rfl rfl) ?_
                refine RunD.w (fun _ => Ev.pickF rfl hb12 rfl rfl) ?_
                refine RunD.nil ?_
                cases h
                exact ⟨(), trivial, Ghost.only [(1, 1)] [0, 3, 47] rfl⟩
  · refine T.cond rfl (fun hb14 => ?_) (fun hb14 => ?_)
    · replace h := ifT hb14 h
      refine T.seq ?_
      refine T.region ?_
      refine Run.go (Ev.assign rfl rfl) ?_
      refine Run.nil ?_
      refine T.ret ?_
      cases h
      exact Fin.one rfl .v
    · replace h := ifF hb14 h
      refine T.skip ?_
      refine T.seq ?_
      refine T.seq ?_
      refine T.region ?_
      refine Run.go (Ev.fieldBox X rfl rfl rfl rfl rfl) ?_
      refine Run.go (Ev.loadCell X rfl rfl rfl rfl rfl rfl) ?_
      refine Run.go (Ev.int rfl rfl rfl rfl trivial) ?_
      refine Run.nil ?_
      refine T.cond rfl (fun hb15 => ?_) (fun hb15 => ?_)
      · replace h := ifT hb15 h
        refine T.seq ?_
        refine T.region ?_
        refine Run.go (Ev.fieldBox X rfl rfl rfl rfl rfl) ?_
        refine Run.go (Ev.loadCell X rfl rfl rfl rfl rfl rfl) ?_
        refine Run.go (Ev.strs rfl rfl rfl rfl trivial) ?_
        refine Run.go (Ev.move rfl rfl) ?_
        rcases boolCases (sq p1.2.2.1 (bs [])) with hb16 | hb16
        · replace h := ifT hb16 h
          refine Run.on rfl rfl rfl hb16 (Ev.fieldBox X rfl rfl rfl rfl rfl) ?_
          refine Run.on rfl rfl rfl hb16 (Ev.loadBox X rfl rfl rfl rfl rfl) ?_
          refine Run.on rfl rfl rfl hb16 (Ev.structC pl42 zs42 rfl rfl rfl) ?_
          refine Run.ghost (Ghost.stv (t := 57) (τ := Y_api_Prefix) (y := ((0, 0) : D_api_Prefix)) rfl rfl rfl) ?_
          refine Run.on rfl rfl rfl hb16 (Ev.e_eq (τ := Y_api_Prefix) (p := ((p1.2.2.2.2.2.1.1, p1.2.2.2.2.2.1.2) : D_api_Prefix)) (q := ((0, 0) : D_api_Prefix)) eq42 rfl (.inl ⟨rfl, rfl⟩) rfl rfl rfl) ?_
          refine Run.go (Ev.pickT rfl hb16 rfl rfl) ?_
          obtain ⟨x17, e18, h⟩ := ltS h
          refine Run.go (Ev.avs (Ev.assign rfl rfl) e18) ?_
          refine Run.nil ?_
          refine T.ret ?_
          cases h
          exact Fin.one rfl .v
        · replace h := ifF hb16 h
          refine Run.offT rfl rfl rfl rfl hb16 ?_
          refine Run.offT rfl rfl rfl rfl hb16 ?_
          refine Run.offT rfl rfl rfl rfl hb16 ?_
          refine Run.offT rfl rfl rfl rfl hb16 ?_
          refine Run.go (Ev.pickF rfl hb16 rfl rfl) ?_
          refine Run.go (Ev.assign rfl rfl) ?_
          refine Run.nil ?_
          refine T.ret ?_
          cases h
          exact Fin.one rfl .v
      · replace h := ifF hb15 h
        refine T.skip ?_
        refine T.seq ?_
        refine T.region ?_
        refine Run.go (Ev.move rfl rfl) ?_
        refine Run.go (Ev.fieldBox X rfl rfl rfl rfl rfl) ?_
        refine Run.go (Ev.loadCell X rfl rfl rfl rfl rfl rfl) ?_
        obtain ⟨x19, e20, h⟩ := bdS h
        refine Run.go (Ev.callC en7 (k_triviumref23_Find e20) rfl (.cons .v (.cons .v .nil)) rfl rfl) ?_
        refine Run.go (Ev.assign rfl rfl) ?_
        refine Run.nil ?_
        refine T.seq ?_
        refine T.drawM [] [0, 1, 3, 7, 7, 31, 63, 7, 135, 511, 1023, 2047, 4095, 8191, 16383, 32767, 65535, 131071, 262143, 524287, 1048575, 2097151, 4194303] (by kernel_rfl) (by kernel_rfl) ?_
        refine RunD.w (fun _ => Ev.move rfl rfl) ?_
        refine RunD.w (fun _ => Ev.int rfl rfl rfl rfl trivial) ?_
        refine RunD.w (fun _ => Ev.move rfl rfl) ?_
        rcases boolCases (decide (0 ≤ x19)) with hb21 | hb21
        · replace h := ifT hb21 h
          refine RunD.on rfl rfl rfl hb21 rfl (fun _ _ => Ev.move rfl rfl) ?_
          refine RunD.on rfl rfl rfl hb21 rfl (fun _ _ => Ev.move rfl rfl) ?_
          obtain ⟨x22, e23, h⟩ := bdS h
          refine RunD.on rfl rfl rfl hb21 rfl (fun ô hô => by obtain rfl := hô.resolve_left (by decide); exact Ev.e_rd X e23 rfl rfl rfl rfl) ?_
          refine RunD.on rfl rfl rfl hb21 rfl (fun ô hô => by obtain rfl := hô.resolve_left (by decide); exact Ev.load X rfl rfl rfl) ?_
          refine RunD.on rfl rfl rfl hb21 rfl (fun ô hô => by obtain rfl := hô.resolve_left (by decide); exact Ev.fieldBox X rfl rfl rfl rfl rfl) ?_
          refine RunD.on rfl rfl rfl hb21 rfl (fun ô hô => by obtain rfl := hô.resolve_left (by decide); exact Ev.loadCell X rfl rfl rfl rfl rfl rfl) ?_
          obtain ⟨x24, e25, h⟩ := bdS h
          refine RunD.on rfl rfl rfl hb21 rfl (fun ô hô => by obtain rfl := hô.resolve_left (by decide); exact Ev.callC en10 (k_triviumref23_Node e25) rfl (.cons .v (.cons .v .nil)) rfl rfl) ?_
          refine RunD.on rfl rfl rfl hb21 rfl (fun _ _ => Ev.int rfl rfl rfl rfl trivial) ?_
          refine RunD.w (fun _ => Ev.pickT rfl hb21 rfl rfl) ?_
          refine RunD.w (fun _ => Ev.move rfl rfl) ?_
          rcases boolCases (decide (0 ≤ x24)) with hb26 | hb26
          · replace h := ifT hb26 h
            refine RunD.on rfl rfl rfl hb26 rfl (fun ô hô => by obtain rfl := hô.resolve_left (by decide); exact Ev.fieldBox X rfl rfl rfl rfl rfl) ?_
            refine RunD.on rfl rfl rfl hb26 rfl (fun ô hô => by obtain rfl := hô.resolve_left (by decide); exact Ev.loadCell X rfl rfl rfl rfl rfl rfl) ?_
            refine RunD.on rfl rfl rfl hb26 rfl (fun _ _ => Ev.int rfl rfl rfl rfl trivial) ?_
            refine RunD.w (fun _ => Ev.pickT rfl hb26 rfl rfl) ?_
            refine RunD.w (fun _ => Ev.move rfl rfl) ?_
            rcases boolCases (decide (p1.2.2.2.2.1 = 0)) with hb27 | hb27
            · replace h := ifT hb27 h
              refine RunD.on rfl rfl rfl hb27 rfl (fun ô hô => by obtain rfl := hô.resolve_left (by decide); exact Ev.fieldBox X rfl rfl rfl rfl rfl) ?_
              refine RunD.on rfl rfl rfl hb27 rfl (fun ô hô => by obtain rfl := hô.resolve_left (by decide); exact Ev.loadBox X rfl rfl rfl rfl rfl) ?_
              obtain ⟨x28, e29, h⟩ := bdS h
              refine RunD.on rfl rfl rfl hb27 rfl (fun ô hô => by obtain rfl := hô.resolve_left (by decide); exact Ev.callC en32 (k_triviumref18_May e29) rfl (.cons .v .nil) rfl rfl) ?_
              refine RunD.w (fun _ => Ev.pickT rfl hb27 rfl rfl) ?_
              refine RunD.w (fun _ => Ev.assign rfl rfl) ?_
              refine RunD.nil ?_
              refine T.ret ?_
              cases h
              exact Fin.one rfl .v
            · replace h := ifF hb27 h
              refine RunD.offT rfl rfl rfl rfl hb27 ?_
              refine RunD.offT rfl rfl rfl rfl hb27 ?_
              refine RunD.offT rfl rfl rfl rfl hb27 ?_
              refine RunD.w (fun _ => Ev.pickF rfl hb27 rfl rfl) ?_
              refine RunD.w (fun _ => Ev.assign rfl rfl) ?_
              refine RunD.nil ?_
              refine T.ret ?_
              cases h
              exact Fin.one rfl .v
          · replace h := ifF hb26 h
            refine RunD.offT rfl rfl rfl rfl hb26 ?_
            refine RunD.offT rfl rfl rfl rfl hb26 ?_
            refine RunD.offT rfl rfl rfl rfl hb26 ?_
            refine RunD.w (fun _ => Ev.pickF rfl hb26 rfl rfl) ?_
            refine RunD.w (fun _ => Ev.move rfl rfl) ?_
            refine RunD.offT rfl rfl rfl rfl rfl ?_
            refine RunD.offT rfl rfl rfl rfl rfl ?_
            refine RunD.offT rfl rfl rfl rfl rfl ?_
            refine RunD.w (fun _ => Ev.pickF rfl rfl rfl rfl) ?_
            refine RunD.w (fun _ => Ev.assign rfl rfl) ?_
            refine RunD.nil ?_
            refine T.ret ?_
            cases h
            exact Fin.one rfl .v
        · replace h := ifF hb21 h
          refine RunD.offT rfl rfl rfl rfl hb21 ?_
          refine RunD.offT rfl rfl rfl rfl hb21 ?_
          refine RunD.offT rfl rfl rfl rfl hb21 ?_
          refine RunD.offT rfl rfl rfl rfl hb21 ?_
          refine RunD.offT rfl rfl rfl rfl hb21 ?_
          refine RunD.offT rfl rfl rfl rfl hb21 ?_
          refine RunD.offT rfl rfl rfl rfl hb21 ?_
          refine RunD.offT rfl rfl rfl rfl hb21 ?_
          refine RunD.w (fun _ => Ev.pickF rfl hb21 rfl rfl) ?_
          refine RunD.w (fun _ => Ev.move rfl rfl) ?_
          refine RunD.offT rfl rfl rfl rfl rfl ?_
          refine RunD.offT rfl rfl rfl rfl rfl ?_
          refine RunD.offT rfl rfl rfl rfl rfl ?_
          refine RunD.w (fun _ => Ev.pickF rfl rfl rfl rfl) ?_
          refine RunD.w (fun _ => Ev.move rfl rfl) ?_
          refine RunD.offT rfl rfl rfl rfl rfl ?_
          refine RunD.offT rfl rfl rfl rfl rfl ?_
          refine RunD.offT rfl rfl rfl rfl rfl ?_
          refine RunD.w (fun _ => Ev.pickF rfl rfl rfl rfl) ?_
          refine RunD.w (fun _ => Ev.assign rfl rfl) ?_
          refine RunD.nil ?_
          refine T.ret ?_
          cases h
          exact Fin.one rfl .v
theorem en16 : Enters Tryz.prog 16 := ⟨_, Tryz.func16, rfl, rfl⟩
theorem k_formed_Find_1 {p0 : D_api_Net} {p1 : ByteArray} {y : Bool} (h : m_formed_Find_1 p0 p1 = some y) : Spec Tryz.prog 23 [(.v Y_api_Net p0), (.ptr .str p1)] (.v .bool y) [] := by
  rw [m_formed_Find_1] at h
  refine enterN [(.v Y_api_Net p0), (.ptr .str p1)] 8 Tryz.func23 rfl rfl rfl ?_
  refine T.seq ?_
  refine T.region ?_
  refine Run.go (Ev.box 1 rfl rfl rfl rfl) ?_
  refine Run.go (Ev.assign rfl rfl) ?_
  refine Run.nil ?_
  refine T.seq ?_
  refine T.region ?_
  refine Run.go (Ev.fieldBox X rfl rfl rfl rfl rfl) ?_
  refine Run.go (Ev.loadCell X rfl rfl rfl rfl rfl rfl) ?_
  refine Run.go (Ev.load X rfl rfl rfl) ?_
  refine Run.go (Ev.strs rfl rfl rfl rfl trivial) ?_
  refine Run.go (Ev.assign rfl rfl) ?_
  refine Run.nil ?_
  refine T.ret ?_
  cases h
  exact Fin.one rfl .v
theorem en23 : Enters Tryz.prog 23 := ⟨_, Tryz.func23, rfl, rfl⟩
theorem k_slices_IndexFunc_api_Net_api_Net__formed_Find_1 {p0 : (List D_api_Net)} {p1_0 : ByteArray} {y : Int} (h : m_slices_IndexFunc_api_Net_api_Net__formed_Find_1 p0 p1_0 = some y) : Spec Tryz.prog 22 [(.v (.sl Y_api_Net) p0), (.fn 23 [(.ptr .str p1_0)])] (.v (.int .i64) y) [] := by
  rw [m_slices_IndexFunc_api_Net_api_Net__formed_Find_1] at h
  refine enterN [(.v (.sl Y_api_Net) p0), (.fn 23 [(.ptr .str p1_0)])] 19 Tryz.func22 rfl rfl rfl ?_
  refine T.seq ?_
  refine T.region ?_
  refine Run.go (Ev.assign rfl rfl) ?_
  refine Run.nil ?_
  refine T.seq ?_
  refine T.seq ?_
  refine T.region ?_
  refine Run.go (Ev.move rfl rfl) ?_
  refine Run.go (Ev.len X rfl rfl rfl rfl) ?_
  refine Run.go (Ev.move rfl rfl) ?_
  refine Run.nil ?_
  refine T.block ?_
  refine T.loop (LoopT.ghost (Ghost.only [] [0, 1, 7, 8] rfl) (LoopT.run (fun q : Int => (⟨[(0, .v (.sl Y_api_Net) p0), (1, .fn 23 [.ptr .str p1_0]), (7, .v (.int .i64) ((p0.length : Int) : Int)), (8, .v (.int .i64) q)], [], 19⟩ : St)) (fun v1 z1 h hz1 => ?_) h))
  rw [m_slices_IndexFunc_api_Net_api_Net__formed_Find_1_l1] at h
  refine T.seq ?_
  refine T.region ?_
  refine Run.go (Ev.int rfl rfl rfl rfl trivial) ?_
  refine Run.nil ?_
  refine T.seq ?_
  refine T.cond rfl (fun hb2 => ?_) (fun hb2 => ?_)
  · replace h := ifT hb2 h
    refine T.skip ?_
    refine T.seq ?_
    refine T.block ?_
    refine T.seq ?_
    refine T.region ?_
    refine Run.go (Ev.move rfl rfl) ?_
    refine Run.go (Ev.assign rfl rfl) ?_
    refine Run.nil ?_
    refine T.seq ?_
    refine T.region ?_
    refine Run.go (Ev.move rfl rfl) ?_
    refine Run.go (Ev.move rfl rfl) ?_
    refine Run.go (Ev.move rfl rfl) ?_
    obtain ⟨x3, e4, h⟩ := bdS h
    refine Run.go (Ev.e_rd X e4 rfl rfl rfl rfl) ?_
    refine Run.go (Ev.load X rfl rfl rfl) ?_
    obtain ⟨x5, e6, h⟩ := bdS h
    refine Run.go (Ev.callC en23 (k_formed_Find_1 e6) rfl (.cons .v (.cons .ptr .nil)) rfl rfl) ?_
    refine Run.nil ?_
    refine T.cond rfl (fun hb7 => ?_) (fun hb7 => ?_)
    · replace h := ifT hb7 h
      refine T.seq ?_
      refine T.region ?_
      refine Run.go (Ev.move rfl rfl) ?_
      refine Run.go (Ev.assign rfl rfl) ?_
      refine Run.nil ?_
      refine T.ret ?_
      cases h
      cases hz1
      exact Fin.one rfl .v
    · replace h := ifF hb7 h
      refine T.skip ?_
      refine T.region ?_
      refine Run.go (Ev.int rfl rfl rfl rfl trivial) ?_
      refine Run.go (Ev.move rfl rfl) ?_
      refine Run.nil ?_
      cases h
      exact LoopT.ghost (Ghost.only [] [0, 1, 7, 8] rfl) hz1
  · replace h := ifF hb2 h
    refine T.exit ?_
    refine T.seq ?_
    refine T.region ?_
    refine Run.go (Ev.assign rfl rfl) ?_
    refine Run.nil ?_
    refine T.ret ?_
    cases h
    cases hz1
    exact Fin.one rfl .v
theorem en22 : Enters Tryz.prog 22 := ⟨_, Tryz.func22, rfl, rfl⟩
theorem k_formed_Find {p0 : (List D_api_Net)} {p1 : ByteArray} {y : D_api_Net × Bool} (h : m_formed_Find p0 p1 = some y) : Spec Tryz.prog 6 [(.v (.sl Y_api_Net) p0), (.v .str p1)] (.tup [.v Y_api_Net y.1, .v .bool y.2]) [] := by
  rw [m_formed_Find] at h
  refine enterN [(.v (.sl Y_api_Net) p0), (.v .str p1)] 17 Tryz.func6 rfl rfl rfl ?_
  refine T.seq ?_
  refine T.region ?_
  refine Run.go (Ev.box 1 rfl rfl rfl rfl) ?_
  refine Run.go (Ev.allocN X 2 rfl rfl rfl) ?_
  refine Run.go (Ev.assign rfl rfl) ?_
  refine Run.nil ?_
  refine T.seq ?_
  refine T.region ?_
  refine Run.go (Ev.move rfl rfl) ?_
  refine Run.go (Ev.e_fn rfl rfl) ?_
  refine Run.ghost (Ghost.freeze (id := 1) (τ := .str) (y := (p1 : ByteArray)) rfl rfl) ?_
  obtain ⟨x1, e2, h⟩ := bdS h
  refine Run.go (Ev.callC en22 (k_slices_IndexFunc_api_Net_api_Net__formed_Find_1 e2) rfl (.cons .v (.cons (.fn rfl) .nil)) rfl rfl) ?_
  refine Run.go (Ev.assign rfl rfl) ?_
  refine Run.nil ?_
  refine T.seq ?_
  refine T.seq ?_
  refine T.region ?_
  refine Run.go (Ev.move rfl rfl) ?_
  refine Run.go (Ev.int rfl rfl rfl rfl trivial) ?_
  refine Run.nil ?_
  refine T.cond rfl (fun hb3 => ?_) (fun hb3 => ?_)
  · replace h := ifT hb3 h
    refine T.seq ?_
    refine T.region ?_
    refine Run.go (Ev.structC pl28 zs28 rfl rfl rfl) ?_
    refine Run.do_ (Ev.storeC sz28 rfl rfl rfl rfl rfl rfl) ?_
    refine Run.go (Ev.assign rfl rfl) ?_
    refine Run.nil ?_
    refine T.ret ?_
    cases h
    exact Fin.many X rfl (.cons (.cell rfl rfl rfl rfl) (.cons (.tmp .v) .nil)) rfl
  · replace h := ifF hb3 h
    refine T.skip ?_
    refine T.seq ?_
    refine T.region ?_
    refine Run.go (Ev.move rfl rfl) ?_
    refine Run.go (Ev.move rfl rfl) ?_
    obtain ⟨x4, e5, h⟩ := bdS h
    refine Run.go (Ev.e_rd X e5 rfl rfl rfl rfl) ?_
    refine Run.go (Ev.load X rfl rfl rfl) ?_
    refine Run.do_ (Ev.storeBox X rfl rfl rfl rfl rfl rfl rfl) ?_
    refine Run.go (Ev.assign rfl rfl) ?_
    refine Run.nil ?_
    refine T.ret ?_
    cases h
    exact Fin.many X rfl (.cons (.cell rfl rfl rfl rfl) (.cons (.tmp .v) .nil)) rfl
theorem en6 : Enters Tryz.prog 6 := ⟨_, Tryz.func6, rfl, rfl⟩
theorem k_formed_Node_1 {p0 : D_api_Node} {p1 : ByteArray} {y : Bool} (h : m_formed_Node_1 p0 p1 = some y) : Spec Tryz.prog 25 [(.v Y_api_Node p0), (.ptr .str p1)] (.v .bool y) [] := by
  rw [m_formed_Node_1] at h
  refine enterN [(.v Y_api_Node p0), (.ptr .str p1)] 8 Tryz.func25 rfl rfl rfl ?_
  refine T.seq ?_
  refine T.region ?_
  refine Run.go (Ev.box 1 rfl rfl rfl rfl) ?_
  refine Run.go (Ev.assign rfl rfl) ?_
  refine Run.nil ?_
  refine T.seq ?_
  refine T.region ?_
  refine Run.go (Ev.fieldBox X rfl rfl rfl rfl rfl) ?_
  refine Run.go (Ev.loadCell X rfl rfl rfl rfl rfl rfl) ?_
  refine Run.go (Ev.load X rfl rfl rfl) ?_
  refine Run.go (Ev.strs rfl rfl rfl rfl trivial) ?_
  refine Run.go (Ev.assign rfl rfl) ?_
  refine Run.nil ?_
  refine T.ret ?_
  cases h
  exact Fin.one rfl .v
theorem en25 : Enters Tryz.prog 25 := ⟨_, Tryz.func25, rfl, rfl⟩
theorem k_slices_IndexFunc_api_Node_api_Node__formed_Node_1 {p0 : (List D_api_Node)} {p1_0 : ByteArray} {y : Int} (h : m_slices_IndexFunc_api_Node_api_Node__formed_Node_1 p0 p1_0 = some y) : Spec Tryz.prog 24 [(.v (.sl Y_api_Node) p0), (.fn 25 [(.ptr .str p1_0)])] (.v (.int .i64) y) [] := by
  rw [m_slices_IndexFunc_api_Node_api_Node__formed_Node_1] at h
  refine enterN [(.v (.sl Y_api_Node) p0), (.fn 25 [(.ptr .str p1_0)])] 19 Tryz.func24 rfl rfl rfl ?_
  refine T.seq ?_
  refine T.region ?_
  refine Run.go (Ev.assign rfl rfl) ?_
  refine Run.nil ?_
  refine T.seq ?_
  refine T.seq ?_
  refine T.region ?_
  refine Run.go (Ev.move rfl rfl) ?_
  refine Run.go (Ev.len X rfl rfl rfl rfl) ?_
  refine Run.go (Ev.move rfl rfl) ?_
  refine Run.nil ?_
  refine T.block ?_
  refine T.loop (LoopT.ghost (Ghost.only [] [0, 1, 7, 8] rfl) (LoopT.run (fun q : Int => (⟨[(0, .v (.sl Y_api_Node) p0), (1, .fn 25 [.ptr .str p1_0]), (7, .v (.int .i64) ((p0.length : Int) : Int)), (8, .v (.int .i64) q)], [], 19⟩ : St)) (fun v1 z1 h hz1 => ?_) h))
  rw [m_slices_IndexFunc_api_Node_api_Node__formed_Node_1_l1] at h
  refine T.seq ?_
  refine T.region ?_
  refine Run.go (Ev.int rfl rfl rfl rfl trivial) ?_
  refine Run.nil ?_
  refine T.seq ?_
  refine T.cond rfl (fun hb2 => ?_) (fun hb2 => ?_)
  · replace h := ifT hb2 h
    refine T.skip ?_
    refine T.seq ?_
    refine T.block ?_
    refine T.seq ?_
    refine T.region ?_
    refine Run.go (Ev.move rfl rfl) ?_
    refine Run.go (Ev.assign rfl rfl) ?_
    refine Run.nil ?_
    refine T.seq ?_
    refine T.region ?_
    refine Run.go (Ev.move rfl rfl) ?_
    refine Run.go (Ev.move rfl rfl) ?_
    refine Run.go (Ev.move rfl rfl) ?_
    obtain ⟨x3, e4, h⟩ := bdS h
    refine Run.go (Ev.e_rd X e4 rfl rfl rfl rfl) ?_
    refine Run.go (Ev.load X rfl rfl rfl) ?_
    obtain ⟨x5, e6, h⟩ := bdS h
    refine Run.go (Ev.callC en25 (k_formed_Node_1 e6) rfl (.cons .v (.cons .ptr .nil)) rfl rfl) ?_
    refine Run.nil ?_
    refine T.cond rfl (fun hb7 => ?_) (fun hb7 => ?_)
    · replace h := ifT hb7 h
      refine T.seq ?_
      refine T.region ?_
      refine Run.go (Ev.move rfl rfl) ?_
      refine Run.go (Ev.assign rfl rfl) ?_
      refine Run.nil ?_
      refine T.ret ?_
      cases h
      cases hz1
      exact Fin.one rfl .v
    · replace h := ifF hb7 h
      refine T.skip ?_
      refine T.region ?_
      refine Run.go (Ev.int rfl rfl rfl rfl trivial) ?_
      refine Run.go (Ev.move rfl rfl) ?_
      refine Run.nil ?_
      cases h
      exact LoopT.ghost (Ghost.only [] [0, 1, 7, 8] rfl) hz1
  · replace h := ifF hb2 h
    refine T.exit ?_
    refine T.seq ?_
    refine T.region ?_
    refine Run.go (Ev.assign rfl rfl) ?_
    refine Run.nil ?_
    refine T.ret ?_
    cases h
    cases hz1
    exact Fin.one rfl .v
theorem en24 : Enters Tryz.prog 24 := ⟨_, Tryz.func24, rfl, rfl⟩
theorem k_formed_Node {p0 : D_api_Net} {p1 : ByteArray} {y : Int × Bool} (h : m_formed_Node p0 p1 = some y) : Spec Tryz.prog 8 [(.v Y_api_Net p0), (.v .str p1)] (.tup [.v (.int .i64) y.1, .v .bool y.2]) [] := by
  rw [m_formed_Node] at h
  refine enterN [(.v Y_api_Net p0), (.v .str p1)] 15 Tryz.func8 rfl rfl rfl ?_
  refine T.seq ?_
  refine T.region ?_
  refine Run.go (Ev.box 1 rfl rfl rfl rfl) ?_
  refine Run.go (Ev.box 2 rfl rfl rfl rfl) ?_
  refine Run.go (Ev.assign rfl rfl) ?_
  refine Run.go (Ev.assign rfl rfl) ?_
  refine Run.nil ?_
  refine T.seq ?_
  refine T.region ?_
  refine Run.go (Ev.fieldBox X rfl rfl rfl rfl rfl) ?_
  refine Run.go (Ev.loadCell X rfl rfl rfl rfl rfl rfl) ?_
  refine Run.go (Ev.e_fn rfl rfl) ?_
  refine Run.ghost (Ghost.freeze (id := 2) (τ := .str) (y := (p1 : ByteArray)) rfl rfl) ?_
  obtain ⟨x1, e2, h⟩ := bdS h
  refine Run.go (Ev.callC en24 (k_slices_IndexFunc_api_Node_api_Node__formed_Node_1 e2) rfl (.cons .v (.cons (.fn rfl) .nil)) rfl rfl) ?_
  refine Run.go (Ev.assign rfl rfl) ?_
  refine Run.nil ?_
  refine T.seq ?_
  refine T.region ?_
  refine Run.go (Ev.move rfl rfl) ?_
  refine Run.go (Ev.max rfl rfl rfl) ?_
  refine Run.go (Ev.move rfl rfl) ?_
  refine Run.go (Ev.int rfl rfl rfl rfl trivial) ?_
  refine Run.go (Ev.assign rfl rfl) ?_
  refine Run.go (Ev.assign rfl rfl) ?_
  refine Run.nil ?_
  refine T.ret ?_
  cases h
  exact Fin.many X rfl (.cons (.tmp .v) (.cons (.tmp .v) .nil)) rfl
theorem en8 : Enters Tryz.prog 8 := ⟨_, Tryz.func8, rfl, rfl⟩
theorem k_formed_in {p0 : (List D_api_Net)} {p1 : ByteArray} {p2 : ByteArray} {y : Bool} (h : m_formed_in p0 p1 p2 = some y) : Spec Tryz.prog 33 [(.v (.sl Y_api_Net) p0), (.v .str p1), (.v .str p2)] (.v .bool y) [] := by
  rw [m_formed_in] at h
  refine enterN [(.v (.sl Y_api_Net) p0), (.v .str p1), (.v .str p2)] 24 Tryz.func33 rfl rfl rfl ?_
  refine T.seq ?_
  refine T.region ?_
  refine Run.go (Ev.assign rfl rfl) ?_
  refine Run.nil ?_
  refine T.seq ?_
  refine T.region ?_
  refine Run.go (Ev.move rfl rfl) ?_
  refine Run.go (Ev.move rfl rfl) ?_
  obtain ⟨x1, e2, h⟩ := bdS h
  refine Run.go (Ev.callC en6 (k_formed_Find e2) rfl (.cons .v (.cons .v .nil)) rfl rfl) ?_
  refine Run.go (Ev.move rfl rfl) ?_
  refine Run.go (Ev.extract rfl rfl rfl) ?_
  refine Run.go (Ev.extract rfl rfl rfl) ?_
  refine Run.go (Ev.allocN X 1 rfl rfl rfl) ?_
  refine Run.do_ (Ev.storeBox X rfl rfl rfl rfl rfl rfl rfl) ?_
  refine Run.go (Ev.assign rfl rfl) ?_
  refine Run.nil ?_
  refine T.seq ?_
  refine T.seq ?_
  refine T.region ?_
  refine Run.go (Ev.move rfl rfl) ?_
  refine Run.go (Ev.not rfl rfl) ?_
  refine Run.nil ?_
  refine T.cond rfl (fun hb3 => ?_) (fun hb3 => ?_)
  · replace h := ifT hb3 h
    refine T.seq ?_
    refine T.region ?_
    refine Run.go (Ev.assign rfl rfl) ?_
    refine Run.nil ?_
    refine T.ret ?_
    cases h
    exact Fin.one rfl .v
  · replace h := ifF hb3 h
    refine T.skip ?_
    refine T.seq ?_
    refine T.region ?_
    refine Run.go (Ev.loadBox X rfl rfl rfl rfl rfl) ?_
    refine Run.go (Ev.move rfl rfl) ?_
    obtain ⟨x4, e5, h⟩ := bdS h
    refine Run.go (Ev.callC en8 (k_formed_Node e5) rfl (.cons .v (.cons .v .nil)) rfl rfl) ?_
    refine Run.go (Ev.move rfl rfl) ?_
    refine Run.go (Ev.extract rfl rfl rfl) ?_
    refine Run.go (Ev.extract rfl rfl rfl) ?_
    refine Run.go (Ev.assign rfl rfl) ?_
    refine Run.nil ?_
    refine T.seq ?_
    refine T.region ?_
    refine Run.go (Ev.move rfl rfl) ?_
    refine Run.go (Ev.assign rfl rfl) ?_
    refine Run.nil ?_
    refine T.ret ?_
    cases h
    exact Fin.one rfl .v
theorem en33 : Enters Tryz.prog 33 := ⟨_, Tryz.func33, rfl, rfl⟩
theorem k_addr_Mask {p0 : Int} {y : Int} (h : m_addr_Mask p0 = some y) : Spec Tryz.prog 62 [(.v (.int .i64) p0)] (.v (.int .u32) y) [] := by
  rw [m_addr_Mask] at h
  refine enterN [(.v (.int .i64) p0)] 10 Tryz.func62 rfl rfl rfl ?_
  refine T.seq ?_
  refine T.region ?_
  refine Run.go (Ev.assign rfl rfl) ?_
  refine Run.nil ?_
  refine T.seq ?_
  refine T.region ?_
  refine Run.go (Ev.move rfl rfl) ?_
  refine Run.go (Ev.max rfl rfl rfl) ?_
  refine Run.go (Ev.min rfl rfl rfl) ?_
  refine Run.go (Ev.assign rfl rfl) ?_
  refine Run.nil ?_
  refine T.seq ?_
  refine T.region ?_
  refine Run.go (Ev.move rfl rfl) ?_
  refine Run.go (Ev.int rfl rfl rfl rfl trivial) ?_
  obtain ⟨x1, e2, h⟩ := bdS h
  refine Run.go (Ev.e_sh e2 rfl rfl rfl) ?_
  refine Run.go (Ev.conv X rfl rfl rfl rfl) ?_
  refine Run.go (Ev.assign rfl rfl) ?_
  refine Run.nil ?_
  refine T.ret ?_
  cases h
  exact Fin.one rfl .v
theorem en62 : Enters Tryz.prog 62 := ⟨_, Tryz.func62, rfl, rfl⟩
theorem k_addr_May {p0 : D_api_Prefix} {y : Bool} (h : m_addr_May p0 = some y) : Spec Tryz.prog 34 [(.v Y_api_Prefix p0)] (.v .bool y) [] := by
  rw [m_addr_May] at h
  refine enterN [(.v Y_api_Prefix p0)] 20 Tryz.func34 rfl rfl rfl ?_
  refine T.seq ?_
  refine T.region ?_
  refine Run.go (Ev.box 1 rfl rfl rfl rfl) ?_
  refine Run.go (Ev.assign rfl rfl) ?_
  refine Run.nil ?_
  refine T.seq ?_
  refine T.drawM [] [0, 1, 3, 7, 15, 31, 63, 127, 255, 511, 1023, 511, 2559, 6655, 16383, 32767, 65535, 131071] (by kernel_rfl) (by kernel_rfl) ?_
  refine RunD.a rfl rfl (Ev.fieldBox X rfl rfl rfl rfl rfl) ?_
  refine RunD.a rfl rfl (Ev.loadCell X rfl rfl rfl rfl rfl rfl) ?_
  refine RunD.w (fun _ => Ev.int rfl rfl rfl rfl trivial) ?_
  refine RunD.w (fun _ => Ev.move rfl rfl) ?_
  rcases boolCases (decide (0 ≤ p0.2)) with hb1 | hb1
  · replace h := ifT hb1 h
    refine RunD.on rfl rfl rfl hb1 rfl (fun ô hô => by obtain rfl := hô.resolve_left (by decide); exact Ev.fieldBox X rfl rfl rfl rfl rfl) ?_
    refine RunD.on rfl rfl rfl hb1 rfl (fun ô hô => by obtain rfl := hô.resolve_left (by decide); exact Ev.loadCell X rfl rfl rfl rfl rfl rfl) ?_
    refine RunD.on rfl rfl rfl hb1 rfl (fun _ _ => Ev.int rfl rfl rfl rfl trivial) ?_
    refine RunD.w (fun _ => Ev.pickT rfl hb1 rfl rfl) ?_
    refine RunD.w (fun _ => Ev.move rfl rfl) ?_
    rcases boolCases (decide (p0.2 ≤ 32)) with hb2 | hb2
    · replace h := ifT hb2 h
      refine RunD.on rfl rfl rfl hb2 rfl (fun ô hô => by obtain rfl := hô.resolve_left (by decide); exact Ev.fieldBox X rfl rfl rfl rfl rfl) ?_
      refine RunD.on rfl rfl rfl hb2 rfl (fun ô hô => by obtain rfl := hô.resolve_left (by decide); exact Ev.loadCell X rfl rfl rfl rfl rfl rfl) ?_
      refine RunD.on rfl rfl rfl hb2 rfl (fun ô hô => by obtain rfl := hô.resolve_left (by decide); exact Ev.fieldBox X rfl rfl rfl rfl rfl) ?_
      refine RunD.on rfl rfl rfl hb2 rfl (fun ô hô => by obtain rfl := hô.resolve_left (by decide); exact Ev.loadCell X rfl rfl rfl rfl rfl rfl) ?_
      obtain ⟨x3, e4, h⟩ := bdS h
      refine RunD.on rfl rfl rfl hb2 rfl (fun ô hô => by obtain rfl := hô.resolve_left (by decide); exact Ev.callC en62 (k_addr_Mask e4) rfl (.cons .v .nil) rfl rfl) ?_
      refine RunD.on rfl rfl rfl hb2 rfl (fun _ _ => Ev.int rfl rfl rfl rfl trivial) ?_
      refine RunD.on rfl rfl rfl hb2 rfl (fun _ _ => Ev.int rfl rfl rfl rfl trivial) ?_
      refine RunD.w (fun _ => Ev.pickT rfl hb2 rfl rfl) ?_
      obtain ⟨x5, e6, h⟩ := ltS h
      refine RunD.w (fun _ => Ev.avs (Ev.assign rfl rfl) e6) ?_
      refine RunD.nil ?_
      refine T.ret ?_
      cases h
      exact Fin.one rfl .v
    · replace h := ifF hb2 h
      refine RunD.offT rfl rfl rfl rfl hb2 ?_
      refine RunD.offT rfl rfl rfl rfl hb2 ?_
      refine RunD.offT rfl rfl rfl rfl hb2 ?_
      refine RunD.offT rfl rfl rfl rfl hb2 ?_
      refine RunD.offT rfl rfl rfl rfl hb2 ?_
      refine RunD.offT rfl rfl rfl rfl hb2 ?_
      refine RunD.offT rfl rfl rfl rfl hb2 ?_
      refine RunD.w (fun _ => Ev.pickF rfl hb2 rfl rfl) ?_
      refine RunD.w (fun _ => Ev.assign rfl rfl) ?_
      refine RunD.nil ?_
      refine T.ret ?_
      cases h
      exact Fin.one rfl .v
  · replace h := ifF hb1 h
    refine RunD.offT rfl rfl rfl rfl hb1 ?_
    refine RunD.offT rfl rfl rfl rfl hb1 ?_
    refine RunD.offT rfl rfl rfl rfl hb1 ?_
    refine RunD.w (fun _ => Ev.pickF rfl hb1 rfl rfl) ?_
    refine RunD.w (fun _ => Ev.move rfl rfl) ?_
    refine RunD.offT rfl rfl rfl rfl rfl ?_
    refine RunD.offT rfl rfl rfl rfl rfl ?_
    refine RunD.offT rfl rfl rfl rfl rfl ?_
    refine RunD.offT rfl rfl rfl rfl rfl ?_
    refine RunD.offT rfl rfl rfl rfl rfl ?_
    refine RunD.offT rfl rfl rfl rfl rfl ?_
    refine RunD.offT rfl rfl rfl rfl rfl ?_
    refine RunD.w (fun _ => Ev.pickF rfl rfl rfl rfl) ?_
    refine RunD.w (fun _ => Ev.assign rfl rfl) ?_
    refine RunD.nil ?_
    refine T.ret ?_
    cases h
    exact Fin.one rfl .v
theorem en34 : Enters Tryz.prog 34 := ⟨_, Tryz.func34, rfl, rfl⟩
theorem k_formed_Query {p0 : (List D_api_Net)} {p1 : D_api_Query} {y : Bool} (h : m_formed_Query p0 p1 = some y) : Spec Tryz.prog 17 [(.v (.sl Y_api_Net) p0), (.v Y_api_Query p1)] (.v .bool y) [] := by
  rw [m_formed_Query] at h
  refine enterN [(.v (.sl Y_api_Net) p0), (.v Y_api_Query p1)] 60 Tryz.func17 rfl rfl rfl ?_
  refine T.seq ?_
  refine T.region ?_
  refine Run.go (Ev.box 1 rfl rfl rfl rfl) ?_
  refine Run.go (Ev.assign rfl rfl) ?_
  refine Run.nil ?_
  refine T.seq ?_
  obtain ⟨v1, hv, h⟩ := bdS h
  refine T.cut (fun _ : Unit => (⟨[(0, .v (.sl Y_api_Net) p0), (3, .box 1 0), (26, .v .bool v1)], [(1, .box [.v (.int .i64) p1.1, .v .str p1.2.1, .v .str p1.2.2.1, .v .str p1.2.2.2.1, .v (.int .u32) p1.2.2.2.2.1, .v (.int .u32) p1.2.2.2.2.2.1.1, .v (.int .i64) p1.2.2.2.2.2.1.2, .v (.int .i64) p1.2.2.2.2.2.2])], 60⟩ : St)) (fun _ => True) ?_ (fun _ _ => ?_)
  · replace h := hv
    clear hv
    refine T.region ?_
    refine Run.go (Ev.move rfl rfl) ?_
    refine Run.go (Ev.fieldBox X rfl rfl rfl rfl rfl) ?_
    refine Run.go (Ev.loadCell X rfl rfl rfl rfl rfl rfl) ?_
    refine Run.go (Ev.fieldBox X rfl rfl rfl rfl rfl) ?_
    refine Run.go (Ev.loadCell X rfl rfl rfl rfl rfl rfl) ?_
    obtain ⟨x2, e3, h⟩ := bdS h
    refine Run.go (Ev.callC en33 (k_formed_in e3) rfl (.cons .v (.cons .v (.cons .v .nil))) rfl rfl) ?_
    refine Run.go (Ev.not rfl rfl) ?_
    refine Run.go (Ev.move rfl rfl) ?_
    rcases boolCases (!x2) with hb4 | hb4
    · replace h := ifT hb4 h
      refine Run.offT rfl rfl rfl rfl hb4 ?_
      refine Run.offT rfl rfl rfl rfl hb4 ?_
      refine Run.offT rfl rfl rfl rfl hb4 ?_
      refine Run.go (Ev.pickT rfl hb4 rfl rfl) ?_
      refine Run.go (Ev.move rfl rfl) ?_
      refine Run.offT rfl rfl rfl rfl rfl ?_
      refine Run.offT rfl rfl rfl rfl rfl ?_
      refine Run.offT rfl rfl rfl rfl rfl ?_
      refine Run.offT rfl rfl rfl rfl rfl ?_
      refine Run.un rfl rfl rfl ?_
      refine Run.un rfl rfl rfl ?_
      refine Run.un rfl rfl rfl ?_
      refine Run.offT rfl rfl rfl rfl rfl ?_
      refine Run.go (Ev.pickT rfl rfl rfl rfl) ?_
      refine Run.nil ?_
      cases h
      exact ⟨(), trivial, Ghost.only [(1, 1)] [0, 3, 26] rfl⟩
    · replace h := ifF hb4 h
      refine Run.on rfl rfl rfl hb4 (Ev.fieldBox X rfl rfl rfl rfl rfl) ?_
      refine Run.on rfl rfl rfl hb4 (Ev.loadCell X rfl rfl rfl rfl rfl rfl) ?_
      refine Run.on rfl rfl rfl hb4 (Ev.int rfl rfl rfl rfl trivial) ?_
      refine Run.go (Ev.pickF rfl hb4 rfl rfl) ?_
      refine Run.go (Ev.move rfl rfl) ?_
      rcases boolCases (decide (p1.2.2.2.2.2.2 < 0)) with hb5 | hb5
      · replace h := ifT hb5 h
        refine Run.offT rfl rfl rfl rfl hb5 ?_
        refine Run.offT rfl rfl rfl rfl hb5 ?_
        refine Run.offT rfl rfl rfl rfl hb5 ?_
        refine Run.offT rfl rfl rfl rfl hb5 ?_
        refine Run.un rfl rfl rfl ?_
        refine Run.un rfl rfl rfl ?_
        refine Run.un rfl rfl rfl ?_
        refine Run.offT rfl rfl rfl rfl hb5 ?_
        refine Run.go (Ev.pickT rfl hb5 rfl rfl) ?_
        refine Run.nil ?_
        cases h
        exact ⟨(), trivial, Ghost.only [(1, 1)] [0, 3, 26] rfl⟩
      · replace h := ifF hb5 h
        refine Run.on rfl rfl rfl hb5 (Ev.fieldBox X rfl rfl rfl rfl rfl) ?_
        refine Run.on rfl rfl rfl hb5 (Ev.loadCell X rfl rfl rfl rfl rfl rfl) ?_
        refine Run.on rfl rfl rfl hb5 (Ev.int rfl rfl rfl rfl trivial) ?_
        refine Run.on rfl rfl rfl hb5 (Ev.move rfl rfl) ?_
        rcases boolCases (decide (0 < p1.2.2.2.2.2.2)) with hb6 | hb6
        · replace h := ifT hb6 h
          refine Run.on rfl rfl rfl hb6 (Ev.fieldBox X rfl rfl rfl rfl rfl) ?_
          refine Run.on rfl rfl rfl hb6 (Ev.loadCell X rfl rfl rfl rfl rfl rfl) ?_
          refine Run.on rfl rfl rfl hb6 (Ev.int rfl rfl rfl rfl trivial) ?_
          refine Run.on rfl rfl rfl hb5 (Ev.pickT rfl hb6 rfl rfl) ?_
          refine Run.go (Ev.pickF rfl hb5 rfl rfl) ?_
          refine Run.nil ?_
          cases h
          exact ⟨(), trivial, Ghost.only [(1, 1)] [0, 3, 26] rfl⟩
        · replace h := ifF hb6 h
          refine Run.offT rfl rfl rfl rfl hb6 ?_
          refine Run.offT rfl rfl rfl rfl hb6 ?_
          refine Run.offT rfl rfl rfl rfl hb6 ?_
          refine Run.on rfl rfl rfl hb5 (Ev.pickF rfl hb6 rfl rfl) ?_
          refine Run.go (Ev.pickF rfl hb5 rfl rfl) ?_
          refine Run.nil ?_
          cases h
          exact ⟨(), trivial, Ghost.only [(1, 1)] [0, 3, 26] rfl⟩
  · refine T.cond rfl (fun hb7 => ?_) (fun hb7 => ?_)
    · replace h := ifT hb7 h
      refine T.seq ?_
      refine T.region ?_
      refine Run.go (Ev.assign rfl rfl) ?_
      refine Run.nil ?_
      refine T.ret ?_
      cases h
      exact Fin.one rfl .v
    · replace h := ifF hb7 h
      refine T.skip ?_
      refine T.seq ?_
      refine T.seq ?_
      refine T.region ?_
      refine Run.go (Ev.fieldBox X rfl rfl rfl rfl rfl) ?_
      refine Run.go (Ev.loadCell X rfl rfl rfl rfl rfl rfl) ?_
      refine Run.nil ?_
      refine T.block ?_
      obtain ⟨v8, hv, h⟩ := bdS h
      refine T.cut (fun _ : Unit => (⟨[(0, .v (.sl Y_api_Net) p0), (3, .box 1 0), (28, .v (.int .i64) p1.1), (29, .v .bool v8)], [(1, .box [.v (.int .i64) p1.1, .v .str p1.2.1, .v .str p1.2.2.1, .v .str p1.2.2.2.1, .v (.int .u32) p1.2.2.2.2.1, .v (.int .u32) p1.2.2.2.2.2.1.1, .v (.int .i64) p1.2.2.2.2.2.1.2, .v (.int .i64) p1.2.2.2.2.2.2])], 60⟩ : St)) (fun _ => True) ?_ (fun _ _ => ?_)
      · replace h := hv
        clear hv
        refine T.seq ?_
        refine T.region ?_
        refine Run.go (Ev.int rfl rfl rfl rfl trivial) ?_
        refine Run.go (Ev.assign rfl rfl) ?_
        refine Run.nil ?_
        refine T.cond rfl (fun hb9 => ?_) (fun hb9 => ?_)
        · replace h := ifT hb9 h
          refine T.skip ?_
          cases h
          exact ⟨(), trivial, Ghost.only [(1, 1)] [0, 3, 28, 29] rfl⟩
        · replace h := ifF hb9 h
          refine T.seq ?_
          refine T.region ?_
          refine Run.go (Ev.int rfl rfl rfl rfl trivial) ?_
          refine Run.go (Ev.assign rfl rfl) ?_
          refine Run.nil ?_
          refine T.cond rfl (fun hb10 => ?_) (fun hb10 => ?_)
          · replace h := ifT hb10 h
            refine T.skip ?_
            cases h
            exact ⟨(), trivial, Ghost.only [(1, 1)] [0, 3, 28, 29] rfl⟩
          · replace h := ifF hb10 h
            refine T.region ?_
            refine Run.go (Ev.int rfl rfl rfl rfl trivial) ?_
            refine Run.go (Ev.assign rfl rfl) ?_
            refine Run.nil ?_
            cases h
            exact ⟨(), trivial, Ghost.only [(1, 1)] [0, 3, 28, 29] rfl⟩
      · refine T.cond rfl (fun hb11 => ?_) (fun hb11 => ?_)
        · replace h := ifT hb11 h
          refine T.seq ?_
          refine T.region ?_
          refine Run.go (Ev.fieldBox X rfl rfl rfl rfl rfl) ?_
          refine Run.go (Ev.loadCell X rfl rfl rfl rfl rfl rfl) ?_
          refine Run.go (Ev.strs rfl rfl rfl rfl trivial) ?_
          refine Run.go (Ev.move rfl rfl) ?_
          rcases boolCases (sq p1.2.2.1 (bs [])) with hb12 | hb12
          · replace h := ifT hb12 h
            refine Run.on rfl rfl rfl hb12 (Ev.fieldBox X rfl rfl rfl rfl rfl) ?_
            refine Run.on rfl rfl rfl hb12 (Ev.loadBox X rfl rfl rfl rfl rfl) ?_
            refine Run.on rfl rfl rfl hb12 (Ev.structC pl42 zs42 rfl rfl rfl) ?_
            refine Run.ghost (Ghost.stv (t := 39) (τ := Y_api_Prefix) (y := ((0, 0) : D_api_Prefix)) rfl rfl rfl) ?_
            refine Run.on rfl rfl rfl hb12 (Ev.e_eq (τ := Y_api_Prefix) (p := ((p1.2.2.2.2.2.1.1, p1.2.2.2.2.2.1.2) : D_api_Prefix)) (q := ((0, 0) : D_api_Prefix)) eq42 rfl (.inl ⟨rfl, rfl⟩) rfl rfl rfl) ?_
            refine Run.go (Ev.pickT rfl hb12 rfl rfl) ?_
            obtain ⟨x13, e14, h⟩ := ltS h
            refine Run.go (Ev.avs (Ev.assign rfl rfl) e14) ?_
            refine Run.nil ?_
            refine T.ret ?_
            cases h
            exact Fin.one rfl .v
          · replace h := ifF hb12 h
            refine Run.offT rfl rfl rfl rfl hb12 ?_
            refine Run.offT rfl rfl rfl rfl hb12 ?_
            refine Run.offT rfl rfl rfl rfl hb12 ?_
            refine Run.offT rfl rfl rfl rfl hb12 ?_
            refine Run.go (Ev.pickF rfl hb12 rfl rfl) ?_
            refine Run.go (Ev.assign rfl rfl) ?_
            refine Run.nil ?_
            refine T.ret ?_
            cases h
            exact Fin.one rfl .v
        · replace h := ifF hb11 h
          refine T.seq ?_
          refine T.region ?_
          refine Run.go (Ev.int rfl rfl rfl rfl trivial) ?_
          refine Run.go (Ev.assign rfl rfl) ?_
          refine Run.nil ?_
          refine T.cond rfl (fun hb15 => ?_) (fun hb15 => ?_)
          · replace h := ifT hb15 h
            refine T.seq ?_
            refine T.region ?_
            refine Run.go (Ev.move rfl rfl) ?_
            refine Run.go (Ev.fieldBox X rfl rfl rfl rfl rfl) ?_
            refine Run.go (Ev.loadCell X rfl rfl rfl rfl rfl rfl) ?_
            refine Run.go (Ev.fieldBox X rfl rfl rfl rfl rfl) ?_
            refine Run.go (Ev.loadCell X rfl rfl rfl rfl rfl rfl) ?_
            obtain ⟨x16, e17, h⟩ := bdS h
            refine Run.go (Ev.callC en33 (k_formed_in e17) rfl (.cons .v (.cons .v (.cons .v .nil))) rfl rfl) ?_
            refine Run.go (Ev.move rfl rfl) ?_
            rcases boolCases x16 with hb18 | hb18
            · replace h := ifT hb18 h
              refine Run.on rfl rfl rfl hb18 (Ev.fieldBox X rfl rfl rfl rfl rfl) ?_
              refine Run.on rfl rfl rfl hb18 (Ev.loadCell X rfl rfl rfl rfl rfl rfl) ?_
              refine Run.on rfl rfl rfl hb18 (Ev.int rfl rfl rfl rfl trivial) ?_
              refine Run.go (Ev.pickT rfl hb18 rfl rfl) ?_
              refine Run.go (Ev.move rfl rfl) ?_
              rcases boolCases (decide (p1.2.2.2.2.1 = 0)) with hb19 | hb19
              · replace h := ifT hb19 h
                refine Run.on rfl rfl rfl hb19 (Ev.fieldBox X rfl rfl rfl rfl rfl) ?_
                refine Run.on rfl rfl rfl hb19 (Ev.loadBox X rfl rfl rfl rfl rfl) ?_
                obtain ⟨x20, e21, h⟩ := bdS h
                refine Run.on rfl rfl rfl hb19 (Ev.callC en34 (k_addr_May e21) rfl (.cons .v .nil) rfl rfl) ?_
                refine Run.go (Ev.pickT rfl hb19 rfl rfl) ?_
                refine Run.go (Ev.assign rfl rfl) ?_
                refine Run.nil ?_
                refine T.ret ?_
                cases h
                exact Fin.one rfl .v
              · replace h := ifF hb19 h
                refine Run.offT rfl rfl rfl rfl hb19 ?_
                refine Run.offT rfl rfl rfl rfl hb19 ?_
                refine Run.offT rfl rfl rfl rfl hb19 ?_
                refine Run.go (Ev.pickF rfl hb19 rfl rfl) ?_
                refine Run.go (Ev.assign rfl rfl) ?_
                refine Run.nil ?_
                refine T.ret ?_
                cases h
                exact Fin.one rfl .v
            · replace h := ifF hb18 h
              refine Run.offT rfl rfl rfl rfl hb18 ?_
              refine Run.offT rfl rfl rfl rfl hb18 ?_
              refine Run.offT rfl rfl rfl rfl hb18 ?_
              refine Run.go (Ev.pickF rfl hb18 rfl rfl) ?_
              refine Run.go (Ev.move rfl rfl) ?_
              refine Run.offT rfl rfl rfl rfl rfl ?_
              refine Run.offT rfl rfl rfl rfl rfl ?_
              refine Run.offT rfl rfl rfl rfl rfl ?_
              refine Run.go (Ev.pickF rfl rfl rfl rfl) ?_
              refine Run.go (Ev.assign rfl rfl) ?_
              refine Run.nil ?_
              refine T.ret ?_
              cases h
              exact Fin.one rfl .v
          · replace h := ifF hb15 h
            refine T.skip ?_
            refine T.seq ?_
            refine T.region ?_
            refine Run.go (Ev.assign rfl rfl) ?_
            refine Run.nil ?_
            refine T.ret ?_
            cases h
            exact Fin.one rfl .v
theorem en17 : Enters Tryz.prog 17 := ⟨_, Tryz.func17, rfl, rfl⟩
end Go.Proofs.YtbmogniipgmkiaaGreat.AE
