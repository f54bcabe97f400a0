/- The code comes to the printed functions (printed by a program of ours). -/
import Derived.Test.YtbmogniipgmkiaaGreatQFN2
/- Functions of the program, as Lean functions (printed by a program of ours). -/
namespace Go.Proofs.YtbmogniipgmkiaaGreat.AP
open Go
set_option linter.unusedVariables false
noncomputable section
def m_triviumref22_short (p0 : ByteArray) : Option (ByteArray) :=
  bd (cs p0 0 (min (p0.size : Int) 20)) fun x1 =>
  some x1
def m_triviumref02_Clean_l1 (p0 : (List Int)) (p1 : Int) : (Int × (List Int)) → Option ((Int × (List Int)) ⊕ ((List Int)))
  | (v2, v3) =>
    bd (
      if decide (v2 < (p0.length : Int)) then (
        some (decide (v2 < p1)))
      else (
        some false)) fun v4 =>
    if v4 then (
      bd (rd p0 v2) fun x7 =>
      bd (rm .u64 x7 4294967296) fun x9 =>
      bd (ap 8 v3 [x9]) fun x11 =>
      some (.inl (wi64 (v2 + 1), x11)))
    else (
      some (.inr v3))
def m_triviumref02_Clean_l2  : (List Int) → Option (((List Int)) ⊕ ((List Int)))
  | v14 =>
    bd (
      if decide (0 < (v14.length : Int)) then (
        bd (rd v14 (wi64 ((v14.length : Int) - 1))) fun x17 =>
        some (decide (x17 = 0)))
      else (
        some false)) fun v15 =>
    if v15 then (
      bd (ct v14 0 (wi64 ((v14.length : Int) - 1))) fun x20 =>
      some (.inl x20))
    else (
      some (.inr v14))
def m_triviumref02_Clean (p0 : (List Int)) (p1 : Int) : Option ((List Int)) :=
  bd (lp (m_triviumref02_Clean_l1 p0 p1) (0, [])) fun v1 =>
  bd (lp (m_triviumref02_Clean_l2) v1) fun v13 =>
  some v13
def m_triviumref07_Clean (p0 : D_api_Int) (p1 : Int) : Option (D_api_Int) :=
  bd (m_triviumref02_Clean p0.2 p1) fun x1 =>
  if p0.1 then (
    some (decide (0 < (x1.length : Int)), x1))
  else (
    some (false, x1))
def m_triviumref02_Trim_l1 (p0 : (List Int)) : Int → Option ((Int) ⊕ (Int))
  | v2 =>
    bd (
      if decide (0 < v2) then (
        bd (rd p0 (wi64 (v2 - 1))) fun x5 =>
        some (decide (x5 = 0)))
      else (
        some false)) fun v3 =>
    if v3 then (
      some (.inl (wi64 (v2 - 1))))
    else (
      some (.inr v2))
def m_triviumref02_Trim (p0 : (List Int)) : Option ((List Int)) :=
  bd (lp (m_triviumref02_Trim_l1 p0) (p0.length : Int)) fun v1 =>
  bd (ct p0 0 v1) fun x8 =>
  bd (ap 8 [] x8) fun x10 =>
  some x10
def m_triviumref02_MulAdd_l1 (p0 : (List Int)) (p1 : Int) : (Int × Int × (List Int)) → Option ((Int × Int × (List Int)) ⊕ (Int × (List Int)))
  | (v3, v4, v5) =>
    if decide (v4 < (p0.length : Int)) then (
      bd (rd p0 v4) fun x7 =>
      bd (rm .i64 (wi64 (v3 + (wi64 (x7 * p1)))) 10000) fun x9 =>
      bd (ap 8 v5 [x9]) fun x11 =>
      bd (qd .i64 (wi64 (v3 + (wi64 (x7 * p1)))) 10000) fun x13 =>
      some (.inl (x13, wi64 (v4 + 1), x11)))
    else (
      some (.inr (v3, v5)))
def m_triviumref02_MulAdd_l2  : (Int × (List Int)) → Option ((Int × (List Int)) ⊕ ((List Int)))
  | (v16, v17) =>
    if decide (0 < v16) then (
      bd (rm .i64 v16 10000) fun x19 =>
      bd (ap 8 v17 [x19]) fun x21 =>
      bd (qd .i64 v16 10000) fun x23 =>
      some (.inl (x23, x21)))
    else (
      some (.inr v17))
def m_triviumref02_MulAdd (p0 : (List Int)) (p1 : Int) (p2 : Int) : Option ((List Int)) :=
  bd (lp (m_triviumref02_MulAdd_l1 p0 p1) (p2, 0, [])) fun (v1, v2) =>
  bd (lp (m_triviumref02_MulAdd_l2) (v1, v2)) fun v15 =>
  bd (m_triviumref02_Trim v15) fun x25 =>
  some x25
def m_triviumref02_Of_l1 (p0 : (List Int)) : ((List Int) × Int) → Option (((List Int) × Int) ⊕ ((List Int)))
  | (v2, v3) =>
    if decide (0 ≤ v3) then (
      bd (rd p0 v3) fun x5 =>
      bd (rm .u64 x5 4294967296) fun x7 =>
      bd (m_triviumref02_MulAdd v2 4294967296 (wi64 x7)) fun x9 =>
      some (.inl (x9, wi64 (v3 - 1))))
    else (
      some (.inr v2))
def m_triviumref02_Of (p0 : (List Int)) : Option ((List Int)) :=
  bd (lp (m_triviumref02_Of_l1 p0) ([], wi64 ((p0.length : Int) - 1))) fun v1 =>
  some v1
def m_triviumref07_made (p0 : Bool) (p1 : (List Int)) : Option (D_triviumref07_Z) :=
  if p0 then (
    some (decide (0 < (p1.length : Int)), p1))
  else (
    some (false, p1))
def m_triviumref07_Of (p0 : D_api_Int) : Option (D_triviumref07_Z) :=
  bd (m_triviumref02_Of p0.2) fun x1 =>
  bd (m_triviumref07_made p0.1 x1) fun x3 =>
  some (x3.1, x3.2)
def m_triviumref02_Cmp_l1 (p0 : (List Int)) (p1 : (List Int)) : Int → Option ((Int) ⊕ (Int))
  | v3 =>
    if decide (0 ≤ v3) then (
      bd (rd p0 v3) fun x5 =>
      bd (rd p1 v3) fun x7 =>
      if decide (x5 < x7) then (
        some (.inr (-1)))
      else (
        bd (rd p0 v3) fun x10 =>
        bd (rd p1 v3) fun x12 =>
        if decide (x12 < x10) then (
          some (.inr 1))
        else (
          some (.inl (wi64 (v3 - 1))))))
    else (
      some (.inr 0))
def m_triviumref02_Cmp (p0 : (List Int)) (p1 : (List Int)) : Option (Int) :=
  if !decide ((p0.length : Int) = (p1.length : Int)) then (
    if decide ((p0.length : Int) < (p1.length : Int)) then (
      some (-1))
    else (
      some 1))
  else (
    lp (m_triviumref02_Cmp_l1 p0 p1) (wi64 ((p0.length : Int) - 1)))
def m_triviumref02_Sub_l1 (p0 : (List Int)) (p1 : (List Int)) : (Int × Int × (List Int)) → Option ((Int × Int × (List Int)) ⊕ ((List Int)))
  | (v2, v3, v4) =>
    if decide (v3 < (p0.length : Int)) then (
      bd (rd p0 v3) fun x6 =>
      bd (
        if decide (v3 < (p1.length : Int)) then (
          bd (rd p1 v3) fun x10 =>
          some (wi64 ((wi64 (x6 - v2)) - x10)))
        else (
          some (wi64 (x6 - v2)))) fun v8 =>
      bd (
        if decide (v8 < 0) then (
          some (1, wi64 (v8 + 10000)))
        else (
          some (0, v8))) fun (v12, v13) =>
      bd (ap 8 v4 [v13]) fun x15 =>
      some (.inl (v12, wi64 (v3 + 1), x15)))
    else (
      some (.inr v4))
def m_triviumref02_Sub (p0 : (List Int)) (p1 : (List Int)) : Option ((List Int)) :=
  bd (lp (m_triviumref02_Sub_l1 p0 p1) (0, 0, [])) fun v1 =>
  bd (m_triviumref02_Trim v1) fun x17 =>
  some x17
def m_triviumref02_Div_l2 (p1 : (List Int)) (x15 : (List Int)) : (Int × Int) → Option ((Int × Int) ⊕ (Int))
  | (v18, v19) =>
    if decide (1 < (wi64 (v19 - v18))) then (
      bd (qd .i64 (wi64 (v18 + v19)) 2) fun x21 =>
      bd (m_triviumref02_MulAdd p1 x21 0) fun x23 =>
      bd (m_triviumref02_Cmp x23 x15) fun x25 =>
      if decide (x25 ≤ 0) then (
        some (.inl (x21, v19)))
      else (
        some (.inl (v18, x21))))
    else (
      some (.inr v18))
def m_triviumref02_Div_l1 (p0 : (List Int)) (p1 : (List Int)) : ((List Int) × Int × (List Int)) → Option (((List Int) × Int × (List Int)) ⊕ ((List Int) × (List Int)))
  | (v5, v6, v7) =>
    if decide (0 ≤ v6) then (
      bd (
        bd (rd p0 v6) fun x11 =>
        bd (ap 8 [x11] v5) fun x13 =>
        bd (m_triviumref02_Trim x13) fun x15 =>
        bd (lp (m_triviumref02_Div_l2 p1 x15) (0, 10000)) fun v17 =>
        bd (ix v7 v6) fun j28 =>
        lt (v7.set j28 v17) fun x30 =>
        bd (m_triviumref02_MulAdd p1 v17 0) fun x32 =>
        bd (m_triviumref02_Sub x15 x32) fun x34 =>
        some (x34, x30)) fun (v9, v10) =>
      some (.inl (v9, wi64 (v6 - 1), v10)))
    else (
      some (.inr (v5, v7)))
def m_triviumref02_Div (p0 : (List Int)) (p1 : (List Int)) : Option ((List Int) × (List Int)) :=
  bd (mk 8 0 (p0.length : Int) (p0.length : Int)) fun x1 =>
  bd (lp (m_triviumref02_Div_l1 p0 p1) ([], wi64 ((p0.length : Int) - 1), x1)) fun (v3, v4) =>
  bd (m_triviumref02_Trim v4) fun x36 =>
  some (x36, v3)
def m_triviumref02_Gcd_l1  : ((List Int) × (List Int)) → Option (((List Int) × (List Int)) ⊕ ((List Int)))
  | (v2, v3) =>
    if decide (0 < (v3.length : Int)) then (
      bd (m_triviumref02_Div v2 v3) fun x5 =>
      some (.inl (v3, x5.2)))
    else (
      some (.inr v2))
def m_triviumref02_Gcd (p0 : (List Int)) (p1 : (List Int)) : Option ((List Int)) :=
  bd (lp (m_triviumref02_Gcd_l1) (p0, p1)) fun v1 =>
  some v1
def m_triviumref08_Low (p0 : D_triviumref07_Z) (p1 : (List Int)) : Option (D_triviumref08_Q) :=
  bd (m_triviumref02_Gcd p0.2 p1) fun x1 =>
  bd (m_triviumref02_Div p0.2 x1) fun x3 =>
  bd (m_triviumref02_Div p1 x1) fun x5 =>
  if p0.1 then (
    some ((decide (0 < (x3.1.length : Int)), x3.1), x5.1))
  else (
    some ((false, x3.1), x5.1))
def m_triviumref02_DivSmall_l1 (p0 : (List Int)) (p1 : Int) : (Int × Int × (List Int)) → Option ((Int × Int × (List Int)) ⊕ (Int × (List Int)))
  | (v5, v6, v7) =>
    if decide (0 ≤ v6) then (
      bd (rd p0 v6) fun x9 =>
      bd (qd .i64 (wi64 ((wi64 (10000 * v5)) + x9)) p1) fun x11 =>
      bd (ix v7 v6) fun j13 =>
      lt (v7.set j13 x11) fun x15 =>
      bd (rm .i64 (wi64 ((wi64 (10000 * v5)) + x9)) p1) fun x17 =>
      some (.inl (x17, wi64 (v6 - 1), x15)))
    else (
      some (.inr (v5, v7)))
def m_triviumref02_DivSmall (p0 : (List Int)) (p1 : Int) : Option ((List Int) × Int) :=
  bd (mk 8 0 (p0.length : Int) (p0.length : Int)) fun x1 =>
  bd (lp (m_triviumref02_DivSmall_l1 p0 p1) (0, wi64 ((p0.length : Int) - 1), x1)) fun (v3, v4) =>
  bd (m_triviumref02_Trim v4) fun x19 =>
  some (x19, v3)
def m_triviumref02_Back_l1  : ((List Int) × (List Int)) → Option (((List Int) × (List Int)) ⊕ ((List Int)))
  | (v2, v3) =>
    if decide (0 < (v2.length : Int)) then (
      bd (m_triviumref02_DivSmall v2 4294967296) fun x5 =>
      bd (ap 8 v3 [wu64 x5.2]) fun x7 =>
      some (.inl (x5.1, x7)))
    else (
      some (.inr v3))
def m_triviumref02_Back (p0 : (List Int)) : Option ((List Int)) :=
  bd (lp (m_triviumref02_Back_l1) (p0, [])) fun v1 =>
  some v1
def m_triviumref07_Back (p0 : D_triviumref07_Z) : Option (D_api_Int) :=
  bd (m_triviumref02_Back p0.2) fun x1 =>
  some (p0.1, x1)
def m_triviumref08_Back (p0 : D_triviumref08_Q) : Option (D_api_Rat) :=
  bd (m_triviumref07_Back (p0.1.1, p0.1.2)) fun x1 =>
  bd (m_triviumref02_Back p0.2) fun x3 =>
  some ((x1.1, x1.2), x3)
def m_triviumref08_Clean (p0 : D_api_Rat) (p1 : Int) : Option (D_api_Rat) :=
  bd (m_triviumref02_Clean p0.2 p1) fun x1 =>
  bd (
    if decide ((x1.length : Int) = 0) then (
      some [1])
    else (
      some x1)) fun v3 =>
  bd (m_triviumref07_Clean (p0.1.1, p0.1.2) p1) fun x5 =>
  bd (m_triviumref07_Of x5) fun x7 =>
  bd (m_triviumref02_Of v3) fun x9 =>
  bd (m_triviumref08_Low x7 x9) fun x11 =>
  bd (m_triviumref08_Back x11) fun x13 =>
  some ((x13.1.1, x13.1.2), x13.2)
def m_triviumref22_CleanRule_l2 (p0 : D_api_Rule) (v4 : Int) : (Int × (List D_api_Hop)) → Option ((Int × (List D_api_Hop)) ⊕ ((List D_api_Hop)))
  | (v11, v12) =>
    bd (
      bd (rd p0.2.2.2 v4) fun x14 =>
      if decide (v11 < (x14.length : Int)) then (
        some (decide (v11 < 5)))
      else (
        some false)) fun v13 =>
    if v13 then (
      bd (rd p0.2.2.2 v4) fun x18 =>
      bd (rd x18 v11) fun x20 =>
      bd (
        bd (
          if decide (x20.2 < (-1000000)) then (
            some true)
          else (
            some (decide (2147483648 < x20.2)))) fun v23 =>
        if v23 then (
          some 2)
        else (
          some x20.2)) fun v22 =>
      bd (rd p0.2.2.2 v4) fun x26 =>
      bd (rd x26 v11) fun x28 =>
      bd (m_triviumref22_short x28.1) fun x30 =>
      bd (ap 24 v12 [(x30, v22)]) fun x32 =>
      some (.inl (wi64 (v11 + 1), x32)))
    else (
      some (.inr v12))
def m_triviumref22_CleanRule_l1 (p0 : D_api_Rule) : (Int × (List (List D_api_Hop))) → Option ((Int × (List (List D_api_Hop))) ⊕ ((List (List D_api_Hop))))
  | (v4, v5) =>
    bd (
      if decide (v4 < (p0.2.2.2.length : Int)) then (
        some (decide (v4 < 4)))
      else (
        some false)) fun v6 =>
    if v6 then (
      bd (
        bd (lp (m_triviumref22_CleanRule_l2 p0 v4) (0, [])) fun v10 =>
        bd (ap 24 v5 [v10]) fun x34 =>
        some x34) fun v9 =>
      some (.inl (wi64 (v4 + 1), v9)))
    else (
      some (.inr v5))
def m_triviumref22_CleanRule (p0 : D_api_Rule) : Option (D_api_Rule) :=
  bd (m_triviumref22_short p0.1) fun x1 =>
  bd (lp (m_triviumref22_CleanRule_l1 p0) (0, [])) fun v3 =>
  some (x1, (p0.2.1.1, p0.2.1.2), p0.2.2.1, v3)
def m_triviumref22_Clean_l2 (x8 : D_api_Net) : (Int × (List D_api_Node)) → Option ((Int × (List D_api_Node)) ⊕ ((List D_api_Node)))
  | (v13, v14) =>
    bd (
      if decide (v13 < (x8.2.1.length : Int)) then (
        some (decide (v13 < 5)))
      else (
        some false)) fun v15 =>
    if v15 then (
      bd (rd x8.2.1 v13) fun x18 =>
      bd (m_triviumref22_short x18.1) fun x20 =>
      bd (rd x8.2.1 v13) fun x22 =>
      bd (rd x8.2.1 v13) fun x24 =>
      bd (ct x22.2 0 (min (x24.2.length : Int) 3)) fun x26 =>
      bd (ap 16 [] x26) fun x28 =>
      bd (ap 40 v14 [(x20, x28)]) fun x30 =>
      some (.inl (wi64 (v13 + 1), x30)))
    else (
      some (.inr v14))
def m_triviumref22_Clean_l3 (x8 : D_api_Net) : (Int × (List D_api_Link)) → Option ((Int × (List D_api_Link)) ⊕ ((List D_api_Link)))
  | (v33, v34) =>
    bd (
      if decide (v33 < (x8.2.2.1.length : Int)) then (
        some (decide (v33 < 8)))
      else (
        some false)) fun v35 =>
    if v35 then (
      bd (rd x8.2.2.1 v33) fun x38 =>
      bd (m_triviumref22_short x38.1) fun x40 =>
      bd (m_triviumref22_short x38.2.1) fun x42 =>
      bd (m_triviumref22_short x38.2.2.1) fun x44 =>
      bd (m_triviumref08_Clean ((x38.2.2.2.1.1, x38.2.2.2.1.2), x38.2.2.2.2) 1) fun x46 =>
      bd (ap 104 v34 [(x40, x42, x44, ((x46.1.1, x46.1.2), x46.2))]) fun x48 =>
      some (.inl (wi64 (v33 + 1), x48)))
    else (
      some (.inr v34))
def m_triviumref22_Clean_l4 (x8 : D_api_Net) : (Int × (List D_api_Rule)) → Option ((Int × (List D_api_Rule)) ⊕ ((List D_api_Rule)))
  | (v51, v52) =>
    bd (
      if decide (v51 < (x8.2.2.2.length : Int)) then (
        some (decide (v51 < 8)))
      else (
        some false)) fun v53 =>
    if v53 then (
      bd (rd x8.2.2.2 v51) fun x56 =>
      bd (m_triviumref22_CleanRule x56) fun x58 =>
      bd (ap 64 v52 [x58]) fun x60 =>
      some (.inl (wi64 (v51 + 1), x60)))
    else (
      some (.inr v52))
def m_triviumref22_Clean_l1 (p0 : (List D_api_Net)) : (Int × (List D_api_Net)) → Option ((Int × (List D_api_Net)) ⊕ ((List D_api_Net)))
  | (v2, v3) =>
    bd (
      if decide (v2 < (p0.length : Int)) then (
        some (decide (v2 < 3)))
      else (
        some false)) fun v4 =>
    if v4 then (
      bd (
        bd (rd p0 v2) fun x8 =>
        bd (m_triviumref22_short x8.1) fun x10 =>
        bd (lp (m_triviumref22_Clean_l2 x8) (0, [])) fun v12 =>
        bd (lp (m_triviumref22_Clean_l3 x8) (0, [])) fun v32 =>
        bd (lp (m_triviumref22_Clean_l4 x8) (0, [])) fun v50 =>
        bd (ap 88 v3 [(x10, v12, v32, v50)]) fun x62 =>
        some x62) fun v7 =>
      some (.inl (wi64 (v2 + 1), v7)))
    else (
      some (.inr v3))
def m_triviumref22_Clean (p0 : (List D_api_Net)) : Option ((List D_api_Net)) :=
  bd (lp (m_triviumref22_Clean_l1 p0) (0, [])) fun v1 =>
  some v1
def m_formed_Find_1 (p0 : D_api_Net) (p1 : ByteArray) : Option (Bool) :=
  some (sq p0.1 p1)
def m_slices_IndexFunc_api_Net_api_Net__formed_Find_1_l1 (p0 : (List D_api_Net)) (p1_0 : ByteArray) : Int → Option ((Int) ⊕ (Int))
  | v1 =>
    if decide (v1 < (p0.length : Int)) then (
      bd (rd p0 v1) fun x3 =>
      bd (m_formed_Find_1 x3 p1_0) fun x5 =>
      if x5 then (
        some (.inr v1))
      else (
        some (.inl (wi64 (v1 + 1)))))
    else (
      some (.inr (-1)))
def m_slices_IndexFunc_api_Net_api_Net__formed_Find_1 (p0 : (List D_api_Net)) (p1_0 : ByteArray) : Option (Int) :=
  lp (m_slices_IndexFunc_api_Net_api_Net__formed_Find_1_l1 p0 p1_0) 0
def m_formed_Find (p0 : (List D_api_Net)) (p1 : ByteArray) : Option (D_api_Net × Bool) :=
  bd (m_slices_IndexFunc_api_Net_api_Net__formed_Find_1 p0 p1) fun x1 =>
  if decide (x1 < 0) then (
    some (((bs []), [], [], []), false))
  else (
    bd (rd p0 x1) fun x4 =>
    some ((x4.1, x4.2.1, x4.2.2.1, x4.2.2.2), true))
def m_triviumref23_Find_l1 (p0 : (List D_api_Net)) (p1 : ByteArray) : Int → Option ((Int) ⊕ (Int))
  | v1 =>
    if decide (v1 < (p0.length : Int)) then (
      bd (rd p0 v1) fun x3 =>
      if sq x3.1 p1 then (
        some (.inr v1))
      else (
        some (.inl (wi64 (v1 + 1)))))
    else (
      some (.inr (-1)))
def m_triviumref23_Find (p0 : (List D_api_Net)) (p1 : ByteArray) : Option (Int) :=
  lp (m_triviumref23_Find_l1 p0 p1) 0
def m_formed_Node_1 (p0 : D_api_Node) (p1 : ByteArray) : Option (Bool) :=
  some (sq p0.1 p1)
def m_slices_IndexFunc_api_Node_api_Node__formed_Node_1_l1 (p0 : (List D_api_Node)) (p1_0 : ByteArray) : Int → Option ((Int) ⊕ (Int))
  | v1 =>
    if decide (v1 < (p0.length : Int)) then (
      bd (rd p0 v1) fun x3 =>
      bd (m_formed_Node_1 x3 p1_0) fun x5 =>
      if x5 then (
        some (.inr v1))
      else (
        some (.inl (wi64 (v1 + 1)))))
    else (
      some (.inr (-1)))
def m_slices_IndexFunc_api_Node_api_Node__formed_Node_1 (p0 : (List D_api_Node)) (p1_0 : ByteArray) : Option (Int) :=
  lp (m_slices_IndexFunc_api_Node_api_Node__formed_Node_1_l1 p0 p1_0) 0
def m_formed_Node (p0 : D_api_Net) (p1 : ByteArray) : Option (Int × Bool) :=
  bd (m_slices_IndexFunc_api_Node_api_Node__formed_Node_1 p0.2.1 p1) fun x1 =>
  some (max x1 0, decide (0 ≤ x1))
def m_formed_Link_1 (p0 : D_api_Link) (p1 : ByteArray) : Option (Bool) :=
  some (sq p0.1 p1)
def m_slices_IndexFunc_api_Link_api_Link__formed_Link_1_l1 (p0 : (List D_api_Link)) (p1_0 : ByteArray) : Int → Option ((Int) ⊕ (Int))
  | v1 =>
    if decide (v1 < (p0.length : Int)) then (
      bd (rd p0 v1) fun x3 =>
      bd (m_formed_Link_1 x3 p1_0) fun x5 =>
      if x5 then (
        some (.inr v1))
      else (
        some (.inl (wi64 (v1 + 1)))))
    else (
      some (.inr (-1)))
def m_slices_IndexFunc_api_Link_api_Link__formed_Link_1 (p0 : (List D_api_Link)) (p1_0 : ByteArray) : Option (Int) :=
  lp (m_slices_IndexFunc_api_Link_api_Link__formed_Link_1_l1 p0 p1_0) 0
def m_formed_Link (p0 : D_api_Net) (p1 : ByteArray) : Option (Int × Bool) :=
  bd (m_slices_IndexFunc_api_Link_api_Link__formed_Link_1 p0.2.2.1 p1) fun x1 =>
  some (max x1 0, decide (0 ≤ x1))
def m_triviumref23_Node_l1 (p0 : D_api_Net) (p1 : ByteArray) : Int → Option ((Int) ⊕ (Int))
  | v1 =>
    if decide (v1 < (p0.2.1.length : Int)) then (
      bd (rd p0.2.1 v1) fun x3 =>
      if sq x3.1 p1 then (
        some (.inr v1))
      else (
        some (.inl (wi64 (v1 + 1)))))
    else (
      some (.inr (-1)))
def m_triviumref23_Node (p0 : D_api_Net) (p1 : ByteArray) : Option (Int) :=
  lp (m_triviumref23_Node_l1 p0 p1) 0
def m_triviumref23_Link_l1 (p0 : D_api_Net) (p1 : ByteArray) : Int → Option ((Int) ⊕ (Int))
  | v1 =>
    if decide (v1 < (p0.2.2.1.length : Int)) then (
      bd (rd p0.2.2.1 v1) fun x3 =>
      if sq x3.1 p1 then (
        some (.inr v1))
      else (
        some (.inl (wi64 (v1 + 1)))))
    else (
      some (.inr (-1)))
def m_triviumref23_Link (p0 : D_api_Net) (p1 : ByteArray) : Option (Int) :=
  lp (m_triviumref23_Link_l1 p0 p1) 0
def m_name_letter (p0 : Int) : Option (Bool) :=
  if decide (97 ≤ p0) then (
    some (decide (p0 ≤ 122)))
  else (
    some false)
def m_name_other (p0 : Int) : Option (Bool) :=
  if decide (48 ≤ p0) then (
    if decide (p0 ≤ 57) then (
      some true)
    else (
      if decide (p0 = 45) then (
        some true)
      else (
        some (decide (p0 = 95)))))
  else (
    if decide (p0 = 45) then (
      some true)
    else (
      some (decide (p0 = 95))))
def m_name_Word_l1 (p0 : ByteArray) : Nat → Option ((Nat) ⊕ (Bool))
  | v1 =>
    if decide (v1 < p0.size) then (
      bd (
        bd (m_name_letter (dc1 p0 v1)) fun x5 =>
        if !x5 then (
          if decide ((v1 : Int) = 0) then (
            some (true, dcn p0 v1))
          else (
            bd (m_name_other (dc1 p0 v1)) fun x9 =>
            some (!x9, dcn p0 v1)))
        else (
          some (false, dcn p0 v1))) fun (v3, v4) =>
      if v3 then (
        some (.inr false))
      else (
        some (.inl v4)))
    else (
      some (.inr (!sq p0 (bs []))))
def m_name_Word (p0 : ByteArray) : Option (Bool) :=
  lp (m_name_Word_l1 p0) 0
def m_name_Keywords  : Option ((List ByteArray)) :=
  some [(bs [110, 101, 116, 119, 111, 114, 107]), (bs [110, 111, 100, 101]), (bs [104, 111, 109, 101]), (bs [108, 105, 110, 107]), (bs [102, 97, 105, 108]), (bs [114, 117, 108, 101]), (bs [100, 114, 111, 112]), (bs [118, 105, 97]), (bs [101, 108, 115, 101]), (bs [112, 114, 111, 98]), (bs [104, 111, 112, 115]), (bs [119, 105, 116, 104, 105, 110]), (bs [99, 111, 109, 112, 97, 114, 101])]
def m_slices_Index_string_string_l1 (p0 : (List ByteArray)) (p1 : ByteArray) : Int → Option ((Int) ⊕ (Int))
  | v1 =>
    if decide (v1 < (p0.length : Int)) then (
      bd (rd p0 v1) fun x3 =>
      if sq p1 x3 then (
        some (.inr v1))
      else (
        some (.inl (wi64 (v1 + 1)))))
    else (
      some (.inr (-1)))
def m_slices_Index_string_string (p0 : (List ByteArray)) (p1 : ByteArray) : Option (Int) :=
  lp (m_slices_Index_string_string_l1 p0 p1) 0
def m_slices_Contains_string_string (p0 : (List ByteArray)) (p1 : ByteArray) : Option (Bool) :=
  bd (m_slices_Index_string_string p0 p1) fun x1 =>
  some (decide (0 ≤ x1))
def m_name_Keyword (p0 : ByteArray) : Option (Bool) :=
  bd (m_name_Keywords) fun x1 =>
  bd (m_slices_Contains_string_string x1 p0) fun x3 =>
  some x3
def m_name_Name (p0 : ByteArray) : Option (Bool) :=
  bd (m_name_Word p0) fun x1 =>
  if x1 then (
    bd (m_name_Keyword p0) fun x4 =>
    some (!x4))
  else (
    some false)
def m_name_Twice_l1 (p0 : (List ByteArray)) : (Int × (List (ByteArray × Bool))) → Option ((Int × (List (ByteArray × Bool))) ⊕ (ByteArray × Bool))
  | (v1, v2) =>
    if decide (v1 < (p0.length : Int)) then (
      bd (rd p0 v1) fun x4 =>
      if (mget sq false v2 x4).1 then (
        some (.inr (x4, true)))
      else (
        lt (mput sq v2 x4 true) fun x7 =>
        some (.inl (wi64 (v1 + 1), x7))))
    else (
      some (.inr ((bs []), false)))
def m_name_Twice (p0 : (List ByteArray)) : Option (ByteArray × Bool) :=
  lp (m_name_Twice_l1 p0) (0, [])
def m_formed_named_l1 (p0 : (List ByteArray)) : Int → Option ((Int) ⊕ (Bool))
  | v1 =>
    if decide (v1 < (p0.length : Int)) then (
      bd (rd p0 v1) fun x3 =>
      bd (m_name_Name x3) fun x5 =>
      if !x5 then (
        some (.inr false))
      else (
        some (.inl (wi64 (v1 + 1)))))
    else (
      bd (m_name_Twice p0) fun x8 =>
      some (.inr (!x8.2)))
def m_formed_named (p0 : (List ByteArray)) : Option (Bool) :=
  lp (m_formed_named_l1 p0) 0
def m_formed_nodesRight_l1 (p0 : D_api_Net) : (Int × (List ByteArray)) → Option ((Int × (List ByteArray)) ⊕ ((List ByteArray)))
  | (v2, v3) =>
    if decide (v2 < (p0.2.1.length : Int)) then (
      bd (rd p0.2.1 v2) fun x5 =>
      bd (ap 16 v3 [x5.1]) fun x7 =>
      some (.inl (wi64 (v2 + 1), x7)))
    else (
      some (.inr v3))
def m_formed_nodesRight (p0 : D_api_Net) : Option (Bool) :=
  bd (lp (m_formed_nodesRight_l1 p0) (0, [])) fun v1 =>
  bd (m_formed_named v1) fun x9 =>
  some x9
def m_addr_Mask (p0 : Int) : Option (Int) :=
  bd (sh .u64 4294967295 (wi64 (32 - (min (max p0 0) 32)))) fun x1 =>
  some (wu32 x1)
def m_addr_May (p0 : D_api_Prefix) : Option (Bool) :=
  if decide (0 ≤ p0.2) then (
    if decide (p0.2 ≤ 32) then (
      bd (m_addr_Mask p0.2) fun x3 =>
      lt (decide ((Go.bits .andNot .u32 p0.1 x3) = 0)) fun x5 =>
      some x5)
    else (
      some false))
  else (
    some false)
def m_formed_homesRight_l2 (v1 : Int) (x3 : D_api_Node) : (Int × (List (D_api_Prefix × Bool))) → Option ((Int × (List (D_api_Prefix × Bool))) ⊕ ((Int) ⊕ (Bool)))
  | (v5, v6) =>
    if decide (v5 < (x3.2.length : Int)) then (
      bd (rd x3.2 v5) fun x8 =>
      bd (
        bd (m_addr_May (x8.1, x8.2)) fun x11 =>
        if !x11 then (
          some true)
        else (
          some ((mget E_api_Prefix false v6 (x8.1, x8.2)).1))) fun v10 =>
      if v10 then (
        some (.inr (.inr false)))
      else (
        lt (mput E_api_Prefix v6 (x8.1, x8.2) true) fun x15 =>
        some (.inl (wi64 (v5 + 1), x15))))
    else (
      some (.inr (.inl (wi64 (v1 + 1)))))
def m_formed_homesRight_l1 (p0 : D_api_Net) : Int → Option ((Int) ⊕ (Bool))
  | v1 =>
    if decide (v1 < (p0.2.1.length : Int)) then (
      bd (rd p0.2.1 v1) fun x3 =>
      lp (m_formed_homesRight_l2 v1 x3) (0, []))
    else (
      some (.inr true))
def m_formed_homesRight (p0 : D_api_Net) : Option (Bool) :=
  lp (m_formed_homesRight_l1 p0) 0
def m_formed_linksRight_l1 (p0 : D_api_Net) : (Int × (List ByteArray)) → Option ((Int × (List ByteArray)) ⊕ ((List ByteArray)))
  | (v2, v3) =>
    if decide (v2 < (p0.2.2.1.length : Int)) then (
      bd (rd p0.2.2.1 v2) fun x5 =>
      bd (ap 16 v3 [x5.1]) fun x7 =>
      some (.inl (wi64 (v2 + 1), x7)))
    else (
      some (.inr v3))
def m_formed_linksRight (p0 : D_api_Net) : Option (Bool) :=
  bd (lp (m_formed_linksRight_l1 p0) (0, [])) fun v1 =>
  bd (m_formed_named v1) fun x9 =>
  some x9
def m_formed_endsRight_1 (p0 : D_api_Link) (p1 : D_api_Net) : Option (Bool) :=
  bd (m_formed_Node p1 p0.2.1) fun x1 =>
  bd (m_formed_Node p1 p0.2.2.1) fun x3 =>
  if !x1.2 then (
    some true)
  else (
    some (!x3.2))
def m_slices_IndexFunc_api_Link_api_Link__formed_endsRight_1_l1 (p0 : (List D_api_Link)) (p1_0 : D_api_Net) : Int → Option ((Int) ⊕ (Int))
  | v1 =>
    if decide (v1 < (p0.length : Int)) then (
      bd (rd p0 v1) fun x3 =>
      bd (m_formed_endsRight_1 x3 p1_0) fun x5 =>
      if x5 then (
        some (.inr v1))
      else (
        some (.inl (wi64 (v1 + 1)))))
    else (
      some (.inr (-1)))
def m_slices_IndexFunc_api_Link_api_Link__formed_endsRight_1 (p0 : (List D_api_Link)) (p1_0 : D_api_Net) : Option (Int) :=
  lp (m_slices_IndexFunc_api_Link_api_Link__formed_endsRight_1_l1 p0 p1_0) 0
def m_slices_ContainsFunc_api_Link_api_Link__formed_endsRight_1 (p0 : (List D_api_Link)) (p1_0 : D_api_Net) : Option (Bool) :=
  bd (m_slices_IndexFunc_api_Link_api_Link__formed_endsRight_1 p0 p1_0) fun x1 =>
  some (decide (0 ≤ x1))
def m_formed_endsRight (p0 : D_api_Net) : Option (Bool) :=
  bd (m_slices_ContainsFunc_api_Link_api_Link__formed_endsRight_1 p0.2.2.1 (p0.1, p0.2.1, p0.2.2.1, p0.2.2.2)) fun x1 =>
  some (!x1)
def m_nat_May_l1 (p0 : (List Int)) : Int → Option ((Int) ⊕ (Bool))
  | v1 =>
    if decide (v1 < (p0.length : Int)) then (
      bd (rd p0 v1) fun x3 =>
      if decide (4294967296 ≤ x3) then (
        some (.inr false))
      else (
        some (.inl (wi64 (v1 + 1)))))
    else (
      if decide ((p0.length : Int) = 0) then (
        some (.inr true))
      else (
        bd (rd p0 (wi64 ((p0.length : Int) - 1))) fun x7 =>
        some (.inr (!decide (x7 = 0)))))
def m_nat_May (p0 : (List Int)) : Option (Bool) :=
  lp (m_nat_May_l1 p0) 0
def m_nat_trim_l1 (p0 : (List Int)) : Int → Option ((Int) ⊕ (Int))
  | v2 =>
    bd (
      if decide (0 < v2) then (
        bd (rd p0 (wi64 (v2 - 1))) fun x5 =>
        some (decide (x5 = 0)))
      else (
        some false)) fun v3 =>
    if v3 then (
      some (.inl (wi64 (v2 - 1))))
    else (
      some (.inr v2))
def m_nat_trim (p0 : (List Int)) : Option ((List Int)) :=
  bd (lp (m_nat_trim_l1 p0) (p0.length : Int)) fun v1 =>
  bd (ct p0 0 v1) fun x8 =>
  some x8
def m_nat_Make_l1 (p0 : (List Int)) : (Int × (List Int)) → Option ((Int × (List Int)) ⊕ ((List Int) × Int))
  | (v3, v4) =>
    if decide (v3 < (p0.length : Int)) then (
      bd (rd p0 v3) fun x6 =>
      if decide (4294967296 ≤ x6) then (
        some (.inr ([], 2)))
      else (
        bd (ap 8 v4 [x6]) fun x9 =>
        some (.inl (wi64 (v3 + 1), x9))))
    else (
      bd (m_nat_trim v4) fun x11 =>
      some (.inr (x11, 0)))
def m_nat_Make (p0 : (List Int)) : Option ((List Int) × Int) :=
  bd (mk 8 0 0 (p0.length : Int)) fun x1 =>
  lp (m_nat_Make_l1 p0) (0, x1)
def m_nat_Cmp_l1 (p0 : (List Int)) (p1 : (List Int)) : Int → Option ((Int) ⊕ (Int))
  | v7 =>
    if decide (0 ≤ v7) then (
      bd (rd p0 v7) fun x9 =>
      bd (rd p1 v7) fun x11 =>
      if decide (x9 < x11) then (
        some (.inr (-1)))
      else (
        bd (rd p0 v7) fun x14 =>
        bd (rd p1 v7) fun x16 =>
        if decide (x16 < x14) then (
          some (.inr 1))
        else (
          some (.inl (wi64 (v7 - 1))))))
    else (
      some (.inr 0))
def m_nat_Cmp (p0 : (List Int)) (p1 : (List Int)) : Option (Int) :=
  lt (decide ((p0.length : Int) < (p1.length : Int))) fun x1 =>
  if x1 then (
    some (-1))
  else (
    lt (decide ((p1.length : Int) < (p0.length : Int))) fun x4 =>
    if x4 then (
      some 1)
    else (
      lp (m_nat_Cmp_l1 p0 p1) (wi64 ((p0.length : Int) - 1))))
def m_limb_Div (p0 : Int) (p1 : Int) (p2 : Int) : Option (Int × Int × Int) :=
  lt (decide ((Go.bits .and .u64 p2 4294967295) = 0)) fun x1 =>
  if x1 then (
    some (0, 0, 3))
  else (
    lt (decide ((Go.bits .and .u64 p2 4294967295) ≤ (Go.bits .and .u64 p0 4294967295))) fun x4 =>
    if x4 then (
      some (0, 0, 2))
    else (
      bd (sh .u64 (Go.bits .and .u64 p0 4294967295) 32) fun x7 =>
      lt (Go.bits .or .u64 x7 (Go.bits .and .u64 p1 4294967295)) fun x9 =>
      bd (qd .u64 x9 (Go.bits .and .u64 p2 4294967295)) fun x11 =>
      bd (rm .u64 x9 (Go.bits .and .u64 p2 4294967295)) fun x13 =>
      some (x11, x13, 0)))
def m_divide_Small_l1 (p0 : (List Int)) (p1 : Int) : (Int × Int × (List Int)) → Option ((Int × Int × (List Int)) ⊕ (Int × (List Int)))
  | (v8, v9, v10) =>
    if decide (v9 < (p0.length : Int)) then (
      lt (wi64 ((wi64 ((p0.length : Int) - 1)) - v9)) fun x12 =>
      bd (rd p0 x12) fun x14 =>
      bd (m_limb_Div v8 x14 p1) fun x16 =>
      bd (ix v10 x12) fun j18 =>
      lt (v10.set j18 x16.1) fun x20 =>
      some (.inl (x16.2.1, wi64 (v9 + 1), x20)))
    else (
      some (.inr (v8, v10)))
def m_divide_Small (p0 : (List Int)) (p1 : Int) : Option ((List Int) × Int × Int) :=
  bd (rm .u64 p1 4294967296) fun x1 =>
  if decide (x1 = 0) then (
    some ([], 0, 3))
  else (
    bd (mk 8 0 (p0.length : Int) (p0.length : Int)) fun x4 =>
    bd (lp (m_divide_Small_l1 p0 p1) (0, 0, x4)) fun (v6, v7) =>
    bd (m_nat_Make v7) fun x22 =>
    some (x22.1, v6, 0))
def m_nat_Of (p0 : Int) : Option ((List Int)) :=
  bd (rm .u64 p0 4294967296) fun x1 =>
  bd (sr .u64 p0 32) fun x3 =>
  bd (m_nat_trim [x1, x3]) fun x5 =>
  some x5
def m_limb_Bits_l1 (p0 : Int) : (Int × Int) → Option ((Int × Int) ⊕ (Int))
  | (v2, v3) =>
    if decide (v3 < 32) then (
      bd (
        bd (sr .u64 p0 v3) fun x6 =>
        if decide ((Go.bits .and .u64 x6 1) = 1) then (
          some (wi64 (v3 + 1)))
        else (
          some v2)) fun v5 =>
      some (.inl (v5, wi64 (v3 + 1))))
    else (
      some (.inr v2))
def m_limb_Bits (p0 : Int) : Option (Int) :=
  bd (lp (m_limb_Bits_l1 p0) (0, 0)) fun v1 =>
  some v1
def m_nat_shift (p0 : Int) : Option (Int) :=
  bd (
    if decide (p0 < 0) then (
      some true)
    else (
      some (decide (100000 < p0)))) fun v1 =>
  if v1 then (
    some 2)
  else (
    some 0)
def m_nat_Shl_l1 (p0 : (List Int)) (p1 : Int) : (Int × (List Int)) → Option ((Int × (List Int)) ⊕ ((List Int)))
  | (v11, v12) =>
    if decide (v11 < (p0.length : Int)) then (
      bd (rd p0 v11) fun x14 =>
      bd (qd .i64 p1 32) fun x16 =>
      bd (rm .i64 p1 32) fun x18 =>
      bd (sh .u64 x14 x18) fun x20 =>
      bd (rd v12 (wi64 (v11 + x16))) fun x22 =>
      bd (rm .u64 x20 4294967296) fun x24 =>
      bd (ix v12 (wi64 (v11 + x16))) fun j26 =>
      lt (v12.set j26 (Go.bits .or .u64 x22 x24)) fun x28 =>
      bd (sr .u64 x20 32) fun x30 =>
      bd (ix x28 (wi64 ((wi64 (v11 + x16)) + 1))) fun j32 =>
      lt (x28.set j32 x30) fun x34 =>
      some (.inl (wi64 (v11 + 1), x34)))
    else (
      some (.inr v12))
def m_nat_Shl (p0 : (List Int)) (p1 : Int) : Option ((List Int) × Int) :=
  bd (m_nat_shift p1) fun x1 =>
  bd (
    if !decide (x1 = 0) then (
      some true)
    else (
      some (decide ((p0.length : Int) = 0)))) fun v3 =>
  if v3 then (
    some ([], x1))
  else (
    bd (qd .i64 p1 32) fun x6 =>
    bd (mk 8 0 (wi64 ((wi64 ((p0.length : Int) + x6)) + 1)) (wi64 ((wi64 ((p0.length : Int) + x6)) + 1))) fun x8 =>
    bd (lp (m_nat_Shl_l1 p0 p1) (0, x8)) fun v10 =>
    bd (m_nat_trim v10) fun x36 =>
    some (x36, 0))
/- not shown: copy -/
def m_divide_knuth (p0 : (List Int)) (p1 : (List Int)) : Option ((List Int) × (List Int)) := none
def m_divide_Div (p0 : (List Int)) (p1 : (List Int)) : Option ((List Int) × (List Int) × Int) :=
  if decide ((p1.length : Int) = 0) then (
    some ([], [], 3))
  else (
    bd (
      bd (m_nat_May p0) fun x3 =>
      if !x3 then (
        some true)
      else (
        bd (m_nat_May p1) fun x6 =>
        some (!x6))) fun v2 =>
    if v2 then (
      some ([], [], 2))
    else (
      bd (m_nat_Cmp p0 p1) fun x9 =>
      if decide (x9 < 0) then (
        bd (m_nat_Make p0) fun x12 =>
        some ([], x12.1, x12.2))
      else (
        if decide ((p1.length : Int) = 1) then (
          bd (rd p1 0) fun x15 =>
          bd (m_divide_Small p0 x15) fun x17 =>
          bd (m_nat_Of x17.2.1) fun x19 =>
          some (x17.1, x19, x17.2.2))
        else (
          bd (m_divide_knuth p0 p1) fun x21 =>
          some (x21.1, x21.2, 0)))))
def m_divide_Mod (p0 : (List Int)) (p1 : (List Int)) : Option ((List Int) × Int) :=
  bd (m_divide_Div p0 p1) fun x1 =>
  some (x1.2.1, x1.2.2)
def m_gcd_Euclid_l1  : ((List Int) × (List Int)) → Option (((List Int) × (List Int)) ⊕ ((List Int)))
  | (v6, v7) =>
    if decide (0 < (v7.length : Int)) then (
      bd (m_divide_Mod v6 v7) fun x9 =>
      some (.inl (v7, x9.1)))
    else (
      some (.inr v6))
def m_gcd_Euclid (p0 : (List Int)) (p1 : (List Int)) : Option ((List Int)) :=
  bd (m_nat_Make p0) fun x1 =>
  bd (m_nat_Make p1) fun x3 =>
  bd (lp (m_gcd_Euclid_l1) (x1.1, x3.1)) fun v5 =>
  some v5
def m_gcd_Coprime (p0 : (List Int)) (p1 : (List Int)) : Option (Bool) :=
  bd (m_gcd_Euclid p0 p1) fun x1 =>
  bd (m_nat_Of 1) fun x3 =>
  bd (m_nat_Cmp x1 x3) fun x5 =>
  some (decide (x5 = 0))
def m_rat_May (p0 : D_api_Rat) : Option (Bool) :=
  bd (
    bd (m_nat_May p0.1.2) fun x2 =>
    if !x2 then (
      some true)
    else (
      bd (m_nat_May p0.2) fun x5 =>
      if !x5 then (
        some true)
      else (
        some (decide ((p0.2.length : Int) = 0))))) fun v1 =>
  if v1 then (
    some false)
  else (
    bd (
      if p0.1.1 then (
        some (decide ((p0.1.2.length : Int) = 0)))
      else (
        some false)) fun v9 =>
    if v9 then (
      some false)
    else (
      bd (m_gcd_Coprime p0.1.2 p0.2) fun x12 =>
      some x12))
def m_whole_Sign (p0 : D_api_Int) : Option (Int) :=
  if decide ((p0.2.length : Int) = 0) then (
    some 0)
  else (
    if p0.1 then (
      some (-1))
    else (
      some 1))
def m_rat_Sign (p0 : D_api_Rat) : Option (Int) :=
  bd (m_whole_Sign (p0.1.1, p0.1.2)) fun x1 =>
  some x1
def m_nat_at (p0 : (List Int)) (p1 : Int) : Option (Int) :=
  if decide ((p0.length : Int) ≤ p1) then (
    some 0)
  else (
    bd (rd p0 p1) fun x2 =>
    some x2)
def m_limb_Add (p0 : Int) (p1 : Int) (p2 : Int) : Option (Int × Int) :=
  lt (wu64 ((wu64 ((Go.bits .and .u64 p0 4294967295) + (Go.bits .and .u64 p1 4294967295))) + (Go.bits .and .u64 p2 4294967295))) fun x1 =>
  bd (sr .u64 x1 32) fun x3 =>
  some (Go.bits .and .u64 x1 4294967295, x3)
def m_nat_Add_l1 (p0 : (List Int)) (p1 : (List Int)) (x1 : Int) : (Int × Int × (List Int)) → Option ((Int × Int × (List Int)) ⊕ (Int × (List Int)))
  | (v7, v8, v9) =>
    if decide (v8 < x1) then (
      bd (m_nat_at p0 v8) fun x11 =>
      bd (m_nat_at p1 v8) fun x13 =>
      bd (m_limb_Add x11 x13 v7) fun x15 =>
      bd (ix v9 v8) fun j17 =>
      lt (v9.set j17 x15.1) fun x19 =>
      some (.inl (x15.2, wi64 (v8 + 1), x19)))
    else (
      some (.inr (v7, v9)))
def m_nat_Add (p0 : (List Int)) (p1 : (List Int)) : Option ((List Int)) :=
  lt (max (p0.length : Int) (p1.length : Int)) fun x1 =>
  bd (mk 8 0 (wi64 (x1 + 1)) (wi64 (x1 + 1))) fun x3 =>
  bd (lp (m_nat_Add_l1 p0 p1 x1) (0, 0, x3)) fun (v5, v6) =>
  bd (ix v6 x1) fun j21 =>
  lt (v6.set j21 v5) fun x23 =>
  bd (m_nat_trim x23) fun x25 =>
  some x25
def m_whole_Made (p0 : Bool) (p1 : (List Int)) : Option (D_api_Int) :=
  bd (m_nat_Make p1) fun x1 =>
  if p0 then (
    some (decide (0 < (x1.1.length : Int)), x1.1))
  else (
    some (false, x1.1))
def m_whole_Of (p0 : Int) : Option (D_api_Int) :=
  if decide (p0 < 0) then (
    bd (m_nat_Of (wu64 (wi64 (0 - (wi64 (p0 + 1)))))) fun x2 =>
    bd (m_nat_Of 1) fun x4 =>
    bd (m_nat_Add x2 x4) fun x6 =>
    bd (m_whole_Made true x6) fun x8 =>
    some (x8.1, x8.2))
  else (
    bd (m_nat_Of (wu64 p0)) fun x10 =>
    bd (m_whole_Made false x10) fun x12 =>
    some (x12.1, x12.2))
def m_rat_one  : Option ((List Int)) :=
  bd (m_nat_Of 1) fun x1 =>
  some x1
def m_rat_Of (p0 : Int) : Option (D_api_Rat) :=
  bd (m_whole_Of p0) fun x1 =>
  bd (m_rat_one) fun x3 =>
  some ((x1.1, x1.2), x3)
def m_rat_up (p0 : D_api_Rat) : Option (D_api_Int) :=
  bd (m_whole_Made false p0.2) fun x1 =>
  some (x1.1, x1.2)
def m_limb_Mul (p0 : Int) (p1 : Int) (p2 : Int) (p3 : Int) : Option (Int × Int) :=
  lt (wu64 ((wu64 ((wu64 ((Go.bits .and .u64 p0 4294967295) * (Go.bits .and .u64 p1 4294967295))) + (Go.bits .and .u64 p2 4294967295))) + (Go.bits .and .u64 p3 4294967295))) fun x1 =>
  bd (sr .u64 x1 32) fun x3 =>
  some (Go.bits .and .u64 x1 4294967295, x3)
def m_mul_made (p0 : (List Int)) : Option ((List Int)) :=
  bd (m_nat_Make p0) fun x1 =>
  some x1.1
def m_mul_Long_l2 (p1 : (List Int)) (v4 : Int) (x8 : Int) : (Int × Int × (List Int)) → Option ((Int × Int × (List Int)) ⊕ (Int × (List Int)))
  | (v12, v13, v14) =>
    if decide (v13 < (p1.length : Int)) then (
      bd (rd p1 v13) fun x16 =>
      bd (rd v14 (wi64 (v4 + v13))) fun x18 =>
      bd (m_limb_Mul x8 x16 x18 v12) fun x20 =>
      bd (ix v14 (wi64 (v4 + v13))) fun j22 =>
      lt (v14.set j22 x20.1) fun x24 =>
      some (.inl (x20.2, wi64 (v13 + 1), x24)))
    else (
      some (.inr (v12, v14)))
def m_mul_Long_l1 (p0 : (List Int)) (p1 : (List Int)) : (Int × (List Int)) → Option ((Int × (List Int)) ⊕ ((List Int)))
  | (v4, v5) =>
    if decide (v4 < (p0.length : Int)) then (
      bd (
        bd (rd p0 v4) fun x8 =>
        bd (lp (m_mul_Long_l2 p1 v4 x8) (0, 0, v5)) fun (v10, v11) =>
        bd (ix v11 (wi64 (v4 + (p1.length : Int)))) fun j26 =>
        lt (v11.set j26 v10) fun x28 =>
        some x28) fun v7 =>
      some (.inl (wi64 (v4 + 1), v7)))
    else (
      some (.inr v5))
def m_mul_Long (p0 : (List Int)) (p1 : (List Int)) : Option ((List Int)) :=
  bd (mk 8 0 (wi64 ((p0.length : Int) + (p1.length : Int))) (wi64 ((p0.length : Int) + (p1.length : Int)))) fun x1 =>
  bd (lp (m_mul_Long_l1 p0 p1) (0, x1)) fun v3 =>
  bd (m_mul_made v3) fun x30 =>
  some x30
def m_mul_cut (p0 : (List Int)) (p1 : Int) : Option ((List Int) × (List Int)) :=
  bd (ct p0 0 (min p1 (p0.length : Int))) fun x1 =>
  bd (m_mul_made x1) fun x3 =>
  bd (ct p0 (min p1 (p0.length : Int)) p0.length) fun x5 =>
  bd (m_mul_made x5) fun x7 =>
  some (x3, x7)
def m_limb_Sub (p0 : Int) (p1 : Int) (p2 : Int) : Option (Int × Int) :=
  lt (wu64 ((Go.bits .and .u64 p1 4294967295) + (Go.bits .and .u64 p2 4294967295))) fun x1 =>
  bd (
    if decide ((Go.bits .and .u64 p0 4294967295) < x1) then (
      bd (sr .u64 (wu64 ((wu64 (x1 - (Go.bits .and .u64 p0 4294967295))) + 4294967295)) 32) fun x5 =>
      some x5)
    else (
      some 0)) fun v3 =>
  bd (sh .u64 v3 32) fun x7 =>
  lt (wu64 ((wu64 ((Go.bits .and .u64 p0 4294967295) + x7)) - x1)) fun x9 =>
  some (x9, v3)
def m_nat_Sub_l1 (p0 : (List Int)) (p1 : (List Int)) (x4 : (List Int)) : (Int × Int × (List Int)) → Option ((Int × Int × (List Int)) ⊕ ((List Int)))
  | (v7, v8, v9) =>
    if decide (v8 < (x4.length : Int)) then (
      bd (rd p0 v8) fun x11 =>
      bd (m_nat_at p1 v8) fun x13 =>
      bd (m_limb_Sub x11 x13 v7) fun x15 =>
      bd (ix v9 v8) fun j17 =>
      lt (v9.set j17 x15.1) fun x19 =>
      some (.inl (x15.2, wi64 (v8 + 1), x19)))
    else (
      some (.inr v9))
def m_nat_Sub (p0 : (List Int)) (p1 : (List Int)) : Option ((List Int) × Int) :=
  bd (m_nat_Cmp p0 p1) fun x1 =>
  if decide (x1 < 0) then (
    some ([], 6))
  else (
    bd (mk 8 0 (p0.length : Int) (p0.length : Int)) fun x4 =>
    bd (lp (m_nat_Sub_l1 p0 p1 x4) (0, 0, x4)) fun v6 =>
    bd (m_nat_trim v6) fun x21 =>
    some (x21, 0))
/- not shown: copy -/
def m_mul_up (p0 : (List Int)) (p1 : Int) : Option ((List Int)) := none
def m_nat_Sum_l1 (p0 : (List (List Int))) : ((List Int) × Int) → Option (((List Int) × Int) ⊕ ((List Int)))
  | (v2, v3) =>
    if decide (v3 < (p0.length : Int)) then (
      bd (rd p0 v3) fun x5 =>
      bd (m_nat_Add v2 x5) fun x7 =>
      some (.inl (x7, wi64 (v3 + 1))))
    else (
      some (.inr v2))
def m_nat_Sum (p0 : (List (List Int))) : Option ((List Int)) :=
  bd (lp (m_nat_Sum_l1 p0) ([], 0)) fun v1 =>
  some v1
def m_mul_Short_b (rec_ : ((List Int) → (List Int) → Option ((List Int)))) (p0 : (List Int)) (p1 : (List Int)) : Option ((List Int)) :=
  if decide ((min (p0.length : Int) (p1.length : Int)) < 4) then (
    bd (m_mul_Long p0 p1) fun x2 =>
    some x2)
  else (
    bd (qd .i64 (wi64 ((max (p0.length : Int) (p1.length : Int)) + 1)) 2) fun x4 =>
    bd (m_mul_cut p0 x4) fun x6 =>
    bd (m_mul_cut p1 x4) fun x8 =>
    bd (rec_ x6.1 x8.1) fun x10 =>
    bd (rec_ x6.2 x8.2) fun x12 =>
    bd (m_nat_Add x6.1 x6.2) fun x14 =>
    bd (m_nat_Add x8.1 x8.2) fun x16 =>
    bd (rec_ x14 x16) fun x18 =>
    bd (m_nat_Sub x18 x10) fun x20 =>
    bd (m_nat_Sub x20.1 x12) fun x22 =>
    bd (m_mul_up x22.1 x4) fun x24 =>
    bd (m_mul_up x12 (wi64 (2 * x4))) fun x26 =>
    bd (m_nat_Sum [x10, x24, x26]) fun x28 =>
    some x28)
def m_mul_Short_r : Nat → (List Int) → (List Int) → Option ((List Int))
  | 0 => fun p0 p1 => none
  | n + 1 => fun p0 p1 => m_mul_Short_b (m_mul_Short_r n) p0 p1
def m_mul_Short (p0 : (List Int)) (p1 : (List Int)) : Option ((List Int)) := m_mul_Short_r 1000000 p0 p1
def m_mul_Mul (p0 : (List Int)) (p1 : (List Int)) : Option ((List Int)) :=
  bd (m_mul_Short p0 p1) fun x1 =>
  some x1
def m_whole_Mul (p0 : D_api_Int) (p1 : D_api_Int) : Option (D_api_Int) :=
  bd (m_mul_Mul p0.2 p1.2) fun x1 =>
  bd (m_whole_Made (!(p0.1 == p1.1)) x1) fun x3 =>
  some (x3.1, x3.2)
def m_whole_Cmp (p0 : D_api_Int) (p1 : D_api_Int) : Option (Int) :=
  bd (m_whole_Sign (p0.1, p0.2)) fun x1 =>
  bd (m_whole_Sign (p1.1, p1.2)) fun x3 =>
  if decide (x1 < x3) then (
    some (-1))
  else (
    if decide (x3 < x1) then (
      some 1)
    else (
      bd (m_nat_Cmp p0.2 p1.2) fun x7 =>
      some (wi64 (x1 * x7))))
def m_rat_Cmp (p0 : D_api_Rat) (p1 : D_api_Rat) : Option (Int) :=
  bd (m_rat_up ((p1.1.1, p1.1.2), p1.2)) fun x1 =>
  bd (m_whole_Mul (p0.1.1, p0.1.2) x1) fun x3 =>
  bd (m_rat_up ((p0.1.1, p0.1.2), p0.2)) fun x5 =>
  bd (m_whole_Mul (p1.1.1, p1.1.2) x5) fun x7 =>
  bd (m_whole_Cmp x3 x7) fun x9 =>
  some x9
def m_formed_partsRight_1 (p0 : D_api_Link) : Option (Bool) :=
  bd (m_rat_May ((p0.2.2.2.1.1, p0.2.2.2.1.2), p0.2.2.2.2)) fun x1 =>
  if !x1 then (
    some true)
  else (
    bd (m_rat_Sign ((p0.2.2.2.1.1, p0.2.2.2.1.2), p0.2.2.2.2)) fun x4 =>
    if decide (x4 < 0) then (
      some true)
    else (
      bd (m_rat_Of 1) fun x7 =>
      bd (m_rat_Cmp ((p0.2.2.2.1.1, p0.2.2.2.1.2), p0.2.2.2.2) x7) fun x9 =>
      some (decide (0 < x9))))
def m_slices_IndexFunc_api_Link_api_Link__formed_partsRight_1_l1 (p0 : (List D_api_Link)) : Int → Option ((Int) ⊕ (Int))
  | v1 =>
    if decide (v1 < (p0.length : Int)) then (
      bd (rd p0 v1) fun x3 =>
      bd (m_formed_partsRight_1 x3) fun x5 =>
      if x5 then (
        some (.inr v1))
      else (
        some (.inl (wi64 (v1 + 1)))))
    else (
      some (.inr (-1)))
def m_slices_IndexFunc_api_Link_api_Link__formed_partsRight_1 (p0 : (List D_api_Link)) : Option (Int) :=
  lp (m_slices_IndexFunc_api_Link_api_Link__formed_partsRight_1_l1 p0) 0
def m_slices_ContainsFunc_api_Link_api_Link__formed_partsRight_1 (p0 : (List D_api_Link)) : Option (Bool) :=
  bd (m_slices_IndexFunc_api_Link_api_Link__formed_partsRight_1 p0) fun x1 =>
  some (decide (0 ≤ x1))
def m_formed_partsRight (p0 : D_api_Net) : Option (Bool) :=
  bd (m_slices_ContainsFunc_api_Link_api_Link__formed_partsRight_1 p0.2.2.1) fun x1 =>
  some (!x1)
def m_formed_rulesRight_l1 (p0 : D_api_Net) : (Int × (List (D_formed_key × Bool))) → Option ((Int × (List (D_formed_key × Bool))) ⊕ (Bool))
  | (v1, v2) =>
    if decide (v1 < (p0.2.2.2.length : Int)) then (
      bd (rd p0.2.2.2 v1) fun x4 =>
      bd (m_formed_Node (p0.1, p0.2.1, p0.2.2.1, p0.2.2.2) x4.1) fun x6 =>
      bd (
        if !x6.2 then (
          some true)
        else (
          bd (m_addr_May (x4.2.1.1, x4.2.1.2)) fun x10 =>
          if !x10 then (
            some true)
          else (
            some ((mget E_formed_key false v2 (x4.1, (x4.2.1.1, x4.2.1.2))).1)))) fun v8 =>
      if v8 then (
        some (.inr false))
      else (
        lt (mput E_formed_key v2 (x4.1, (x4.2.1.1, x4.2.1.2)) true) fun x14 =>
        some (.inl (wi64 (v1 + 1), x14))))
    else (
      some (.inr true))
def m_formed_rulesRight (p0 : D_api_Net) : Option (Bool) :=
  lp (m_formed_rulesRight_l1 p0) (0, [])
def m_formed_groupsRight_1 (p0 : (List D_api_Hop)) : Option (Bool) :=
  some (decide ((p0.length : Int) = 0))
def m_slices_IndexFunc_api_Hop_api_Hop__formed_groupsRight_1_l1 (p0 : (List (List D_api_Hop))) : Int → Option ((Int) ⊕ (Int))
  | v1 =>
    if decide (v1 < (p0.length : Int)) then (
      bd (rd p0 v1) fun x3 =>
      bd (m_formed_groupsRight_1 x3) fun x5 =>
      if x5 then (
        some (.inr v1))
      else (
        some (.inl (wi64 (v1 + 1)))))
    else (
      some (.inr (-1)))
def m_slices_IndexFunc_api_Hop_api_Hop__formed_groupsRight_1 (p0 : (List (List D_api_Hop))) : Option (Int) :=
  lp (m_slices_IndexFunc_api_Hop_api_Hop__formed_groupsRight_1_l1 p0) 0
def m_slices_ContainsFunc_api_Hop_api_Hop__formed_groupsRight_1 (p0 : (List (List D_api_Hop))) : Option (Bool) :=
  bd (m_slices_IndexFunc_api_Hop_api_Hop__formed_groupsRight_1 p0) fun x1 =>
  some (decide (0 ≤ x1))
def m_formed_groupsRight_l1 (p0 : D_api_Net) : Int → Option ((Int) ⊕ (Bool))
  | v1 =>
    if decide (v1 < (p0.2.2.2.length : Int)) then (
      bd (rd p0.2.2.2 v1) fun x3 =>
      bd (
        if !(x3.2.2.1 == (decide ((x3.2.2.2.length : Int) = 0))) then (
          some true)
        else (
          bd (m_slices_ContainsFunc_api_Hop_api_Hop__formed_groupsRight_1 x3.2.2.2) fun x7 =>
          some x7)) fun v5 =>
      if v5 then (
        some (.inr false))
      else (
        some (.inl (wi64 (v1 + 1)))))
    else (
      some (.inr true))
def m_formed_groupsRight (p0 : D_api_Net) : Option (Bool) :=
  lp (m_formed_groupsRight_l1 p0) 0
def m_formed_hopsRight_l3 (p0 : D_api_Net) (x3 : D_api_Rule) (v5 : Int) (x7 : (List D_api_Hop)) : (Int × (List ByteArray)) → Option ((Int × (List ByteArray)) ⊕ ((Int) ⊕ ((Int) ⊕ (Bool))))
  | (v9, v10) =>
    if decide (v9 < (x7.length : Int)) then (
      bd (rd x7 v9) fun x12 =>
      bd (m_formed_Link (p0.1, p0.2.1, p0.2.2.1, p0.2.2.2) x12.1) fun x14 =>
      bd (
        if !x14.2 then (
          some true)
        else (
          bd (rd p0.2.2.1 x14.1) fun x18 =>
          if !sq x18.2.1 x3.1 then (
            some true)
          else (
            some (decide (x12.2 < 1))))) fun v16 =>
      if v16 then (
        some (.inr (.inr (.inr false))))
      else (
        bd (ap 16 v10 [x12.1]) fun x22 =>
        some (.inl (wi64 (v9 + 1), x22))))
    else (
      bd (m_name_Twice v10) fun x24 =>
      if x24.2 then (
        some (.inr (.inr (.inr false))))
      else (
        some (.inr (.inl (wi64 (v5 + 1))))))
def m_formed_hopsRight_l2 (p0 : D_api_Net) (v1 : Int) (x3 : D_api_Rule) : Int → Option ((Int) ⊕ ((Int) ⊕ (Bool)))
  | v5 =>
    if decide (v5 < (x3.2.2.2.length : Int)) then (
      bd (rd x3.2.2.2 v5) fun x7 =>
      lp (m_formed_hopsRight_l3 p0 x3 v5 x7) (0, []))
    else (
      some (.inr (.inl (wi64 (v1 + 1)))))
def m_formed_hopsRight_l1 (p0 : D_api_Net) : Int → Option ((Int) ⊕ (Bool))
  | v1 =>
    if decide (v1 < (p0.2.2.2.length : Int)) then (
      bd (rd p0.2.2.2 v1) fun x3 =>
      lp (m_formed_hopsRight_l2 p0 v1 x3) 0)
    else (
      some (.inr true))
def m_formed_hopsRight (p0 : D_api_Net) : Option (Bool) :=
  lp (m_formed_hopsRight_l1 p0) 0
def m_formed_net (p0 : D_api_Net) : Option (Int) :=
  bd (m_formed_nodesRight (p0.1, p0.2.1, p0.2.2.1, p0.2.2.2)) fun x1 =>
  if !x1 then (
    some 2)
  else (
    bd (m_formed_homesRight (p0.1, p0.2.1, p0.2.2.1, p0.2.2.2)) fun x4 =>
    if !x4 then (
      some 3)
    else (
      bd (m_formed_linksRight (p0.1, p0.2.1, p0.2.2.1, p0.2.2.2)) fun x7 =>
      if !x7 then (
        some 4)
      else (
        bd (m_formed_endsRight (p0.1, p0.2.1, p0.2.2.1, p0.2.2.2)) fun x10 =>
        if !x10 then (
          some 5)
        else (
          bd (m_formed_partsRight (p0.1, p0.2.1, p0.2.2.1, p0.2.2.2)) fun x13 =>
          if !x13 then (
            some 6)
          else (
            bd (m_formed_rulesRight (p0.1, p0.2.1, p0.2.2.1, p0.2.2.2)) fun x16 =>
            if !x16 then (
              some 7)
            else (
              bd (m_formed_groupsRight (p0.1, p0.2.1, p0.2.2.1, p0.2.2.2)) fun x19 =>
              if !x19 then (
                some 8)
              else (
                bd (m_formed_hopsRight (p0.1, p0.2.1, p0.2.2.1, p0.2.2.2)) fun x22 =>
                if !x22 then (
                  some 9)
                else (
                  some 0))))))))
def m_formed_Nets_l1 (p0 : (List D_api_Net)) : (Int × (List ByteArray)) → Option ((Int × (List ByteArray)) ⊕ ((List ByteArray)))
  | (v2, v3) =>
    if decide (v2 < (p0.length : Int)) then (
      bd (rd p0 v2) fun x5 =>
      bd (ap 16 v3 [x5.1]) fun x7 =>
      some (.inl (wi64 (v2 + 1), x7)))
    else (
      some (.inr v3))
def m_formed_Nets_l2 (p0 : (List D_api_Net)) : Int → Option ((Int) ⊕ (Int))
  | v12 =>
    if decide (v12 < (p0.length : Int)) then (
      bd (rd p0 v12) fun x14 =>
      bd (m_formed_net (x14.1, x14.2.1, x14.2.2.1, x14.2.2.2)) fun x16 =>
      if !decide (x16 = 0) then (
        some (.inr x16))
      else (
        some (.inl (wi64 (v12 + 1)))))
    else (
      some (.inr 0))
def m_formed_Nets (p0 : (List D_api_Net)) : Option (Int) :=
  bd (lp (m_formed_Nets_l1 p0) (0, [])) fun v1 =>
  bd (m_formed_named v1) fun x9 =>
  if !x9 then (
    some 1)
  else (
    lp (m_formed_Nets_l2 p0) 0)
def m_triviumref17_Word_l1 (p0 : ByteArray) : Int → Option ((Int) ⊕ (Bool))
  | v1 =>
    if decide (v1 < (p0.size : Int)) then (
      bd (bt p0 v1) fun x3 =>
      bd (
        if decide (97 ≤ x3) then (
          some (decide (x3 ≤ 122)))
        else (
          some false)) fun v5 =>
      bd (
        if decide (48 ≤ x3) then (
          if decide (x3 ≤ 57) then (
            some true)
          else (
            if decide (x3 = 45) then (
              some true)
            else (
              some (decide (x3 = 95)))))
        else (
          if decide (x3 = 45) then (
            some true)
          else (
            some (decide (x3 = 95))))) fun v7 =>
      bd (
        if !v5 then (
          if decide (v1 = 0) then (
            some true)
          else (
            some (!v7)))
        else (
          some false)) fun v12 =>
      if v12 then (
        some (.inr false))
      else (
        some (.inl (wi64 (v1 + 1)))))
    else (
      some (.inr (decide (0 < (p0.size : Int)))))
def m_triviumref17_Word (p0 : ByteArray) : Option (Bool) :=
  lp (m_triviumref17_Word_l1 p0) 0
def m_triviumref17_Keywords  : Option ((List ByteArray)) :=
  some [(bs [110, 101, 116, 119, 111, 114, 107]), (bs [110, 111, 100, 101]), (bs [104, 111, 109, 101]), (bs [108, 105, 110, 107]), (bs [102, 97, 105, 108]), (bs [114, 117, 108, 101]), (bs [100, 114, 111, 112]), (bs [118, 105, 97]), (bs [101, 108, 115, 101]), (bs [112, 114, 111, 98]), (bs [104, 111, 112, 115]), (bs [119, 105, 116, 104, 105, 110]), (bs [99, 111, 109, 112, 97, 114, 101])]
def m_triviumref17_Keyword_l1 (p0 : ByteArray) (x1 : (List ByteArray)) : Int → Option ((Int) ⊕ (Bool))
  | v3 =>
    if decide (v3 < (x1.length : Int)) then (
      bd (rd x1 v3) fun x5 =>
      if sq x5 p0 then (
        some (.inr true))
      else (
        some (.inl (wi64 (v3 + 1)))))
    else (
      some (.inr false))
def m_triviumref17_Keyword (p0 : ByteArray) : Option (Bool) :=
  bd (m_triviumref17_Keywords) fun x1 =>
  lp (m_triviumref17_Keyword_l1 p0 x1) 0
def m_triviumref17_Name (p0 : ByteArray) : Option (Bool) :=
  bd (m_triviumref17_Word p0) fun x1 =>
  if x1 then (
    bd (m_triviumref17_Keyword p0) fun x4 =>
    some (!x4))
  else (
    some false)
def m_triviumref17_Twice_l2 (p0 : (List ByteArray)) (v1 : Int) : Int → Option ((Int) ⊕ ((Int) ⊕ (ByteArray × Bool)))
  | v3 =>
    if decide (v3 < v1) then (
      bd (rd p0 v3) fun x5 =>
      bd (rd p0 v1) fun x7 =>
      if sq x5 x7 then (
        bd (rd p0 v1) fun x10 =>
        some (.inr (.inr (x10, true))))
      else (
        some (.inl (wi64 (v3 + 1)))))
    else (
      some (.inr (.inl (wi64 (v1 + 1)))))
def m_triviumref17_Twice_l1 (p0 : (List ByteArray)) : Int → Option ((Int) ⊕ (ByteArray × Bool))
  | v1 =>
    if decide (v1 < (p0.length : Int)) then (
      lp (m_triviumref17_Twice_l2 p0 v1) 0)
    else (
      some (.inr ((bs []), false)))
def m_triviumref17_Twice (p0 : (List ByteArray)) : Option (ByteArray × Bool) :=
  lp (m_triviumref17_Twice_l1 p0) 0
def m_triviumref23_names_l1 (p0 : (List ByteArray)) : Int → Option ((Int) ⊕ (Bool))
  | v1 =>
    if decide (v1 < (p0.length : Int)) then (
      bd (rd p0 v1) fun x3 =>
      bd (m_triviumref17_Name x3) fun x5 =>
      if !x5 then (
        some (.inr false))
      else (
        some (.inl (wi64 (v1 + 1)))))
    else (
      bd (m_triviumref17_Twice p0) fun x8 =>
      some (.inr (!x8.2)))
def m_triviumref23_names (p0 : (List ByteArray)) : Option (Bool) :=
  lp (m_triviumref23_names_l1 p0) 0
def m_triviumref18_Size_l1  : (Int × Int) → Option ((Int × Int) ⊕ (Int))
  | (v2, v3) =>
    if decide (v3 < 32) then (
      some (.inl (wu64 (2 * v2), wi64 (v3 + 1))))
    else (
      some (.inr v2))
def m_triviumref18_Size (p0 : Int) : Option (Int) :=
  bd (lp (m_triviumref18_Size_l1) (1, p0)) fun v1 =>
  some v1
def m_triviumref18_May (p0 : D_api_Prefix) : Option (Bool) :=
  if decide (0 ≤ p0.2) then (
    if decide (p0.2 ≤ 32) then (
      bd (m_triviumref18_Size p0.2) fun x3 =>
      bd (rm .u64 (wu64 p0.1) x3) fun x5 =>
      some (decide (x5 = 0)))
    else (
      some false))
  else (
    some false)
def m_triviumref23_homes_l3 (x3 : D_api_Node) (v5 : Int) : Int → Option ((Int) ⊕ ((Int) ⊕ ((Int) ⊕ (Bool))))
  | v12 =>
    if decide (v12 < v5) then (
      bd (rd x3.2 v12) fun x14 =>
      bd (rd x3.2 v5) fun x16 =>
      if (decide (x14.1 = x16.1) && decide (x14.2 = x16.2)) then (
        some (.inr (.inr (.inr false))))
      else (
        some (.inl (wi64 (v12 + 1)))))
    else (
      some (.inr (.inl (wi64 (v5 + 1)))))
def m_triviumref23_homes_l2 (v1 : Int) (x3 : D_api_Node) : Int → Option ((Int) ⊕ ((Int) ⊕ (Bool)))
  | v5 =>
    if decide (v5 < (x3.2.length : Int)) then (
      bd (rd x3.2 v5) fun x7 =>
      bd (m_triviumref18_May x7) fun x9 =>
      if !x9 then (
        some (.inr (.inr false)))
      else (
        lp (m_triviumref23_homes_l3 x3 v5) 0))
    else (
      some (.inr (.inl (wi64 (v1 + 1)))))
def m_triviumref23_homes_l1 (p0 : D_api_Net) : Int → Option ((Int) ⊕ (Bool))
  | v1 =>
    if decide (v1 < (p0.2.1.length : Int)) then (
      bd (rd p0.2.1 v1) fun x3 =>
      lp (m_triviumref23_homes_l2 v1 x3) 0)
    else (
      some (.inr true))
def m_triviumref23_homes (p0 : D_api_Net) : Option (Bool) :=
  lp (m_triviumref23_homes_l1 p0) 0
def m_triviumref02_May_l1 (p0 : (List Int)) : Int → Option ((Int) ⊕ (Bool))
  | v1 =>
    if decide (v1 < (p0.length : Int)) then (
      bd (rd p0 v1) fun x3 =>
      if decide (4294967296 ≤ x3) then (
        some (.inr false))
      else (
        some (.inl (wi64 (v1 + 1)))))
    else (
      if decide ((p0.length : Int) = 0) then (
        some (.inr true))
      else (
        bd (rd p0 (wi64 ((p0.length : Int) - 1))) fun x7 =>
        some (.inr (!decide (x7 = 0)))))
def m_triviumref02_May (p0 : (List Int)) : Option (Bool) :=
  lp (m_triviumref02_May_l1 p0) 0
def m_triviumref02_Same_l1 (p0 : (List Int)) (p1 : (List Int)) : Int → Option ((Int) ⊕ (Bool))
  | v2 =>
    if decide (v2 < (p0.length : Int)) then (
      bd (rd p0 v2) fun x4 =>
      bd (rd p1 v2) fun x6 =>
      if !decide (x4 = x6) then (
        some (.inr false))
      else (
        some (.inl (wi64 (v2 + 1)))))
    else (
      some (.inr true))
def m_triviumref02_Same (p0 : (List Int)) (p1 : (List Int)) : Option (Bool) :=
  if !decide ((p0.length : Int) = (p1.length : Int)) then (
    some false)
  else (
    lp (m_triviumref02_Same_l1 p0 p1) 0)
def m_triviumref07_Same (p0 : D_api_Int) (p1 : D_api_Int) : Option (Bool) :=
  if p0.1 == p1.1 then (
    bd (m_triviumref02_Same p0.2 p1.2) fun x2 =>
    some x2)
  else (
    some false)
def m_triviumref08_Same (p0 : D_api_Rat) (p1 : D_api_Rat) : Option (Bool) :=
  bd (m_triviumref07_Same (p0.1.1, p0.1.2) (p1.1.1, p1.1.2)) fun x1 =>
  if x1 then (
    bd (m_triviumref02_Same p0.2 p1.2) fun x4 =>
    some x4)
  else (
    some false)
def m_triviumref08_May (p0 : D_api_Rat) : Option (Bool) :=
  bd (
    bd (m_triviumref02_May p0.1.2) fun x2 =>
    if !x2 then (
      some true)
    else (
      bd (m_triviumref02_May p0.2) fun x5 =>
      if !x5 then (
        some true)
      else (
        if decide ((p0.2.length : Int) = 0) then (
          some true)
        else (
          if p0.1.1 then (
            some (decide ((p0.1.2.length : Int) = 0)))
          else (
            some false))))) fun v1 =>
  if v1 then (
    some false)
  else (
    bd (m_triviumref07_Of (p0.1.1, p0.1.2)) fun x11 =>
    bd (m_triviumref02_Of p0.2) fun x13 =>
    bd (m_triviumref08_Low x11 x13) fun x15 =>
    bd (m_triviumref08_Back x15) fun x17 =>
    bd (m_triviumref08_Same x17 ((p0.1.1, p0.1.2), p0.2)) fun x19 =>
    some x19)
def m_triviumref08_Of (p0 : D_api_Rat) : Option (D_triviumref08_Q) :=
  bd (m_triviumref07_Of (p0.1.1, p0.1.2)) fun x1 =>
  bd (m_triviumref02_Of p0.2) fun x3 =>
  some ((x1.1, x1.2), x3)
def m_triviumref02_Num (p0 : Int) : Option ((List Int)) :=
  bd (m_triviumref02_MulAdd [] 1 p0) fun x1 =>
  some x1
def m_triviumref07_Num (p0 : Int) : Option (D_triviumref07_Z) :=
  if decide (p0 < 0) then (
    bd (m_triviumref02_Num (wi64 (0 - p0))) fun x2 =>
    bd (m_triviumref07_made true x2) fun x4 =>
    some (x4.1, x4.2))
  else (
    bd (m_triviumref02_Num p0) fun x6 =>
    bd (m_triviumref07_made false x6) fun x8 =>
    some (x8.1, x8.2))
def m_triviumref08_Num (p0 : Int) (p1 : Int) : Option (D_triviumref08_Q) :=
  bd (m_triviumref07_Num p0) fun x1 =>
  bd (m_triviumref02_Num p1) fun x3 =>
  bd (m_triviumref08_Low x1 x3) fun x5 =>
  some ((x5.1.1, x5.1.2), x5.2)
def m_triviumref07_Neg (p0 : D_triviumref07_Z) : Option (D_triviumref07_Z) :=
  bd (m_triviumref07_made (!p0.1) p0.2) fun x1 =>
  some (x1.1, x1.2)
def m_triviumref08_Neg (p0 : D_triviumref08_Q) : Option (D_triviumref08_Q) :=
  bd (m_triviumref07_Neg (p0.1.1, p0.1.2)) fun x1 =>
  some ((x1.1, x1.2), p0.2)
def m_triviumref02_Mul_l2 (p0 : (List Int)) (p1 : (List Int)) (v4 : Int) : (Int × Int × (List Int)) → Option ((Int × Int × (List Int)) ⊕ (Int × (List Int)))
  | (v10, v11, v12) =>
    if decide (v11 < (p1.length : Int)) then (
      bd (rd v12 (wi64 (v4 + v11))) fun x14 =>
      bd (rd p0 v4) fun x16 =>
      bd (rd p1 v11) fun x18 =>
      lt (wi64 ((wi64 (v10 + x14)) + (wi64 (x16 * x18)))) fun x20 =>
      bd (rm .i64 x20 10000) fun x22 =>
      bd (ix v12 (wi64 (v4 + v11))) fun j24 =>
      lt (v12.set j24 x22) fun x26 =>
      bd (qd .i64 x20 10000) fun x28 =>
      some (.inl (x28, wi64 (v11 + 1), x26)))
    else (
      some (.inr (v10, v12)))
def m_triviumref02_Mul_l3  : (Int × Int × (List Int)) → Option ((Int × Int × (List Int)) ⊕ ((List Int)))
  | (v30, v31, v32) =>
    if decide (0 < v30) then (
      bd (rd v32 v31) fun x34 =>
      bd (rm .i64 (wi64 (v30 + x34)) 10000) fun x36 =>
      bd (ix v32 v31) fun j38 =>
      lt (v32.set j38 x36) fun x40 =>
      bd (qd .i64 (wi64 (v30 + x34)) 10000) fun x42 =>
      some (.inl (x42, wi64 (v31 + 1), x40)))
    else (
      some (.inr v32))
def m_triviumref02_Mul_l1 (p0 : (List Int)) (p1 : (List Int)) : (Int × (List Int)) → Option ((Int × (List Int)) ⊕ ((List Int)))
  | (v4, v5) =>
    if decide (v4 < (p0.length : Int)) then (
      bd (
        bd (lp (m_triviumref02_Mul_l2 p0 p1 v4) (0, 0, v5)) fun (v8, v9) =>
        lp (m_triviumref02_Mul_l3) (v8, wi64 (v4 + (p1.length : Int)), v9)) fun v7 =>
      some (.inl (wi64 (v4 + 1), v7)))
    else (
      some (.inr v5))
def m_triviumref02_Mul (p0 : (List Int)) (p1 : (List Int)) : Option ((List Int)) :=
  bd (mk 8 0 (wi64 ((wi64 ((p0.length : Int) + (p1.length : Int))) + 1)) (wi64 ((wi64 ((p0.length : Int) + (p1.length : Int))) + 1))) fun x1 =>
  bd (lp (m_triviumref02_Mul_l1 p0 p1) (0, x1)) fun v3 =>
  bd (m_triviumref02_Trim v3) fun x44 =>
  some x44
def m_triviumref07_Mul (p0 : D_triviumref07_Z) (p1 : D_triviumref07_Z) : Option (D_triviumref07_Z) :=
  bd (m_triviumref02_Mul p0.2 p1.2) fun x1 =>
  bd (m_triviumref07_made (!(p0.1 == p1.1)) x1) fun x3 =>
  some (x3.1, x3.2)
def m_triviumref02_Add_l1 (p0 : (List Int)) (p1 : (List Int)) : (Int × Int × (List Int)) → Option ((Int × Int × (List Int)) ⊕ (Int × (List Int)))
  | (v3, v4, v5) =>
    if decide (v4 < (max (p0.length : Int) (p1.length : Int))) then (
      bd (
        if decide (v4 < (p0.length : Int)) then (
          bd (rd p0 v4) fun x9 =>
          some (wi64 (v3 + x9)))
        else (
          some v3)) fun v7 =>
      bd (
        if decide (v4 < (p1.length : Int)) then (
          bd (rd p1 v4) fun x13 =>
          some (wi64 (v7 + x13)))
        else (
          some v7)) fun v11 =>
      bd (rm .i64 v11 10000) fun x15 =>
      bd (ap 8 v5 [x15]) fun x17 =>
      bd (qd .i64 v11 10000) fun x19 =>
      some (.inl (x19, wi64 (v4 + 1), x17)))
    else (
      some (.inr (v3, v5)))
def m_triviumref02_Add (p0 : (List Int)) (p1 : (List Int)) : Option ((List Int)) :=
  bd (lp (m_triviumref02_Add_l1 p0 p1) (0, 0, [])) fun (v1, v2) =>
  bd (ap 8 v2 [v1]) fun x21 =>
  bd (m_triviumref02_Trim x21) fun x23 =>
  some x23
def m_triviumref07_Add (p0 : D_triviumref07_Z) (p1 : D_triviumref07_Z) : Option (D_triviumref07_Z) :=
  if p0.1 == p1.1 then (
    bd (m_triviumref02_Add p0.2 p1.2) fun x2 =>
    bd (m_triviumref07_made p0.1 x2) fun x4 =>
    some (x4.1, x4.2))
  else (
    bd (m_triviumref02_Cmp p0.2 p1.2) fun x6 =>
    if decide (0 ≤ x6) then (
      bd (m_triviumref02_Sub p0.2 p1.2) fun x9 =>
      bd (m_triviumref07_made p0.1 x9) fun x11 =>
      some (x11.1, x11.2))
    else (
      bd (m_triviumref02_Sub p1.2 p0.2) fun x13 =>
      bd (m_triviumref07_made p1.1 x13) fun x15 =>
      some (x15.1, x15.2)))
def m_triviumref08_Add (p0 : D_triviumref08_Q) (p1 : D_triviumref08_Q) : Option (D_triviumref08_Q) :=
  bd (m_triviumref07_Mul (p0.1.1, p0.1.2) (false, p1.2)) fun x1 =>
  bd (m_triviumref07_Mul (p1.1.1, p1.1.2) (false, p0.2)) fun x3 =>
  bd (m_triviumref07_Add (x1.1, x1.2) (x3.1, x3.2)) fun x5 =>
  bd (m_triviumref02_Mul p0.2 p1.2) fun x7 =>
  bd (m_triviumref08_Low x5 x7) fun x9 =>
  some ((x9.1.1, x9.1.2), x9.2)
def m_triviumref08_Sub (p0 : D_triviumref08_Q) (p1 : D_triviumref08_Q) : Option (D_triviumref08_Q) :=
  bd (m_triviumref08_Neg ((p1.1.1, p1.1.2), p1.2)) fun x1 =>
  bd (m_triviumref08_Add ((p0.1.1, p0.1.2), p0.2) x1) fun x3 =>
  some ((x3.1.1, x3.1.2), x3.2)
def m_triviumref07_Sign (p0 : D_triviumref07_Z) : Option (Int) :=
  if decide ((p0.2.length : Int) = 0) then (
    some 0)
  else (
    if p0.1 then (
      some (-1))
    else (
      some 1))
def m_triviumref08_Sign (p0 : D_triviumref08_Q) : Option (Int) :=
  bd (m_triviumref07_Sign (p0.1.1, p0.1.2)) fun x1 =>
  some x1
def m_triviumref08_Cmp (p0 : D_triviumref08_Q) (p1 : D_triviumref08_Q) : Option (Int) :=
  bd (m_triviumref08_Sub ((p0.1.1, p0.1.2), p0.2) ((p1.1.1, p1.1.2), p1.2)) fun x1 =>
  bd (m_triviumref08_Sign x1) fun x3 =>
  some x3
def m_triviumref23_group_l2 (p2 : (List D_api_Hop)) (v1 : Int) : Int → Option ((Int) ⊕ ((Int) ⊕ (Bool)))
  | v15 =>
    if decide (v15 < v1) then (
      bd (rd p2 v15) fun x17 =>
      bd (rd p2 v1) fun x19 =>
      if sq x17.1 x19.1 then (
        some (.inr (.inr false)))
      else (
        some (.inl (wi64 (v15 + 1)))))
    else (
      some (.inr (.inl (wi64 (v1 + 1)))))
def m_triviumref23_group_l1 (p0 : D_api_Net) (p1 : D_api_Rule) (p2 : (List D_api_Hop)) : Int → Option ((Int) ⊕ (Bool))
  | v1 =>
    if decide (v1 < (p2.length : Int)) then (
      bd (rd p2 v1) fun x3 =>
      bd (m_triviumref23_Link (p0.1, p0.2.1, p0.2.2.1, p0.2.2.2) x3.1) fun x5 =>
      bd (
        if decide (x5 < 0) then (
          some true)
        else (
          bd (rd p0.2.2.1 x5) fun x9 =>
          if !sq x9.2.1 p1.1 then (
            some true)
          else (
            bd (rd p2 v1) fun x12 =>
            some (decide (x12.2 < 1))))) fun v7 =>
      if v7 then (
        some (.inr false))
      else (
        lp (m_triviumref23_group_l2 p2 v1) 0))
    else (
      some (.inr true))
def m_triviumref23_group (p0 : D_api_Net) (p1 : D_api_Rule) (p2 : (List D_api_Hop)) : Option (Bool) :=
  lp (m_triviumref23_group_l1 p0 p1 p2) 0
def m_triviumref23_net_l1 (p0 : D_api_Net) : (Int × (List ByteArray)) → Option ((Int × (List ByteArray)) ⊕ ((List ByteArray)))
  | (v2, v3) =>
    if decide (v2 < (p0.2.1.length : Int)) then (
      bd (rd p0.2.1 v2) fun x5 =>
      bd (ap 16 v3 [x5.1]) fun x7 =>
      some (.inl (wi64 (v2 + 1), x7)))
    else (
      some (.inr v3))
def m_triviumref23_net_l2 (p0 : D_api_Net) : (Int × (List ByteArray)) → Option ((Int × (List ByteArray)) ⊕ ((List ByteArray)))
  | (v10, v11) =>
    if decide (v10 < (p0.2.2.1.length : Int)) then (
      bd (rd p0.2.2.1 v10) fun x13 =>
      bd (ap 16 v11 [x13.1]) fun x15 =>
      some (.inl (wi64 (v10 + 1), x15)))
    else (
      some (.inr v11))
def m_triviumref23_net_l4 (p0 : D_api_Net) (v26 : Int) : Int → Option ((Int) ⊕ ((Int) ⊕ (Int)))
  | v28 =>
    bd (rd p0.2.2.2 v26) fun x29 =>
    if decide (v28 < (x29.2.2.2.length : Int)) then (
      bd (rd p0.2.2.2 v26) fun x32 =>
      bd (rd p0.2.2.2 v26) fun x34 =>
      bd (rd x34.2.2.2 v28) fun x36 =>
      bd (m_triviumref23_group (p0.1, p0.2.1, p0.2.2.1, p0.2.2.2) x32 x36) fun x38 =>
      if !x38 then (
        some (.inr (.inr 9)))
      else (
        some (.inl (wi64 (v28 + 1)))))
    else (
      some (.inr (.inl (wi64 (v26 + 1)))))
def m_triviumref23_net_l3 (p0 : D_api_Net) : Int → Option ((Int) ⊕ (Int))
  | v26 =>
    if decide (v26 < (p0.2.2.2.length : Int)) then (
      lp (m_triviumref23_net_l4 p0 v26) 0)
    else (
      some (.inr 0))
def m_triviumref23_net_k4 (p0 : D_api_Net) : Option (Int) :=
  lp (m_triviumref23_net_l3 p0) 0
def m_triviumref23_net_l6 (v41 : Int) (x43 : D_api_Rule) : Int → Option ((Int) ⊕ ((Int) ⊕ (Int)))
  | v46 =>
    if decide (v46 < (x43.2.2.2.length : Int)) then (
      bd (rd x43.2.2.2 v46) fun x48 =>
      if decide ((x48.length : Int) = 0) then (
        some (.inr (.inr 8)))
      else (
        some (.inl (wi64 (v46 + 1)))))
    else (
      some (.inr (.inl (wi64 (v41 + 1)))))
def m_triviumref23_net_l5 (p0 : D_api_Net) : Int → Option ((Int) ⊕ (Int))
  | v41 =>
    if decide (v41 < (p0.2.2.2.length : Int)) then (
      bd (rd p0.2.2.2 v41) fun x43 =>
      if !(x43.2.2.1 == (decide ((x43.2.2.2.length : Int) = 0))) then (
        some (.inr 8))
      else (
        lp (m_triviumref23_net_l6 v41 x43) 0))
    else (
      up (m_triviumref23_net_k4 p0))
def m_triviumref23_net_k3 (p0 : D_api_Net) : Option (Int) :=
  lp (m_triviumref23_net_l5 p0) 0
def m_triviumref23_net_l8 (p0 : D_api_Net) (v52 : Int) (x54 : D_api_Rule) : Int → Option ((Int) ⊕ ((Int) ⊕ (Int)))
  | v63 =>
    if decide (v63 < v52) then (
      bd (
        bd (rd p0.2.2.2 v63) fun x66 =>
        if sq x66.1 x54.1 then (
          bd (rd p0.2.2.2 v63) fun x69 =>
          some (decide (x69.2.1.1 = x54.2.1.1) && decide (x69.2.1.2 = x54.2.1.2)))
        else (
          some false)) fun v65 =>
      if v65 then (
        some (.inr (.inr 7)))
      else (
        some (.inl (wi64 (v63 + 1)))))
    else (
      some (.inr (.inl (wi64 (v52 + 1)))))
def m_triviumref23_net_l7 (p0 : D_api_Net) : Int → Option ((Int) ⊕ (Int))
  | v52 =>
    if decide (v52 < (p0.2.2.2.length : Int)) then (
      bd (rd p0.2.2.2 v52) fun x54 =>
      bd (
        bd (m_triviumref23_Node (p0.1, p0.2.1, p0.2.2.1, p0.2.2.2) x54.1) fun x57 =>
        if decide (x57 < 0) then (
          some true)
        else (
          bd (m_triviumref18_May (x54.2.1.1, x54.2.1.2)) fun x60 =>
          some (!x60))) fun v56 =>
      if v56 then (
        some (.inr 7))
      else (
        lp (m_triviumref23_net_l8 p0 v52 x54) 0))
    else (
      up (m_triviumref23_net_k3 p0))
def m_triviumref23_net_k2 (p0 : D_api_Net) : Option (Int) :=
  lp (m_triviumref23_net_l7 p0) 0
def m_triviumref23_net_l9 (p0 : D_api_Net) : Int → Option ((Int) ⊕ (Int))
  | v73 =>
    if decide (v73 < (p0.2.2.1.length : Int)) then (
      bd (rd p0.2.2.1 v73) fun x75 =>
      bd (
        bd (m_triviumref08_May ((x75.2.2.2.1.1, x75.2.2.2.1.2), x75.2.2.2.2)) fun x78 =>
        if !x78 then (
          some true)
        else (
          if x75.2.2.2.1.1 then (
            some true)
          else (
            bd (m_triviumref08_Of ((x75.2.2.2.1.1, x75.2.2.2.1.2), x75.2.2.2.2)) fun x82 =>
            bd (m_triviumref08_Num 1 1) fun x84 =>
            bd (m_triviumref08_Cmp x82 x84) fun x86 =>
            some (decide (0 < x86))))) fun v77 =>
      if v77 then (
        some (.inr 6))
      else (
        some (.inl (wi64 (v73 + 1)))))
    else (
      up (m_triviumref23_net_k2 p0))
def m_triviumref23_net_k1 (p0 : D_api_Net) : Option (Int) :=
  lp (m_triviumref23_net_l9 p0) 0
def m_triviumref23_net_l10 (p0 : D_api_Net) : Int → Option ((Int) ⊕ (Int))
  | v90 =>
    if decide (v90 < (p0.2.2.1.length : Int)) then (
      bd (
        bd (rd p0.2.2.1 v90) fun x93 =>
        bd (m_triviumref23_Node (p0.1, p0.2.1, p0.2.2.1, p0.2.2.2) x93.2.1) fun x95 =>
        if decide (x95 < 0) then (
          some true)
        else (
          bd (rd p0.2.2.1 v90) fun x98 =>
          bd (m_triviumref23_Node (p0.1, p0.2.1, p0.2.2.1, p0.2.2.2) x98.2.2.1) fun x100 =>
          some (decide (x100 < 0)))) fun v92 =>
      if v92 then (
        some (.inr 5))
      else (
        some (.inl (wi64 (v90 + 1)))))
    else (
      up (m_triviumref23_net_k1 p0))
def m_triviumref23_net (p0 : D_api_Net) : Option (Int) :=
  bd (lp (m_triviumref23_net_l1 p0) (0, [])) fun v1 =>
  bd (lp (m_triviumref23_net_l2 p0) (0, [])) fun v9 =>
  bd (m_triviumref23_names v1) fun x17 =>
  if !x17 then (
    some 2)
  else (
    bd (m_triviumref23_homes (p0.1, p0.2.1, p0.2.2.1, p0.2.2.2)) fun x20 =>
    if !x20 then (
      some 3)
    else (
      bd (m_triviumref23_names v9) fun x23 =>
      if !x23 then (
        some 4)
      else (
        lp (m_triviumref23_net_l10 p0) 0)))
def m_triviumref23_Nets_l1 (p0 : (List D_api_Net)) : (Int × (List ByteArray)) → Option ((Int × (List ByteArray)) ⊕ ((List ByteArray)))
  | (v2, v3) =>
    if decide (v2 < (p0.length : Int)) then (
      bd (rd p0 v2) fun x5 =>
      bd (ap 16 v3 [x5.1]) fun x7 =>
      some (.inl (wi64 (v2 + 1), x7)))
    else (
      some (.inr v3))
def m_triviumref23_Nets_l2 (p0 : (List D_api_Net)) : Int → Option ((Int) ⊕ (Int))
  | v12 =>
    if decide (v12 < (p0.length : Int)) then (
      bd (rd p0 v12) fun x14 =>
      bd (m_triviumref23_net x14) fun x16 =>
      if !decide (x16 = 0) then (
        some (.inr x16))
      else (
        some (.inl (wi64 (v12 + 1)))))
    else (
      some (.inr 0))
def m_triviumref23_Nets (p0 : (List D_api_Net)) : Option (Int) :=
  bd (lp (m_triviumref23_Nets_l1 p0) (0, [])) fun v1 =>
  bd (m_triviumref23_names v1) fun x9 =>
  if !x9 then (
    some 1)
  else (
    lp (m_triviumref23_Nets_l2 p0) 0)
def m_triviumlaw23_works  : Option (Bool) :=
  bd (m_formed_Nets [((bs [97]), [], [], []), ((bs [97]), [], [], [])]) fun x1 =>
  if decide (x1 = 1) then (
    bd (m_formed_Nets [((bs [97]), [], [], [])]) fun x4 =>
    some (decide (x4 = 0)))
  else (
    some false)
def m_triviumlaw23_FormNets_l1 (p1 : ByteArray) (x1 : (List D_api_Net)) : Int → Option ((Int) ⊕ (Bool))
  | v13 =>
    if decide (v13 < (x1.length : Int)) then (
      bd (rd x1 v13) fun x15 =>
      bd (m_formed_Node x15 p1) fun x17 =>
      bd (rd x1 v13) fun x19 =>
      bd (m_formed_Link x19 p1) fun x21 =>
      bd (
        bd (rd x1 v13) fun x24 =>
        bd (m_triviumref23_Node x24 p1) fun x26 =>
        if !(x17.2 == (decide (0 ≤ x26))) then (
          some true)
        else (
          bd (rd x1 v13) fun x29 =>
          bd (m_triviumref23_Node x29 p1) fun x31 =>
          if !decide (x17.1 = (max x31 0)) then (
            some true)
          else (
            bd (rd x1 v13) fun x34 =>
            bd (m_triviumref23_Link x34 p1) fun x36 =>
            if !(x21.2 == (decide (0 ≤ x36))) then (
              some true)
            else (
              bd (rd x1 v13) fun x39 =>
              bd (m_triviumref23_Link x39 p1) fun x41 =>
              some (!decide (x21.1 = (max x41 0))))))) fun v23 =>
      if v23 then (
        some (.inr false))
      else (
        some (.inl (wi64 (v13 + 1)))))
    else (
      bd (m_triviumref22_Clean x1) fun x44 =>
      bd (m_formed_Nets x44) fun x46 =>
      bd (m_triviumref23_Nets x1) fun x48 =>
      if decide (x46 = x48) then (
        bd (m_triviumlaw23_works) fun x51 =>
        some (.inr x51))
      else (
        some (.inr false)))
def m_triviumlaw23_FormNets (p0 : (List D_api_Net)) (p1 : ByteArray) : Option (Bool) :=
  bd (m_triviumref22_Clean p0) fun x1 =>
  bd (m_triviumref22_Clean x1) fun x3 =>
  bd (m_formed_Find x3 p1) fun x5 =>
  bd (m_triviumref23_Find x1 p1) fun x7 =>
  bd (
    if !(x5.2 == (decide (0 ≤ x7))) then (
      some true)
    else (
      if x5.2 then (
        some (!sq x5.1.1 p1))
      else (
        some false))) fun v9 =>
  if v9 then (
    some false)
  else (
    lp (m_triviumlaw23_FormNets_l1 p1 x1) 0)
end
end Go.Proofs.YtbmogniipgmkiaaGreat.AP
/- The code comes to the printed functions (printed by a program of ours). -/
namespace Go.Proofs.YtbmogniipgmkiaaGreat.AE
open Go Go.RowKit Go.Proofs.YtbmogniipgmkiaaGreat.AP
set_option linter.unusedVariables false
set_option maxRecDepth 20000
theorem en19 : Enters Tryz.prog 19 := ⟨_, Tryz.func19, rfl, rfl⟩
theorem k_triviumref22_short {p0 : ByteArray} {y : ByteArray} (h : m_triviumref22_short p0 = some y) : Spec Tryz.prog 19 [(.v .str p0)] (.v .str y) [] := by
  rw [m_triviumref22_short] at h
  refine enterN [(.v .str p0)] 8 Tryz.func19 rfl rfl rfl ?_
  refine T.seq ?_
  refine T.region ?_
  refine Run.go (Ev.assign rfl rfl) ?_
  refine Run.nil ?_
  refine T.seq ?_
  refine T.region ?_
  refine Run.go (Ev.move rfl rfl) ?_
  refine Run.go (Ev.move rfl rfl) ?_
  refine Run.go (Ev.len X rfl rfl rfl rfl) ?_
  refine Run.go (Ev.min rfl rfl rfl) ?_
  obtain ⟨x1, e2, h⟩ := bdS h
  refine Run.go (Ev.e_cs X e2 rfl rfl rfl (fun _ h => by cases h) (fun _ => rfl) (fun _ _ => cutAt_of rfl) (fun h => by cases h)) ?_
  refine Run.go (Ev.assign rfl rfl) ?_
  refine Run.nil ?_
  refine T.ret ?_
  cases h
  exact Fin.one rfl .v
theorem en37 : Enters Tryz.prog 37 := ⟨_, Tryz.func37, rfl, rfl⟩
theorem k_triviumref02_Clean {p0 : (List Int)} {p1 : Int} {y : (List Int)} (h : m_triviumref02_Clean p0 p1 = some y) : Spec Tryz.prog 37 [(.v (.sl (.int .u64)) p0), (.v (.int .i64) p1)] (.v (.sl (.int .u64)) y) [] := by
  rw [m_triviumref02_Clean] at h
  refine enterN [(.v (.sl (.int .u64)) p0), (.v (.int .i64) p1)] 45 Tryz.func37 rfl rfl rfl ?_
  refine T.seq ?_
  refine T.region ?_
  refine Run.go (Ev.assign rfl rfl) ?_
  refine Run.nil ?_
  refine T.seq ?_
  refine T.region ?_
  refine Run.go (Ev.build X 1 rfl rfl rfl rfl rfl rfl rfl rfl) ?_
  refine Run.go (Ev.assign rfl rfl) ?_
  refine Run.nil ?_
  obtain ⟨v1, hv, h⟩ := bdS h
  refine T.cut (fun _ : Unit => (⟨[(5, .own 6)], [(6, .arr 81 (.int .u64) v1)], 45⟩ : St)) (fun _ => True) ?_ (fun _ _ => ?_)
  · replace h := hv
    clear hv
    refine T.seq ?_
    refine T.region ?_
    refine Run.go (Ev.assign rfl rfl) ?_
    refine Run.nil ?_
    refine T.block ?_
    refine T.loop (LoopT.ghost (Ghost.only [(1, 19)] [0, 1, 5, 6] rfl) (LoopT.run (fun q : Int × (List Int) => (⟨[(0, .v (.sl (.int .u64)) p0), (1, .v (.int .i64) p1), (5, .own 19), (6, .v (.int .i64) q.1)], [(19, .arr 81 (.int .u64) q.2)], 45⟩ : St)) (fun q z1 h hz1 => ?_) h))
    obtain ⟨v2, v3⟩ := q
    dsimp only
    rw [m_triviumref02_Clean_l1] at h
    refine T.seq ?_
    obtain ⟨v4, hv, h⟩ := bdS h
    refine T.cut (fun _ : Unit => (⟨[(0, .v (.sl (.int .u64)) p0), (1, .v (.int .i64) p1), (5, .own 19), (6, .v (.int .i64) v2), (16, .v .bool v4)], [(19, .arr 81 (.int .u64) v3)], 45⟩ : St)) (fun _ => True) ?_ (fun _ _ => ?_)
    · replace h := hv
      clear hv
      refine T.region ?_
      refine Run.go (Ev.move rfl rfl) ?_
      refine Run.go (Ev.move rfl rfl) ?_
      refine Run.go (Ev.len X rfl rfl rfl rfl) ?_
      refine Run.go (Ev.int rfl rfl rfl rfl trivial) ?_
      refine Run.go (Ev.move rfl rfl) ?_
      rcases boolCases (decide (v2 < (p0.length : Int))) with hb5 | hb5
      · replace h := ifT hb5 h
        refine Run.on rfl rfl rfl hb5 (Ev.move rfl rfl) ?_
        refine Run.on rfl rfl rfl hb5 (Ev.move rfl rfl) ?_
        refine Run.on rfl rfl rfl hb5 (Ev.int rfl rfl rfl rfl trivial) ?_
        refine Run.go (Ev.pickT rfl hb5 rfl rfl) ?_
        refine Run.nil ?_
        cases h
        exact ⟨(), trivial, Ghost.only [(19, 19)] [0, 1, 5, 6, 16] rfl⟩
      · replace h := ifF hb5 h
        refine Run.offT rfl rfl rfl rfl hb5 ?_
        refine Run.offT rfl rfl rfl rfl hb5 ?_
        refine Run.offT rfl rfl rfl rfl hb5 ?_
        refine Run.go (Ev.pickF rfl hb5 rfl rfl) ?_
        refine Run.nil ?_
        cases h
        exact ⟨(), trivial, Ghost.only [(19, 19)] [0, 1, 5, 6, 16] rfl⟩
    · refine T.cond rfl (fun hb6 => ?_) (fun hb6 => ?_)
      · replace h := ifT hb6 h
        refine T.skip ?_
        refine T.seq ?_
        refine T.block ?_
        refine T.region ?_
        refine Run.go (Ev.move rfl rfl) ?_
        refine Run.go (Ev.move rfl rfl) ?_
        refine Run.go (Ev.move rfl rfl) ?_
        obtain ⟨x7, e8, h⟩ := bdS h
        refine Run.go (Ev.e_rd X e8 rfl rfl rfl rfl) ?_
        refine Run.go (Ev.load X rfl rfl rfl) ?_
        obtain ⟨x9, e10, h⟩ := bdS h
        refine Run.go (Ev.e_rm e10 rfl rfl rfl) ?_
        refine Run.go (Ev.build X 25 rfl rfl rfl rfl rfl rfl rfl rfl) ?_
        obtain ⟨x11, e12, h⟩ := bdS h
        refine Run.go (Ev.e_ap X 26 e12 rfl rfl rfl (.own rfl) rfl rfl rfl rfl rfl) ?_
        refine Run.go (Ev.assign rfl rfl) ?_
        refine Run.nil ?_
        refine T.region ?_
        refine Run.go (Ev.move rfl rfl) ?_
        refine Run.go (Ev.int rfl rfl rfl rfl trivial) ?_
        refine Run.go (Ev.assign rfl rfl) ?_
        refine Run.nil ?_
        cases h
        exact LoopT.ghost (Ghost.only [(26, 19)] [0, 1, 5, 6] rfl) hz1
      · replace h := ifF hb6 h
        refine T.exit ?_
        cases h
        cases hz1
        exact ⟨(), trivial, Ghost.only [(19, 6)] [5] rfl⟩
  · obtain ⟨v13, hv, h⟩ := bdS h
    refine T.cut (fun _ : Unit => (⟨[(5, .v (.sl (.int .u64)) v13)], [], 45⟩ : St)) (fun _ => True) ?_ (fun _ _ => ?_)
    · replace h := hv
      clear hv
      refine T.block ?_
      refine T.loop (LoopT.ghost (Ghost.trans (Ghost.firmAll (id := 6) rfl) (Ghost.only [] [5] rfl)) (LoopT.run (fun q : (List Int) => (⟨[(5, .v (.sl (.int .u64)) q)], [], 45⟩ : St)) (fun v14 z1 h hz1 => ?_) h))
      rw [m_triviumref02_Clean_l2] at h
      refine T.seq ?_
      obtain ⟨v15, hv, h⟩ := bdS h
      refine T.cut (fun _ : Unit => (⟨[(5, .v (.sl (.int .u64)) v14), (38, .v .bool v15)], [], 45⟩ : St)) (fun _ => True) ?_ (fun _ _ => ?_)
      · replace h := hv
        clear hv
        refine T.region ?_
        refine Run.go (Ev.move rfl rfl) ?_
        refine Run.go (Ev.len X rfl rfl rfl rfl) ?_
        refine Run.go (Ev.int rfl rfl rfl rfl trivial) ?_
        refine Run.go (Ev.move rfl rfl) ?_
        rcases boolCases (decide (0 < (v14.length : Int))) with hb16 | hb16
        · replace h := ifT hb16 h
          refine Run.on rfl rfl rfl hb16 (Ev.move rfl rfl) ?_
          refine Run.on rfl rfl rfl hb16 (Ev.move rfl rfl) ?_
          refine Run.on rfl rfl rfl hb16 (Ev.len X rfl rfl rfl rfl) ?_
          refine Run.on rfl rfl rfl hb16 (Ev.int rfl rfl rfl rfl trivial) ?_
          obtain ⟨x17, e18, h⟩ := bdS h
          refine Run.on rfl rfl rfl hb16 (Ev.e_rd X e18 rfl rfl rfl rfl) ?_
          refine Run.on rfl rfl rfl hb16 (Ev.load X rfl rfl rfl) ?_
          refine Run.on rfl rfl rfl hb16 (Ev.int rfl rfl rfl rfl trivial) ?_
          refine Run.go (Ev.pickT rfl hb16 rfl rfl) ?_
          refine Run.nil ?_
          cases h
          exact ⟨(), trivial, Ghost.only [] [5, 38] rfl⟩
        · replace h := ifF hb16 h
          refine Run.offT rfl rfl rfl rfl hb16 ?_
          refine Run.offT rfl rfl rfl rfl hb16 ?_
          refine Run.offT rfl rfl rfl rfl hb16 ?_
          refine Run.offT rfl rfl rfl rfl hb16 ?_
          refine Run.offT rfl rfl rfl rfl hb16 ?_
          refine Run.offT rfl rfl rfl rfl hb16 ?_
          refine Run.offT rfl rfl rfl rfl hb16 ?_
          refine Run.go (Ev.pickF rfl hb16 rfl rfl) ?_
          refine Run.nil ?_
          cases h
          exact ⟨(), trivial, Ghost.only [] [5, 38] rfl⟩
      · refine T.cond rfl (fun hb19 => ?_) (fun hb19 => ?_)
        · replace h := ifT hb19 h
          refine T.skip ?_
          refine T.block ?_
          refine T.region ?_
          refine Run.go (Ev.move rfl rfl) ?_
          refine Run.go (Ev.move rfl rfl) ?_
          refine Run.go (Ev.len X rfl rfl rfl rfl) ?_
          refine Run.go (Ev.int rfl rfl rfl rfl trivial) ?_
          obtain ⟨x20, e21, h⟩ := bdS h
          refine Run.go (Ev.e_ct X e21 rfl rfl rfl (fun _ h => by cases h) (fun _ => rfl) (fun _ _ => cutAt_of rfl) (fun h => by cases h)) ?_
          refine Run.go (Ev.assign rfl rfl) ?_
          refine Run.nil ?_
          cases h
          exact LoopT.ghost (Ghost.only [] [5] rfl) hz1
        · replace h := ifF hb19 h
          refine T.exit ?_
          cases h
          cases hz1
          exact ⟨(), trivial, Ghost.only [] [5] rfl⟩
    · refine T.seq ?_
      refine T.region ?_
      refine Run.go (Ev.move rfl rfl) ?_
      refine Run.go (Ev.assign rfl rfl) ?_
      refine Run.nil ?_
      refine T.ret ?_
      cases h
      exact Fin.one rfl .v
theorem en41 : Enters Tryz.prog 41 := ⟨_, Tryz.func41, rfl, rfl⟩
theorem k_triviumref07_Clean {p0 : D_api_Int} {p1 : Int} {y : D_api_Int} (h : m_triviumref07_Clean p0 p1 = some y) : Spec Tryz.prog 41 [(.v Y_api_Int p0), (.v (.int .i64) p1)] (.v Y_api_Int y) [] := by
  rw [m_triviumref07_Clean] at h
  refine enterN [(.v Y_api_Int p0), (.v (.int .i64) p1)] 19 Tryz.func41 rfl rfl rfl ?_
  refine T.seq ?_
  refine T.region ?_
  refine Run.go (Ev.box 1 rfl rfl rfl rfl) ?_
  refine Run.go (Ev.allocN X 2 rfl rfl rfl) ?_
  refine Run.nil ?_
  refine T.seq ?_
  refine T.region ?_
  refine Run.go (Ev.fieldBox X rfl rfl rfl rfl rfl) ?_
  refine Run.go (Ev.loadCell X rfl rfl rfl rfl rfl rfl) ?_
  refine Run.go (Ev.move rfl rfl) ?_
  obtain ⟨x1, e2, h⟩ := bdS h
  refine Run.go (Ev.callC en37 (k_triviumref02_Clean e2) rfl (.cons .v (.cons .v .nil)) rfl rfl) ?_
  refine Run.go (Ev.assign rfl rfl) ?_
  refine Run.nil ?_
  refine T.seq ?_
  refine T.region ?_
  refine Run.go (Ev.fieldBox X rfl rfl rfl rfl rfl) ?_
  refine Run.go (Ev.loadCell X rfl rfl rfl rfl rfl rfl) ?_
  refine Run.go (Ev.move rfl rfl) ?_
  rcases boolCases p0.1 with hb3 | hb3
  · replace h := ifT hb3 h
    refine Run.on rfl rfl rfl hb3 (Ev.move rfl rfl) ?_
    refine Run.on rfl rfl rfl hb3 (Ev.len X rfl rfl rfl rfl) ?_
    refine Run.on rfl rfl rfl hb3 (Ev.int rfl rfl rfl rfl trivial) ?_
    refine Run.go (Ev.pickT rfl hb3 rfl rfl) ?_
    refine Run.go (Ev.move rfl rfl) ?_
    refine Run.go (Ev.struct X pl56 rfl rfl rfl rfl rfl rfl rfl rfl) ?_
    refine Run.do_ (Ev.storeBox X rfl rfl rfl rfl rfl rfl rfl) ?_
    refine Run.nil ?_
    refine T.ret ?_
    cases h
    exact Fin.cell X rfl rfl rfl rfl rfl
  · replace h := ifF hb3 h
    refine Run.offT rfl rfl rfl rfl hb3 ?_
    refine Run.offT rfl rfl rfl rfl hb3 ?_
    refine Run.offT rfl rfl rfl rfl hb3 ?_
    refine Run.go (Ev.pickF rfl hb3 rfl rfl) ?_
    refine Run.go (Ev.move rfl rfl) ?_
    refine Run.go (Ev.struct X pl56 rfl rfl rfl rfl rfl rfl rfl rfl) ?_
    refine Run.do_ (Ev.storeBox X rfl rfl rfl rfl rfl rfl rfl) ?_
    refine Run.nil ?_
    refine T.ret ?_
    cases h
    exact Fin.cell X rfl rfl rfl rfl rfl
theorem en90 : Enters Tryz.prog 90 := ⟨_, Tryz.func90, rfl, rfl⟩
theorem k_triviumref02_Trim {p0 : (List Int)} {y : (List Int)} (h : m_triviumref02_Trim p0 = some y) : Spec Tryz.prog 90 [(.v (.sl (.int .i64)) p0)] (.v (.sl (.int .i64)) y) [] := by
  rw [m_triviumref02_Trim] at h
  refine enterN [(.v (.sl (.int .i64)) p0)] 23 Tryz.func90 rfl rfl rfl ?_
  refine T.seq ?_
  refine T.region ?_
  refine Run.go (Ev.assign rfl rfl) ?_
  refine Run.nil ?_
  refine T.seq ?_
  refine T.region ?_
  refine Run.go (Ev.move rfl rfl) ?_
  refine Run.go (Ev.len X rfl rfl rfl rfl) ?_
  refine Run.go (Ev.assign rfl rfl) ?_
  refine Run.nil ?_
  obtain ⟨v1, hv, h⟩ := bdS h
  refine T.cut (fun _ : Unit => (⟨[(0, .v (.sl (.int .i64)) p0), (3, .v (.int .i64) v1)], [], 23⟩ : St)) (fun _ => True) ?_ (fun _ _ => ?_)
  · replace h := hv
    clear hv
    refine T.block ?_
    refine T.loop (LoopT.ghost (Ghost.only [] [0, 3] rfl) (LoopT.run (fun q : Int => (⟨[(0, .v (.sl (.int .i64)) p0), (3, .v (.int .i64) q)], [], 23⟩ : St)) (fun v2 z1 h hz1 => ?_) h))
    rw [m_triviumref02_Trim_l1] at h
    refine T.seq ?_
    obtain ⟨v3, hv, h⟩ := bdS h
    refine T.cut (fun _ : Unit => (⟨[(0, .v (.sl (.int .i64)) p0), (3, .v (.int .i64) v2), (15, .v .bool v3)], [], 23⟩ : St)) (fun _ => True) ?_ (fun _ _ => ?_)
    · replace h := hv
      clear hv
      refine T.region ?_
      refine Run.go (Ev.move rfl rfl) ?_
      refine Run.go (Ev.int rfl rfl rfl rfl trivial) ?_
      refine Run.go (Ev.move rfl rfl) ?_
      rcases boolCases (decide (0 < v2)) with hb4 | hb4
      · replace h := ifT hb4 h
        refine Run.on rfl rfl rfl hb4 (Ev.move rfl rfl) ?_
        refine Run.on rfl rfl rfl hb4 (Ev.move rfl rfl) ?_
        refine Run.on rfl rfl rfl hb4 (Ev.int rfl rfl rfl rfl trivial) ?_
        obtain ⟨x5, e6, h⟩ := bdS h
        refine Run.on rfl rfl rfl hb4 (Ev.e_rd X e6 rfl rfl rfl rfl) ?_
        refine Run.on rfl rfl rfl hb4 (Ev.load X rfl rfl rfl) ?_
        refine Run.on rfl rfl rfl hb4 (Ev.int rfl rfl rfl rfl trivial) ?_
        refine Run.go (Ev.pickT rfl hb4 rfl rfl) ?_
        refine Run.nil ?_
        cases h
        exact ⟨(), trivial, Ghost.only [] [0, 3, 15] rfl⟩
      · replace h := ifF hb4 h
        refine Run.offT rfl rfl rfl rfl hb4 ?_
        refine Run.offT rfl rfl rfl rfl hb4 ?_
        refine Run.offT rfl rfl rfl rfl hb4 ?_
        refine Run.offT rfl rfl rfl rfl hb4 ?_
        refine Run.offT rfl rfl rfl rfl hb4 ?_
        refine Run.offT rfl rfl rfl rfl hb4 ?_
        refine Run.go (Ev.pickF rfl hb4 rfl rfl) ?_
        refine Run.nil ?_
        cases h
        exact ⟨(), trivial, Ghost.only [] [0, 3, 15] rfl⟩
    · refine T.cond rfl (fun hb7 => ?_) (fun hb7 => ?_)
      · replace h := ifT hb7 h
        refine T.skip ?_
        refine T.block ?_
        refine T.region ?_
        refine Run.go (Ev.move rfl rfl) ?_
        refine Run.go (Ev.int rfl rfl rfl rfl trivial) ?_
        refine Run.go (Ev.assign rfl rfl) ?_
        refine Run.nil ?_
        cases h
        exact LoopT.ghost (Ghost.only [] [0, 3] rfl) hz1
      · replace h := ifF hb7 h
        refine T.exit ?_
        cases h
        cases hz1
        exact ⟨(), trivial, Ghost.only [] [0, 3] rfl⟩
  · refine T.seq ?_
    refine T.region ?_
    refine Run.go (Ev.build X 1 rfl rfl rfl rfl rfl rfl rfl rfl) ?_
    refine Run.go (Ev.move rfl rfl) ?_
    refine Run.go (Ev.move rfl rfl) ?_
    obtain ⟨x8, e9, h⟩ := bdS h
    refine Run.go (Ev.e_ct X e9 rfl rfl rfl (fun _ h => by cases h) (fun _ => rfl) (fun _ _ => cutAt_of rfl) (fun h => by cases h)) ?_
    obtain ⟨x10, e11, h⟩ := bdS h
    refine Run.go (Ev.e_ap X 2 e11 rfl rfl rfl .v rfl rfl rfl rfl rfl) ?_
    refine Run.go (Ev.assign rfl rfl) ?_
    refine Run.nil ?_
    refine T.ret ?_
    cases h
    exact Fin.one rfl (.own rfl)
theorem en69 : Enters Tryz.prog 69 := ⟨_, Tryz.func69, rfl, rfl⟩
theorem k_triviumref02_MulAdd {p0 : (List Int)} {p1 : Int} {p2 : Int} {y : (List Int)} (h : m_triviumref02_MulAdd p0 p1 p2 = some y) : Spec Tryz.prog 69 [(.v (.sl (.int .i64)) p0), (.v (.int .i64) p1), (.v (.int .i64) p2)] (.v (.sl (.int .i64)) y) [] := by
  rw [m_triviumref02_MulAdd] at h
  refine enterN [(.v (.sl (.int .i64)) p0), (.v (.int .i64) p1), (.v (.int .i64) p2)] 42 Tryz.func69 rfl rfl rfl ?_
  refine T.seq ?_
  refine T.region ?_
  refine Run.go (Ev.assign rfl rfl) ?_
  refine Run.nil ?_
  refine T.seq ?_
  refine T.region ?_
  refine Run.go (Ev.build X 1 rfl rfl rfl rfl rfl rfl rfl rfl) ?_
  refine Run.go (Ev.assign rfl rfl) ?_
  refine Run.nil ?_
  obtain ⟨⟨v1, v2⟩, hv, h⟩ := bdS h
  refine T.cut (fun _ : Unit => (⟨[(2, .v (.int .i64) v1), (7, .own 5)], [(5, .arr 3 (.int .i64) v2)], 42⟩ : St)) (fun _ => True) ?_ (fun _ _ => ?_)
  · replace h := hv
    clear hv
    refine T.seq ?_
    refine T.region ?_
    refine Run.go (Ev.assign rfl rfl) ?_
    refine Run.nil ?_
    refine T.block ?_
    refine T.loop (LoopT.ghost (Ghost.only [(1, 15)] [0, 1, 2, 7, 8] rfl) (LoopT.run (fun q : Int × Int × (List Int) => (⟨[(0, .v (.sl (.int .i64)) p0), (1, .v (.int .i64) p1), (2, .v (.int .i64) q.1), (7, .own 15), (8, .v (.int .i64) q.2.1)], [(15, .arr 3 (.int .i64) q.2.2)], 42⟩ : St)) (fun q z1 h hz1 => ?_) h))
    obtain ⟨v3, v4, v5⟩ := q
    dsimp only
    rw [m_triviumref02_MulAdd_l1] at h
    refine T.seq ?_
    refine T.seq ?_
    refine T.region ?_
    refine Run.go (Ev.move rfl rfl) ?_
    refine Run.go (Ev.move rfl rfl) ?_
    refine Run.go (Ev.len X rfl rfl rfl rfl) ?_
    refine Run.go (Ev.int rfl rfl rfl rfl trivial) ?_
    refine Run.nil ?_
    refine T.cond rfl (fun hb6 => ?_) (fun hb6 => ?_)
    · replace h := ifT hb6 h
      refine T.skip ?_
      refine T.seq ?_
      refine T.block ?_
      refine T.seq ?_
      refine T.region ?_
      refine Run.go (Ev.move rfl rfl) ?_
      refine Run.go (Ev.move rfl rfl) ?_
      refine Run.go (Ev.move rfl rfl) ?_
      obtain ⟨x7, e8, h⟩ := bdS h
      refine Run.go (Ev.e_rd X e8 rfl rfl rfl rfl) ?_
      refine Run.go (Ev.load X rfl rfl rfl) ?_
      refine Run.go (Ev.move rfl rfl) ?_
      refine Run.go (Ev.int rfl rfl rfl rfl trivial) ?_
      refine Run.go (Ev.int rfl rfl rfl rfl trivial) ?_
      refine Run.go (Ev.assign rfl rfl) ?_
      refine Run.nil ?_
      refine T.seq ?_
      refine T.region ?_
      refine Run.go (Ev.move rfl rfl) ?_
      refine Run.go (Ev.move rfl rfl) ?_
      obtain ⟨x9, e10, h⟩ := bdS h
      refine Run.go (Ev.e_rm e10 rfl rfl rfl) ?_
      refine Run.go (Ev.build X 19 rfl rfl rfl rfl rfl rfl rfl rfl) ?_
      obtain ⟨x11, e12, h⟩ := bdS h
      refine Run.go (Ev.e_ap X 20 e12 rfl rfl rfl (.own rfl) rfl rfl rfl rfl rfl) ?_
      refine Run.go (Ev.assign rfl rfl) ?_
      refine Run.nil ?_
      refine T.region ?_
      refine Run.go (Ev.move rfl rfl) ?_
      obtain ⟨x13, e14, h⟩ := bdS h
      refine Run.go (Ev.e_qd e14 rfl rfl rfl) ?_
      refine Run.go (Ev.assign rfl rfl) ?_
      refine Run.nil ?_
      refine T.region ?_
      refine Run.go (Ev.move rfl rfl) ?_
      refine Run.go (Ev.int rfl rfl rfl rfl trivial) ?_
      refine Run.go (Ev.assign rfl rfl) ?_
      refine Run.nil ?_
      cases h
      exact LoopT.ghost (Ghost.only [(20, 15)] [0, 1, 2, 7, 8] rfl) hz1
    · replace h := ifF hb6 h
      refine T.exit ?_
      cases h
      cases hz1
      exact ⟨(), trivial, Ghost.only [(15, 5)] [2, 7] rfl⟩
  · obtain ⟨v15, hv, h⟩ := bdS h
    refine T.cut (fun _ : Unit => (⟨[(7, .own 24)], [(24, .arr 3 (.int .i64) v15)], 42⟩ : St)) (fun _ => True) ?_ (fun _ _ => ?_)
    · replace h := hv
      clear hv
      refine T.block ?_
      refine T.loop (LoopT.ghost (Ghost.only [(5, 34)] [2, 7] rfl) (LoopT.run (fun q : Int × (List Int) => (⟨[(2, .v (.int .i64) q.1), (7, .own 34)], [(34, .arr 3 (.int .i64) q.2)], 42⟩ : St)) (fun q z1 h hz1 => ?_) h))
      obtain ⟨v16, v17⟩ := q
      dsimp only
      rw [m_triviumref02_MulAdd_l2] at h
      refine T.seq ?_
      refine T.seq ?_
      refine T.region ?_
      refine Run.go (Ev.move rfl rfl) ?_
      refine Run.go (Ev.int rfl rfl rfl rfl trivial) ?_
      refine Run.nil ?_
      refine T.cond rfl (fun hb18 => ?_) (fun hb18 => ?_)
      · replace h := ifT hb18 h
        refine T.skip ?_
        refine T.block ?_
        refine T.seq ?_
        refine T.region ?_
        refine Run.go (Ev.move rfl rfl) ?_
        refine Run.go (Ev.move rfl rfl) ?_
        obtain ⟨x19, e20, h⟩ := bdS h
        refine Run.go (Ev.e_rm e20 rfl rfl rfl) ?_
        refine Run.go (Ev.build X 38 rfl rfl rfl rfl rfl rfl rfl rfl) ?_
        obtain ⟨x21, e22, h⟩ := bdS h
        refine Run.go (Ev.e_ap X 39 e22 rfl rfl rfl (.own rfl) rfl rfl rfl rfl rfl) ?_
        refine Run.go (Ev.assign rfl rfl) ?_
        refine Run.nil ?_
        refine T.region ?_
        refine Run.go (Ev.move rfl rfl) ?_
        obtain ⟨x23, e24, h⟩ := bdS h
        refine Run.go (Ev.e_qd e24 rfl rfl rfl) ?_
        refine Run.go (Ev.assign rfl rfl) ?_
        refine Run.nil ?_
        cases h
        exact LoopT.ghost (Ghost.only [(39, 34)] [2, 7] rfl) hz1
      · replace h := ifF hb18 h
        refine T.exit ?_
        cases h
        cases hz1
        exact ⟨(), trivial, Ghost.only [(34, 24)] [7] rfl⟩
    · refine T.seq ?_
      refine T.region ?_
      refine Run.go (Ev.move rfl rfl) ?_
      refine Run.ghost (Ghost.firmAll (id := 24) rfl) ?_
      obtain ⟨x25, e26, h⟩ := bdS h
      refine Run.go (Ev.callC en90 (k_triviumref02_Trim e26) rfl (.cons .v .nil) rfl rfl) ?_
      refine Run.go (Ev.assign rfl rfl) ?_
      refine Run.nil ?_
      refine T.ret ?_
      cases h
      exact Fin.one rfl .v
theorem en42 : Enters Tryz.prog 42 := ⟨_, Tryz.func42, rfl, rfl⟩
theorem k_triviumref02_Of {p0 : (List Int)} {y : (List Int)} (h : m_triviumref02_Of p0 = some y) : Spec Tryz.prog 42 [(.v (.sl (.int .u64)) p0)] (.v (.sl (.int .i64)) y) [] := by
  rw [m_triviumref02_Of] at h
  refine enterN [(.v (.sl (.int .u64)) p0)] 22 Tryz.func42 rfl rfl rfl ?_
  refine T.seq ?_
  refine T.region ?_
  refine Run.go (Ev.assign rfl rfl) ?_
  refine Run.nil ?_
  refine T.seq ?_
  refine T.region ?_
  refine Run.go (Ev.build X 1 rfl rfl rfl rfl rfl rfl rfl rfl) ?_
  refine Run.go (Ev.assign rfl rfl) ?_
  refine Run.nil ?_
  obtain ⟨v1, hv, h⟩ := bdS h
  refine T.cut (fun _ : Unit => (⟨[(3, .v (.sl (.int .i64)) v1)], [], 22⟩ : St)) (fun _ => True) ?_ (fun _ _ => ?_)
  · replace h := hv
    clear hv
    refine T.seq ?_
    refine T.region ?_
    refine Run.go (Ev.move rfl rfl) ?_
    refine Run.go (Ev.len X rfl rfl rfl rfl) ?_
    refine Run.go (Ev.int rfl rfl rfl rfl trivial) ?_
    refine Run.go (Ev.assign rfl rfl) ?_
    refine Run.nil ?_
    refine T.block ?_
    refine T.loop (LoopT.ghost (Ghost.trans (Ghost.firmAll (id := 1) rfl) (Ghost.only [] [0, 3, 4] rfl)) (LoopT.run (fun q : (List Int) × Int => (⟨[(0, .v (.sl (.int .u64)) p0), (3, .v (.sl (.int .i64)) q.1), (4, .v (.int .i64) q.2)], [], 22⟩ : St)) (fun q z1 h hz1 => ?_) h))
    obtain ⟨v2, v3⟩ := q
    dsimp only
    rw [m_triviumref02_Of_l1] at h
    refine T.seq ?_
    refine T.seq ?_
    refine T.region ?_
    refine Run.go (Ev.move rfl rfl) ?_
    refine Run.go (Ev.int rfl rfl rfl rfl trivial) ?_
    refine Run.nil ?_
    refine T.cond rfl (fun hb4 => ?_) (fun hb4 => ?_)
    · replace h := ifT hb4 h
      refine T.skip ?_
      refine T.seq ?_
      refine T.block ?_
      refine T.region ?_
      refine Run.go (Ev.move rfl rfl) ?_
      refine Run.go (Ev.move rfl rfl) ?_
      refine Run.go (Ev.move rfl rfl) ?_
      obtain ⟨x5, e6, h⟩ := bdS h
      refine Run.go (Ev.e_rd X e6 rfl rfl rfl rfl) ?_
      refine Run.go (Ev.load X rfl rfl rfl) ?_
      obtain ⟨x7, e8, h⟩ := bdS h
      refine Run.go (Ev.e_rm e8 rfl rfl rfl) ?_
      refine Run.go (Ev.conv X rfl rfl rfl rfl) ?_
      obtain ⟨x9, e10, h⟩ := bdS h
      refine Run.go (Ev.callC en69 (k_triviumref02_MulAdd e10) rfl (.cons .v (.cons .v (.cons .v .nil))) rfl rfl) ?_
      refine Run.go (Ev.assign rfl rfl) ?_
      refine Run.nil ?_
      refine T.region ?_
      refine Run.go (Ev.move rfl rfl) ?_
      refine Run.go (Ev.int rfl rfl rfl rfl trivial) ?_
      refine Run.go (Ev.assign rfl rfl) ?_
      refine Run.nil ?_
      cases h
      exact LoopT.ghost (Ghost.only [] [0, 3, 4] rfl) hz1
    · replace h := ifF hb4 h
      refine T.exit ?_
      cases h
      cases hz1
      exact ⟨(), trivial, Ghost.only [] [3] rfl⟩
  · refine T.seq ?_
    refine T.region ?_
    refine Run.go (Ev.move rfl rfl) ?_
    refine Run.go (Ev.assign rfl rfl) ?_
    refine Run.nil ?_
    refine T.ret ?_
    cases h
    exact Fin.one rfl .v
theorem en68 : Enters Tryz.prog 68 := ⟨_, Tryz.func68, rfl, rfl⟩
theorem k_triviumref07_made {p0 : Bool} {p1 : (List Int)} {y : D_triviumref07_Z} (h : m_triviumref07_made p0 p1 = some y) : Spec Tryz.prog 68 [(.v .bool p0), (.v (.sl (.int .i64)) p1)] (.v Y_triviumref07_Z y) [] := by
  rw [m_triviumref07_made] at h
  refine enterN [(.v .bool p0), (.v (.sl (.int .i64)) p1)] 13 Tryz.func68 rfl rfl rfl ?_
  refine T.seq ?_
  refine T.region ?_
  refine Run.go (Ev.allocN X 1 rfl rfl rfl) ?_
  refine Run.nil ?_
  refine T.seq ?_
  refine T.region ?_
  refine Run.go (Ev.move rfl rfl) ?_
  refine Run.go (Ev.move rfl rfl) ?_
  rcases boolCases p0 with hb1 | hb1
  · replace h := ifT hb1 h
    refine Run.on rfl rfl rfl hb1 (Ev.move rfl rfl) ?_
    refine Run.on rfl rfl rfl hb1 (Ev.len X rfl rfl rfl rfl) ?_
    refine Run.on rfl rfl rfl hb1 (Ev.int rfl rfl rfl rfl trivial) ?_
    refine Run.go (Ev.pickT rfl hb1 rfl rfl) ?_
    refine Run.go (Ev.move rfl rfl) ?_
    refine Run.go (Ev.struct X pl86 rfl rfl rfl rfl rfl rfl rfl rfl) ?_
    refine Run.do_ (Ev.storeBox X rfl rfl rfl rfl rfl rfl rfl) ?_
    refine Run.nil ?_
    refine T.ret ?_
    cases h
    exact Fin.cell X rfl rfl rfl rfl rfl
  · replace h := ifF hb1 h
    refine Run.offT rfl rfl rfl rfl hb1 ?_
    refine Run.offT rfl rfl rfl rfl hb1 ?_
    refine Run.offT rfl rfl rfl rfl hb1 ?_
    refine Run.go (Ev.pickF rfl hb1 rfl rfl) ?_
    refine Run.go (Ev.move rfl rfl) ?_
    refine Run.go (Ev.struct X pl86 rfl rfl rfl rfl rfl rfl rfl rfl) ?_
    refine Run.do_ (Ev.storeBox X rfl rfl rfl rfl rfl rfl rfl) ?_
    refine Run.nil ?_
    refine T.ret ?_
    cases h
    exact Fin.cell X rfl rfl rfl rfl rfl
theorem en40 : Enters Tryz.prog 40 := ⟨_, Tryz.func40, rfl, rfl⟩
theorem k_triviumref07_Of {p0 : D_api_Int} {y : D_triviumref07_Z} (h : m_triviumref07_Of p0 = some y) : Spec Tryz.prog 40 [(.v Y_api_Int p0)] (.v Y_triviumref07_Z y) [] := by
  rw [m_triviumref07_Of] at h
  refine enterN [(.v Y_api_Int p0)] 9 Tryz.func40 rfl rfl rfl ?_
  refine T.seq ?_
  refine T.region ?_
  refine Run.go (Ev.box 1 rfl rfl rfl rfl) ?_
  refine Run.go (Ev.allocN X 2 rfl rfl rfl) ?_
  refine Run.nil ?_
  refine T.seq ?_
  refine T.drawM [6] [0, 1, 0, 4, 12, 31, 63] (by kernel_rfl) (by kernel_rfl) ?_
  refine RunD.a rfl rfl (Ev.fieldBox X rfl rfl rfl rfl rfl) ?_
  refine RunD.a rfl rfl (Ev.loadCell X rfl rfl rfl rfl rfl rfl) ?_
  refine RunD.a rfl rfl (Ev.fieldBox X rfl rfl rfl rfl rfl) ?_
  refine RunD.a rfl rfl (Ev.loadCell X rfl rfl rfl rfl rfl rfl) ?_
  obtain ⟨x1, e2, h⟩ := bdS h
  refine RunD.a rfl rfl (Ev.callC en42 (k_triviumref02_Of e2) rfl (.cons .v .nil) rfl rfl) ?_
  obtain ⟨x3, e4, h⟩ := bdS h
  refine RunD.a rfl rfl (Ev.callC en68 (k_triviumref07_made e4) rfl (.cons .v (.cons .v .nil)) rfl rfl) ?_
  refine RunD.mN rfl (Ev.storeBox X rfl rfl rfl rfl rfl rfl rfl) ?_
  refine RunD.nil ?_
  refine T.ret ?_
  cases h
  exact Fin.cell X rfl rfl rfl rfl rfl
theorem en91 : Enters Tryz.prog 91 := ⟨_, Tryz.func91, rfl, rfl⟩
theorem k_triviumref02_Cmp {p0 : (List Int)} {p1 : (List Int)} {y : Int} (h : m_triviumref02_Cmp p0 p1 = some y) : Spec Tryz.prog 91 [(.v (.sl (.int .i64)) p0), (.v (.sl (.int .i64)) p1)] (.v (.int .i64) y) [] := by
  rw [m_triviumref02_Cmp] at h
  refine enterN [(.v (.sl (.int .i64)) p0), (.v (.sl (.int .i64)) p1)] 41 Tryz.func91 rfl rfl rfl ?_
  refine T.seq ?_
  refine T.region ?_
  refine Run.go (Ev.assign rfl rfl) ?_
  refine Run.nil ?_
  refine T.seq ?_
  refine T.seq ?_
  refine T.region ?_
  refine Run.go (Ev.move rfl rfl) ?_
  refine Run.go (Ev.len X rfl rfl rfl rfl) ?_
  refine Run.go (Ev.move rfl rfl) ?_
  refine Run.go (Ev.len X rfl rfl rfl rfl) ?_
  refine Run.go (Ev.int rfl rfl rfl rfl trivial) ?_
  refine Run.nil ?_
  refine T.cond rfl (fun hb1 => ?_) (fun hb1 => ?_)
  · replace h := ifT hb1 h
    refine T.seq ?_
    refine T.seq ?_
    refine T.region ?_
    refine Run.go (Ev.move rfl rfl) ?_
    refine Run.go (Ev.len X rfl rfl rfl rfl) ?_
    refine Run.go (Ev.move rfl rfl) ?_
    refine Run.go (Ev.len X rfl rfl rfl rfl) ?_
    refine Run.go (Ev.int rfl rfl rfl rfl trivial) ?_
    refine Run.nil ?_
    refine T.cond rfl (fun hb2 => ?_) (fun hb2 => ?_)
    · replace h := ifT hb2 h
      refine T.seq ?_
      refine T.region ?_
      refine Run.go (Ev.assign rfl rfl) ?_
      refine Run.nil ?_
      refine T.ret ?_
      cases h
      exact Fin.one rfl .v
    · replace h := ifF hb2 h
      refine T.skip ?_
      refine T.seq ?_
      refine T.region ?_
      refine Run.go (Ev.assign rfl rfl) ?_
      refine Run.nil ?_
      refine T.ret ?_
      cases h
      exact Fin.one rfl .v
  · replace h := ifF hb1 h
    refine T.skip ?_
    refine T.seq ?_
    refine T.seq ?_
    refine T.region ?_
    refine Run.go (Ev.move rfl rfl) ?_
    refine Run.go (Ev.len X rfl rfl rfl rfl) ?_
    refine Run.go (Ev.int rfl rfl rfl rfl trivial) ?_
    refine Run.go (Ev.assign rfl rfl) ?_
    refine Run.nil ?_
    refine T.block ?_
    refine T.loop (LoopT.ghost (Ghost.only [] [0, 1, 5] rfl) (LoopT.run (fun q : Int => (⟨[(0, .v (.sl (.int .i64)) p0), (1, .v (.sl (.int .i64)) p1), (5, .v (.int .i64) q)], [], 41⟩ : St)) (fun v3 z1 h hz1 => ?_) h))
    rw [m_triviumref02_Cmp_l1] at h
    refine T.seq ?_
    refine T.seq ?_
    refine T.region ?_
    refine Run.go (Ev.move rfl rfl) ?_
    refine Run.go (Ev.int rfl rfl rfl rfl trivial) ?_
    refine Run.nil ?_
    refine T.cond rfl (fun hb4 => ?_) (fun hb4 => ?_)
    · replace h := ifT hb4 h
      refine T.skip ?_
      refine T.seq ?_
      refine T.block ?_
      refine T.seq ?_
      refine T.seq ?_
      refine T.drawM [] [0, 0, 3, 7, 0, 0, 48, 112, 255] (by kernel_rfl) (by kernel_rfl) ?_
      refine RunD.w (fun _ => Ev.move rfl rfl) ?_
      refine RunD.w (fun _ => Ev.move rfl rfl) ?_
      obtain ⟨x5, e6, h⟩ := bdS h
      refine RunD.a rfl rfl (Ev.e_rd X e6 rfl rfl rfl rfl) ?_
      refine RunD.a rfl rfl (Ev.load X rfl rfl rfl) ?_
      refine RunD.w (fun _ => Ev.move rfl rfl) ?_
      refine RunD.w (fun _ => Ev.move rfl rfl) ?_
      obtain ⟨x7, e8, h⟩ := bdS h
      refine RunD.a rfl rfl (Ev.e_rd X e8 rfl rfl rfl rfl) ?_
      refine RunD.a rfl rfl (Ev.load X rfl rfl rfl) ?_
      refine RunD.w (fun _ => Ev.int rfl rfl rfl rfl trivial) ?_
      refine RunD.nil ?_
      refine T.cond rfl (fun hb9 => ?_) (fun hb9 => ?_)
      · replace h := ifT hb9 h
        refine T.seq ?_
        refine T.region ?_
        refine Run.go (Ev.assign rfl rfl) ?_
        refine Run.nil ?_
        refine T.ret ?_
        cases h
        cases hz1
        exact Fin.one rfl .v
      · replace h := ifF hb9 h
        refine T.skip ?_
        refine T.seq ?_
        refine T.drawM [] [0, 0, 3, 7, 0, 0, 48, 112, 255] (by kernel_rfl) (by kernel_rfl) ?_
        refine RunD.w (fun _ => Ev.move rfl rfl) ?_
        refine RunD.w (fun _ => Ev.move rfl rfl) ?_
        obtain ⟨x10, e11, h⟩ := bdS h
        refine RunD.a rfl rfl (Ev.e_rd X e11 rfl rfl rfl rfl) ?_
        refine RunD.a rfl rfl (Ev.load X rfl rfl rfl) ?_
        refine RunD.w (fun _ => Ev.move rfl rfl) ?_
        refine RunD.w (fun _ => Ev.move rfl rfl) ?_
        obtain ⟨x12, e13, h⟩ := bdS h
        refine RunD.a rfl rfl (Ev.e_rd X e13 rfl rfl rfl rfl) ?_
        refine RunD.a rfl rfl (Ev.load X rfl rfl rfl) ?_
        refine RunD.w (fun _ => Ev.int rfl rfl rfl rfl trivial) ?_
        refine RunD.nil ?_
        refine T.cond rfl (fun hb14 => ?_) (fun hb14 => ?_)
        · replace h := ifT hb14 h
          refine T.seq ?_
          refine T.region ?_
          refine Run.go (Ev.assign rfl rfl) ?_
          refine Run.nil ?_
          refine T.ret ?_
          cases h
          cases hz1
          exact Fin.one rfl .v
        · replace h := ifF hb14 h
          refine T.skip ?_
          refine T.region ?_
          refine Run.go (Ev.move rfl rfl) ?_
          refine Run.go (Ev.int rfl rfl rfl rfl trivial) ?_
          refine Run.go (Ev.assign rfl rfl) ?_
          refine Run.nil ?_
          cases h
          exact LoopT.ghost (Ghost.only [] [0, 1, 5] rfl) hz1
    · replace h := ifF hb4 h
      refine T.exit ?_
      refine T.seq ?_
      refine T.region ?_
      refine Run.go (Ev.assign rfl rfl) ?_
      refine Run.nil ?_
      refine T.ret ?_
      cases h
      cases hz1
      exact Fin.one rfl .v
theorem en92 : Enters Tryz.prog 92 := ⟨_, Tryz.func92, rfl, rfl⟩
theorem k_triviumref02_Sub {p0 : (List Int)} {p1 : (List Int)} {y : (List Int)} (h : m_triviumref02_Sub p0 p1 = some y) : Spec Tryz.prog 92 [(.v (.sl (.int .i64)) p0), (.v (.sl (.int .i64)) p1)] (.v (.sl (.int .i64)) y) [] := by
  rw [m_triviumref02_Sub] at h
  refine enterN [(.v (.sl (.int .i64)) p0), (.v (.sl (.int .i64)) p1)] 42 Tryz.func92 rfl rfl rfl ?_
  refine T.seq ?_
  refine T.region ?_
  refine Run.go (Ev.assign rfl rfl) ?_
  refine Run.nil ?_
  refine T.seq ?_
  refine T.region ?_
  refine Run.go (Ev.build X 1 rfl rfl rfl rfl rfl rfl rfl rfl) ?_
  refine Run.go (Ev.assign rfl rfl) ?_
  refine Run.go (Ev.assign rfl rfl) ?_
  refine Run.nil ?_
  obtain ⟨v1, hv, h⟩ := bdS h
  refine T.cut (fun _ : Unit => (⟨[(5, .own 7)], [(7, .arr 3 (.int .i64) v1)], 42⟩ : St)) (fun _ => True) ?_ (fun _ _ => ?_)
  · replace h := hv
    clear hv
    refine T.seq ?_
    refine T.region ?_
    refine Run.go (Ev.assign rfl rfl) ?_
    refine Run.nil ?_
    refine T.block ?_
    refine T.loop (LoopT.ghost (Ghost.only [(1, 23)] [0, 1, 5, 6, 7] rfl) (LoopT.run (fun q : Int × Int × (List Int) => (⟨[(0, .v (.sl (.int .i64)) p0), (1, .v (.sl (.int .i64)) p1), (5, .own 23), (6, .v (.int .i64) q.1), (7, .v (.int .i64) q.2.1)], [(23, .arr 3 (.int .i64) q.2.2)], 42⟩ : St)) (fun q z1 h hz1 => ?_) h))
    obtain ⟨v2, v3, v4⟩ := q
    dsimp only
    rw [m_triviumref02_Sub_l1] at h
    refine T.seq ?_
    refine T.seq ?_
    refine T.region ?_
    refine Run.go (Ev.move rfl rfl) ?_
    refine Run.go (Ev.move rfl rfl) ?_
    refine Run.go (Ev.len X rfl rfl rfl rfl) ?_
    refine Run.go (Ev.int rfl rfl rfl rfl trivial) ?_
    refine Run.nil ?_
    refine T.cond rfl (fun hb5 => ?_) (fun hb5 => ?_)
    · replace h := ifT hb5 h
      refine T.skip ?_
      refine T.seq ?_
      refine T.block ?_
      refine T.seq ?_
      refine T.region ?_
      refine Run.go (Ev.move rfl rfl) ?_
      refine Run.go (Ev.move rfl rfl) ?_
      obtain ⟨x6, e7, h⟩ := bdS h
      refine Run.go (Ev.e_rd X e7 rfl rfl rfl rfl) ?_
      refine Run.go (Ev.load X rfl rfl rfl) ?_
      refine Run.go (Ev.move rfl rfl) ?_
      refine Run.go (Ev.int rfl rfl rfl rfl trivial) ?_
      refine Run.go (Ev.assign rfl rfl) ?_
      refine Run.nil ?_
      obtain ⟨v8, hv, h⟩ := bdS h
      refine T.cut (fun _ : Unit => (⟨[(0, .v (.sl (.int .i64)) p0), (1, .v (.sl (.int .i64)) p1), (5, .own 23), (7, .v (.int .i64) v3), (8, .v (.int .i64) v8)], [(23, .arr 3 (.int .i64) v4)], 42⟩ : St)) (fun _ => True) ?_ (fun _ _ => ?_)
      · replace h := hv
        clear hv
        refine T.seq ?_
        refine T.region ?_
        refine Run.go (Ev.move rfl rfl) ?_
        refine Run.go (Ev.move rfl rfl) ?_
        refine Run.go (Ev.len X rfl rfl rfl rfl) ?_
        refine Run.go (Ev.int rfl rfl rfl rfl trivial) ?_
        refine Run.nil ?_
        refine T.cond rfl (fun hb9 => ?_) (fun hb9 => ?_)
        · replace h := ifT hb9 h
          refine T.region ?_
          refine Run.go (Ev.move rfl rfl) ?_
          refine Run.go (Ev.move rfl rfl) ?_
          refine Run.go (Ev.move rfl rfl) ?_
          obtain ⟨x10, e11, h⟩ := bdS h
          refine Run.go (Ev.e_rd X e11 rfl rfl rfl rfl) ?_
          refine Run.go (Ev.load X rfl rfl rfl) ?_
          refine Run.go (Ev.int rfl rfl rfl rfl trivial) ?_
          refine Run.go (Ev.assign rfl rfl) ?_
          refine Run.nil ?_
          cases h
          exact ⟨(), trivial, Ghost.only [(23, 23)] [0, 1, 5, 7, 8] rfl⟩
        · replace h := ifF hb9 h
          refine T.skip ?_
          cases h
          exact ⟨(), trivial, Ghost.only [(23, 23)] [0, 1, 5, 7, 8] rfl⟩
      · refine T.seq ?_
        refine T.region ?_
        refine Run.go (Ev.assign rfl rfl) ?_
        refine Run.nil ?_
        obtain ⟨⟨v12, v13⟩, hv, h⟩ := bdS h
        refine T.cut (fun _ : Unit => (⟨[(0, .v (.sl (.int .i64)) p0), (1, .v (.sl (.int .i64)) p1), (5, .own 23), (6, .v (.int .i64) v12), (7, .v (.int .i64) v3), (8, .v (.int .i64) v13)], [(23, .arr 3 (.int .i64) v4)], 42⟩ : St)) (fun _ => True) ?_ (fun _ _ => ?_)
        · replace h := hv
          clear hv
          refine T.seq ?_
          refine T.region ?_
          refine Run.go (Ev.move rfl rfl) ?_
          refine Run.go (Ev.int rfl rfl rfl rfl trivial) ?_
          refine Run.nil ?_
          refine T.cond rfl (fun hb14 => ?_) (fun hb14 => ?_)
          · replace h := ifT hb14 h
            refine T.region ?_
            refine Run.go (Ev.move rfl rfl) ?_
            refine Run.go (Ev.int rfl rfl rfl rfl trivial) ?_
            refine Run.go (Ev.assign rfl rfl) ?_
            refine Run.go (Ev.assign rfl rfl) ?_
            refine Run.nil ?_
            cases h
            exact ⟨(), trivial, Ghost.only [(23, 23)] [0, 1, 5, 6, 7, 8] rfl⟩
          · replace h := ifF hb14 h
            refine T.skip ?_
            cases h
            exact ⟨(), trivial, Ghost.only [(23, 23)] [0, 1, 5, 6, 7, 8] rfl⟩
        · refine T.region ?_
          refine Run.go (Ev.move rfl rfl) ?_
          refine Run.go (Ev.move rfl rfl) ?_
          refine Run.go (Ev.build X 31 rfl rfl rfl rfl rfl rfl rfl rfl) ?_
          obtain ⟨x15, e16, h⟩ := bdS h
          refine Run.go (Ev.e_ap X 32 e16 rfl rfl rfl (.own rfl) rfl rfl rfl rfl rfl) ?_
          refine Run.go (Ev.assign rfl rfl) ?_
          refine Run.nil ?_
          refine T.region ?_
          refine Run.go (Ev.move rfl rfl) ?_
          refine Run.go (Ev.int rfl rfl rfl rfl trivial) ?_
          refine Run.go (Ev.assign rfl rfl) ?_
          refine Run.nil ?_
          cases h
          exact LoopT.ghost (Ghost.only [(32, 23)] [0, 1, 5, 6, 7] rfl) hz1
    · replace h := ifF hb5 h
      refine T.exit ?_
      cases h
      cases hz1
      exact ⟨(), trivial, Ghost.only [(23, 7)] [5] rfl⟩
  · refine T.seq ?_
    refine T.region ?_
    refine Run.go (Ev.move rfl rfl) ?_
    refine Run.ghost (Ghost.firmAll (id := 7) rfl) ?_
    obtain ⟨x17, e18, h⟩ := bdS h
    refine Run.go (Ev.callC en90 (k_triviumref02_Trim e18) rfl (.cons .v .nil) rfl rfl) ?_
    refine Run.go (Ev.assign rfl rfl) ?_
    refine Run.nil ?_
    refine T.ret ?_
    cases h
    exact Fin.one rfl .v
theorem en67 : Enters Tryz.prog 67 := ⟨_, Tryz.func67, rfl, rfl⟩
theorem k_triviumref02_Div {p0 : (List Int)} {p1 : (List Int)} {y : (List Int) × (List Int)} (h : m_triviumref02_Div p0 p1 = some y) : Spec Tryz.prog 67 [(.v (.sl (.int .i64)) p0), (.v (.sl (.int .i64)) p1)] (.tup [.v (.sl (.int .i64)) y.1, .v (.sl (.int .i64)) y.2]) [] := by
  rw [m_triviumref02_Div] at h
  refine enterN [(.v (.sl (.int .i64)) p0), (.v (.sl (.int .i64)) p1)] 59 Tryz.func67 rfl rfl rfl ?_
  refine T.seq ?_
  refine T.region ?_
  refine Run.go (Ev.assign rfl rfl) ?_
  refine Run.go (Ev.assign rfl rfl) ?_
  refine Run.nil ?_
  refine T.seq ?_
  refine T.region ?_
  refine Run.go (Ev.move rfl rfl) ?_
  refine Run.go (Ev.len X rfl rfl rfl rfl) ?_
  obtain ⟨x1, e2, h⟩ := bdS h
  refine Run.go (Ev.e_mk X 1 e2 rfl rfl rfl rfl rfl rfl) ?_
  refine Run.go (Ev.build X 2 rfl rfl rfl rfl rfl rfl rfl rfl) ?_
  refine Run.go (Ev.assign rfl rfl) ?_
  refine Run.go (Ev.assign rfl rfl) ?_
  refine Run.nil ?_
  obtain ⟨⟨v3, v4⟩, hv, h⟩ := bdS h
  refine T.cut (fun _ : Unit => (⟨[(6, .own 1), (7, .v (.sl (.int .i64)) v3)], [(1, .arr 3 (.int .i64) v4)], 59⟩ : St)) (fun _ => True) ?_ (fun _ _ => ?_)
  · replace h := hv
    clear hv
    refine T.seq ?_
    refine T.region ?_
    refine Run.go (Ev.move rfl rfl) ?_
    refine Run.go (Ev.len X rfl rfl rfl rfl) ?_
    refine Run.go (Ev.int rfl rfl rfl rfl trivial) ?_
    refine Run.go (Ev.assign rfl rfl) ?_
    refine Run.nil ?_
    refine T.block ?_
    refine T.loop (LoopT.ghost (Ghost.trans (Ghost.firmAll (id := 2) rfl) (Ghost.only [(1, 1)] [0, 1, 6, 7, 8] rfl)) (LoopT.run (fun q : (List Int) × Int × (List Int) => (⟨[(0, .v (.sl (.int .i64)) p0), (1, .v (.sl (.int .i64)) p1), (6, .own 1), (7, .v (.sl (.int .i64)) q.1), (8, .v (.int .i64) q.2.1)], [(1, .arr 3 (.int .i64) q.2.2)], 59⟩ : St)) (fun q z1 h hz1 => ?_) h))
    obtain ⟨v5, v6, v7⟩ := q
    dsimp only
    rw [m_triviumref02_Div_l1] at h
    refine T.seq ?_
    refine T.seq ?_
    refine T.region ?_
    refine Run.go (Ev.move rfl rfl) ?_
    refine Run.go (Ev.int rfl rfl rfl rfl trivial) ?_
    refine Run.nil ?_
    refine T.cond rfl (fun hb8 => ?_) (fun hb8 => ?_)
    · replace h := ifT hb8 h
      refine T.skip ?_
      obtain ⟨⟨v9, v10⟩, hv, h⟩ := bdS h
      refine T.cut (fun _ : Unit => (⟨[(0, .v (.sl (.int .i64)) p0), (1, .v (.sl (.int .i64)) p1), (6, .own 1), (7, .v (.sl (.int .i64)) v9), (8, .v (.int .i64) v6)], [(1, .arr 3 (.int .i64) v10)], 59⟩ : St)) (fun _ => True) ?_ (fun _ _ => ?_)
      · replace h := hv
        clear hv
        refine T.block ?_
        refine T.seq ?_
        refine T.region ?_
        refine Run.go (Ev.move rfl rfl) ?_
        refine Run.go (Ev.move rfl rfl) ?_
        obtain ⟨x11, e12, h⟩ := bdS h
        refine Run.go (Ev.e_rd X e12 rfl rfl rfl rfl) ?_
        refine Run.go (Ev.load X rfl rfl rfl) ?_
        refine Run.go (Ev.build X 117 rfl rfl rfl rfl rfl rfl rfl rfl) ?_
        refine Run.go (Ev.move rfl rfl) ?_
        obtain ⟨x13, e14, h⟩ := bdS h
        refine Run.go (Ev.e_ap X 118 e14 rfl rfl rfl .v rfl rfl rfl rfl rfl) ?_
        refine Run.ghost (Ghost.firmAll (id := 118) rfl) ?_
        obtain ⟨x15, e16, h⟩ := bdS h
        refine Run.go (Ev.callC en90 (k_triviumref02_Trim e16) rfl (.cons .v .nil) rfl rfl) ?_
        refine Run.go (Ev.assign rfl rfl) ?_
        refine Run.nil ?_
        refine T.seq ?_
        refine T.region ?_
        refine Run.go (Ev.assign rfl rfl) ?_
        refine Run.go (Ev.assign rfl rfl) ?_
        refine Run.nil ?_
        obtain ⟨v17, hv, h⟩ := bdS h
        refine T.cut (fun _ : Unit => (⟨[(0, .v (.sl (.int .i64)) p0), (1, .v (.sl (.int .i64)) p1), (6, .own 1), (7, .v (.sl (.int .i64)) x15), (8, .v (.int .i64) v6), (9, .v (.int .i64) v17)], [(1, .arr 3 (.int .i64) v7)], 59⟩ : St)) (fun _ => True) ?_ (fun _ _ => ?_)
        · replace h := hv
          clear hv
          refine T.block ?_
          refine T.loop (LoopT.ghost (Ghost.only [(1, 1)] [0, 1, 6, 7, 8, 9, 10] rfl) (LoopT.run (fun q : Int × Int => (⟨[(0, .v (.sl (.int .i64)) p0), (1, .v (.sl (.int .i64)) p1), (6, .own 1), (7, .v (.sl (.int .i64)) x15), (8, .v (.int .i64) v6), (9, .v (.int .i64) q.1), (10, .v (.int .i64) q.2)], [(1, .arr 3 (.int .i64) v7)], 59⟩ : St)) (fun q z2 h hz2 => ?_) h))
          obtain ⟨v18, v19⟩ := q
          dsimp only
          rw [m_triviumref02_Div_l2] at h
          refine T.seq ?_
          refine T.seq ?_
          refine T.region ?_
          refine Run.go (Ev.move rfl rfl) ?_
          refine Run.go (Ev.move rfl rfl) ?_
          refine Run.go (Ev.int rfl rfl rfl rfl trivial) ?_
          refine Run.go (Ev.int rfl rfl rfl rfl trivial) ?_
          refine Run.nil ?_
          refine T.cond rfl (fun hb20 => ?_) (fun hb20 => ?_)
          · replace h := ifT hb20 h
            refine T.skip ?_
            refine T.block ?_
            refine T.seq ?_
            refine T.region ?_
            refine Run.go (Ev.move rfl rfl) ?_
            refine Run.go (Ev.move rfl rfl) ?_
            refine Run.go (Ev.int rfl rfl rfl rfl trivial) ?_
            obtain ⟨x21, e22, h⟩ := bdS h
            refine Run.go (Ev.e_qd e22 rfl rfl rfl) ?_
            refine Run.go (Ev.assign rfl rfl) ?_
            refine Run.nil ?_
            refine T.seq ?_
            refine T.region ?_
            refine Run.go (Ev.move rfl rfl) ?_
            refine Run.go (Ev.move rfl rfl) ?_
            obtain ⟨x23, e24, h⟩ := bdS h
            refine Run.go (Ev.callC en69 (k_triviumref02_MulAdd e24) rfl (.cons .v (.cons .v (.cons .v .nil))) rfl rfl) ?_
            refine Run.go (Ev.move rfl rfl) ?_
            obtain ⟨x25, e26, h⟩ := bdS h
            refine Run.go (Ev.callC en91 (k_triviumref02_Cmp e26) rfl (.cons .v (.cons .v .nil)) rfl rfl) ?_
            refine Run.go (Ev.int rfl rfl rfl rfl trivial) ?_
            refine Run.nil ?_
            refine T.cond rfl (fun hb27 => ?_) (fun hb27 => ?_)
            · replace h := ifT hb27 h
              refine T.region ?_
              refine Run.go (Ev.move rfl rfl) ?_
              refine Run.go (Ev.assign rfl rfl) ?_
              refine Run.nil ?_
              cases h
              exact LoopT.ghost (Ghost.only [(1, 1)] [0, 1, 6, 7, 8, 9, 10] rfl) hz2
            · replace h := ifF hb27 h
              refine T.region ?_
              refine Run.go (Ev.move rfl rfl) ?_
              refine Run.go (Ev.assign rfl rfl) ?_
              refine Run.nil ?_
              cases h
              exact LoopT.ghost (Ghost.only [(1, 1)] [0, 1, 6, 7, 8, 9, 10] rfl) hz2
          · replace h := ifF hb20 h
            refine T.exit ?_
            cases h
            cases hz2
            exact ⟨(), trivial, Ghost.only [(1, 1)] [0, 1, 6, 7, 8, 9] rfl⟩
        · refine T.seq ?_
          refine T.region ?_
          refine Run.go (Ev.move rfl rfl) ?_
          refine Run.go (Ev.move rfl rfl) ?_
          refine Run.go (Ev.move rfl rfl) ?_
          obtain ⟨j28, e29, h⟩ := bdS h
          refine Run.go (Ev.e_ixO X e29 rfl rfl rfl rfl rfl) ?_
          obtain ⟨x30, e31, h⟩ := ltS h
          refine Run.do_ (Ev.asO (Ev.storeEl X rfl rfl rfl rfl rfl) e31) ?_
          refine Run.nil ?_
          refine T.region ?_
          refine Run.go (Ev.move rfl rfl) ?_
          refine Run.go (Ev.move rfl rfl) ?_
          refine Run.go (Ev.move rfl rfl) ?_
          obtain ⟨x32, e33, h⟩ := bdS h
          refine Run.go (Ev.callC en69 (k_triviumref02_MulAdd e33) rfl (.cons .v (.cons .v (.cons .v .nil))) rfl rfl) ?_
          obtain ⟨x34, e35, h⟩ := bdS h
          refine Run.go (Ev.callC en92 (k_triviumref02_Sub e35) rfl (.cons .v (.cons .v .nil)) rfl rfl) ?_
          refine Run.go (Ev.assign rfl rfl) ?_
          refine Run.nil ?_
          cases h
          exact ⟨(), trivial, Ghost.only [(1, 1)] [0, 1, 6, 7, 8] rfl⟩
      · refine T.region ?_
        refine Run.go (Ev.move rfl rfl) ?_
        refine Run.go (Ev.int rfl rfl rfl rfl trivial) ?_
        refine Run.go (Ev.assign rfl rfl) ?_
        refine Run.nil ?_
        cases h
        exact LoopT.ghost (Ghost.only [(1, 1)] [0, 1, 6, 7, 8] rfl) hz1
    · replace h := ifF hb8 h
      refine T.exit ?_
      cases h
      cases hz1
      exact ⟨(), trivial, Ghost.only [(1, 1)] [6, 7] rfl⟩
  · refine T.seq ?_
    refine T.region ?_
    refine Run.go (Ev.move rfl rfl) ?_
    refine Run.ghost (Ghost.firmAll (id := 1) rfl) ?_
    obtain ⟨x36, e37, h⟩ := bdS h
    refine Run.go (Ev.callC en90 (k_triviumref02_Trim e37) rfl (.cons .v .nil) rfl rfl) ?_
    refine Run.go (Ev.move rfl rfl) ?_
    refine Run.go (Ev.assign rfl rfl) ?_
    refine Run.go (Ev.assign rfl rfl) ?_
    refine Run.nil ?_
    refine T.ret ?_
    cases h
    exact Fin.many X rfl (.cons (.tmp .v) (.cons (.tmp .v) .nil)) rfl
theorem en66 : Enters Tryz.prog 66 := ⟨_, Tryz.func66, rfl, rfl⟩
theorem k_triviumref02_Gcd {p0 : (List Int)} {p1 : (List Int)} {y : (List Int)} (h : m_triviumref02_Gcd p0 p1 = some y) : Spec Tryz.prog 66 [(.v (.sl (.int .i64)) p0), (.v (.sl (.int .i64)) p1)] (.v (.sl (.int .i64)) y) [] := by
  rw [m_triviumref02_Gcd] at h
  refine enterN [(.v (.sl (.int .i64)) p0), (.v (.sl (.int .i64)) p1)] 19 Tryz.func66 rfl rfl rfl ?_
  refine T.seq ?_
  refine T.region ?_
  refine Run.go (Ev.assign rfl rfl) ?_
  refine Run.nil ?_
  obtain ⟨v1, hv, h⟩ := bdS h
  refine T.cut (fun _ : Unit => (⟨[(0, .v (.sl (.int .i64)) v1)], [], 19⟩ : St)) (fun _ => True) ?_ (fun _ _ => ?_)
  · replace h := hv
    clear hv
    refine T.block ?_
    refine T.loop (LoopT.ghost (Ghost.only [] [0, 1] rfl) (LoopT.run (fun q : (List Int) × (List Int) => (⟨[(0, .v (.sl (.int .i64)) q.1), (1, .v (.sl (.int .i64)) q.2)], [], 19⟩ : St)) (fun q z1 h hz1 => ?_) h))
    obtain ⟨v2, v3⟩ := q
    dsimp only
    rw [m_triviumref02_Gcd_l1] at h
    refine T.seq ?_
    refine T.seq ?_
    refine T.region ?_
    refine Run.go (Ev.move rfl rfl) ?_
    refine Run.go (Ev.len X rfl rfl rfl rfl) ?_
    refine Run.go (Ev.int rfl rfl rfl rfl trivial) ?_
    refine Run.nil ?_
    refine T.cond rfl (fun hb4 => ?_) (fun hb4 => ?_)
    · replace h := ifT hb4 h
      refine T.skip ?_
      refine T.block ?_
      refine T.seq ?_
      refine T.region ?_
      refine Run.go (Ev.move rfl rfl) ?_
      refine Run.go (Ev.move rfl rfl) ?_
      obtain ⟨x5, e6, h⟩ := bdS h
      refine Run.go (Ev.callC en67 (k_triviumref02_Div e6) rfl (.cons .v (.cons .v .nil)) rfl rfl) ?_
      refine Run.go (Ev.move rfl rfl) ?_
      refine Run.go (Ev.extract rfl rfl rfl) ?_
      refine Run.go (Ev.extract rfl rfl rfl) ?_
      refine Run.go (Ev.assign rfl rfl) ?_
      refine Run.go (Ev.assign rfl rfl) ?_
      refine Run.nil ?_
      refine T.region ?_
      refine Run.go (Ev.move rfl rfl) ?_
      refine Run.go (Ev.move rfl rfl) ?_
      refine Run.go (Ev.assign rfl rfl) ?_
      refine Run.go (Ev.assign rfl rfl) ?_
      refine Run.nil ?_
      cases h
      exact LoopT.ghost (Ghost.only [] [0, 1] rfl) hz1
    · replace h := ifF hb4 h
      refine T.exit ?_
      cases h
      cases hz1
      exact ⟨(), trivial, Ghost.only [] [0] rfl⟩
  · refine T.seq ?_
    refine T.region ?_
    refine Run.go (Ev.move rfl rfl) ?_
    refine Run.go (Ev.assign rfl rfl) ?_
    refine Run.nil ?_
    refine T.ret ?_
    cases h
    exact Fin.one rfl .v
theorem en39 : Enters Tryz.prog 39 := ⟨_, Tryz.func39, rfl, rfl⟩
theorem k_triviumref08_Low {p0 : D_triviumref07_Z} {p1 : (List Int)} {y : D_triviumref08_Q} (h : m_triviumref08_Low p0 p1 = some y) : Spec Tryz.prog 39 [(.v Y_triviumref07_Z p0), (.v (.sl (.int .i64)) p1)] (.v Y_triviumref08_Q y) [] := by
  rw [m_triviumref08_Low] at h
  refine enterN [(.v Y_triviumref07_Z p0), (.v (.sl (.int .i64)) p1)] 38 Tryz.func39 rfl rfl rfl ?_
  refine T.seq ?_
  refine T.region ?_
  refine Run.go (Ev.box 1 rfl rfl rfl rfl) ?_
  refine Run.go (Ev.allocN X 2 rfl rfl rfl) ?_
  refine Run.nil ?_
  refine T.seq ?_
  refine T.region ?_
  refine Run.go (Ev.fieldBox X rfl rfl rfl rfl rfl) ?_
  refine Run.go (Ev.loadCell X rfl rfl rfl rfl rfl rfl) ?_
  refine Run.go (Ev.move rfl rfl) ?_
  obtain ⟨x1, e2, h⟩ := bdS h
  refine Run.go (Ev.callC en66 (k_triviumref02_Gcd e2) rfl (.cons .v (.cons .v .nil)) rfl rfl) ?_
  refine Run.go (Ev.assign rfl rfl) ?_
  refine Run.nil ?_
  refine T.seq ?_
  refine T.region ?_
  refine Run.go (Ev.fieldBox X rfl rfl rfl rfl rfl) ?_
  refine Run.go (Ev.loadCell X rfl rfl rfl rfl rfl rfl) ?_
  refine Run.go (Ev.move rfl rfl) ?_
  obtain ⟨x3, e4, h⟩ := bdS h
  refine Run.go (Ev.callC en67 (k_triviumref02_Div e4) rfl (.cons .v (.cons .v .nil)) rfl rfl) ?_
  refine Run.go (Ev.move rfl rfl) ?_
  refine Run.go (Ev.extract rfl rfl rfl) ?_
  refine Run.go (Ev.extract rfl rfl rfl) ?_
  refine Run.go (Ev.assign rfl rfl) ?_
  refine Run.go (Ev.assign rfl rfl) ?_
  refine Run.nil ?_
  refine T.seq ?_
  refine T.region ?_
  refine Run.go (Ev.move rfl rfl) ?_
  refine Run.go (Ev.move rfl rfl) ?_
  obtain ⟨x5, e6, h⟩ := bdS h
  refine Run.go (Ev.callC en67 (k_triviumref02_Div e6) rfl (.cons .v (.cons .v .nil)) rfl rfl) ?_
  refine Run.go (Ev.move rfl rfl) ?_
  refine Run.go (Ev.extract rfl rfl rfl) ?_
  refine Run.go (Ev.extract rfl rfl rfl) ?_
  refine Run.go (Ev.assign rfl rfl) ?_
  refine Run.go (Ev.assign rfl rfl) ?_
  refine Run.nil ?_
  refine T.seq ?_
  refine T.region ?_
  refine Run.go (Ev.fieldBox X rfl rfl rfl rfl rfl) ?_
  refine Run.go (Ev.loadCell X rfl rfl rfl rfl rfl rfl) ?_
  refine Run.go (Ev.move rfl rfl) ?_
  rcases boolCases p0.1 with hb7 | hb7
  · replace h := ifT hb7 h
    refine Run.on rfl rfl rfl hb7 (Ev.move rfl rfl) ?_
    refine Run.on rfl rfl rfl hb7 (Ev.len X rfl rfl rfl rfl) ?_
    refine Run.on rfl rfl rfl hb7 (Ev.int rfl rfl rfl rfl trivial) ?_
    refine Run.go (Ev.pickT rfl hb7 rfl rfl) ?_
    refine Run.go (Ev.move rfl rfl) ?_
    refine Run.go (Ev.struct X pl86 rfl rfl rfl rfl rfl rfl rfl rfl) ?_
    refine Run.go (Ev.move rfl rfl) ?_
    refine Run.go (Ev.struct X pl88 rfl rfl rfl rfl rfl rfl rfl rfl) ?_
    refine Run.do_ (Ev.storeBox X rfl rfl rfl rfl rfl rfl rfl) ?_
    refine Run.nil ?_
    refine T.ret ?_
    cases h
    exact Fin.cell X rfl rfl rfl rfl rfl
  · replace h := ifF hb7 h
    refine Run.offT rfl rfl rfl rfl hb7 ?_
    refine Run.offT rfl rfl rfl rfl hb7 ?_
    refine Run.offT rfl rfl rfl rfl hb7 ?_
    refine Run.go (Ev.pickF rfl hb7 rfl rfl) ?_
    refine Run.go (Ev.move rfl rfl) ?_
    refine Run.go (Ev.struct X pl86 rfl rfl rfl rfl rfl rfl rfl rfl) ?_
    refine Run.go (Ev.move rfl rfl) ?_
    refine Run.go (Ev.struct X pl88 rfl rfl rfl rfl rfl rfl rfl rfl) ?_
    refine Run.do_ (Ev.storeBox X rfl rfl rfl rfl rfl rfl rfl) ?_
    refine Run.nil ?_
    refine T.ret ?_
    cases h
    exact Fin.cell X rfl rfl rfl rfl rfl
theorem en89 : Enters Tryz.prog 89 := ⟨_, Tryz.func89, rfl, rfl⟩
theorem k_triviumref02_DivSmall {p0 : (List Int)} {p1 : Int} {y : (List Int) × Int} (h : m_triviumref02_DivSmall p0 p1 = some y) : Spec Tryz.prog 89 [(.v (.sl (.int .i64)) p0), (.v (.int .i64) p1)] (.tup [.v (.sl (.int .i64)) y.1, .v (.int .i64) y.2]) [] := by
  rw [m_triviumref02_DivSmall] at h
  refine enterN [(.v (.sl (.int .i64)) p0), (.v (.int .i64) p1)] 38 Tryz.func89 rfl rfl rfl ?_
  refine T.seq ?_
  refine T.region ?_
  refine Run.go (Ev.assign rfl rfl) ?_
  refine Run.go (Ev.assign rfl rfl) ?_
  refine Run.nil ?_
  refine T.seq ?_
  refine T.region ?_
  refine Run.go (Ev.move rfl rfl) ?_
  refine Run.go (Ev.len X rfl rfl rfl rfl) ?_
  obtain ⟨x1, e2, h⟩ := bdS h
  refine Run.go (Ev.e_mk X 1 e2 rfl rfl rfl rfl rfl rfl) ?_
  refine Run.go (Ev.assign rfl rfl) ?_
  refine Run.go (Ev.assign rfl rfl) ?_
  refine Run.nil ?_
  obtain ⟨⟨v3, v4⟩, hv, h⟩ := bdS h
  refine T.cut (fun _ : Unit => (⟨[(6, .own 1), (7, .v (.int .i64) v3)], [(1, .arr 3 (.int .i64) v4)], 38⟩ : St)) (fun _ => True) ?_ (fun _ _ => ?_)
  · replace h := hv
    clear hv
    refine T.seq ?_
    refine T.region ?_
    refine Run.go (Ev.move rfl rfl) ?_
    refine Run.go (Ev.len X rfl rfl rfl rfl) ?_
    refine Run.go (Ev.int rfl rfl rfl rfl trivial) ?_
    refine Run.go (Ev.assign rfl rfl) ?_
    refine Run.nil ?_
    refine T.block ?_
    refine T.loop (LoopT.ghost (Ghost.only [(1, 1)] [0, 1, 6, 7, 8] rfl) (LoopT.run (fun q : Int × Int × (List Int) => (⟨[(0, .v (.sl (.int .i64)) p0), (1, .v (.int .i64) p1), (6, .own 1), (7, .v (.int .i64) q.1), (8, .v (.int .i64) q.2.1)], [(1, .arr 3 (.int .i64) q.2.2)], 38⟩ : St)) (fun q z1 h hz1 => ?_) h))
    obtain ⟨v5, v6, v7⟩ := q
    dsimp only
    rw [m_triviumref02_DivSmall_l1] at h
    refine T.seq ?_
    refine T.seq ?_
    refine T.region ?_
    refine Run.go (Ev.move rfl rfl) ?_
    refine Run.go (Ev.int rfl rfl rfl rfl trivial) ?_
    refine Run.nil ?_
    refine T.cond rfl (fun hb8 => ?_) (fun hb8 => ?_)
    · replace h := ifT hb8 h
      refine T.skip ?_
      refine T.seq ?_
      refine T.block ?_
      refine T.seq ?_
      refine T.region ?_
      refine Run.go (Ev.move rfl rfl) ?_
      refine Run.go (Ev.int rfl rfl rfl rfl trivial) ?_
      refine Run.go (Ev.move rfl rfl) ?_
      refine Run.go (Ev.move rfl rfl) ?_
      obtain ⟨x9, e10, h⟩ := bdS h
      refine Run.go (Ev.e_rd X e10 rfl rfl rfl rfl) ?_
      refine Run.go (Ev.load X rfl rfl rfl) ?_
      refine Run.go (Ev.int rfl rfl rfl rfl trivial) ?_
      refine Run.go (Ev.assign rfl rfl) ?_
      refine Run.nil ?_
      refine T.seq ?_
      refine T.region ?_
      refine Run.go (Ev.move rfl rfl) ?_
      refine Run.go (Ev.move rfl rfl) ?_
      refine Run.go (Ev.move rfl rfl) ?_
      refine Run.go (Ev.move rfl rfl) ?_
      obtain ⟨x11, e12, h⟩ := bdS h
      refine Run.go (Ev.e_qd e12 rfl rfl rfl) ?_
      obtain ⟨j13, e14, h⟩ := bdS h
      refine Run.go (Ev.e_ixO X e14 rfl rfl rfl rfl rfl) ?_
      obtain ⟨x15, e16, h⟩ := ltS h
      refine Run.do_ (Ev.asO (Ev.storeEl X rfl rfl rfl rfl rfl) e16) ?_
      refine Run.nil ?_
      refine T.region ?_
      refine Run.go (Ev.move rfl rfl) ?_
      refine Run.go (Ev.move rfl rfl) ?_
      obtain ⟨x17, e18, h⟩ := bdS h
      refine Run.go (Ev.e_rm e18 rfl rfl rfl) ?_
      refine Run.go (Ev.assign rfl rfl) ?_
      refine Run.nil ?_
      refine T.region ?_
      refine Run.go (Ev.move rfl rfl) ?_
      refine Run.go (Ev.int rfl rfl rfl rfl trivial) ?_
      refine Run.go (Ev.assign rfl rfl) ?_
      refine Run.nil ?_
      cases h
      exact LoopT.ghost (Ghost.only [(1, 1)] [0, 1, 6, 7, 8] rfl) hz1
    · replace h := ifF hb8 h
      refine T.exit ?_
      cases h
      cases hz1
      exact ⟨(), trivial, Ghost.only [(1, 1)] [6, 7] rfl⟩
  · refine T.seq ?_
    refine T.region ?_
    refine Run.go (Ev.move rfl rfl) ?_
    refine Run.ghost (Ghost.firmAll (id := 1) rfl) ?_
    obtain ⟨x19, e20, h⟩ := bdS h
    refine Run.go (Ev.callC en90 (k_triviumref02_Trim e20) rfl (.cons .v .nil) rfl rfl) ?_
    refine Run.go (Ev.move rfl rfl) ?_
    refine Run.go (Ev.assign rfl rfl) ?_
    refine Run.go (Ev.assign rfl rfl) ?_
    refine Run.nil ?_
    refine T.ret ?_
    cases h
    exact Fin.many X rfl (.cons (.tmp .v) (.cons (.tmp .v) .nil)) rfl
theorem en65 : Enters Tryz.prog 65 := ⟨_, Tryz.func65, rfl, rfl⟩
theorem k_triviumref02_Back {p0 : (List Int)} {y : (List Int)} (h : m_triviumref02_Back p0 = some y) : Spec Tryz.prog 65 [(.v (.sl (.int .i64)) p0)] (.v (.sl (.int .u64)) y) [] := by
  rw [m_triviumref02_Back] at h
  refine enterN [(.v (.sl (.int .i64)) p0)] 22 Tryz.func65 rfl rfl rfl ?_
  refine T.seq ?_
  refine T.region ?_
  refine Run.go (Ev.assign rfl rfl) ?_
  refine Run.nil ?_
  refine T.seq ?_
  refine T.region ?_
  refine Run.go (Ev.build X 1 rfl rfl rfl rfl rfl rfl rfl rfl) ?_
  refine Run.go (Ev.assign rfl rfl) ?_
  refine Run.nil ?_
  obtain ⟨v1, hv, h⟩ := bdS h
  refine T.cut (fun _ : Unit => (⟨[(3, .own 5)], [(5, .arr 81 (.int .u64) v1)], 22⟩ : St)) (fun _ => True) ?_ (fun _ _ => ?_)
  · replace h := hv
    clear hv
    refine T.block ?_
    refine T.loop (LoopT.ghost (Ghost.only [(1, 15)] [0, 3] rfl) (LoopT.run (fun q : (List Int) × (List Int) => (⟨[(0, .v (.sl (.int .i64)) q.1), (3, .own 15)], [(15, .arr 81 (.int .u64) q.2)], 22⟩ : St)) (fun q z1 h hz1 => ?_) h))
    obtain ⟨v2, v3⟩ := q
    dsimp only
    rw [m_triviumref02_Back_l1] at h
    refine T.seq ?_
    refine T.seq ?_
    refine T.region ?_
    refine Run.go (Ev.move rfl rfl) ?_
    refine Run.go (Ev.len X rfl rfl rfl rfl) ?_
    refine Run.go (Ev.int rfl rfl rfl rfl trivial) ?_
    refine Run.nil ?_
    refine T.cond rfl (fun hb4 => ?_) (fun hb4 => ?_)
    · replace h := ifT hb4 h
      refine T.skip ?_
      refine T.block ?_
      refine T.seq ?_
      refine T.region ?_
      refine Run.go (Ev.move rfl rfl) ?_
      obtain ⟨x5, e6, h⟩ := bdS h
      refine Run.go (Ev.callC en89 (k_triviumref02_DivSmall e6) rfl (.cons .v (.cons .v .nil)) rfl rfl) ?_
      refine Run.go (Ev.move rfl rfl) ?_
      refine Run.go (Ev.extract rfl rfl rfl) ?_
      refine Run.go (Ev.extract rfl rfl rfl) ?_
      refine Run.go (Ev.assign rfl rfl) ?_
      refine Run.go (Ev.assign rfl rfl) ?_
      refine Run.nil ?_
      refine T.seq ?_
      refine T.region ?_
      refine Run.go (Ev.move rfl rfl) ?_
      refine Run.go (Ev.move rfl rfl) ?_
      refine Run.go (Ev.conv X rfl rfl rfl rfl) ?_
      refine Run.go (Ev.build X 19 rfl rfl rfl rfl rfl rfl rfl rfl) ?_
      obtain ⟨x7, e8, h⟩ := bdS h
      refine Run.go (Ev.e_ap X 20 e8 rfl rfl rfl (.own rfl) rfl rfl rfl rfl rfl) ?_
      refine Run.go (Ev.assign rfl rfl) ?_
      refine Run.nil ?_
      refine T.region ?_
      refine Run.go (Ev.move rfl rfl) ?_
      refine Run.go (Ev.assign rfl rfl) ?_
      refine Run.nil ?_
      cases h
      exact LoopT.ghost (Ghost.only [(20, 15)] [0, 3] rfl) hz1
    · replace h := ifF hb4 h
      refine T.exit ?_
      cases h
      cases hz1
      exact ⟨(), trivial, Ghost.only [(15, 5)] [3] rfl⟩
  · refine T.seq ?_
    refine T.region ?_
    refine Run.go (Ev.move rfl rfl) ?_
    refine Run.go (Ev.assign rfl rfl) ?_
    refine Run.nil ?_
    refine T.ret ?_
    cases h
    exact Fin.one rfl (.own rfl)
theorem en64 : Enters Tryz.prog 64 := ⟨_, Tryz.func64, rfl, rfl⟩
theorem k_triviumref07_Back {p0 : D_triviumref07_Z} {y : D_api_Int} (h : m_triviumref07_Back p0 = some y) : Spec Tryz.prog 64 [(.v Y_triviumref07_Z p0)] (.v Y_api_Int y) [] := by
  rw [m_triviumref07_Back] at h
  refine enterN [(.v Y_triviumref07_Z p0)] 9 Tryz.func64 rfl rfl rfl ?_
  refine T.seq ?_
  refine T.region ?_
  refine Run.go (Ev.box 1 rfl rfl rfl rfl) ?_
  refine Run.go (Ev.allocN X 2 rfl rfl rfl) ?_
  refine Run.nil ?_
  refine T.seq ?_
  refine T.drawM [6] [0, 1, 0, 4, 12, 31, 63] (by kernel_rfl) (by kernel_rfl) ?_
  refine RunD.a rfl rfl (Ev.fieldBox X rfl rfl rfl rfl rfl) ?_
  refine RunD.a rfl rfl (Ev.loadCell X rfl rfl rfl rfl rfl rfl) ?_
  refine RunD.a rfl rfl (Ev.fieldBox X rfl rfl rfl rfl rfl) ?_
  refine RunD.a rfl rfl (Ev.loadCell X rfl rfl rfl rfl rfl rfl) ?_
  obtain ⟨x1, e2, h⟩ := bdS h
  refine RunD.a rfl rfl (Ev.callC en65 (k_triviumref02_Back e2) rfl (.cons .v .nil) rfl rfl) ?_
  refine RunD.w (fun _ => Ev.struct X pl56 rfl rfl rfl rfl rfl rfl rfl rfl) ?_
  refine RunD.mN rfl (Ev.storeBox X rfl rfl rfl rfl rfl rfl rfl) ?_
  refine RunD.nil ?_
  refine T.ret ?_
  cases h
  exact Fin.cell X rfl rfl rfl rfl rfl
end Go.Proofs.YtbmogniipgmkiaaGreat.AE
/- The code comes to the printed functions (printed by a program of ours). -/
namespace Go.Proofs.YtbmogniipgmkiaaGreat.AE
open Go Go.RowKit Go.Proofs.YtbmogniipgmkiaaGreat.AP
set_option linter.unusedVariables false
set_option maxRecDepth 20000
theorem en38 : Enters Tryz.prog 38 := ⟨_, Tryz.func38, rfl, rfl⟩
theorem k_triviumref08_Back {p0 : D_triviumref08_Q} {y : D_api_Rat} (h : m_triviumref08_Back p0 = some y) : Spec Tryz.prog 38 [(.v Y_triviumref08_Q p0)] (.v Y_api_Rat y) [] := by
  rw [m_triviumref08_Back] at h
  refine enterN [(.v Y_triviumref08_Q p0)] 10 Tryz.func38 rfl rfl rfl ?_
  refine T.seq ?_
  refine T.region ?_
  refine Run.go (Ev.box 1 rfl rfl rfl rfl) ?_
  refine Run.go (Ev.allocN X 2 rfl rfl rfl) ?_
  refine Run.nil ?_
  refine T.seq ?_
  refine T.drawM [7] [0, 1, 3, 0, 8, 31, 63, 127] (by kernel_rfl) (by kernel_rfl) ?_
  refine RunD.a rfl rfl (Ev.fieldBox X rfl rfl rfl rfl rfl) ?_
  refine RunD.a rfl rfl (Ev.loadBox X rfl rfl rfl rfl rfl) ?_
  obtain ⟨x1, e2, h⟩ := bdS h
  refine RunD.a rfl rfl (Ev.callC en64 (k_triviumref07_Back e2) rfl (.cons .v .nil) rfl rfl) ?_
  refine RunD.a rfl rfl (Ev.fieldBox X rfl rfl rfl rfl rfl) ?_
  refine RunD.a rfl rfl (Ev.loadCell X rfl rfl rfl rfl rfl rfl) ?_
  obtain ⟨x3, e4, h⟩ := bdS h
  refine RunD.a rfl rfl (Ev.callC en65 (k_triviumref02_Back e4) rfl (.cons .v .nil) rfl rfl) ?_
  refine RunD.w (fun _ => Ev.struct X pl58 rfl rfl rfl rfl rfl rfl rfl rfl) ?_
  refine RunD.mN rfl (Ev.storeBox X rfl rfl rfl rfl rfl rfl rfl) ?_
  refine RunD.nil ?_
  refine T.ret ?_
  cases h
  exact Fin.cell X rfl rfl rfl rfl rfl
theorem en20 : Enters Tryz.prog 20 := ⟨_, Tryz.func20, rfl, rfl⟩
theorem k_triviumref08_Clean {p0 : D_api_Rat} {p1 : Int} {y : D_api_Rat} (h : m_triviumref08_Clean p0 p1 = some y) : Spec Tryz.prog 20 [(.v Y_api_Rat p0), (.v (.int .i64) p1)] (.v Y_api_Rat y) [] := by
  rw [m_triviumref08_Clean] at h
  refine enterN [(.v Y_api_Rat p0), (.v (.int .i64) p1)] 23 Tryz.func20 rfl rfl rfl ?_
  refine T.seq ?_
  refine T.region ?_
  refine Run.go (Ev.box 1 rfl rfl rfl rfl) ?_
  refine Run.go (Ev.allocN X 2 rfl rfl rfl) ?_
  refine Run.nil ?_
  refine T.seq ?_
  refine T.region ?_
  refine Run.go (Ev.fieldBox X rfl rfl rfl rfl rfl) ?_
  refine Run.go (Ev.loadCell X rfl rfl rfl rfl rfl rfl) ?_
  refine Run.go (Ev.move rfl rfl) ?_
  obtain ⟨x1, e2, h⟩ := bdS h
  refine Run.go (Ev.callC en37 (k_triviumref02_Clean e2) rfl (.cons .v (.cons .v .nil)) rfl rfl) ?_
  refine Run.go (Ev.assign rfl rfl) ?_
  refine Run.nil ?_
  obtain ⟨v3, hv, h⟩ := bdS h
  refine T.cut (fun _ : Unit => (⟨[(1, .v (.int .i64) p1), (2, .box 1 0), (4, .box 2 0), (5, .v (.sl (.int .u64)) v3)], [(1, .box [.v .bool p0.1.1, .v (.sl (.int .u64)) p0.1.2, .v (.sl (.int .u64)) p0.2]), (2, .box [.v .bool false, .nil, .nil])], 23⟩ : St)) (fun _ => True) ?_ (fun _ _ => ?_)
  · replace h := hv
    clear hv
    refine T.seq ?_
    refine T.region ?_
    refine Run.go (Ev.move rfl rfl) ?_
    refine Run.go (Ev.len X rfl rfl rfl rfl) ?_
    refine Run.go (Ev.int rfl rfl rfl rfl trivial) ?_
    refine Run.nil ?_
    refine T.cond rfl (fun hb4 => ?_) (fun hb4 => ?_)
    · replace h := ifT hb4 h
      refine T.region ?_
      refine Run.go (Ev.build X 6 rfl rfl rfl rfl rfl rfl rfl rfl) ?_
      refine Run.go (Ev.assign rfl rfl) ?_
      refine Run.nil ?_
      cases h
      exact ⟨(), trivial, Ghost.trans (Ghost.firmAll (id := 6) rfl) (Ghost.only [(1, 1), (2, 2)] [1, 2, 4, 5] rfl)⟩
    · replace h := ifF hb4 h
      refine T.skip ?_
      cases h
      exact ⟨(), trivial, Ghost.only [(1, 1), (2, 2)] [1, 2, 4, 5] rfl⟩
  · refine T.seq ?_
    refine T.region ?_
    refine Run.go (Ev.fieldBox X rfl rfl rfl rfl rfl) ?_
    refine Run.go (Ev.loadBox X rfl rfl rfl rfl rfl) ?_
    refine Run.go (Ev.move rfl rfl) ?_
    obtain ⟨x5, e6, h⟩ := bdS h
    refine Run.go (Ev.callC en41 (k_triviumref07_Clean e6) rfl (.cons .v (.cons .v .nil)) rfl rfl) ?_
    obtain ⟨x7, e8, h⟩ := bdS h
    refine Run.go (Ev.callC en40 (k_triviumref07_Of e8) rfl (.cons .v .nil) rfl rfl) ?_
    refine Run.go (Ev.move rfl rfl) ?_
    obtain ⟨x9, e10, h⟩ := bdS h
    refine Run.go (Ev.callC en42 (k_triviumref02_Of e10) rfl (.cons .v .nil) rfl rfl) ?_
    obtain ⟨x11, e12, h⟩ := bdS h
    refine Run.go (Ev.callC en39 (k_triviumref08_Low e12) rfl (.cons .v (.cons .v .nil)) rfl rfl) ?_
    obtain ⟨x13, e14, h⟩ := bdS h
    refine Run.go (Ev.callC en38 (k_triviumref08_Back e14) rfl (.cons .v .nil) rfl rfl) ?_
    refine Run.do_ (Ev.storeBox X rfl rfl rfl rfl rfl rfl rfl) ?_
    refine Run.nil ?_
    refine T.ret ?_
    cases h
    exact Fin.cell X rfl rfl rfl rfl rfl
theorem en21 : Enters Tryz.prog 21 := ⟨_, Tryz.func21, rfl, rfl⟩
theorem k_triviumref22_CleanRule {p0 : D_api_Rule} {y : D_api_Rule} (h : m_triviumref22_CleanRule p0 = some y) : Spec Tryz.prog 21 [(.v Y_api_Rule p0)] (.v Y_api_Rule y) [] := by
  rw [m_triviumref22_CleanRule] at h
  refine enterN [(.v Y_api_Rule p0)] 79 Tryz.func21 rfl rfl rfl ?_
  refine T.seq ?_
  refine T.region ?_
  refine Run.go (Ev.box 1 rfl rfl rfl rfl) ?_
  refine Run.go (Ev.allocN X 2 rfl rfl rfl) ?_
  refine Run.nil ?_
  refine T.seq ?_
  refine T.drawE [([1], []), ([1], []), ([], []), ([1], []), ([1], []), ([1], []), ([1], []), ([], []), ([4], [4]), ([4], [4])] [0, 1, 3, 0, 8, 0, 32, 127, 0, 511] (by kernel_rfl) (by kernel_rfl) ?_
  refine RunE.go0 [1] (fun ô hô => Ev.fieldBox X rfl (ka hô rfl rfl) rfl rfl rfl) rfl rfl ?_
  refine RunE.go0 [1] (fun ô hô => Ev.loadCell X rfl (ka hô rfl rfl) rfl rfl rfl rfl) rfl rfl ?_
  obtain ⟨x1, e2, h⟩ := bdS h
  refine RunE.go0 [] (fun ô hô => Ev.callC en19 (k_triviumref22_short e2) rfl (.cons .v .nil) rfl rfl) rfl rfl ?_
  refine RunE.go0 [1] (fun ô hô => Ev.fieldBox X rfl (ka hô rfl rfl) rfl rfl rfl) rfl rfl ?_
  refine RunE.go0 [1] (fun ô hô => Ev.loadBox X rfl (ka hô rfl rfl) rfl rfl rfl) rfl rfl ?_
  refine RunE.go0 [1] (fun ô hô => Ev.fieldBox X rfl (ka hô rfl rfl) rfl rfl rfl) rfl rfl ?_
  refine RunE.go0 [1] (fun ô hô => Ev.loadCell X rfl (ka hô rfl rfl) rfl rfl rfl rfl) rfl rfl ?_
  refine RunE.go0 [] (fun ô hô => Ev.structC pl64 zs64 rfl rfl rfl) rfl rfl ?_
  refine RunE.go1 [4] (fun ô hô => Ev.allocN X 4 rfl (ka hô rfl rfl) rfl) rfl rfl ?_
  refine RunE.do1 [4] (fun ô hô => Ev.storeC sz64 rfl (ka hô rfl rfl) rfl rfl rfl rfl) rfl rfl ?_
  refine RunE.nil ?_
  obtain ⟨v3, hv, h⟩ := bdS h
  refine T.cut (fun _ : Unit => (⟨[(2, .box 2 0), (3, .box 4 0)], [(2, .box [.v .str ((bs []) : ByteArray), .v (.int .u32) (0 : Int), .v (.int .i64) (0 : Int), .v .bool false, .nil]), (4, .box [.v .str x1, .v (.int .u32) p0.2.1.1, .v (.int .i64) p0.2.1.2, .v .bool p0.2.2.1, .own 149]), (149, .arr 93 (.sl Y_api_Hop) v3)], 79⟩ : St)) (fun _ => True) ?_ (fun _ _ => ?_)
  · replace h := hv
    clear hv
    refine T.seq ?_
    refine T.region ?_
    refine Run.go (Ev.assign rfl rfl) ?_
    refine Run.nil ?_
    refine T.block ?_
    refine T.loop (LoopT.ghost (Ghost.trans (Ghost.emptyC 4 4 1649 93 (.sl Y_api_Hop) rfl rfl rfl) (Ghost.only [(1, 1), (2, 2), (4, 4), (1649, 1147)] [1, 2, 3, 4] rfl)) (LoopT.run (fun q : Int × (List (List D_api_Hop)) => (⟨[(1, .box 1 0), (2, .box 2 0), (3, .box 4 0), (4, .v (.int .i64) q.1)], [(1, .box [.v .str p0.1, .v (.int .u32) p0.2.1.1, .v (.int .i64) p0.2.1.2, .v .bool p0.2.2.1, .v (.sl (.sl Y_api_Hop)) p0.2.2.2]), (2, .box [.v .str ((bs []) : ByteArray), .v (.int .u32) (0 : Int), .v (.int .i64) (0 : Int), .v .bool false, .nil]), (4, .box [.v .str x1, .v (.int .u32) p0.2.1.1, .v (.int .i64) p0.2.1.2, .v .bool p0.2.2.1, .own 1147]), (1147, .arr 93 (.sl Y_api_Hop) q.2)], 79⟩ : St)) (fun q z1 h hz1 => ?_) h))
    obtain ⟨v4, v5⟩ := q
    dsimp only
    rw [m_triviumref22_CleanRule_l1] at h
    refine T.seq ?_
    obtain ⟨v6, hv, h⟩ := bdS h
    refine T.cut (fun _ : Unit => (⟨[(1, .box 1 0), (2, .box 2 0), (3, .box 4 0), (4, .v (.int .i64) v4), (24, .v .bool v6)], [(1, .box [.v .str p0.1, .v (.int .u32) p0.2.1.1, .v (.int .i64) p0.2.1.2, .v .bool p0.2.2.1, .v (.sl (.sl Y_api_Hop)) p0.2.2.2]), (2, .box [.v .str ((bs []) : ByteArray), .v (.int .u32) (0 : Int), .v (.int .i64) (0 : Int), .v .bool false, .nil]), (4, .box [.v .str x1, .v (.int .u32) p0.2.1.1, .v (.int .i64) p0.2.1.2, .v .bool p0.2.2.1, .own 1147]), (1147, .arr 93 (.sl Y_api_Hop) v5)], 79⟩ : St)) (fun _ => True) ?_ (fun _ _ => ?_)
    · replace h := hv
      clear hv
      refine T.region ?_
      refine Run.go (Ev.move rfl rfl) ?_
      refine Run.go (Ev.fieldBox X rfl rfl rfl rfl rfl) ?_
      refine Run.go (Ev.loadCell X rfl rfl rfl rfl rfl rfl) ?_
      refine Run.go (Ev.len X rfl rfl rfl rfl) ?_
      refine Run.go (Ev.int rfl rfl rfl rfl trivial) ?_
      refine Run.go (Ev.move rfl rfl) ?_
      rcases boolCases (decide (v4 < (p0.2.2.2.length : Int))) with hb7 | hb7
      · replace h := ifT hb7 h
        refine Run.on rfl rfl rfl hb7 (Ev.move rfl rfl) ?_
        refine Run.on rfl rfl rfl hb7 (Ev.int rfl rfl rfl rfl trivial) ?_
        refine Run.go (Ev.pickT rfl hb7 rfl rfl) ?_
        refine Run.nil ?_
        cases h
        exact ⟨(), trivial, Ghost.only [(1, 1), (2, 2), (4, 4), (1147, 1147)] [1, 2, 3, 4, 24] rfl⟩
      · replace h := ifF hb7 h
        refine Run.offT rfl rfl rfl rfl hb7 ?_
        refine Run.offT rfl rfl rfl rfl hb7 ?_
        refine Run.go (Ev.pickF rfl hb7 rfl rfl) ?_
        refine Run.nil ?_
        cases h
        exact ⟨(), trivial, Ghost.only [(1, 1), (2, 2), (4, 4), (1147, 1147)] [1, 2, 3, 4, 24] rfl⟩
    · refine T.cond rfl (fun hb8 => ?_) (fun hb8 => ?_)
      · replace h := ifT hb8 h
        refine T.skip ?_
        obtain ⟨v9, hv, h⟩ := bdS h
        refine T.cut (fun _ : Unit => (⟨[(1, .box 1 0), (2, .box 2 0), (3, .box 4 0), (4, .v (.int .i64) v4)], [(1, .box [.v .str p0.1, .v (.int .u32) p0.2.1.1, .v (.int .i64) p0.2.1.2, .v .bool p0.2.2.1, .v (.sl (.sl Y_api_Hop)) p0.2.2.2]), (2, .box [.v .str ((bs []) : ByteArray), .v (.int .u32) (0 : Int), .v (.int .i64) (0 : Int), .v .bool false, .nil]), (4, .box [.v .str x1, .v (.int .u32) p0.2.1.1, .v (.int .i64) p0.2.1.2, .v .bool p0.2.2.1, .own 1823]), (1823, .arr 93 (.sl Y_api_Hop) v9)], 79⟩ : St)) (fun _ => True) ?_ (fun _ _ => ?_)
        · replace h := hv
          clear hv
          refine T.block ?_
          refine T.seq ?_
          refine T.region ?_
          refine Run.go (Ev.build X 1828 rfl rfl rfl rfl rfl rfl rfl rfl) ?_
          refine Run.go (Ev.assign rfl rfl) ?_
          refine Run.nil ?_
          obtain ⟨v10, hv, h⟩ := bdS h
          refine T.cut (fun _ : Unit => (⟨[(1, .box 1 0), (2, .box 2 0), (3, .box 4 0), (4, .v (.int .i64) v4), (5, .own 1859)], [(1, .box [.v .str p0.1, .v (.int .u32) p0.2.1.1, .v (.int .i64) p0.2.1.2, .v .bool p0.2.2.1, .v (.sl (.sl Y_api_Hop)) p0.2.2.2]), (2, .box [.v .str ((bs []) : ByteArray), .v (.int .u32) (0 : Int), .v (.int .i64) (0 : Int), .v .bool false, .nil]), (4, .box [.v .str x1, .v (.int .u32) p0.2.1.1, .v (.int .i64) p0.2.1.2, .v .bool p0.2.2.1, .own 1147]), (1859, .arr 95 Y_api_Hop v10), (1147, .arr 93 (.sl Y_api_Hop) v5)], 79⟩ : St)) (fun _ => True) ?_ (fun _ _ => ?_)
          · replace h := hv
            clear hv
            refine T.seq ?_
            refine T.region ?_
            refine Run.go (Ev.assign rfl rfl) ?_
            refine Run.nil ?_
            refine T.block ?_
            refine T.loop (LoopT.ghost (Ghost.only [(1, 1), (2, 2), (4, 4), (1828, 1945), (1147, 1147)] [1, 2, 3, 4, 5, 6] rfl) (LoopT.run (fun q : Int × (List D_api_Hop) => (⟨[(1, .box 1 0), (2, .box 2 0), (3, .box 4 0), (4, .v (.int .i64) v4), (5, .own 1945), (6, .v (.int .i64) q.1)], [(1, .box [.v .str p0.1, .v (.int .u32) p0.2.1.1, .v (.int .i64) p0.2.1.2, .v .bool p0.2.2.1, .v (.sl (.sl Y_api_Hop)) p0.2.2.2]), (2, .box [.v .str ((bs []) : ByteArray), .v (.int .u32) (0 : Int), .v (.int .i64) (0 : Int), .v .bool false, .nil]), (4, .box [.v .str x1, .v (.int .u32) p0.2.1.1, .v (.int .i64) p0.2.1.2, .v .bool p0.2.2.1, .own 1147]), (1945, .arr 95 Y_api_Hop q.2), (1147, .arr 93 (.sl Y_api_Hop) v5)], 79⟩ : St)) (fun q z2 h hz2 => ?_) h))
            obtain ⟨v11, v12⟩ := q
            dsimp only
            rw [m_triviumref22_CleanRule_l2] at h
            refine T.seq ?_
            obtain ⟨v13, hv, h⟩ := bdS h
            refine T.cut (fun _ : Unit => (⟨[(1, .box 1 0), (2, .box 2 0), (3, .box 4 0), (4, .v (.int .i64) v4), (5, .own 1945), (6, .v (.int .i64) v11), (39, .v .bool v13)], [(1, .box [.v .str p0.1, .v (.int .u32) p0.2.1.1, .v (.int .i64) p0.2.1.2, .v .bool p0.2.2.1, .v (.sl (.sl Y_api_Hop)) p0.2.2.2]), (2, .box [.v .str ((bs []) : ByteArray), .v (.int .u32) (0 : Int), .v (.int .i64) (0 : Int), .v .bool false, .nil]), (4, .box [.v .str x1, .v (.int .u32) p0.2.1.1, .v (.int .i64) p0.2.1.2, .v .bool p0.2.2.1, .own 1147]), (1945, .arr 95 Y_api_Hop v12), (1147, .arr 93 (.sl Y_api_Hop) v5)], 79⟩ : St)) (fun _ => True) ?_ (fun _ _ => ?_)
            · replace h := hv
              clear hv
              refine T.region ?_
              refine Run.go (Ev.move rfl rfl) ?_
              refine Run.go (Ev.fieldBox X rfl rfl rfl rfl rfl) ?_
              refine Run.go (Ev.loadCell X rfl rfl rfl rfl rfl rfl) ?_
              refine Run.go (Ev.move rfl rfl) ?_
              obtain ⟨x14, e15, h⟩ := bdS h
              refine Run.go (Ev.e_rd X e15 rfl rfl rfl rfl) ?_
              refine Run.go (Ev.load X rfl rfl rfl) ?_
              refine Run.go (Ev.len X rfl rfl rfl rfl) ?_
              refine Run.go (Ev.int rfl rfl rfl rfl trivial) ?_
              refine Run.go (Ev.move rfl rfl) ?_
              rcases boolCases (decide (v11 < (x14.length : Int))) with hb16 | hb16
              · replace h := ifT hb16 h
                refine Run.on rfl rfl rfl hb16 (Ev.move rfl rfl) ?_
                refine Run.on rfl rfl rfl hb16 (Ev.int rfl rfl rfl rfl trivial) ?_
                refine Run.go (Ev.pickT rfl hb16 rfl rfl) ?_
                refine Run.nil ?_
                cases h
                exact ⟨(), trivial, Ghost.only [(1, 1), (2, 2), (4, 4), (1945, 1945), (1147, 1147)] [1, 2, 3, 4, 5, 6, 39] rfl⟩
              · replace h := ifF hb16 h
                refine Run.offT rfl rfl rfl rfl hb16 ?_
                refine Run.offT rfl rfl rfl rfl hb16 ?_
                refine Run.go (Ev.pickF rfl hb16 rfl rfl) ?_
                refine Run.nil ?_
                cases h
                exact ⟨(), trivial, Ghost.only [(1, 1), (2, 2), (4, 4), (1945, 1945), (1147, 1147)] [1, 2, 3, 4, 5, 6, 39] rfl⟩
            · refine T.cond rfl (fun hb17 => ?_) (fun hb17 => ?_)
              · replace h := ifT hb17 h
                refine T.skip ?_
                refine T.seq ?_
                refine T.block ?_
                refine T.seq ?_
                refine T.region ?_
                refine Run.go (Ev.fieldBox X rfl rfl rfl rfl rfl) ?_
                refine Run.go (Ev.loadCell X rfl rfl rfl rfl rfl rfl) ?_
                refine Run.go (Ev.move rfl rfl) ?_
                obtain ⟨x18, e19, h⟩ := bdS h
                refine Run.go (Ev.e_rd X e19 rfl rfl rfl rfl) ?_
                refine Run.go (Ev.load X rfl rfl rfl) ?_
                refine Run.go (Ev.move rfl rfl) ?_
                obtain ⟨x20, e21, h⟩ := bdS h
                refine Run.go (Ev.e_rd X e21 rfl rfl rfl rfl) ?_
                refine Run.go (Ev.fieldAddr X rfl rfl rfl rfl) ?_
                refine Run.go (Ev.load X rfl rfl rfl) ?_
                refine Run.go (Ev.assign rfl rfl) ?_
                refine Run.nil ?_
                obtain ⟨v22, hv, h⟩ := bdS h
                refine T.cut (fun _ : Unit => (⟨[(1, .box 1 0), (2, .box 2 0), (3, .box 4 0), (4, .v (.int .i64) v4), (5, .own 1945), (6, .v (.int .i64) v11), (7, .v (.int .i64) v22)], [(1, .box [.v .str p0.1, .v (.int .u32) p0.2.1.1, .v (.int .i64) p0.2.1.2, .v .bool p0.2.2.1, .v (.sl (.sl Y_api_Hop)) p0.2.2.2]), (2, .box [.v .str ((bs []) : ByteArray), .v (.int .u32) (0 : Int), .v (.int .i64) (0 : Int), .v .bool false, .nil]), (4, .box [.v .str x1, .v (.int .u32) p0.2.1.1, .v (.int .i64) p0.2.1.2, .v .bool p0.2.2.1, .own 1147]), (1945, .arr 95 Y_api_Hop v12), (1147, .arr 93 (.sl Y_api_Hop) v5)], 79⟩ : St)) (fun _ => True) ?_ (fun _ _ => ?_)
                · replace h := hv
                  clear hv
                  obtain ⟨v23, hv, h⟩ := bdS h
                  refine T.cut (fun _ : Unit => (⟨[(1, .box 1 0), (2, .box 2 0), (3, .box 4 0), (4, .v (.int .i64) v4), (5, .own 1945), (6, .v (.int .i64) v11), (7, .v (.int .i64) x20.2), (56, .v .bool v23)], [(1, .box [.v .str p0.1, .v (.int .u32) p0.2.1.1, .v (.int .i64) p0.2.1.2, .v .bool p0.2.2.1, .v (.sl (.sl Y_api_Hop)) p0.2.2.2]), (2, .box [.v .str ((bs []) : ByteArray), .v (.int .u32) (0 : Int), .v (.int .i64) (0 : Int), .v .bool false, .nil]), (4, .box [.v .str x1, .v (.int .u32) p0.2.1.1, .v (.int .i64) p0.2.1.2, .v .bool p0.2.2.1, .own 1147]), (1945, .arr 95 Y_api_Hop v12), (1147, .arr 93 (.sl Y_api_Hop) v5)], 79⟩ : St)) (fun _ => True) ?_ (fun _ _ => ?_)
                  · replace h := hv
                    clear hv
                    refine T.region ?_
                    refine Run.go (Ev.move rfl rfl) ?_
                    refine Run.go (Ev.int rfl rfl rfl rfl trivial) ?_
                    refine Run.go (Ev.move rfl rfl) ?_
                    rcases boolCases (decide (x20.2 < (-1000000))) with hb24 | hb24
                    · replace h := ifT hb24 h
                      refine Run.offT rfl rfl rfl rfl hb24 ?_
                      refine Run.offT rfl rfl rfl rfl hb24 ?_
                      refine Run.go (Ev.pickT rfl hb24 rfl rfl) ?_
                      refine Run.nil ?_
                      cases h
                      exact ⟨(), trivial, Ghost.only [(1, 1), (2, 2), (4, 4), (1945, 1945), (1147, 1147)] [1, 2, 3, 4, 5, 6, 7, 56] rfl⟩
                    · replace h := ifF hb24 h
                      refine Run.on rfl rfl rfl hb24 (Ev.move rfl rfl) ?_
                      refine Run.on rfl rfl rfl hb24 (Ev.int rfl rfl rfl rfl trivial) ?_
                      refine Run.go (Ev.pickF rfl hb24 rfl rfl) ?_
                      refine Run.nil ?_
                      cases h
                      exact ⟨(), trivial, Ghost.only [(1, 1), (2, 2), (4, 4), (1945, 1945), (1147, 1147)] [1, 2, 3, 4, 5, 6, 7, 56] rfl⟩
                  · refine T.cond rfl (fun hb25 => ?_) (fun hb25 => ?_)
                    · replace h := ifT hb25 h
                      refine T.region ?_
                      refine Run.go (Ev.assign rfl rfl) ?_
                      refine Run.nil ?_
                      cases h
                      exact ⟨(), trivial, Ghost.only [(1, 1), (2, 2), (4, 4), (1945, 1945), (1147, 1147)] [1, 2, 3, 4, 5, 6, 7] rfl⟩
                    · replace h := ifF hb25 h
                      refine T.skip ?_
                      cases h
                      exact ⟨(), trivial, Ghost.only [(1, 1), (2, 2), (4, 4), (1945, 1945), (1147, 1147)] [1, 2, 3, 4, 5, 6, 7] rfl⟩
                · refine T.region ?_
                  refine Run.go (Ev.move rfl rfl) ?_
                  refine Run.go (Ev.fieldBox X rfl rfl rfl rfl rfl) ?_
                  refine Run.go (Ev.loadCell X rfl rfl rfl rfl rfl rfl) ?_
                  refine Run.go (Ev.move rfl rfl) ?_
                  obtain ⟨x26, e27, h⟩ := bdS h
                  refine Run.go (Ev.e_rd X e27 rfl rfl rfl rfl) ?_
                  refine Run.go (Ev.load X rfl rfl rfl) ?_
                  refine Run.go (Ev.move rfl rfl) ?_
                  obtain ⟨x28, e29, h⟩ := bdS h
                  refine Run.go (Ev.e_rd X e29 rfl rfl rfl rfl) ?_
                  refine Run.go (Ev.fieldAddr X rfl rfl rfl rfl) ?_
                  refine Run.go (Ev.load X rfl rfl rfl) ?_
                  obtain ⟨x30, e31, h⟩ := bdS h
                  refine Run.go (Ev.callC en19 (k_triviumref22_short e31) rfl (.cons .v .nil) rfl rfl) ?_
                  refine Run.go (Ev.move rfl rfl) ?_
                  refine Run.go (Ev.struct X pl95 rfl rfl rfl rfl rfl rfl rfl rfl) ?_
                  refine Run.go (Ev.build X 1994 rfl rfl rfl rfl rfl rfl rfl rfl) ?_
                  obtain ⟨x32, e33, h⟩ := bdS h
                  refine Run.go (Ev.e_ap X 1995 e33 rfl rfl rfl (.own rfl) rfl rfl rfl rfl rfl) ?_
                  refine Run.go (Ev.assign rfl rfl) ?_
                  refine Run.nil ?_
                  refine T.region ?_
                  refine Run.go (Ev.move rfl rfl) ?_
                  refine Run.go (Ev.int rfl rfl rfl rfl trivial) ?_
                  refine Run.go (Ev.assign rfl rfl) ?_
                  refine Run.nil ?_
                  cases h
                  exact LoopT.ghost (Ghost.only [(1, 1), (2, 2), (4, 4), (1995, 1945), (1147, 1147)] [1, 2, 3, 4, 5, 6] rfl) hz2
              · replace h := ifF hb17 h
                refine T.exit ?_
                cases h
                cases hz2
                exact ⟨(), trivial, Ghost.only [(1, 1), (2, 2), (4, 4), (1945, 1859), (1147, 1147)] [1, 2, 3, 4, 5] rfl⟩
          · refine T.region ?_
            refine Run.go (Ev.fieldBox X rfl rfl rfl rfl rfl) ?_
            refine Run.go (Ev.loadCell X rfl rfl rfl rfl rfl rfl) ?_
            refine Run.go (Ev.move rfl rfl) ?_
            refine Run.ghost (Ghost.firmAll (id := 1859) rfl) ?_
            refine Run.go (Ev.build X 1996 rfl rfl rfl rfl rfl rfl rfl rfl) ?_
            obtain ⟨x34, e35, h⟩ := bdS h
            refine Run.go (Ev.e_ap X 1997 e35 rfl rfl rfl (.own rfl) rfl rfl rfl rfl rfl) ?_
            refine Run.go (Ev.fieldBox X rfl rfl rfl rfl rfl) ?_
            refine Run.do_ (Ev.storeC sz62 rfl rfl rfl rfl rfl rfl) ?_
            refine Run.nil ?_
            cases h
            exact ⟨(), trivial, Ghost.only [(1, 1), (2, 2), (4, 4), (1997, 1823)] [1, 2, 3, 4] rfl⟩
        · refine T.region ?_
          refine Run.go (Ev.move rfl rfl) ?_
          refine Run.go (Ev.int rfl rfl rfl rfl trivial) ?_
          refine Run.go (Ev.assign rfl rfl) ?_
          refine Run.nil ?_
          cases h
          exact LoopT.ghost (Ghost.only [(1, 1), (2, 2), (4, 4), (1823, 1147)] [1, 2, 3, 4] rfl) hz1
      · replace h := ifF hb8 h
        refine T.exit ?_
        cases h
        cases hz1
        exact ⟨(), trivial, Ghost.only [(2, 2), (4, 4), (1147, 149)] [2, 3] rfl⟩
  · refine T.seq ?_
    refine T.region ?_
    refine Run.go (Ev.loadStn sz64 rfl rfl rfl rfl) ?_
    refine Run.do_ (Ev.storeC sz64 rfl rfl rfl rfl rfl rfl) ?_
    refine Run.nil ?_
    refine T.ret ?_
    cases h
    refine Fin.ghost (Ghost.firmAll (id := 149) rfl) ?_
    exact Fin.cell X rfl rfl rfl rfl rfl
theorem en5 : Enters Tryz.prog 5 := ⟨_, Tryz.func5, rfl, rfl⟩
theorem k_triviumref22_Clean {p0 : (List D_api_Net)} {y : (List D_api_Net)} (h : m_triviumref22_Clean p0 = some y) : Spec Tryz.prog 5 [(.v (.sl Y_api_Net) p0)] (.v (.sl Y_api_Net) y) [] := by
  rw [m_triviumref22_Clean] at h
  refine enterN [(.v (.sl Y_api_Net) p0)] 132 Tryz.func5 rfl rfl rfl ?_
  refine T.seq ?_
  refine T.region ?_
  refine Run.go (Ev.assign rfl rfl) ?_
  refine Run.nil ?_
  refine T.seq ?_
  refine T.region ?_
  refine Run.go (Ev.build X 1 rfl rfl rfl rfl rfl rfl rfl rfl) ?_
  refine Run.go (Ev.assign rfl rfl) ?_
  refine Run.nil ?_
  obtain ⟨v1, hv, h⟩ := bdS h
  refine T.cut (fun _ : Unit => (⟨[(3, .own 621)], [(621, .arr 28 Y_api_Net v1)], 132⟩ : St)) (fun _ => True) ?_ (fun _ _ => ?_)
  · replace h := hv
    clear hv
    refine T.seq ?_
    refine T.region ?_
    refine Run.go (Ev.assign rfl rfl) ?_
    refine Run.nil ?_
    refine T.block ?_
    refine T.loop (LoopT.ghost (Ghost.only [(1, 2467)] [0, 3, 4] rfl) (LoopT.run (fun q : Int × (List D_api_Net) => (⟨[(0, .v (.sl Y_api_Net) p0), (3, .own 2467), (4, .v (.int .i64) q.1)], [(2467, .arr 28 Y_api_Net q.2)], 132⟩ : St)) (fun q z1 h hz1 => ?_) h))
    obtain ⟨v2, v3⟩ := q
    dsimp only
    rw [m_triviumref22_Clean_l1] at h
    refine T.seq ?_
    obtain ⟨v4, hv, h⟩ := bdS h
    refine T.cut (fun _ : Unit => (⟨[(0, .v (.sl Y_api_Net) p0), (3, .own 2467), (4, .v (.int .i64) v2), (19, .v .bool v4)], [(2467, .arr 28 Y_api_Net v3)], 132⟩ : St)) (fun _ => True) ?_ (fun _ _ => ?_)
    · replace h := hv
      clear hv
      refine T.region ?_
      refine Run.go (Ev.move rfl rfl) ?_
      refine Run.go (Ev.move rfl rfl) ?_
      refine Run.go (Ev.len X rfl rfl rfl rfl) ?_
      refine Run.go (Ev.int rfl rfl rfl rfl trivial) ?_
      refine Run.go (Ev.move rfl rfl) ?_
      rcases boolCases (decide (v2 < (p0.length : Int))) with hb5 | hb5
      · replace h := ifT hb5 h
        refine Run.on rfl rfl rfl hb5 (Ev.move rfl rfl) ?_
        refine Run.on rfl rfl rfl hb5 (Ev.int rfl rfl rfl rfl trivial) ?_
        refine Run.go (Ev.pickT rfl hb5 rfl rfl) ?_
        refine Run.nil ?_
        cases h
        exact ⟨(), trivial, Ghost.only [(2467, 2467)] [0, 3, 4, 19] rfl⟩
      · replace h := ifF hb5 h
        refine Run.offT rfl rfl rfl rfl hb5 ?_
        refine Run.offT rfl rfl rfl rfl hb5 ?_
        refine Run.go (Ev.pickF rfl hb5 rfl rfl) ?_
        refine Run.nil ?_
        cases h
        exact ⟨(), trivial, Ghost.only [(2467, 2467)] [0, 3, 4, 19] rfl⟩
    · refine T.cond rfl (fun hb6 => ?_) (fun hb6 => ?_)
      · replace h := ifT hb6 h
        refine T.skip ?_
        obtain ⟨v7, hv, h⟩ := bdS h
        refine T.cut (fun _ : Unit => (⟨[(0, .v (.sl Y_api_Net) p0), (3, .own 3389), (4, .v (.int .i64) v2)], [(3389, .arr 28 Y_api_Net v7)], 132⟩ : St)) (fun _ => True) ?_ (fun _ _ => ?_)
        · replace h := hv
          clear hv
          refine T.block ?_
          refine T.seq ?_
          refine T.region ?_
          refine Run.go (Ev.move rfl rfl) ?_
          refine Run.go (Ev.move rfl rfl) ?_
          obtain ⟨x8, e9, h⟩ := bdS h
          refine Run.go (Ev.e_rd X e9 rfl rfl rfl rfl) ?_
          refine Run.go (Ev.load X rfl rfl rfl) ?_
          refine Run.go (Ev.allocN X 3391 rfl rfl rfl) ?_
          refine Run.do_ (Ev.storeBox X rfl rfl rfl rfl rfl rfl rfl) ?_
          refine Run.nil ?_
          refine T.seq ?_
          refine T.region ?_
          refine Run.go (Ev.fieldBox X rfl rfl rfl rfl rfl) ?_
          refine Run.go (Ev.loadCell X rfl rfl rfl rfl rfl rfl) ?_
          obtain ⟨x10, e11, h⟩ := bdS h
          refine Run.go (Ev.callC en19 (k_triviumref22_short e11) rfl (.cons .v .nil) rfl rfl) ?_
          refine Run.go (Ev.structC pl28 zs28 rfl rfl rfl) ?_
          refine Run.go (Ev.allocN X 3392 rfl rfl rfl) ?_
          refine Run.do_ (Ev.storeC sz28 rfl rfl rfl rfl rfl rfl) ?_
          refine Run.nil ?_
          obtain ⟨v12, hv, h⟩ := bdS h
          refine T.cut (fun _ : Unit => (⟨[(0, .v (.sl Y_api_Net) p0), (3, .own 2467), (4, .v (.int .i64) v2), (5, .box 3391 0), (6, .box 3392 0)], [(2467, .arr 28 Y_api_Net v3), (3391, .box [.v .str x8.1, .v (.sl Y_api_Node) x8.2.1, .v (.sl Y_api_Link) x8.2.2.1, .v (.sl Y_api_Rule) x8.2.2.2]), (3392, .box [.v .str x10, .own 3407, .nil, .nil]), (3407, .arr 52 Y_api_Node v12)], 132⟩ : St)) (fun _ => True) ?_ (fun _ _ => ?_)
          · replace h := hv
            clear hv
            refine T.seq ?_
            refine T.region ?_
            refine Run.go (Ev.assign rfl rfl) ?_
            refine Run.nil ?_
            refine T.block ?_
            refine T.loop (LoopT.ghost (Ghost.trans (Ghost.emptyC 3392 1 3482 52 Y_api_Node rfl rfl rfl) (Ghost.only [(2467, 2467), (3391, 3391), (3392, 3392), (3482, 3460)] [0, 3, 4, 5, 6, 7] rfl)) (LoopT.run (fun q : Int × (List D_api_Node) => (⟨[(0, .v (.sl Y_api_Net) p0), (3, .own 2467), (4, .v (.int .i64) v2), (5, .box 3391 0), (6, .box 3392 0), (7, .v (.int .i64) q.1)], [(2467, .arr 28 Y_api_Net v3), (3391, .box [.v .str x8.1, .v (.sl Y_api_Node) x8.2.1, .v (.sl Y_api_Link) x8.2.2.1, .v (.sl Y_api_Rule) x8.2.2.2]), (3392, .box [.v .str x10, .own 3460, .nil, .nil]), (3460, .arr 52 Y_api_Node q.2)], 132⟩ : St)) (fun q z2 h hz2 => ?_) h))
            obtain ⟨v13, v14⟩ := q
            dsimp only
            rw [m_triviumref22_Clean_l2] at h
            refine T.seq ?_
            obtain ⟨v15, hv, h⟩ := bdS h
            refine T.cut (fun _ : Unit => (⟨[(0, .v (.sl Y_api_Net) p0), (3, .own 2467), (4, .v (.int .i64) v2), (5, .box 3391 0), (6, .box 3392 0), (7, .v (.int .i64) v13), (38, .v .bool v15)], [(2467, .arr 28 Y_api_Net v3), (3391, .box [.v .str x8.1, .v (.sl Y_api_Node) x8.2.1, .v (.sl Y_api_Link) x8.2.2.1, .v (.sl Y_api_Rule) x8.2.2.2]), (3392, .box [.v .str x10, .own 3460, .nil, .nil]), (3460, .arr 52 Y_api_Node v14)], 132⟩ : St)) (fun _ => True) ?_ (fun _ _ => ?_)
            · replace h := hv
              clear hv
              refine T.region ?_
              refine Run.go (Ev.move rfl rfl) ?_
              refine Run.go (Ev.fieldBox X rfl rfl rfl rfl rfl) ?_
              refine Run.go (Ev.loadCell X rfl rfl rfl rfl rfl rfl) ?_
              refine Run.go (Ev.len X rfl rfl rfl rfl) ?_
              refine Run.go (Ev.int rfl rfl rfl rfl trivial) ?_
              refine Run.go (Ev.move rfl rfl) ?_
              rcases boolCases (decide (v13 < (x8.2.1.length : Int))) with hb16 | hb16
              · replace h := ifT hb16 h
                refine Run.on rfl rfl rfl hb16 (Ev.move rfl rfl) ?_
                refine Run.on rfl rfl rfl hb16 (Ev.int rfl rfl rfl rfl trivial) ?_
                refine Run.go (Ev.pickT rfl hb16 rfl rfl) ?_
                refine Run.nil ?_
                cases h
                exact ⟨(), trivial, Ghost.only [(2467, 2467), (3391, 3391), (3392, 3392), (3460, 3460)] [0, 3, 4, 5, 6, 7, 38] rfl⟩
              · replace h := ifF hb16 h
                refine Run.offT rfl rfl rfl rfl hb16 ?_
                refine Run.offT rfl rfl rfl rfl hb16 ?_
                refine Run.go (Ev.pickF rfl hb16 rfl rfl) ?_
                refine Run.nil ?_
                cases h
                exact ⟨(), trivial, Ghost.only [(2467, 2467), (3391, 3391), (3392, 3392), (3460, 3460)] [0, 3, 4, 5, 6, 7, 38] rfl⟩
            · refine T.cond rfl (fun hb17 => ?_) (fun hb17 => ?_)
              · replace h := ifT hb17 h
                refine T.skip ?_
                refine T.seq ?_
                refine T.block ?_
                refine T.drawE [([3392], []), ([3392], []), ([3391], []), ([3391], []), ([], []), ([], []), ([], []), ([], []), ([], []), ([3491], [3491]), ([3391], []), ([3391], []), ([], []), ([], []), ([], []), ([], []), ([3391], []), ([3391], []), ([], []), ([], []), ([], []), ([], []), ([], []), ([], []), ([], []), ([3491, 3492], [3491]), ([], []), ([3493], []), ([3460, 3494], [3494, 3460]), ([3392], []), ([3392, 3494], [3392])] [0, 1, 0, 4, 0, 28, 60, 124, 252, 0, 0, 1024, 0, 7168, 15360, 31744, 0, 65536, 0, 458752, 983040, 2031616, 4128768, 8323072, 16776192, 33554428, 67108860, 134217724, 268435455, 536870911, 1073741823] (by kernel_rfl) (by kernel_rfl) ?_
                refine RunE.go0 [3392] (fun ô hô => Ev.fieldBox X rfl (ka hô rfl rfl) rfl rfl rfl) rfl rfl ?_
                refine RunE.go0 [3392] (fun ô hô => Ev.loadCell X rfl (ka hô rfl rfl) rfl rfl rfl rfl) rfl rfl ?_
                refine RunE.go0 [3391] (fun ô hô => Ev.fieldBox X rfl (ka hô rfl rfl) rfl rfl rfl) rfl rfl ?_
                refine RunE.go0 [3391] (fun ô hô => Ev.loadCell X rfl (ka hô rfl rfl) rfl rfl rfl rfl) rfl rfl ?_
                refine RunE.go0 [] (fun ô hô => Ev.move rfl rfl) rfl rfl ?_
                obtain ⟨x18, e19, h⟩ := bdS h
                refine RunE.go0 [] (fun ô hô => Ev.e_rd X e19 rfl rfl rfl rfl) rfl rfl ?_
                refine RunE.go0 [] (fun ô hô => Ev.fieldAddr X rfl rfl rfl rfl) rfl rfl ?_
                refine RunE.go0 [] (fun ô hô => Ev.load X rfl rfl rfl) rfl rfl ?_
                obtain ⟨x20, e21, h⟩ := bdS h
                refine RunE.go0 [] (fun ô hô => Ev.callC en19 (k_triviumref22_short e21) rfl (.cons .v .nil) rfl rfl) rfl rfl ?_
                refine RunE.go1 [3491] (fun ô hô => Ev.build X 3491 rfl rfl rfl rfl rfl (ka hô rfl rfl) rfl rfl) rfl rfl ?_
                refine RunE.go0 [3391] (fun ô hô => Ev.fieldBox X rfl (ka hô rfl rfl) rfl rfl rfl) rfl rfl ?_
                refine RunE.go0 [3391] (fun ô hô => Ev.loadCell X rfl (ka hô rfl rfl) rfl rfl rfl rfl) rfl rfl ?_
                refine RunE.go0 [] (fun ô hô => Ev.move rfl rfl) rfl rfl ?_
                obtain ⟨x22, e23, h⟩ := bdS h
                refine RunE.go0 [] (fun ô hô => Ev.e_rd X e23 rfl rfl rfl rfl) rfl rfl ?_
                refine RunE.go0 [] (fun ô hô => Ev.fieldAddr X rfl rfl rfl rfl) rfl rfl ?_
                refine RunE.go0 [] (fun ô hô => Ev.load X rfl rfl rfl) rfl rfl ?_
                refine RunE.go0 [3391] (fun ô hô => Ev.fieldBox X rfl (ka hô rfl rfl) rfl rfl rfl) rfl rfl ?_
                refine RunE.go0 [3391] (fun ô hô => Ev.loadCell X rfl (ka hô rfl rfl) rfl rfl rfl rfl) rfl rfl ?_
                refine RunE.go0 [] (fun ô hô => Ev.move rfl rfl) rfl rfl ?_
                obtain ⟨x24, e25, h⟩ := bdS h
                refine RunE.go0 [] (fun ô hô => Ev.e_rd X e25 rfl rfl rfl rfl) rfl rfl ?_
                refine RunE.go0 [] (fun ô hô => Ev.fieldAddr X rfl rfl rfl rfl) rfl rfl ?_
                refine RunE.go0 [] (fun ô hô => Ev.load X rfl rfl rfl) rfl rfl ?_
                refine RunE.go0 [] (fun ô hô => Ev.len X rfl rfl rfl rfl) rfl rfl ?_
                refine RunE.go0 [] (fun ô hô => Ev.min rfl rfl rfl) rfl rfl ?_
                obtain ⟨x26, e27, h⟩ := bdS h
                refine RunE.go0 [] (fun ô hô => Ev.e_ct X e27 rfl rfl rfl (fun _ h => by cases h) (fun _ => rfl) (fun _ _ => cutAt_of rfl) (fun h => by cases h)) rfl rfl ?_
                obtain ⟨x28, e29, h⟩ := bdS h
                refine RunE.go1 [3491, 3492] (fun ô hô => Ev.firmNewA (by exact kaD hô rfl rfl rfl) rfl (Ev.e_ap X 3492 e29 rfl (ka hô rfl rfl) rfl .v rfl rfl rfl (ka hô rfl rfl) rfl)) rfl rfl ?_
                refine RunE.go0 [] (fun ô hô => Ev.struct X pl52 rfl rfl rfl rfl rfl rfl rfl rfl) rfl rfl ?_
                refine RunE.go0 [3493] (fun ô hô => Ev.firmNew (by exact ka hô rfl rfl) rfl (Ev.build X 3493 rfl rfl rfl rfl rfl (ka hô rfl rfl) rfl rfl)) rfl rfl ?_
                obtain ⟨x30, e31, h⟩ := bdS h
                refine RunE.go2 [3460, 3494] (fun ô hô => Ev.e_ap X 3494 e31 rfl (ka hô rfl rfl) rfl .v rfl rfl rfl (ka hô rfl rfl) rfl) rfl rfl ?_
                refine RunE.go0 [3392] (fun ô hô => Ev.fieldBox X rfl (ka hô rfl rfl) rfl rfl rfl) rfl rfl ?_
                refine RunE.do1 [3392, 3494] (fun ô hô => Ev.storeC sz24 rfl (ka hô rfl rfl) rfl (sp_own (ka hô rfl rfl)) rfl rfl) rfl rfl ?_
                refine RunE.nil ?_
                refine T.region ?_
                refine Run.go (Ev.move rfl rfl) ?_
                refine Run.go (Ev.int rfl rfl rfl rfl trivial) ?_
                refine Run.go (Ev.assign rfl rfl) ?_
                refine Run.nil ?_
                cases h
                exact LoopT.ghost (Ghost.only [(2467, 2467), (3391, 3391), (3392, 3392), (3494, 3460)] [0, 3, 4, 5, 6, 7] rfl) hz2
              · replace h := ifF hb17 h
                refine T.exit ?_
                cases h
                cases hz2
                exact ⟨(), trivial, Ghost.only [(2467, 2467), (3391, 3391), (3392, 3392), (3460, 3407)] [0, 3, 4, 5, 6] rfl⟩
          · obtain ⟨v32, hv, h⟩ := bdS h
            refine T.cut (fun _ : Unit => (⟨[(0, .v (.sl Y_api_Net) p0), (3, .own 2467), (4, .v (.int .i64) v2), (5, .box 3391 0), (6, .box 3392 0)], [(2467, .arr 28 Y_api_Net v3), (3391, .box [.v .str x8.1, .v (.sl Y_api_Node) x8.2.1, .v (.sl Y_api_Link) x8.2.2.1, .v (.sl Y_api_Rule) x8.2.2.2]), (3392, .box [.v .str x10, .own 3407, .own 3508, .nil]), (3407, .arr 52 Y_api_Node v12), (3508, .arr 60 Y_api_Link v32)], 132⟩ : St)) (fun _ => True) ?_ (fun _ _ => ?_)
            · replace h := hv
              clear hv
              refine T.seq ?_
              refine T.region ?_
              refine Run.go (Ev.assign rfl rfl) ?_
              refine Run.nil ?_
              refine T.block ?_
              refine T.loop (LoopT.ghost (Ghost.trans (Ghost.emptyC 3392 2 3581 60 Y_api_Link rfl rfl rfl) (Ghost.only [(2467, 2467), (3391, 3391), (3392, 3392), (3407, 3407), (3581, 3559)] [0, 3, 4, 5, 6, 8] rfl)) (LoopT.run (fun q : Int × (List D_api_Link) => (⟨[(0, .v (.sl Y_api_Net) p0), (3, .own 2467), (4, .v (.int .i64) v2), (5, .box 3391 0), (6, .box 3392 0), (8, .v (.int .i64) q.1)], [(2467, .arr 28 Y_api_Net v3), (3391, .box [.v .str x8.1, .v (.sl Y_api_Node) x8.2.1, .v (.sl Y_api_Link) x8.2.2.1, .v (.sl Y_api_Rule) x8.2.2.2]), (3392, .box [.v .str x10, .own 3407, .own 3559, .nil]), (3407, .arr 52 Y_api_Node v12), (3559, .arr 60 Y_api_Link q.2)], 132⟩ : St)) (fun q z2 h hz2 => ?_) h))
              obtain ⟨v33, v34⟩ := q
              dsimp only
              rw [m_triviumref22_Clean_l3] at h
              refine T.seq ?_
              obtain ⟨v35, hv, h⟩ := bdS h
              refine T.cut (fun _ : Unit => (⟨[(0, .v (.sl Y_api_Net) p0), (3, .own 2467), (4, .v (.int .i64) v2), (5, .box 3391 0), (6, .box 3392 0), (8, .v (.int .i64) v33), (79, .v .bool v35)], [(2467, .arr 28 Y_api_Net v3), (3391, .box [.v .str x8.1, .v (.sl Y_api_Node) x8.2.1, .v (.sl Y_api_Link) x8.2.2.1, .v (.sl Y_api_Rule) x8.2.2.2]), (3392, .box [.v .str x10, .own 3407, .own 3559, .nil]), (3407, .arr 52 Y_api_Node v12), (3559, .arr 60 Y_api_Link v34)], 132⟩ : St)) (fun _ => True) ?_ (fun _ _ => ?_)
              · replace h := hv
                clear hv
                refine T.region ?_
                refine Run.go (Ev.move rfl rfl) ?_
                refine Run.go (Ev.fieldBox X rfl rfl rfl rfl rfl) ?_
                refine Run.go (Ev.loadCell X rfl rfl rfl rfl rfl rfl) ?_
                refine Run.go (Ev.len X rfl rfl rfl rfl) ?_
                refine Run.go (Ev.int rfl rfl rfl rfl trivial) ?_
                refine Run.go (Ev.move rfl rfl) ?_
                rcases boolCases (decide (v33 < (x8.2.2.1.length : Int))) with hb36 | hb36
                · replace h := ifT hb36 h
                  refine Run.on rfl rfl rfl hb36 (Ev.move rfl rfl) ?_
                  refine Run.on rfl rfl rfl hb36 (Ev.int rfl rfl rfl rfl trivial) ?_
                  refine Run.go (Ev.pickT rfl hb36 rfl rfl) ?_
                  refine Run.nil ?_
                  cases h
                  exact ⟨(), trivial, Ghost.only [(2467, 2467), (3391, 3391), (3392, 3392), (3407, 3407), (3559, 3559)] [0, 3, 4, 5, 6, 8, 79] rfl⟩
                · replace h := ifF hb36 h
                  refine Run.offT rfl rfl rfl rfl hb36 ?_
                  refine Run.offT rfl rfl rfl rfl hb36 ?_
                  refine Run.go (Ev.pickF rfl hb36 rfl rfl) ?_
                  refine Run.nil ?_
                  cases h
                  exact ⟨(), trivial, Ghost.only [(2467, 2467), (3391, 3391), (3392, 3392), (3407, 3407), (3559, 3559)] [0, 3, 4, 5, 6, 8, 79] rfl⟩
              · refine T.cond rfl (fun hb37 => ?_) (fun hb37 => ?_)
                · replace h := ifT hb37 h
                  refine T.skip ?_
                  refine T.seq ?_
                  refine T.block ?_
                  refine T.seq ?_
                  refine T.region ?_
                  refine Run.go (Ev.fieldBox X rfl rfl rfl rfl rfl) ?_
                  refine Run.go (Ev.loadCell X rfl rfl rfl rfl rfl rfl) ?_
                  refine Run.go (Ev.move rfl rfl) ?_
                  obtain ⟨x38, e39, h⟩ := bdS h
                  refine Run.go (Ev.e_rd X e39 rfl rfl rfl rfl) ?_
                  refine Run.go (Ev.load X rfl rfl rfl) ?_
                  refine Run.go (Ev.allocN X 3587 rfl rfl rfl) ?_
                  refine Run.do_ (Ev.storeBox X rfl rfl rfl rfl rfl rfl rfl) ?_
                  refine Run.nil ?_
                  refine T.drawE [([3392], []), ([3392], []), ([3587], []), ([3587], []), ([], []), ([3587], []), ([3587], []), ([], []), ([3587], []), ([3587], []), ([], []), ([3587], []), ([3587], []), ([], []), ([], []), ([3590], []), ([3559, 3591], [3591, 3559]), ([3392], []), ([3392, 3591], [3392])] [0, 1, 0, 4, 12, 0, 32, 124, 0, 256, 1020, 0, 2048, 8188, 16380, 32764, 65535, 131071, 262143] (by kernel_rfl) (by kernel_rfl) ?_
                  refine RunE.go0 [3392] (fun ô hô => Ev.fieldBox X rfl (ka hô rfl rfl) rfl rfl rfl) rfl rfl ?_
                  refine RunE.go0 [3392] (fun ô hô => Ev.loadCell X rfl (ka hô rfl rfl) rfl rfl rfl rfl) rfl rfl ?_
                  refine RunE.go0 [3587] (fun ô hô => Ev.fieldBox X rfl (ka hô rfl rfl) rfl rfl rfl) rfl rfl ?_
                  refine RunE.go0 [3587] (fun ô hô => Ev.loadCell X rfl (ka hô rfl rfl) rfl rfl rfl rfl) rfl rfl ?_
                  obtain ⟨x40, e41, h⟩ := bdS h
                  refine RunE.go0 [] (fun ô hô => Ev.callC en19 (k_triviumref22_short e41) rfl (.cons .v .nil) rfl rfl) rfl rfl ?_
                  refine RunE.go0 [3587] (fun ô hô => Ev.fieldBox X rfl (ka hô rfl rfl) rfl rfl rfl) rfl rfl ?_
                  refine RunE.go0 [3587] (fun ô hô => Ev.loadCell X rfl (ka hô rfl rfl) rfl rfl rfl rfl) rfl rfl ?_
                  obtain ⟨x42, e43, h⟩ := bdS h
                  refine RunE.go0 [] (fun ô hô => Ev.callC en19 (k_triviumref22_short e43) rfl (.cons .v .nil) rfl rfl) rfl rfl ?_
                  refine RunE.go0 [3587] (fun ô hô => Ev.fieldBox X rfl (ka hô rfl rfl) rfl rfl rfl) rfl rfl ?_
                  refine RunE.go0 [3587] (fun ô hô => Ev.loadCell X rfl (ka hô rfl rfl) rfl rfl rfl rfl) rfl rfl ?_
                  obtain ⟨x44, e45, h⟩ := bdS h
                  refine RunE.go0 [] (fun ô hô => Ev.callC en19 (k_triviumref22_short e45) rfl (.cons .v .nil) rfl rfl) rfl rfl ?_
                  refine RunE.go0 [3587] (fun ô hô => Ev.fieldBox X rfl (ka hô rfl rfl) rfl rfl rfl) rfl rfl ?_
                  refine RunE.go0 [3587] (fun ô hô => Ev.loadBox X rfl (ka hô rfl rfl) rfl rfl rfl) rfl rfl ?_
                  obtain ⟨x46, e47, h⟩ := bdS h
                  refine RunE.go0 [] (fun ô hô => Ev.callC en20 (k_triviumref08_Clean e47) rfl (.cons .v (.cons .v .nil)) rfl rfl) rfl rfl ?_
                  refine RunE.go0 [] (fun ô hô => Ev.struct X pl60 rfl rfl rfl rfl rfl rfl rfl rfl) rfl rfl ?_
                  refine RunE.go0 [3590] (fun ô hô => Ev.firmNew (by exact ka hô rfl rfl) rfl (Ev.build X 3590 rfl rfl rfl rfl rfl (ka hô rfl rfl) rfl rfl)) rfl rfl ?_
                  obtain ⟨x48, e49, h⟩ := bdS h
                  refine RunE.go2 [3559, 3591] (fun ô hô => Ev.e_ap X 3591 e49 rfl (ka hô rfl rfl) rfl .v rfl rfl rfl (ka hô rfl rfl) rfl) rfl rfl ?_
                  refine RunE.go0 [3392] (fun ô hô => Ev.fieldBox X rfl (ka hô rfl rfl) rfl rfl rfl) rfl rfl ?_
                  refine RunE.do1 [3392, 3591] (fun ô hô => Ev.storeC sz25 rfl (ka hô rfl rfl) rfl (sp_own (ka hô rfl rfl)) rfl rfl) rfl rfl ?_
                  refine RunE.nil ?_
                  refine T.region ?_
                  refine Run.go (Ev.move rfl rfl) ?_
                  refine Run.go (Ev.int rfl rfl rfl rfl trivial) ?_
                  refine Run.go (Ev.assign rfl rfl) ?_
                  refine Run.nil ?_
                  cases h
                  exact LoopT.ghost (Ghost.only [(2467, 2467), (3391, 3391), (3392, 3392), (3407, 3407), (3591, 3559)] [0, 3, 4, 5, 6, 8] rfl) hz2
                · replace h := ifF hb37 h
                  refine T.exit ?_
                  cases h
                  cases hz2
                  exact ⟨(), trivial, Ghost.only [(2467, 2467), (3391, 3391), (3392, 3392), (3407, 3407), (3559, 3508)] [0, 3, 4, 5, 6] rfl⟩
            · obtain ⟨v50, hv, h⟩ := bdS h
              refine T.cut (fun _ : Unit => (⟨[(0, .v (.sl Y_api_Net) p0), (3, .own 2467), (4, .v (.int .i64) v2), (6, .box 3392 0)], [(2467, .arr 28 Y_api_Net v3), (3392, .box [.v .str x10, .own 3407, .own 3508, .own 3606]), (3407, .arr 52 Y_api_Node v12), (3508, .arr 60 Y_api_Link v32), (3606, .arr 64 Y_api_Rule v50)], 132⟩ : St)) (fun _ => True) ?_ (fun _ _ => ?_)
              · replace h := hv
                clear hv
                refine T.seq ?_
                refine T.region ?_
                refine Run.go (Ev.assign rfl rfl) ?_
                refine Run.nil ?_
                refine T.block ?_
                refine T.loop (LoopT.ghost (Ghost.trans (Ghost.emptyC 3392 3 3684 64 Y_api_Rule rfl rfl rfl) (Ghost.only [(2467, 2467), (3391, 3391), (3392, 3392), (3407, 3407), (3508, 3508), (3684, 3660)] [0, 3, 4, 5, 6, 10] rfl)) (LoopT.run (fun q : Int × (List D_api_Rule) => (⟨[(0, .v (.sl Y_api_Net) p0), (3, .own 2467), (4, .v (.int .i64) v2), (5, .box 3391 0), (6, .box 3392 0), (10, .v (.int .i64) q.1)], [(2467, .arr 28 Y_api_Net v3), (3391, .box [.v .str x8.1, .v (.sl Y_api_Node) x8.2.1, .v (.sl Y_api_Link) x8.2.2.1, .v (.sl Y_api_Rule) x8.2.2.2]), (3392, .box [.v .str x10, .own 3407, .own 3508, .own 3660]), (3407, .arr 52 Y_api_Node v12), (3508, .arr 60 Y_api_Link v32), (3660, .arr 64 Y_api_Rule q.2)], 132⟩ : St)) (fun q z2 h hz2 => ?_) h))
                obtain ⟨v51, v52⟩ := q
                dsimp only
                rw [m_triviumref22_Clean_l4] at h
                refine T.seq ?_
                obtain ⟨v53, hv, h⟩ := bdS h
                refine T.cut (fun _ : Unit => (⟨[(0, .v (.sl Y_api_Net) p0), (3, .own 2467), (4, .v (.int .i64) v2), (5, .box 3391 0), (6, .box 3392 0), (10, .v (.int .i64) v51), (113, .v .bool v53)], [(2467, .arr 28 Y_api_Net v3), (3391, .box [.v .str x8.1, .v (.sl Y_api_Node) x8.2.1, .v (.sl Y_api_Link) x8.2.2.1, .v (.sl Y_api_Rule) x8.2.2.2]), (3392, .box [.v .str x10, .own 3407, .own 3508, .own 3660]), (3407, .arr 52 Y_api_Node v12), (3508, .arr 60 Y_api_Link v32), (3660, .arr 64 Y_api_Rule v52)], 132⟩ : St)) (fun _ => True) ?_ (fun _ _ => ?_)
                · replace h := hv
                  clear hv
                  refine T.region ?_
                  refine Run.go (Ev.move rfl rfl) ?_
                  refine Run.go (Ev.fieldBox X rfl rfl rfl rfl rfl) ?_
                  refine Run.go (Ev.loadCell X rfl rfl rfl rfl rfl rfl) ?_
                  refine Run.go (Ev.len X rfl rfl rfl rfl) ?_
                  refine Run.go (Ev.int rfl rfl rfl rfl trivial) ?_
                  refine Run.go (Ev.move rfl rfl) ?_
                  rcases boolCases (decide (v51 < (x8.2.2.2.length : Int))) with hb54 | hb54
                  · replace h := ifT hb54 h
                    refine Run.on rfl rfl rfl hb54 (Ev.move rfl rfl) ?_
                    refine Run.on rfl rfl rfl hb54 (Ev.int rfl rfl rfl rfl trivial) ?_
                    refine Run.go (Ev.pickT rfl hb54 rfl rfl) ?_
                    refine Run.nil ?_
                    cases h
                    exact ⟨(), trivial, Ghost.only [(2467, 2467), (3391, 3391), (3392, 3392), (3407, 3407), (3508, 3508), (3660, 3660)] [0, 3, 4, 5, 6, 10, 113] rfl⟩
                  · replace h := ifF hb54 h
                    refine Run.offT rfl rfl rfl rfl hb54 ?_
                    refine Run.offT rfl rfl rfl rfl hb54 ?_
                    refine Run.go (Ev.pickF rfl hb54 rfl rfl) ?_
                    refine Run.nil ?_
                    cases h
                    exact ⟨(), trivial, Ghost.only [(2467, 2467), (3391, 3391), (3392, 3392), (3407, 3407), (3508, 3508), (3660, 3660)] [0, 3, 4, 5, 6, 10, 113] rfl⟩
                · refine T.cond rfl (fun hb55 => ?_) (fun hb55 => ?_)
                  · replace h := ifT hb55 h
                    refine T.skip ?_
                    refine T.seq ?_
                    refine T.block ?_
                    refine T.drawE [([3392], []), ([3392], []), ([3391], []), ([3391], []), ([], []), ([], []), ([], []), ([], []), ([3693], []), ([3660, 3694], [3694, 3660]), ([3392], []), ([3392, 3694], [3392])] [0, 1, 0, 4, 0, 28, 60, 124, 252, 511, 1023, 2047] (by kernel_rfl) (by kernel_rfl) ?_
                    refine RunE.go0 [3392] (fun ô hô => Ev.fieldBox X rfl (ka hô rfl rfl) rfl rfl rfl) rfl rfl ?_
                    refine RunE.go0 [3392] (fun ô hô => Ev.loadCell X rfl (ka hô rfl rfl) rfl rfl rfl rfl) rfl rfl ?_
                    refine RunE.go0 [3391] (fun ô hô => Ev.fieldBox X rfl (ka hô rfl rfl) rfl rfl rfl) rfl rfl ?_
                    refine RunE.go0 [3391] (fun ô hô => Ev.loadCell X rfl (ka hô rfl rfl) rfl rfl rfl rfl) rfl rfl ?_
                    refine RunE.go0 [] (fun ô hô => Ev.move rfl rfl) rfl rfl ?_
                    obtain ⟨x56, e57, h⟩ := bdS h
                    refine RunE.go0 [] (fun ô hô => Ev.e_rd X e57 rfl rfl rfl rfl) rfl rfl ?_
                    refine RunE.go0 [] (fun ô hô => Ev.load X rfl rfl rfl) rfl rfl ?_
                    obtain ⟨x58, e59, h⟩ := bdS h
                    refine RunE.go0 [] (fun ô hô => Ev.callC en21 (k_triviumref22_CleanRule e59) rfl (.cons .v .nil) rfl rfl) rfl rfl ?_
                    refine RunE.go0 [3693] (fun ô hô => Ev.firmNew (by exact ka hô rfl rfl) rfl (Ev.build X 3693 rfl rfl rfl rfl rfl (ka hô rfl rfl) rfl rfl)) rfl rfl ?_
                    obtain ⟨x60, e61, h⟩ := bdS h
                    refine RunE.go2 [3660, 3694] (fun ô hô => Ev.e_ap X 3694 e61 rfl (ka hô rfl rfl) rfl .v rfl rfl rfl (ka hô rfl rfl) rfl) rfl rfl ?_
                    refine RunE.go0 [3392] (fun ô hô => Ev.fieldBox X rfl (ka hô rfl rfl) rfl rfl rfl) rfl rfl ?_
                    refine RunE.do1 [3392, 3694] (fun ô hô => Ev.storeC sz26 rfl (ka hô rfl rfl) rfl (sp_own (ka hô rfl rfl)) rfl rfl) rfl rfl ?_
                    refine RunE.nil ?_
                    refine T.region ?_
                    refine Run.go (Ev.move rfl rfl) ?_
                    refine Run.go (Ev.int rfl rfl rfl rfl trivial) ?_
                    refine Run.go (Ev.assign rfl rfl) ?_
                    refine Run.nil ?_
                    cases h
                    exact LoopT.ghost (Ghost.only [(2467, 2467), (3391, 3391), (3392, 3392), (3407, 3407), (3508, 3508), (3694, 3660)] [0, 3, 4, 5, 6, 10] rfl) hz2
                  · replace h := ifF hb55 h
                    refine T.exit ?_
                    cases h
                    cases hz2
                    exact ⟨(), trivial, Ghost.only [(2467, 2467), (3392, 3392), (3407, 3407), (3508, 3508), (3660, 3606)] [0, 3, 4, 6] rfl⟩
              · refine T.region ?_
                refine Run.go (Ev.move rfl rfl) ?_
                refine Run.go (Ev.loadStn sz28 rfl rfl rfl rfl) ?_
                refine Run.ghost (Ghost.firmAll (id := 3407) rfl) ?_
                refine Run.ghost (Ghost.firmAll (id := 3508) rfl) ?_
                refine Run.ghost (Ghost.firmAll (id := 3606) rfl) ?_
                refine Run.ghost (Ghost.stv (t := 128) (τ := Y_api_Net) (y := ((x10, v12, v32, v50) : D_api_Net)) rfl rfl rfl) ?_
                refine Run.go (Ev.build X 3695 rfl rfl rfl rfl rfl rfl rfl rfl) ?_
                obtain ⟨x62, e63, h⟩ := bdS h
                refine Run.go (Ev.e_ap X 3696 e63 rfl rfl rfl (.own rfl) rfl rfl rfl rfl rfl) ?_
                refine Run.go (Ev.assign rfl rfl) ?_
                refine Run.nil ?_
                cases h
                exact ⟨(), trivial, Ghost.only [(3696, 3389)] [0, 3, 4] rfl⟩
        · refine T.region ?_
          refine Run.go (Ev.move rfl rfl) ?_
          refine Run.go (Ev.int rfl rfl rfl rfl trivial) ?_
          refine Run.go (Ev.assign rfl rfl) ?_
          refine Run.nil ?_
          cases h
          exact LoopT.ghost (Ghost.only [(3389, 2467)] [0, 3, 4] rfl) hz1
      · replace h := ifF hb6 h
        refine T.exit ?_
        cases h
        cases hz1
        exact ⟨(), trivial, Ghost.only [(2467, 621)] [3] rfl⟩
  · refine T.seq ?_
    refine T.region ?_
    refine Run.go (Ev.move rfl rfl) ?_
    refine Run.go (Ev.assign rfl rfl) ?_
    refine Run.nil ?_
    refine T.ret ?_
    cases h
    exact Fin.one rfl (.own rfl)
theorem en23 : Enters Tryz.prog 23 := ⟨_, Tryz.func23, rfl, rfl⟩
theorem k_formed_Find_1 {p0 : D_api_Net} {p1 : ByteArray} {y : Bool} (h : m_formed_Find_1 p0 p1 = some y) : Spec Tryz.prog 23 [(.v Y_api_Net p0), (.ptr .str p1)] (.v .bool y) [] := by
  rw [m_formed_Find_1] at h
  refine enterN [(.v Y_api_Net p0), (.ptr .str p1)] 8 Tryz.func23 rfl rfl rfl ?_
  refine T.seq ?_
  refine T.region ?_
  refine Run.go (Ev.box 1 rfl rfl rfl rfl) ?_
  refine Run.go (Ev.assign rfl rfl) ?_
  refine Run.nil ?_
  refine T.seq ?_
  refine T.region ?_
  refine Run.go (Ev.fieldBox X rfl rfl rfl rfl rfl) ?_
  refine Run.go (Ev.loadCell X rfl rfl rfl rfl rfl rfl) ?_
  refine Run.go (Ev.load X rfl rfl rfl) ?_
  refine Run.go (Ev.strs rfl rfl rfl rfl trivial) ?_
  refine Run.go (Ev.assign rfl rfl) ?_
  refine Run.nil ?_
  refine T.ret ?_
  cases h
  exact Fin.one rfl .v
theorem en22 : Enters Tryz.prog 22 := ⟨_, Tryz.func22, rfl, rfl⟩
theorem k_slices_IndexFunc_api_Net_api_Net__formed_Find_1 {p0 : (List D_api_Net)} {p1_0 : ByteArray} {y : Int} (h : m_slices_IndexFunc_api_Net_api_Net__formed_Find_1 p0 p1_0 = some y) : Spec Tryz.prog 22 [(.v (.sl Y_api_Net) p0), (.fn 23 [(.ptr .str p1_0)])] (.v (.int .i64) y) [] := by
  rw [m_slices_IndexFunc_api_Net_api_Net__formed_Find_1] at h
  refine enterN [(.v (.sl Y_api_Net) p0), (.fn 23 [(.ptr .str p1_0)])] 19 Tryz.func22 rfl rfl rfl ?_
  refine T.seq ?_
  refine T.region ?_
  refine Run.go (Ev.assign rfl rfl) ?_
  refine Run.nil ?_
  refine T.seq ?_
  refine T.seq ?_
  refine T.region ?_
  refine Run.go (Ev.move rfl rfl) ?_
  refine Run.go (Ev.len X rfl rfl rfl rfl) ?_
  refine Run.go (Ev.move rfl rfl) ?_
  refine Run.nil ?_
  refine T.block ?_
  refine T.loop (LoopT.ghost (Ghost.only [] [0, 1, 7, 8] rfl) (LoopT.run (fun q : Int => (⟨[(0, .v (.sl Y_api_Net) p0), (1, .fn 23 [.ptr .str p1_0]), (7, .v (.int .i64) ((p0.length : Int) : Int)), (8, .v (.int .i64) q)], [], 19⟩ : St)) (fun v1 z1 h hz1 => ?_) h))
  rw [m_slices_IndexFunc_api_Net_api_Net__formed_Find_1_l1] at h
  refine T.seq ?_
  refine T.region ?_
  refine Run.go (Ev.int rfl rfl rfl rfl trivial) ?_
  refine Run.nil ?_
  refine T.seq ?_
  refine T.cond rfl (fun hb2 => ?_) (fun hb2 => ?_)
  · replace h := ifT hb2 h
    refine T.skip ?_
    refine T.seq ?_
    refine T.block ?_
    refine T.seq ?_
    refine T.region ?_
    refine Run.go (Ev.move rfl rfl) ?_
    refine Run.go (Ev.assign rfl rfl) ?_
    refine Run.nil ?_
    refine T.seq ?_
    refine T.region ?_
    refine Run.go (Ev.move rfl rfl) ?_
    refine Run.go (Ev.move rfl rfl) ?_
    refine Run.go (Ev.move rfl rfl) ?_
    obtain ⟨x3, e4, h⟩ := bdS h
    refine Run.go (Ev.e_rd X e4 rfl rfl rfl rfl) ?_
    refine Run.go (Ev.load X rfl rfl rfl) ?_
    obtain ⟨x5, e6, h⟩ := bdS h
    refine Run.go (Ev.callC en23 (k_formed_Find_1 e6) rfl (.cons .v (.cons .ptr .nil)) rfl rfl) ?_
    refine Run.nil ?_
    refine T.cond rfl (fun hb7 => ?_) (fun hb7 => ?_)
    · replace h := ifT hb7 h
      refine T.seq ?_
      refine T.region ?_
      refine Run.go (Ev.move rfl rfl) ?_
      refine Run.go (Ev.assign rfl rfl) ?_
      refine Run.nil ?_
      refine T.ret ?_
      cases h
      cases hz1
      exact Fin.one rfl .v
    · replace h := ifF hb7 h
      refine T.skip ?_
      refine T.region ?_
      refine Run.go (Ev.int rfl rfl rfl rfl trivial) ?_
      refine Run.go (Ev.move rfl rfl) ?_
      refine Run.nil ?_
      cases h
      exact LoopT.ghost (Ghost.only [] [0, 1, 7, 8] rfl) hz1
  · replace h := ifF hb2 h
    refine T.exit ?_
    refine T.seq ?_
    refine T.region ?_
    refine Run.go (Ev.assign rfl rfl) ?_
    refine Run.nil ?_
    refine T.ret ?_
    cases h
    cases hz1
    exact Fin.one rfl .v
theorem en6 : Enters Tryz.prog 6 := ⟨_, Tryz.func6, rfl, rfl⟩
theorem k_formed_Find {p0 : (List D_api_Net)} {p1 : ByteArray} {y : D_api_Net × Bool} (h : m_formed_Find p0 p1 = some y) : Spec Tryz.prog 6 [(.v (.sl Y_api_Net) p0), (.v .str p1)] (.tup [.v Y_api_Net y.1, .v .bool y.2]) [] := by
  rw [m_formed_Find] at h
  refine enterN [(.v (.sl Y_api_Net) p0), (.v .str p1)] 17 Tryz.func6 rfl rfl rfl ?_
  refine T.seq ?_
  refine T.region ?_
  refine Run.go (Ev.box 1 rfl rfl rfl rfl) ?_
  refine Run.go (Ev.allocN X 2 rfl rfl rfl) ?_
  refine Run.go (Ev.assign rfl rfl) ?_
  refine Run.nil ?_
  refine T.seq ?_
  refine T.region ?_
  refine Run.go (Ev.move rfl rfl) ?_
  refine Run.go (Ev.e_fn rfl rfl) ?_
  refine Run.ghost (Ghost.freeze (id := 1) (τ := .str) (y := (p1 : ByteArray)) rfl rfl) ?_
  obtain ⟨x1, e2, h⟩ := bdS h
  refine Run.go (Ev.callC en22 (k_slices_IndexFunc_api_Net_api_Net__formed_Find_1 e2) rfl (.cons .v (.cons (.fn rfl) .nil)) rfl rfl) ?_
  refine Run.go (Ev.assign rfl rfl) ?_
  refine Run.nil ?_
  refine T.seq ?_
  refine T.seq ?_
  refine T.region ?_
  refine Run.go (Ev.move rfl rfl) ?_
  refine Run.go (Ev.int rfl rfl rfl rfl trivial) ?_
  refine Run.nil ?_
  refine T.cond rfl (fun hb3 => ?_) (fun hb3 => ?_)
  · replace h := ifT hb3 h
    refine T.seq ?_
    refine T.region ?_
    refine Run.go (Ev.structC pl28 zs28 rfl rfl rfl) ?_
    refine Run.do_ (Ev.storeC sz28 rfl rfl rfl rfl rfl rfl) ?_
    refine Run.go (Ev.assign rfl rfl) ?_
    refine Run.nil ?_
    refine T.ret ?_
    cases h
    exact Fin.many X rfl (.cons (.cell rfl rfl rfl rfl) (.cons (.tmp .v) .nil)) rfl
  · replace h := ifF hb3 h
    refine T.skip ?_
    refine T.seq ?_
    refine T.region ?_
    refine Run.go (Ev.move rfl rfl) ?_
    refine Run.go (Ev.move rfl rfl) ?_
    obtain ⟨x4, e5, h⟩ := bdS h
    refine Run.go (Ev.e_rd X e5 rfl rfl rfl rfl) ?_
    refine Run.go (Ev.load X rfl rfl rfl) ?_
    refine Run.do_ (Ev.storeBox X rfl rfl rfl rfl rfl rfl rfl) ?_
    refine Run.go (Ev.assign rfl rfl) ?_
    refine Run.nil ?_
    refine T.ret ?_
    cases h
    exact Fin.many X rfl (.cons (.cell rfl rfl rfl rfl) (.cons (.tmp .v) .nil)) rfl
theorem en7 : Enters Tryz.prog 7 := ⟨_, Tryz.func7, rfl, rfl⟩
theorem k_triviumref23_Find {p0 : (List D_api_Net)} {p1 : ByteArray} {y : Int} (h : m_triviumref23_Find p0 p1 = some y) : Spec Tryz.prog 7 [(.v (.sl Y_api_Net) p0), (.v .str p1)] (.v (.int .i64) y) [] := by
  rw [m_triviumref23_Find] at h
  refine enterN [(.v (.sl Y_api_Net) p0), (.v .str p1)] 20 Tryz.func7 rfl rfl rfl ?_
  refine T.seq ?_
  refine T.region ?_
  refine Run.go (Ev.assign rfl rfl) ?_
  refine Run.nil ?_
  refine T.seq ?_
  refine T.seq ?_
  refine T.region ?_
  refine Run.go (Ev.assign rfl rfl) ?_
  refine Run.nil ?_
  refine T.block ?_
  refine T.loop (LoopT.ghost (Ghost.only [] [0, 1, 5] rfl) (LoopT.run (fun q : Int => (⟨[(0, .v (.sl Y_api_Net) p0), (1, .v .str p1), (5, .v (.int .i64) q)], [], 20⟩ : St)) (fun v1 z1 h hz1 => ?_) h))
  rw [m_triviumref23_Find_l1] at h
  refine T.seq ?_
  refine T.seq ?_
  refine T.region ?_
  refine Run.go (Ev.move rfl rfl) ?_
  refine Run.go (Ev.move rfl rfl) ?_
  refine Run.go (Ev.len X rfl rfl rfl rfl) ?_
  refine Run.go (Ev.int rfl rfl rfl rfl trivial) ?_
  refine Run.nil ?_
  refine T.cond rfl (fun hb2 => ?_) (fun hb2 => ?_)
  · replace h := ifT hb2 h
    refine T.skip ?_
    refine T.seq ?_
    refine T.block ?_
    refine T.seq ?_
    refine T.region ?_
    refine Run.go (Ev.move rfl rfl) ?_
    refine Run.go (Ev.move rfl rfl) ?_
    obtain ⟨x3, e4, h⟩ := bdS h
    refine Run.go (Ev.e_rd X e4 rfl rfl rfl rfl) ?_
    refine Run.go (Ev.fieldAddr X rfl rfl rfl rfl) ?_
    refine Run.go (Ev.load X rfl rfl rfl) ?_
    refine Run.go (Ev.move rfl rfl) ?_
    refine Run.go (Ev.strs rfl rfl rfl rfl trivial) ?_
    refine Run.nil ?_
    refine T.cond rfl (fun hb5 => ?_) (fun hb5 => ?_)
    · replace h := ifT hb5 h
      refine T.seq ?_
      refine T.region ?_
      refine Run.go (Ev.move rfl rfl) ?_
      refine Run.go (Ev.assign rfl rfl) ?_
      refine Run.nil ?_
      refine T.ret ?_
      cases h
      cases hz1
      exact Fin.one rfl .v
    · replace h := ifF hb5 h
      refine T.skip ?_
      refine T.region ?_
      refine Run.go (Ev.move rfl rfl) ?_
      refine Run.go (Ev.int rfl rfl rfl rfl trivial) ?_
      refine Run.go (Ev.assign rfl rfl) ?_
      refine Run.nil ?_
      cases h
      exact LoopT.ghost (Ghost.only [] [0, 1, 5] rfl) hz1
  · replace h := ifF hb2 h
    refine T.exit ?_
    refine T.seq ?_
    refine T.region ?_
    refine Run.go (Ev.assign rfl rfl) ?_
    refine Run.nil ?_
    refine T.ret ?_
    cases h
    cases hz1
    exact Fin.one rfl .v
theorem en25 : Enters Tryz.prog 25 := ⟨_, Tryz.func25, rfl, rfl⟩
theorem k_formed_Node_1 {p0 : D_api_Node} {p1 : ByteArray} {y : Bool} (h : m_formed_Node_1 p0 p1 = some y) : Spec Tryz.prog 25 [(.v Y_api_Node p0), (.ptr .str p1)] (.v .bool y) [] := by
  rw [m_formed_Node_1] at h
  refine enterN [(.v Y_api_Node p0), (.ptr .str p1)] 8 Tryz.func25 rfl rfl rfl ?_
  refine T.seq ?_
  refine T.region ?_
  refine Run.go (Ev.box 1 rfl rfl rfl rfl) ?_
  refine Run.go (Ev.assign rfl rfl) ?_
  refine Run.nil ?_
  refine T.seq ?_
  refine T.region ?_
  refine Run.go (Ev.fieldBox X rfl rfl rfl rfl rfl) ?_
  refine Run.go (Ev.loadCell X rfl rfl rfl rfl rfl rfl) ?_
  refine Run.go (Ev.load X rfl rfl rfl) ?_
  refine Run.go (Ev.strs rfl rfl rfl rfl trivial) ?_
  refine Run.go (Ev.assign rfl rfl) ?_
  refine Run.nil ?_
  refine T.ret ?_
  cases h
  exact Fin.one rfl .v
end Go.Proofs.YtbmogniipgmkiaaGreat.AE
