/- The law AddrTexts holds of every input: the row, and its card. -/
import Derived.Test.YthcmjcjgaebciaaDoorQAT3
import Derived.KernelRfl
import Derived.Test.YthcmjcjgaebciaaDoorCards
import Derived.Test.YthcmjcjgaebciaaDoorTie
import Derived.WalkKit
import Derived.ProofKit
import Derived.OpenShut
import Derived.ShutString
import Derived.ChangeOld
import Derived.Below
import Derived.Lib.SmallJoins
import Derived.Lay
import Derived.SevenTiedAt
import Derived.Lib.LaidTab
import Derived.Lib.LaidU8
import Derived.Stop.LaidErr
import Derived.LaidMore
/- What the layer of addresses prints, and the document's answer: the same text; what was printed is read. -/
namespace Go.Proofs.YthcmjcjgaebciaaDoor.T
open Go.RowKit Go.Proofs.YthcmjcjgaebciaaDoorW.PrintWords Go.Proofs.YthcmjcjgaebciaaDoorW.PrintLast Go.Proofs.YthcmjcjgaebciaaDoorW.PrintMore Go.Proofs.YthcmjcjgaebciaaDoor.Txt

def printL (a : Int) : List UInt8 := Lib.itoa (a / 16777216) ++ 46 :: (Lib.itoa (a / 65536 % 256) ++ 46 :: (Lib.itoa (a / 256 % 256) ++ 46 :: Lib.itoa (a % 256)))
theorem join4 (p q r s : List UInt8) : Lib.join [p, q, r, s] [46] = p ++ 46 :: (q ++ 46 :: (r ++ 46 :: s)) := by
  simp [Lib.join, List.intercalate, List.intersperse]
theorem itoa_len (n : Int) (h0 : 0 ≤ n) (h1 : n < 4294967296) : (Lib.itoa n).length ≤ 21 := Lib.itoa_length_le n (by omega) (by omega)
theorem and255u (x : Int) (h0 : 0 ≤ x) (h1 : x < 4294967296) : Go.bits .and .u32 x 255 = x % 256 := by
  rw [u32_and x 255 h0 h1 (by omega) (by omega)]
  have : (255 : Int).toNat = 255 := rfl
  rw [this, nat_mask8]; omega
theorem shr_at (a : Int) (i : Nat) (hi : i < 4) : shr .u32 a (8 * (3 - (i : Int))) = a / 2 ^ (8 * (3 - i)) := by
  have e3 : (8 * (3 - (i : Int))).toNat = 8 * (3 - i) := by omega
  have e4 : min (8 * (3 - i)) (IntKind.bits .u32) = 8 * (3 - i) := by
    apply Nat.min_eq_left
    have : IntKind.bits .u32 = 32 := rfl
    omega
  unfold shr
  rw [e3, e4]
theorem print_step (k : Nat) (a : Int) (xs : List ByteArray) (i : Nat) (hi : i < 4) (hx : xs.length = 4) (h0 : 0 ≤ a) (h1 : a < 4294967296) (v : Int) (hv : a / 2 ^ (8 * (3 - i)) % 256 = v) :
    addr_Print.l0 (k + 1) a xs 4 (i : Int) = addr_Print.l0 k a (xs.set i (mk (Lib.itoa v))) 4 ((i + 1 : Nat) : Int) := by
  have e1 : wrap64 (3 - (i : Int)) = 3 - (i : Int) := w64 (by omega) (by omega)
  have e2 : wrap64 (8 * (3 - (i : Int))) = 8 * (3 - (i : Int)) := w64 (by omega) (by omega)
  have e5 : wrap64 ((i : Int) + 1) = ((i + 1 : Nat) : Int) := by rw [w64 (by omega) (by omega)]; omega
  have hd0 : 0 ≤ a / 2 ^ (8 * (3 - i)) := Int.ediv_nonneg h0 (Int.le_of_lt (Int.pow_pos (by decide)))
  have hd1 : a / 2 ^ (8 * (3 - i)) ≤ a := Int.ediv_le_self _ h0
  have e4 := shr_at a i hi
  generalize a / 2 ^ (8 * (3 - i)) = d at hd0 hd1 e4 hv
  have e6 : Go.bits .and .u32 d 255 = v := by rw [and255u d hd0 (by omega), hv]
  have e7 : wrap64 v = v := w64 (by omega) (by omega)
  have e8 : strconv_Itoa.f v = some (mk (Lib.itoa v)) := itoa_val v (by omega) (by omega)
  have c1 : (i : Int) < 4 := by omega
  have c2 : 0 ≤ 8 * (3 - (i : Int)) := by omega
  have c3 : 0 ≤ (i : Int) := by omega
  have c4 : (i : Int) < (xs.length : Int) := by omega
  conv => lhs; unfold addr_Print.l0
  rw [if_pos c1, e1, e2, if_pos c2, e4, e6, e7, e8]
  simp only [Option.bind_some]
  rw [if_pos c3, if_pos c4, e5, Int.toNat_natCast]
theorem print_val (a : Int) (k : Nat) (h0 : 0 ≤ a) (h1 : a < 4294967296) (hk : 10 ≤ k) : addr_Print.f k a = some (mk (printL a)) := by
  unfold addr_Print.f
  have c0 : (4 : Nat) ≤ 17592186044416 := by omega
  rw [if_pos c0]
  simp only [Option.bind_some]
  have e0 : ((List.replicate 4 (⟨#[]⟩ : ByteArray)).length : Int) = 4 := rfl
  rw [e0]
  have z0 : (0 : Int) = ((0 : Nat) : Int) := rfl
  rw [z0]
  obtain ⟨k, rfl⟩ : ∃ k', k = k' + 1 + 1 + 1 + 1 + 1 := ⟨k - 5, by omega⟩
  rw [print_step (k + 1 + 1 + 1 + 1) a _ 0 (by decide) rfl h0 h1 (a / 16777216) (by simp; omega)]
  rw [print_step (k + 1 + 1 + 1) a _ 1 (by decide) rfl h0 h1 (a / 65536 % 256) (by simp)]
  rw [print_step (k + 1 + 1) a _ 2 (by decide) rfl h0 h1 (a / 256 % 256) (by simp)]
  rw [print_step (k + 1) a _ 3 (by decide) rfl h0 h1 (a % 256) (by simp)]
  simp only [addr_Print.l0]
  rw [if_neg (by omega)]
  have e1 : ((((List.replicate 4 (⟨#[]⟩ : ByteArray)).set 0 (mk (Lib.itoa (a / 16777216)))).set (0 + 1) (mk (Lib.itoa (a / 65536 % 256)))).set 2 (mk (Lib.itoa (a / 256 % 256)))).set 3 (mk (Lib.itoa (a % 256))) = [Lib.itoa (a / 16777216), Lib.itoa (a / 65536 % 256), Lib.itoa (a / 256 % 256), Lib.itoa (a % 256)].map mk := rfl
  have e2 : (⟨#[46]⟩ : ByteArray) = mk [46] := rfl
  have l1 := itoa_len (a / 16777216) (by omega) (by omega)
  have l2 := itoa_len (a / 65536 % 256) (by omega) (by omega)
  have l3 := itoa_len (a / 256 % 256) (by omega) (by omega)
  have l4 := itoa_len (a % 256) (by omega) (by omega)
  rw [e1, e2, join_val _ _ (by simp) (by rw [join4]; simp; omega), join4]
  simp only [Option.bind_some, printL]
theorem refprint_val (a : Int) (k : Nat) (h0 : 0 ≤ a) (h1 : a < 4294967296) (hk : 40 ≤ k) : triviumref18_Print.f k a = some (mk (printL a)) := by
  unfold triviumref18_Print.f
  have e1 : Int.tdiv a 16777216 % 4294967296 = a / 16777216 := by rw [Int.tdiv_eq_ediv_of_nonneg h0]; omega
  have e2 : Int.tdiv a 65536 % 256 = a / 65536 % 256 := by rw [Int.tdiv_eq_ediv_of_nonneg h0]
  have e3 : Int.tdiv a 256 % 256 = a / 256 % 256 := by rw [Int.tdiv_eq_ediv_of_nonneg h0]
  have e4 : wrap64 (Int.tmod a 256) = a % 256 := by rw [Int.tmod_eq_emod_of_nonneg h0]; exact w64 (by omega) (by omega)
  have l1 := itoa_len (a / 16777216) (by omega) (by omega)
  have l2 := itoa_len (a / 65536 % 256) (by omega) (by omega)
  have l3 := itoa_len (a / 256 % 256) (by omega) (by omega)
  have l4 := itoa_len (a % 256) (by omega) (by omega)
  have d : (⟨#[46]⟩ : ByteArray) = mk [46] := rfl
  rw [e1, e2, e3, e4, refitoa_val _ k (by omega) (by omega) hk, refitoa_val (a / 65536 % 256) k (by omega) (by omega) hk, refitoa_val (a / 256 % 256) k (by omega) (by omega) hk, refitoa_val (a % 256) k (by omega) (by omega) hk, d]
  simp only [Option.bind_some, mk_append, size_mk, List.length_append, List.length_cons, List.length_nil]
  rw [if_pos (by omega), if_pos (by omega), if_pos (by omega), if_pos (by omega), if_pos (by omega), if_pos (by omega)]
  unfold printL
  simp
theorem print_len (a : Int) (h0 : 0 ≤ a) (h1 : a < 4294967296) : (printL a).length ≤ 100 := by
  have l1 := itoa_len (a / 16777216) (by omega) (by omega)
  have l2 := itoa_len (a / 65536 % 256) (by omega) (by omega)
  have l3 := itoa_len (a / 256 % 256) (by omega) (by omega)
  have l4 := itoa_len (a % 256) (by omega) (by omega)
  unfold printL
  simp; omega
def textL (p n : Int) : List UInt8 := if MayP p n then printL p ++ 47 :: Lib.itoa n else []
theorem text_len (p n : Int) (h0 : 0 ≤ p) (h1 : p < 4294967296) : (textL p n).length ≤ 130 := by
  unfold textL
  have := print_len p h0 h1
  split
  · rename_i hm
    have := itoa_len n hm.1 (by have := hm.2.1; omega)
    simp; omega
  · simp
theorem text_val (p n : Int) (k : Nat) (h0 : 0 ≤ p) (h1 : p < 4294967296) (hk : 40 ≤ k) : addr_Text.f k p n = some (mk (textL p n)) := by
  unfold addr_Text.f textL
  rw [may_val p n h0 h1]
  simp only [Option.bind_some, decide_eq_true_eq]
  have d : (⟨#[47]⟩ : ByteArray) = mk [47] := rfl
  have hl := print_len p h0 h1
  by_cases hm : MayP p n
  · have hn := hm.2.1
    have l1 := itoa_len n hm.1 (by omega)
    rw [if_pos hm, if_pos hm, print_val p k h0 h1 (by omega), itoa_val n (by have := hm.1; omega) (by omega), d]
    simp only [Option.bind_some, mk_append, size_mk, List.length_append, List.length_cons, List.length_nil]
    rw [if_pos (by omega), if_pos (by omega)]
    simp
  · rw [if_neg hm, if_neg hm]
    rfl
theorem reftext_val (p n : Int) (k : Nat) (h0 : 0 ≤ p) (h1 : p < 4294967296) (hk : 40 ≤ k) : triviumref18_Text.f k p n = some (mk (textL p n)) := by
  unfold triviumref18_Text.f textL
  rw [refMay_val k p n h0 h1 hk]
  simp only [Option.bind_some, decide_eq_true_eq]
  have d : (⟨#[47]⟩ : ByteArray) = mk [47] := rfl
  have hl := print_len p h0 h1
  by_cases hm : MayP p n
  · have hn := hm.2.1
    have l1 := itoa_len n hm.1 (by omega)
    rw [if_pos hm, if_pos hm, refprint_val p k h0 h1 (by omega), refitoa_val n k hm.1 (by omega) hk, d]
    simp only [Option.bind_some, mk_append, size_mk, List.length_append, List.length_cons, List.length_nil]
    rw [if_pos (by omega), if_pos (by omega)]
    simp
  · rw [if_neg hm, if_neg hm]
    rfl
end Go.Proofs.YthcmjcjgaebciaaDoor.T
/- The plain law: any text is read as an address, and as a prefix, as the document says, or refused, and any address printed. -/
namespace Go.Proofs.YthcmjcjgaebciaaDoor.T
open Go.RowKit Go.Proofs.YthcmjcjgaebciaaDoorW.PrintWords Go.Proofs.YthcmjcjgaebciaaDoorW.PrintLast Go.Proofs.YthcmjcjgaebciaaDoorW.PrintMore Go.Proofs.YthcmjcjgaebciaaDoor.Txt
set_option maxRecDepth 100000 in
theorem works18t : triviumlaw18_works.f 63 = some true := by kernel_rfl
theorem pure_AddrTexts : triviumlaw18_AddrTexts.Pure := by
  intro s a p n _ ha hp _
  obtain ⟨a0, a1⟩ := u32_bounds ha
  obtain ⟨p0, p1⟩ := u32_bounds hp
  refine ⟨1100, ?_⟩
  unfold triviumlaw18_AddrTexts.f
  have h0 : 0 ≤ mn (s.size : Int) 100 := by unfold mn; split <;> omega
  have h1 : mn (s.size : Int) 100 ≤ (s.size : Int) := by unfold mn; split <;> omega
  have h2 : mn (s.size : Int) 100 ≤ 100 := by unfold mn; split <;> omega
  rw [if_pos h0, if_pos h1]
  have e : s.extract 0 (mn (s.size : Int) 100).toNat = mk ((un s).take (mn (s.size : Int) 100).toNat) := by
    apply un_inj; rw [un_extract, un_mk]; rfl
  have hl : ((un s).take (mn (s.size : Int) 100).toNat).length ≤ 1000 := by simp; omega
  have hw : triviumlaw18_works.f 1100 = some true := at_rounds (fun k => triviumlaw18_works.mono k) (by decide) works18t
  rw [e, parse_val _ 1100 hl (by decide), refparse_val _ 1100 hl (by decide), prefix_val _ 1100 hl (by decide), refprefix_val _ 1100 hl (by decide), print_val a 1100 a0 a1 (by decide), refprint_val a 1100 a0 a1 (by decide), text_val p n 1100 p0 p1 (by decide), reftext_val p n 1100 p0 p1 (by decide), hw]
  simp only [Option.bind_some, if_true, beq_self_eq_true, Bool.and_self]
end Go.Proofs.YthcmjcjgaebciaaDoor.T
namespace Go.Proofs.YthcmjcjgaebciaaDoor.Pure
theorem AddrTexts : T.triviumlaw18_AddrTexts.Pure := T.pure_AddrTexts
end Go.Proofs.YthcmjcjgaebciaaDoor.Pure
/- The law AddrTexts holds of every input: the row, and its card. -/
namespace Go.Proofs.YthcmjcjgaebciaaDoor.addrTexts
open Go.ChangeShapes Go.WideShapes Go.ChangeAt Go.RowKit
open Go.ChangeMaps (open_string shut_string)
open Go.Proofs.YthcmjcjgaebciaaDoorW.PrintWords Go.Proofs.YthcmjcjgaebciaaDoorW.PrintLast Go.Proofs.YthcmjcjgaebciaaDoorW.PrintMore
set_option linter.unusedVariables false
theorem own : ownKnob Tryd.prog.godebug = none := by kernel_rfl
theorem laidOut : laidOutB Tryd.prog = true := by kernel_rfl
def IsRow (k : IntKind) (w : World) (a : Option Addr) (len cap : Nat) (zs : List Int) : Prop :=
  (a = none ∧ len = 0 ∧ cap = 0 ∧ zs = []) ∨
  ∃ x, a = some x ∧ len ≤ cap ∧ cap ≤ maxLen ∧ zs.length = cap ∧ (∀ i, i < zs.length → w.cell? (x.add i) = some (.int k (zs.getD i 0))) ∧ ∀ n ∈ zs, (Lit.int k n).wf = true
theorem gTab : Tryd.prog.globalNamed "internal/strconv.uint64pow10" = some 3 := by kernel_rfl
theorem gTabType : (Tryd.prog.globals[3]?).map (·.type) = some 201 := by kernel_rfl
theorem cellsA : Tryd.prog.cellsOf 201 = 20 := by kernel_rfl
theorem cellsE : Tryd.prog.cellsOf 96 = 1 := by kernel_rfl
theorem table {W : World} (h : laidMet Tryd.prog Rows.addrTextsRow.laid W) : GF Tryd.prog W :=
  Lib.tabIs_of_head (rest := []) gTab gTabType Tryd.underlying201 Tryd.underlying96 cellsE cellsA (laidMet.tail (laidMet.tail h))
set_option maxRecDepth 100000 in
theorem lifted (os : Os) (started : os.Started) (H : Type) (enc : TypeId × Value → H) :
    ReturnsInHanded {} Tryd.checked os 6 .any (fun w args => (Rows.addrTextsSpec.pre enc Tryd.prog Tryd.f6 [] false w args ∧ laidMetH Tryd.prog Rows.addrTextsRow.laid w) ∧ sizedMet enc Tryd.prog Tryd.f6 (OpenSpec.ofChange Rows.addrTextsSpec) false w args)
      (Rows.addrTextsSpec.post enc Tryd.prog Tryd.f6 false true false false) := by
  refine returnsInHanded_of_change_and (C := Tryd.checked) (X := fun w _ => laidMetH Tryd.prog Rows.addrTextsRow.laid w) (fun _ _ _ hh h => h.of_heap hh) own started (by kernel_rfl) Tryd.func6
    (ChangeSpec.witness_shaped (enc := enc) (C := Tryd.checked) (os := os) (X := fun w _ => laidMetH Tryd.prog Rows.addrTextsRow.laid w) false (World.laidAll Tryd.prog os Rows.addrTextsRow.laid) #[.string ByteArray.empty, .int .u32 0, .agg #[.int .u32 0, .int .i64 0]] 8 (World.laidAll_os _ _ _)
      (World.shaped_of_ZipB (by kernel_rfl) (by kernel_rfl)) (by kernel_rfl) (by kernel_rfl) (by kernel_rfl)
      (by rw [MakeChecks.laidMetH_plain _ _ _ (by kernel_rfl)]; exact laidMet_laidAll _ (by kernel_rfl) (by kernel_rfl))) ?_
  intro W base args ds gs before hval0 hW _ hsz0 hL0 _
  have hL : laidMet Tryd.prog Rows.addrTextsRow.laid W := by rw [MakeChecks.laidMetH_plain _ _ _ (by kernel_rfl)] at hL0; exact hL0
  clear hsz0
  have hval : ∀ (j : Nat) t v, Tryd.f6.params[j]? = some t → args[j]? = some v → Value.okWide Tryd.prog W .any base t v := hval0
  have hW' := hW
  obtain ⟨p, q, hA0, hV, rfl, hfz, hnd⟩ := hW
  have hA : DataW.TrodAll enc Tryd.prog W 0 (fun _ => true) true Tryd.f6.params.toList args.toList ds p := hA0
  rw [Tryd.params6] at hA hval
  obtain ⟨v0, vs0, d0, ds0, p0, q0, hargs, rfl, rfl, h0, r0⟩ := trodAll_cons hA
  obtain ⟨v1, vs1, d1, ds1, p1, q1, rfl, rfl, rfl, h1, r1⟩ := trodAll_cons r0
  obtain ⟨v2, vs2, d2, ds2, p2, q2, rfl, rfl, rfl, h2, r2⟩ := trodAll_cons r1
  obtain ⟨rfl, rfl, rfl⟩ := trodAll_nil r2
  obtain rfl : args = #[v0, v1, v2] := by cases args; simp_all
  obtain ⟨rfl, rfl⟩ := trodVars_none hV
  have k0 := h0
  have lt0 : ∀ x ∈ p0, x.block < W.heap.size := by obtain ⟨m, hm⟩ := k0; exact DataW.trod_lt m _ _ _ hm
  obtain ⟨a0, rfl, rfl, rfl, w0⟩ := open_string Tryd.underlying9 (hval 0 9 v0 rfl rfl) h0
  have k1 := h1
  have lt1 : ∀ x ∈ p1, x.block < W.heap.size := by obtain ⟨m, hm⟩ := k1; exact DataW.trod_lt m _ _ _ hm
  obtain ⟨a1, rfl, rfl, rfl, w1⟩ := open_int Tryd.underlying38 (hval 1 38 v1 rfl rfl) h1
  have k2 := h2
  have lt2 : ∀ x ∈ p2, x.block < W.heap.size := by obtain ⟨m, hm⟩ := k2; exact DataW.trod_lt m _ _ _ hm
  obtain ⟨v2_0, v2_1, y2_0, y2_1, n2, rfl, rfl, rfl, g2_0, g2_1⟩ := Joins.open_agg2 Tryd.underlying40 (by kernel_rfl) (by kernel_rfl) (hval 2 40 v2 rfl rfl) h2
  obtain ⟨a2_0, e2_0, _, w2_0⟩ := DataW.trod_int Tryd.underlying38 g2_0
  obtain rfl : v2_0 = .int .u32 a2_0 := by simpa using e2_0
  obtain ⟨a2_1, e2_1, _, w2_1⟩ := DataW.trod_int Tryd.underlying3 g2_1
  obtain rfl : v2_1 = .int .i64 a2_1 := by simpa using e2_1
  clear hA0 hval0
  obtain ⟨k, h⟩ := Pure.AddrTexts a0 a1 a2_0 a2_1 w0 w1 w2_0 w2_1
  have C := T.triviumlaw18_AddrTexts.calls k a0 a1 a2_0 a2_1 true W (table hL) h
  refine C.mono fun e W' ⟨he, bel⟩ => ?_
  subst he
  exact ⟨_, rfl, _, _, _, [], _, [], hW', trodAll_mk1 (shut_bool Tryd.underlying4 _), (trodAll_cons_mk (Below.trod laidOut (by kernel_rfl) (of_decide_eq_true (by kernel_rfl)) k0 bel lt0) (trodAll_cons_mk (Below.trod laidOut (by kernel_rfl) (of_decide_eq_true (by kernel_rfl)) k1 bel lt1) (trodAll_cons_mk (Below.trod laidOut (by kernel_rfl) (of_decide_eq_true (by kernel_rfl)) k2 bel lt2) trodAll_mk0))), rfl, bel.frame _, fun h => by cases h⟩
theorem over : Rows.addrTextsRow.holds Tryd.pinned (OpenSpec.ofChange Rows.addrTextsSpec) :=
  OpenClaim.holds_of_wide 6 Tryd.f6 rfl rfl rfl rfl rfl rfl rfl ⟨rfl, rfl, rfl, rfl, rfl⟩ rfl rfl rfl rfl rfl (by kernel_rfl) Tryd.func6 (by kernel_rfl)
    (of_decide_eq_true (by kernel_rfl)) (by unfold Func.isWrapper; first | (rw [if_pos (by decide +kernel)]; kernel_rfl) | (rw [if_neg (by decide +kernel)]; exact ⟨rfl, rfl⟩))
    (fun os started H enc _ => lifted os started H enc)
theorem proved : Rows.AddrTextsSaid := over
theorem plain (f : FuncId) (fn : Func) (hf : Tryd.pinned.checked.prog.funcNamed "trivium/triviumlaw18.AddrTexts" = some f) (hfn : Tryd.pinned.checked.prog.funcs[f]? = some fn) :
    false = Tryd.pinned.checked.prog.looks [] ∧ ∀ (j : Nat) t, fn.params[j]? = some t → Tryd.pinned.checked.prog.wantsStandIn t = false := by
  obtain rfl : f = 6 := Option.some.inj ((show Tryd.prog.funcNamed "trivium/triviumlaw18.AddrTexts" = some 6 by kernel_rfl).symm.trans hf) |>.symm
  obtain rfl : fn = Tryd.f6 := (Option.some.inj (Tryd.func6.symm.trans hfn)).symm
  exact ⟨by kernel_rfl, fun j t ht => by
    rw [Tryd.params6] at ht
    have hm : t ∈ [9, 38, 40] := by simpa using Array.mem_of_getElem? ht
    have hall : ([9, 38, 40].all fun u => !Tryd.prog.wantsStandIn u) = true := by kernel_rfl
    exact (show Tryd.prog.wantsStandIn t = false by simpa using List.all_eq_true.1 hall t hm)⟩
theorem card : Rows.AddrTextsCardSaid :=
  Claim7.holds_tied_plain_at .later [] _ _ _ _ proved (fun _ h => by cases h) (by kernel_rfl) (fun _ h => by cases h) addrTexts_row_tie rfl ⟨rfl, rfl⟩ (by kernel_rfl) rfl plain (by kernel_rfl)
#print axioms card
end Go.Proofs.YthcmjcjgaebciaaDoor.addrTexts
namespace Go.Proofs.YthcmjcjgaebciaaDoor
/-- The statement, under a short name, for the claim. -/
theorem addrTexts_holds : Rows.AddrTextsCardSaid := addrTexts.card
end Go.Proofs.YthcmjcjgaebciaaDoor
