/- Contracts of the program's functions: each Go function that is named below comes to what its Lean function says. Written by xprint.py (a program of this session's, over the kit's print). Conditions: each contract's own premises. -/
import Derived.Test.YthkbgbkglgmpoaaYSchemaLines0
import Derived.Test.YthkbgbkglgmpoaaYSchemaLines1
import Derived.Test.YthkbgbkglgmpoaaYSchemaLines2
namespace Go.Proofs.Ythkbgbkglgmpoaa.XA
open Go.RowKit Go.Proofs.YthkbgbkglgmpoaaW.PrintWords Go.Proofs.YthkbgbkglgmpoaaW.PrintLast Go.Proofs.YthkbgbkglgmpoaaW.PrintMore XW
attribute [local go_sem] max2_int min2_int max_two min_two max_three min_three max_four min_four   -- for this text's walks alone
set_option linter.unusedVariables false
set_option linter.unusedSimpArgs false

/-! ### spec_l03OK: function 65 -/
mutual
def spec_l03OK.l0 : Nat → List (S97) → Int → Option (Bool)
 | 0, _, _ => none
 | k + 1, x0, x3 => if x3 < (x0.length : Int) then (if 0 ≤ x3 then ((spec_l03Rule.f k ((rd_T97 x0 x3).f0) ((rd_T97 x0 x3).f1) ((rd_T97 x0 x3).f2) (x0.length : Int)).bind fun t125 => (if t125 = true then (spec_l03OK.l1 k x0 x3 0) else (some false))) else (none)) else (some true)
def spec_l03OK.l1 : Nat → List (S97) → Int → Int → Option (Bool)
 | 0, _, _, _ => none
 | k + 1, x0, x3, x4 => if x4 < x3 then (if 0 ≤ x4 then (if x4 < (x0.length : Int) then (if 0 ≤ x3 then (if x3 < (x0.length : Int) then (if ((rd_T97 x0 x4).f0).toList = ((rd_T97 x0 x3).f0).toList then (some false) else (spec_l03OK.l1 k x0 x3 (wrap64 (x4 + 1)))) else (none)) else (none)) else (none)) else (none)) else (spec_l03OK.l0 k x0 (wrap64 (x3 + 1)))
end
def spec_l03OK.f (k : Nat) (l0 : List (S97)) : Option (Bool) := (spec_l01In.f (l0.length : Int) 1 8).bind fun t123 => (if t123 = true then (spec_l03OK.l0 k l0 0) else (some false))
set_option maxHeartbeats 8000000 in
set_option maxRecDepth 100000 in
theorem spec_l03OK.calls (k : Nat) (A0 : Option Addr) (c0 : Nat) (l0 : List (S97)) (r : Bool) (w : World) (hr0 : Kd.C k97 w A0 l0.length l0) (hc0 : l0.length ≤ c0) (h : spec_l03OK.f k l0 = some r) :
  Calls Try.prog 65 #[.slice A0 l0.length c0] w fun e w' => e = .returned (.bool r) ∧ Below w.heap.size w w' := by
 have hu97 := Try.underlying97
 have HR0 := Aside0.mk hr0
 have HC0 := Aside0.mk hc0
 clear hr0 hc0
 have HB := Aside0.mk (Below.refl w.heap.size w)
 have H : ((spec_l01In.f (l0.length : Int) 1 8).bind fun t123 => (if t123 = true then (spec_l03OK.l0 k l0 0) else (some false))) = some r := h
 clear h
 obtain ⟨t123, A2, H⟩ := Xbi H
 (try dsimp only at H)
 have HC3 := Aside0.mk H
 clear H
 go_enter Try.func65, Try.ntmps65
 go_upto_if 8 with (first | (go_at_call 105; (with_reducible refine (spec_l01In.calls (l0.length : Int) 1 8 t123 _ A2.out).mono ?_); rintro e w' ⟨rfl, ⟨nd, rfl⟩⟩; (try exact Xdd)))
 repeat (go_quiet (first | (go_at_call 105; (with_reducible refine (spec_l01In.calls (l0.length : Int) 1 8 t123 _ A2.out).mono ?_); rintro e w' ⟨rfl, ⟨nd, rfl⟩⟩; (try exact Xdd))); go_upto_if 8 with (first | (go_at_call 105; (with_reducible refine (spec_l01In.calls (l0.length : Int) 1 8 t123 _ A2.out).mono ?_); rintro e w' ⟨rfl, ⟨nd, rfl⟩⟩; (try exact Xdd))))
 have H := HC3.out
 clear HC3
 by_cases c4 : t123 = true
 ·subst c4
  (first | rw [if_pos rfl] at H | skip)
  have H' := Aside0.mk H
  clear H
  go_wp2
  repeat (go_quiet (fail); try go_wp2)
  go_loopg [3] k (fun kq v3 w' => ∃ (x3_1 : Int), v3 = .int .i64 x3_1 ∧ Aside0 (spec_l03OK.l0 kq l0 x3_1 = some r) ∧ Aside0 (kq ≤ k) ∧ Aside0 (Below w.heap.size w w'))
  case atStart => exact ⟨(0), Xr, H', Xkr, ⟨Xi⟩⟩
  case round =>
   clear H'
   (try clear c4)
   obtain ⟨x3_1, rfl, HA, HK1, HB⟩ := hrel
   cases gk with
   | zero => cases HA.out
   | succ k1 =>
    have H := HA.out
    clear HA
    simp only [spec_l03OK.l0] at H
    obtain ⟨c5b0, H⟩ | ⟨c5b0, H⟩ := Xit H
    ·(first | rw [c5b0] | (simp only [i64_w, i32_w]; rw [c5b0]) | skip)
     obtain ⟨c6b0, H⟩ := Xid H
     obtain ⟨t125, A7, H⟩ := Xbi H
     (try dsimp only at H)
     have HC8 := Aside0.mk H
     clear H
     obtain ⟨ad124, A124_2, c124_2, e124, p124, q124, hx124_0, hx124_1, hx124_2, HC124_2, HR124_2⟩ := at_B97 HR0 x3_1 Xa Xa HB
     cases e124
     go_upto_if 22 with (first | (go_at_call 113; (with_reducible refine (spec_l03Rule.calls k1 ((rd_T97 l0 x3_1).f0) ((rd_T97 l0 x3_1).f1) _ _ ((rd_T97 l0 x3_1).f2) (l0.length : Int) t125 _ ?side1 ?side2 A7.out).mono ?_); (case side1 => exact Xc HR124_2); (case side2 => exact HC124_2.out); rintro e w9 ⟨rfl, hb⟩; replace HB := Aside0.mk (below_step Xi hb); clear hb))
     repeat (go_quiet (first | (go_at_call 113; (with_reducible refine (spec_l03Rule.calls k1 ((rd_T97 l0 x3_1).f0) ((rd_T97 l0 x3_1).f1) _ _ ((rd_T97 l0 x3_1).f2) (l0.length : Int) t125 _ ?side1 ?side2 A7.out).mono ?_); (case side1 => exact Xc HR124_2); (case side2 => exact HC124_2.out); rintro e w9 ⟨rfl, hb⟩; replace HB := Aside0.mk (below_step Xi hb); clear hb)); go_upto_if 22 with (first | (go_at_call 113; (with_reducible refine (spec_l03Rule.calls k1 ((rd_T97 l0 x3_1).f0) ((rd_T97 l0 x3_1).f1) _ _ ((rd_T97 l0 x3_1).f2) (l0.length : Int) t125 _ ?side1 ?side2 A7.out).mono ?_); (case side1 => exact Xc HR124_2); (case side2 => exact HC124_2.out); rintro e w9 ⟨rfl, hb⟩; replace HB := Aside0.mk (below_step Xi hb); clear hb)))
     have H := HC8.out
     clear HC8
     by_cases c10 : t125 = true
     ·subst c10
      (first | rw [if_pos rfl] at H | skip)
      have H' := Aside0.mk H
      clear H
      go_wp2
      repeat (go_quiet (fail); try go_wp2)
      go_loopg [4] k1 (fun kq v4 w' => ∃ (x4_2 : Int), v4 = .int .i64 x4_2 ∧ Aside0 (spec_l03OK.l1 kq l0 x3_1 x4_2 = some r) ∧ Aside0 (kq ≤ k1) ∧ Aside0 (Below w.heap.size w w'))
      case atStart => exact ⟨(0), Xr, H', Xkr, ⟨Xi⟩⟩
      case round =>
       clear H'
       (try clear c4); (try clear c5); (try clear c5b0); (try clear c6); (try clear c6b0); (try clear c10); (try clear hx124_0); (try clear hx124_1); (try clear hx124_2); (try clear p124); (try clear q124)
       obtain ⟨x4_2, rfl, HA, HK2, HB⟩ := hrel
       cases gk with
       | zero => cases HA.out
       | succ k2 =>
        have H := HA.out
        clear HA
        simp only [spec_l03OK.l1] at H
        obtain ⟨c11b0, H⟩ | ⟨c11b0, H⟩ := Xit H
        ·(first | rw [c11b0] | (simp only [i64_w, i32_w]; rw [c11b0]) | skip)
         obtain ⟨c12b0, H⟩ := Xid H
         obtain ⟨c13b0, H⟩ := Xid H
         obtain ⟨c14b0, H⟩ := Xid H
         obtain ⟨c15b0, H⟩ := Xid H
         obtain ⟨c16, H⟩ | ⟨c16, H⟩ := Xiu H
         ·have c16b0 : (((rd_T97 l0 x4_2).f0).toList == ((rd_T97 l0 x3_1).f0).toList) = true := beq_iff_eq.mpr c16
          have c16b1 : (((rd_T97 l0 x4_2).f0).toList != ((rd_T97 l0 x3_1).f0).toList) = false := bne_eq_false_iff_eq.mpr c16
          clear c16
          obtain rfl := Option.some.inj H
          obtain ⟨ad126, A126_2, c126_2, e126, p126, q126, hx126_0, hx126_1, hx126_2, HC126_2, HR126_2⟩ := at_B97 HR0 x4_2 Xa Xa HB
          obtain rfl : ad124 = ad126 := (by injection e126)
          obtain ⟨ad127, A127_2, c127_2, e127, p127, q127, hx127_0, hx127_1, hx127_2, HC127_2, HR127_2⟩ := at_B97 HR0 x3_1 Xa Xa HB
          obtain rfl : ad124 = ad127 := (by injection e127)
          go_wp2
          repeat (go_quiet (fail); try go_wp2)
          go_ret
          exact ⟨Xe, Xi⟩
         ·have c16b0 : (((rd_T97 l0 x4_2).f0).toList == ((rd_T97 l0 x3_1).f0).toList) = false := beq_eq_false_iff_ne.mpr c16
          have c16b1 : (((rd_T97 l0 x4_2).f0).toList != ((rd_T97 l0 x3_1).f0).toList) = true := bne_iff_ne.mpr c16
          have H' := Aside0.mk H
          clear H
          obtain ⟨ad126, A126_2, c126_2, e126, p126, q126, hx126_0, hx126_1, hx126_2, HC126_2, HR126_2⟩ := at_B97 HR0 x4_2 Xa Xa HB
          obtain rfl : ad124 = ad126 := (by injection e126)
          obtain ⟨ad127, A127_2, c127_2, e127, p127, q127, hx127_0, hx127_1, hx127_2, HC127_2, HR127_2⟩ := at_B97 HR0 x3_1 Xa Xa HB
          obtain rfl : ad124 = ad127 := (by injection e127)
          go_wp2
          repeat (go_quiet (fail); try go_wp2)
          go_roundg k2
          case measure => have := HK1.out; have := HK2.out; omega
          case rel => exact ⟨(wrap64 (x4_2 + 1)), Xr, H', ⟨by have := HK1.out; have := HK2.out; omega⟩, ⟨Xi⟩⟩
        ·(first | rw [c11b0] | (simp only [i64_w, i32_w]; rw [c11b0]) | skip)
         have H' := Aside0.mk H
         clear H
         go_wp2
         repeat (go_quiet (fail); try go_wp2)
         go_roundg k2
         case measure => have := HK1.out; have := HK2.out; omega
         case rel => exact ⟨(wrap64 (x3_1 + 1)), Xr, H', ⟨by have := HK1.out; have := HK2.out; omega⟩, ⟨Xi⟩⟩
     ·replace c10 := Bool.eq_false_iff.mpr c10
      subst c10
      (first | rw [if_neg (show ¬ (false = true) by decide)] at H | skip)
      obtain rfl := Option.some.inj H
      go_wp2
      repeat (go_quiet (fail); try go_wp2)
      go_ret
      exact ⟨Xe, Xi⟩
    ·(first | rw [c5b0] | (simp only [i64_w, i32_w]; rw [c5b0]) | skip)
     obtain rfl := Option.some.inj H
     go_wp2
     repeat (go_quiet (fail); try go_wp2)
     go_ret
     exact ⟨Xe, Xi⟩
 ·replace c4 := Bool.eq_false_iff.mpr c4
  subst c4
  (first | rw [if_neg (show ¬ (false = true) by decide)] at H | skip)
  obtain rfl := Option.some.inj H
  go_wp2
  repeat (go_quiet (fail); try go_wp2)
  go_ret
  exact ⟨Xe, Xi⟩

/-! ### spec_l03TermText: function 144 -/
def spec_l03TermText.l0 : Nat → List (S97) → ByteArray → Int → List Int → Int → Option (ByteArray)
 | 0, _, _, _, _, _ => none
 | k + 1, x0, x5, x6, x129000, x129001 => if x6 < (x129000.length : Int) then (if x6 > 0 then (if x5.size + 1 ≤ 9223372036854775807 then (if 0 ≤ x6 then (if 0 ≤ (wrap64 ((rd x129000 x6) - 1)) then (if (wrap64 ((rd x129000 x6) - 1)) < (x0.length : Int) then (if (x5 ++ (⟨#[124]⟩ : ByteArray)).size + ((rd_T97 x0 (wrap64 ((rd x129000 x6) - 1))).f0).size ≤ 9223372036854775807 then (spec_l03TermText.l0 k x0 ((x5 ++ (⟨#[124]⟩ : ByteArray)) ++ ((rd_T97 x0 (wrap64 ((rd x129000 x6) - 1))).f0)) (wrap64 (x6 + 1)) x129000 x129001) else (none)) else (none)) else (none)) else (none)) else (none)) else (if 0 ≤ x6 then (if 0 ≤ (wrap64 ((rd x129000 x6) - 1)) then (if (wrap64 ((rd x129000 x6) - 1)) < (x0.length : Int) then (if x5.size + ((rd_T97 x0 (wrap64 ((rd x129000 x6) - 1))).f0).size ≤ 9223372036854775807 then (spec_l03TermText.l0 k x0 (x5 ++ ((rd_T97 x0 (wrap64 ((rd x129000 x6) - 1))).f0)) (wrap64 (x6 + 1)) x129000 x129001) else (none)) else (none)) else (none)) else (none))) else ((some (([(⟨#[]⟩ : ByteArray), (⟨#[63]⟩ : ByteArray), (⟨#[42]⟩ : ByteArray), (⟨#[43]⟩ : ByteArray)] : List ByteArray) : List ByteArray)).bind fun y133 => (if 0 ≤ x129001 then (if x129001 < (y133.length : Int) then (if x5.size + (rdOf ByteArray.empty y133 x129001).size ≤ 9223372036854775807 then (some (x5 ++ (rdOf ByteArray.empty y133 x129001))) else (none)) else (none)) else (none)))
def spec_l03TermText.f (k : Nat) (l0 : List (S97)) (l1_0 : List Int) (a1_1 : Int) : Option (ByteArray) := spec_l03TermText.l0 k l0 (⟨#[]⟩ : ByteArray) 0 l1_0 a1_1
set_option maxHeartbeats 8000000 in
set_option maxRecDepth 100000 in
theorem spec_l03TermText.calls (k : Nat) (A0 : Option Addr) (c0 : Nat) (l0 : List (S97)) (A1_0 : Option Addr) (c1_0 : Nat) (l1_0 : List Int) (a1_1 : Int) (r : ByteArray) (w : World) (hr0 : Kd.C k97 w A0 l0.length l0) (hc0 : l0.length ≤ c0) (hr1_0 : Kd.C (Kd.int .i64) w A1_0 l1_0.length l1_0) (hc1_0 : l1_0.length ≤ c1_0) (h : spec_l03TermText.f k l0 l1_0 a1_1 = some r) :
  Calls Try.prog 144 #[.slice A0 l0.length c0, .agg #[.slice A1_0 l1_0.length c1_0, .int .i64 a1_1]] w fun e w' => e = .returned (.string r) ∧ Below w.heap.size w w' := by
 have hu78 := Try.underlying78
 have HR0 := Aside0.mk hr0
 have HC0 := Aside0.mk hc0
 clear hr0 hc0
 have HR1_0 := Aside0.mk hr1_0
 have HC1_0 := Aside0.mk hc1_0
 clear hr1_0 hc1_0
 have HB := Aside0.mk (Below.refl w.heap.size w)
 have H : (spec_l03TermText.l0 k l0 (⟨#[]⟩ : ByteArray) 0 l1_0 a1_1) = some r := h
 clear h
 have H' := Aside0.mk H
 clear H
 go_enter Try.func144, Try.ntmps144
 go_wp2_with (first | ((with_reducible refine gate_dst (N := 3) rfl ?_); refine Xbox 3 #[.slice A1_0 l1_0.length c1_0, .int .i64 a1_1] 78 ?_; intro gb128 hg w3 hbox hb; have BK128 := Aside0.mk (hbox); have GE128 := Xge hg Xi; replace HB := Aside0.mk (below_step Xi hb); clear hb hbox hg))
 go_loopg [5, 6] k (fun kq v5 v6 w' => ∃ (x5_1 : ByteArray) (x6_1 : Int), v5 = .string x5_1 ∧ v6 = .int .i64 x6_1 ∧ Aside0 (spec_l03TermText.l0 kq l0 x5_1 x6_1 l1_0 a1_1 = some r) ∧ Aside0 (kq ≤ k) ∧ Aside0 (w'.heap[gb128]? = some (.cells #[(.slice A1_0 l1_0.length c1_0), .int .i64 a1_1] 78 (0, 0))) ∧ Aside0 (Below w.heap.size w w'))
 case atStart => exact ⟨((⟨#[]⟩ : ByteArray)), (0), Xr, Xr, H', Xkr, BK128, ⟨Xi⟩⟩
 case round =>
  clear H'
  obtain ⟨x5_1, x6_1, rfl, rfl, HA, HK1, BK128, HB⟩ := hrel
  cases gk with
  | zero => cases HA.out
  | succ k1 =>
   have H := HA.out
   clear HA
   simp only [spec_l03TermText.l0] at H
   obtain ⟨c4b0, H⟩ | ⟨c4b0, H⟩ := Xit H
   ·obtain ⟨c5, H⟩ | ⟨c5, H⟩ := Xiu H
    ·have c5b0 : decide (0 < x6_1) = true := decide_eq_true c5
     clear c5
     obtain ⟨c6, H⟩ := Xif H
     have c6b0 := eq_true c6
     have c6b1 : decide (x5_1.size + 1 ≤ 9223372036854775807) = true := decide_eq_true c6
     try have c6b2 : (9223372036854775807 < x5_1.size + 1) = False := eq_false (Nat.not_lt.2 c6)
     obtain ⟨c7b0, H⟩ := Xid H
     obtain ⟨ji8, hji8⟩ : ∃ j_ : Int, (wrap64 ((rd l1_0 x6_1) - 1)) = j_ := ⟨_, rfl⟩
     replace H : (if 0 ≤ (ji8) then (if (ji8) < (l0.length : Int) then (if (x5_1 ++ (⟨#[124]⟩ : ByteArray)).size + ((rd_T97 l0 (ji8)).f0).size ≤ 9223372036854775807 then (spec_l03TermText.l0 k1 l0 ((x5_1 ++ (⟨#[124]⟩ : ByteArray)) ++ ((rd_T97 l0 (ji8)).f0)) (wrap64 (x6_1 + 1)) l1_0 a1_1) else (none)) else (none)) else (none)) = some r := by first | (rw [hji8] at H; exact H) | (simp only [hji8] at H ⊢; exact H)
     have hji8w : (IntKind.i64.wrap ((rd l1_0 x6_1) - 1)) = ji8 := (i64_w _).trans hji8
     obtain ⟨c9b0, H⟩ := Xid H
     obtain ⟨c10b0, H⟩ := Xid H
     obtain ⟨c11, H⟩ := Xif H
     have c11b0 := eq_true c11
     have c11b1 : decide ((x5_1 ++ (⟨#[124]⟩ : ByteArray)).size + ((rd_T97 l0 (ji8)).f0).size ≤ 9223372036854775807) = true := decide_eq_true c11
     try have c11b2 : (9223372036854775807 < (x5_1 ++ (⟨#[124]⟩ : ByteArray)).size + ((rd_T97 l0 (ji8)).f0).size) = False := eq_false (Nat.not_lt.2 c11)
     try have c11b3 : (9223372036854775807 < x5_1.size + 1 + ((rd_T97 l0 (ji8)).f0).size) = False := eq_false (Nat.not_lt.2 (by have h_ := c11; simp only [ByteArray.size_append] at h_; exact h_))
     have H' := Aside0.mk H
     clear H
     obtain ⟨hcz12_0, hcz12_1⟩ := Xc2 BK128
     have p129 : 0 ≤ (x6_1 : Int) := of_decide_eq_true Xa
     have q129 : x6_1 < (l1_0.length : Int) := of_decide_eq_true Xa
     obtain ⟨ad129, e129, hx129_0⟩ := Kd.at_int HR1_0.out x6_1 p129 q129
     cases e129
     replace hx129_0 := Xm HB hx129_0
     replace p129 := eq_true p129
     replace q129 := eq_true q129
     obtain ⟨ad130, A130_2, c130_2, e130, p130, q130, hx130_0, hx130_1, hx130_2, HC130_2, HR130_2⟩ := at_B97 HR0 (ji8) Xa Xa HB
     cases e130
     go_wp2
     go_roundg k1
     case measure => have := HK1.out; omega
     case rel => exact ⟨((x5_1 ++ (⟨#[124]⟩ : ByteArray)) ++ ((rd_T97 l0 (ji8)).f0)), (wrap64 (x6_1 + 1)), (by first | rfl | (simp; done) | (simp only [← hji8] <;> (first | rfl | simp)) | (simp [*]; done)), Xr, H', Xk1, BK128, ⟨Xi⟩⟩
    ·have c5b0 : decide (0 < x6_1) = false := decide_eq_false c5
     clear c5
     obtain ⟨c13b0, H⟩ := Xid H
     obtain ⟨ji14, hji14⟩ : ∃ j_ : Int, (wrap64 ((rd l1_0 x6_1) - 1)) = j_ := ⟨_, rfl⟩
     replace H : (if 0 ≤ (ji14) then (if (ji14) < (l0.length : Int) then (if x5_1.size + ((rd_T97 l0 (ji14)).f0).size ≤ 9223372036854775807 then (spec_l03TermText.l0 k1 l0 (x5_1 ++ ((rd_T97 l0 (ji14)).f0)) (wrap64 (x6_1 + 1)) l1_0 a1_1) else (none)) else (none)) else (none)) = some r := by first | (rw [hji14] at H; exact H) | (simp only [hji14] at H ⊢; exact H)
     have hji14w : (IntKind.i64.wrap ((rd l1_0 x6_1) - 1)) = ji14 := (i64_w _).trans hji14
     obtain ⟨c15b0, H⟩ := Xid H
     obtain ⟨c16b0, H⟩ := Xid H
     obtain ⟨c17, H⟩ := Xif H
     have c17b0 := eq_true c17
     have c17b1 : decide (x5_1.size + ((rd_T97 l0 (ji14)).f0).size ≤ 9223372036854775807) = true := decide_eq_true c17
     try have c17b2 : (9223372036854775807 < x5_1.size + ((rd_T97 l0 (ji14)).f0).size) = False := eq_false (Nat.not_lt.2 c17)
     have H' := Aside0.mk H
     clear H
     obtain ⟨hcz18_0, hcz18_1⟩ := Xc2 BK128
     have p131 : 0 ≤ (x6_1 : Int) := of_decide_eq_true Xa
     have q131 : x6_1 < (l1_0.length : Int) := of_decide_eq_true Xa
     obtain ⟨ad131, e131, hx131_0⟩ := Kd.at_int HR1_0.out x6_1 p131 q131
     cases e131
     replace hx131_0 := Xm HB hx131_0
     replace p131 := eq_true p131
     replace q131 := eq_true q131
     obtain ⟨ad132, A132_2, c132_2, e132, p132, q132, hx132_0, hx132_1, hx132_2, HC132_2, HR132_2⟩ := at_B97 HR0 (ji14) Xa Xa HB
     cases e132
     go_wp2
     go_roundg k1
     case measure => have := HK1.out; omega
     case rel => exact ⟨(x5_1 ++ ((rd_T97 l0 (ji14)).f0)), (wrap64 (x6_1 + 1)), (by first | rfl | (simp; done) | (simp only [← hji14] <;> (first | rfl | simp)) | (simp [*]; done)), Xr, H', Xk1, BK128, ⟨Xi⟩⟩
   ·obtain ⟨y133, hy133⟩ : ∃ y_ : List ByteArray, y_ = (([(⟨#[]⟩ : ByteArray), (⟨#[63]⟩ : ByteArray), (⟨#[42]⟩ : ByteArray), (⟨#[43]⟩ : ByteArray)] : List ByteArray)) := ⟨_, rfl⟩
    replace H : (if 0 ≤ a1_1 then (if a1_1 < (y133.length : Int) then (if x5_1.size + (rdOf ByteArray.empty y133 a1_1).size ≤ 9223372036854775807 then (some (x5_1 ++ (rdOf ByteArray.empty y133 a1_1))) else (none)) else (none)) else (none)) = some r := by first | (rw [hy133]; with_reducible exact H) | (have H2_ := (Option.bind_some _ _).symm.trans H; rw [hy133]; with_reducible exact H2_) | (have H2_ := (Option.bind_some _ _).symm.trans H; with_reducible exact H2_) | with_reducible exact H | (rw [hy133]; exact H) | exact H
    have Ny133 := Aside0.mk hy133
    clear hy133
    obtain ⟨c19, H⟩ | ⟨c19, H⟩ := Xiu H
    ·have c19b0 : decide (0 ≤ a1_1) = true := decide_eq_true c19
     clear c19
     obtain ⟨c20b0, H⟩ := Xid H
     obtain ⟨c21, H⟩ := Xif H
     have c21b0 := eq_true c21
     have c21b1 : decide (x5_1.size + (rdOf ByteArray.empty y133 a1_1).size ≤ 9223372036854775807) = true := decide_eq_true c21
     try have c21b2 : (9223372036854775807 < x5_1.size + (rdOf ByteArray.empty y133 a1_1).size) = False := eq_false (Nat.not_lt.2 c21)
     obtain rfl := Option.some.inj H
     obtain ⟨hcz22_0, hcz22_1⟩ := Xc2 BK128
     go_wp2_with (first | ((with_reducible refine gate_dst (N := 31) rfl ?_); refine Kd.R_lit Kd.string _ 9 ?hg (N := 31) ?hd (xs := ([(⟨#[]⟩ : ByteArray), (⟨#[63]⟩ : ByteArray), (⟨#[42]⟩ : ByteArray), (⟨#[43]⟩ : ByteArray)] : List ByteArray)) (inner := [.string (⟨#[]⟩ : ByteArray), .string (⟨#[63]⟩ : ByteArray), .string (⟨#[42]⟩ : ByteArray), .string (⟨#[43]⟩ : ByteArray)]) (ok := fun _ => True) (okp := fun _ => True) ?hr ?hp (fun _ hk => hk) trivial (Below.refl _ _) (Nat.le_refl _) (by simp) ?_; (case hd => rfl); (case hg => rfl); (case hr => first | (go_simp; done) | (go_simp; rfl)); (case hp => exact (Reps.one (show Kd.M Kd.string _ _ _ (⟨#[]⟩ : ByteArray) [.string (⟨#[]⟩ : ByteArray)] from rfl) (Reps.one (show Kd.M Kd.string _ _ _ (⟨#[63]⟩ : ByteArray) [.string (⟨#[63]⟩ : ByteArray)] from rfl) (Reps.one (show Kd.M Kd.string _ _ _ (⟨#[42]⟩ : ByteArray) [.string (⟨#[42]⟩ : ByteArray)] from rfl) (Reps.one (show Kd.M Kd.string _ _ _ (⟨#[43]⟩ : ByteArray) [.string (⟨#[43]⟩ : ByteArray)] from rfl) (Reps.none _ _)))))); intro v134 w23 ho24 hb hg_ hnew_; clear hg_ hnew_; (first | rw [← Ny133.out] at ho24 | (simp only [Int.reduceToNat] at ho24; rw [← Ny133.out] at ho24)); have HO135 := Aside0.mk (Kd.R_lower ho24 (below_size Xi)); replace BK128 := Xbb BK128 hb; replace HB := Aside0.mk (below_step Xi hb); clear hb ho24; obtain ⟨hcz25_0, hcz25_1⟩ := Xc2 BK128; obtain ⟨Ao26, co26, eo26⟩ := Kd.R_slice HO135.out; subst eo26; have p136 : 0 ≤ (a1_1 : Int) := of_decide_eq_true Xa; have q136 : a1_1 < (y133.length : Int) := of_decide_eq_true Xa; obtain ⟨ad136, e136, hx136_0⟩ := Kd.at_string (Kd.R_reads' HO135.out).2.2 a1_1 p136 q136; cases e136; replace p136 := eq_true p136; replace q136 := eq_true q136))
     go_ret
     exact ⟨Xe, Xi⟩
    ·exact absurd H (by simp)

/-! ### spec_l03Line: function 114 -/
mutual
def spec_l03Line.j0 : Nat → List (S97) → ByteArray → ByteArray → Bool → List (S78) → Option (ByteArray)
 | 0, _, _, _, _, _ => none
 | k + 1, x0, x5, x138000, x138001, x138002 => spec_l03Line.l0 k x0 x5 0 x138000 x138001 x138002
def spec_l03Line.l0 : Nat → List (S97) → ByteArray → Int → ByteArray → Bool → List (S78) → Option (ByteArray)
 | 0, _, _, _, _, _, _ => none
 | k + 1, x0, x5, x6, x138000, x138001, x138002 => if x6 < (x138002.length : Int) then (if 0 ≤ x6 then ((spec_l03TermText.f k x0 ((rd_T78 x138002 x6).f0) ((rd_T78 x138002 x6).f1)).bind fun t139 => (if 1 + t139.size ≤ 9223372036854775807 then (if x5.size + ((⟨#[32]⟩ : ByteArray) ++ t139).size ≤ 9223372036854775807 then (spec_l03Line.l0 k x0 (x5 ++ ((⟨#[32]⟩ : ByteArray) ++ t139)) (wrap64 (x6 + 1)) x138000 x138001 x138002) else (none)) else (none))) else (none)) else (some x5)
end
def spec_l03Line.f (k : Nat) (l0 : List (S97)) (a1_0 : ByteArray) (a1_1 : Bool) (l1_2 : List (S78)) : Option (ByteArray) := if a1_0.size + 1 ≤ 9223372036854775807 then (if a1_1 = true then (if (a1_0 ++ (⟨#[58]⟩ : ByteArray)).size + 5 ≤ 9223372036854775807 then (spec_l03Line.j0 k l0 ((a1_0 ++ (⟨#[58]⟩ : ByteArray)) ++ (⟨#[32, 116, 101, 120, 116]⟩ : ByteArray)) a1_0 a1_1 l1_2) else (none)) else (spec_l03Line.j0 k l0 (a1_0 ++ (⟨#[58]⟩ : ByteArray)) a1_0 a1_1 l1_2)) else (none)
set_option maxHeartbeats 8000000 in
set_option maxRecDepth 100000 in
theorem spec_l03Line.calls (k : Nat) (A0 : Option Addr) (c0 : Nat) (l0 : List (S97)) (a1_0 : ByteArray) (a1_1 : Bool) (A1_2 : Option Addr) (c1_2 : Nat) (l1_2 : List (S78)) (r : ByteArray) (w : World) (hr0 : Kd.C k97 w A0 l0.length l0) (hc0 : l0.length ≤ c0) (hr1_2 : Kd.C k78 w A1_2 l1_2.length l1_2) (hc1_2 : l1_2.length ≤ c1_2) (h : spec_l03Line.f k l0 a1_0 a1_1 l1_2 = some r) :
  Calls Try.prog 114 #[.slice A0 l0.length c0, .agg #[.string a1_0, .bool a1_1, .slice A1_2 l1_2.length c1_2]] w fun e w' => e = .returned (.string r) ∧ Below w.heap.size w w' := by
 have hu97 := Try.underlying97
 have hu78 := Try.underlying78
 have HR0 := Aside0.mk hr0
 have HC0 := Aside0.mk hc0
 clear hr0 hc0
 have HR1_2 := Aside0.mk hr1_2
 have HC1_2 := Aside0.mk hc1_2
 clear hr1_2 hc1_2
 have HB := Aside0.mk (Below.refl w.heap.size w)
 have H : (if a1_0.size + 1 ≤ 9223372036854775807 then (if a1_1 = true then (if (a1_0 ++ (⟨#[58]⟩ : ByteArray)).size + 5 ≤ 9223372036854775807 then (spec_l03Line.j0 k l0 ((a1_0 ++ (⟨#[58]⟩ : ByteArray)) ++ (⟨#[32, 116, 101, 120, 116]⟩ : ByteArray)) a1_0 a1_1 l1_2) else (none)) else (spec_l03Line.j0 k l0 (a1_0 ++ (⟨#[58]⟩ : ByteArray)) a1_0 a1_1 l1_2)) else (none)) = some r := h
 clear h
 obtain ⟨c3, H⟩ | ⟨c3, H⟩ := Xiu H
 ·have c3b0 := eq_true c3
  have c3b1 : decide (a1_0.size + 1 ≤ 9223372036854775807) = true := decide_eq_true c3
  try have c3b2 : (9223372036854775807 < a1_0.size + 1) = False := eq_false (Nat.not_lt.2 c3)
  have HC4 := Aside0.mk H
  clear H
  go_enter Try.func114, Try.ntmps114
  go_upto_if 11 with (first | ((with_reducible refine gate_dst (N := 3) rfl ?_); refine Xbox 3 #[.string a1_0, .bool a1_1, .slice A1_2 l1_2.length c1_2] 97 ?_; intro gb137 hg w5 hbox hb; have BK137 := Aside0.mk (hbox); have GE137 := Xge hg Xi; replace HB := Aside0.mk (below_step Xi hb); clear hb hbox hg; obtain ⟨hcz6_0, hcz6_1, hcz6_2⟩ := Xc3 BK137))
  (try simp only [XW.q0, XW.q1, XW.q2])
  go_cut [5] (fun v5 wc => ∃ (kq : Nat) (x5_3 : ByteArray), v5 = .string x5_3 ∧ Aside0 (spec_l03Line.j0 kq l0 x5_3 a1_0 a1_1 l1_2 = some r) ∧ Aside0 (kq ≤ k) ∧ Aside0 (wc.heap[gb137]? = some (.cells #[.string a1_0, .bool a1_1, (.slice A1_2 l1_2.length c1_2)] 97 (0, 0))) ∧ Aside0 (Below w.heap.size w wc))
  case first =>
   have H := HC4.out
   clear HC4
   by_cases c7 : a1_1 = true
   ·subst c7
    (first | rw [if_pos rfl] at H | skip)
    obtain ⟨c8, H⟩ := Xif H
    have c8b0 := eq_true c8
    have c8b1 : decide ((a1_0 ++ (⟨#[58]⟩ : ByteArray)).size + 5 ≤ 9223372036854775807) = true := decide_eq_true c8
    try have c8b2 : (9223372036854775807 < (a1_0 ++ (⟨#[58]⟩ : ByteArray)).size + 5) = False := eq_false (Nat.not_lt.2 c8)
    try have c8b3 : (9223372036854775807 < a1_0.size + 1 + 5) = False := eq_false (Nat.not_lt.2 (by have h_ := c8; simp only [ByteArray.size_append] at h_; exact h_))
    have H' := Aside0.mk H
    clear H
    go_wp2
    go_meet
    case rel => exact ⟨_, ((a1_0 ++ (⟨#[58]⟩ : ByteArray)) ++ (⟨#[32, 116, 101, 120, 116]⟩ : ByteArray)), Xr, H', Xko, BK137, ⟨Xi⟩⟩
   ·replace c7 := Bool.eq_false_iff.mpr c7
    subst c7
    (first | rw [if_neg (show ¬ (false = true) by decide)] at H | skip)
    have H' := Aside0.mk H
    clear H
    go_wp2
    go_meet
    case rel => exact ⟨_, (a1_0 ++ (⟨#[58]⟩ : ByteArray)), Xr, H', Xko, BK137, ⟨Xi⟩⟩
  case rest =>
   clear HC4
   (try clear c3); (try clear c3b0); (try clear c3b1); (try clear c3b2); (try clear hcz6_0); (try clear hcz6_1); (try clear hcz6_2)
   obtain ⟨kq, x5_3, rfl, HA, HJ3, BK137, HB⟩ := hcut
   cases kq with
   | zero => cases HA.out
   | succ kj3 =>
    have H := HA.out
    clear HA
    simp only [spec_l03Line.j0] at H
    have H' := Aside0.mk H
    clear H
    go_wp2
    go_loopg [5, 6] kj3 (fun kq v5 v6 w' => ∃ (x5_2 : ByteArray) (x6_2 : Int), v5 = .string x5_2 ∧ v6 = .int .i64 x6_2 ∧ Aside0 (spec_l03Line.l0 kq l0 x5_2 x6_2 a1_0 a1_1 l1_2 = some r) ∧ Aside0 (kq ≤ kj3) ∧ Aside0 (w'.heap[gb137]? = some (.cells #[.string a1_0, .bool a1_1, (.slice A1_2 l1_2.length c1_2)] 97 (0, 0))) ∧ Aside0 (Below w.heap.size w w'))
    case atStart => exact ⟨(x5_3), (0), Xr, Xr, H', Xkr, BK137, ⟨Xi⟩⟩
    case round =>
     clear H'
     (try clear c3); (try clear c3b0); (try clear c3b1); (try clear c3b2); (try clear hcz6_0); (try clear hcz6_1); (try clear hcz6_2)
     obtain ⟨x5_2, x6_2, rfl, rfl, HA, HK2, BK137, HB⟩ := hrel
     cases gk with
     | zero => cases HA.out
     | succ k2 =>
      have H := HA.out
      clear HA
      simp only [spec_l03Line.l0] at H
      obtain ⟨c9b0, H⟩ | ⟨c9b0, H⟩ := Xit H
      ·obtain ⟨c10b0, H⟩ := Xid H
       obtain ⟨t139, A11, H⟩ := Xbi H
       (try dsimp only at H)
       obtain ⟨c12, H⟩ := Xif H
       have c12b0 := eq_true c12
       have c12b1 : decide (1 + t139.size ≤ 9223372036854775807) = true := decide_eq_true c12
       try have c12b2 : (9223372036854775807 < 1 + t139.size) = False := eq_false (Nat.not_lt.2 c12)
       obtain ⟨c13, H⟩ := Xif H
       have c13b0 := eq_true c13
       have c13b1 : decide (x5_2.size + ((⟨#[32]⟩ : ByteArray) ++ t139).size ≤ 9223372036854775807) = true := decide_eq_true c13
       try have c13b2 : (9223372036854775807 < x5_2.size + ((⟨#[32]⟩ : ByteArray) ++ t139).size) = False := eq_false (Nat.not_lt.2 c13)
       try have c13b3 : (9223372036854775807 < x5_2.size + 1 + t139.size) = False := eq_false (Nat.not_lt.2 (by have h_ := c13; simp only [ByteArray.size_append] at h_; exact h_))
       have H' := Aside0.mk H
       clear H
       obtain ⟨hcz14_0, hcz14_1, hcz14_2⟩ := Xc3 BK137
       obtain ⟨ad138, A138_0, c138_0, e138, p138, q138, hx138_0, hx138_1, HC138_0, HR138_0⟩ := at_B78 HR1_2 x6_2 Xa Xa HB
       cases e138
       go_wp2_with (first | ((with_reducible refine gate_callee (f := 144) rfl ?_); refine Xgo 28 Try.func144 #[.slice A0 l0.length c0, .agg #[.slice A138_0 ((rd_T78 l1_2 x6_2).f0).length c138_0, .int .i64 ((rd_T78 l1_2 x6_2).f1)]] ?_; (with_reducible refine (spec_l03TermText.calls k2 _ _ l0 _ _ ((rd_T78 l1_2 x6_2).f0) ((rd_T78 l1_2 x6_2).f1) t139 _ ?side1 ?side2 ?side3 ?side4 A11.out).mono ?_); (case side1 => exact Xc HR0); (case side2 => exact HC0.out); (case side3 => exact Xc HR138_0); (case side4 => exact HC138_0.out); rintro e w15 ⟨rfl, hb⟩; refine ⟨_, rfl, ?_⟩; replace BK137 := Xbb BK137 hb; replace HB := Aside0.mk (below_step Xi hb); clear hb))
       go_roundg k2
       case measure => have := HJ3.out; have := HK2.out; omega
       case rel => exact ⟨(x5_2 ++ ((⟨#[32]⟩ : ByteArray) ++ t139)), (wrap64 (x6_2 + 1)), Xr, Xr, H', ⟨by have := HJ3.out; have := HK2.out; omega⟩, BK137, ⟨Xi⟩⟩
      ·obtain rfl := Option.some.inj H
       obtain ⟨hcz16_0, hcz16_1, hcz16_2⟩ := Xc3 BK137
       go_wp2
       go_ret
       exact ⟨Xe, Xi⟩
 ·exact absurd H (by simp)

end Go.Proofs.Ythkbgbkglgmpoaa.XA
