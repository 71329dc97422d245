/- Contracts of the program's functions: each Go function that is named below comes to what its Lean function says. Written by xprint.py (a program of this session's, over the kit's print). Conditions: each contract's own premises. -/
import Derived.Test.YthkbgbkglgmpoaaYCompileTerms0
import Derived.Test.YthkbgbkglgmpoaaYCompileTerms2
namespace Go.Proofs.Ythkbgbkglgmpoaa.XA
open Go.RowKit Go.Proofs.YthkbgbkglgmpoaaW.PrintWords Go.Proofs.YthkbgbkglgmpoaaW.PrintLast Go.Proofs.YthkbgbkglgmpoaaW.PrintMore XW
attribute [local go_sem] max2_int min2_int max_two min_two max_three min_three max_four min_four   -- for this text's walks alone
set_option linter.unusedVariables false
set_option linter.unusedSimpArgs false

/-! ### spec_l04Step: function 94 -/
def spec_l04Step.l0 : Nat → List (S78) → List Bool → Int → List Bool → Int → Option (List Bool)
 | 0, _, _, _, _, _ => none
 | k + 1, x0, x1, x2, x7, x8 => if x8 < (x0.length : Int) then (if 0 ≤ x8 then ((spec_l02Has.f k ((rd_T78 x0 x8).f0) x2).bind fun t136 => (if t136 = true then (if 0 ≤ (wrap64 (2 * x8)) then (if (wrap64 (2 * x8)) < (x1.length : Int) then (if rdOf false x1 (wrap64 (2 * x8)) = true then (if 0 ≤ (wrap64 ((wrap64 (2 * x8)) + 1)) then (if (wrap64 ((wrap64 (2 * x8)) + 1)) < (x7.length : Int) then (spec_l04Step.l0 k x0 x1 x2 (x7.set ((wrap64 ((wrap64 (2 * x8)) + 1)) : Int).toNat true) (wrap64 (x8 + 1))) else (none)) else (none)) else (if 0 ≤ (wrap64 ((wrap64 (2 * x8)) + 1)) then (if (wrap64 ((wrap64 (2 * x8)) + 1)) < (x1.length : Int) then (if rdOf false x1 (wrap64 ((wrap64 (2 * x8)) + 1)) = true then (if ((rd_T78 x0 x8).f1) ≥ 2 then (if (wrap64 ((wrap64 (2 * x8)) + 1)) < (x7.length : Int) then (spec_l04Step.l0 k x0 x1 x2 (x7.set ((wrap64 ((wrap64 (2 * x8)) + 1)) : Int).toNat true) (wrap64 (x8 + 1))) else (none)) else (spec_l04Step.l0 k x0 x1 x2 x7 (wrap64 (x8 + 1)))) else (spec_l04Step.l0 k x0 x1 x2 x7 (wrap64 (x8 + 1)))) else (none)) else (none))) else (none)) else (none)) else (spec_l04Step.l0 k x0 x1 x2 x7 (wrap64 (x8 + 1))))) else (none)) else ((spec_l04Close.f k x0 x7).bind fun t132 => (some t132))
def spec_l04Step.f (k : Nat) (l0 : List (S78)) (l1 : List Bool) (a2 : Int) : Option (List Bool) := if 0 ≤ (l1.length : Int) then (if ((l1.length : Int) : Int).toNat ≤ 281474976710656 then (spec_l04Step.l0 k l0 l1 a2 (List.replicate ((l1.length : Int) : Int).toNat false) 0) else (none)) else (none)
set_option maxHeartbeats 8000000 in
set_option maxRecDepth 100000 in
theorem spec_l04Step.calls (k : Nat) (A0 : Option Addr) (c0 : Nat) (l0 : List (S78)) (A1 : Option Addr) (c1 : Nat) (l1 : List Bool) (a2 : Int) (r : List Bool) (w : World) (hr0 : Kd.C k78 w A0 l0.length l0) (hc0 : l0.length ≤ c0) (hr1 : Kd.C Kd.bool w A1 l1.length l1) (hc1 : l1.length ≤ c1) (h : spec_l04Step.f k l0 l1 a2 = some r) :
  Calls Try.prog 94 #[.slice A0 l0.length c0, .slice A1 l1.length c1, .int .i64 a2] w fun e w' => ∃ v0_ : Value, e = .returned (v0_) ∧ Kd.R Kd.bool 4 w' w.heap.size (fun _ => True) v0_ r ∧ Below w.heap.size w w' := by
 have HR0 := Aside0.mk hr0
 have HC0 := Aside0.mk hc0
 clear hr0 hc0
 have HR1 := Aside0.mk hr1
 have HC1 := Aside0.mk hc1
 clear hr1 hc1
 have HB := Aside0.mk (Below.refl w.heap.size w)
 have H : (if 0 ≤ (l1.length : Int) then (if ((l1.length : Int) : Int).toNat ≤ 281474976710656 then (spec_l04Step.l0 k l0 l1 a2 (List.replicate ((l1.length : Int) : Int).toNat false) 0) else (none)) else (none)) = some r := h
 clear h
 obtain ⟨c4, H⟩ | ⟨c4, H⟩ := Xiu H
 ·have c4b0 := eq_true c4
  have c4b1 : decide (0 ≤ (l1.length : Int)) = true := decide_eq_true c4
  clear c4
  obtain ⟨c5, H⟩ := Xif H
  have c5b0 := eq_true c5
  have c5b1 : decide (((l1.length : Int) : Int).toNat ≤ 281474976710656) = true := decide_eq_true c5
  clear c5
  obtain ⟨y129, hy129⟩ : ∃ y_ : List Bool, y_ = (List.replicate ((l1.length : Int) : Int).toNat false) := ⟨_, rfl⟩
  replace H : (spec_l04Step.l0 k l0 l1 a2 y129 0) = some r := by first | (rw [hy129]; with_reducible exact H) | (have H2_ := (Option.bind_some _ _).symm.trans H; rw [hy129]; with_reducible exact H2_) | (have H2_ := (Option.bind_some _ _).symm.trans H; with_reducible exact H2_) | with_reducible exact H | (rw [hy129]; exact H) | exact H
  have Ny129 := Aside0.mk hy129
  clear hy129
  have H' := Aside0.mk H
  clear H
  go_enter Try.func94, Try.ntmps94
  go_wp2_with (first | ((with_reducible refine gate_dst (N := 11) rfl ?_); refine Kd.R_make Kd.bool _ 4 rfl (N := 11) rfl 25 _ _ rfl (l1.length : Int) rfl rfl Try.underlying25 (.bool false) 1 info4 rfl (by decide) (by omega) false (ok := fun _ => True) (okp := fun _ => True) rfl (fun _ hk => hk) trivial (of_decide_eq_true Xa) (Nat.le_trans (Nat.mul_le_mul_right _ (of_decide_eq_true Xa : (l1.length : Int).toNat ≤ 281474976710656)) (by omega)) (Below.refl _ _) (Nat.le_refl _) ?_; intro v130 w6 ho7 hb hg_ hnew_; clear hg_ hnew_; (first | rw [← Ny129.out] at ho7 | (simp only [Int.reduceToNat] at ho7; rw [← Ny129.out] at ho7)); have HO131 := Aside0.mk (Kd.R_lower ho7 (below_size Xi)); replace HB := Aside0.mk (below_step Xi hb); clear hb ho7))
  go_loopg [8] k (fun kq v8 w' => ∃ (x7_1 : List Bool) (x8_1 : Int), v8 = .int .i64 x8_1 ∧ Aside0 (spec_l04Step.l0 kq l0 l1 a2 x7_1 x8_1 = some r) ∧ Aside0 (kq ≤ k) ∧ Aside0 (Kd.R Kd.bool 4 w' w.heap.size (fun _ => True) v130 x7_1) ∧ Aside0 (Below w.heap.size w w'))
  case atStart => exact ⟨(y129), (0), Xr, H', Xkr, (Xp' HO131), ⟨Xi⟩⟩
  case round =>
   clear H'
   (try clear c1); (try clear c4); (try clear c4b0); (try clear c4b1); (try clear c5); (try clear c5b0); (try clear c5b1)
   obtain ⟨x7_1, x8_1, rfl, HA, HK1, HO_7, HB⟩ := hrel
   cases gk with
   | zero => cases HA.out
   | succ k1 =>
    have H := HA.out
    clear HA
    simp only [spec_l04Step.l0] at H
    obtain ⟨c8b0, H⟩ | ⟨c8b0, H⟩ := Xit H
    ·obtain ⟨c9b0, H⟩ := Xid H
     obtain ⟨t136, A10, H⟩ := Xbi H
     (try dsimp only at H)
     have HC11 := Aside0.mk H
     clear H
     obtain ⟨ad135, A135_0, c135_0, e135, p135, q135, hx135_0, hx135_1, HC135_0, HR135_0⟩ := at_B78 HR0 x8_1 Xa Xa HB
     cases e135
     go_upto_if 25 with (first | ((with_reducible refine gate_callee (f := 106) rfl ?_); refine Xgo 24 Try.func106 #[.slice A135_0 ((rd_T78 l0 x8_1).f0).length c135_0, .int .i64 a2] ?_; (with_reducible refine (spec_l02Has.calls k1 _ _ ((rd_T78 l0 x8_1).f0) a2 t136 _ ?side1 ?side2 A10.out).mono ?_); (case side1 => exact Xc HR135_0); (case side2 => exact HC135_0.out); rintro e w' ⟨rfl, ⟨nd, rfl⟩⟩; refine ⟨_, rfl, ?_⟩))
     (try (rw [drewN_self wr]; generalize hq_ : World.drewN wr _ = wr; have n0_ : Aside0 (Kd.R Kd.bool 4 wr w.heap.size (fun _ => True) v130 x7_1) := ⟨by rw [← hq_]; exact (Xq HO_7)⟩; have n1_ : Aside0 (Below w.heap.size w wr) := ⟨by rw [← hq_]; exact Xi⟩; clear HO_7 HB hq_; have HO_7 := n0_; have HB := n1_; clear n0_ n1_))
     have H := HC11.out
     clear HC11
     by_cases c12 : t136 = true
     ·subst c12
      (first | rw [if_pos rfl] at H | skip)
      obtain ⟨ji13, hji13⟩ : ∃ j_ : Int, (wrap64 (2 * x8_1)) = j_ := ⟨_, rfl⟩
      replace H : (if 0 ≤ (ji13) then (if (ji13) < (l1.length : Int) then (if rdOf false l1 (ji13) = true then (if 0 ≤ (wrap64 ((ji13) + 1)) then (if (wrap64 ((ji13) + 1)) < (x7_1.length : Int) then (spec_l04Step.l0 k1 l0 l1 a2 (x7_1.set ((wrap64 ((ji13) + 1)) : Int).toNat true) (wrap64 (x8_1 + 1))) else (none)) else (none)) else (if 0 ≤ (wrap64 ((ji13) + 1)) then (if (wrap64 ((ji13) + 1)) < (l1.length : Int) then (if rdOf false l1 (wrap64 ((ji13) + 1)) = true then (if ((rd_T78 l0 x8_1).f1) ≥ 2 then (if (wrap64 ((ji13) + 1)) < (x7_1.length : Int) then (spec_l04Step.l0 k1 l0 l1 a2 (x7_1.set ((wrap64 ((ji13) + 1)) : Int).toNat true) (wrap64 (x8_1 + 1))) else (none)) else (spec_l04Step.l0 k1 l0 l1 a2 x7_1 (wrap64 (x8_1 + 1)))) else (spec_l04Step.l0 k1 l0 l1 a2 x7_1 (wrap64 (x8_1 + 1)))) else (none)) else (none))) else (none)) else (none)) = some r := by first | (rw [hji13] at H; exact H) | (simp only [hji13] at H ⊢; exact H)
      have hji13w : (IntKind.i64.wrap (2 * x8_1)) = ji13 := (i64_w _).trans hji13
      obtain ⟨c14b0, H⟩ := Xid H
      (first | rw [c14b0] | (simp only [i64_w, i32_w]; rw [c14b0]) | skip)
      obtain ⟨c15b0, H⟩ := Xid H
      obtain ⟨bq16, hbq16⟩ : ∃ b_ : Bool, b_ = (rdOf false l1 (ji13)) := ⟨_, rfl⟩
      replace H : (if bq16 = true then (if 0 ≤ (wrap64 ((ji13) + 1)) then (if (wrap64 ((ji13) + 1)) < (x7_1.length : Int) then (spec_l04Step.l0 k1 l0 l1 a2 (x7_1.set ((wrap64 ((ji13) + 1)) : Int).toNat true) (wrap64 (x8_1 + 1))) else (none)) else (none)) else (if 0 ≤ (wrap64 ((ji13) + 1)) then (if (wrap64 ((ji13) + 1)) < (l1.length : Int) then (if rdOf false l1 (wrap64 ((ji13) + 1)) = true then (if ((rd_T78 l0 x8_1).f1) ≥ 2 then (if (wrap64 ((ji13) + 1)) < (x7_1.length : Int) then (spec_l04Step.l0 k1 l0 l1 a2 (x7_1.set ((wrap64 ((ji13) + 1)) : Int).toNat true) (wrap64 (x8_1 + 1))) else (none)) else (spec_l04Step.l0 k1 l0 l1 a2 x7_1 (wrap64 (x8_1 + 1)))) else (spec_l04Step.l0 k1 l0 l1 a2 x7_1 (wrap64 (x8_1 + 1)))) else (none)) else (none))) = some r := by rw [← hbq16] at H; exact H
      have Nbq16 := Aside0.mk hbq16
      clear hbq16
      by_cases c17 : bq16 = true
      ·subst c17
       (first | rw [if_pos rfl] at H | skip)
       obtain ⟨ji18, hji18⟩ : ∃ j_ : Int, (wrap64 ((ji13) + 1)) = j_ := ⟨_, rfl⟩
       replace H : (if 0 ≤ (ji18) then (if (ji18) < (x7_1.length : Int) then (spec_l04Step.l0 k1 l0 l1 a2 (x7_1.set ((ji18) : Int).toNat true) (wrap64 (x8_1 + 1))) else (none)) else (none)) = some r := by first | (rw [hji18] at H; exact H) | (simp only [hji18] at H ⊢; exact H)
       have hji18w : (IntKind.i64.wrap ((ji13) + 1)) = ji18 := (i64_w _).trans hji18
       obtain ⟨c19b0, H⟩ := Xid H
       obtain ⟨c20b0, H⟩ := Xid H
       obtain ⟨y138, hy138⟩ : ∃ y_ : List Bool, y_ = (x7_1.set ((ji18) : Int).toNat true) := ⟨_, rfl⟩
       replace H : (spec_l04Step.l0 k1 l0 l1 a2 y138 (wrap64 (x8_1 + 1))) = some r := by first | (rw [hy138]; with_reducible exact H) | (have H2_ := (Option.bind_some _ _).symm.trans H; rw [hy138]; with_reducible exact H2_) | (have H2_ := (Option.bind_some _ _).symm.trans H; with_reducible exact H2_) | with_reducible exact H | (rw [hy138]; exact H) | exact H
       have Ny138 := Aside0.mk hy138
       clear hy138
       have H' := Aside0.mk H
       clear H
       have p137 : 0 ≤ ((ji13) : Int) := of_decide_eq_true Xa
       have q137 : (ji13) < (l1.length : Int) := of_decide_eq_true Xa
       obtain ⟨ad137, e137, hx137_0⟩ := Kd.at_bool HR1.out (ji13) p137 q137
       (try rw [← Nbq16.out] at hx137_0)
       cases e137
       replace hx137_0 := Xm HB hx137_0
       replace p137 := eq_true p137
       replace q137 := eq_true q137
       have p21 : 0 ≤ ((ji18) : Int) := of_decide_eq_true Xa
       have q21 : ((ji18) : Int) < ((x7_1.length : Int) : Int) := of_decide_eq_true Xa
       obtain ⟨go21, co21, eo21, gb21, gl21, cl21, HG21⟩ := Kd.R_form HO_7.out (by omega)
       (first | cases eo21 | (injection eo21 with ea_ en_ ec_; (first | subst ea_ | (injection ea_ with ea_; subst ea_)); subst ec_; clear en_))
       have GB21 := Aside0.mk gb21
       have GG21 := Aside0.mk HG21
       clear gb21 gl21 HG21
       obtain ⟨hx21_0, hf21_0⟩ := Kd.R_celln false HO_7.out ((ji18) : Int) p21 q21
       replace p21 := eq_true p21
       replace q21 := eq_true q21
       have HP22 := Kd.R_putg HO_7.out ((ji18) : Int) true
       go_wp2_with (first | ((with_reducible refine gate_store (t := 4) (p := 51) rfl ?_); refine store_event (t := 4) (p := 51) (v := ?vo_w23) (w1 := (wr.setCell ⟨go21, ((ji18) : Int).toNat, none⟩ (.bool true))) ?hg ?ho ?hn ?hr ?_; (case ho => rfl); (case hg => rfl); (case hn => rfl); (case hr => first | (go_simp; done) | (go_simp; rfl)); intro w23 hw; have hg : wr.grownBy w23 (some go21) := (by rw [hw]; exact HP22.2); have hp_ : Kd.R Kd.bool 4 w23 w.heap.size (fun _ => True) (.slice (some ⟨go21, 0, none⟩) x7_1.length co21) y138 := (by rw [hw, Ny138.out]; exact HP22.1); clear HP22; replace HO_7 := Aside0.mk (hp_); replace HB := Aside0.mk ((by rw [hw]; exact below_set (HB.out) GB21.out : Below w.heap.size w w23)); clear hg hw hp_))
       go_roundg k1
       case measure => have := HK1.out; omega
       case rel => exact ⟨(y138), (wrap64 (x8_1 + 1)), Xr, H', Xk1, (Xp' HO_7), ⟨Xi⟩⟩
      ·replace c17 := Bool.eq_false_iff.mpr c17
       subst c17
       (first | rw [if_neg (show ¬ (false = true) by decide)] at H | skip)
       obtain ⟨ji24, hji24⟩ : ∃ j_ : Int, (wrap64 ((ji13) + 1)) = j_ := ⟨_, rfl⟩
       replace H : (if 0 ≤ (ji24) then (if (ji24) < (l1.length : Int) then (if rdOf false l1 (ji24) = true then (if ((rd_T78 l0 x8_1).f1) ≥ 2 then (if (ji24) < (x7_1.length : Int) then (spec_l04Step.l0 k1 l0 l1 a2 (x7_1.set ((ji24) : Int).toNat true) (wrap64 (x8_1 + 1))) else (none)) else (spec_l04Step.l0 k1 l0 l1 a2 x7_1 (wrap64 (x8_1 + 1)))) else (spec_l04Step.l0 k1 l0 l1 a2 x7_1 (wrap64 (x8_1 + 1)))) else (none)) else (none)) = some r := by first | (rw [hji24] at H; exact H) | (simp only [hji24] at H ⊢; exact H)
       have hji24w : (IntKind.i64.wrap ((ji13) + 1)) = ji24 := (i64_w _).trans hji24
       obtain ⟨c25b0, H⟩ := Xid H
       obtain ⟨c26b0, H⟩ := Xid H
       obtain ⟨bq27, hbq27⟩ : ∃ b_ : Bool, b_ = (rdOf false l1 (ji24)) := ⟨_, rfl⟩
       replace H : (if bq27 = true then (if ((rd_T78 l0 x8_1).f1) ≥ 2 then (if (ji24) < (x7_1.length : Int) then (spec_l04Step.l0 k1 l0 l1 a2 (x7_1.set ((ji24) : Int).toNat true) (wrap64 (x8_1 + 1))) else (none)) else (spec_l04Step.l0 k1 l0 l1 a2 x7_1 (wrap64 (x8_1 + 1)))) else (spec_l04Step.l0 k1 l0 l1 a2 x7_1 (wrap64 (x8_1 + 1)))) = some r := by rw [← hbq27] at H; exact H
       have Nbq27 := Aside0.mk hbq27
       clear hbq27
       by_cases c28 : bq27 = true
       ·subst c28
        (first | rw [if_pos rfl] at H | skip)
        obtain ⟨c29, H⟩ | ⟨c29, H⟩ := Xiu H
        ·have c29b0 : decide (2 ≤ ((rd_T78 l0 x8_1).f1)) = true := decide_eq_true c29
         clear c29
         obtain ⟨c30b0, H⟩ := Xid H
         obtain ⟨y141, hy141⟩ : ∃ y_ : List Bool, y_ = (x7_1.set ((ji24) : Int).toNat true) := ⟨_, rfl⟩
         replace H : (spec_l04Step.l0 k1 l0 l1 a2 y141 (wrap64 (x8_1 + 1))) = some r := by first | (rw [hy141]; with_reducible exact H) | (have H2_ := (Option.bind_some _ _).symm.trans H; rw [hy141]; with_reducible exact H2_) | (have H2_ := (Option.bind_some _ _).symm.trans H; with_reducible exact H2_) | with_reducible exact H | (rw [hy141]; exact H) | exact H
         have Ny141 := Aside0.mk hy141
         clear hy141
         have H' := Aside0.mk H
         clear H
         have p137 : 0 ≤ ((ji13) : Int) := of_decide_eq_true Xa
         have q137 : (ji13) < (l1.length : Int) := of_decide_eq_true Xa
         obtain ⟨ad137, e137, hx137_0⟩ := Kd.at_bool HR1.out (ji13) p137 q137
         (try rw [← Nbq16.out] at hx137_0)
         (try rw [← Nbq27.out] at hx137_0)
         cases e137
         replace hx137_0 := Xm HB hx137_0
         replace p137 := eq_true p137
         replace q137 := eq_true q137
         have p139 : 0 ≤ ((ji24) : Int) := of_decide_eq_true Xa
         have q139 : (ji24) < (l1.length : Int) := of_decide_eq_true Xa
         obtain ⟨ad139, e139, hx139_0⟩ := Kd.at_bool HR1.out (ji24) p139 q139
         (try rw [← Nbq16.out] at hx139_0)
         (try rw [← Nbq27.out] at hx139_0)
         obtain rfl : ad137 = ad139 := (by injection e139)
         replace hx139_0 := Xm HB hx139_0
         replace p139 := eq_true p139
         replace q139 := eq_true q139
         obtain ⟨ad140, A140_0, c140_0, e140, p140, q140, hx140_0, hx140_1, HC140_0, HR140_0⟩ := at_B78 HR0 x8_1 Xa Xa HB
         obtain rfl : ad135 = ad140 := (by injection e140)
         have p31 : 0 ≤ ((ji24) : Int) := of_decide_eq_true Xa
         have q31 : ((ji24) : Int) < ((x7_1.length : Int) : Int) := of_decide_eq_true Xa
         obtain ⟨go31, co31, eo31, gb31, gl31, cl31, HG31⟩ := Kd.R_form HO_7.out (by omega)
         (first | cases eo31 | (injection eo31 with ea_ en_ ec_; (first | subst ea_ | (injection ea_ with ea_; subst ea_)); subst ec_; clear en_))
         have GB31 := Aside0.mk gb31
         have GG31 := Aside0.mk HG31
         clear gb31 gl31 HG31
         obtain ⟨hx31_0, hf31_0⟩ := Kd.R_celln false HO_7.out ((ji24) : Int) p31 q31
         replace p31 := eq_true p31
         replace q31 := eq_true q31
         have HP32 := Kd.R_putg HO_7.out ((ji24) : Int) true
         go_wp2_with (first | ((with_reducible refine gate_store (t := 4) (p := 51) rfl ?_); refine store_event (t := 4) (p := 51) (v := ?vo_w33) (w1 := (wr.setCell ⟨go31, ((ji24) : Int).toNat, none⟩ (.bool true))) ?hg ?ho ?hn ?hr ?_; (case ho => rfl); (case hg => rfl); (case hn => rfl); (case hr => first | (go_simp; done) | (go_simp; rfl)); intro w33 hw; have hg : wr.grownBy w33 (some go31) := (by rw [hw]; exact HP32.2); have hp_ : Kd.R Kd.bool 4 w33 w.heap.size (fun _ => True) (.slice (some ⟨go31, 0, none⟩) x7_1.length co31) y141 := (by rw [hw, Ny141.out]; exact HP32.1); clear HP32; replace HO_7 := Aside0.mk (hp_); replace HB := Aside0.mk ((by rw [hw]; exact below_set (HB.out) GB31.out : Below w.heap.size w w33)); clear hg hw hp_))
         go_roundg k1
         case measure => have := HK1.out; omega
         case rel => exact ⟨(y141), (wrap64 (x8_1 + 1)), Xr, H', Xk1, (Xp' HO_7), ⟨Xi⟩⟩
        ·have c29b0 : decide (2 ≤ ((rd_T78 l0 x8_1).f1)) = false := decide_eq_false c29
         clear c29
         have H' := Aside0.mk H
         clear H
         have p137 : 0 ≤ ((ji13) : Int) := of_decide_eq_true Xa
         have q137 : (ji13) < (l1.length : Int) := of_decide_eq_true Xa
         obtain ⟨ad137, e137, hx137_0⟩ := Kd.at_bool HR1.out (ji13) p137 q137
         (try rw [← Nbq16.out] at hx137_0)
         (try rw [← Nbq27.out] at hx137_0)
         cases e137
         replace hx137_0 := Xm HB hx137_0
         replace p137 := eq_true p137
         replace q137 := eq_true q137
         have p139 : 0 ≤ ((ji24) : Int) := of_decide_eq_true Xa
         have q139 : (ji24) < (l1.length : Int) := of_decide_eq_true Xa
         obtain ⟨ad139, e139, hx139_0⟩ := Kd.at_bool HR1.out (ji24) p139 q139
         (try rw [← Nbq16.out] at hx139_0)
         (try rw [← Nbq27.out] at hx139_0)
         obtain rfl : ad137 = ad139 := (by injection e139)
         replace hx139_0 := Xm HB hx139_0
         replace p139 := eq_true p139
         replace q139 := eq_true q139
         obtain ⟨ad140, A140_0, c140_0, e140, p140, q140, hx140_0, hx140_1, HC140_0, HR140_0⟩ := at_B78 HR0 x8_1 Xa Xa HB
         obtain rfl : ad135 = ad140 := (by injection e140)
         go_wp2
         go_roundg k1
         case measure => have := HK1.out; omega
         case rel => exact ⟨(x7_1), (wrap64 (x8_1 + 1)), Xr, H', Xk1, (Xp' HO_7), ⟨Xi⟩⟩
       ·replace c28 := Bool.eq_false_iff.mpr c28
        subst c28
        (first | rw [if_neg (show ¬ (false = true) by decide)] at H | skip)
        have H' := Aside0.mk H
        clear H
        have p137 : 0 ≤ ((ji13) : Int) := of_decide_eq_true Xa
        have q137 : (ji13) < (l1.length : Int) := of_decide_eq_true Xa
        obtain ⟨ad137, e137, hx137_0⟩ := Kd.at_bool HR1.out (ji13) p137 q137
        (try rw [← Nbq16.out] at hx137_0)
        (try rw [← Nbq27.out] at hx137_0)
        cases e137
        replace hx137_0 := Xm HB hx137_0
        replace p137 := eq_true p137
        replace q137 := eq_true q137
        have p139 : 0 ≤ ((ji24) : Int) := of_decide_eq_true Xa
        have q139 : (ji24) < (l1.length : Int) := of_decide_eq_true Xa
        obtain ⟨ad139, e139, hx139_0⟩ := Kd.at_bool HR1.out (ji24) p139 q139
        (try rw [← Nbq16.out] at hx139_0)
        (try rw [← Nbq27.out] at hx139_0)
        obtain rfl : ad137 = ad139 := (by injection e139)
        replace hx139_0 := Xm HB hx139_0
        replace p139 := eq_true p139
        replace q139 := eq_true q139
        go_wp2
        go_roundg k1
        case measure => have := HK1.out; omega
        case rel => exact ⟨(x7_1), (wrap64 (x8_1 + 1)), Xr, H', Xk1, (Xp' HO_7), ⟨Xi⟩⟩
     ·replace c12 := Bool.eq_false_iff.mpr c12
      subst c12
      (first | rw [if_neg (show ¬ (false = true) by decide)] at H | skip)
      have H' := Aside0.mk H
      clear H
      go_wp2
      go_roundg k1
      case measure => have := HK1.out; omega
      case rel => exact ⟨(x7_1), (wrap64 (x8_1 + 1)), Xr, H', Xk1, (Xp' HO_7), ⟨Xi⟩⟩
    ·obtain ⟨t132, A34, H⟩ := Xbi H
     (try dsimp only at H)
     obtain rfl := Option.some.inj H
     obtain ⟨Ao35, co35, eo35⟩ := Kd.R_slice HO_7.out
     subst eo35
     go_wp2_with (first | ((with_reducible refine gate_callee (f := 93) rfl ?_); refine Xgo 54 Try.func93 #[.slice A0 l0.length c0, .slice Ao35 x7_1.length co35] ?_; (with_reducible refine (spec_l04Close.calls k1 _ _ l0 _ _ x7_1 t132 _ ?side1 ?side2 ?side3 ?side4 A34.out).mono ?_); (case side1 => exact Xc HR0); (case side2 => exact HC0.out); (case side3 => repeat (first | exact (Kd.R_reads' HO_7.out).2.2 | (with_reducible first | refine Kd.C_alloc ?_ _ | refine Kd.C_drewN ?_ _ | refine Kd.C_drew ?_))); (case side4 => exact (Kd.R_reads' HO_7.out).2.1); rintro e w36 ⟨v133, rfl, ho0, hb⟩; refine ⟨_, rfl, ?_⟩; have HO134 := Aside0.mk (Kd.R_lower (Kd.R_new' ho0 (Kd.R_lt (Xq HO_7))) (below_size Xi)); replace HO_7 := Aside0.mk (Kd.R_elder' (Xq HO_7) (Kd.R_base ho0) hb); replace HB := Aside0.mk (below_step Xi hb); clear hb; (try clear ho0)))
     go_ret
     exact ⟨_, Xe, by (with_reducible repeat (first | apply Kd.R_alloc | apply Kd.R_drewN | apply Kd.R_drew)); exact Kd.R_mono HO134.out (fun _ hk => trivial), Xi⟩
 ·exact absurd H (by simp)

/-! ### spec_l04Any: function 95 -/
def spec_l04Any.l0 : Nat → List Bool → Int → Option (Bool)
 | 0, _, _ => none
 | k + 1, x0, x3 => if x3 < (x0.length : Int) then (if 0 ≤ x3 then (if rdOf false x0 x3 = true then (some true) else (spec_l04Any.l0 k x0 (wrap64 (x3 + 1)))) else (none)) else (some false)
def spec_l04Any.f (k : Nat) (l0 : List Bool) : Option (Bool) := spec_l04Any.l0 k l0 0
set_option maxHeartbeats 8000000 in
set_option maxRecDepth 100000 in
theorem spec_l04Any.calls (k : Nat) (A0 : Option Addr) (c0 : Nat) (l0 : List Bool) (r : Bool) (w : World) (hr0 : Kd.C Kd.bool w A0 l0.length l0) (hc0 : l0.length ≤ c0) (h : spec_l04Any.f k l0 = some r) :
  Calls Try.prog 95 #[.slice A0 l0.length c0] w fun e w' => e = .returned (.bool r) ∧ Drawn0 w w' := by
 have HR0 := Aside0.mk hr0
 have HC0 := Aside0.mk hc0
 clear hr0 hc0
 have H : (spec_l04Any.l0 k l0 0) = some r := h
 clear h
 have H' := Aside0.mk H
 clear H
 go_enter Try.func95, Try.ntmps95
 go_wp2
 go_loopg [3] k (fun kq v3 w' => ∃ (x3_1 : Int), v3 = .int .i64 x3_1 ∧ Aside0 (spec_l04Any.l0 kq l0 x3_1 = some r) ∧ Aside0 (kq ≤ k) ∧ Drawn0 w w')
 case atStart => exact ⟨(0), Xr, H', Xkr, by repeat (first | exact Drawn0.refl _ | apply Drawn0.step)⟩
 case round =>
  clear H'
  obtain ⟨x3_1, rfl, HA, HK1, ⟨m1, rfl⟩⟩ := hrel
  cases gk with
  | zero => cases HA.out
  | succ k1 =>
   have H := HA.out
   clear HA
   simp only [spec_l04Any.l0] at H
   obtain ⟨c2b0, H⟩ | ⟨c2b0, H⟩ := Xit H
   ·obtain ⟨c3b0, H⟩ := Xid H
    obtain ⟨bq4, hbq4⟩ : ∃ b_ : Bool, b_ = (rdOf false l0 x3_1) := ⟨_, rfl⟩
    replace H : (if bq4 = true then (some true) else (spec_l04Any.l0 k1 l0 (wrap64 (x3_1 + 1)))) = some r := by rw [← hbq4] at H; exact H
    have Nbq4 := Aside0.mk hbq4
    clear hbq4
    by_cases c5 : bq4 = true
    ·subst c5
     (first | rw [if_pos rfl] at H | skip)
     obtain rfl := Option.some.inj H
     have p142 : 0 ≤ (x3_1 : Int) := of_decide_eq_true Xa
     have q142 : x3_1 < (l0.length : Int) := of_decide_eq_true Xa
     obtain ⟨ad142, e142, hx142_0⟩ := Kd.at_bool HR0.out x3_1 p142 q142
     (try rw [← Nbq4.out] at hx142_0)
     cases e142
     replace p142 := eq_true p142
     replace q142 := eq_true q142
     go_wp2
     go_ret
     exact ⟨Xr, Xdr⟩
    ·replace c5 := Bool.eq_false_iff.mpr c5
     subst c5
     (first | rw [if_neg (show ¬ (false = true) by decide)] at H | skip)
     have H' := Aside0.mk H
     clear H
     have p142 : 0 ≤ (x3_1 : Int) := of_decide_eq_true Xa
     have q142 : x3_1 < (l0.length : Int) := of_decide_eq_true Xa
     obtain ⟨ad142, e142, hx142_0⟩ := Kd.at_bool HR0.out x3_1 p142 q142
     (try rw [← Nbq4.out] at hx142_0)
     cases e142
     replace p142 := eq_true p142
     replace q142 := eq_true q142
     go_wp2
     go_roundg k1
     case measure => have := HK1.out; omega
     case rel => exact ⟨(wrap64 (x3_1 + 1)), Xr, H', Xk1, by repeat (first | exact Drawn0.refl _ | apply Drawn0.step)⟩
   ·obtain rfl := Option.some.inj H
    go_wp2
    go_ret
    exact ⟨Xr, Xdr⟩

/-! ### spec_l04Same: function 139 -/
def spec_l04Same.l0 : Nat → List Bool → List Bool → Int → Option (Bool)
 | 0, _, _, _ => none
 | k + 1, x0, x1, x5 => if x5 < (x0.length : Int) then (if 0 ≤ x5 then (if x5 < (x1.length : Int) then (if ((rdOf false x0 x5) != (rdOf false x1 x5)) = true then (some false) else (spec_l04Same.l0 k x0 x1 (wrap64 (x5 + 1)))) else (none)) else (none)) else (some true)
def spec_l04Same.f (k : Nat) (l0 : List Bool) (l1 : List Bool) : Option (Bool) := if (l0.length : Int) = (l1.length : Int) then (spec_l04Same.l0 k l0 l1 0) else (some false)
set_option maxHeartbeats 8000000 in
set_option maxRecDepth 100000 in
theorem spec_l04Same.calls (k : Nat) (A0 : Option Addr) (c0 : Nat) (l0 : List Bool) (A1 : Option Addr) (c1 : Nat) (l1 : List Bool) (r : Bool) (w : World) (hr0 : Kd.C Kd.bool w A0 l0.length l0) (hc0 : l0.length ≤ c0) (hr1 : Kd.C Kd.bool w A1 l1.length l1) (hc1 : l1.length ≤ c1) (h : spec_l04Same.f k l0 l1 = some r) :
  Calls Try.prog 139 #[.slice A0 l0.length c0, .slice A1 l1.length c1] w fun e w' => e = .returned (.bool r) ∧ Drawn0 w w' := by
 have HR0 := Aside0.mk hr0
 have HC0 := Aside0.mk hc0
 clear hr0 hc0
 have HR1 := Aside0.mk hr1
 have HC1 := Aside0.mk hc1
 clear hr1 hc1
 have H : (if (l0.length : Int) = (l1.length : Int) then (spec_l04Same.l0 k l0 l1 0) else (some false)) = some r := h
 clear h
 obtain ⟨c3, H⟩ | ⟨c3, H⟩ := Xiu H
 ·have c3b0 : ((l0.length : Int) == (l1.length : Int)) = true := beq_iff_eq.mpr c3
  have c3b1 : ((l0.length : Int) != (l1.length : Int)) = false := bne_eq_false_iff_eq.mpr c3
  have c3b2 : (l0.length == l1.length) = true := by first | simpa using c3 | (simp at c3 ⊢; omega)
  clear c3
  have H' := Aside0.mk H
  clear H
  go_enter Try.func139, Try.ntmps139
  go_wp2
  repeat (go_quiet (fail); try go_wp2)
  go_loopg [5] k (fun kq v5 w' => ∃ (x5_1 : Int), v5 = .int .i64 x5_1 ∧ Aside0 (spec_l04Same.l0 kq l0 l1 x5_1 = some r) ∧ Aside0 (kq ≤ k) ∧ Drawn0 w w')
  case atStart => exact ⟨(0), Xr, H', Xkr, by repeat (first | exact Drawn0.refl _ | apply Drawn0.step)⟩
  case round =>
   clear H'
   (try clear c1); (try clear c3); (try clear c3b0); (try clear c3b1); (try clear c3b2)
   obtain ⟨x5_1, rfl, HA, HK1, ⟨m1, rfl⟩⟩ := hrel
   cases gk with
   | zero => cases HA.out
   | succ k1 =>
    have H := HA.out
    clear HA
    simp only [spec_l04Same.l0] at H
    obtain ⟨c4b0, H⟩ | ⟨c4b0, H⟩ := Xit H
    ·obtain ⟨c5b0, H⟩ := Xid H
     obtain ⟨c6b0, H⟩ := Xid H
     obtain ⟨c7, H⟩ | ⟨c7, H⟩ := Xiu H
     ·have c7b0 : ((rdOf false l0 x5_1) != (rdOf false l1 x5_1)) = true := c7
      (try (have c7b1 : decide ((rdOf false l0 x5_1) = (rdOf false l1 x5_1)) = false := by simpa using c7))
      (try (have c7b2 : ((rdOf false l0 x5_1) == (rdOf false l1 x5_1)) = false := by simpa using c7))
      (try (have c7b3 : ¬ ((rdOf false l0 x5_1) = (rdOf false l1 x5_1)) := by simpa using c7))
      (try (have c7b4 : ((!(rdOf false l0 x5_1)) == (rdOf false l1 x5_1)) = true := by revert c7; cases (rdOf false l0 x5_1) <;> cases (rdOf false l1 x5_1) <;> simp))
      clear c7
      obtain rfl := Option.some.inj H
      have p143 : 0 ≤ (x5_1 : Int) := of_decide_eq_true Xa
      have q143 : x5_1 < (l0.length : Int) := of_decide_eq_true Xa
      obtain ⟨ad143, e143, hx143_0⟩ := Kd.at_bool HR0.out x5_1 p143 q143
      cases e143
      replace p143 := eq_true p143
      replace q143 := eq_true q143
      have p144 : 0 ≤ (x5_1 : Int) := of_decide_eq_true Xa
      have q144 : x5_1 < (l1.length : Int) := of_decide_eq_true Xa
      obtain ⟨ad144, e144, hx144_0⟩ := Kd.at_bool HR1.out x5_1 p144 q144
      cases e144
      replace p144 := eq_true p144
      replace q144 := eq_true q144
      go_wp2
      repeat (go_quiet (fail); try go_wp2)
      go_ret
      exact ⟨Xr, Xdr⟩
     ·have c7b0 : ((rdOf false l0 x5_1) != (rdOf false l1 x5_1)) = false := by simpa using c7
      (try (have c7b1 : decide ((rdOf false l0 x5_1) = (rdOf false l1 x5_1)) = true := by simpa using c7))
      (try (have c7b2 : ((rdOf false l0 x5_1) == (rdOf false l1 x5_1)) = true := by simpa using c7))
      (try (have c7b3 : ((!(rdOf false l0 x5_1)) == (rdOf false l1 x5_1)) = false := by revert c7; cases (rdOf false l0 x5_1) <;> cases (rdOf false l1 x5_1) <;> simp))
      clear c7
      have H' := Aside0.mk H
      clear H
      have p143 : 0 ≤ (x5_1 : Int) := of_decide_eq_true Xa
      have q143 : x5_1 < (l0.length : Int) := of_decide_eq_true Xa
      obtain ⟨ad143, e143, hx143_0⟩ := Kd.at_bool HR0.out x5_1 p143 q143
      cases e143
      replace p143 := eq_true p143
      replace q143 := eq_true q143
      have p144 : 0 ≤ (x5_1 : Int) := of_decide_eq_true Xa
      have q144 : x5_1 < (l1.length : Int) := of_decide_eq_true Xa
      obtain ⟨ad144, e144, hx144_0⟩ := Kd.at_bool HR1.out x5_1 p144 q144
      cases e144
      replace p144 := eq_true p144
      replace q144 := eq_true q144
      go_wp2
      repeat (go_quiet (fail); try go_wp2)
      go_roundg k1
      case measure => have := HK1.out; omega
      case rel => exact ⟨(wrap64 (x5_1 + 1)), Xr, H', Xk1, by repeat (first | exact Drawn0.refl _ | apply Drawn0.step)⟩
    ·obtain rfl := Option.some.inj H
     go_wp2
     repeat (go_quiet (fail); try go_wp2)
     go_ret
     exact ⟨Xr, Xdr⟩
 ·have c3b0 : ((l0.length : Int) == (l1.length : Int)) = false := beq_eq_false_iff_ne.mpr c3
  have c3b1 : ((l0.length : Int) != (l1.length : Int)) = true := bne_iff_ne.mpr c3
  have c3b2 : (l0.length == l1.length) = false := by first | simpa using c3 | (simp at c3 ⊢; omega)
  obtain rfl := Option.some.inj H
  go_enter Try.func139, Try.ntmps139
  go_wp2
  repeat (go_quiet (fail); try go_wp2)
  go_ret
  exact ⟨Xr, Xdr⟩

/-! ### spec_l04Find: function 96 -/
def spec_l04Find.l0 : Nat → List (List Bool) → List Bool → Int → Option (Int)
 | 0, _, _, _ => none
 | k + 1, x0, x1, x5 => if x5 < (x0.length : Int) then (if 0 ≤ x5 then ((spec_l04Same.f k (rd_L5 x0 x5) x1).bind fun t146 => (if t146 = true then (some x5) else (spec_l04Find.l0 k x0 x1 (wrap64 (x5 + 1))))) else (none)) else (some (-1))
def spec_l04Find.f (k : Nat) (l0 : List (List Bool)) (l1 : List Bool) : Option (Int) := spec_l04Find.l0 k l0 l1 0
set_option maxHeartbeats 8000000 in
set_option maxRecDepth 100000 in
theorem spec_l04Find.calls (k : Nat) (A0 : Option Addr) (c0 : Nat) (l0 : List (List Bool)) (A1 : Option Addr) (c1 : Nat) (l1 : List Bool) (r : Int) (w : World) (hr0 : Kd.C (Kd.slice 4 Kd.bool) w A0 l0.length l0) (hc0 : l0.length ≤ c0) (hr1 : Kd.C Kd.bool w A1 l1.length l1) (hc1 : l1.length ≤ c1) (h : spec_l04Find.f k l0 l1 = some r) :
  Calls Try.prog 96 #[.slice A0 l0.length c0, .slice A1 l1.length c1] w fun e w' => e = .returned (.int .i64 r) ∧ Drawn0 w w' := by
 have HR0 := Aside0.mk hr0
 have HC0 := Aside0.mk hc0
 clear hr0 hc0
 have HR1 := Aside0.mk hr1
 have HC1 := Aside0.mk hc1
 clear hr1 hc1
 have H : (spec_l04Find.l0 k l0 l1 0) = some r := h
 clear h
 have H' := Aside0.mk H
 clear H
 go_enter Try.func96, Try.ntmps96
 go_wp2
 go_loopg [5] k (fun kq v5 w' => ∃ (x5_1 : Int), v5 = .int .i64 x5_1 ∧ Aside0 (spec_l04Find.l0 kq l0 l1 x5_1 = some r) ∧ Aside0 (kq ≤ k) ∧ Drawn0 w w')
 case atStart => exact ⟨(0), Xr, H', Xkr, by repeat (first | exact Drawn0.refl _ | apply Drawn0.step)⟩
 case round =>
  clear H'
  (try clear c1)
  obtain ⟨x5_1, rfl, HA, HK1, ⟨m1, rfl⟩⟩ := hrel
  cases gk with
  | zero => cases HA.out
  | succ k1 =>
   have H := HA.out
   clear HA
   simp only [spec_l04Find.l0] at H
   obtain ⟨c3b0, H⟩ | ⟨c3b0, H⟩ := Xit H
   ·obtain ⟨c4b0, H⟩ := Xid H
    obtain ⟨t146, A5, H⟩ := Xbi H
    (try dsimp only at H)
    have HC6 := Aside0.mk H
    clear H
    have p145 : 0 ≤ (x5_1 : Int) := of_decide_eq_true Xa
    have q145 : x5_1 < (l0.length : Int) := of_decide_eq_true Xa
    obtain ⟨ad145, A145_0, c145_0, e145, hx145_0, hl145_0, hi145_0⟩ := at_L5 HR0.out x5_1 p145 q145
    cases e145
    have HR145_0 := Aside0.mk hi145_0
    have HC145_0 := Aside0.mk hl145_0
    clear hi145_0 hl145_0
    replace p145 := eq_true p145
    replace q145 := eq_true q145
    go_upto_if 17 with (first | ((with_reducible refine gate_callee (f := 139) rfl ?_); refine Xgo 17 Try.func139 #[.slice A145_0 (rd_L5 l0 x5_1).length c145_0, .slice A1 l1.length c1] ?_; (with_reducible refine (spec_l04Same.calls k1 _ _ (rd_L5 l0 x5_1) _ _ l1 t146 _ ?side1 ?side2 ?side3 ?side4 A5.out).mono ?_); (case side1 => repeat (first | exact HR145_0.out | (with_reducible first | refine Kd.C_alloc ?_ _ | refine Kd.C_drewN ?_ _ | refine Kd.C_drew ?_))); (case side2 => exact HC145_0.out); (case side3 => repeat (first | exact HR1.out | (with_reducible first | refine Kd.C_alloc ?_ _ | refine Kd.C_drewN ?_ _ | refine Kd.C_drew ?_))); (case side4 => exact HC1.out); rintro e w' ⟨rfl, ⟨nd, rfl⟩⟩; refine ⟨_, rfl, ?_⟩))
    have H := HC6.out
    clear HC6
    by_cases c7 : t146 = true
    ·subst c7
     (first | rw [if_pos rfl] at H | skip)
     obtain rfl := Option.some.inj H
     go_wp2
     go_ret
     exact ⟨Xr, Xdr⟩
    ·replace c7 := Bool.eq_false_iff.mpr c7
     subst c7
     (first | rw [if_neg (show ¬ (false = true) by decide)] at H | skip)
     have H' := Aside0.mk H
     clear H
     go_wp2
     go_roundg k1
     case measure => have := HK1.out; omega
     case rel => exact ⟨(wrap64 (x5_1 + 1)), Xr, H', Xk1, by repeat (first | exact Drawn0.refl _ | apply Drawn0.step)⟩
   ·obtain rfl := Option.some.inj H
    go_wp2
    go_ret
    exact ⟨Xr, Xdr⟩

end Go.Proofs.Ythkbgbkglgmpoaa.XA
