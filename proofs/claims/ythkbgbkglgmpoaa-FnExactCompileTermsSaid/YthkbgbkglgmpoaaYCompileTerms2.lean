/- Contracts of the program's functions: each Go function that is named below comes to what its Lean function says. Written by xprint.py (a program of this session's, over the kit's print). Conditions: each contract's own premises. -/
import Derived.Test.YthkbgbkglgmpoaaYCompileTerms0
import Derived.Test.YthkbgbkglgmpoaaYCompileTerms1
namespace Go.Proofs.Ythkbgbkglgmpoaa.XA
open Go.RowKit Go.Proofs.YthkbgbkglgmpoaaW.PrintWords Go.Proofs.YthkbgbkglgmpoaaW.PrintLast Go.Proofs.YthkbgbkglgmpoaaW.PrintMore XW
attribute [local go_sem] max2_int min2_int max_two min_two max_three min_three max_four min_four   -- for this text's walks alone
set_option linter.unusedVariables false
set_option linter.unusedSimpArgs false

/-! ### spec_l04Close: function 93 -/
def spec_l04Close.l0 : Nat → List (S78) → List Bool → Int → Option (List Bool)
 | 0, _, _, _ => none
 | k + 1, x0, x5, x6 => if x6 < (x0.length : Int) then (if 0 ≤ (wrap64 (2 * x6)) then (if (wrap64 (2 * x6)) < (x5.length : Int) then (if rdOf false x5 (wrap64 (2 * x6)) = true then (if 0 ≤ x6 then ((spec_l03Least.f ((rd_T78 x0 x6).f1)).bind fun t122 => (if t122 = 0 then (if 0 ≤ (wrap64 ((wrap64 (2 * x6)) + 2)) then (if (wrap64 ((wrap64 (2 * x6)) + 2)) < (x5.length : Int) then (spec_l04Close.l0 k x0 (x5.set ((wrap64 ((wrap64 (2 * x6)) + 2)) : Int).toNat true) (wrap64 (x6 + 1))) else (none)) else (none)) else (if 0 ≤ (wrap64 ((wrap64 (2 * x6)) + 1)) then (if (wrap64 ((wrap64 (2 * x6)) + 1)) < (x5.length : Int) then (if rdOf false x5 (wrap64 ((wrap64 (2 * x6)) + 1)) = true then (if 0 ≤ (wrap64 ((wrap64 (2 * x6)) + 2)) then (if (wrap64 ((wrap64 (2 * x6)) + 2)) < (x5.length : Int) then (spec_l04Close.l0 k x0 (x5.set ((wrap64 ((wrap64 (2 * x6)) + 2)) : Int).toNat true) (wrap64 (x6 + 1))) else (none)) else (none)) else (spec_l04Close.l0 k x0 x5 (wrap64 (x6 + 1)))) else (none)) else (none)))) else (none)) else (if 0 ≤ (wrap64 ((wrap64 (2 * x6)) + 1)) then (if (wrap64 ((wrap64 (2 * x6)) + 1)) < (x5.length : Int) then (if rdOf false x5 (wrap64 ((wrap64 (2 * x6)) + 1)) = true then (if 0 ≤ (wrap64 ((wrap64 (2 * x6)) + 2)) then (if (wrap64 ((wrap64 (2 * x6)) + 2)) < (x5.length : Int) then (spec_l04Close.l0 k x0 (x5.set ((wrap64 ((wrap64 (2 * x6)) + 2)) : Int).toNat true) (wrap64 (x6 + 1))) else (none)) else (none)) else (spec_l04Close.l0 k x0 x5 (wrap64 (x6 + 1)))) else (none)) else (none))) else (none)) else (none)) else (some x5)
def spec_l04Close.f (k : Nat) (l0 : List (S78)) (l1 : List Bool) : Option (List Bool) := (some (([] : List Bool) : List Bool)).bind fun y114 => (if y114.length + l1.length < 140737488355328 then (spec_l04Close.l0 k l0 (y114 ++ l1) 0) else (none))
set_option maxHeartbeats 8000000 in
set_option maxRecDepth 100000 in
theorem spec_l04Close.calls (k : Nat) (A0 : Option Addr) (c0 : Nat) (l0 : List (S78)) (A1 : Option Addr) (c1 : Nat) (l1 : List Bool) (r : List Bool) (w : World) (hr0 : Kd.C k78 w A0 l0.length l0) (hc0 : l0.length ≤ c0) (hr1 : Kd.C Kd.bool w A1 l1.length l1) (hc1 : l1.length ≤ c1) (h : spec_l04Close.f k l0 l1 = some r) :
  Calls Try.prog 93 #[.slice A0 l0.length c0, .slice A1 l1.length c1] w fun e w' => ∃ v0_ : Value, e = .returned (v0_) ∧ Kd.R Kd.bool 4 w' w.heap.size (fun _ => True) v0_ r ∧ Below w.heap.size w w' := by
 have HR0 := Aside0.mk hr0
 have HC0 := Aside0.mk hc0
 clear hr0 hc0
 have HR1 := Aside0.mk hr1
 have HC1 := Aside0.mk hc1
 clear hr1 hc1
 have HB := Aside0.mk (Below.refl w.heap.size w)
 have H : ((some (([] : List Bool) : List Bool)).bind fun y114 => (if y114.length + l1.length < 140737488355328 then (spec_l04Close.l0 k l0 (y114 ++ l1) 0) else (none))) = some r := h
 clear h
 obtain ⟨y114, hy114⟩ : ∃ y_ : List Bool, y_ = (([] : List Bool)) := ⟨_, rfl⟩
 replace H : (if y114.length + l1.length < 140737488355328 then (spec_l04Close.l0 k l0 (y114 ++ l1) 0) else (none)) = some r := by first | (rw [hy114]; with_reducible exact H) | (have H2_ := (Option.bind_some _ _).symm.trans H; rw [hy114]; with_reducible exact H2_) | (have H2_ := (Option.bind_some _ _).symm.trans H; with_reducible exact H2_) | with_reducible exact H | (rw [hy114]; exact H) | exact H
 have Ny114 := Aside0.mk hy114
 clear hy114
 obtain ⟨c3, H⟩ | ⟨c3, H⟩ := Xiu H
 ·have LMc3 := Aside0.mk c3
  clear c3
  obtain ⟨y117, hy117⟩ : ∃ y_ : List Bool, y_ = (y114 ++ l1) := ⟨_, rfl⟩
  replace H : (spec_l04Close.l0 k l0 y117 0) = some r := by first | (rw [hy117]; with_reducible exact H) | (have H2_ := (Option.bind_some _ _).symm.trans H; rw [hy117]; with_reducible exact H2_) | (have H2_ := (Option.bind_some _ _).symm.trans H; with_reducible exact H2_) | with_reducible exact H | (rw [hy117]; exact H) | exact H
  have Ny117 := Aside0.mk hy117
  clear hy117
  have H' := Aside0.mk H
  clear H
  go_enter Try.func93, Try.ntmps93
  go_wp2_with (first | ((with_reducible refine gate_dst (N := 7) rfl ?_); refine Kd.R_lit Kd.bool _ 4 ?hg (N := 7) ?hd (xs := ([] : List Bool)) (inner := []) (ok := fun _ => True) (okp := fun _ => True) ?hr ?hp (fun _ hk => hk) trivial (Below.refl _ _) (Nat.le_refl _) (by simp) ?_; (case hd => rfl); (case hg => rfl); (case hr => first | (go_simp; done) | (go_simp; rfl)); (case hp => exact (Reps.none _ _)); intro v115 w4 ho5 hb hg_ hnew_; clear hg_ hnew_; (first | rw [← Ny114.out] at ho5 | (simp only [Int.reduceToNat] at ho5; rw [← Ny114.out] at ho5)); have HO116 := Aside0.mk (Kd.R_lower ho5 (below_size Xi)); replace HB := Aside0.mk (below_step Xi hb); clear hb ho5) | ((with_reducible refine gate_builtin (b := .append) (xs := #[.tmp 7, .tmp 8]) rfl ?_); at_builtin; refine Kd.R_append_rows Kd.bool (w0 := w) w.heap.size rfl (.tmp 7) (.tmp 8) 25 4 (.bool false) 1 rfl Try.underlying25 info4 rfl (by decide) (by omega) v115 y114 l1 _ _ _ (fun _ => True) (fun _ => False) rfl rfl ?aO ?aR (fun _ _ h => h) (fun _ h => h.elim) ?aF ?aB ?aS ?aL ?_; (case aR => repeat (first | exact (Kd.C_below HR1.out HB.out) | (with_reducible first | refine Kd.C_alloc ?_ _ | refine Kd.C_drewN ?_ _ | refine Kd.C_drew ?_))); (case aB => exact Xi); (case aF => exact (fun _ _ => trivial)); (case aO => exact (Xq HO116)); (case aS => exact (below_size Xi)); (case aL => have := LMc3.out; omega); intro v118 w6 ho hb hg hat; rw [← Ny117.out] at ho; replace HB := Aside0.mk (hb); have HO119 := Aside0.mk (ho); clear HO116; clear ho hb hg hat))
  go_loopg [6] k (fun kq v6 w' => ∃ (x5_1 : List Bool) (x6_1 : Int), v6 = .int .i64 x6_1 ∧ Aside0 (spec_l04Close.l0 kq l0 x5_1 x6_1 = some r) ∧ Aside0 (kq ≤ k) ∧ Aside0 (Kd.R Kd.bool 4 w' w.heap.size (fun _ => True) v118 x5_1) ∧ Aside0 (Below w.heap.size w w'))
  case atStart => exact ⟨(y117), (0), Xr, H', Xkr, (Xp' HO119), ⟨Xi⟩⟩
  case round =>
   clear H'
   (try clear c1); (try clear c3)
   obtain ⟨x5_1, x6_1, rfl, HA, HK1, HO_5, HB⟩ := hrel
   cases gk with
   | zero => cases HA.out
   | succ k1 =>
    have H := HA.out
    clear HA
    simp only [spec_l04Close.l0] at H
    obtain ⟨c7b0, H⟩ | ⟨c7b0, H⟩ := Xit H
    ·obtain ⟨ji8, hji8⟩ : ∃ j_ : Int, (wrap64 (2 * x6_1)) = j_ := ⟨_, rfl⟩
     replace H : (if 0 ≤ (ji8) then (if (ji8) < (x5_1.length : Int) then (if rdOf false x5_1 (ji8) = true then (if 0 ≤ x6_1 then ((spec_l03Least.f ((rd_T78 l0 x6_1).f1)).bind fun t122 => (if t122 = 0 then (if 0 ≤ (wrap64 ((ji8) + 2)) then (if (wrap64 ((ji8) + 2)) < (x5_1.length : Int) then (spec_l04Close.l0 k1 l0 (x5_1.set ((wrap64 ((ji8) + 2)) : Int).toNat true) (wrap64 (x6_1 + 1))) else (none)) else (none)) else (if 0 ≤ (wrap64 ((ji8) + 1)) then (if (wrap64 ((ji8) + 1)) < (x5_1.length : Int) then (if rdOf false x5_1 (wrap64 ((ji8) + 1)) = true then (if 0 ≤ (wrap64 ((ji8) + 2)) then (if (wrap64 ((ji8) + 2)) < (x5_1.length : Int) then (spec_l04Close.l0 k1 l0 (x5_1.set ((wrap64 ((ji8) + 2)) : Int).toNat true) (wrap64 (x6_1 + 1))) else (none)) else (none)) else (spec_l04Close.l0 k1 l0 x5_1 (wrap64 (x6_1 + 1)))) else (none)) else (none)))) else (none)) else (if 0 ≤ (wrap64 ((ji8) + 1)) then (if (wrap64 ((ji8) + 1)) < (x5_1.length : Int) then (if rdOf false x5_1 (wrap64 ((ji8) + 1)) = true then (if 0 ≤ (wrap64 ((ji8) + 2)) then (if (wrap64 ((ji8) + 2)) < (x5_1.length : Int) then (spec_l04Close.l0 k1 l0 (x5_1.set ((wrap64 ((ji8) + 2)) : Int).toNat true) (wrap64 (x6_1 + 1))) else (none)) else (none)) else (spec_l04Close.l0 k1 l0 x5_1 (wrap64 (x6_1 + 1)))) else (none)) else (none))) else (none)) else (none)) = some r := by first | (rw [hji8] at H; exact H) | (simp only [hji8] at H ⊢; exact H)
     have hji8w : (IntKind.i64.wrap (2 * x6_1)) = ji8 := (i64_w _).trans hji8
     obtain ⟨c9b0, H⟩ := Xid H
     obtain ⟨c10b0, H⟩ := Xid H
     obtain ⟨bq11, hbq11⟩ : ∃ b_ : Bool, b_ = (rdOf false x5_1 (ji8)) := ⟨_, rfl⟩
     replace H : (if bq11 = true then (if 0 ≤ x6_1 then ((spec_l03Least.f ((rd_T78 l0 x6_1).f1)).bind fun t122 => (if t122 = 0 then (if 0 ≤ (wrap64 ((ji8) + 2)) then (if (wrap64 ((ji8) + 2)) < (x5_1.length : Int) then (spec_l04Close.l0 k1 l0 (x5_1.set ((wrap64 ((ji8) + 2)) : Int).toNat true) (wrap64 (x6_1 + 1))) else (none)) else (none)) else (if 0 ≤ (wrap64 ((ji8) + 1)) then (if (wrap64 ((ji8) + 1)) < (x5_1.length : Int) then (if rdOf false x5_1 (wrap64 ((ji8) + 1)) = true then (if 0 ≤ (wrap64 ((ji8) + 2)) then (if (wrap64 ((ji8) + 2)) < (x5_1.length : Int) then (spec_l04Close.l0 k1 l0 (x5_1.set ((wrap64 ((ji8) + 2)) : Int).toNat true) (wrap64 (x6_1 + 1))) else (none)) else (none)) else (spec_l04Close.l0 k1 l0 x5_1 (wrap64 (x6_1 + 1)))) else (none)) else (none)))) else (none)) else (if 0 ≤ (wrap64 ((ji8) + 1)) then (if (wrap64 ((ji8) + 1)) < (x5_1.length : Int) then (if rdOf false x5_1 (wrap64 ((ji8) + 1)) = true then (if 0 ≤ (wrap64 ((ji8) + 2)) then (if (wrap64 ((ji8) + 2)) < (x5_1.length : Int) then (spec_l04Close.l0 k1 l0 (x5_1.set ((wrap64 ((ji8) + 2)) : Int).toNat true) (wrap64 (x6_1 + 1))) else (none)) else (none)) else (spec_l04Close.l0 k1 l0 x5_1 (wrap64 (x6_1 + 1)))) else (none)) else (none))) = some r := by rw [← hbq11] at H; exact H
     have Nbq11 := Aside0.mk hbq11
     clear hbq11
     by_cases c12 : bq11 = true
     ·subst c12
      (first | rw [if_pos rfl] at H | skip)
      obtain ⟨c13b0, H⟩ := Xid H
      obtain ⟨t122, A14, H⟩ := Xbi H
      (try dsimp only at H)
      obtain ⟨c15, H⟩ | ⟨c15, H⟩ := Xiu H
      ·have c15b0 : (t122 == 0) = true := beq_iff_eq.mpr c15
       have c15b1 : (t122 != 0) = false := bne_eq_false_iff_eq.mpr c15
       clear c15
       obtain ⟨ji16, hji16⟩ : ∃ j_ : Int, (wrap64 ((ji8) + 2)) = j_ := ⟨_, rfl⟩
       replace H : (if 0 ≤ (ji16) then (if (ji16) < (x5_1.length : Int) then (spec_l04Close.l0 k1 l0 (x5_1.set ((ji16) : Int).toNat true) (wrap64 (x6_1 + 1))) else (none)) else (none)) = some r := by first | (rw [hji16] at H; exact H) | (simp only [hji16] at H ⊢; exact H)
       (try rw [hji16] at A14)
       have hji16w : (IntKind.i64.wrap ((ji8) + 2)) = ji16 := (i64_w _).trans hji16
       obtain ⟨c17b0, H⟩ := Xid H
       obtain ⟨c18b0, H⟩ := Xid H
       obtain ⟨y123, hy123⟩ : ∃ y_ : List Bool, y_ = (x5_1.set ((ji16) : Int).toNat true) := ⟨_, rfl⟩
       replace H : (spec_l04Close.l0 k1 l0 y123 (wrap64 (x6_1 + 1))) = some r := by first | (rw [hy123]; with_reducible exact H) | (have H2_ := (Option.bind_some _ _).symm.trans H; rw [hy123]; with_reducible exact H2_) | (have H2_ := (Option.bind_some _ _).symm.trans H; with_reducible exact H2_) | with_reducible exact H | (rw [hy123]; exact H) | exact H
       have Ny123 := Aside0.mk hy123
       clear hy123
       have H' := Aside0.mk H
       clear H
       obtain ⟨Ao20, co20, eo20⟩ := Kd.R_slice HO_5.out
       subst eo20
       have p120 : 0 ≤ ((ji8) : Int) := of_decide_eq_true Xa
       have q120 : (ji8) < (x5_1.length : Int) := of_decide_eq_true Xa
       obtain ⟨ad120, e120, hx120_0⟩ := Kd.at_bool (Kd.R_reads' HO_5.out).2.2 (ji8) p120 q120
       (try rw [← Nbq11.out] at hx120_0)
       cases e120
       replace p120 := eq_true p120
       replace q120 := eq_true q120
       obtain ⟨ad121, A121_0, c121_0, e121, p121, q121, hx121_0, hx121_1, HC121_0, HR121_0⟩ := at_B78 HR0 x6_1 Xa Xa HB
       cases e121
       go_wp2_with (first | (go_at_call 119; (with_reducible refine (spec_l03Least.calls ((rd_T78 l0 x6_1).f1) t122 _ A14.out).mono ?_); rintro e w' ⟨rfl, ⟨nd, rfl⟩⟩; (try (rw [drewN_self wr]; generalize hq_ : World.drewN wr _ = wr; have n0_ : Aside0 (Kd.R Kd.bool 4 wr w.heap.size (fun _ => True) (.slice (some ad120) x5_1.length co20) x5_1) := ⟨by rw [← hq_]; exact (Xq HO_5)⟩; have n1_ : Aside0 (Below w.heap.size w wr) := ⟨by rw [← hq_]; exact Xi⟩; clear HO_5 HB hq_; have HO_5 := n0_; have HB := n1_; clear n0_ n1_)); have p19 : 0 ≤ ((ji16) : Int) := of_decide_eq_true Xa; have q19 : ((ji16) : Int) < ((x5_1.length : Int) : Int) := of_decide_eq_true Xa; obtain ⟨go19, co19, eo19, gb19, gl19, cl19, HG19⟩ := Kd.R_form HO_5.out (by omega); (first | cases eo19 | (injection eo19 with ea_ en_ ec_; (first | subst ea_ | (injection ea_ with ea_; subst ea_)); subst ec_; clear en_)); have GB19 := Aside0.mk gb19; have GG19 := Aside0.mk HG19; clear gb19 gl19 HG19; (first | simp only [add_plain] at hx120_0 | skip); obtain ⟨hx19_0, hf19_0⟩ := Kd.R_celln false HO_5.out ((ji16) : Int) p19 q19; replace p19 := eq_true p19; replace q19 := eq_true q19; obtain ⟨hy21_, hz21_⟩ := Kd.R_celln false HO_5.out ((ji16) : Int) (of_decide_eq_true Xa) (of_decide_eq_true Xa); have HP21 := Kd.R_putg HO_5.out ((ji16) : Int) true) | ((with_reducible refine gate_store (t := 4) (p := 42) rfl ?_); refine store_event (t := 4) (p := 42) (v := ?vo_w22) (w1 := (wr.setCell ⟨go19, ((ji16) : Int).toNat, none⟩ (.bool true))) ?hg ?ho ?hn ?hr ?_; (case ho => rfl); (case hg => rfl); (case hn => rfl); (case hr => first | (go_simp; done) | (go_simp; rfl)); intro w22 hw; have hg : wr.grownBy w22 (some go19) := (by rw [hw]; exact HP21.2); have hp_ : Kd.R Kd.bool 4 w22 w.heap.size (fun _ => True) (.slice (some ⟨go19, 0, none⟩) x5_1.length co20) y123 := (by rw [hw, Ny123.out]; exact HP21.1); clear HP21; replace HO_5 := Aside0.mk (hp_); replace HB := Aside0.mk ((by rw [hw]; exact below_set (HB.out) GB19.out : Below w.heap.size w w22)); clear hg hw hp_))
       go_roundg k1
       case measure => have := HK1.out; omega
       case rel => exact ⟨(y123), (wrap64 (x6_1 + 1)), Xr, H', Xk1, (Xp' HO_5), ⟨Xi⟩⟩
      ·have c15b0 : (t122 == 0) = false := beq_eq_false_iff_ne.mpr c15
       have c15b1 : (t122 != 0) = true := bne_iff_ne.mpr c15
       obtain ⟨ji23, hji23⟩ : ∃ j_ : Int, (wrap64 ((ji8) + 1)) = j_ := ⟨_, rfl⟩
       replace H : (if 0 ≤ (ji23) then (if (ji23) < (x5_1.length : Int) then (if rdOf false x5_1 (ji23) = true then (if 0 ≤ (wrap64 ((ji8) + 2)) then (if (wrap64 ((ji8) + 2)) < (x5_1.length : Int) then (spec_l04Close.l0 k1 l0 (x5_1.set ((wrap64 ((ji8) + 2)) : Int).toNat true) (wrap64 (x6_1 + 1))) else (none)) else (none)) else (spec_l04Close.l0 k1 l0 x5_1 (wrap64 (x6_1 + 1)))) else (none)) else (none)) = some r := by first | (rw [hji23] at H; exact H) | (simp only [hji23] at H ⊢; exact H)
       (try rw [hji23] at A14)
       have hji23w : (IntKind.i64.wrap ((ji8) + 1)) = ji23 := (i64_w _).trans hji23
       obtain ⟨c24b0, H⟩ := Xid H
       obtain ⟨c25b0, H⟩ := Xid H
       have HC26 := Aside0.mk H
       clear H
       obtain ⟨Ao27, co27, eo27⟩ := Kd.R_slice HO_5.out
       subst eo27
       have p120 : 0 ≤ ((ji8) : Int) := of_decide_eq_true Xa
       have q120 : (ji8) < (x5_1.length : Int) := of_decide_eq_true Xa
       obtain ⟨ad120, e120, hx120_0⟩ := Kd.at_bool (Kd.R_reads' HO_5.out).2.2 (ji8) p120 q120
       (try rw [← Nbq11.out] at hx120_0)
       cases e120
       replace p120 := eq_true p120
       replace q120 := eq_true q120
       obtain ⟨ad121, A121_0, c121_0, e121, p121, q121, hx121_0, hx121_1, HC121_0, HR121_0⟩ := at_B78 HR0 x6_1 Xa Xa HB
       cases e121
       go_upto_if 37 with (first | (go_at_call 119; (with_reducible refine (spec_l03Least.calls ((rd_T78 l0 x6_1).f1) t122 _ A14.out).mono ?_); rintro e w' ⟨rfl, ⟨nd, rfl⟩⟩; have p124 : 0 ≤ ((ji23) : Int) := of_decide_eq_true Xa; have q124 : (ji23) < (x5_1.length : Int) := of_decide_eq_true Xa; obtain ⟨ad124, e124, hx124_0⟩ := Kd.at_bool (Kd.R_reads' HO_5.out).2.2 (ji23) p124 q124; (try rw [← Nbq11.out] at hx124_0); obtain rfl : ad120 = ad124 := (by injection e124); replace p124 := eq_true p124; replace q124 := eq_true q124))
       (try (rw [drewN_self wr]; generalize hq_ : World.drewN wr _ = wr; have n0_ : Aside0 (Kd.R Kd.bool 4 wr w.heap.size (fun _ => True) (.slice (some ad120) x5_1.length co27) x5_1) := ⟨by rw [← hq_]; exact (Xq HO_5)⟩; have n1_ : Aside0 (Below w.heap.size w wr) := ⟨by rw [← hq_]; exact Xi⟩; clear HO_5 HB hq_; have HO_5 := n0_; have HB := n1_; clear n0_ n1_))
       have H := HC26.out
       clear HC26
       obtain ⟨bq28, hbq28⟩ : ∃ b_ : Bool, b_ = (rdOf false x5_1 (ji23)) := ⟨_, rfl⟩
       replace H : (if bq28 = true then (if 0 ≤ (wrap64 ((ji8) + 2)) then (if (wrap64 ((ji8) + 2)) < (x5_1.length : Int) then (spec_l04Close.l0 k1 l0 (x5_1.set ((wrap64 ((ji8) + 2)) : Int).toNat true) (wrap64 (x6_1 + 1))) else (none)) else (none)) else (spec_l04Close.l0 k1 l0 x5_1 (wrap64 (x6_1 + 1)))) = some r := by rw [← hbq28] at H; exact H
       have Nbq28 := Aside0.mk hbq28
       clear hbq28
       (try rw [← Nbq28.out])
       by_cases c29 : bq28 = true
       ·subst c29
        (first | rw [if_pos rfl] at H | skip)
        obtain ⟨ji30, hji30⟩ : ∃ j_ : Int, (wrap64 ((ji8) + 2)) = j_ := ⟨_, rfl⟩
        replace H : (if 0 ≤ (ji30) then (if (ji30) < (x5_1.length : Int) then (spec_l04Close.l0 k1 l0 (x5_1.set ((ji30) : Int).toNat true) (wrap64 (x6_1 + 1))) else (none)) else (none)) = some r := by first | (rw [hji30] at H; exact H) | (simp only [hji30] at H ⊢; exact H)
        have hji30w : (IntKind.i64.wrap ((ji8) + 2)) = ji30 := (i64_w _).trans hji30
        obtain ⟨c31b0, H⟩ := Xid H
        obtain ⟨c32b0, H⟩ := Xid H
        obtain ⟨y125, hy125⟩ : ∃ y_ : List Bool, y_ = (x5_1.set ((ji30) : Int).toNat true) := ⟨_, rfl⟩
        replace H : (spec_l04Close.l0 k1 l0 y125 (wrap64 (x6_1 + 1))) = some r := by first | (rw [hy125]; with_reducible exact H) | (have H2_ := (Option.bind_some _ _).symm.trans H; rw [hy125]; with_reducible exact H2_) | (have H2_ := (Option.bind_some _ _).symm.trans H; with_reducible exact H2_) | with_reducible exact H | (rw [hy125]; exact H) | exact H
        have Ny125 := Aside0.mk hy125
        clear hy125
        have H' := Aside0.mk H
        clear H
        have p33 : 0 ≤ ((ji30) : Int) := of_decide_eq_true Xa
        have q33 : ((ji30) : Int) < ((x5_1.length : Int) : Int) := of_decide_eq_true Xa
        obtain ⟨go33, co33, eo33, gb33, gl33, cl33, HG33⟩ := Kd.R_form HO_5.out (by omega)
        (first | cases eo33 | (injection eo33 with ea_ en_ ec_; (first | subst ea_ | (injection ea_ with ea_; subst ea_)); subst ec_; clear en_))
        have GB33 := Aside0.mk gb33
        have GG33 := Aside0.mk HG33
        clear gb33 gl33 HG33
        (first | simp only [add_plain] at hx120_0 | skip)
        (first | simp only [add_plain] at hx124_0 | skip)
        obtain ⟨hx33_0, hf33_0⟩ := Kd.R_celln false HO_5.out ((ji30) : Int) p33 q33
        replace p33 := eq_true p33
        replace q33 := eq_true q33
        have HP34 := Kd.R_putg HO_5.out ((ji30) : Int) true
        go_wp2_with (first | ((with_reducible refine gate_store (t := 4) (p := 42) rfl ?_); refine store_event (t := 4) (p := 42) (v := ?vo_w35) (w1 := (wr.setCell ⟨go33, ((ji30) : Int).toNat, none⟩ (.bool true))) ?hg ?ho ?hn ?hr ?_; (case ho => rfl); (case hg => rfl); (case hn => rfl); (case hr => first | (go_simp; done) | (go_simp; rfl)); intro w35 hw; have hg : wr.grownBy w35 (some go33) := (by rw [hw]; exact HP34.2); have hp_ : Kd.R Kd.bool 4 w35 w.heap.size (fun _ => True) (.slice (some ⟨go33, 0, none⟩) x5_1.length co27) y125 := (by rw [hw, Ny125.out]; exact HP34.1); clear HP34; replace HO_5 := Aside0.mk (hp_); replace HB := Aside0.mk ((by rw [hw]; exact below_set (HB.out) GB33.out : Below w.heap.size w w35)); clear hg hw hp_))
        go_roundg k1
        case measure => have := HK1.out; omega
        case rel => exact ⟨(y125), (wrap64 (x6_1 + 1)), Xr, H', Xk1, (Xp' HO_5), ⟨Xi⟩⟩
       ·replace c29 := Bool.eq_false_iff.mpr c29
        subst c29
        (first | rw [if_neg (show ¬ (false = true) by decide)] at H | skip)
        have H' := Aside0.mk H
        clear H
        go_wp2
        go_roundg k1
        case measure => have := HK1.out; omega
        case rel => exact ⟨(x5_1), (wrap64 (x6_1 + 1)), Xr, H', Xk1, (Xp' HO_5), ⟨Xi⟩⟩
     ·replace c12 := Bool.eq_false_iff.mpr c12
      subst c12
      (first | rw [if_neg (show ¬ (false = true) by decide)] at H | skip)
      obtain ⟨ji36, hji36⟩ : ∃ j_ : Int, (wrap64 ((ji8) + 1)) = j_ := ⟨_, rfl⟩
      replace H : (if 0 ≤ (ji36) then (if (ji36) < (x5_1.length : Int) then (if rdOf false x5_1 (ji36) = true then (if 0 ≤ (wrap64 ((ji8) + 2)) then (if (wrap64 ((ji8) + 2)) < (x5_1.length : Int) then (spec_l04Close.l0 k1 l0 (x5_1.set ((wrap64 ((ji8) + 2)) : Int).toNat true) (wrap64 (x6_1 + 1))) else (none)) else (none)) else (spec_l04Close.l0 k1 l0 x5_1 (wrap64 (x6_1 + 1)))) else (none)) else (none)) = some r := by first | (rw [hji36] at H; exact H) | (simp only [hji36] at H ⊢; exact H)
      have hji36w : (IntKind.i64.wrap ((ji8) + 1)) = ji36 := (i64_w _).trans hji36
      obtain ⟨c37b0, H⟩ := Xid H
      obtain ⟨c38b0, H⟩ := Xid H
      obtain ⟨bq39, hbq39⟩ : ∃ b_ : Bool, b_ = (rdOf false x5_1 (ji36)) := ⟨_, rfl⟩
      replace H : (if bq39 = true then (if 0 ≤ (wrap64 ((ji8) + 2)) then (if (wrap64 ((ji8) + 2)) < (x5_1.length : Int) then (spec_l04Close.l0 k1 l0 (x5_1.set ((wrap64 ((ji8) + 2)) : Int).toNat true) (wrap64 (x6_1 + 1))) else (none)) else (none)) else (spec_l04Close.l0 k1 l0 x5_1 (wrap64 (x6_1 + 1)))) = some r := by rw [← hbq39] at H; exact H
      have Nbq39 := Aside0.mk hbq39
      clear hbq39
      by_cases c40 : bq39 = true
      ·subst c40
       (first | rw [if_pos rfl] at H | skip)
       obtain ⟨ji41, hji41⟩ : ∃ j_ : Int, (wrap64 ((ji8) + 2)) = j_ := ⟨_, rfl⟩
       replace H : (if 0 ≤ (ji41) then (if (ji41) < (x5_1.length : Int) then (spec_l04Close.l0 k1 l0 (x5_1.set ((ji41) : Int).toNat true) (wrap64 (x6_1 + 1))) else (none)) else (none)) = some r := by first | (rw [hji41] at H; exact H) | (simp only [hji41] at H ⊢; exact H)
       have hji41w : (IntKind.i64.wrap ((ji8) + 2)) = ji41 := (i64_w _).trans hji41
       obtain ⟨c42b0, H⟩ := Xid H
       obtain ⟨c43b0, H⟩ := Xid H
       obtain ⟨y127, hy127⟩ : ∃ y_ : List Bool, y_ = (x5_1.set ((ji41) : Int).toNat true) := ⟨_, rfl⟩
       replace H : (spec_l04Close.l0 k1 l0 y127 (wrap64 (x6_1 + 1))) = some r := by first | (rw [hy127]; with_reducible exact H) | (have H2_ := (Option.bind_some _ _).symm.trans H; rw [hy127]; with_reducible exact H2_) | (have H2_ := (Option.bind_some _ _).symm.trans H; with_reducible exact H2_) | with_reducible exact H | (rw [hy127]; exact H) | exact H
       have Ny127 := Aside0.mk hy127
       clear hy127
       have H' := Aside0.mk H
       clear H
       obtain ⟨Ao45, co45, eo45⟩ := Kd.R_slice HO_5.out
       subst eo45
       have p120 : 0 ≤ ((ji8) : Int) := of_decide_eq_true Xa
       have q120 : (ji8) < (x5_1.length : Int) := of_decide_eq_true Xa
       obtain ⟨ad120, e120, hx120_0⟩ := Kd.at_bool (Kd.R_reads' HO_5.out).2.2 (ji8) p120 q120
       (try rw [← Nbq11.out] at hx120_0)
       (try rw [← Nbq39.out] at hx120_0)
       cases e120
       replace p120 := eq_true p120
       replace q120 := eq_true q120
       have p126 : 0 ≤ ((ji36) : Int) := of_decide_eq_true Xa
       have q126 : (ji36) < (x5_1.length : Int) := of_decide_eq_true Xa
       obtain ⟨ad126, e126, hx126_0⟩ := Kd.at_bool (Kd.R_reads' HO_5.out).2.2 (ji36) p126 q126
       (try rw [← Nbq11.out] at hx126_0)
       (try rw [← Nbq39.out] at hx126_0)
       obtain rfl : ad120 = ad126 := (by injection e126)
       replace p126 := eq_true p126
       replace q126 := eq_true q126
       have p44 : 0 ≤ ((ji41) : Int) := of_decide_eq_true Xa
       have q44 : ((ji41) : Int) < ((x5_1.length : Int) : Int) := of_decide_eq_true Xa
       obtain ⟨go44, co44, eo44, gb44, gl44, cl44, HG44⟩ := Kd.R_form HO_5.out (by omega)
       (first | cases eo44 | (injection eo44 with ea_ en_ ec_; (first | subst ea_ | (injection ea_ with ea_; subst ea_)); subst ec_; clear en_))
       have GB44 := Aside0.mk gb44
       have GG44 := Aside0.mk HG44
       clear gb44 gl44 HG44
       (first | simp only [add_plain] at hx120_0 | skip)
       (first | simp only [add_plain] at hx126_0 | skip)
       obtain ⟨hx44_0, hf44_0⟩ := Kd.R_celln false HO_5.out ((ji41) : Int) p44 q44
       replace p44 := eq_true p44
       replace q44 := eq_true q44
       have HP46 := Kd.R_putg HO_5.out ((ji41) : Int) true
       go_wp2_with (first | ((with_reducible refine gate_store (t := 4) (p := 42) rfl ?_); refine store_event (t := 4) (p := 42) (v := ?vo_w47) (w1 := (wr.setCell ⟨go44, ((ji41) : Int).toNat, none⟩ (.bool true))) ?hg ?ho ?hn ?hr ?_; (case ho => rfl); (case hg => rfl); (case hn => rfl); (case hr => first | (go_simp; done) | (go_simp; rfl)); intro w47 hw; have hg : wr.grownBy w47 (some go44) := (by rw [hw]; exact HP46.2); have hp_ : Kd.R Kd.bool 4 w47 w.heap.size (fun _ => True) (.slice (some ⟨go44, 0, none⟩) x5_1.length co45) y127 := (by rw [hw, Ny127.out]; exact HP46.1); clear HP46; replace HO_5 := Aside0.mk (hp_); replace HB := Aside0.mk ((by rw [hw]; exact below_set (HB.out) GB44.out : Below w.heap.size w w47)); clear hg hw hp_))
       go_roundg k1
       case measure => have := HK1.out; omega
       case rel => exact ⟨(y127), (wrap64 (x6_1 + 1)), Xr, H', Xk1, (Xp' HO_5), ⟨Xi⟩⟩
      ·replace c40 := Bool.eq_false_iff.mpr c40
       subst c40
       (first | rw [if_neg (show ¬ (false = true) by decide)] at H | skip)
       have H' := Aside0.mk H
       clear H
       obtain ⟨Ao48, co48, eo48⟩ := Kd.R_slice HO_5.out
       subst eo48
       have p120 : 0 ≤ ((ji8) : Int) := of_decide_eq_true Xa
       have q120 : (ji8) < (x5_1.length : Int) := of_decide_eq_true Xa
       obtain ⟨ad120, e120, hx120_0⟩ := Kd.at_bool (Kd.R_reads' HO_5.out).2.2 (ji8) p120 q120
       (try rw [← Nbq11.out] at hx120_0)
       (try rw [← Nbq39.out] at hx120_0)
       cases e120
       replace p120 := eq_true p120
       replace q120 := eq_true q120
       have p126 : 0 ≤ ((ji36) : Int) := of_decide_eq_true Xa
       have q126 : (ji36) < (x5_1.length : Int) := of_decide_eq_true Xa
       obtain ⟨ad126, e126, hx126_0⟩ := Kd.at_bool (Kd.R_reads' HO_5.out).2.2 (ji36) p126 q126
       (try rw [← Nbq11.out] at hx126_0)
       (try rw [← Nbq39.out] at hx126_0)
       obtain rfl : ad120 = ad126 := (by injection e126)
       replace p126 := eq_true p126
       replace q126 := eq_true q126
       go_wp2
       go_roundg k1
       case measure => have := HK1.out; omega
       case rel => exact ⟨(x5_1), (wrap64 (x6_1 + 1)), Xr, H', Xk1, (Xp' HO_5), ⟨Xi⟩⟩
    ·obtain rfl := Option.some.inj H
     go_wp2
     go_ret
     exact ⟨_, Xe, Xq HO_5, Xi⟩
 ·exact absurd H (by simp)

/-! ### spec_l02Has: function 106 -/
def spec_l02Has.l0 : Nat → List Int → Int → Int → Option (Bool)
 | 0, _, _, _ => none
 | k + 1, x0, x1, x5 => if x5 < (x0.length : Int) then (if 0 ≤ x5 then (if (rd x0 x5) = x1 then (some true) else (spec_l02Has.l0 k x0 x1 (wrap64 (x5 + 1)))) else (none)) else (some false)
def spec_l02Has.f (k : Nat) (l0 : List Int) (a1 : Int) : Option (Bool) := spec_l02Has.l0 k l0 a1 0
set_option maxHeartbeats 8000000 in
set_option maxRecDepth 100000 in
theorem spec_l02Has.calls (k : Nat) (A0 : Option Addr) (c0 : Nat) (l0 : List Int) (a1 : Int) (r : Bool) (w : World) (hr0 : Kd.C (Kd.int .i64) w A0 l0.length l0) (hc0 : l0.length ≤ c0) (h : spec_l02Has.f k l0 a1 = some r) :
  Calls Try.prog 106 #[.slice A0 l0.length c0, .int .i64 a1] w fun e w' => e = .returned (.bool r) ∧ Drawn0 w w' := by
 have HR0 := Aside0.mk hr0
 have HC0 := Aside0.mk hc0
 clear hr0 hc0
 have H : (spec_l02Has.l0 k l0 a1 0) = some r := h
 clear h
 have H' := Aside0.mk H
 clear H
 go_enter Try.func106, Try.ntmps106
 go_wp2
 go_loopg [5] k (fun kq v5 w' => ∃ (x5_1 : Int), v5 = .int .i64 x5_1 ∧ Aside0 (spec_l02Has.l0 kq l0 a1 x5_1 = some r) ∧ Aside0 (kq ≤ k) ∧ Drawn0 w w')
 case atStart => exact ⟨(0), Xr, H', Xkr, by repeat (first | exact Drawn0.refl _ | apply Drawn0.step)⟩
 case round =>
  clear H'
  obtain ⟨x5_1, rfl, HA, HK1, ⟨m1, rfl⟩⟩ := hrel
  cases gk with
  | zero => cases HA.out
  | succ k1 =>
   have H := HA.out
   clear HA
   simp only [spec_l02Has.l0] at H
   obtain ⟨c3b0, H⟩ | ⟨c3b0, H⟩ := Xit H
   ·obtain ⟨c4b0, H⟩ := Xid H
    obtain ⟨c5, H⟩ | ⟨c5, H⟩ := Xiu H
    ·have c5b0 : ((rd l0 x5_1) == a1) = true := beq_iff_eq.mpr c5
     have c5b1 : ((rd l0 x5_1) != a1) = false := bne_eq_false_iff_eq.mpr c5
     clear c5
     obtain rfl := Option.some.inj H
     have p128 : 0 ≤ (x5_1 : Int) := of_decide_eq_true Xa
     have q128 : x5_1 < (l0.length : Int) := of_decide_eq_true Xa
     obtain ⟨ad128, e128, hx128_0⟩ := Kd.at_int HR0.out x5_1 p128 q128
     cases e128
     replace p128 := eq_true p128
     replace q128 := eq_true q128
     go_wp2
     go_ret
     exact ⟨Xr, Xdr⟩
    ·have c5b0 : ((rd l0 x5_1) == a1) = false := beq_eq_false_iff_ne.mpr c5
     have c5b1 : ((rd l0 x5_1) != a1) = true := bne_iff_ne.mpr c5
     have H' := Aside0.mk H
     clear H
     have p128 : 0 ≤ (x5_1 : Int) := of_decide_eq_true Xa
     have q128 : x5_1 < (l0.length : Int) := of_decide_eq_true Xa
     obtain ⟨ad128, e128, hx128_0⟩ := Kd.at_int HR0.out x5_1 p128 q128
     cases e128
     replace p128 := eq_true p128
     replace q128 := eq_true q128
     go_wp2
     go_roundg k1
     case measure => have := HK1.out; omega
     case rel => exact ⟨(wrap64 (x5_1 + 1)), Xr, H', Xk1, by repeat (first | exact Drawn0.refl _ | apply Drawn0.step)⟩
   ·obtain rfl := Option.some.inj H
    go_wp2
    go_ret
    exact ⟨Xr, Xdr⟩

end Go.Proofs.Ythkbgbkglgmpoaa.XA
