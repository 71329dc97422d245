/- Words and contracts of this claim, put together out of several texts by a program of this session's. Conditions: each theorem's own premises. -/
import Derived.Test.YthkbgbkglgmpoaaZ1
import Derived.Test.YthkbgbkglgmpoaaZ3
import Derived.Test.YthkbgbkglgmpoaaZ6
import Derived.Test.YthkbgbkglgmpoaaZ4
import Derived.Test.YthkbgbkglgmpoaaZ8
import Derived.Test.YthkbgbkglgmpoaaZ7
namespace Go.Proofs.Ythkbgbkglgmpoaa.XA
open Go.RowKit Go.Proofs.YthkbgbkglgmpoaaW.PrintWords Go.Proofs.YthkbgbkglgmpoaaW.PrintLast Go.Proofs.YthkbgbkglgmpoaaW.PrintMore XW
attribute [local go_sem] max2_int min2_int max_two min_two max_three min_three max_four min_four   -- for this text's walks alone
set_option linter.unusedVariables false
set_option linter.unusedSimpArgs false
set_option maxHeartbeats 8000000
set_option maxRecDepth 100000
def impl_mayInsert.l0 : Nat → List (S78) → List Int → Int → Int → Int → Option (Bool)
 | 0, _, _, _, _, _ => none
 | k + 1, x0, x1, x2, x10, x11 => if x11 < x10 then ((slices_Clone_int.f x1).bind fun t424 => ((slices_Insert_int_int.f t424 x11 (([x2] : List Int))).bind fun t430 => ((impl_matches.f k x0 t430).bind fun t433 => (if t433 = true then (some true) else (impl_mayInsert.l0 k x0 x1 x2 x10 (wrap64 (x11 + 1))))))) else (some false)
def impl_mayInsert.f (k : Nat) (l0 : List (S78)) (l1 : List Int) (a2 : Int) : Option (Bool) := impl_mayInsert.l0 k l0 l1 a2 (wrap64 ((l1.length : Int) + 1)) 0
theorem impl_mayInsert.calls (k : Nat) (A0 : Option Addr) (c0 : Nat) (l0 : List (S78)) (A1 : Option Addr) (c1 : Nat) (l1 : List Int) (a2 : Int) (r : Bool) (w : World) (hr0 : Kd.C k78 w A0 l0.length l0) (hc0 : l0.length ≤ c0) (hr1 : Kd.C (Kd.int .i64) w A1 l1.length l1) (hc1 : l1.length ≤ c1) (h : impl_mayInsert.f k l0 l1 a2 = some r) :
  Calls Try.prog 81 #[.slice A0 l0.length c0, .slice A1 l1.length c1, .int .i64 a2] w fun e w' => e = .returned (.bool r) ∧ Below w.heap.size w w' := by
 have HR0 := Aside0.mk hr0
 have HC0 := Aside0.mk hc0
 clear hr0 hc0
 have HR1 := Aside0.mk hr1
 have HC1 := Aside0.mk hc1
 clear hr1 hc1
 have HB := Aside0.mk (Below.refl w.heap.size w)
 have H : (impl_mayInsert.l0 k l0 l1 a2 (wrap64 ((l1.length : Int) + 1)) 0) = some r := h
 clear h
 have H' := Aside0.mk H
 clear H
 go_enter Try.func81, Try.ntmps81
 go_wp2
 go_loopg [11] k (fun kq v11 w' => ∃ (x11_1 : Int), v11 = .int .i64 x11_1 ∧ Aside0 (impl_mayInsert.l0 kq l0 l1 a2 (wrap64 ((l1.length : Int) + 1)) x11_1 = some r) ∧ Aside0 (kq ≤ k) ∧ Aside0 (Below w.heap.size w w'))
 case atStart => exact ⟨(0), Xr, H', Xkr, ⟨Xi⟩⟩
 clear H'
 (try clear c1)
 obtain ⟨x11_1, rfl, HA, HK1, HB⟩ := hrel
 cases gk with | zero => cases HA.out | succ k1 => ?_
 have H := HA.out
 clear HA
 simp only [impl_mayInsert.l0] at H
 obtain ⟨c4b0, H⟩ | ⟨c4b0, H⟩ := Xit H
 ·obtain ⟨t424, A5, H⟩ := Xbi H
  (try dsimp only at H)
  obtain ⟨y427, hy427⟩ : ∃ y_ : List Int, y_ = (([a2] : List Int)) := ⟨_, rfl⟩
  replace H : ((slices_Insert_int_int.f t424 x11_1 y427).bind fun t430 => ((impl_matches.f k1 l0 t430).bind fun t433 => (if t433 = true then (some true) else (impl_mayInsert.l0 k1 l0 l1 a2 (wrap64 ((l1.length : Int) + 1)) (wrap64 (x11_1 + 1)))))) = some r := by first | (rw [hy427]; with_reducible exact H) | (have H2_ := (Option.bind_some _ _).symm.trans H; rw [hy427]; with_reducible exact H2_) | (have H2_ := (Option.bind_some _ _).symm.trans H; with_reducible exact H2_) | with_reducible exact H | (rw [hy427]; exact H) | exact H
  have Ny427 := Aside0.mk hy427
  clear hy427
  obtain ⟨t430, A6, H⟩ := Xbi H
  (try dsimp only at H)
  obtain ⟨t433, A7, H⟩ := Xbi H
  (try dsimp only at H)
  have HC8 := Aside0.mk H
  clear H
  go_upto_if 21 with (first | ((with_reducible refine gate_callee (f := 112) rfl ?_); refine Xgo 16 Try.func112 #[.slice A1 l1.length c1] ?_; (with_reducible refine (slices_Clone_int.calls _ _ l1 t424 _ ?side1 ?side2 A5.out).mono ?_); (case side1 => exact Xc HR1); (case side2 => exact HC1.out); rintro e w9 ⟨v425, rfl, ho0, hb⟩; refine ⟨_, rfl, ?_⟩; have HO426 := Aside0.mk (Kd.R_lower ho0 (below_size Xi)); replace HB := Aside0.mk (below_step Xi hb); clear hb; (try clear ho0)) | ((with_reducible refine gate_dst (N := 19) rfl ?_); refine Kd.R_lit (Kd.int .i64) _ 3 ?hg (N := 19) ?hd (xs := ([a2] : List Int)) (inner := [.int .i64 a2]) (ok := fun _ => True) (okp := fun _ => True) ?hr ?hp (fun _ hk => hk) trivial (Below.refl _ _) (Nat.le_refl _) (by simp) ?_; (case hd => rfl); (case hg => rfl); (case hr => first | (go_simp; done) | (go_simp; rfl)); (case hp => exact (Reps.one (show Kd.M (Kd.int .i64) _ _ _ a2 [.int .i64 a2] from rfl) (Reps.none _ _))); intro v428 w10 ho11 hb hg_ hnew_; clear hg_ hnew_; (first | rw [← Ny427.out] at ho11 | (simp only [Int.reduceToNat] at ho11; rw [← Ny427.out] at ho11)); have HO429 := Aside0.mk (Kd.R_lower (Kd.R_new' ho11 (Kd.R_lt (Xq HO426))) (below_size Xi)); replace HO426 := Aside0.mk (Kd.R_elder' (Xq HO426) (Kd.R_base ho11) hb); replace HB := Aside0.mk (below_step Xi hb); clear hb ho11; obtain ⟨Ao12, co12, eo12⟩ := Kd.R_slice HO426.out; subst eo12; obtain ⟨Ao13, co13, eo13⟩ := Kd.R_slice HO429.out; subst eo13) | ((with_reducible refine gate_callee (f := 125) rfl ?_); refine Xgo 20 Try.func125 #[.slice Ao12 t424.length co12, .int .i64 x11_1, .slice Ao13 y427.length co13] ?_; (with_reducible refine (slices_Insert_int_int.calls (fun k_ => some k_ = (.slice Ao12 t424.length co12 : Value).ownBlock) (.slice Ao12 t424.length co12) t424 x11_1 (fun k_ => some k_ = (.slice Ao13 y427.length co13 : Value).ownBlock) (.slice Ao13 y427.length co13) y427 t430 w _ ?side1 ?side2 ?side3 ?side4 ?side5 A6.out).mono ?_); (case side1 => exact Xi); (case side2 => exact Kd.R_tight rfl HO426.out); (case side3 => exact fun k_ e_ => (HO426.out.1 k_ e_.symm).2); (case side4 => exact Kd.R_tight rfl HO429.out); (case side5 => exact fun k_ e_ => (HO429.out.1 k_ e_.symm).2); rintro e w14 ⟨v431, rfl, ho0, hb, hkp⟩; refine ⟨_, rfl, ?_⟩; have HO432 := Aside0.mk (Kd.R_mono (ok' := fun k_ => True) ho0 (fun k_ hk_ => trivial)); replace HB := Aside0.mk (hb); clear HO426; clear HO429; (try clear hb); (try clear hkp); (try clear ho0); obtain ⟨Ao15, co15, eo15⟩ := Kd.R_slice HO432.out; subst eo15) | ((with_reducible refine gate_callee (f := 124) rfl ?_); refine Xgo 21 Try.func124 #[.slice A0 l0.length c0, .slice Ao15 t430.length co15] ?_; (with_reducible refine (impl_matches.calls k1 _ _ l0 _ _ t430 t433 _ ?side1 ?side2 ?side3 ?side4 A7.out).mono ?_); (case side1 => exact Xc HR0); (case side2 => exact HC0.out); (case side3 => repeat (first | exact (Kd.R_reads' HO432.out).2.2 | (with_reducible first | refine Kd.C_alloc ?_ _ | refine Kd.C_drewN ?_ _ | refine Kd.C_drew ?_))); (case side4 => exact (Kd.R_reads' HO432.out).2.1); rintro e w16 ⟨rfl, hb⟩; refine ⟨_, rfl, ?_⟩; replace HO432 := Aside0.mk (Kd.R_below (Xq HO432) hb); replace HB := Aside0.mk (below_step Xi hb); clear hb))
  have H := HC8.out
  clear HC8
  by_cases c17 : t433 = true
  ·subst c17
   (first | rw [if_pos rfl] at H | skip)
   obtain rfl := Option.some.inj H
   go_wp2
   go_ret
   exact ⟨Xe, Xi⟩
  replace c17 := Bool.eq_false_iff.mpr c17
  subst c17
  (first | rw [if_neg (show ¬ (false = true) by decide)] at H | skip)
  have H' := Aside0.mk H
  clear H
  go_wp2
  go_roundg k1
  case measure => have := HK1.out; omega
  case rel => exact ⟨(wrap64 (x11_1 + 1)), Xr, H', Xk1, ⟨Xi⟩⟩
 obtain rfl := Option.some.inj H
 go_wp2
 go_ret
 exact ⟨Xe, Xi⟩
def impl_Doc_kindsOf.l0 : Nat → List Int → List Int → Int → Int → Int → Int → List (S103) → Option (List Int)
 | 0, _, _, _, _, _, _, _ => none
 | k + 1, x5, x13, x14, x15, x1000, x1001, x1002 => if x15 < x14 then (if 0 ≤ x15 then (if x15 < (x13.length : Int) then ((impl_Doc_find.f k x1000 x1001 x1002 (rd x13 x15)).bind fun t437 => (if t437 < 0 then (none) else (if 0 ≤ t437 then (if t437 < (x1002.length : Int) then (if x5.length < 17592186044416 then (impl_Doc_kindsOf.l0 k (x5 ++ [(rd_T103 x1002 t437).f1]) x13 x14 (wrap64 (x15 + 1)) x1000 x1001 x1002) else (none)) else (none)) else (none)))) else (none)) else (none)) else (some x5)
def impl_Doc_kindsOf.f (k : Nat) (a0_0 : Int) (a0_1 : Int) (l0_2 : List (S103)) (a1 : Int) : Option (List Int) := (impl_Doc_find.f k a0_0 a0_1 l0_2 a1).bind fun t434 => (if t434 < 0 then (none) else (if 0 ≤ t434 then (if t434 < (l0_2.length : Int) then (impl_Doc_kindsOf.l0 k ([] : List Int) ((rd_T103 l0_2 t434).f4) (((rd_T103 l0_2 t434).f4).length : Int) 0 a0_0 a0_1 l0_2) else (none)) else (none)))
theorem impl_Doc_kindsOf.calls (k : Nat) (g0_ : Nat) (a0_0 : Int) (a0_1 : Int) (A0_2 : Option Addr) (c0_2 : Nat) (l0_2 : List (S103)) (a1 : Int) (r : List Int) (w : World) (hg0_ : w.heap[g0_]? = some (.cells #[.int .i64 a0_0, .int .i64 a0_1, .slice A0_2 l0_2.length c0_2] 65 (0, 0))) (hr0_2 : Kd.C k103 w A0_2 l0_2.length l0_2) (hc0_2 : l0_2.length ≤ c0_2) (h : impl_Doc_kindsOf.f k a0_0 a0_1 l0_2 a1 = some r) :
  Calls Try.prog 82 #[.pointer (some ⟨g0_, 0, none⟩), .int .i64 a1] w fun e w' => ∃ v0_ : Value, e = .returned (v0_) ∧ Kd.R (Kd.int .i64) 3 w' w.heap.size (fun _ => True) v0_ r ∧ Below w.heap.size w w' := by
 have HR0_2 := Aside0.mk hr0_2
 have HC0_2 := Aside0.mk hc0_2
 clear hr0_2 hc0_2
 have BK0 := Aside0.mk hg0_
 clear hg0_
 have HB := Aside0.mk (Below.refl w.heap.size w)
 have H : ((impl_Doc_find.f k a0_0 a0_1 l0_2 a1).bind fun t434 => (if t434 < 0 then (none) else (if 0 ≤ t434 then (if t434 < (l0_2.length : Int) then (impl_Doc_kindsOf.l0 k ([] : List Int) ((rd_T103 l0_2 t434).f4) (((rd_T103 l0_2 t434).f4).length : Int) 0 a0_0 a0_1 l0_2) else (none)) else (none)))) = some r := h
 clear h
 obtain ⟨t434, A3, H⟩ := Xbi H
 (try dsimp only at H)
 obtain ⟨c4b0, H⟩ | ⟨c4b0, H⟩ := Xit H
 ·exact absurd H (by simp)
 obtain ⟨c5, H⟩ | ⟨c5, H⟩ := Xiu H
 ·have c5b0 : decide (0 ≤ t434) = true := decide_eq_true c5
  clear c5
  obtain ⟨c6b0, H⟩ := Xid H
  have H' := Aside0.mk H
  clear H
  go_enter Try.func82, Try.ntmps82
  go_wp2_with (first | ((with_reducible refine gate_callee (f := 80) rfl ?_); refine Xgo 10 Try.func80 #[.pointer (some ⟨g0_, 0, none⟩), .int .i64 a1] ?_; (with_reducible refine (impl_Doc_find.calls k g0_ a0_0 a0_1 A0_2 c0_2 l0_2 a1 t434 _ ?side1 ?side2 ?side3 A3.out).mono ?_); (case side1 => exact (Xq' BK0)); (case side2 => repeat (first | exact HR0_2.out | (with_reducible first | refine Kd.C_alloc ?_ _ | refine Kd.C_drewN ?_ _ | refine Kd.C_drew ?_))); (case side3 => exact HC0_2.out); rintro e w7 ⟨pF, rfl, hpn, hps, hb⟩; refine ⟨_, rfl, ?_⟩; obtain ⟨adf8, hae, rfl⟩ := hps (Int.not_lt.mp (of_decide_eq_false Xa)); clear hpn; cases hae; replace BK0 := Xbb BK0 hb; replace HB := Aside0.mk (below_step Xi hb); clear hb; have p435 : 0 ≤ (t434 : Int) := of_decide_eq_true Xa; have q435 : t434 < (l0_2.length : Int) := of_decide_eq_true Xa; obtain ⟨ad435, A435_4, c435_4, e435, hx435_0, hx435_1, hx435_2, hx435_3, hx435_4, hl435_4, hi435_4⟩ := at_T103 HR0_2.out t434 p435 q435; obtain rfl : adf8 = ad435 := (by injection e435); replace hx435_0 := Xm HB hx435_0; replace hx435_1 := Xm HB hx435_1; replace hx435_2 := Xm HB hx435_2; replace hx435_3 := Xm HB hx435_3; replace hx435_4 := Xm HB hx435_4; have HR435_4 := Aside0.mk hi435_4; have HC435_4 := Aside0.mk hl435_4; clear hi435_4 hl435_4; replace p435 := eq_true p435; replace q435 := eq_true q435))
  go_loopg [5, 15] k (fun kq v5 v15 w' => ∃ (x5_1 : List Int) (x15_1 : Int), v15 = .int .i64 x15_1 ∧ Aside0 (impl_Doc_kindsOf.l0 kq x5_1 ((rd_T103 l0_2 t434).f4) (((rd_T103 l0_2 t434).f4).length : Int) x15_1 a0_0 a0_1 l0_2 = some r) ∧ Aside0 (kq ≤ k) ∧ Aside0 (Kd.R (Kd.int .i64) 3 w' w.heap.size (fun _ => True) v5 x5_1) ∧ Aside0 (w'.heap[g0_]? = some (.cells #[.int .i64 a0_0, .int .i64 a0_1, (.slice (some adf8) l0_2.length c0_2)] 65 (0, 0))) ∧ Aside0 (Below w.heap.size w w'))
  case atStart => exact ⟨(([] : List Int)), (0), Xr, H', Xkr, ⟨by first | exact Kd.R_nil _ _ _ _ _ | exact Kd.N_nil _ _ _ _ _ | exact Kd.V_nil _ _ _ _ _ | exact Kd.Q_nil _ _ _ _ _ | exact Kd.S_nil _ _ _ _ _⟩, (Xp BK0), ⟨Xi⟩⟩
  clear H'
  (try clear c4); (try clear c4b0); (try clear c5); (try clear c5b0); (try clear c6); (try clear c6b0); (try clear hx435_0); (try clear hx435_1); (try clear hx435_2); (try clear hx435_3); (try clear hx435_4); (try clear p435); (try clear q435)
  obtain ⟨x5_1, x15_1, rfl, HA, HK1, HO_5, BK0, HB⟩ := hrel
  cases gk with | zero => cases HA.out | succ k1 => ?_
  have H := HA.out
  clear HA
  simp only [impl_Doc_kindsOf.l0] at H
  obtain ⟨c9b0, H⟩ | ⟨c9b0, H⟩ := Xit H
  ·obtain ⟨c10b0, H⟩ := Xid H
   obtain ⟨c11b0, H⟩ := Xid H
   obtain ⟨t437, A12, H⟩ := Xbi H
   (try dsimp only at H)
   obtain ⟨c13b0, H⟩ | ⟨c13b0, H⟩ := Xit H
   ·exact absurd H (by simp)
   obtain ⟨c14b0, H⟩ := Xid H
   obtain ⟨c15b0, H⟩ := Xid H
   obtain ⟨c16, H⟩ := Xif H
   have LMc16 := Aside0.mk c16
   clear c16
   obtain ⟨y439, hy439⟩ : ∃ y_ : List Int, y_ = (x5_1 ++ [(rd_T103 l0_2 t437).f1]) := ⟨_, rfl⟩
   replace H : (impl_Doc_kindsOf.l0 k1 y439 ((rd_T103 l0_2 t434).f4) (((rd_T103 l0_2 t434).f4).length : Int) (wrap64 (x15_1 + 1)) a0_0 a0_1 l0_2) = some r := by first | (rw [hy439]; with_reducible exact H) | (have H2_ := (Option.bind_some _ _).symm.trans H; rw [hy439]; with_reducible exact H2_) | (have H2_ := (Option.bind_some _ _).symm.trans H; with_reducible exact H2_) | with_reducible exact H | (rw [hy439]; exact H) | exact H
   have Ny439 := Aside0.mk hy439
   clear hy439
   have H' := Aside0.mk H
   clear H
   have p436 : 0 ≤ (x15_1 : Int) := of_decide_eq_true Xa
   have q436 : x15_1 < (((rd_T103 l0_2 t434).f4).length : Int) := of_decide_eq_true Xa
   obtain ⟨ad436, e436, hx436_0⟩ := Kd.at_int HR435_4.out x15_1 p436 q436
   cases e436
   replace hx436_0 := Xm HB hx436_0
   replace p436 := eq_true p436
   replace q436 := eq_true q436
   go_wp2_with (first | ((with_reducible refine gate_callee (f := 80) rfl ?_); refine Xgo 22 Try.func80 #[.pointer (some ⟨g0_, 0, none⟩), .int .i64 (rd ((rd_T103 l0_2 t434).f4) x15_1)] ?_; (with_reducible refine (impl_Doc_find.calls k1 g0_ a0_0 a0_1 (some adf8) c0_2 l0_2 (rd ((rd_T103 l0_2 t434).f4) x15_1) t437 _ ?side1 ?side2 ?side3 A12.out).mono ?_); (case side1 => exact (Xq' BK0)); (case side2 => exact Xc HR0_2); (case side3 => exact HC0_2.out); rintro e w17 ⟨pF, rfl, hpn, hps, hb⟩; refine ⟨_, rfl, ?_⟩; obtain ⟨adf18, hae, rfl⟩ := hps (Int.not_lt.mp (of_decide_eq_false Xa)); clear hpn; obtain rfl : adf8 = adf18 := (by injection hae); replace HO_5 := Aside0.mk (Kd.R_below (Xq HO_5) hb); replace BK0 := Xbb BK0 hb; replace HB := Aside0.mk (below_step Xi hb); clear hb; have p438 : 0 ≤ (t437 : Int) := of_decide_eq_true Xa; have q438 : t437 < (l0_2.length : Int) := of_decide_eq_true Xa; obtain ⟨ad438, A438_4, c438_4, e438, hx438_0, hx438_1, hx438_2, hx438_3, hx438_4, hl438_4, hi438_4⟩ := at_T103 HR0_2.out t437 p438 q438; obtain rfl : adf8 = ad438 := (by injection e438); replace hx438_0 := Xm HB hx438_0; replace hx438_1 := Xm HB hx438_1; replace hx438_2 := Xm HB hx438_2; replace hx438_3 := Xm HB hx438_3; replace hx438_4 := Xm HB hx438_4; have HR438_4 := Aside0.mk hi438_4; have HC438_4 := Aside0.mk hl438_4; clear hi438_4 hl438_4; replace p438 := eq_true p438; replace q438 := eq_true q438) | ((with_reducible refine gate_builtin (b := .append) (xs := #[.tmp 19, .tmp 26]) rfl ?_); at_builtin; refine Kd.R_append (Kd.int .i64) (w0 := w) w.heap.size rfl (.tmp 19) (.tmp 26) 39 3 (.int .i64 0) 8 rfl Try.underlying39 info3 rfl (by decide) (by omega) u5 x5_1 ((rd_T103 l0_2 t437).f1) [.int .i64 ((rd_T103 l0_2 t437).f1)] (fun _ => True) (fun _ => False) rfl rfl ?aP (fun _ hk => hk.elim) ?aF ?aO ?aB ?aS ?aL ?_; (case aP => exact rfl); (case aB => exact Xi); (case aF => exact (fun _ _ => trivial)); (case aO => exact (Xq HO_5)); (case aS => exact (below_size Xi)); (case aL => have := LMc16.out; omega); intro v440 w19 ho hb hg hat; rw [← Ny439.out] at ho; replace BK0 := Aside0.mk (blk_grown (g := g0_) (o := .cells #[.int .i64 a0_0, .int .i64 a0_1, .slice (some adf8) l0_2.length c0_2] 65 (0, 0)) (Xq' BK0) hg (Kd.R_ne HO_5.out BK0.out (by decide))); replace HB := Aside0.mk (hb); have HO441 := Aside0.mk (ho); clear HO_5; clear ho hb hg hat))
   go_roundg k1
   case measure => have := HK1.out; omega
   case rel => exact ⟨(y439), (wrap64 (x15_1 + 1)), Xr, H', Xk1, (Xp' HO441), (Xp BK0), ⟨Xi⟩⟩
  obtain rfl := Option.some.inj H
  go_wp2
  go_ret
  exact ⟨_, Xe, Xq HO_5, Xi⟩
 exact absurd H (by simp)
def impl_MayInsert.l0 : Nat → List (S97) → Int → List Int → Int → Int → Int → List (S103) → ByteArray → Bool → List (S78) → Option (List Int × Int)
 | 0, _, _, _, _, _, _, _, _, _, _ => none
 | k + 1, x0, x2, x11, x12, x443000, x443001, x443002, x451000, x451001, x451002 => if x12 ≤ (x0.length : Int) then ((impl_Doc_kindsOf.f k x443000 x443001 x443002 x2).bind fun t452 => ((impl_mayInsert.f k x451002 t452 x12).bind fun t455 => (if t455 = true then (if x11.length < 17592186044416 then (impl_MayInsert.l0 k x0 x2 (x11 ++ [x12]) (wrap64 (x12 + 1)) x443000 x443001 x443002 x451000 x451001 x451002) else (none)) else (impl_MayInsert.l0 k x0 x2 x11 (wrap64 (x12 + 1)) x443000 x443001 x443002 x451000 x451001 x451002)))) else (some (x11, 0))
def impl_MayInsert.f (k : Nat) (l0 : List (S97)) (a1_0 : Int) (a1_1 : Int) (l1_2 : List (S103)) (a2 : Int) : Option (List Int × Int) := (impl_isLongList_impl_Rule.f l0).bind fun t443 => (if t443 = true then (some (([] : List Int), 2)) else ((impl_SchemaOK.f k l0).bind fun t444 => (if t444 = true then ((impl_nodeCode.f k a1_0 a1_1 l1_2 a2).bind fun t445 => (if t445 = 0 then ((impl_Doc_find.f k a1_0 a1_1 l1_2 a2).bind fun t446 => (if t446 < 0 then (none) else (if 0 ≤ t446 then (if t446 < (l1_2.length : Int) then (if ((rd_T103 l1_2 t446).f1) > (l0.length : Int) then (some (([] : List Int), 10)) else (if 0 ≤ (wrap64 (((rd_T103 l1_2 t446).f1) - 1)) then (if (wrap64 (((rd_T103 l1_2 t446).f1) - 1)) < (l0.length : Int) then (if (rd_T97 l0 (wrap64 (((rd_T103 l1_2 t446).f1) - 1))).f1 = true then (some (([] : List Int), 0)) else (if (((rd_T103 l1_2 t446).f4).length : Int) = 12 then (some (([] : List Int), 0)) else (impl_MayInsert.l0 k l0 a2 ([] : List Int) 1 a1_0 a1_1 l1_2 ((rd_T97 l0 (wrap64 (((rd_T103 l1_2 t446).f1) - 1))).f0) ((rd_T97 l0 (wrap64 (((rd_T103 l1_2 t446).f1) - 1))).f1) ((rd_T97 l0 (wrap64 (((rd_T103 l1_2 t446).f1) - 1))).f2)))) else (none)) else (none))) else (none)) else (none)))) else (some (([] : List Int), t445)))) else (some (([] : List Int), 1)))))
theorem impl_MayInsert.calls (k : Nat) (A0 : Option Addr) (c0 : Nat) (l0 : List (S97)) (a1_0 : Int) (a1_1 : Int) (A1_2 : Option Addr) (c1_2 : Nat) (l1_2 : List (S103)) (a2 : Int) (r1 : List Int) (r2 : Int) (w : World) (hr0 : Kd.C k97 w A0 l0.length l0) (hc0 : l0.length ≤ c0) (hr1_2 : Kd.C k103 w A1_2 l1_2.length l1_2) (hc1_2 : l1_2.length ≤ c1_2) (h : impl_MayInsert.f k l0 a1_0 a1_1 l1_2 a2 = some (r1, r2)) :
  Calls Try.prog 36 #[.slice A0 l0.length c0, .agg #[.int .i64 a1_0, .int .i64 a1_1, .slice A1_2 l1_2.length c1_2], .int .i64 a2] w fun e w' => ∃ v0_ : Value, e = .returned (.tuple #[v0_, .int .i64 r2]) ∧ Kd.R (Kd.int .i64) 3 w' w.heap.size (fun _ => True) v0_ r1 ∧ Below w.heap.size w w' := by
 have hu65 := Try.underlying65
 have hu97 := Try.underlying97
 have HR0 := Aside0.mk hr0
 have HC0 := Aside0.mk hc0
 clear hr0 hc0
 have HR1_2 := Aside0.mk hr1_2
 have HC1_2 := Aside0.mk hc1_2
 clear hr1_2 hc1_2
 have HB := Aside0.mk (Below.refl w.heap.size w)
 have H : ((impl_isLongList_impl_Rule.f l0).bind fun t443 => (if t443 = true then (some (([] : List Int), 2)) else ((impl_SchemaOK.f k l0).bind fun t444 => (if t444 = true then ((impl_nodeCode.f k a1_0 a1_1 l1_2 a2).bind fun t445 => (if t445 = 0 then ((impl_Doc_find.f k a1_0 a1_1 l1_2 a2).bind fun t446 => (if t446 < 0 then (none) else (if 0 ≤ t446 then (if t446 < (l1_2.length : Int) then (if ((rd_T103 l1_2 t446).f1) > (l0.length : Int) then (some (([] : List Int), 10)) else (if 0 ≤ (wrap64 (((rd_T103 l1_2 t446).f1) - 1)) then (if (wrap64 (((rd_T103 l1_2 t446).f1) - 1)) < (l0.length : Int) then (if (rd_T97 l0 (wrap64 (((rd_T103 l1_2 t446).f1) - 1))).f1 = true then (some (([] : List Int), 0)) else (if (((rd_T103 l1_2 t446).f4).length : Int) = 12 then (some (([] : List Int), 0)) else (impl_MayInsert.l0 k l0 a2 ([] : List Int) 1 a1_0 a1_1 l1_2 ((rd_T97 l0 (wrap64 (((rd_T103 l1_2 t446).f1) - 1))).f0) ((rd_T97 l0 (wrap64 (((rd_T103 l1_2 t446).f1) - 1))).f1) ((rd_T97 l0 (wrap64 (((rd_T103 l1_2 t446).f1) - 1))).f2)))) else (none)) else (none))) else (none)) else (none)))) else (some (([] : List Int), t445)))) else (some (([] : List Int), 1)))))) = some (r1, r2) := h
 clear h
 obtain ⟨t443, A4, H⟩ := Xbi H
 (try dsimp only at H)
 have HC5 := Aside0.mk H
 clear H
 go_enter Try.func36, Try.ntmps36
 go_upto_if 13 with (first | ((with_reducible refine gate_dst (N := 4) rfl ?_); (try (refine gate_guard (by rfl) ?_; dsimp only)); refine Xbox 4 #[.int .i64 a1_0, .int .i64 a1_1, .slice A1_2 l1_2.length c1_2] 65 ?_; intro gb442 hg w6 hbox hb; have BK442 := Aside0.mk (hbox); have GE442 := Xge hg Xi; replace HB := Aside0.mk (below_step Xi hb); clear hb hbox hg) | ((with_reducible refine gate_callee (f := 68) rfl ?_); refine Xgo 15 Try.func68 #[.slice A0 l0.length c0] ?_; (with_reducible refine (impl_isLongList_impl_Rule.calls _ _ l0 t443 _ ?side1 ?side2 A4.out).mono ?_); (case side1 => exact Xc HR0); (case side2 => exact HC0.out); rintro e w' ⟨rfl, ⟨nd, rfl⟩⟩; refine ⟨_, rfl, ?_⟩))
 (try (rw [drewN_self w6]; generalize hq_ : World.drewN w6 _ = w6; have n0_ : Aside0 (w6.heap[gb442]? = some (.cells #[.int .i64 a1_0, .int .i64 a1_1, .slice A1_2 l1_2.length c1_2] 65 (0, 0))) := ⟨by rw [← hq_]; exact (Xq' BK442)⟩; have n1_ : Aside0 (Below w.heap.size w w6) := ⟨by rw [← hq_]; exact Xi⟩; clear BK442 HB hq_; have BK442 := n0_; have HB := n1_; clear n0_ n1_))
 have H := HC5.out
 clear HC5
 by_cases c7 : t443 = true
 ·subst c7
  (first | rw [if_pos rfl] at H | skip)
  simp only [Option.some.injEq, Prod.mk.injEq] at H
  obtain ⟨rfl, rfl⟩ := H
  go_wp2
  go_ret2
  exact ⟨_, Xe, by first | exact Kd.R_nil _ _ _ _ _ | exact Kd.N_nil _ _ _ _ _ | exact Kd.V_nil _ _ _ _ _ | exact Kd.Q_nil _ _ _ _ _ | exact Kd.S_nil _ _ _ _ _, Xi⟩
 replace c7 := Bool.eq_false_iff.mpr c7
 subst c7
 (first | rw [if_neg (show ¬ (false = true) by decide)] at H | skip)
 obtain ⟨t444, A8, H⟩ := Xbi H
 (try dsimp only at H)
 have HC9 := Aside0.mk H
 clear H
 go_upto_if 16 with (first | ((with_reducible refine gate_callee (f := 69) rfl ?_); refine Xgo 18 Try.func69 #[.slice A0 l0.length c0] ?_; (with_reducible refine (impl_SchemaOK.calls k _ _ l0 t444 _ ?side1 ?side2 A8.out).mono ?_); (case side1 => exact Xc HR0); (case side2 => exact HC0.out); rintro e w10 ⟨rfl, hb⟩; refine ⟨_, rfl, ?_⟩; replace BK442 := Xbb BK442 hb; replace HB := Aside0.mk (below_step Xi hb); clear hb))
 have H := HC9.out
 clear HC9
 by_cases c11 : t444 = true
 ·subst c11
  (first | rw [if_pos rfl] at H | skip)
  obtain ⟨t445, A12, H⟩ := Xbi H
  (try dsimp only at H)
  have HC13 := Aside0.mk H
  clear H
  obtain ⟨hcz14_0, hcz14_1, hcz14_2⟩ := Xc3 BK442
  obtain ⟨hfz14_0, hfz14_1, hfz14_2⟩ := Xf3 BK442
  go_upto_if 24 with (first | ((with_reducible refine gate_callee (f := 79) rfl ?_); refine Xgo 22 Try.func79 #[.agg #[.int .i64 a1_0, .int .i64 a1_1, .slice A1_2 l1_2.length c1_2], .int .i64 a2] ?_; (with_reducible refine (impl_nodeCode.calls k a1_0 a1_1 _ _ l1_2 a2 t445 _ ?side1 ?side2 A12.out).mono ?_); (case side1 => exact Xc HR1_2); (case side2 => exact HC1_2.out); rintro e w15 ⟨rfl, hb⟩; refine ⟨_, rfl, ?_⟩; replace BK442 := Xbb BK442 hb; replace HB := Aside0.mk (below_step Xi hb); clear hb))
  have H := HC13.out
  clear HC13
  obtain ⟨c16, H⟩ | ⟨c16, H⟩ := Xiu H
  ·have c16b0 : (t445 == 0) = true := beq_iff_eq.mpr c16
   have c16b1 : (t445 != 0) = false := bne_eq_false_iff_eq.mpr c16
   clear c16
   (first | rw [c16b0] | (simp only [i64_w, i32_w]; rw [c16b0]) | skip)
   obtain ⟨t446, A17, H⟩ := Xbi H
   (try dsimp only at H)
   obtain ⟨c18b0, H⟩ | ⟨c18b0, H⟩ := Xit H
   ·exact absurd H (by simp)
   obtain ⟨c19b0, H⟩ := Xid H
   obtain ⟨c20b0, H⟩ := Xid H
   have HC21 := Aside0.mk H
   clear H
   go_upto_if 34 with (first | ((with_reducible refine gate_callee (f := 80) rfl ?_); refine Xgo 27 Try.func80 #[.pointer (some ⟨gb442, 0, none⟩), .int .i64 a2] ?_; (with_reducible refine (impl_Doc_find.calls k gb442 a1_0 a1_1 A1_2 c1_2 l1_2 a2 t446 _ ?side1 ?side2 ?side3 A17.out).mono ?_); (case side1 => exact (Xq' BK442)); (case side2 => exact Xc HR1_2); (case side3 => exact HC1_2.out); rintro e w22 ⟨pF, rfl, hpn, hps, hb⟩; refine ⟨_, rfl, ?_⟩; obtain ⟨adf23, hae, rfl⟩ := hps (Int.not_lt.mp (of_decide_eq_false Xa)); clear hpn; cases hae; replace BK442 := Xbb BK442 hb; replace HB := Aside0.mk (below_step Xi hb); clear hb; have p447 : 0 ≤ (t446 : Int) := of_decide_eq_true Xa; have q447 : t446 < (l1_2.length : Int) := of_decide_eq_true Xa; obtain ⟨ad447, A447_4, c447_4, e447, hx447_0, hx447_1, hx447_2, hx447_3, hx447_4, hl447_4, hi447_4⟩ := at_T103 HR1_2.out t446 p447 q447; obtain rfl : adf23 = ad447 := (by injection e447); replace hx447_0 := Xm HB hx447_0; replace hx447_1 := Xm HB hx447_1; replace hx447_2 := Xm HB hx447_2; replace hx447_3 := Xm HB hx447_3; replace hx447_4 := Xm HB hx447_4; have HR447_4 := Aside0.mk hi447_4; have HC447_4 := Aside0.mk hl447_4; clear hi447_4 hl447_4; replace p447 := eq_true p447; replace q447 := eq_true q447))
   have H := HC21.out
   clear HC21
   obtain ⟨c24, H⟩ | ⟨c24, H⟩ := Xiu H
   ·have c24b0 : decide ((l0.length : Int) < ((rd_T103 l1_2 t446).f1)) = true := decide_eq_true c24
    clear c24
    (first | rw [c24b0] | (simp only [i64_w, i32_w]; rw [c24b0]) | skip)
    simp only [Option.some.injEq, Prod.mk.injEq] at H
    obtain ⟨rfl, rfl⟩ := H
    go_wp2
    go_ret2
    exact ⟨_, Xe, by first | exact Kd.R_nil _ _ _ _ _ | exact Kd.N_nil _ _ _ _ _ | exact Kd.V_nil _ _ _ _ _ | exact Kd.Q_nil _ _ _ _ _ | exact Kd.S_nil _ _ _ _ _, Xi⟩
   have c24b0 : decide ((l0.length : Int) < ((rd_T103 l1_2 t446).f1)) = false := decide_eq_false c24
   clear c24
   (first | rw [c24b0] | (simp only [i64_w, i32_w]; rw [c24b0]) | skip)
   obtain ⟨ji25, hji25⟩ : ∃ j_ : Int, (wrap64 (((rd_T103 l1_2 t446).f1) - 1)) = j_ := ⟨_, rfl⟩
   replace H : (if 0 ≤ (ji25) then (if (ji25) < (l0.length : Int) then (if (rd_T97 l0 (ji25)).f1 = true then (some (([] : List Int), 0)) else (if (((rd_T103 l1_2 t446).f4).length : Int) = 12 then (some (([] : List Int), 0)) else (impl_MayInsert.l0 k l0 a2 ([] : List Int) 1 a1_0 a1_1 l1_2 ((rd_T97 l0 (ji25)).f0) ((rd_T97 l0 (ji25)).f1) ((rd_T97 l0 (ji25)).f2)))) else (none)) else (none)) = some (r1, r2) := by first | (rw [hji25] at H; exact H) | (simp only [hji25] at H ⊢; exact H)
   have hji25w : (IntKind.i64.wrap (((rd_T103 l1_2 t446).f1) - 1)) = ji25 := (i64_w _).trans hji25
   obtain ⟨c26b0, H⟩ := Xid H
   obtain ⟨c27b0, H⟩ := Xid H
   have HC28 := Aside0.mk H
   clear H
   obtain ⟨ad448, A448_4, c448_4, e448, p448, q448, hx448_0, hx448_1, hx448_2, hx448_3, hx448_4, HC448_4, HR448_4⟩ := at_B103 HR1_2 t446 Xa Xa HB
   obtain rfl : adf23 = ad448 := (by injection e448)
   obtain ⟨ad449, A449_2, c449_2, e449, p449, q449, hx449_0, hx449_1, hx449_2, HC449_2, HR449_2⟩ := at_B97 HR0 (ji25) Xa Xa HB
   cases e449
   go_upto_region 12 with (first | ((with_reducible refine gate_dst (N := 10) rfl ?_); (try (refine gate_guard (by rfl) ?_; dsimp only)); refine Xbox 10 #[.string (⟨#[]⟩ : ByteArray), .bool false, .slice none 0 0] 97 ?_; intro gb450 hg w29 hbox hb; have BK450 := Aside0.mk (hbox); have GE450 := Xge hg Xi; replace HB := Aside0.mk (below_step Xi hb); have NB442_450 := Xnb hg BK442; have NB450_442 := Xns NB442_450; replace BK442 := Xbb BK442 hb; clear hb hbox hg; have hnb30 := NB450_442.out; have hnc30 := NB442_450.out; obtain ⟨hcz31_0, hcz31_1, hcz31_2⟩ := Xc3 BK450; obtain ⟨hfz31_0, hfz31_1, hfz31_2⟩ := Xf3 BK450) | ((with_reducible refine gate_store (t := 97) (p := 10) rfl ?_); refine store_event (t := 97) (p := 10) (v := ?vo_w32) (w1 := (((w29.setCell ⟨gb450, 0, none⟩ (.string ((rd_T97 l0 (ji25)).f0))).setCell ⟨gb450, 1, none⟩ (.bool ((rd_T97 l0 (ji25)).f1))).setCell ⟨gb450, 2, none⟩ (.slice A449_2 ((rd_T97 l0 (ji25)).f2).length c449_2))) ?hg ?ho ?hn ?hr ?_; (case ho => rfl); (case hg => rfl); (case hn => rfl); (case hr => first | (go_simp; done) | (go_simp; rfl)); intro w32 hw; have n0_ : Aside0 (w32.heap[gb442]? = some (.cells #[.int .i64 a1_0, .int .i64 a1_1, .slice (some adf23) l1_2.length c1_2] 65 (0, 0))) := ⟨(by rw [hw]; exact (by (with_reducible repeat (first | refine blk_drewN ?_ _ | refine blk_drew ?_ | refine blk_alloc ?_ _)); refine blk_far ?_ NB442_450.out _; (with_reducible repeat (first | refine blk_drewN ?_ _ | refine blk_drew ?_ | refine blk_alloc ?_ _)); refine blk_far ?_ NB442_450.out _; (with_reducible repeat (first | refine blk_drewN ?_ _ | refine blk_drew ?_ | refine blk_alloc ?_ _)); refine blk_far ?_ NB442_450.out _; (with_reducible repeat (first | refine blk_drewN ?_ _ | refine blk_drew ?_ | refine blk_alloc ?_ _)); exact BK442.out))⟩; have n1_ : Aside0 (w32.heap[gb450]? = some (.cells #[.string ((rd_T97 l0 (ji25)).f0), .bool ((rd_T97 l0 (ji25)).f1), .slice A449_2 ((rd_T97 l0 (ji25)).f2).length c449_2] 97 (0, 0))) := ⟨(by rw [hw]; exact (by (with_reducible repeat (first | refine blk_drewN ?_ _ | refine blk_drew ?_ | refine blk_alloc ?_ _)); refine blk_put (cs := #[.string ((rd_T97 l0 (ji25)).f0), .bool ((rd_T97 l0 (ji25)).f1), .slice none 0 0]) ?_ 2 _ rfl; (with_reducible repeat (first | refine blk_drewN ?_ _ | refine blk_drew ?_ | refine blk_alloc ?_ _)); refine blk_put (cs := #[.string ((rd_T97 l0 (ji25)).f0), .bool false, .slice none 0 0]) ?_ 1 _ rfl; (with_reducible repeat (first | refine blk_drewN ?_ _ | refine blk_drew ?_ | refine blk_alloc ?_ _)); refine blk_put (cs := #[.string (⟨#[]⟩ : ByteArray), .bool false, .slice none 0 0]) ?_ 0 _ rfl; (with_reducible repeat (first | refine blk_drewN ?_ _ | refine blk_drew ?_ | refine blk_alloc ?_ _)); exact BK450.out))⟩; have n2_ : Aside0 (Below w.heap.size w w32) := ⟨(by rw [hw]; exact Xi)⟩; clear hw; clear BK442; clear BK450; clear HB; have BK442 := n0_; have BK450 := n1_; have HB := n2_; clear n0_ n1_ n2_))
   have H := HC28.out
   clear HC28
   obtain ⟨bq33, hbq33⟩ : ∃ b_ : Bool, b_ = ((rd_T97 l0 (ji25)).f1) := ⟨_, rfl⟩
   replace H : (if bq33 = true then (some (([] : List Int), 0)) else (if (((rd_T103 l1_2 t446).f4).length : Int) = 12 then (some (([] : List Int), 0)) else (impl_MayInsert.l0 k l0 a2 ([] : List Int) 1 a1_0 a1_1 l1_2 ((rd_T97 l0 (ji25)).f0) bq33 ((rd_T97 l0 (ji25)).f2)))) = some (r1, r2) := by rw [← hbq33] at H; exact H
   have Nbq33 := Aside0.mk hbq33
   clear hbq33
   (try rw [← Nbq33.out] at BK442)
   (try rw [← Nbq33.out] at BK450)
   by_cases c34 : bq33 = true
   ·subst c34
    (first | rw [if_pos rfl] at H | skip)
    simp only [Option.some.injEq, Prod.mk.injEq] at H
    obtain ⟨rfl, rfl⟩ := H
    have hnb35 := NB450_442.out
    have hnc35 := NB442_450.out
    obtain ⟨hcz36_0, hcz36_1, hcz36_2⟩ := Xc3 BK450
    obtain ⟨hfz36_0, hfz36_1, hfz36_2⟩ := Xf3 BK450
    go_wp2
    go_ret2
    exact ⟨_, by first | rfl | (simp [errW_none, errW_some] <;> rfl) | (simp only [← hji25]; first | rfl | (simp [errW_none, errW_some] <;> rfl)) | (simp [*, errW_none, errW_some] <;> rfl), by first | exact Kd.R_nil _ _ _ _ _ | exact Kd.N_nil _ _ _ _ _ | exact Kd.V_nil _ _ _ _ _ | exact Kd.Q_nil _ _ _ _ _ | exact Kd.S_nil _ _ _ _ _, Xi⟩
   replace c34 := Bool.eq_false_iff.mpr c34
   subst c34
   (first | rw [if_neg (show ¬ (false = true) by decide)] at H | skip)
   obtain ⟨c37, H⟩ | ⟨c37, H⟩ := Xiu H
   ·have c37b0 : ((((rd_T103 l1_2 t446).f4).length : Int) == 12) = true := beq_iff_eq.mpr c37
    have c37b1 : ((((rd_T103 l1_2 t446).f4).length : Int) != 12) = false := bne_eq_false_iff_eq.mpr c37
    clear c37
    simp only [Option.some.injEq, Prod.mk.injEq] at H
    obtain ⟨rfl, rfl⟩ := H
    have hnb38 := NB450_442.out
    have hnc38 := NB442_450.out
    obtain ⟨hcz39_0, hcz39_1, hcz39_2⟩ := Xc3 BK450
    obtain ⟨hfz39_0, hfz39_1, hfz39_2⟩ := Xf3 BK450
    obtain ⟨ad451, A451_4, c451_4, e451, p451, q451, hx451_0, hx451_1, hx451_2, hx451_3, hx451_4, HC451_4, HR451_4⟩ := at_B103 HR1_2 t446 Xa Xa HB
    obtain rfl : adf23 = ad451 := (by injection e451)
    go_wp2
    go_ret2
    exact ⟨_, by first | rfl | (simp [errW_none, errW_some] <;> rfl) | (simp only [← hji25]; first | rfl | (simp [errW_none, errW_some] <;> rfl)) | (simp [*, errW_none, errW_some] <;> rfl), by first | exact Kd.R_nil _ _ _ _ _ | exact Kd.N_nil _ _ _ _ _ | exact Kd.V_nil _ _ _ _ _ | exact Kd.Q_nil _ _ _ _ _ | exact Kd.S_nil _ _ _ _ _, Xi⟩
   have c37b0 : ((((rd_T103 l1_2 t446).f4).length : Int) == 12) = false := beq_eq_false_iff_ne.mpr c37
   have c37b1 : ((((rd_T103 l1_2 t446).f4).length : Int) != 12) = true := bne_iff_ne.mpr c37
   have H' := Aside0.mk H
   clear H
   have hnb40 := NB450_442.out
   have hnc40 := NB442_450.out
   obtain ⟨hcz41_0, hcz41_1, hcz41_2⟩ := Xc3 BK450
   obtain ⟨hfz41_0, hfz41_1, hfz41_2⟩ := Xf3 BK450
   obtain ⟨ad451, A451_4, c451_4, e451, p451, q451, hx451_0, hx451_1, hx451_2, hx451_3, hx451_4, HC451_4, HR451_4⟩ := at_B103 HR1_2 t446 Xa Xa HB
   obtain rfl : adf23 = ad451 := (by injection e451)
   go_wp2
   go_loopg [11, 12] k (fun kq v11 v12 w' => ∃ (x11_1 : List Int) (x12_1 : Int), v12 = .int .i64 x12_1 ∧ Aside0 (impl_MayInsert.l0 kq l0 a2 x11_1 x12_1 a1_0 a1_1 l1_2 ((rd_T97 l0 (ji25)).f0) false ((rd_T97 l0 (ji25)).f2) = some (r1, r2)) ∧ Aside0 (kq ≤ k) ∧ Aside0 (Kd.R (Kd.int .i64) 3 w' w.heap.size (fun _ => True) v11 x11_1) ∧ Aside0 (w'.heap[gb442]? = some (.cells #[.int .i64 a1_0, .int .i64 a1_1, (.slice (some adf23) l1_2.length c1_2)] 65 (0, 0))) ∧ Aside0 (w'.heap[gb450]? = some (.cells #[.string ((rd_T97 l0 (ji25)).f0), .bool false, (.slice A449_2 ((rd_T97 l0 (ji25)).f2).length c449_2)] 97 (0, 0))) ∧ Aside0 (Below w.heap.size w w'))
   case atStart => exact ⟨(([] : List Int)), (1), Xr, H', Xkr, ⟨by first | exact Kd.R_nil _ _ _ _ _ | exact Kd.N_nil _ _ _ _ _ | exact Kd.V_nil _ _ _ _ _ | exact Kd.Q_nil _ _ _ _ _ | exact Kd.S_nil _ _ _ _ _⟩, (Xp BK442), (Xp BK450), ⟨Xi⟩⟩
   clear H'
   (try clear c7); (try clear c11); (try clear c16); (try clear c16b0); (try clear c16b1); (try clear c18); (try clear c18b0); (try clear c19); (try clear c19b0); (try clear c20); (try clear c20b0); (try clear c24); (try clear c24b0); (try clear c26); (try clear c26b0); (try clear c27); (try clear c27b0); (try clear c34); (try clear c37); (try clear c37b0); (try clear c37b1); (try clear hcz14_0); (try clear hcz14_1); (try clear hcz14_2); (try clear hcz31_0); (try clear hcz31_1); (try clear hcz31_2); (try clear hcz41_0); (try clear hcz41_1); (try clear hcz41_2); (try clear hfz14_0); (try clear hfz14_1); (try clear hfz14_2); (try clear hfz31_0); (try clear hfz31_1); (try clear hfz31_2); (try clear hfz41_0); (try clear hfz41_1); (try clear hfz41_2); (try clear hx447_0); (try clear hx447_1); (try clear hx447_2); (try clear hx447_3); (try clear hx447_4); (try clear hx448_0); (try clear hx448_1); (try clear hx448_2); (try clear hx448_3); (try clear hx448_4); (try clear hx449_0); (try clear hx449_1); (try clear hx449_2); (try clear hx451_0); (try clear hx451_1); (try clear hx451_2); (try clear hx451_3); (try clear hx451_4); (try clear p447); (try clear p448); (try clear p449); (try clear p451); (try clear q447); (try clear q448); (try clear q449); (try clear q451)
   obtain ⟨x11_1, x12_1, rfl, HA, HK1, HO_11, BK442, BK450, HB⟩ := hrel
   cases gk with | zero => cases HA.out | succ k1 => ?_
   have H := HA.out
   clear HA
   simp only [impl_MayInsert.l0] at H
   obtain ⟨c42b0, H⟩ | ⟨c42b0, H⟩ := Xit H
   ·obtain ⟨t452, A43, H⟩ := Xbi H
    (try dsimp only at H)
    obtain ⟨t455, A44, H⟩ := Xbi H
    (try dsimp only at H)
    have HC45 := Aside0.mk H
    clear H
    try go_wp2_with (fail)
    replace HO_11 := Aside0.mk (Kd.R_drew HO_11.out)
    replace BK442 := Aside0.mk (blk_drew BK442.out)
    replace BK450 := Aside0.mk (blk_drew BK450.out)
    replace HB := Aside0.mk (below_drew1 HB.out)
    refine start_ (n := 6) (S := fun w' => w'.cell? ⟨gb450, 0, none⟩ = some (.string ((rd_T97 l0 (ji25)).f0)) ∧ w'.cell? ⟨gb450, 1, none⟩ = some (.bool false) ∧ w'.cell? ⟨gb450, 2, none⟩ = some (.slice A449_2 ((rd_T97 l0 ji25).f2).length c449_2)) (ds := []) #[false, false, false, false, false, false] (by kernel_rfl) rfl rfl ⟨(blk_cell BK450.out 0).trans rfl, (blk_cell BK450.out 1).trans rfl, (blk_cell BK450.out 2).trans rfl⟩ (fun hHeld => ?_)
    generalize wr.drew = w46 at HO_11 BK442 BK450 HB hHeld ⊢
    refine pure_ (i := 0) (N := some 59) (v := ?_) (a' := ?_) (XW.bs 6 1) rfl rfl (by kernel_rfl) (fun _ _ _ h => h) (Or.inl ⟨by rfl, ?_⟩) ?_ ?_
    rotate_left
    ·intro w'
     go_simp
     with_reducible rfl
    rotate_left
    ·simp only [XW.q0, XW.q1, XW.q2, i64_w, i32_w]
     rfl
    refine pure_ (i := 2) (N := some 61) (v := ?_) (a' := ?_) (XW.bs 6 5) rfl rfl (by kernel_rfl) (fun _ _ _ h => h) (Or.inl ⟨by rfl, ?_⟩) ?_ ?_
    rotate_left
    ·intro w'
     go_simp
     with_reducible rfl
    rotate_left
    ·simp only [XW.q0, XW.q1, XW.q2, i64_w, i32_w]
     rfl
    refine pure_ (i := 4) (N := some 63) (v := ?_) (a' := ?_) (XW.bs 6 21) rfl rfl (by kernel_rfl) (fun _ _ _ h => h) (Or.inl ⟨by rfl, ?_⟩) ?_ ?_
    rotate_left
    ·intro w'
     go_simp
     with_reducible rfl
    rotate_left
    ·simp only [XW.q0, XW.q1, XW.q2, i64_w, i32_w]
     rfl
    refine take_ (i := 1) (N := some 60) (v := ?_) (a' := ?_) (XW.bs 6 23) rfl rfl (by kernel_rfl) (fun _ _ _ h => h) (Or.inl ⟨by rfl, ?_⟩) hHeld ?_ ?_
    rotate_left
    ·rintro w' ⟨s0, s1, s2⟩
     go_simp
     with_reducible rfl
    rotate_left
    ·simp only [XW.q0, XW.q1, XW.q2, i64_w, i32_w]
     rfl
    refine one_ (i := 3) (N := some 62) (XW.bs 6 31) rfl rfl (by kernel_rfl) (by decide) (fun K hK => ?_)
    refine goes_ Try.func82 (by kernel_rfl) rfl #[.pointer (some ⟨gb442, 0, none⟩), .int .i64 a2] (by rfl) rfl rfl (by (try simp only [List.map_toArray, List.map_cons, List.map_nil]); first | done | rfl | (simp only [List.length_drop, List.length_take]; rfl)) ?_
    with_reducible refine (impl_Doc_kindsOf.calls k1 gb442 a1_0 a1_1 (some adf23) c1_2 l1_2 a2 t452 _ ?side1 ?side2 ?side3 A43.out).mono ?_
    (case side1 => exact (Xq' BK442))
    (case side2 => exact Xc HR1_2)
    (case side3 => exact HC1_2.out)
    rintro e w47 ⟨v453, rfl, ho0, hb⟩
    refine ⟨_, rfl, ?_⟩
    have HO454 := Aside0.mk (Kd.R_lower (Kd.R_new' ho0 (Kd.R_lt (Xq HO_11))) (below_size Xi))
    replace HO_11 := Aside0.mk (Kd.R_elder' (Xq HO_11) (Kd.R_base ho0) hb)
    replace BK442 := Xbb BK442 hb
    replace BK450 := Xbb BK450 hb
    replace HB := Aside0.mk (below_step Xi hb)
    (try clear hb)
    (try clear hb2)
    (try clear hk)
    (try clear hi)
    (try clear ho0)
    obtain ⟨Ao48, co48, eo48⟩ := Kd.R_slice HO454.out
    (first | subst eo48 | (injection eo48 with f1_ f2_ f3_; have f4_ := f1_.symm; have f5_ := f3_.symm; clear f1_ f2_ f3_; subst f4_; subst f5_))
    refine hK.out _ _ ⟨(blk_cell BK450.out 0).trans rfl, (blk_cell BK450.out 1).trans rfl, (blk_cell BK450.out 2).trans rfl⟩ (fun hHeld => ?_)
    clear hK K
    refine Xno ?_
    refine one_ (i := 5) (N := some 64) (XW.bs 6 63) rfl rfl (by kernel_rfl) (by decide) (fun K hK => ?_)
    refine goes_ Try.func81 (by kernel_rfl) rfl #[.slice A449_2 ((rd_T97 l0 ji25).f2).length c449_2, .slice Ao48 t452.length co48, .int .i64 x12_1] (by rfl) rfl rfl (by (try simp only [List.map_toArray, List.map_cons, List.map_nil]); first | done | rfl | (simp only [List.length_drop, List.length_take]; rfl)) ?_
    with_reducible refine (impl_mayInsert.calls k1 _ _ ((rd_T97 l0 (ji25)).f2) _ _ t452 x12_1 t455 _ ?side1 ?side2 ?side3 ?side4 A44.out).mono ?_
    (case side1 => exact Xc HR449_2)
    (case side2 => exact HC449_2.out)
    (case side3 => repeat (first | exact (Kd.R_reads' HO454.out).2.2 | (with_reducible first | refine Kd.C_alloc ?_ _ | refine Kd.C_drewN ?_ _ | refine Kd.C_drew ?_)))
    (case side4 => exact (Kd.R_reads' HO454.out).2.1)
    rintro e w49 ⟨rfl, hb⟩
    refine ⟨_, rfl, ?_⟩
    replace HO_11 := Aside0.mk (Kd.R_below (Xq HO_11) hb)
    replace HO454 := Aside0.mk (Kd.R_below (Xq HO454) hb)
    replace BK442 := Xbb BK442 hb
    replace BK450 := Xbb BK450 hb
    replace HB := Aside0.mk (below_step Xi hb)
    (try clear hb)
    (try clear hb2)
    (try clear hk)
    (try clear hi)
    refine hK.out _ _ ⟨(blk_cell BK450.out 0).trans rfl, (blk_cell BK450.out 1).trans rfl, (blk_cell BK450.out 2).trans rfl⟩ (fun hHeld => ?_)
    clear hK K
    refine Xno ?_
    refine done_ (by kernel_rfl) ?_
    go_upto_if 64 with (fail)
    have H := HC45.out
    clear HC45
    by_cases c50 : t455 = true
    ·subst c50
     (first | rw [if_pos rfl] at H | skip)
     obtain ⟨c51, H⟩ := Xif H
     have LMc51 := Aside0.mk c51
     clear c51
     obtain ⟨y456, hy456⟩ : ∃ y_ : List Int, y_ = (x11_1 ++ [x12_1]) := ⟨_, rfl⟩
     replace H : (impl_MayInsert.l0 k1 l0 a2 y456 (wrap64 (x12_1 + 1)) a1_0 a1_1 l1_2 ((rd_T97 l0 (ji25)).f0) false ((rd_T97 l0 (ji25)).f2)) = some (r1, r2) := by first | (rw [hy456]; with_reducible exact H) | (have H2_ := (Option.bind_some _ _).symm.trans H; rw [hy456]; with_reducible exact H2_) | (have H2_ := (Option.bind_some _ _).symm.trans H; with_reducible exact H2_) | with_reducible exact H | (rw [hy456]; exact H) | exact H
     have Ny456 := Aside0.mk hy456
     clear hy456
     have H' := Aside0.mk H
     clear H
     go_wp2_with (first | ((with_reducible refine gate_builtin (b := .append) (xs := #[.tmp 65, .tmp 67]) rfl ?_); (try (refine gate_guard (by rfl) ?_; dsimp only)); at_builtin; refine Kd.R_append (Kd.int .i64) (w0 := w) w.heap.size rfl (.tmp 65) (.tmp 67) 39 3 (.int .i64 0) 8 rfl Try.underlying39 info3 rfl (by decide) (by omega) u11 x11_1 x12_1 [.int .i64 x12_1] (fun k_ => some k_ ≠ (.slice Ao48 t452.length co48 : Value).ownBlock) (fun _ => False) rfl rfl ?aP (fun _ hk => hk.elim) ?aF ?aO ?aB ?aS ?aL ?_; (case aP => exact rfl); (case aB => exact Xi); (case aF => exact (fun k_ hk => Kd.fresh' (Kd.R_lt (Xq HO454)) k_ hk)); (case aO => exact (by (with_reducible repeat (first | apply Kd.R_alloc | apply Kd.R_drewN | apply Kd.R_drew)); exact Kd.R_mono HO_11.out (fun _ hk => hk.2))); (case aS => exact (below_size Xi)); (case aL => have := LMc51.out; omega); intro v457 w52 ho hb hg hat; rw [← Ny456.out] at ho; replace BK442 := Aside0.mk (blk_grown (g := gb442) (o := .cells #[.int .i64 a1_0, .int .i64 a1_1, .slice (some adf23) l1_2.length c1_2] 65 (0, 0)) (Xq' BK442) hg (Kd.R_ne HO_11.out BK442.out (by decide))); replace BK450 := Aside0.mk (blk_grown (g := gb450) (o := .cells #[.string ((rd_T97 l0 (ji25)).f0), .bool false, .slice A449_2 ((rd_T97 l0 ji25).f2).length c449_2] 97 (0, 0)) (Xq' BK450) hg (Kd.R_ne HO_11.out BK450.out (by decide))); replace HO454 := Aside0.mk (Kd.R_after (ok := (fun _ => True)) (Xq HO454) hg hat); replace HB := Aside0.mk (hb); have HO458 := Aside0.mk (ho); clear HO_11; clear ho hb hg hat))
     go_roundg k1
     case measure => have := HK1.out; omega
     case rel => exact ⟨(y456), (wrap64 (x12_1 + 1)), Xr, H', Xk1, ⟨by (with_reducible repeat (first | apply Kd.R_alloc | apply Kd.R_drewN | apply Kd.R_drew)); exact Kd.R_mono HO458.out (fun _ hk => trivial)⟩, (Xp BK442), (Xp BK450), ⟨Xi⟩⟩
    replace c50 := Bool.eq_false_iff.mpr c50
    subst c50
    (first | rw [if_neg (show ¬ (false = true) by decide)] at H | skip)
    have H' := Aside0.mk H
    clear H
    go_wp2
    go_roundg k1
    case measure => have := HK1.out; omega
    case rel => exact ⟨(x11_1), (wrap64 (x12_1 + 1)), Xr, H', Xk1, ⟨by (with_reducible repeat (first | apply Kd.R_alloc | apply Kd.R_drewN | apply Kd.R_drew)); exact Kd.R_mono HO_11.out (fun _ hk => trivial)⟩, (Xp BK442), (Xp BK450), ⟨Xi⟩⟩
   simp only [Option.some.injEq, Prod.mk.injEq] at H
   obtain ⟨rfl, rfl⟩ := H
   go_wp2
   go_ret2
   exact ⟨_, by first | rfl | (simp [errW_none, errW_some] <;> rfl) | (simp only [← hji25]; first | rfl | (simp [errW_none, errW_some] <;> rfl)) | (simp [*, errW_none, errW_some] <;> rfl), Xq HO_11, Xi⟩
  have c16b0 : (t445 == 0) = false := beq_eq_false_iff_ne.mpr c16
  have c16b1 : (t445 != 0) = true := bne_iff_ne.mpr c16
  (first | rw [c16b0] | (simp only [i64_w, i32_w]; rw [c16b0]) | skip)
  simp only [Option.some.injEq, Prod.mk.injEq] at H
  obtain ⟨rfl, rfl⟩ := H
  go_wp2
  go_ret2
  exact ⟨_, Xe, by first | exact Kd.R_nil _ _ _ _ _ | exact Kd.N_nil _ _ _ _ _ | exact Kd.V_nil _ _ _ _ _ | exact Kd.Q_nil _ _ _ _ _ | exact Kd.S_nil _ _ _ _ _, Xi⟩
 replace c11 := Bool.eq_false_iff.mpr c11
 subst c11
 (first | rw [if_neg (show ¬ (false = true) by decide)] at H | skip)
 simp only [Option.some.injEq, Prod.mk.injEq] at H
 obtain ⟨rfl, rfl⟩ := H
 go_wp2
 go_ret2
 exact ⟨_, Xe, by first | exact Kd.R_nil _ _ _ _ _ | exact Kd.N_nil _ _ _ _ _ | exact Kd.V_nil _ _ _ _ _ | exact Kd.Q_nil _ _ _ _ _ | exact Kd.S_nil _ _ _ _ _, Xi⟩
def laws_eqNode.f (k : Nat) (a0_0 : Int) (a0_1 : Int) (a0_2 : Int) (a0_3 : ByteArray) (l0_4 : List Int) (a1_0 : Int) (a1_1 : Int) (a1_2 : Int) (a1_3 : ByteArray) (l1_4 : List Int) : Option (Bool) := if a0_0 = a1_0 then (if a0_1 = a1_1 then (if a0_2 = a1_2 then (if a0_3.toList = a1_3.toList then ((laws_eqIntS.f k l0_4 l1_4).bind fun t461 => (if t461 = true then (some true) else (some false))) else (some false)) else (some false)) else (some false)) else (some false)
theorem laws_eqNode.calls (k : Nat) (a0_0 : Int) (a0_1 : Int) (a0_2 : Int) (a0_3 : ByteArray) (A0_4 : Option Addr) (c0_4 : Nat) (l0_4 : List Int) (a1_0 : Int) (a1_1 : Int) (a1_2 : Int) (a1_3 : ByteArray) (A1_4 : Option Addr) (c1_4 : Nat) (l1_4 : List Int) (r : Bool) (w : World) (hr0_4 : Kd.C (Kd.int .i64) w A0_4 l0_4.length l0_4) (hc0_4 : l0_4.length ≤ c0_4) (hr1_4 : Kd.C (Kd.int .i64) w A1_4 l1_4.length l1_4) (hc1_4 : l1_4.length ≤ c1_4) (h : laws_eqNode.f k a0_0 a0_1 a0_2 a0_3 l0_4 a1_0 a1_1 a1_2 a1_3 l1_4 = some r) :
  Calls Try.prog 126 #[.agg #[.int .i64 a0_0, .int .i64 a0_1, .int .i64 a0_2, .string a0_3, .slice A0_4 l0_4.length c0_4], .agg #[.int .i64 a1_0, .int .i64 a1_1, .int .i64 a1_2, .string a1_3, .slice A1_4 l1_4.length c1_4]] w fun e w' => e = .returned (.bool r) ∧ Below w.heap.size w w' := by
 have hu103 := Try.underlying103
 have HR0_4 := Aside0.mk hr0_4
 have HC0_4 := Aside0.mk hc0_4
 clear hr0_4 hc0_4
 have HR1_4 := Aside0.mk hr1_4
 have HC1_4 := Aside0.mk hc1_4
 clear hr1_4 hc1_4
 have HB := Aside0.mk (Below.refl w.heap.size w)
 have H : (if a0_0 = a1_0 then (if a0_1 = a1_1 then (if a0_2 = a1_2 then (if a0_3.toList = a1_3.toList then ((laws_eqIntS.f k l0_4 l1_4).bind fun t461 => (if t461 = true then (some true) else (some false))) else (some false)) else (some false)) else (some false)) else (some false)) = some r := h
 clear h
 have HC3 := Aside0.mk H
 clear H
 go_enter Try.func126, Try.ntmps126
 go_upto_if 9 with (first | ((with_reducible refine gate_dst (N := 2) rfl ?_); refine Xbox 2 #[.int .i64 a0_0, .int .i64 a0_1, .int .i64 a0_2, .string a0_3, .slice A0_4 l0_4.length c0_4] 103 ?_; intro gb459 hg w4 hbox hb; have BK459 := Aside0.mk (hbox); have GE459 := Xge hg Xi; replace HB := Aside0.mk (below_step Xi hb); clear hb hbox hg) | ((with_reducible refine gate_dst (N := 3) rfl ?_); refine Xbox 3 #[.int .i64 a1_0, .int .i64 a1_1, .int .i64 a1_2, .string a1_3, .slice A1_4 l1_4.length c1_4] 103 ?_; intro gb460 hg w5 hbox hb; have BK460 := Aside0.mk (hbox); have GE460 := Xge hg Xi; replace HB := Aside0.mk (below_step Xi hb); have NB459_460 := Xnb hg BK459; have NB460_459 := Xns NB459_460; replace BK459 := Xbb BK459 hb; clear hb hbox hg; have hnb6 := NB459_460.out; have hnc6 := NB460_459.out; obtain ⟨hcz7_0, hcz7_1, hcz7_2, hcz7_3, hcz7_4⟩ := Xc5 BK459; obtain ⟨hcz8_0, hcz8_1, hcz8_2, hcz8_3, hcz8_4⟩ := Xc5 BK460))
 have H := HC3.out
 clear HC3
 obtain ⟨c9, H⟩ | ⟨c9, H⟩ := Xiu H
 ·have c9b0 : (a0_0 == a1_0) = true := beq_iff_eq.mpr c9
  have c9b1 : (a0_0 != a1_0) = false := bne_eq_false_iff_eq.mpr c9
  clear c9
  (first | rw [c9b0] | (simp only [i64_w, i32_w]; rw [c9b0]) | skip)
  obtain ⟨c10, H⟩ | ⟨c10, H⟩ := Xiu H
  ·have c10b0 : (a0_1 == a1_1) = true := beq_iff_eq.mpr c10
   have c10b1 : (a0_1 != a1_1) = false := bne_eq_false_iff_eq.mpr c10
   clear c10
   obtain ⟨c11, H⟩ | ⟨c11, H⟩ := Xiu H
   ·have c11b0 : (a0_2 == a1_2) = true := beq_iff_eq.mpr c11
    have c11b1 : (a0_2 != a1_2) = false := bne_eq_false_iff_eq.mpr c11
    clear c11
    obtain ⟨c12, H⟩ | ⟨c12, H⟩ := Xiu H
    ·have c12b0 : (a0_3.toList == a1_3.toList) = true := beq_iff_eq.mpr c12
     have c12b1 : (a0_3.toList != a1_3.toList) = false := bne_eq_false_iff_eq.mpr c12
     clear c12
     obtain ⟨t461, A13, H⟩ := Xbi H
     (try dsimp only at H)
     have HC14 := Aside0.mk H
     clear H
     have hnb15 := NB459_460.out
     have hnc15 := NB460_459.out
     obtain ⟨hcz16_0, hcz16_1, hcz16_2, hcz16_3, hcz16_4⟩ := Xc5 BK459
     obtain ⟨hcz17_0, hcz17_1, hcz17_2, hcz17_3, hcz17_4⟩ := Xc5 BK460
     go_upto_if 30 with (first | ((with_reducible refine gate_callee (f := 21) rfl ?_); refine Xgo 29 Try.func21 #[.slice A0_4 l0_4.length c0_4, .slice A1_4 l1_4.length c1_4] ?_; (with_reducible refine (laws_eqIntS.calls k _ _ l0_4 _ _ l1_4 t461 _ ?side1 ?side2 ?side3 ?side4 A13.out).mono ?_); (case side1 => exact Xc HR0_4); (case side2 => exact HC0_4.out); (case side3 => exact Xc HR1_4); (case side4 => exact HC1_4.out); rintro e w' ⟨rfl, ⟨nd, rfl⟩⟩; refine ⟨_, rfl, ?_⟩))
     have H := HC14.out
     clear HC14
     by_cases c18 : t461 = true
     ·subst c18
      (first | rw [if_pos rfl] at H | skip)
      obtain rfl := Option.some.inj H
      go_wp2
      go_ret
      exact ⟨Xe, Xi⟩
     replace c18 := Bool.eq_false_iff.mpr c18
     subst c18
     (first | rw [if_neg (show ¬ (false = true) by decide)] at H | skip)
     obtain rfl := Option.some.inj H
     go_wp2
     go_ret
     exact ⟨Xe, Xi⟩
    have c12b0 : (a0_3.toList == a1_3.toList) = false := beq_eq_false_iff_ne.mpr c12
    have c12b1 : (a0_3.toList != a1_3.toList) = true := bne_iff_ne.mpr c12
    obtain rfl := Option.some.inj H
    have hnb19 := NB459_460.out
    have hnc19 := NB460_459.out
    obtain ⟨hcz20_0, hcz20_1, hcz20_2, hcz20_3, hcz20_4⟩ := Xc5 BK459
    obtain ⟨hcz21_0, hcz21_1, hcz21_2, hcz21_3, hcz21_4⟩ := Xc5 BK460
    go_wp2
    go_ret
    exact ⟨Xe, Xi⟩
   have c11b0 : (a0_2 == a1_2) = false := beq_eq_false_iff_ne.mpr c11
   have c11b1 : (a0_2 != a1_2) = true := bne_iff_ne.mpr c11
   obtain rfl := Option.some.inj H
   have hnb22 := NB459_460.out
   have hnc22 := NB460_459.out
   obtain ⟨hcz23_0, hcz23_1, hcz23_2, hcz23_3, hcz23_4⟩ := Xc5 BK459
   obtain ⟨hcz24_0, hcz24_1, hcz24_2, hcz24_3, hcz24_4⟩ := Xc5 BK460
   go_wp2
   go_ret
   exact ⟨Xe, Xi⟩
  have c10b0 : (a0_1 == a1_1) = false := beq_eq_false_iff_ne.mpr c10
  have c10b1 : (a0_1 != a1_1) = true := bne_iff_ne.mpr c10
  obtain rfl := Option.some.inj H
  have hnb25 := NB459_460.out
  have hnc25 := NB460_459.out
  obtain ⟨hcz26_0, hcz26_1, hcz26_2, hcz26_3, hcz26_4⟩ := Xc5 BK459
  obtain ⟨hcz27_0, hcz27_1, hcz27_2, hcz27_3, hcz27_4⟩ := Xc5 BK460
  go_wp2
  go_ret
  exact ⟨Xe, Xi⟩
 have c9b0 : (a0_0 == a1_0) = false := beq_eq_false_iff_ne.mpr c9
 have c9b1 : (a0_0 != a1_0) = true := bne_iff_ne.mpr c9
 (first | rw [c9b0] | (simp only [i64_w, i32_w]; rw [c9b0]) | skip)
 obtain rfl := Option.some.inj H
 go_wp2
 go_ret
 exact ⟨Xe, Xi⟩
def laws_eqNodeS.l0 : Nat → List (S103) → List (S103) → Int → Option (Bool)
 | 0, _, _, _ => none
 | k + 1, x0, x1, x5 => if x5 < (x0.length : Int) then (if 0 ≤ x5 then (if x5 < (x1.length : Int) then ((laws_eqNode.f k ((rd_T103 x0 x5).f0) ((rd_T103 x0 x5).f1) ((rd_T103 x0 x5).f2) ((rd_T103 x0 x5).f3) ((rd_T103 x0 x5).f4) ((rd_T103 x1 x5).f0) ((rd_T103 x1 x5).f1) ((rd_T103 x1 x5).f2) ((rd_T103 x1 x5).f3) ((rd_T103 x1 x5).f4)).bind fun t464 => (if t464 = true then (laws_eqNodeS.l0 k x0 x1 (wrap64 (x5 + 1))) else (some false))) else (none)) else (none)) else (some true)
def laws_eqNodeS.f (k : Nat) (l0 : List (S103)) (l1 : List (S103)) : Option (Bool) := if (l0.length : Int) = (l1.length : Int) then (laws_eqNodeS.l0 k l0 l1 0) else (some false)
def laws_eqNodeS.T6 : Bool × List (List Nat × List Nat) := (true, [([], []), ([], []), ([0, 1], [0, 1]), ([2], [2]), ([], []), ([], []), ([4, 5], [4, 5]), ([6], [6]), ([3, 7], [3, 7]), ([8], [8])])
def laws_eqNodeS.B6 : List Nat := [0, 0, 3, 7, 0, 0, 48, 112, 255, 511]
theorem laws_eqNodeS.tab6 : rtab .any (opsOf Try.f83 6) = laws_eqNodeS.T6 := by kernel_rfl
theorem laws_eqNodeS.bits6 : waitsOk laws_eqNodeS.T6.2 laws_eqNodeS.B6 = true := by kernel_rfl
theorem laws_eqNodeS.calls (k : Nat) (A0 : Option Addr) (c0 : Nat) (l0 : List (S103)) (A1 : Option Addr) (c1 : Nat) (l1 : List (S103)) (r : Bool) (w : World) (hr0 : Kd.C k103 w A0 l0.length l0) (hc0 : l0.length ≤ c0) (hr1 : Kd.C k103 w A1 l1.length l1) (hc1 : l1.length ≤ c1) (h : laws_eqNodeS.f k l0 l1 = some r) :
  Calls Try.prog 83 #[.slice A0 l0.length c0, .slice A1 l1.length c1] w fun e w' => e = .returned (.bool r) ∧ Below w.heap.size w w' := by
 have hu103 := Try.underlying103
 have HR0 := Aside0.mk hr0
 have HC0 := Aside0.mk hc0
 clear hr0 hc0
 have HR1 := Aside0.mk hr1
 have HC1 := Aside0.mk hc1
 clear hr1 hc1
 have HB := Aside0.mk (Below.refl w.heap.size w)
 have H : (if (l0.length : Int) = (l1.length : Int) then (laws_eqNodeS.l0 k l0 l1 0) else (some false)) = some r := h
 clear h
 obtain ⟨c3, H⟩ | ⟨c3, H⟩ := Xiu H
 ·have c3b0 : ((l0.length : Int) == (l1.length : Int)) = true := beq_iff_eq.mpr c3
  have c3b1 : ((l0.length : Int) != (l1.length : Int)) = false := bne_eq_false_iff_eq.mpr c3
  have c3b2 : (l0.length == l1.length) = true := by first | simpa using c3 | (simp at c3 ⊢; omega)
  clear c3
  have H' := Aside0.mk H
  clear H
  go_enter Try.func83, Try.ntmps83
  go_wp2
  go_loopg [5] k (fun kq v5 w' => ∃ (x5_1 : Int), v5 = .int .i64 x5_1 ∧ Aside0 (laws_eqNodeS.l0 kq l0 l1 x5_1 = some r) ∧ Aside0 (kq ≤ k) ∧ Aside0 (Below w.heap.size w w'))
  case atStart => exact ⟨(0), Xr, H', Xkr, ⟨Xi⟩⟩
  clear H'
  (try clear c1); (try clear c3); (try clear c3b0); (try clear c3b1); (try clear c3b2)
  obtain ⟨x5_1, rfl, HA, HK1, HB⟩ := hrel
  cases gk with | zero => cases HA.out | succ k1 => ?_
  have H := HA.out
  clear HA
  simp only [laws_eqNodeS.l0] at H
  obtain ⟨c4b0, H⟩ | ⟨c4b0, H⟩ := Xit H
  ·obtain ⟨c5b0, H⟩ := Xid H
   obtain ⟨c6b0, H⟩ := Xid H
   obtain ⟨t464, A7, H⟩ := Xbi H
   (try dsimp only at H)
   have HC8 := Aside0.mk H
   clear H
   try go_wp2_with (fail)
   replace HB := Aside0.mk (below_drew1 HB.out)
   have p462 : 0 ≤ (x5_1 : Int) := of_decide_eq_true Xa
   have q462 : x5_1 < (l0.length : Int) := of_decide_eq_true Xa
   obtain ⟨ad462, A462_4, c462_4, e462, hx462_0, hx462_1, hx462_2, hx462_3, hx462_4, hl462_4, hi462_4⟩ := at_T103 HR0.out x5_1 p462 q462
   have hw462_4 := hx462_4
   have hw462_3 := hx462_3
   have hw462_2 := hx462_2
   have hw462_1 := hx462_1
   have hw462_0 := hx462_0
   cases e462
   replace hx462_0 := Xm HB hx462_0
   replace hx462_1 := Xm HB hx462_1
   replace hx462_2 := Xm HB hx462_2
   replace hx462_3 := Xm HB hx462_3
   replace hx462_4 := Xm HB hx462_4
   have HR462_4 := Aside0.mk hi462_4
   have HC462_4 := Aside0.mk hl462_4
   clear hi462_4 hl462_4
   replace p462 := eq_true p462
   replace q462 := eq_true q462
   have p463 : 0 ≤ (x5_1 : Int) := of_decide_eq_true Xa
   have q463 : x5_1 < (l1.length : Int) := of_decide_eq_true Xa
   obtain ⟨ad463, A463_4, c463_4, e463, hx463_0, hx463_1, hx463_2, hx463_3, hx463_4, hl463_4, hi463_4⟩ := at_T103 HR1.out x5_1 p463 q463
   have hw463_4 := hx463_4
   have hw463_3 := hx463_3
   have hw463_2 := hx463_2
   have hw463_1 := hx463_1
   have hw463_0 := hx463_0
   cases e463
   replace hx463_0 := Xm HB hx463_0
   replace hx463_1 := Xm HB hx463_1
   replace hx463_2 := Xm HB hx463_2
   replace hx463_3 := Xm HB hx463_3
   replace hx463_4 := Xm HB hx463_4
   have HR463_4 := Aside0.mk hi463_4
   have HC463_4 := Aside0.mk hl463_4
   clear hi463_4 hl463_4
   replace p463 := eq_true p463
   replace q463 := eq_true q463
   refine start_ (n := 10) (S := fun w' => w'.cell? (ad462.add ((x5_1).toNat * 5)) = some (.int .i64 ((rd_T103 l0 x5_1).f0)) ∧ w'.cell? ⟨(ad462.add ((x5_1).toNat * 5)).block, (ad462.add ((x5_1).toNat * 5)).off + 1, none⟩ = some (.int .i64 ((rd_T103 l0 x5_1).f1)) ∧ w'.cell? ⟨(ad462.add ((x5_1).toNat * 5)).block, (ad462.add ((x5_1).toNat * 5)).off + 2, none⟩ = some (.int .i64 ((rd_T103 l0 x5_1).f2)) ∧ w'.cell? ⟨(ad462.add ((x5_1).toNat * 5)).block, (ad462.add ((x5_1).toNat * 5)).off + 3, none⟩ = some (.string ((rd_T103 l0 x5_1).f3)) ∧ w'.cell? ⟨(ad462.add ((x5_1).toNat * 5)).block, (ad462.add ((x5_1).toNat * 5)).off + 4, none⟩ = some (.slice A462_4 ((rd_T103 l0 x5_1).f4).length c462_4) ∧ w'.cell? (ad463.add ((x5_1).toNat * 5)) = some (.int .i64 ((rd_T103 l1 x5_1).f0)) ∧ w'.cell? ⟨(ad463.add ((x5_1).toNat * 5)).block, (ad463.add ((x5_1).toNat * 5)).off + 1, none⟩ = some (.int .i64 ((rd_T103 l1 x5_1).f1)) ∧ w'.cell? ⟨(ad463.add ((x5_1).toNat * 5)).block, (ad463.add ((x5_1).toNat * 5)).off + 2, none⟩ = some (.int .i64 ((rd_T103 l1 x5_1).f2)) ∧ w'.cell? ⟨(ad463.add ((x5_1).toNat * 5)).block, (ad463.add ((x5_1).toNat * 5)).off + 3, none⟩ = some (.string ((rd_T103 l1 x5_1).f3)) ∧ w'.cell? ⟨(ad463.add ((x5_1).toNat * 5)).block, (ad463.add ((x5_1).toNat * 5)).off + 4, none⟩ = some (.slice A463_4 ((rd_T103 l1 x5_1).f4).length c463_4)) (ds := []) #[false, false, false, false, false, false, false, false, false, false] (by kernel_rfl) rfl rfl ⟨Xn hw462_0, Xn hw462_1, Xn hw462_2, Xn hw462_3, Xn hw462_4, Xn hw463_0, Xn hw463_1, Xn hw463_2, Xn hw463_3, Xn hw463_4⟩ (fun hHeld => ?_); refine with_tabW laws_eqNodeS.tab6 laws_eqNodeS.bits6 (fun HT_ HW_ => ?_)
   generalize wr.drew = w9 at HB HR462_4 HR463_4 hx462_0 hx462_1 hx462_2 hx462_3 hx462_4 hx463_0 hx463_1 hx463_2 hx463_3 hx463_4 hHeld ⊢
   refine Xpu 0 17 (XW.bs 10 1) HT_.out ?_
   refine Xpu 1 18 (XW.bs 10 3) HT_.out ?_
   refine Xpu 2 19 (XW.bs 10 7) HT_.out ?_
   refine Xpu 4 21 (XW.bs 10 23) HT_.out ?_
   refine Xpu 5 22 (XW.bs 10 55) HT_.out ?_
   refine Xpu 6 23 (XW.bs 10 119) HT_.out ?_
   refine Xta 3 20 (XW.bs 10 127) HT_.out HW_.out hHeld ?_
   refine Xta 7 24 (XW.bs 10 255) HT_.out HW_.out hHeld ?_
   refine one_ (i := 8) (N := some 25) (XW.bs 10 511) rfl rfl (one_of HT_.out (by kernel_rfl)) (by decide) (fun K hK => ?_)
   refine goes_ Try.func126 (by kernel_rfl) rfl #[.agg #[.int .i64 ((rd_T103 l0 x5_1).f0), .int .i64 ((rd_T103 l0 x5_1).f1), .int .i64 ((rd_T103 l0 x5_1).f2), .string ((rd_T103 l0 x5_1).f3), .slice A462_4 ((rd_T103 l0 x5_1).f4).length c462_4], .agg #[.int .i64 ((rd_T103 l1 x5_1).f0), .int .i64 ((rd_T103 l1 x5_1).f1), .int .i64 ((rd_T103 l1 x5_1).f2), .string ((rd_T103 l1 x5_1).f3), .slice A463_4 ((rd_T103 l1 x5_1).f4).length c463_4]] (by rfl) rfl rfl (by (try simp only [List.map_toArray, List.map_cons, List.map_nil]); first | done | rfl | (simp only [List.length_drop, List.length_take]; rfl)) ?_
   with_reducible refine (laws_eqNode.calls k1 ((rd_T103 l0 x5_1).f0) ((rd_T103 l0 x5_1).f1) ((rd_T103 l0 x5_1).f2) ((rd_T103 l0 x5_1).f3) _ _ ((rd_T103 l0 x5_1).f4) ((rd_T103 l1 x5_1).f0) ((rd_T103 l1 x5_1).f1) ((rd_T103 l1 x5_1).f2) ((rd_T103 l1 x5_1).f3) _ _ ((rd_T103 l1 x5_1).f4) t464 _ ?side1 ?side2 ?side3 ?side4 A7.out).mono ?_
   (case side1 => exact Xc HR462_4)
   (case side2 => exact HC462_4.out)
   (case side3 => exact Xc HR463_4)
   (case side4 => exact HC463_4.out)
   rintro e w10 ⟨rfl, hb⟩
   refine ⟨_, rfl, ?_⟩
   replace HB := Aside0.mk (below_step Xi hb)
   (try clear hb)
   (try clear hb2)
   (try clear hk)
   (try clear hi)
   refine hK.out _ _ ⟨Xn hw462_0, Xn hw462_1, Xn hw462_2, Xn hw462_3, Xn hw462_4, Xn hw463_0, Xn hw463_1, Xn hw463_2, Xn hw463_3, Xn hw463_4⟩ (fun hHeld => ?_)
   clear hK K
   refine Xno ?_
   refine Xpu 9 26 (XW.bs 10 1023) HT_.out ?_
   refine done_ (done_of HT_.out (by kernel_rfl)) ?_
   go_upto_if 26 with (fail)
   have H := HC8.out
   clear HC8
   by_cases c11 : t464 = true
   ·subst c11
    (first | rw [if_pos rfl] at H | skip)
    have H' := Aside0.mk H
    clear H
    go_wp2
    go_roundg k1
    case measure => have := HK1.out; omega
    case rel => exact ⟨(wrap64 (x5_1 + 1)), Xr, H', Xk1, ⟨Xi⟩⟩
   replace c11 := Bool.eq_false_iff.mpr c11
   subst c11
   (first | rw [if_neg (show ¬ (false = true) by decide)] at H | skip)
   obtain rfl := Option.some.inj H
   go_wp2
   go_ret
   exact ⟨Xe, Xi⟩
  obtain rfl := Option.some.inj H
  go_wp2
  go_ret
  exact ⟨Xe, Xi⟩
 have c3b0 : ((l0.length : Int) == (l1.length : Int)) = false := beq_eq_false_iff_ne.mpr c3
 have c3b1 : ((l0.length : Int) != (l1.length : Int)) = true := bne_iff_ne.mpr c3
 have c3b2 : (l0.length == l1.length) = false := by first | simpa using c3 | (simp at c3 ⊢; omega)
 obtain rfl := Option.some.inj H
 go_enter Try.func83, Try.ntmps83
 go_wp2
 go_ret
 exact ⟨Xe, Xi⟩
def laws_eqDoc.f (k : Nat) (a0_0 : Int) (a0_1 : Int) (l0_2 : List (S103)) (a1_0 : Int) (a1_1 : Int) (l1_2 : List (S103)) : Option (Bool) := if a0_0 = a1_0 then (if a0_1 = a1_1 then ((laws_eqNodeS.f k l0_2 l1_2).bind fun t467 => (if t467 = true then (some true) else (some false))) else (some false)) else (some false)
theorem laws_eqDoc.calls (k : Nat) (a0_0 : Int) (a0_1 : Int) (A0_2 : Option Addr) (c0_2 : Nat) (l0_2 : List (S103)) (a1_0 : Int) (a1_1 : Int) (A1_2 : Option Addr) (c1_2 : Nat) (l1_2 : List (S103)) (r : Bool) (w : World) (hr0_2 : Kd.C k103 w A0_2 l0_2.length l0_2) (hc0_2 : l0_2.length ≤ c0_2) (hr1_2 : Kd.C k103 w A1_2 l1_2.length l1_2) (hc1_2 : l1_2.length ≤ c1_2) (h : laws_eqDoc.f k a0_0 a0_1 l0_2 a1_0 a1_1 l1_2 = some r) :
  Calls Try.prog 37 #[.agg #[.int .i64 a0_0, .int .i64 a0_1, .slice A0_2 l0_2.length c0_2], .agg #[.int .i64 a1_0, .int .i64 a1_1, .slice A1_2 l1_2.length c1_2]] w fun e w' => e = .returned (.bool r) ∧ Below w.heap.size w w' := by
 have hu65 := Try.underlying65
 have HR0_2 := Aside0.mk hr0_2
 have HC0_2 := Aside0.mk hc0_2
 clear hr0_2 hc0_2
 have HR1_2 := Aside0.mk hr1_2
 have HC1_2 := Aside0.mk hc1_2
 clear hr1_2 hc1_2
 have HB := Aside0.mk (Below.refl w.heap.size w)
 have H : (if a0_0 = a1_0 then (if a0_1 = a1_1 then ((laws_eqNodeS.f k l0_2 l1_2).bind fun t467 => (if t467 = true then (some true) else (some false))) else (some false)) else (some false)) = some r := h
 clear h
 have HC3 := Aside0.mk H
 clear H
 go_enter Try.func37, Try.ntmps37
 go_upto_if 9 with (first | ((with_reducible refine gate_dst (N := 2) rfl ?_); refine Xbox 2 #[.int .i64 a0_0, .int .i64 a0_1, .slice A0_2 l0_2.length c0_2] 65 ?_; intro gb465 hg w4 hbox hb; have BK465 := Aside0.mk (hbox); have GE465 := Xge hg Xi; replace HB := Aside0.mk (below_step Xi hb); clear hb hbox hg) | ((with_reducible refine gate_dst (N := 3) rfl ?_); refine Xbox 3 #[.int .i64 a1_0, .int .i64 a1_1, .slice A1_2 l1_2.length c1_2] 65 ?_; intro gb466 hg w5 hbox hb; have BK466 := Aside0.mk (hbox); have GE466 := Xge hg Xi; replace HB := Aside0.mk (below_step Xi hb); have NB465_466 := Xnb hg BK465; have NB466_465 := Xns NB465_466; replace BK465 := Xbb BK465 hb; clear hb hbox hg; have hnb6 := NB465_466.out; have hnc6 := NB466_465.out; obtain ⟨hcz7_0, hcz7_1, hcz7_2⟩ := Xc3 BK465; obtain ⟨hcz8_0, hcz8_1, hcz8_2⟩ := Xc3 BK466))
 have H := HC3.out
 clear HC3
 obtain ⟨c9, H⟩ | ⟨c9, H⟩ := Xiu H
 ·have c9b0 : (a0_0 == a1_0) = true := beq_iff_eq.mpr c9
  have c9b1 : (a0_0 != a1_0) = false := bne_eq_false_iff_eq.mpr c9
  clear c9
  (first | rw [c9b0] | (simp only [i64_w, i32_w]; rw [c9b0]) | skip)
  obtain ⟨c10, H⟩ | ⟨c10, H⟩ := Xiu H
  ·have c10b0 : (a0_1 == a1_1) = true := beq_iff_eq.mpr c10
   have c10b1 : (a0_1 != a1_1) = false := bne_eq_false_iff_eq.mpr c10
   clear c10
   obtain ⟨t467, A11, H⟩ := Xbi H
   (try dsimp only at H)
   have HC12 := Aside0.mk H
   clear H
   have hnb13 := NB465_466.out
   have hnc13 := NB466_465.out
   obtain ⟨hcz14_0, hcz14_1, hcz14_2⟩ := Xc3 BK465
   obtain ⟨hcz15_0, hcz15_1, hcz15_2⟩ := Xc3 BK466
   go_upto_if 20 with (first | ((with_reducible refine gate_callee (f := 83) rfl ?_); refine Xgo 19 Try.func83 #[.slice A0_2 l0_2.length c0_2, .slice A1_2 l1_2.length c1_2] ?_; (with_reducible refine (laws_eqNodeS.calls k _ _ l0_2 _ _ l1_2 t467 _ ?side1 ?side2 ?side3 ?side4 A11.out).mono ?_); (case side1 => exact Xc HR0_2); (case side2 => exact HC0_2.out); (case side3 => exact Xc HR1_2); (case side4 => exact HC1_2.out); rintro e w16 ⟨rfl, hb⟩; refine ⟨_, rfl, ?_⟩; replace BK465 := Xbb BK465 hb; replace BK466 := Xbb BK466 hb; replace HB := Aside0.mk (below_step Xi hb); clear hb))
   have H := HC12.out
   clear HC12
   by_cases c17 : t467 = true
   ·subst c17
    (first | rw [if_pos rfl] at H | skip)
    obtain rfl := Option.some.inj H
    go_wp2
    go_ret
    exact ⟨Xe, Xi⟩
   replace c17 := Bool.eq_false_iff.mpr c17
   subst c17
   (first | rw [if_neg (show ¬ (false = true) by decide)] at H | skip)
   obtain rfl := Option.some.inj H
   go_wp2
   go_ret
   exact ⟨Xe, Xi⟩
  have c10b0 : (a0_1 == a1_1) = false := beq_eq_false_iff_ne.mpr c10
  have c10b1 : (a0_1 != a1_1) = true := bne_iff_ne.mpr c10
  obtain rfl := Option.some.inj H
  have hnb18 := NB465_466.out
  have hnc18 := NB466_465.out
  obtain ⟨hcz19_0, hcz19_1, hcz19_2⟩ := Xc3 BK465
  obtain ⟨hcz20_0, hcz20_1, hcz20_2⟩ := Xc3 BK466
  go_wp2
  go_ret
  exact ⟨Xe, Xi⟩
 have c9b0 : (a0_0 == a1_0) = false := beq_eq_false_iff_ne.mpr c9
 have c9b1 : (a0_0 != a1_0) = true := bne_iff_ne.mpr c9
 (first | rw [c9b0] | (simp only [i64_w, i32_w]; rw [c9b0]) | skip)
 obtain rfl := Option.some.inj H
 go_wp2
 go_ret
 exact ⟨Xe, Xi⟩
-- NOT PRINTED: function 84 (laws_markNodeS)
-- NOT PRINTED: function 6 (laws_FnExactMayInsert)
end Go.Proofs.Ythkbgbkglgmpoaa.XA
section
namespace Go.Proofs.Ythkbgbkglgmpoaa.XA
set_option linter.unusedVariables false
open Go.RowKit Go.Proofs.YthkbgbkglgmpoaaW.PrintWords Go.Proofs.YthkbgbkglgmpoaaW.PrintLast Go.Proofs.YthkbgbkglgmpoaaW.PrintMore
def laws_markNodeS.l0 : Nat → List S103 → Int → Int → Option (Int × List S103)
  | 0, _, _, _ => none
  | k + 1, xs_, n_, i_ => if i_ < (xs_.length : Int) then (if 0 ≤ i_ then ((laws_markText.f k (wrap64 ((wrap64 ((wrap64 (n_ + 1)) + 1)) + 1))).bind fun t_ => ((laws_markIntS.f k (rd_T103 xs_ i_).f4 (wrap64 ((wrap64 ((wrap64 ((wrap64 (n_ + 1)) + 1)) + 1)) + 1))).bind fun p_ => laws_markNodeS.l0 k (xs_.set i_.toNat ⟨n_, (wrap64 (n_ + 1)), (wrap64 ((wrap64 (n_ + 1)) + 1)), t_, p_.2⟩) p_.1 (wrap64 (i_ + 1)))) else none) else some (n_, xs_)
def laws_markNodeS.f (k : Nat) (l0 : List S103) (a1 : Int) : Option (Int × List S103) := laws_markNodeS.l0 k l0 a1 0
set_option maxHeartbeats 8000000 in
set_option maxRecDepth 100000 in
theorem laws_markNodeS.calls (k : Nat) (P_ : Nat → Prop) (u_ : Value) (l0 : List S103) (a1 r1 : Int) (r2 : List S103) (w0 w : World) (hB : Below w0.heap.size w0 w) (ho : Kd.S k103 103 w w0.heap.size P_ u_ l0) (h : laws_markNodeS.f k l0 a1 = some (r1, r2)) :
    Calls Try.prog 84 #[u_, .int .i64 a1] w fun e w' => e = .returned (.int .i64 r1) ∧ Kd.S k103 103 w' w0.heap.size P_ u_ r2 ∧ Below w0.heap.size w0 w' ∧ Kept w w' P_ := by
  have huN := Try.underlying103
  obtain ⟨A, c0, rfl⟩ := Kd.S_slice ho
  obtain ⟨N, hN⟩ : ∃ N, N = l0.length := ⟨_, rfl⟩
  rw [← hN] at ho ⊢
  have HN := Aside0.mk hN.symm
  have HS := Aside0.mk ho
  have HB := Aside0.mk hB
  have HK := Aside0.mk (Kept.refl w P_)
  have H' := Aside0.mk (show laws_markNodeS.l0 k l0 a1 0 = some (r1, r2) from h)
  clear ho hB h hN
  go_enter Try.func84, Try.ntmps84
  go_wp2
  go_loopg [1, 5] k (fun kq v1 v5 w' => ∃ (n_ i_ : Int) (xs_ : List S103), v1 = .int .i64 n_ ∧ v5 = .int .i64 i_ ∧ Aside0 (laws_markNodeS.l0 kq xs_ n_ i_ = some (r1, r2)) ∧ Aside0 (kq ≤ k) ∧ Aside0 (xs_.length = N) ∧ Aside0 (Kd.S k103 103 w' w0.heap.size P_ (.slice A N c0) xs_) ∧ Aside0 (Below w0.heap.size w0 w') ∧ Aside0 (Kept w w' P_))
  case atStart => exact ⟨a1, 0, l0, by first | rfl | (simp; done), by first | rfl | (simp; done), H', ⟨Nat.le_refl _⟩, HN, HS, HB, HK⟩
  case round =>
    clear H' HS HB HK HN
    obtain ⟨n_, i_, xs_, rfl, rfl, HA, HK1, HL, HS, HB, HK⟩ := hrel
    cases gk with
    | zero => cases HA.out
    | succ k1 =>
      have H := HA.out
      clear HA
      simp only [laws_markNodeS.l0] at H
      obtain ⟨c1, H⟩ | ⟨c1, H⟩ := XW.Xiu H
      · obtain ⟨c2, H⟩ := XW.Xif H
        obtain ⟨t_, HT, H⟩ := XW.Xbi H
        (try dsimp only at H)
        obtain ⟨⟨n2, ks'⟩, HI, H⟩ := XW.Xbi H
        (try dsimp only at H)
        have H' := Aside0.mk H
        clear H
        have hL := HL.out
        have hp : 0 < xs_.length := by omega
        obtain ⟨g, cap, e_, hg, _, _⟩ := Kd.S_form HS.out hp
        injection e_ with e1 e2 e3
        subst e1 e3
        clear e2
        have c1' : i_ < (N : Int) := by omega
        obtain ⟨oki, ce, hcl, hM, _, _, hoki, hH⟩ := Kd.S_elem HS.out z103 i_ c2 c1'
        obtain ⟨v4, rfl, hr⟩ := k103_openM hM
        replace hr : (Kd.int .i64).R 3 _ w0.heap.size oki v4 (rd_T103 xs_ i_).f4 := hr
        obtain ⟨A4, c4, rfl⟩ := Kd.R_slice hr
        have M0 := Aside0.mk (show XR.MS k103 103 w w0 _ P_ oki g N c0 xs_ i_ [.int .i64 (rd_T103 xs_ i_).f0, .int .i64 (rd_T103 xs_ i_).f1, .int .i64 (rd_T103 xs_ i_).f2, .string (rd_T103 xs_ i_).f3, (.slice A4 (rd_T103 xs_ i_).f4.length c4)] (.slice A4 (rd_T103 xs_ i_).f4.length c4) (rd_T103 xs_ i_).f4 from ⟨hH, hr, fun k hk => (hoki k hk).2, (Kd.S_R HS.out).1 g (by simp [Value.ownBlock]), hcl, c2, c1', HK.out, HB.out, hg⟩)
        have b0 : decide (i_ < (N : Int)) = true := decide_eq_true c1'
        have b1 : decide (0 ≤ i_) = true := decide_eq_true c2
        have b2 : decide (i_ < 0) = false := decide_eq_false (by omega)
        have p1 := eq_true c2
        have p2 := eq_true c1'
        clear c1 hp hcl hM hoki hH hr HS HB HK hL hg c1' c2
        obtain ⟨⟨hx0, hx1, hx2, hx3, hx4⟩, hf0, hf1, hf2, hf3⟩ := M0.out.five rfl
        go_wp2_with (first
          | ((with_reducible refine gate_store (t := 3) (p := 16) rfl ?_); refine XR.Xst 3 16 ⟨g, i_.toNat * 5, none⟩ (.int .i64 n_) ?_; intro wa hw; have M1 := Aside0.mk (M0.out.put 0 (by decide) (.int .i64 n_) rfl (off := i_.toNat * 5) rfl hw); clear hw hx0 hx1 hx2 hx3 hx4 hf0 hf1 hf2 hf3 M0; obtain ⟨⟨hx0, hx1, hx2, hx3, hx4⟩, hf0, hf1, hf2, hf3⟩ := M1.out.five rfl)
          | ((with_reducible refine gate_store (t := 3) (p := 23) rfl ?_); refine XR.Xst 3 23 ⟨g, i_.toNat * 5 + 1, none⟩ (.int .i64 (wrap64 (n_ + 1))) ?_; intro wb hw; have M2 := Aside0.mk (M1.out.put 1 (by decide) (.int .i64 (wrap64 (n_ + 1))) rfl (off := i_.toNat * 5 + 1) rfl hw); clear hw hx0 hx1 hx2 hx3 hx4 hf0 hf1 hf2 hf3 M1; obtain ⟨⟨hx0, hx1, hx2, hx3, hx4⟩, hf0, hf1, hf2, hf3⟩ := M2.out.five rfl)
          | ((with_reducible refine gate_store (t := 3) (p := 30) rfl ?_); refine XR.Xst 3 30 ⟨g, i_.toNat * 5 + 2, none⟩ (.int .i64 (wrap64 ((wrap64 (n_ + 1)) + 1))) ?_; intro wc hw; have M3 := Aside0.mk (M2.out.put 2 (by decide) (.int .i64 (wrap64 ((wrap64 (n_ + 1)) + 1))) rfl (off := i_.toNat * 5 + 2) rfl hw); clear hw hx0 hx1 hx2 hx3 hx4 hf0 hf1 hf2 hf3 M2; obtain ⟨⟨hx0, hx1, hx2, hx3, hx4⟩, hf0, hf1, hf2, hf3⟩ := M3.out.five rfl)
          | ((with_reducible refine gate_callee (f := 72) rfl ?_); refine XW.Xgo 36 Try.func72 #[.int .i64 (wrap64 ((wrap64 ((wrap64 (n_ + 1)) + 1)) + 1))] ?_; (with_reducible refine (laws_markText.calls k1 (wrap64 ((wrap64 ((wrap64 (n_ + 1)) + 1)) + 1)) t_ _ HT.out).mono ?_); rintro e wd ⟨rfl, hb⟩; refine ⟨_, rfl, ?_⟩; have M4 := Aside0.mk (M3.out.over hb); clear hb hx0 hx1 hx2 hx3 hx4 hf0 hf1 hf2 hf3 M3; obtain ⟨⟨hx0, hx1, hx2, hx3, hx4⟩, hf0, hf1, hf2, hf3⟩ := M4.out.five rfl)
          | ((with_reducible refine gate_store (t := 9) (p := 38) rfl ?_); refine XR.Xst 9 38 ⟨g, i_.toNat * 5 + 3, none⟩ (.string t_) ?_; intro we hw; have M5 := Aside0.mk (M4.out.put 3 (by decide) (.string t_) rfl (off := i_.toNat * 5 + 3) rfl hw); clear hw hx0 hx1 hx2 hx3 hx4 hf0 hf1 hf2 hf3 M4; obtain ⟨⟨hx0, hx1, hx2, hx3, hx4⟩, hf0, hf1, hf2, hf3⟩ := M5.out.five rfl)
          | ((with_reducible refine gate_callee (f := 22) rfl ?_); refine XW.Xgo 47 Try.func22 #[.slice A4 (rd_T103 xs_ i_).f4.length c4, .int .i64 (wrap64 ((wrap64 ((wrap64 ((wrap64 (n_ + 1)) + 1)) + 1)) + 1))] ?_; (with_reducible refine (laws_markIntS.calls k1 (fun k_ => oki k_) _ (rd_T103 xs_ i_).f4 (wrap64 ((wrap64 ((wrap64 ((wrap64 (n_ + 1)) + 1)) + 1)) + 1)) n2 ks' w0 _ M5.out.below M5.out.r HI.out).mono ?_); rintro e wf ⟨rfl, hr, hb, hk⟩; refine ⟨_, rfl, ?_⟩; have M6 := Aside0.mk (M5.out.kids hr hb hk); clear hr hb hk hx0 hx1 hx2 hx3 hx4 hf0 hf1 hf2 hf3 M5))
        go_roundg k1
        case measure => have := HK1.out; omega
        case rel => exact ⟨n2, wrap64 (i_ + 1), _, by first | rfl | (simp; done) | (simp [*]; done), by first | rfl | (simp; done) | (simp [*]; done), H', ⟨by have := HK1.out; omega⟩, ⟨by rw [List.length_set]; exact HL.out⟩, ⟨Kd.H_back M6.out.h (k103_mkM _ _ _ ⟨n_, (wrap64 (n_ + 1)), (wrap64 ((wrap64 (n_ + 1)) + 1)), t_, ks'⟩ M6.out.r) (fun _ hk => hk)⟩, ⟨M6.out.below⟩, ⟨M6.out.kept⟩⟩
      · simp only [Option.some.injEq, Prod.mk.injEq] at H
        obtain ⟨rfl, rfl⟩ := H
        have hL := HL.out
        have b0 : decide (i_ < (N : Int)) = false := decide_eq_false (by omega)
        clear hL c1
        go_wp2
        go_ret
        exact ⟨by first | rfl | (simp; done) | (simp [*]; done), HS.out, HB.out, HK.out⟩
def laws_markDoc.f (k : Nat) (a0_0 a0_1 : Int) (l0 : List S103) (a1 : Int) : Option (Int × List S103) := laws_markNodeS.f k l0 a1
set_option maxHeartbeats 8000000 in
set_option maxRecDepth 100000 in
theorem laws_markDoc.calls (k : Nat) (a0_0 a0_1 : Int) (P_ : Nat → Prop) (u_ : Value) (l0 : List S103) (a1 r1 : Int) (r2 : List S103) (w0 w : World) (hB : Below w0.heap.size w0 w) (ho : Kd.S k103 103 w w0.heap.size P_ u_ l0) (h : laws_markDoc.f k a0_0 a0_1 l0 a1 = some (r1, r2)) :
    Calls Try.prog 38 #[.agg #[.int .i64 a0_0, .int .i64 a0_1, u_], .int .i64 a1] w fun e w' => e = .returned (.int .i64 r1) ∧ Kd.S k103 103 w' w0.heap.size P_ u_ r2 ∧ Below w0.heap.size w0 w' ∧ Kept w w' P_ := by
  have huD := Try.underlying65
  obtain ⟨A, c0, rfl⟩ := Kd.S_slice ho
  have HS := Aside0.mk ho
  have HB := Aside0.mk hB
  have HH := Aside0.mk (show laws_markNodeS.f k l0 a1 = some (r1, r2) from h)
  clear ho hB h
  go_enter Try.func38, Try.ntmps38
  go_wp2_with (first
    | ((with_reducible refine gate_dst (N := 2) rfl ?_); refine XW.Xbox 2 #[.int .i64 a0_0, .int .i64 a0_1, .slice A l0.length c0] 65 ?_; intro gb hg wa hbox hb; have BK := Aside0.mk hbox; replace HS := Aside0.mk (Kd.S_below HS.out hb); replace HB := Aside0.mk (below_step HB.out hb); have HK := Aside0.mk (Kept.of_below hb P_); clear hg hbox hb; obtain ⟨hx0, hx1, hx2⟩ := XW.Xc3 BK)
    | ((with_reducible refine gate_callee (f := 84) rfl ?_); refine XW.Xgo 8 Try.func84 #[.slice A l0.length c0, .int .i64 a1] ?_; (with_reducible refine (laws_markNodeS.calls k P_ _ l0 a1 r1 r2 w0 _ HB.out HS.out HH.out).mono ?_); rintro e wb ⟨rfl, hs, hb, hk⟩; refine ⟨_, rfl, ?_⟩; replace HS := Aside0.mk hs; replace HB := Aside0.mk hb; replace HK := Aside0.mk (HK.out.then_ hk (fun k hk' => .inl hk')); clear hs hb hk hx0 hx1 hx2))
  go_ret
  exact ⟨by first | rfl | (simp; done) | (simp [*]; done), HS.out, HB.out, HK.out⟩
end Go.Proofs.Ythkbgbkglgmpoaa.XA
end
