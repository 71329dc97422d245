/- Words and contracts of this claim, put together out of several texts by a program of this session's. Conditions: each theorem's own premises. -/
import Derived.Test.YthkbgbkglgmpoaaZ3
import Derived.Test.YthkbgbkglgmpoaaZ1
section
namespace Go.Proofs.Ythkbgbkglgmpoaa.XA
set_option linter.unusedVariables false
open Go.RowKit Go.Proofs.YthkbgbkglgmpoaaW.PrintWords Go.Proofs.YthkbgbkglgmpoaaW.PrintLast Go.Proofs.YthkbgbkglgmpoaaW.PrintMore
def impl_Doc_find.f (k : Nat) (a0_0 : Int) (a0_1 : Int) (l0_2 : List S103) (a1 : Int) : Option Int :=
  (slices_BinarySearchFunc_impl_Node_impl_Node_int_at_impl_Doc_find_1.f k l0_2 a1).bind fun t => if t.2 = true then (if 0 ≤ t.1 then (if t.1 < (l0_2.length : Int) then some t.1 else none) else none) else some (-1)
set_option maxHeartbeats 8000000 in
set_option maxRecDepth 100000 in
theorem impl_Doc_find.calls (k : Nat) (g0_ : Nat) (a0_0 : Int) (a0_1 : Int) (A0_2 : Option Addr) (c0_2 : Nat) (l0_2 : List (S103)) (a1 : Int) (r : Int) (w : World) (hg0_ : w.heap[g0_]? = some (.cells #[.int .i64 a0_0, .int .i64 a0_1, .slice A0_2 l0_2.length c0_2] 65 (0, 0))) (hr0_2 : Kd.C k103 w A0_2 l0_2.length l0_2) (hc0_2 : l0_2.length ≤ c0_2) (h : impl_Doc_find.f k a0_0 a0_1 l0_2 a1 = some r) :
    Calls Try.prog 80 #[.pointer (some ⟨g0_, 0, none⟩), .int .i64 a1] w fun e w' => ∃ p : Option Addr, e = .returned (.pointer p) ∧ (r < 0 → p = none) ∧ (0 ≤ r → ∃ ad, A0_2 = some ad ∧ p = some (ad.add (r.toNat * 5))) ∧ Below w.heap.size w w' := by
  have HR := Aside0.mk hr0_2
  have HC := Aside0.mk hc0_2
  have HB := Aside0.mk (Below.refl w.heap.size w)
  have hcz_2 : w.cell? ⟨g0_, 2, none⟩ = some (.slice A0_2 l0_2.length c0_2) := (blk_cell hg0_ 2).trans rfl
  have hfz_2 := blk_frozen hg0_ 2
  clear hr0_2 hc0_2
  obtain ⟨⟨i, ok⟩, hbs, h⟩ := Option.bind_eq_some_iff.mp h
  have A1 := Aside0.mk hbs
  clear hbs
  cases ok with
  | false =>
    obtain rfl : -1 = r := by simpa using h
    clear h
    go_enter Try.func80, Try.ntmps80
    go_wp2_with (first | ((with_reducible refine gate_callee (f := 122) rfl ?_); refine goesL_ (some 13) rfl rfl Try.func122 (by kernel_rfl) rfl #[.slice A0_2 l0_2.length c0_2, .int .i64 a1, .func (.func 123) #[] #[]] rfl (by (try simp only [List.map_toArray, List.map_cons, List.map_nil]); first | done | rfl) ?_; (with_reducible refine (slices_BinarySearchFunc_impl_Node_impl_Node_int_at_impl_Doc_find_1.calls k _ _ l0_2 a1 i false _ ?side1 ?side2 A1.out).mono ?_); (case side1 => exact HR.out); (case side2 => exact HC.out); rintro e w2 ⟨rfl, hb⟩; refine ⟨_, rfl, ?_⟩))
    go_ret
    exact ⟨none, by first | rfl | simp, fun _ => rfl, fun h0 => absurd h0 (by decide), hb⟩
  | true =>
    have h0 : 0 ≤ i ∧ i < (l0_2.length : Int) ∧ i = r := by
      simp only [if_true] at h
      by_cases p : 0 ≤ i
      · rw [if_pos p] at h
        by_cases q : i < (l0_2.length : Int)
        · rw [if_pos q] at h; exact ⟨p, q, Option.some.inj h⟩
        · rw [if_neg q] at h; cases h
      · rw [if_neg p] at h; cases h
    obtain ⟨p0, q0, rfl⟩ := h0
    clear h
    obtain ⟨ad, hA⟩ : ∃ ad, A0_2 = some ad := by
      obtain ⟨ad, _, _, e, _⟩ := at_T103 HR.out i p0 q0
      exact ⟨ad, e⟩
    subst hA
    have p1 := eq_true p0
    have q1 := eq_true q0
    go_enter Try.func80, Try.ntmps80
    go_wp2_with (first | ((with_reducible refine gate_callee (f := 122) rfl ?_); refine goesL_ (some 13) rfl rfl Try.func122 (by kernel_rfl) rfl #[.slice (some ad) l0_2.length c0_2, .int .i64 a1, .func (.func 123) #[] #[]] rfl (by (try simp only [List.map_toArray, List.map_cons, List.map_nil]); first | done | rfl) ?_; (with_reducible refine (slices_BinarySearchFunc_impl_Node_impl_Node_int_at_impl_Doc_find_1.calls k _ _ l0_2 a1 i true _ ?side1 ?side2 A1.out).mono ?_); (case side1 => exact HR.out); (case side2 => exact HC.out); rintro e w2 ⟨rfl, hb⟩; refine ⟨_, rfl, ?_⟩; have hczw := (hb.cell (World.block_lt_of_cell? w _ hcz_2)).trans hcz_2))
    go_ret
    exact ⟨_, by first | rfl | simp, fun h0 => absurd p0 (by omega), fun _ => ⟨ad, rfl, rfl⟩, hb⟩
end Go.Proofs.Ythkbgbkglgmpoaa.XA
end
namespace Go.Proofs.Ythkbgbkglgmpoaa.XA
open Go.RowKit Go.Proofs.YthkbgbkglgmpoaaW.PrintWords Go.Proofs.YthkbgbkglgmpoaaW.PrintLast Go.Proofs.YthkbgbkglgmpoaaW.PrintMore XW
attribute [local go_sem] max2_int min2_int max_two min_two max_three min_three max_four min_four   -- for this text's walks alone
set_option linter.unusedVariables false
set_option linter.unusedSimpArgs false
set_option maxHeartbeats 8000000
set_option maxRecDepth 100000
def impl_Doc_has.f (k : Nat) (a0_0 : Int) (a0_1 : Int) (l0_2 : List (S103)) (a1 : Int) : Option (Bool) := (impl_Doc_find.f k a0_0 a0_1 l0_2 a1).bind fun t373 => (if t373 < 0 then (some false) else (some true))
theorem impl_Doc_has.calls (k : Nat) (g0_ : Nat) (a0_0 : Int) (a0_1 : Int) (A0_2 : Option Addr) (c0_2 : Nat) (l0_2 : List (S103)) (a1 : Int) (r : Bool) (w : World) (hg0_ : w.heap[g0_]? = some (.cells #[.int .i64 a0_0, .int .i64 a0_1, .slice A0_2 l0_2.length c0_2] 65 (0, 0))) (hr0_2 : Kd.C k103 w A0_2 l0_2.length l0_2) (hc0_2 : l0_2.length ≤ c0_2) (h : impl_Doc_has.f k a0_0 a0_1 l0_2 a1 = some r) :
  Calls Try.prog 121 #[.pointer (some ⟨g0_, 0, none⟩), .int .i64 a1] w fun e w' => e = .returned (.bool r) ∧ Below w.heap.size w w' := by
 have HR0_2 := Aside0.mk hr0_2
 have HC0_2 := Aside0.mk hc0_2
 clear hr0_2 hc0_2
 have BK0 := Aside0.mk hg0_
 clear hg0_
 have HB := Aside0.mk (Below.refl w.heap.size w)
 have H : ((impl_Doc_find.f k a0_0 a0_1 l0_2 a1).bind fun t373 => (if t373 < 0 then (some false) else (some true))) = some r := h
 clear h
 obtain ⟨t373, A3, H⟩ := Xbi H
 (try dsimp only at H)
 obtain ⟨c4b0, H⟩ | ⟨c4b0, H⟩ := Xit H
 ·obtain rfl := Option.some.inj H
  go_enter Try.func121, Try.ntmps121
  go_wp2_with (first | ((with_reducible refine gate_callee (f := 80) rfl ?_); refine Xgo 7 Try.func80 #[.pointer (some ⟨g0_, 0, none⟩), .int .i64 a1] ?_; (with_reducible refine (impl_Doc_find.calls k g0_ a0_0 a0_1 A0_2 c0_2 l0_2 a1 t373 _ ?side1 ?side2 ?side3 A3.out).mono ?_); (case side1 => exact BK0.out); (case side2 => repeat (first | exact HR0_2.out | (with_reducible first | refine Kd.C_alloc ?_ _ | refine Kd.C_drewN ?_ _ | refine Kd.C_drew ?_))); (case side3 => exact HC0_2.out); rintro e w5 ⟨pF, rfl, hpn, hps, hb⟩; refine ⟨_, rfl, ?_⟩; obtain rfl := hpn (of_decide_eq_true Xa); clear hps; replace BK0 := Xbb BK0 hb; replace HB := Aside0.mk (below_step Xi hb); clear hb))
  go_ret
  exact ⟨Xe, Xi⟩
 obtain rfl := Option.some.inj H
 go_enter Try.func121, Try.ntmps121
 go_wp2_with (first | ((with_reducible refine gate_callee (f := 80) rfl ?_); refine Xgo 7 Try.func80 #[.pointer (some ⟨g0_, 0, none⟩), .int .i64 a1] ?_; (with_reducible refine (impl_Doc_find.calls k g0_ a0_0 a0_1 A0_2 c0_2 l0_2 a1 t373 _ ?side1 ?side2 ?side3 A3.out).mono ?_); (case side1 => exact BK0.out); (case side2 => repeat (first | exact HR0_2.out | (with_reducible first | refine Kd.C_alloc ?_ _ | refine Kd.C_drewN ?_ _ | refine Kd.C_drew ?_))); (case side3 => exact HC0_2.out); rintro e w6 ⟨pF, rfl, hpn, hps, hb⟩; refine ⟨_, rfl, ?_⟩; obtain ⟨adf7, hae, rfl⟩ := hps (Int.not_lt.mp (of_decide_eq_false Xa)); clear hpn; cases hae; replace BK0 := Xbb BK0 hb; replace HB := Aside0.mk (below_step Xi hb); clear hb))
 go_ret
 exact ⟨Xe, Xi⟩
mutual
def impl_Doc_depth.l0 : Nat → Int → Int → List Int → Int → Int → Int → Int → List (S103) → Option (Int)
 | 0, _, _, _, _, _, _, _, _ => none
 | k + 1, x2, x7, x17, x18, x19, x1000, x1001, x1002 => if x19 < x18 then (if 0 ≤ x19 then (if x19 < (x17.length : Int) then ((impl_Doc_depth.f k x1000 x1001 x1002 (rd x17 x19) (wrap64 (x2 + 1))).bind fun t377 => (impl_Doc_depth.l0 k x2 (mx x7 t377) x17 x18 (wrap64 (x19 + 1)) x1000 x1001 x1002)) else (none)) else (none)) else (some (wrap64 (x7 + 1)))
def impl_Doc_depth.f : Nat → Int → Int → List (S103) → Int → Int → Option (Int)
 | 0, _, _, _, _, _ => none
 | k + 1, a0_0, a0_1, l0_2, a1, a2 => if a2 > 6 then (some 0) else ((impl_Doc_find.f k a0_0 a0_1 l0_2 a1).bind fun t374 => (if t374 < 0 then (none) else (if 0 ≤ t374 then (if t374 < (l0_2.length : Int) then (impl_Doc_depth.l0 k a2 0 ((rd_T103 l0_2 t374).f4) (((rd_T103 l0_2 t374).f4).length : Int) 0 a0_0 a0_1 l0_2) else (none)) else (none))))
end
theorem impl_Doc_depth.calls (k : Nat) : ∀ (g0_ : Nat) (a0_0 : Int) (a0_1 : Int) (A0_2 : Option Addr) (c0_2 : Nat) (l0_2 : List (S103)) (a1 : Int) (a2 : Int) (r : Int) (w : World) (hg0_ : w.heap[g0_]? = some (.cells #[.int .i64 a0_0, .int .i64 a0_1, .slice A0_2 l0_2.length c0_2] 65 (0, 0))) (hr0_2 : Kd.C k103 w A0_2 l0_2.length l0_2) (hc0_2 : l0_2.length ≤ c0_2) (h : impl_Doc_depth.f k a0_0 a0_1 l0_2 a1 a2 = some r),
  Calls Try.prog 155 #[.pointer (some ⟨g0_, 0, none⟩), .int .i64 a1, .int .i64 a2] w fun e w' => e = .returned (.int .i64 r) ∧ Below w.heap.size w w' := by
 induction k using Nat.strongRecOn with
 | _ k ih =>
 intro g0_ a0_0 a0_1 A0_2 c0_2 l0_2 a1 a2 r w hg0_ hr0_2 hc0_2 h
 cases k with
 | zero => exact absurd h (by simp [impl_Doc_depth.f])
 | succ k =>
 simp only [impl_Doc_depth.f] at h
 have HR0_2 := Aside0.mk hr0_2
 have HC0_2 := Aside0.mk hc0_2
 clear hr0_2 hc0_2
 have BK0 := Aside0.mk hg0_
 clear hg0_
 have HB := Aside0.mk (Below.refl w.heap.size w)
 have H : (if a2 > 6 then (some 0) else ((impl_Doc_find.f k a0_0 a0_1 l0_2 a1).bind fun t374 => (if t374 < 0 then (none) else (if 0 ≤ t374 then (if t374 < (l0_2.length : Int) then (impl_Doc_depth.l0 k a2 0 ((rd_T103 l0_2 t374).f4) (((rd_T103 l0_2 t374).f4).length : Int) 0 a0_0 a0_1 l0_2) else (none)) else (none))))) = some r := h
 clear h
 obtain ⟨c4, H⟩ | ⟨c4, H⟩ := Xiu H
 ·have c4b0 : decide (6 < a2) = true := decide_eq_true c4
  clear c4
  obtain rfl := Option.some.inj H
  go_enter Try.func155, Try.ntmps155
  go_wp2
  go_ret
  exact ⟨Xe, Xi⟩
 have c4b0 : decide (6 < a2) = false := decide_eq_false c4
 clear c4
 obtain ⟨t374, A5, H⟩ := Xbi H
 (try dsimp only at H)
 obtain ⟨c6b0, H⟩ | ⟨c6b0, H⟩ := Xit H
 ·exact absurd H (by simp)
 obtain ⟨c7, H⟩ | ⟨c7, H⟩ := Xiu H
 ·have c7b0 : decide (0 ≤ t374) = true := decide_eq_true c7
  clear c7
  obtain ⟨c8b0, H⟩ := Xid H
  have H' := Aside0.mk H
  clear H
  go_enter Try.func155, Try.ntmps155
  go_wp2_with (first | ((with_reducible refine gate_callee (f := 80) rfl ?_); refine Xgo 14 Try.func80 #[.pointer (some ⟨g0_, 0, none⟩), .int .i64 a1] ?_; (with_reducible refine (impl_Doc_find.calls k g0_ a0_0 a0_1 A0_2 c0_2 l0_2 a1 t374 _ ?side1 ?side2 ?side3 A5.out).mono ?_); (case side1 => exact BK0.out); (case side2 => repeat (first | exact HR0_2.out | (with_reducible first | refine Kd.C_alloc ?_ _ | refine Kd.C_drewN ?_ _ | refine Kd.C_drew ?_))); (case side3 => exact HC0_2.out); rintro e w9 ⟨pF, rfl, hpn, hps, hb⟩; refine ⟨_, rfl, ?_⟩; obtain ⟨adf10, hae, rfl⟩ := hps (Int.not_lt.mp (of_decide_eq_false Xa)); clear hpn; cases hae; replace BK0 := Xbb BK0 hb; replace HB := Aside0.mk (below_step Xi hb); clear hb; have p375 : 0 ≤ (t374 : Int) := of_decide_eq_true Xa; have q375 : t374 < (l0_2.length : Int) := of_decide_eq_true Xa; obtain ⟨ad375, A375_4, c375_4, e375, hx375_0, hx375_1, hx375_2, hx375_3, hx375_4, hl375_4, hi375_4⟩ := at_T103 HR0_2.out t374 p375 q375; obtain rfl : adf10 = ad375 := (by injection e375); replace hx375_0 := Xm HB hx375_0; replace hx375_1 := Xm HB hx375_1; replace hx375_2 := Xm HB hx375_2; replace hx375_3 := Xm HB hx375_3; replace hx375_4 := Xm HB hx375_4; have HR375_4 := Aside0.mk hi375_4; have HC375_4 := Aside0.mk hl375_4; clear hi375_4 hl375_4; replace p375 := eq_true p375; replace q375 := eq_true q375))
  go_loopg [7, 19] k (fun kq v7 v19 w' => ∃ (x7_1 : Int) (x19_1 : Int), v7 = .int .i64 x7_1 ∧ v19 = .int .i64 x19_1 ∧ Aside0 (impl_Doc_depth.l0 kq a2 x7_1 ((rd_T103 l0_2 t374).f4) (((rd_T103 l0_2 t374).f4).length : Int) x19_1 a0_0 a0_1 l0_2 = some r) ∧ Aside0 (kq ≤ k) ∧ Aside0 (w'.heap[g0_]? = some (.cells #[.int .i64 a0_0, .int .i64 a0_1, (.slice (some adf10) l0_2.length c0_2)] 65 (0, 0))) ∧ Aside0 (Below w.heap.size w w'))
  case atStart => exact ⟨(0), (0), Xr, Xr, H', Xkr, BK0, ⟨Xi⟩⟩
  clear H'
  (try clear c4); (try clear c4b0); (try clear c6); (try clear c6b0); (try clear c7); (try clear c7b0); (try clear c8); (try clear c8b0); (try clear hx375_0); (try clear hx375_1); (try clear hx375_2); (try clear hx375_3); (try clear hx375_4); (try clear p375); (try clear q375)
  obtain ⟨x7_1, x19_1, rfl, rfl, HA, HK1, BK0, HB⟩ := hrel
  cases gk with | zero => cases HA.out | succ k1 => ?_
  have H := HA.out
  clear HA
  simp only [impl_Doc_depth.l0] at H
  obtain ⟨c11b0, H⟩ | ⟨c11b0, H⟩ := Xit H
  ·obtain ⟨c12b0, H⟩ := Xid H
   obtain ⟨c13b0, H⟩ := Xid H
   obtain ⟨t377, A14, H⟩ := Xbi H
   (try dsimp only at H)
   obtain ⟨ji15, hji15⟩ : ∃ j_ : Int, (mx x7_1 t377) = j_ := ⟨_, rfl⟩
   replace H : (impl_Doc_depth.l0 k1 a2 ji15 ((rd_T103 l0_2 t374).f4) (((rd_T103 l0_2 t374).f4).length : Int) (wrap64 (x19_1 + 1)) a0_0 a0_1 l0_2) = some r := by first | (rw [hji15] at H; exact H) | (simp only [hji15] at H ⊢; exact H)
   (try rw [hji15] at A14)
   have hji15_ : (if x7_1 < t377 then t377 else x7_1) = ji15 := hji15
   have H' := Aside0.mk H
   clear H
   have p376 : 0 ≤ (x19_1 : Int) := of_decide_eq_true Xa
   have q376 : x19_1 < (((rd_T103 l0_2 t374).f4).length : Int) := of_decide_eq_true Xa
   obtain ⟨ad376, e376, hx376_0⟩ := Kd.at_int HR375_4.out x19_1 p376 q376
   cases e376
   replace hx376_0 := Xm HB hx376_0
   replace p376 := eq_true p376
   replace q376 := eq_true q376
   go_wp2_with (first | ((with_reducible refine gate_callee (f := 155) rfl ?_); refine Xgo 28 Try.func155 #[.pointer (some ⟨g0_, 0, none⟩), .int .i64 (rd ((rd_T103 l0_2 t374).f4) x19_1), .int .i64 (wrap64 (a2 + 1))] ?_; (with_reducible refine (ih k1 (by have := HK1.out; omega) g0_ a0_0 a0_1 (some adf10) c0_2 l0_2 (rd ((rd_T103 l0_2 t374).f4) x19_1) (wrap64 (a2 + 1)) t377 _ ?side1 ?side2 ?side3 A14.out).mono ?_); (case side1 => exact BK0.out); (case side2 => exact Xc HR0_2); (case side3 => exact HC0_2.out); rintro e w16 ⟨rfl, hb⟩; refine ⟨_, rfl, ?_⟩; replace BK0 := Xbb BK0 hb; replace HB := Aside0.mk (below_step Xi hb); clear hb))
   go_roundg k1
   case measure => have := HK1.out; omega
   case rel => exact ⟨(ji15), (wrap64 (x19_1 + 1)), (by first | rfl | (simp; done) | (simp only [← hji15] <;> (first | rfl | simp)) | (simp [*]; done)), Xr, H', Xk1, BK0, ⟨Xi⟩⟩
  obtain rfl := Option.some.inj H
  go_wp2
  go_ret
  exact ⟨Xe, Xi⟩
 exact absurd H (by simp)
def impl_Doc_isDeep.f (k : Nat) (a0_0 : Int) (a0_1 : Int) (l0_2 : List (S103)) : Option (Bool) := (impl_Doc_depth.f k a0_0 a0_1 l0_2 a0_0 0).bind fun t378 => (some (decide (t378 > 6)))
theorem impl_Doc_isDeep.calls (k : Nat) (g0_ : Nat) (a0_0 : Int) (a0_1 : Int) (A0_2 : Option Addr) (c0_2 : Nat) (l0_2 : List (S103)) (r : Bool) (w : World) (hg0_ : w.heap[g0_]? = some (.cells #[.int .i64 a0_0, .int .i64 a0_1, .slice A0_2 l0_2.length c0_2] 65 (0, 0))) (hr0_2 : Kd.C k103 w A0_2 l0_2.length l0_2) (hc0_2 : l0_2.length ≤ c0_2) (h : impl_Doc_isDeep.f k a0_0 a0_1 l0_2 = some r) :
  Calls Try.prog 133 #[.pointer (some ⟨g0_, 0, none⟩)] w fun e w' => e = .returned (.bool r) ∧ Below w.heap.size w w' := by
 have HR0_2 := Aside0.mk hr0_2
 have HC0_2 := Aside0.mk hc0_2
 clear hr0_2 hc0_2
 have BK0 := Aside0.mk hg0_
 clear hg0_
 have HB := Aside0.mk (Below.refl w.heap.size w)
 have H : ((impl_Doc_depth.f k a0_0 a0_1 l0_2 a0_0 0).bind fun t378 => (some (decide (t378 > 6)))) = some r := h
 clear h
 obtain ⟨t378, A2, H⟩ := Xbi H
 (try dsimp only at H)
 obtain rfl := Option.some.inj H
 obtain ⟨hcz3_0, hcz3_1, hcz3_2⟩ := Xc3 BK0
 go_enter Try.func133, Try.ntmps133
 go_wp2_with (first | ((with_reducible refine gate_callee (f := 155) rfl ?_); refine Xgo 8 Try.func155 #[.pointer (some ⟨g0_, 0, none⟩), .int .i64 a0_0, .int .i64 0] ?_; (with_reducible refine (impl_Doc_depth.calls k g0_ a0_0 a0_1 A0_2 c0_2 l0_2 a0_0 0 t378 _ ?side1 ?side2 ?side3 A2.out).mono ?_); (case side1 => exact BK0.out); (case side2 => repeat (first | exact HR0_2.out | (with_reducible first | refine Kd.C_alloc ?_ _ | refine Kd.C_drewN ?_ _ | refine Kd.C_drew ?_))); (case side3 => exact HC0_2.out); rintro e w4 ⟨rfl, hb⟩; refine ⟨_, rfl, ?_⟩; replace BK0 := Xbb BK0 hb; replace HB := Aside0.mk (below_step Xi hb); clear hb))
 go_ret
 exact ⟨Xe, Xi⟩
mutual
def impl_Doc_order.l0 : Nat → List Int → List Int → Int → Int → Int → Int → List (S103) → Option (List Int)
 | 0, _, _, _, _, _, _, _ => none
 | k + 1, x1, x18, x19, x20, x1000, x1001, x1002 => if x20 < x19 then (if 0 ≤ x20 then (if x20 < (x18.length : Int) then ((impl_Doc_order.f k x1000 x1001 x1002 x1 (rd x18 x20)).bind fun t385 => (impl_Doc_order.l0 k t385 x18 x19 (wrap64 (x20 + 1)) x1000 x1001 x1002)) else (none)) else (none)) else (some x1)
def impl_Doc_order.f : Nat → Int → Int → List (S103) → List Int → Int → Option (List Int)
 | 0, _, _, _, _, _ => none
 | k + 1, a0_0, a0_1, l0_2, l1, a2 => if l1.length < 17592186044416 then ((impl_Doc_find.f k a0_0 a0_1 l0_2 a2).bind fun t382 => (if t382 < 0 then (none) else (if 0 ≤ t382 then (if t382 < (l0_2.length : Int) then (impl_Doc_order.l0 k (l1 ++ [a2]) ((rd_T103 l0_2 t382).f4) (((rd_T103 l0_2 t382).f4).length : Int) 0 a0_0 a0_1 l0_2) else (none)) else (none)))) else (none)
end
theorem impl_Doc_order.calls (k : Nat) : ∀ (g0_ : Nat) (a0_0 : Int) (a0_1 : Int) (A0_2 : Option Addr) (c0_2 : Nat) (l0_2 : List (S103)) (P1_ : Nat → Prop) (u9000_ : Value) (l1 : List Int) (a2 : Int) (r : List Int) (w0 w : World) (hB : Below w0.heap.size w0 w) (hg0_ : w.heap[g0_]? = some (.cells #[.int .i64 a0_0, .int .i64 a0_1, .slice A0_2 l0_2.length c0_2] 65 (0, 0))) (hr0_2 : ∀ W_, Kept w W_ (fun k_ => P1_ k_) → Kd.C k103 W_ A0_2 l0_2.length l0_2) (hc0_2 : l0_2.length ≤ c0_2) (ho1 : Kd.R (Kd.int .i64) 3 w w0.heap.size P1_ u9000_ l1) (h : impl_Doc_order.f k a0_0 a0_1 l0_2 l1 a2 = some r),
  Calls Try.prog 134 #[.pointer (some ⟨g0_, 0, none⟩), u9000_, .int .i64 a2] w fun e w' => ∃ v0_ : Value, e = .returned (v0_) ∧ Kd.R (Kd.int .i64) 3 w' w0.heap.size (fun k_ => (P1_ k_ ∨ w.heap.size ≤ k_)) v0_ r ∧ Below w0.heap.size w0 w' ∧ Kept w w' (fun k_ => P1_ k_) := by
 induction k using Nat.strongRecOn with
 | _ k ih =>
 intro g0_ a0_0 a0_1 A0_2 c0_2 l0_2 P1_ u9000_ l1 a2 r w0 w hB hg0_ hr0_2 hc0_2 ho1 h
 cases k with
 | zero => exact absurd h (by simp [impl_Doc_order.f])
 | succ k =>
 simp only [impl_Doc_order.f] at h
 have HR0_2 := Aside0.mk hr0_2
 have HC0_2 := Aside0.mk hc0_2
 clear hr0_2 hc0_2
 have HO1 := Aside0.mk (show Kd.R (Kd.int .i64) 3 w w0.heap.size (fun k_ => (P1_ k_ ∨ w.heap.size ≤ k_)) u9000_ l1 from Kd.R_mono ho1 (fun k_ hk => (.inl hk)))
 have BK0 := Aside0.mk hg0_
 clear hg0_
 have HK := Aside0.mk (Kept.refl w (fun k_ => P1_ k_))
 have HW0 := Aside0.mk hB.size
 have HB := Aside0.mk hB
 clear hB
 have H : (if l1.length < 17592186044416 then ((impl_Doc_find.f k a0_0 a0_1 l0_2 a2).bind fun t382 => (if t382 < 0 then (none) else (if 0 ≤ t382 then (if t382 < (l0_2.length : Int) then (impl_Doc_order.l0 k (l1 ++ [a2]) ((rd_T103 l0_2 t382).f4) (((rd_T103 l0_2 t382).f4).length : Int) 0 a0_0 a0_1 l0_2) else (none)) else (none)))) else (none)) = some r := h
 clear h
 obtain ⟨c4, H⟩ | ⟨c4, H⟩ := Xiu H
 ·have LMc4 := Aside0.mk c4
  clear c4
  obtain ⟨y379, hy379⟩ : ∃ y_ : List Int, y_ = (l1 ++ [a2]) := ⟨_, rfl⟩
  replace H : ((impl_Doc_find.f k a0_0 a0_1 l0_2 a2).bind fun t382 => (if t382 < 0 then (none) else (if 0 ≤ t382 then (if t382 < (l0_2.length : Int) then (impl_Doc_order.l0 k y379 ((rd_T103 l0_2 t382).f4) (((rd_T103 l0_2 t382).f4).length : Int) 0 a0_0 a0_1 l0_2) else (none)) else (none)))) = some r := by first | (rw [hy379]; with_reducible exact H) | (have H2_ := (Option.bind_some _ _).symm.trans H; rw [hy379]; with_reducible exact H2_) | (have H2_ := (Option.bind_some _ _).symm.trans H; with_reducible exact H2_) | with_reducible exact H | (rw [hy379]; exact H) | exact H
  have Ny379 := Aside0.mk hy379
  clear hy379
  obtain ⟨t382, A5, H⟩ := Xbi H
  (try dsimp only at H)
  obtain ⟨c6b0, H⟩ | ⟨c6b0, H⟩ := Xit H
  ·exact absurd H (by simp)
  obtain ⟨c7b0, H⟩ := Xid H
  obtain ⟨c8b0, H⟩ := Xid H
  have H' := Aside0.mk H
  clear H
  go_enter Try.func134, Try.ntmps134
  go_wp2_with (first | ((with_reducible refine gate_builtin (b := .append) (xs := #[.tmp 9, .tmp 11]) rfl ?_); at_builtin; refine Kd.R_append (Kd.int .i64) (w0 := w0) w0.heap.size rfl (.tmp 9) (.tmp 11) 39 3 (.int .i64 0) 8 rfl Try.underlying39 info3 rfl (by decide) (by omega) u9000_ l1 a2 [.int .i64 a2] (fun k_ => (P1_ k_ ∨ w.heap.size ≤ k_)) (fun _ => False) rfl rfl ?aP (fun _ hk => hk.elim) ?aF ?aO ?aB ?aS ?aL ?_; (case aP => exact rfl); (case aB => exact Xi); (case aF => exact (fun k_ hk => (.inr (Nat.le_trans (by first | exact HK.out.1 | exact (show Kept w _ (fun k_ => P1_ k_) from by repeat first | (with_reducible first | exact HK.out | apply Kept.alloc | apply Kept.drewN | apply Kept.drew | refine Kept.setCell ?_ (.inr GW0.out) _) | exact HK.out).1) hk)))); (case aO => exact (Xq HO1)); (case aS => exact (below_size Xi)); (case aL => have := LMc4.out; omega); intro v380 w9 ho hb hg hat; rw [← Ny379.out] at ho; replace BK0 := Aside0.mk (blk_grown (g := g0_) (o := .cells #[.int .i64 a0_0, .int .i64 a0_1, .slice A0_2 l0_2.length c0_2] 65 (0, 0)) (Xq' BK0) hg (Kd.R_ne HO1.out BK0.out (by decide))); replace HB := Aside0.mk (hb); replace HK := Aside0.mk (Kept.of_grown (S := (fun k_ => P1_ k_)) hg (by repeat first | (with_reducible first | exact HK.out | apply Kept.alloc | apply Kept.drewN | apply Kept.drew | refine Kept.setCell ?_ (.inr GW0.out) _) | exact HK.out) (fun k_ e_ => (HO1.out.1 k_ e_))); have HO381 := Aside0.mk (ho); clear HO1; clear ho hb hg hat) | ((with_reducible refine gate_callee (f := 80) rfl ?_); refine Xgo 15 Try.func80 #[.pointer (some ⟨g0_, 0, none⟩), .int .i64 a2] ?_; (with_reducible refine (impl_Doc_find.calls k g0_ a0_0 a0_1 A0_2 c0_2 l0_2 a2 t382 _ ?side1 ?side2 ?side3 A5.out).mono ?_); (case side1 => exact (Xq' BK0)); (case side2 => exact Kd.C_kept_now HR0_2.out (by repeat first | (with_reducible first | exact HK.out | apply Kept.alloc | apply Kept.drewN | apply Kept.drew | refine Kept.setCell ?_ (.inr GW0.out) _) | exact HK.out)); (case side3 => exact HC0_2.out); rintro e w10 ⟨pF, rfl, hpn, hps, hb⟩; refine ⟨_, rfl, ?_⟩; obtain ⟨adf11, hae, rfl⟩ := hps (Int.not_lt.mp (of_decide_eq_false Xa)); clear hpn; cases hae; replace HO381 := Aside0.mk (Kd.R_below (Xq HO381) hb); replace BK0 := Xbb BK0 hb; replace HK := Aside0.mk (Kept.below (S := (fun k_ => P1_ k_)) (by repeat first | (with_reducible first | exact HK.out | apply Kept.alloc | apply Kept.drewN | apply Kept.drew | refine Kept.setCell ?_ (.inr GW0.out) _) | exact HK.out) hb); replace HB := Aside0.mk (below_step Xi hb); clear hb; have p383 : 0 ≤ (t382 : Int) := of_decide_eq_true Xa; have q383 : t382 < (l0_2.length : Int) := of_decide_eq_true Xa; obtain ⟨ad383, A383_4, c383_4, e383, hx383_0, hx383_1, hx383_2, hx383_3, hx383_4, hl383_4, hi383_4⟩ := at_T103 (Kd.C_kept_now HR0_2.out HK.out) t382 p383 q383; obtain rfl : adf11 = ad383 := (by injection e383); obtain ⟨af_, Af_, cf_, ef_, ff_, lf_, gf_⟩ := footT103_4 HR0_2.out t382 p383 q383; obtain rfl : adf11 = af_ := (by first | (injection ef_) | (injection ef_.symm)); have ff1_ := (ff_ _ HK.out).symm.trans hx383_4; injection (Option.some.inj ff1_) with ha_ hn_ hc_; rw [ha_] at gf_; clear hi383_4 ff1_ ff_ lf_ ha_ hn_ hc_; have hi383_4 := gf_; clear gf_ ef_; have HR383_4 := Aside0.mk hi383_4; have HC383_4 := Aside0.mk hl383_4; clear hi383_4 hl383_4; replace p383 := eq_true p383; replace q383 := eq_true q383))
  go_loopg [1, 20] k (fun kq v1 v20 w' => ∃ (x1_1 : List Int) (x20_1 : Int), v20 = .int .i64 x20_1 ∧ Aside0 (impl_Doc_order.l0 kq x1_1 ((rd_T103 l0_2 t382).f4) (((rd_T103 l0_2 t382).f4).length : Int) x20_1 a0_0 a0_1 l0_2 = some r) ∧ Aside0 (kq ≤ k) ∧ Aside0 (Kd.R (Kd.int .i64) 3 w' w0.heap.size (fun k_ => (P1_ k_ ∨ w.heap.size ≤ k_)) v1 x1_1) ∧ Aside0 (w'.heap[g0_]? = some (.cells #[.int .i64 a0_0, .int .i64 a0_1, (.slice (some adf11) l0_2.length c0_2)] 65 (0, 0))) ∧ Aside0 (Kept w w' (fun k_ => P1_ k_)) ∧ Aside0 (Below w0.heap.size w0 w'))
  case atStart => exact ⟨(y379), (0), Xr, H', Xkr, (Xp' HO381), (Xp BK0), ⟨by repeat first | (with_reducible first | exact HK.out | apply Kept.alloc | apply Kept.drewN | apply Kept.drew | refine Kept.setCell ?_ (.inr GW0.out) _) | exact HK.out⟩, ⟨Xi⟩⟩
  clear H'
  (try clear c4); (try clear c6); (try clear c6b0); (try clear c7); (try clear c7b0); (try clear c8); (try clear c8b0); (try clear hx383_0); (try clear hx383_1); (try clear hx383_2); (try clear hx383_3); (try clear hx383_4); (try clear p383); (try clear q383)
  obtain ⟨x1_1, x20_1, rfl, HA, HK1, HO_1, BK0, HK, HB⟩ := hrel
  cases gk with | zero => cases HA.out | succ k1 => ?_
  have H := HA.out
  clear HA
  simp only [impl_Doc_order.l0] at H
  obtain ⟨c12b0, H⟩ | ⟨c12b0, H⟩ := Xit H
  ·obtain ⟨c13b0, H⟩ := Xid H
   obtain ⟨c14b0, H⟩ := Xid H
   obtain ⟨t385, A15, H⟩ := Xbi H
   (try dsimp only at H)
   have H' := Aside0.mk H
   clear H
   have p384 : 0 ≤ (x20_1 : Int) := of_decide_eq_true Xa
   have q384 : x20_1 < (((rd_T103 l0_2 t382).f4).length : Int) := of_decide_eq_true Xa
   obtain ⟨ad384, e384, hx384_0⟩ := Kd.at_int (Kd.C_kept_now HR383_4.out HK.out) x20_1 p384 q384
   cases e384
   replace p384 := eq_true p384
   replace q384 := eq_true q384
   obtain ⟨Ao16, co16, eo16⟩ := Kd.R_slice HO_1.out
   subst eo16
   go_wp2_with (first | ((with_reducible refine gate_callee (f := 134) rfl ?_); refine Xgo 27 Try.func134 #[.pointer (some ⟨g0_, 0, none⟩), .slice Ao16 x1_1.length co16, .int .i64 (rd ((rd_T103 l0_2 t382).f4) x20_1)] ?_; (with_reducible refine (ih k1 (by have := HK1.out; omega) g0_ a0_0 a0_1 (some adf11) c0_2 l0_2 (fun k_ => some k_ = (.slice Ao16 x1_1.length co16 : Value).ownBlock) (.slice Ao16 x1_1.length co16) x1_1 (rd ((rd_T103 l0_2 t382).f4) x20_1) t385 w0 _ ?side1 ?side2 ?side3 ?side4 ?side5 A15.out).mono ?_); (case side1 => exact Xi); (case side2 => exact (Xq' BK0)); (case side3 => exact Kd.C_kept_call HR0_2.out (by repeat first | (with_reducible first | exact HK.out | apply Kept.alloc | apply Kept.drewN | apply Kept.drew | refine Kept.setCell ?_ (.inr GW0.out) _) | exact HK.out) (fun k_ hs_ => (fun e_ => (HO_1.out.1 k_ e_.symm)) hs_)); (case side4 => exact HC0_2.out); (case side5 => exact Kd.R_tight rfl HO_1.out); rintro e w17 ⟨v386, rfl, ho0, hb, hkp⟩; refine ⟨_, rfl, ?_⟩; replace BK0 := Aside0.mk (blk_kept (Xq' BK0) hkp (fun hs_ => (fun e_ => (Kd.R_ne HO_1.out BK0.out (by decide)) e_) hs_)); have HO387 := Aside0.mk (Kd.R_mono (ok' := fun k_ => (P1_ k_ ∨ w.heap.size ≤ k_)) ho0 (fun k_ hk_ => Or.elim hk_ (fun hs_ => (HO_1.out.1 k_ (hs_).symm)) (fun hn_ => (.inr (Nat.le_trans (by first | exact HK.out.1 | exact (show Kept w _ (fun k_ => P1_ k_) from by repeat first | (with_reducible first | exact HK.out | apply Kept.alloc | apply Kept.drewN | apply Kept.drew | refine Kept.setCell ?_ (.inr GW0.out) _) | exact HK.out).1) hn_))))); replace HK := Aside0.mk (Kept.then_ (S := (fun k_ => P1_ k_)) (by repeat first | (with_reducible first | exact HK.out | apply Kept.alloc | apply Kept.drewN | apply Kept.drew | refine Kept.setCell ?_ (.inr GW0.out) _) | exact HK.out) hkp (fun k_ hs_ => (fun e_ => (HO_1.out.1 k_ e_.symm)) hs_)); replace HB := Aside0.mk (hb); clear HO_1; (try clear hb); (try clear hkp); (try clear ho0)))
   go_roundg k1
   case measure => have := HK1.out; omega
   case rel => exact ⟨(t385), (wrap64 (x20_1 + 1)), Xr, H', Xk1, (Xp' HO387), (Xp BK0), ⟨by repeat first | (with_reducible first | exact HK.out | apply Kept.alloc | apply Kept.drewN | apply Kept.drew | refine Kept.setCell ?_ (.inr GW0.out) _) | exact HK.out⟩, ⟨Xi⟩⟩
  obtain rfl := Option.some.inj H
  go_wp2
  go_ret
  exact ⟨_, Xe, Xq HO_1, Xi, by repeat first | (with_reducible first | exact HK.out | apply Kept.alloc | apply Kept.drewN | apply Kept.drew | refine Kept.setCell ?_ (.inr GW0.out) _) | exact HK.out⟩
 exact absurd H (by simp)
end Go.Proofs.Ythkbgbkglgmpoaa.XA
