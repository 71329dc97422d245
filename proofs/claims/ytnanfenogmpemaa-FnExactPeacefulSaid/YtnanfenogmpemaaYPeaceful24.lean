/- Contracts of the program's functions: each Go function that is named below comes to what its Lean function says. Written by xprint.py (a program of this session's, over the kit's print). Conditions: each contract's own premises. -/
import Derived.Test.YtnanfenogmpemaaYPeaceful0
import Derived.Test.YtnanfenogmpemaaYPeaceful14
import Derived.Test.YtnanfenogmpemaaYPeaceful16
import Derived.Test.YtnanfenogmpemaaYPeacefulSort
namespace Go.Proofs.Ytnanfenogmpemaa.XA
open Go.RowKit Go.Proofs.YtnanfenogmpemaaW.PrintWords Go.Proofs.YtnanfenogmpemaaW.PrintLast Go.Proofs.YtnanfenogmpemaaW.PrintMore XW
attribute [local go_sem] max2_int min2_int max_two min_two max_three min_three max_four min_four   -- for this text's walks alone
set_option linter.unusedVariables false
set_option linter.unusedSimpArgs false

-- NOT PRINTED: function 150 (slices_pdqsortOrdered_int)

/-! ### impl_sessionsOf: function 104 -/
def impl_sessionsOf.l0 : Nat → List Int → List (S55) → Int → Int → Option (List Int)
 | 0, _, _, _, _ => none
 | k + 1, x3, x6, x7, x8 => if x8 < x7 then (if 0 ≤ x8 then (if x8 < (x6.length : Int) then (if x3.length < 17592186044416 then (impl_sessionsOf.l0 k (x3 ++ [(rd_T55 x6 x8).f0]) x6 x7 (wrap64 (x8 + 1))) else (none)) else (none)) else (none)) else ((slices_Sort_int_int.f x3).bind fun t494 => ((slices_Compact_int_int.f t494).bind fun t495 => (some t495)))
def impl_sessionsOf.f (k : Nat) (l0 : List (S55)) : Option (List Int) := impl_sessionsOf.l0 k ([] : List Int) l0 (l0.length : Int) 0
set_option maxHeartbeats 8000000 in
set_option maxRecDepth 100000 in
theorem impl_sessionsOf.calls (k : Nat) (A0 : Option Addr) (c0 : Nat) (l0 : List (S55)) (r : List Int) (w : World) (hr0 : Kd.C k55 w A0 l0.length l0) (hc0 : l0.length ≤ c0) (h : impl_sessionsOf.f k l0 = some r) :
  Calls Try.prog 104 #[.slice A0 l0.length c0] w fun e w' => ∃ v0_ : Value, e = .returned (v0_) ∧ Kd.R (Kd.int .i64) 3 w' w.heap.size (fun _ => True) v0_ r ∧ Below w.heap.size w w' := by
 have hu55 := Try.underlying55
 have HR0 := Aside0.mk hr0
 have HC0 := Aside0.mk hc0
 clear hr0 hc0
 have HB := Aside0.mk (Below.refl w.heap.size w)
 have H : (impl_sessionsOf.l0 k ([] : List Int) l0 (l0.length : Int) 0) = some r := h
 clear h
 have H' := Aside0.mk H
 clear H
 go_enter Try.func104, Try.ntmps104
 go_wp2
 go_loopg [3, 8] k (fun kq v3 v8 w' => ∃ (x3_1 : List Int) (x8_1 : Int), v8 = .int .i64 x8_1 ∧ Aside0 (impl_sessionsOf.l0 kq x3_1 l0 (l0.length : Int) x8_1 = some r) ∧ Aside0 (kq ≤ k) ∧ Aside0 (Kd.R (Kd.int .i64) 3 w' w.heap.size (fun _ => True) v3 x3_1) ∧ Aside0 (Below w.heap.size w w'))
 case atStart => exact ⟨(([] : List Int)), (0), Xr, H', Xkr, ⟨by first | exact Kd.R_nil _ _ _ _ _ | exact Kd.N_nil _ _ _ _ _ | exact Kd.V_nil _ _ _ _ _ | exact Kd.Q_nil _ _ _ _ _ | exact Kd.S_nil _ _ _ _ _⟩, ⟨Xi⟩⟩
 case round =>
  clear H'
  obtain ⟨x3_1, x8_1, rfl, HA, HK1, HO_3, HB⟩ := hrel
  cases gk with
  | zero => cases HA.out
  | succ k1 =>
   have H := HA.out
   clear HA
   simp only [impl_sessionsOf.l0] at H
   obtain ⟨c2b0, H⟩ | ⟨c2b0, H⟩ := Xit H
   ·obtain ⟨c3b0, H⟩ := Xid H
    obtain ⟨c4b0, H⟩ := Xid H
    obtain ⟨c5, H⟩ := Xif H
    have LMc5 := Aside0.mk c5
    clear c5
    obtain ⟨y491, hy491⟩ : ∃ y_ : List Int, y_ = (x3_1 ++ [(rd_T55 l0 x8_1).f0]) := ⟨_, rfl⟩
    replace H : (impl_sessionsOf.l0 k1 y491 l0 (l0.length : Int) (wrap64 (x8_1 + 1))) = some r := by first | (rw [hy491]; with_reducible exact H) | (have H2_ := (Option.bind_some _ _).symm.trans H; rw [hy491]; with_reducible exact H2_) | (have H2_ := (Option.bind_some _ _).symm.trans H; with_reducible exact H2_) | with_reducible exact H | (rw [hy491]; exact H) | exact H
    have Ny491 := Aside0.mk hy491
    clear hy491
    have H' := Aside0.mk H
    clear H
    obtain ⟨ad489, e489, p489, q489, hx489_0, hx489_1, hx489_2⟩ := at_B55 HR0 x8_1 Xa Xa HB
    cases e489
    go_wp2_with (first | ((with_reducible refine gate_dst (N := 5) rfl ?_); refine Xbox 5 #[.int .i64 0, .int .i64 0, .int .i64 0] 55 ?_; intro gb490 hg w6 hbox hb; replace HO_3 := Aside0.mk (Kd.R_below (Xq HO_3) hb); have BK490 := Aside0.mk (hbox); have GE490 := Xge hg Xi; replace HB := Aside0.mk (below_step Xi hb); clear hb hbox hg; obtain ⟨hcz7_0, hcz7_1, hcz7_2⟩ := Xc3 BK490; obtain ⟨hfz7_0, hfz7_1, hfz7_2⟩ := Xf3 BK490) | ((with_reducible refine gate_store (t := 55) (p := 5) rfl ?_); refine store_event (t := 55) (p := 5) (v := ?vo_w8) (w1 := (((w6.setCell ⟨gb490, 0, none⟩ (.int .i64 ((rd_T55 l0 x8_1).f0))).setCell ⟨gb490, 1, none⟩ (.int .i64 ((rd_T55 l0 x8_1).f1))).setCell ⟨gb490, 2, none⟩ (.int .i64 ((rd_T55 l0 x8_1).f2)))) ?hg ?ho ?hn ?hr ?_; (case ho => rfl); (case hg => rfl); (case hn => rfl); (case hr => first | (go_simp; done) | (go_simp; rfl)); intro w8 hw; have n0_ : Aside0 (Kd.R (Kd.int .i64) 3 w8 w.heap.size (fun _ => True) u3 x3_1) := ⟨(by rw [hw]; exact (by (with_reducible repeat (first | apply Kd.R_alloc | apply Kd.R_drewN | apply Kd.R_drew)); exact Kd.R_mono (Kd.R_far (p := ⟨gb490, 2, none⟩) (Kd.R_far (p := ⟨gb490, 1, none⟩) (Kd.R_far (p := ⟨gb490, 0, none⟩) (Kd.R_types HO_3.out BK490.out (by decide)) (fun _ hk => hk.2) (.int .i64 ((rd_T55 l0 x8_1).f0))) (fun _ hk => hk.2) (.int .i64 ((rd_T55 l0 x8_1).f1))) (fun _ hk => hk.2) (.int .i64 ((rd_T55 l0 x8_1).f2))) (fun _ hk => trivial)))⟩; have n1_ : Aside0 (w8.heap[gb490]? = some (.cells #[.int .i64 ((rd_T55 l0 x8_1).f0), .int .i64 ((rd_T55 l0 x8_1).f1), .int .i64 ((rd_T55 l0 x8_1).f2)] 55 (0, 0))) := ⟨(by rw [hw]; exact (by (with_reducible repeat (first | refine blk_drewN ?_ _ | refine blk_drew ?_ | refine blk_alloc ?_ _)); refine blk_put (cs := #[.int .i64 ((rd_T55 l0 x8_1).f0), .int .i64 ((rd_T55 l0 x8_1).f1), .int .i64 0]) ?_ 2 _ rfl; (with_reducible repeat (first | refine blk_drewN ?_ _ | refine blk_drew ?_ | refine blk_alloc ?_ _)); refine blk_put (cs := #[.int .i64 ((rd_T55 l0 x8_1).f0), .int .i64 0, .int .i64 0]) ?_ 1 _ rfl; (with_reducible repeat (first | refine blk_drewN ?_ _ | refine blk_drew ?_ | refine blk_alloc ?_ _)); refine blk_put (cs := #[.int .i64 0, .int .i64 0, .int .i64 0]) ?_ 0 _ rfl; (with_reducible repeat (first | refine blk_drewN ?_ _ | refine blk_drew ?_ | refine blk_alloc ?_ _)); exact BK490.out))⟩; have n2_ : Aside0 (Below w.heap.size w w8) := ⟨(by rw [hw]; exact Xi)⟩; clear hw; clear HO_3; clear BK490; clear HB; have HO_3 := n0_; have BK490 := n1_; have HB := n2_; clear n0_ n1_ n2_; obtain ⟨hcz9_0, hcz9_1, hcz9_2⟩ := Xc3 BK490; obtain ⟨hfz9_0, hfz9_1, hfz9_2⟩ := Xf3 BK490) | ((with_reducible refine gate_builtin (b := .append) (xs := #[.tmp 12, .tmp 15]) rfl ?_); at_builtin; refine Kd.R_append (Kd.int .i64) (w0 := w) w.heap.size rfl (.tmp 12) (.tmp 15) 65 3 (.int .i64 0) 8 rfl Try.underlying65 info3 rfl (by decide) (by omega) u3 x3_1 ((rd_T55 l0 x8_1).f0) [.int .i64 ((rd_T55 l0 x8_1).f0)] (fun _ => True) (fun _ => False) rfl rfl ?aP (fun _ hk => hk.elim) ?aF ?aO ?aB ?aS ?aL ?_; (case aP => exact rfl); (case aB => exact Xi); (case aF => exact (fun _ _ => trivial)); (case aO => exact (Xq HO_3)); (case aS => exact (below_size Xi)); (case aL => have := LMc5.out; omega); intro v492 w10 ho hb hg hat; rw [← Ny491.out] at ho; replace BK490 := Aside0.mk (blk_grown (g := gb490) (o := .cells #[.int .i64 ((rd_T55 l0 x8_1).f0), .int .i64 ((rd_T55 l0 x8_1).f1), .int .i64 ((rd_T55 l0 x8_1).f2)] 55 (0, 0)) (Xq' BK490) hg (Kd.R_ne HO_3.out BK490.out (by decide))); replace HB := Aside0.mk (hb); have HO493 := Aside0.mk (ho); clear HO_3; clear ho hb hg hat))
    go_roundg k1
    case measure => have := HK1.out; omega
    case rel => exact ⟨(y491), (wrap64 (x8_1 + 1)), Xr, H', Xk1, (Xp' HO493), ⟨Xi⟩⟩
   ·obtain ⟨t494, A11, H⟩ := Xbi H
    (try dsimp only at H)
    obtain ⟨t495, A12, H⟩ := Xbi H
    (try dsimp only at H)
    obtain rfl := Option.some.inj H
    obtain ⟨Ao13, co13, eo13⟩ := Kd.R_slice HO_3.out
    subst eo13
    go_wp2_with (first | ((with_reducible refine gate_callee (f := 133) rfl ?_); refine Xgo 19 Try.func133 #[.slice Ao13 x3_1.length co13] ?_; (with_reducible refine (slices_Sort_int_int.calls (fun k_ => some k_ = (.slice Ao13 x3_1.length co13 : Value).ownBlock) (.slice Ao13 x3_1.length co13) x3_1 t494 w _ ?side1 ?side2 A11.out).mono ?_); (case side1 => exact Xi); (case side2 => exact Kd.R_tight rfl HO_3.out); rintro e w14 ⟨rfl, hy0, hb, hkp⟩; refine ⟨_, rfl, ?_⟩; replace HO_3 := Aside0.mk (Kd.R_reok rfl hy0 (fun k_ e_ => HO_3.out.1 k_ e_)); replace HB := Aside0.mk (hb); (try clear hb); (try clear hkp); (try clear hy0)) | ((with_reducible refine gate_callee (f := 134) rfl ?_); refine Xgo 21 Try.func134 #[.slice Ao13 x3_1.length co13] ?_; (with_reducible refine (slices_Compact_int_int.calls (fun k_ => some k_ = (.slice Ao13 x3_1.length co13 : Value).ownBlock) (.slice Ao13 x3_1.length co13) t494 t495 w _ ?side1 ?side2 A12.out).mono ?_); (case side1 => exact Xi); (case side2 => exact Kd.R_tight rfl HO_3.out); rintro e w15 ⟨v496, rfl, ho0, hb, hkp⟩; refine ⟨_, rfl, ?_⟩; have HO497 := Aside0.mk (Kd.R_mono (ok' := fun k_ => True) ho0 (fun k_ hk_ => trivial)); replace HB := Aside0.mk (hb); clear HO_3; (try clear hb); (try clear hkp); (try clear ho0)))
    go_ret
    exact ⟨_, Xe, Xq HO497, Xi⟩

/-! ### impl_compatible: function 105 -/
def impl_compatible.f (a0 : Int) (a1 : Int) : Option (Bool) := if (mn a0 a1) = 0 then (some true) else (if (mn a0 a1) = 1 then (some ((mx a0 a1) != 5)) else (if (mn a0 a1) = 2 then (some ((mx a0 a1) == 2)) else (if (mn a0 a1) = 3 then (some ((mx a0 a1) == 3)) else (some false))))
set_option maxHeartbeats 8000000 in
set_option maxRecDepth 100000 in
theorem impl_compatible.calls (a0 : Int) (a1 : Int) (r : Bool) (w : World) (h : impl_compatible.f a0 a1 = some r) :
  Calls Try.prog 105 #[.int .i64 a0, .int .i64 a1] w fun e w' => e = .returned (.bool r) ∧ Below w.heap.size w w' := by
 have HB := Aside0.mk (Below.refl w.heap.size w)
 have H : (if (mn a0 a1) = 0 then (some true) else (if (mn a0 a1) = 1 then (some ((mx a0 a1) != 5)) else (if (mn a0 a1) = 2 then (some ((mx a0 a1) == 2)) else (if (mn a0 a1) = 3 then (some ((mx a0 a1) == 3)) else (some false))))) = some r := h
 clear h
 obtain ⟨ji3, hji3⟩ : ∃ j_ : Int, (mn a0 a1) = j_ := ⟨_, rfl⟩
 replace H : (if (ji3) = 0 then (some true) else (if (ji3) = 1 then (some ((mx a0 a1) != 5)) else (if (ji3) = 2 then (some ((mx a0 a1) == 2)) else (if (ji3) = 3 then (some ((mx a0 a1) == 3)) else (some false))))) = some r := by first | (rw [hji3] at H; exact H) | (simp only [hji3] at H ⊢; exact H)
 have hji3_ : (if a1 < a0 then a1 else a0) = ji3 := hji3
 obtain ⟨ji4, hji4⟩ : ∃ j_ : Int, (mx a0 a1) = j_ := ⟨_, rfl⟩
 replace H : (if (ji3) = 0 then (some true) else (if (ji3) = 1 then (some ((ji4) != 5)) else (if (ji3) = 2 then (some ((ji4) == 2)) else (if (ji3) = 3 then (some ((ji4) == 3)) else (some false))))) = some r := by first | (rw [hji4] at H; exact H) | (simp only [hji4] at H ⊢; exact H)
 have hji4_ : (if a0 < a1 then a1 else a0) = ji4 := hji4
 obtain ⟨c5, H⟩ | ⟨c5, H⟩ := Xiu H
 ·have c5b0 : ((ji3) == 0) = true := beq_iff_eq.mpr c5
  have c5b1 : ((ji3) != 0) = false := bne_eq_false_iff_eq.mpr c5
  clear c5
  obtain rfl := Option.some.inj H
  go_enter Try.func105, Try.ntmps105
  go_wp2
  go_ret
  exact ⟨by first | rfl | (simp [errW_none, errW_some] <;> rfl) | (simp only [← hji3, ← hji4]; first | rfl | (simp [errW_none, errW_some] <;> rfl)) | (simp [*, errW_none, errW_some] <;> rfl), Xi⟩
 ·have c5b0 : ((ji3) == 0) = false := beq_eq_false_iff_ne.mpr c5
  have c5b1 : ((ji3) != 0) = true := bne_iff_ne.mpr c5
  obtain ⟨c6, H⟩ | ⟨c6, H⟩ := Xiu H
  ·have c6b0 : ((ji3) == 1) = true := beq_iff_eq.mpr c6
   have c6b1 : ((ji3) != 1) = false := bne_eq_false_iff_eq.mpr c6
   clear c6
   obtain rfl := Option.some.inj H
   go_enter Try.func105, Try.ntmps105
   go_wp2
   go_ret
   exact ⟨by first | rfl | (simp [errW_none, errW_some] <;> rfl) | (simp only [← hji3, ← hji4]; first | rfl | (simp [errW_none, errW_some] <;> rfl)) | (simp [*, errW_none, errW_some] <;> rfl), Xi⟩
  ·have c6b0 : ((ji3) == 1) = false := beq_eq_false_iff_ne.mpr c6
   have c6b1 : ((ji3) != 1) = true := bne_iff_ne.mpr c6
   obtain ⟨c7, H⟩ | ⟨c7, H⟩ := Xiu H
   ·have c7b0 : ((ji3) == 2) = true := beq_iff_eq.mpr c7
    have c7b1 : ((ji3) != 2) = false := bne_eq_false_iff_eq.mpr c7
    clear c7
    obtain rfl := Option.some.inj H
    go_enter Try.func105, Try.ntmps105
    go_wp2
    go_ret
    exact ⟨by first | rfl | (simp [errW_none, errW_some] <;> rfl) | (simp only [← hji3, ← hji4]; first | rfl | (simp [errW_none, errW_some] <;> rfl)) | (simp [*, errW_none, errW_some] <;> rfl), Xi⟩
   ·have c7b0 : ((ji3) == 2) = false := beq_eq_false_iff_ne.mpr c7
    have c7b1 : ((ji3) != 2) = true := bne_iff_ne.mpr c7
    obtain ⟨c8, H⟩ | ⟨c8, H⟩ := Xiu H
    ·have c8b0 : ((ji3) == 3) = true := beq_iff_eq.mpr c8
     have c8b1 : ((ji3) != 3) = false := bne_eq_false_iff_eq.mpr c8
     clear c8
     obtain rfl := Option.some.inj H
     go_enter Try.func105, Try.ntmps105
     go_wp2
     go_ret
     exact ⟨by first | rfl | (simp [errW_none, errW_some] <;> rfl) | (simp only [← hji3, ← hji4]; first | rfl | (simp [errW_none, errW_some] <;> rfl)) | (simp [*, errW_none, errW_some] <;> rfl), Xi⟩
    ·have c8b0 : ((ji3) == 3) = false := beq_eq_false_iff_ne.mpr c8
     have c8b1 : ((ji3) != 3) = true := bne_iff_ne.mpr c8
     obtain rfl := Option.some.inj H
     go_enter Try.func105, Try.ntmps105
     go_wp2
     go_ret
     exact ⟨by first | rfl | (simp [errW_none, errW_some] <;> rfl) | (simp only [← hji3, ← hji4]; first | rfl | (simp [errW_none, errW_some] <;> rfl)) | (simp [*, errW_none, errW_some] <;> rfl), Xi⟩

/-! ### impl_Doc_isPeaceful: function 64 -/
mutual
def impl_Doc_isPeaceful.l0 : Nat → List (S55) → List Int → List (S92) → Int → Int → Int → Int → List (S92) → Option (Bool)
 | 0, _, _, _, _, _, _, _, _ => none
 | k + 1, x1, x5, x17, x18, x19, x1000, x1001, x1002 => if x19 < x18 then (if 0 ≤ x19 then (if x19 < (x17.length : Int) then (impl_Doc_isPeaceful.l1 k x1 x5 x17 x18 x19 x5 (x5.length : Int) 0 x1000 x1001 x1002 ((rd_T92 x17 x19).f0) ((rd_T92 x17 x19).f1) ((rd_T92 x17 x19).f2) ((rd_T92 x17 x19).f3) ((rd_T92 x17 x19).f4)) else (none)) else (none)) else (some true)
def impl_Doc_isPeaceful.l1 : Nat → List (S55) → List Int → List (S92) → Int → Int → List Int → Int → Int → Int → Int → List (S92) → Int → Int → Int → ByteArray → List Int → Option (Bool)
 | 0, _, _, _, _, _, _, _, _, _, _, _, _, _, _, _, _ => none
 | k + 1, x1, x5, x17, x18, x19, x23, x24, x25, x1000, x1001, x1002, x503000, x503001, x503002, x503003, x503004 => if x25 < x24 then (if 0 ≤ x25 then (if x25 < (x23.length : Int) then (if x25 ≤ (x5.length : Int) then ((some (x5.take (x25 : Int).toNat : List Int)).bind fun y504 => (impl_Doc_isPeaceful.l2 k x1 x5 (rd x23 x25) x17 x18 x19 x23 x24 x25 y504 (y504.length : Int) 0 x1000 x1001 x1002 x503000 x503001 x503002 x503003 x503004)) else (none)) else (none)) else (none)) else (impl_Doc_isPeaceful.l0 k x1 x5 x17 x18 (wrap64 (x19 + 1)) x1000 x1001 x1002)
def impl_Doc_isPeaceful.l2 : Nat → List (S55) → List Int → Int → List (S92) → Int → Int → List Int → Int → Int → List Int → Int → Int → Int → Int → List (S92) → Int → Int → Int → ByteArray → List Int → Option (Bool)
 | 0, _, _, _, _, _, _, _, _, _, _, _, _, _, _, _, _, _, _, _, _ => none
 | k + 1, x1, x5, x9, x17, x18, x19, x23, x24, x25, x32, x33, x34, x1000, x1001, x1002, x503000, x503001, x503002, x503003, x503004 => if x34 < x33 then (if 0 ≤ x34 then (if x34 < (x32.length : Int) then ((impl_Doc_mode.f k x1000 x1001 x1002 x1 x9 x503000).bind fun t509 => ((impl_Doc_mode.f k x1000 x1001 x1002 x1 (rd x32 x34) x503000).bind fun t510 => ((impl_compatible.f t509 t510).bind fun t511 => (if t511 = true then (impl_Doc_isPeaceful.l2 k x1 x5 x9 x17 x18 x19 x23 x24 x25 x32 x33 (wrap64 (x34 + 1)) x1000 x1001 x1002 x503000 x503001 x503002 x503003 x503004) else (some false))))) else (none)) else (none)) else (impl_Doc_isPeaceful.l1 k x1 x5 x17 x18 x19 x23 x24 (wrap64 (x25 + 1)) x1000 x1001 x1002 x503000 x503001 x503002 x503003 x503004)
end
def impl_Doc_isPeaceful.f (k : Nat) (a0_0 : Int) (a0_1 : Int) (l0_2 : List (S92)) (l1 : List (S55)) : Option (Bool) := (impl_sessionsOf.f k l1).bind fun t498 => (impl_Doc_isPeaceful.l0 k l1 t498 l0_2 (l0_2.length : Int) 0 a0_0 a0_1 l0_2)
def impl_Doc_isPeaceful.T11 : Bool × List (List Nat × List Nat) := (true, [([], []), ([], []), ([], []), ([], []), ([3], [3]), ([0, 1, 2, 4], [0, 1, 2, 4]), ([], []), ([], []), ([], []), ([], []), ([9], [9]), ([6, 7, 8, 10, 5], [6, 7, 8, 10]), ([5, 11, 11], [5, 11]), ([12], [12])])
def impl_Doc_isPeaceful.B11 : List Nat := [0, 0, 0, 0, 8, 31, 0, 0, 0, 0, 512, 2047, 4095, 8191]
theorem impl_Doc_isPeaceful.tab11 : rtab .any (opsOf Try.f64 11) = impl_Doc_isPeaceful.T11 := by kernel_rfl
theorem impl_Doc_isPeaceful.bits11 : waitsOk impl_Doc_isPeaceful.T11.2 impl_Doc_isPeaceful.B11 = true := by kernel_rfl
set_option maxHeartbeats 8000000 in
set_option maxRecDepth 100000 in
theorem impl_Doc_isPeaceful.calls (k : Nat) (g0_ : Nat) (a0_0 : Int) (a0_1 : Int) (A0_2 : Option Addr) (c0_2 : Nat) (l0_2 : List (S92)) (A1 : Option Addr) (c1 : Nat) (l1 : List (S55)) (r : Bool) (w : World) (hg0_ : w.heap[g0_]? = some (.cells #[.int .i64 a0_0, .int .i64 a0_1, .slice A0_2 l0_2.length c0_2] 33 (0, 0))) (hr0_2 : Kd.C k92 w A0_2 l0_2.length l0_2) (hc0_2 : l0_2.length ≤ c0_2) (hr1 : Kd.C k55 w A1 l1.length l1) (hc1 : l1.length ≤ c1) (h : impl_Doc_isPeaceful.f k a0_0 a0_1 l0_2 l1 = some r) :
  Calls Try.prog 64 #[.pointer (some ⟨g0_, 0, none⟩), .slice A1 l1.length c1] w fun e w' => e = .returned (.bool r) ∧ Below w.heap.size w w' := by
 have hu92 := Try.underlying92
 have HR0_2 := Aside0.mk hr0_2
 have HC0_2 := Aside0.mk hc0_2
 clear hr0_2 hc0_2
 have HR1 := Aside0.mk hr1
 have HC1 := Aside0.mk hc1
 clear hr1 hc1
 have BK0 := Aside0.mk hg0_
 clear hg0_
 have HB := Aside0.mk (Below.refl w.heap.size w)
 have H : ((impl_sessionsOf.f k l1).bind fun t498 => (impl_Doc_isPeaceful.l0 k l1 t498 l0_2 (l0_2.length : Int) 0 a0_0 a0_1 l0_2)) = some r := h
 clear h
 obtain ⟨t498, A3, H⟩ := Xbi H
 (try dsimp only at H)
 have H' := Aside0.mk H
 clear H
 go_enter Try.func64, Try.ntmps64
 go_wp2_with (first | ((with_reducible refine gate_callee (f := 104) rfl ?_); refine Xgo 13 Try.func104 #[.slice A1 l1.length c1] ?_; (with_reducible refine (impl_sessionsOf.calls k _ _ l1 t498 _ ?side1 ?side2 A3.out).mono ?_); (case side1 => repeat (first | exact HR1.out | (with_reducible first | refine Kd.C_alloc ?_ _ | refine Kd.C_drewN ?_ _ | refine Kd.C_drew ?_))); (case side2 => exact HC1.out); rintro e w4 ⟨v499, rfl, ho0, hb⟩; refine ⟨_, rfl, ?_⟩; have HO500 := Aside0.mk (Kd.R_lower ho0 (below_size Xi)); replace BK0 := Xbb BK0 hb; replace HB := Aside0.mk (below_step Xi hb); clear hb; (try clear ho0); obtain ⟨hcz5_0, hcz5_1, hcz5_2⟩ := Xc3 BK0; obtain ⟨hfz5_0, hfz5_1, hfz5_2⟩ := Xf3 BK0))
 go_loopg [19] k (fun kq v19 w' => ∃ (x19_1 : Int), v19 = .int .i64 x19_1 ∧ Aside0 (impl_Doc_isPeaceful.l0 kq l1 t498 l0_2 (l0_2.length : Int) x19_1 a0_0 a0_1 l0_2 = some r) ∧ Aside0 (kq ≤ k) ∧ Aside0 (Kd.R (Kd.int .i64) 3 w' w.heap.size (fun _ => True) v499 t498) ∧ Aside0 (w'.heap[g0_]? = some (.cells #[.int .i64 a0_0, .int .i64 a0_1, (.slice A0_2 l0_2.length c0_2)] 33 (0, 0))) ∧ Aside0 (Below w.heap.size w w'))
 case atStart => exact ⟨(0), Xr, H', Xkr, (Xp' HO500), BK0, ⟨Xi⟩⟩
 case round =>
  clear H'
  (try clear c1); (try clear hcz5_0); (try clear hcz5_1); (try clear hcz5_2); (try clear hfz5_0); (try clear hfz5_1); (try clear hfz5_2)
  obtain ⟨x19_1, rfl, HA, HK1, HO_5, BK0, HB⟩ := hrel
  cases gk with
  | zero => cases HA.out
  | succ k1 =>
   have H := HA.out
   clear HA
   simp only [impl_Doc_isPeaceful.l0] at H
   obtain ⟨c6b0, H⟩ | ⟨c6b0, H⟩ := Xit H
   ·obtain ⟨c7b0, H⟩ := Xid H
    obtain ⟨c8b0, H⟩ := Xid H
    have H' := Aside0.mk H
    clear H
    obtain ⟨ad501, A501_4, c501_4, e501, p501, q501, hx501_0, hx501_1, hx501_2, hx501_3, hx501_4, HC501_4, HR501_4⟩ := at_B92 HR0_2 x19_1 Xa Xa HB
    cases e501
    go_wp2_with (first | ((with_reducible refine gate_dst (N := 7) rfl ?_); refine Xbox 7 #[.int .i64 0, .int .i64 0, .int .i64 0, .string (⟨#[]⟩ : ByteArray), .slice none 0 0] 92 ?_; intro gb502 hg w9 hbox hb; replace HO_5 := Aside0.mk (Kd.R_below (Xq HO_5) hb); have BK502 := Aside0.mk (hbox); have GE502 := Xge hg Xi; replace HB := Aside0.mk (below_step Xi hb); have NB0_502 := Xnb hg BK0; have NB502_0 := Xns NB0_502; replace BK0 := Xbb BK0 hb; clear hb hbox hg; have hnb10 := NB502_0.out; have hnc10 := NB0_502.out; obtain ⟨hcz11_0, hcz11_1, hcz11_2, hcz11_3, hcz11_4⟩ := Xc5 BK502; obtain ⟨hfz11_0, hfz11_1, hfz11_2, hfz11_3, hfz11_4⟩ := Xf5 BK502) | ((with_reducible refine gate_store (t := 92) (p := 7) rfl ?_); refine store_event (t := 92) (p := 7) (v := ?vo_w12) (w1 := (((((w9.setCell ⟨gb502, 0, none⟩ (.int .i64 ((rd_T92 l0_2 x19_1).f0))).setCell ⟨gb502, 1, none⟩ (.int .i64 ((rd_T92 l0_2 x19_1).f1))).setCell ⟨gb502, 2, none⟩ (.int .i64 ((rd_T92 l0_2 x19_1).f2))).setCell ⟨gb502, 3, none⟩ (.string ((rd_T92 l0_2 x19_1).f3))).setCell ⟨gb502, 4, none⟩ (.slice A501_4 ((rd_T92 l0_2 x19_1).f4).length c501_4))) ?hg ?ho ?hn ?hr ?_; (case ho => rfl); (case hg => rfl); (case hn => rfl); (case hr => first | (go_simp; done) | (go_simp; rfl)); intro w12 hw; have n0_ : Aside0 (Kd.R (Kd.int .i64) 3 w12 w.heap.size (fun _ => True) v499 t498) := ⟨(by rw [hw]; exact (by (with_reducible repeat (first | apply Kd.R_alloc | apply Kd.R_drewN | apply Kd.R_drew)); exact Kd.R_mono (Kd.R_far (p := ⟨gb502, 4, none⟩) (Kd.R_far (p := ⟨gb502, 3, none⟩) (Kd.R_far (p := ⟨gb502, 2, none⟩) (Kd.R_far (p := ⟨gb502, 1, none⟩) (Kd.R_far (p := ⟨gb502, 0, none⟩) (Kd.R_types HO_5.out BK502.out (by decide)) (fun _ hk => hk.2) (.int .i64 ((rd_T92 l0_2 x19_1).f0))) (fun _ hk => hk.2) (.int .i64 ((rd_T92 l0_2 x19_1).f1))) (fun _ hk => hk.2) (.int .i64 ((rd_T92 l0_2 x19_1).f2))) (fun _ hk => hk.2) (.string ((rd_T92 l0_2 x19_1).f3))) (fun _ hk => hk.2) (.slice A501_4 ((rd_T92 l0_2 x19_1).f4).length c501_4)) (fun _ hk => trivial)))⟩; have n1_ : Aside0 (w12.heap[g0_]? = some (.cells #[.int .i64 a0_0, .int .i64 a0_1, .slice (some ad501) l0_2.length c0_2] 33 (0, 0))) := ⟨(by rw [hw]; exact (by (with_reducible repeat (first | refine blk_drewN ?_ _ | refine blk_drew ?_ | refine blk_alloc ?_ _)); refine blk_far ?_ NB0_502.out _; (with_reducible repeat (first | refine blk_drewN ?_ _ | refine blk_drew ?_ | refine blk_alloc ?_ _)); refine blk_far ?_ NB0_502.out _; (with_reducible repeat (first | refine blk_drewN ?_ _ | refine blk_drew ?_ | refine blk_alloc ?_ _)); refine blk_far ?_ NB0_502.out _; (with_reducible repeat (first | refine blk_drewN ?_ _ | refine blk_drew ?_ | refine blk_alloc ?_ _)); refine blk_far ?_ NB0_502.out _; (with_reducible repeat (first | refine blk_drewN ?_ _ | refine blk_drew ?_ | refine blk_alloc ?_ _)); refine blk_far ?_ NB0_502.out _; (with_reducible repeat (first | refine blk_drewN ?_ _ | refine blk_drew ?_ | refine blk_alloc ?_ _)); exact BK0.out))⟩; have n2_ : Aside0 (w12.heap[gb502]? = some (.cells #[.int .i64 ((rd_T92 l0_2 x19_1).f0), .int .i64 ((rd_T92 l0_2 x19_1).f1), .int .i64 ((rd_T92 l0_2 x19_1).f2), .string ((rd_T92 l0_2 x19_1).f3), .slice A501_4 ((rd_T92 l0_2 x19_1).f4).length c501_4] 92 (0, 0))) := ⟨(by rw [hw]; exact (by (with_reducible repeat (first | refine blk_drewN ?_ _ | refine blk_drew ?_ | refine blk_alloc ?_ _)); refine blk_put (cs := #[.int .i64 ((rd_T92 l0_2 x19_1).f0), .int .i64 ((rd_T92 l0_2 x19_1).f1), .int .i64 ((rd_T92 l0_2 x19_1).f2), .string ((rd_T92 l0_2 x19_1).f3), .slice none 0 0]) ?_ 4 _ rfl; (with_reducible repeat (first | refine blk_drewN ?_ _ | refine blk_drew ?_ | refine blk_alloc ?_ _)); refine blk_put (cs := #[.int .i64 ((rd_T92 l0_2 x19_1).f0), .int .i64 ((rd_T92 l0_2 x19_1).f1), .int .i64 ((rd_T92 l0_2 x19_1).f2), .string (⟨#[]⟩ : ByteArray), .slice none 0 0]) ?_ 3 _ rfl; (with_reducible repeat (first | refine blk_drewN ?_ _ | refine blk_drew ?_ | refine blk_alloc ?_ _)); refine blk_put (cs := #[.int .i64 ((rd_T92 l0_2 x19_1).f0), .int .i64 ((rd_T92 l0_2 x19_1).f1), .int .i64 0, .string (⟨#[]⟩ : ByteArray), .slice none 0 0]) ?_ 2 _ rfl; (with_reducible repeat (first | refine blk_drewN ?_ _ | refine blk_drew ?_ | refine blk_alloc ?_ _)); refine blk_put (cs := #[.int .i64 ((rd_T92 l0_2 x19_1).f0), .int .i64 0, .int .i64 0, .string (⟨#[]⟩ : ByteArray), .slice none 0 0]) ?_ 1 _ rfl; (with_reducible repeat (first | refine blk_drewN ?_ _ | refine blk_drew ?_ | refine blk_alloc ?_ _)); refine blk_put (cs := #[.int .i64 0, .int .i64 0, .int .i64 0, .string (⟨#[]⟩ : ByteArray), .slice none 0 0]) ?_ 0 _ rfl; (with_reducible repeat (first | refine blk_drewN ?_ _ | refine blk_drew ?_ | refine blk_alloc ?_ _)); exact BK502.out))⟩; have n3_ : Aside0 (Below w.heap.size w w12) := ⟨(by rw [hw]; exact Xi)⟩; clear hw; clear HO_5; clear BK0; clear BK502; clear HB; have HO_5 := n0_; have BK0 := n1_; have BK502 := n2_; have HB := n3_; clear n0_ n1_ n2_ n3_; obtain ⟨Ao13, co13, eo13⟩ := Kd.R_slice HO_5.out; subst eo13))
    go_loopg [25] k1 (fun kq v25 w' => ∃ (x25_2 : Int), v25 = .int .i64 x25_2 ∧ Aside0 (impl_Doc_isPeaceful.l1 kq l1 t498 l0_2 (l0_2.length : Int) x19_1 t498 (t498.length : Int) x25_2 a0_0 a0_1 l0_2 ((rd_T92 l0_2 x19_1).f0) ((rd_T92 l0_2 x19_1).f1) ((rd_T92 l0_2 x19_1).f2) ((rd_T92 l0_2 x19_1).f3) ((rd_T92 l0_2 x19_1).f4) = some r) ∧ Aside0 (kq ≤ k1) ∧ Aside0 (Kd.R (Kd.int .i64) 3 w' w.heap.size (fun _ => True) (.slice Ao13 t498.length co13) t498) ∧ Aside0 (Kd.R (Kd.int .i64) 3 w' w.heap.size (fun _ => True) (.slice Ao13 t498.length co13) t498) ∧ Aside0 (w'.heap[g0_]? = some (.cells #[.int .i64 a0_0, .int .i64 a0_1, (.slice (some ad501) l0_2.length c0_2)] 33 (0, 0))) ∧ Aside0 (w'.heap[gb502]? = some (.cells #[.int .i64 ((rd_T92 l0_2 x19_1).f0), .int .i64 ((rd_T92 l0_2 x19_1).f1), .int .i64 ((rd_T92 l0_2 x19_1).f2), .string ((rd_T92 l0_2 x19_1).f3), (.slice A501_4 ((rd_T92 l0_2 x19_1).f4).length c501_4)] 92 (0, 0))) ∧ Aside0 (Below w.heap.size w w'))
    case atStart => exact ⟨(0), Xr, H', Xkr, (Xp' HO_5), (Xp' HO_5), BK0, BK502, ⟨Xi⟩⟩
    case round =>
     clear H'
     (try clear c1); (try clear c6); (try clear c6b0); (try clear c7); (try clear c7b0); (try clear c8); (try clear c8b0); (try clear hcz11_0); (try clear hcz11_1); (try clear hcz11_2); (try clear hcz11_3); (try clear hcz11_4); (try clear hcz5_0); (try clear hcz5_1); (try clear hcz5_2); (try clear hfz11_0); (try clear hfz11_1); (try clear hfz11_2); (try clear hfz11_3); (try clear hfz11_4); (try clear hfz5_0); (try clear hfz5_1); (try clear hfz5_2); (try clear hx501_0); (try clear hx501_1); (try clear hx501_2); (try clear hx501_3); (try clear hx501_4); (try clear p501); (try clear q501)
     obtain ⟨x25_2, rfl, HA, HK2, HO_5, HO_23, BK0, BK502, HB⟩ := hrel
     cases gk with
     | zero => cases HA.out
     | succ k2 =>
      have H := HA.out
      clear HA
      simp only [impl_Doc_isPeaceful.l1] at H
      obtain ⟨c14b0, H⟩ | ⟨c14b0, H⟩ := Xit H
      ·obtain ⟨c15b0, H⟩ := Xid H
       obtain ⟨c16b0, H⟩ := Xid H
       have c17b0 := eq_true (of_decide_eq_true Xa : 0 ≤ x25_2)
       obtain ⟨c18, H⟩ := Xif H
       have c18b0 := eq_true c18
       have c18b1 : decide (x25_2 ≤ (t498.length : Int)) = true := decide_eq_true c18
       clear c18
       obtain ⟨y504, hy504⟩ : ∃ y_ : List Int, y_ = (t498.take (x25_2 : Int).toNat) := ⟨_, rfl⟩
       replace H : (impl_Doc_isPeaceful.l2 k2 l1 t498 (rd t498 x25_2) l0_2 (l0_2.length : Int) x19_1 t498 (t498.length : Int) x25_2 y504 (y504.length : Int) 0 a0_0 a0_1 l0_2 ((rd_T92 l0_2 x19_1).f0) ((rd_T92 l0_2 x19_1).f1) ((rd_T92 l0_2 x19_1).f2) ((rd_T92 l0_2 x19_1).f3) ((rd_T92 l0_2 x19_1).f4)) = some r := by first | (rw [hy504]; with_reducible exact H) | (have H2_ := (Option.bind_some _ _).symm.trans H; rw [hy504]; with_reducible exact H2_) | (have H2_ := (Option.bind_some _ _).symm.trans H; with_reducible exact H2_) | with_reducible exact H | (rw [hy504]; exact H) | exact H
       have Ny504 := Aside0.mk hy504
       clear hy504
       have H' := Aside0.mk H
       clear H
       have p503 : 0 ≤ (x25_2 : Int) := of_decide_eq_true Xa
       have q503 : x25_2 < (t498.length : Int) := of_decide_eq_true Xa
       obtain ⟨ad503, e503, hx503_0⟩ := Kd.at_int (Kd.R_reads' HO_23.out).2.2 x25_2 p503 q503
       cases e503
       replace p503 := eq_true p503
       replace q503 := eq_true q503
       have q19 : (x25_2 : Int) ≤ ((t498.length : Int) : Int) := of_decide_eq_true Xa
       obtain ⟨i019, hi019, _, hsz19, _⟩ := info_parts info3
       have hroom19 : t498.length ≤ co13 := (Kd.R_reads' HO_5.out).2.1
       have hC19 : Kd.C (Kd.int .i64) _ (some ad503) t498.length t498 := (Kd.R_reads' HO_5.out).2.2
       have hcut19 := cut_to (P := Try.prog) 65 3 .i64 Try.underlying65 hi019 (some ad503) t498.length co13 x25_2 (of_decide_eq_true Xa) q19 hroom19
       have hr19 := Kd.C_take (m := (x25_2 : Int).toNat) hC19 (by omega)
       have hy19 : y504.length = (x25_2 : Int).toNat := (by rw [Ny504.out, List.length_take]; omega)
       rw [← Ny504.out] at hr19
       rw [← hy19] at hcut19
       have HR507 := Aside0.mk hr19
       have HC507 := Aside0.mk (show y504.length ≤ co13 from by omega)
       clear hr19 hC19 hroom19 hi019 hsz19
       have KY19 := Aside0.mk hy19
       clear hy19
       have KL19 := Aside0.mk (show (x25_2 : Int).toNat ≤ t498.length from by omega)
       replace q19 := eq_true q19
       go_wp2
       go_loopg [34] k2 (fun kq v34 w' => ∃ (x34_3 : Int), v34 = .int .i64 x34_3 ∧ Aside0 (impl_Doc_isPeaceful.l2 kq l1 t498 (rd t498 x25_2) l0_2 (l0_2.length : Int) x19_1 t498 (t498.length : Int) x25_2 y504 (y504.length : Int) x34_3 a0_0 a0_1 l0_2 ((rd_T92 l0_2 x19_1).f0) ((rd_T92 l0_2 x19_1).f1) ((rd_T92 l0_2 x19_1).f2) ((rd_T92 l0_2 x19_1).f3) ((rd_T92 l0_2 x19_1).f4) = some r) ∧ Aside0 (kq ≤ k2) ∧ Aside0 (Kd.R (Kd.int .i64) 3 w' w.heap.size (fun _ => True) (.slice (some ad503) t498.length co13) t498) ∧ Aside0 (Kd.R (Kd.int .i64) 3 w' w.heap.size (fun _ => True) (.slice (some ad503) t498.length co13) t498) ∧ Aside0 (w'.heap[g0_]? = some (.cells #[.int .i64 a0_0, .int .i64 a0_1, (.slice (some ad501) l0_2.length c0_2)] 33 (0, 0))) ∧ Aside0 (w'.heap[gb502]? = some (.cells #[.int .i64 ((rd_T92 l0_2 x19_1).f0), .int .i64 ((rd_T92 l0_2 x19_1).f1), .int .i64 ((rd_T92 l0_2 x19_1).f2), .string ((rd_T92 l0_2 x19_1).f3), (.slice A501_4 ((rd_T92 l0_2 x19_1).f4).length c501_4)] 92 (0, 0))) ∧ Aside0 (Kd.C (Kd.int .i64) w' (some ad503) y504.length y504) ∧ Aside0 (Below w.heap.size w w'))
       case atStart => exact ⟨(0), Xr, H', Xkr, (Xp' HO_5), (Xp' HO_23), BK0, BK502, ⟨by repeat (first | (with_reducible exact HR507.out) | (with_reducible first | refine Kd.C_alloc ?_ _ | refine Kd.C_drewN ?_ _ | refine Kd.C_drew ?_) | exact HR507.out)⟩, ⟨Xi⟩⟩
       case round =>
        clear H'
        (try clear c1); (try clear c6); (try clear c6b0); (try clear c7); (try clear c7b0); (try clear c8); (try clear c8b0); (try clear c14); (try clear c14b0); (try clear c15); (try clear c15b0); (try clear c16); (try clear c16b0); (try clear c17b0); (try clear c18); (try clear c18b0); (try clear c18b1); (try clear q19); (try clear hcz11_0); (try clear hcz11_1); (try clear hcz11_2); (try clear hcz11_3); (try clear hcz11_4); (try clear hcz5_0); (try clear hcz5_1); (try clear hcz5_2); (try clear hfz11_0); (try clear hfz11_1); (try clear hfz11_2); (try clear hfz11_3); (try clear hfz11_4); (try clear hfz5_0); (try clear hfz5_1); (try clear hfz5_2); (try clear hx501_0); (try clear hx501_1); (try clear hx501_2); (try clear hx501_3); (try clear hx501_4); (try clear hx503_0); (try clear p501); (try clear p503); (try clear q19); (try clear q501); (try clear q503)
        obtain ⟨x34_3, rfl, HA, HK3, HO_5, HO_23, BK0, BK502, HR507, HB⟩ := hrel
        cases gk with
        | zero => cases HA.out
        | succ k3 =>
         have H := HA.out
         clear HA
         simp only [impl_Doc_isPeaceful.l2] at H
         obtain ⟨c20b0, H⟩ | ⟨c20b0, H⟩ := Xit H
         ·obtain ⟨c21b0, H⟩ := Xid H
          obtain ⟨c22b0, H⟩ := Xid H
          obtain ⟨t509, A23, H⟩ := Xbi H
          (try dsimp only at H)
          obtain ⟨t510, A24, H⟩ := Xbi H
          (try dsimp only at H)
          obtain ⟨t511, A25, H⟩ := Xbi H
          (try dsimp only at H)
          have HC26 := Aside0.mk H
          clear H
          have p508 : 0 ≤ (x34_3 : Int) := of_decide_eq_true Xa
          have q508 : x34_3 < (y504.length : Int) := of_decide_eq_true Xa
          obtain ⟨ad508, e508, hx508_0⟩ := Kd.at_int (by repeat (first | (with_reducible exact HR507.out) | (with_reducible first | refine Kd.C_alloc ?_ _ | refine Kd.C_drewN ?_ _ | refine Kd.C_drew ?_) | exact HR507.out)) x34_3 p508 q508
          obtain rfl : ad503 = ad508 := (by injection e508)
          replace p508 := eq_true p508
          replace q508 := eq_true q508
          try go_wp2_with (fail)
          replace HO_5 := Aside0.mk (Kd.R_drew HO_5.out)
          replace HO_23 := Aside0.mk (Kd.R_drew HO_23.out)
          replace BK0 := Aside0.mk (blk_drew BK0.out)
          replace BK502 := Aside0.mk (blk_drew BK502.out)
          replace HR507 := Aside0.mk (Kd.C_drew HR507.out)
          replace HB := Aside0.mk (below_drew1 HB.out)
          refine start_ (n := 14) (S := fun w' => w'.cell? ⟨gb502, 0, none⟩ = some (.int .i64 ((rd_T92 l0_2 x19_1).f0)) ∧ w'.cell? ⟨gb502, 1, none⟩ = some (.int .i64 ((rd_T92 l0_2 x19_1).f1)) ∧ w'.cell? ⟨gb502, 2, none⟩ = some (.int .i64 ((rd_T92 l0_2 x19_1).f2)) ∧ w'.cell? ⟨gb502, 3, none⟩ = some (.string ((rd_T92 l0_2 x19_1).f3)) ∧ w'.cell? ⟨gb502, 4, none⟩ = some (.slice A501_4 ((rd_T92 l0_2 x19_1).f4).length c501_4)) (ds := []) #[false, false, false, false, false, false, false, false, false, false, false, false, false, false] (by kernel_rfl) rfl rfl ⟨(blk_cell BK502.out 0).trans rfl, (blk_cell BK502.out 1).trans rfl, (blk_cell BK502.out 2).trans rfl, (blk_cell BK502.out 3).trans rfl, (blk_cell BK502.out 4).trans rfl⟩ (fun hHeld => ?_); refine with_tabW impl_Doc_isPeaceful.tab11 impl_Doc_isPeaceful.bits11 (fun HT_ HW_ => ?_)
          generalize wr.drew = w27 at HO_5 HO_23 BK0 BK502 HR507 HB hHeld ⊢
          refine Xpu 0 38 (XW.bs 14 1) HT_.out ?_
          refine Xpu 1 39 (XW.bs 14 3) HT_.out ?_
          refine Xpu 2 40 (XW.bs 14 7) HT_.out ?_
          refine Xpu 3 41 (XW.bs 14 15) HT_.out ?_
          refine Xpu 6 44 (XW.bs 14 79) HT_.out ?_
          refine Xpu 7 45 (XW.bs 14 207) HT_.out ?_
          refine Xpu 8 46 (XW.bs 14 463) HT_.out ?_
          refine Xpu 9 47 (XW.bs 14 975) HT_.out ?_
          refine Xta 4 42 (XW.bs 14 991) HT_.out HW_.out hHeld ?_
          refine Xta 10 48 (XW.bs 14 2015) HT_.out HW_.out hHeld ?_
          refine one_ (i := 5) (N := some 43) (XW.bs 14 2047) rfl rfl (one_of HT_.out (by kernel_rfl)) (by decide) (fun K hK => ?_)
          refine goes_ Try.func52 (by kernel_rfl) rfl #[.pointer (some ⟨g0_, 0, none⟩), .slice A1 l1.length c1, .int .i64 (rd t498 x25_2), .int .i64 ((rd_T92 l0_2 x19_1).f0)] (by rfl) rfl rfl (by (try simp only [List.map_toArray, List.map_cons, List.map_nil]); first | done | rfl | (simp only [List.length_drop, List.length_take]; rfl)) ?_
          with_reducible refine (impl_Doc_mode.calls k3 g0_ a0_0 a0_1 (some ad501) c0_2 l0_2 _ _ l1 (rd t498 x25_2) ((rd_T92 l0_2 x19_1).f0) t509 _ ?side1 ?side2 ?side3 ?side4 ?side5 A23.out).mono ?_
          (case side1 => exact BK0.out)
          (case side2 => exact Xc HR0_2)
          (case side3 => exact HC0_2.out)
          (case side4 => exact Xc HR1)
          (case side5 => exact HC1.out)
          rintro e w28 ⟨rfl, hb⟩
          refine ⟨_, rfl, ?_⟩
          replace HO_5 := Aside0.mk (Kd.R_below (Xq HO_5) hb)
          replace HO_23 := Aside0.mk (Kd.R_below (Xq HO_23) hb)
          replace BK0 := Xbb BK0 hb
          replace BK502 := Xbb BK502 hb
          replace HR507 := Aside0.mk (Kd.C_below (by repeat (first | (with_reducible exact HR507.out) | (with_reducible first | refine Kd.C_alloc ?_ _ | refine Kd.C_drewN ?_ _ | refine Kd.C_drew ?_) | exact HR507.out)) hb)
          replace HB := Aside0.mk (below_step Xi hb)
          (try clear hb)
          (try clear hb2)
          (try clear hk)
          (try clear hi)
          refine hK.out _ _ ⟨(blk_cell BK502.out 0).trans rfl, (blk_cell BK502.out 1).trans rfl, (blk_cell BK502.out 2).trans rfl, (blk_cell BK502.out 3).trans rfl, (blk_cell BK502.out 4).trans rfl⟩ (fun hHeld => ?_)
          clear hK K
          refine Xno ?_
          refine one_ (i := 11) (N := some 49) (XW.bs 14 4095) rfl rfl (one_of HT_.out (by kernel_rfl)) (by decide) (fun K hK => ?_)
          refine goes_ Try.func52 (by kernel_rfl) rfl #[.pointer (some ⟨g0_, 0, none⟩), .slice A1 l1.length c1, .int .i64 (rd y504 x34_3), .int .i64 ((rd_T92 l0_2 x19_1).f0)] (by rfl) rfl rfl (by (try simp only [List.map_toArray, List.map_cons, List.map_nil]); first | done | rfl | (simp only [List.length_drop, List.length_take]; rfl)) ?_
          with_reducible refine (impl_Doc_mode.calls k3 g0_ a0_0 a0_1 (some ad501) c0_2 l0_2 _ _ l1 (rd y504 x34_3) ((rd_T92 l0_2 x19_1).f0) t510 _ ?side1 ?side2 ?side3 ?side4 ?side5 A24.out).mono ?_
          (case side1 => exact BK0.out)
          (case side2 => exact Xc HR0_2)
          (case side3 => exact HC0_2.out)
          (case side4 => exact Xc HR1)
          (case side5 => exact HC1.out)
          rintro e w29 ⟨rfl, hb⟩
          refine ⟨_, rfl, ?_⟩
          replace HO_5 := Aside0.mk (Kd.R_below (Xq HO_5) hb)
          replace HO_23 := Aside0.mk (Kd.R_below (Xq HO_23) hb)
          replace BK0 := Xbb BK0 hb
          replace BK502 := Xbb BK502 hb
          replace HR507 := Aside0.mk (Kd.C_below (by repeat (first | (with_reducible exact HR507.out) | (with_reducible first | refine Kd.C_alloc ?_ _ | refine Kd.C_drewN ?_ _ | refine Kd.C_drew ?_) | exact HR507.out)) hb)
          replace HB := Aside0.mk (below_step Xi hb)
          (try clear hb)
          (try clear hb2)
          (try clear hk)
          (try clear hi)
          refine hK.out _ _ ⟨(blk_cell BK502.out 0).trans rfl, (blk_cell BK502.out 1).trans rfl, (blk_cell BK502.out 2).trans rfl, (blk_cell BK502.out 3).trans rfl, (blk_cell BK502.out 4).trans rfl⟩ (fun hHeld => ?_)
          clear hK K
          refine Xno ?_
          refine one_ (i := 12) (N := some 50) (XW.bs 14 8191) rfl rfl (one_of HT_.out (by kernel_rfl)) (by decide) (fun K hK => ?_)
          refine goes_ Try.func105 (by kernel_rfl) rfl #[.int .i64 t509, .int .i64 t510] (by rfl) rfl rfl (by (try simp only [List.map_toArray, List.map_cons, List.map_nil]); first | done | rfl | (simp only [List.length_drop, List.length_take]; rfl)) ?_
          with_reducible refine (impl_compatible.calls t509 t510 t511 _ A25.out).mono ?_
          rintro e w30 ⟨rfl, hb⟩
          refine ⟨_, rfl, ?_⟩
          replace HO_5 := Aside0.mk (Kd.R_below (Xq HO_5) hb)
          replace HO_23 := Aside0.mk (Kd.R_below (Xq HO_23) hb)
          replace BK0 := Xbb BK0 hb
          replace BK502 := Xbb BK502 hb
          replace HR507 := Aside0.mk (Kd.C_below (by repeat (first | (with_reducible exact HR507.out) | (with_reducible first | refine Kd.C_alloc ?_ _ | refine Kd.C_drewN ?_ _ | refine Kd.C_drew ?_) | exact HR507.out)) hb)
          replace HB := Aside0.mk (below_step Xi hb)
          (try clear hb)
          (try clear hb2)
          (try clear hk)
          (try clear hi)
          refine hK.out _ _ ⟨(blk_cell BK502.out 0).trans rfl, (blk_cell BK502.out 1).trans rfl, (blk_cell BK502.out 2).trans rfl, (blk_cell BK502.out 3).trans rfl, (blk_cell BK502.out 4).trans rfl⟩ (fun hHeld => ?_)
          clear hK K
          refine Xno ?_
          refine Xpu 13 51 (XW.bs 14 16383) HT_.out ?_
          refine done_ (done_of HT_.out (by kernel_rfl)) ?_
          go_upto_if 51 with (fail)
          have H := HC26.out
          clear HC26
          by_cases c31 : t511 = true
          ·subst c31
           (first | rw [if_pos rfl] at H | skip)
           have H' := Aside0.mk H
           clear H
           go_wp2
           go_roundg k3
           case measure => have := HK1.out; have := HK2.out; have := HK3.out; omega
           case rel => exact ⟨(wrap64 (x34_3 + 1)), Xr, H', ⟨by have := HK1.out; have := HK2.out; have := HK3.out; omega⟩, (Xp' HO_5), (Xp' HO_23), BK0, BK502, ⟨by repeat (first | (with_reducible exact HR507.out) | (with_reducible first | refine Kd.C_alloc ?_ _ | refine Kd.C_drewN ?_ _ | refine Kd.C_drew ?_) | exact HR507.out)⟩, ⟨Xi⟩⟩
          ·replace c31 := Bool.eq_false_iff.mpr c31
           subst c31
           (first | rw [if_neg (show ¬ (false = true) by decide)] at H | skip)
           obtain rfl := Option.some.inj H
           go_wp2
           go_ret
           exact ⟨Xe, Xi⟩
         ·have H' := Aside0.mk H
          clear H
          go_wp2
          go_roundg k3
          case measure => have := HK1.out; have := HK2.out; have := HK3.out; omega
          case rel => exact ⟨(wrap64 (x25_2 + 1)), Xr, H', ⟨by have := HK1.out; have := HK2.out; have := HK3.out; omega⟩, (Xp' HO_5), (Xp' HO_23), BK0, BK502, ⟨Xi⟩⟩
      ·have H' := Aside0.mk H
       clear H
       go_wp2
       go_roundg k2
       case measure => have := HK1.out; have := HK2.out; omega
       case rel => exact ⟨(wrap64 (x19_1 + 1)), Xr, H', ⟨by have := HK1.out; have := HK2.out; omega⟩, (Xp' HO_5), BK0, ⟨Xi⟩⟩
   ·obtain rfl := Option.some.inj H
    go_wp2
    go_ret
    exact ⟨Xe, Xi⟩

/-! ### impl_Peaceful: function 34 -/
def impl_Peaceful.f (k : Nat) (a0_0 : Int) (a0_1 : Int) (l0_2 : List (S92)) (l1 : List (S55)) : Option (Bool × Int) := (impl_isLongList_impl_Hold.f l1).bind fun t513 => (if t513 = true then (some (false, 2)) else ((impl_HoldsOK.f k a0_0 a0_1 l0_2 l1).bind fun t514 => (if t514 = true then ((impl_Doc_isPeaceful.f k a0_0 a0_1 l0_2 l1).bind fun t515 => (some (t515, 0))) else (some (false, 1)))))
set_option maxHeartbeats 8000000 in
set_option maxRecDepth 100000 in
theorem impl_Peaceful.calls (k : Nat) (a0_0 : Int) (a0_1 : Int) (A0_2 : Option Addr) (c0_2 : Nat) (l0_2 : List (S92)) (A1 : Option Addr) (c1 : Nat) (l1 : List (S55)) (r1 : Bool) (r2 : Int) (w : World) (hr0_2 : Kd.C k92 w A0_2 l0_2.length l0_2) (hc0_2 : l0_2.length ≤ c0_2) (hr1 : Kd.C k55 w A1 l1.length l1) (hc1 : l1.length ≤ c1) (h : impl_Peaceful.f k a0_0 a0_1 l0_2 l1 = some (r1, r2)) :
  Calls Try.prog 34 #[.agg #[.int .i64 a0_0, .int .i64 a0_1, .slice A0_2 l0_2.length c0_2], .slice A1 l1.length c1] w fun e w' => e = .returned (.tuple #[.bool r1, .int .i64 r2]) ∧ Below w.heap.size w w' := by
 have hu33 := Try.underlying33
 have HR0_2 := Aside0.mk hr0_2
 have HC0_2 := Aside0.mk hc0_2
 clear hr0_2 hc0_2
 have HR1 := Aside0.mk hr1
 have HC1 := Aside0.mk hc1
 clear hr1 hc1
 have HB := Aside0.mk (Below.refl w.heap.size w)
 have H : ((impl_isLongList_impl_Hold.f l1).bind fun t513 => (if t513 = true then (some (false, 2)) else ((impl_HoldsOK.f k a0_0 a0_1 l0_2 l1).bind fun t514 => (if t514 = true then ((impl_Doc_isPeaceful.f k a0_0 a0_1 l0_2 l1).bind fun t515 => (some (t515, 0))) else (some (false, 1)))))) = some (r1, r2) := h
 clear h
 obtain ⟨t513, A3, H⟩ := Xbi H
 (try dsimp only at H)
 have HC4 := Aside0.mk H
 clear H
 go_enter Try.func34, Try.ntmps34
 go_upto_if 6 with (first | ((with_reducible refine gate_dst (N := 2) rfl ?_); refine Xbox 2 #[.int .i64 a0_0, .int .i64 a0_1, .slice A0_2 l0_2.length c0_2] 33 ?_; intro gb512 hg w5 hbox hb; have BK512 := Aside0.mk (hbox); have GE512 := Xge hg Xi; replace HB := Aside0.mk (below_step Xi hb); clear hb hbox hg) | ((with_reducible refine gate_callee (f := 63) rfl ?_); refine Xgo 8 Try.func63 #[.slice A1 l1.length c1] ?_; (with_reducible refine (impl_isLongList_impl_Hold.calls _ _ l1 t513 _ ?side1 ?side2 A3.out).mono ?_); (case side1 => exact Xc HR1); (case side2 => exact HC1.out); rintro e w' ⟨rfl, ⟨nd, rfl⟩⟩; refine ⟨_, rfl, ?_⟩))
 have H := HC4.out
 clear HC4
 by_cases c6 : t513 = true
 ·subst c6
  (first | rw [if_pos rfl] at H | skip)
  simp only [Option.some.injEq, Prod.mk.injEq] at H
  obtain ⟨rfl, rfl⟩ := H
  go_wp2
  go_ret2
  exact ⟨Xe, Xi⟩
 ·replace c6 := Bool.eq_false_iff.mpr c6
  subst c6
  (first | rw [if_neg (show ¬ (false = true) by decide)] at H | skip)
  obtain ⟨t514, A7, H⟩ := Xbi H
  (try dsimp only at H)
  have HC8 := Aside0.mk H
  clear H
  obtain ⟨hcz9_0, hcz9_1, hcz9_2⟩ := Xc3 BK512
  go_upto_if 9 with (first | ((with_reducible refine gate_callee (f := 42) rfl ?_); refine Xgo 12 Try.func42 #[.agg #[.int .i64 a0_0, .int .i64 a0_1, .slice A0_2 l0_2.length c0_2], .slice A1 l1.length c1] ?_; (with_reducible refine (impl_HoldsOK.calls k a0_0 a0_1 _ _ l0_2 _ _ l1 t514 _ ?side1 ?side2 ?side3 ?side4 A7.out).mono ?_); (case side1 => exact Xc HR0_2); (case side2 => exact HC0_2.out); (case side3 => exact Xc HR1); (case side4 => exact HC1.out); rintro e w10 ⟨rfl, hb⟩; refine ⟨_, rfl, ?_⟩; replace BK512 := Xbb BK512 hb; replace HB := Aside0.mk (below_step Xi hb); clear hb))
  have H := HC8.out
  clear HC8
  by_cases c11 : t514 = true
  ·subst c11
   (first | rw [if_pos rfl] at H | skip)
   obtain ⟨t515, A12, H⟩ := Xbi H
   (try dsimp only at H)
   simp only [Option.some.injEq, Prod.mk.injEq] at H
   obtain ⟨rfl, rfl⟩ := H
   go_wp2_with (first | ((with_reducible refine gate_callee (f := 64) rfl ?_); refine Xgo 15 Try.func64 #[.pointer (some ⟨gb512, 0, none⟩), .slice A1 l1.length c1] ?_; (with_reducible refine (impl_Doc_isPeaceful.calls k gb512 a0_0 a0_1 A0_2 c0_2 l0_2 _ _ l1 t515 _ ?side1 ?side2 ?side3 ?side4 ?side5 A12.out).mono ?_); (case side1 => exact BK512.out); (case side2 => exact Xc HR0_2); (case side3 => exact HC0_2.out); (case side4 => exact Xc HR1); (case side5 => exact HC1.out); rintro e w13 ⟨rfl, hb⟩; refine ⟨_, rfl, ?_⟩; replace BK512 := Xbb BK512 hb; replace HB := Aside0.mk (below_step Xi hb); clear hb))
   go_ret2
   exact ⟨Xe, Xi⟩
  ·replace c11 := Bool.eq_false_iff.mpr c11
   subst c11
   (first | rw [if_neg (show ¬ (false = true) by decide)] at H | skip)
   simp only [Option.some.injEq, Prod.mk.injEq] at H
   obtain ⟨rfl, rfl⟩ := H
   go_wp2
   go_ret2
   exact ⟨Xe, Xi⟩

end Go.Proofs.Ytnanfenogmpemaa.XA
