/- Contracts of the program's functions: each Go function that is named below comes to what its Lean function says. Written by xprint.py (a program of this session's, over the kit's print). Conditions: each contract's own premises. -/
import Derived.Test.YtfemohapampkiaaYHoldsOK0
import Derived.Test.YtfemohapampkiaaYHoldsOKFind
namespace Go.Proofs.Ytfemohapampkiaa.XA
open Go.RowKit Go.Proofs.YtfemohapampkiaaW.PrintWords Go.Proofs.YtfemohapampkiaaW.PrintLast Go.Proofs.YtfemohapampkiaaW.PrintMore
attribute [local go_sem] max2_int min2_int max_two min_two max_three min_three max_four min_four   -- for this text's walks alone
set_option linter.unusedVariables false
set_option linter.unusedSimpArgs false

/-! ### impl_Doc_has: function 61 -/
def impl_Doc_has.f (k : Nat) (a0_0 : Int) (a0_1 : Int) (l0_2 : List (S88)) (a1 : Int) : Option (Bool) := (impl_Doc_find.f k a0_0 a0_1 l0_2 a1).bind fun t228 => (if t228 < 0 then (some false) else (some true))
theorem impl_Doc_has.mono : ∀ a0 a1 a2 a3 k, LeO (impl_Doc_has.f k a0 a1 a2 a3) (impl_Doc_has.f (k + 1) a0 a1 a2 a3) := by
 intro a0 a1 a2 a3 k
 unfold impl_Doc_has.f
 repeat' first
   | (with_reducible exact impl_Doc_find.mono _ _ _ _ _)
   | (with_reducible exact LeO.refl _)
   | (with_reducible exact LeO.none _)
   | (with_reducible refine LeO.ite ?_ ?_)
   | (with_reducible refine LeO.bind ?_ (fun _ => ?_))
   | exact impl_Doc_find.mono _ _ _ _ _
   | exact LeO.none _
   | refine LeO.ite ?_ ?_
   | refine LeO.bind ?_ (fun _ => ?_)
set_option maxHeartbeats 8000000 in
set_option maxRecDepth 100000 in
theorem impl_Doc_has.calls (k : Nat) (g0_ : Nat) (a0_0 : Int) (a0_1 : Int) (A0_2 : Option Addr) (c0_2 : Nat) (l0_2 : List (S88)) (a1 : Int) (r : Bool) (w : World) (hg0_ : w.heap[g0_]? = some (.cells #[.int .i64 a0_0, .int .i64 a0_1, .slice A0_2 l0_2.length c0_2] 29 (0, 0))) (hr0_2 : Kd.C k88 w A0_2 l0_2.length l0_2) (hc0_2 : l0_2.length ≤ c0_2) (h : impl_Doc_has.f k a0_0 a0_1 l0_2 a1 = some r) :
  Calls Try.prog 61 #[.pointer (some ⟨g0_, 0, none⟩), .int .i64 a1] w fun e w' => e = .returned (.bool r) ∧ Below w.heap.size w w' := by
 have HR0_2 := Aside0.mk hr0_2
 have HC0_2 := Aside0.mk hc0_2
 clear hr0_2 hc0_2
 have BK0 := Aside0.mk hg0_
 clear hg0_
 have HB := Aside0.mk (Below.refl w.heap.size w)
 have H : ((impl_Doc_find.f k a0_0 a0_1 l0_2 a1).bind fun t228 => (if t228 < 0 then (some false) else (some true))) = some r := h
 clear h
 replace H := Option.bind_eq_some_iff.mp H
 obtain ⟨t228, A30, H⟩ := H
 (try dsimp only at H)
 have A3 := Aside0.mk A30
 clear A30
 by_cases c4 : t228 < 0
 ·rw [if_pos c4] at H
  have c4b0 : decide (t228 < 0) = true := decide_eq_true c4
  clear c4
  obtain rfl := Option.some.inj H
  go_enter Try.func61, Try.ntmps61
  go_wp2_with (first | ((with_reducible refine gate_callee (f := 121) rfl ?_); refine goesL_ (some 7) rfl rfl Try.func121 (by kernel_rfl) rfl #[.pointer (some ⟨g0_, 0, none⟩), .int .i64 a1] rfl (by (try simp only [List.map_toArray, List.map_cons, List.map_nil]); first | done | rfl | (simp only [List.length_drop, List.length_take]; rfl)) ?_; (with_reducible refine (impl_Doc_find.calls k g0_ a0_0 a0_1 A0_2 c0_2 l0_2 a1 t228 _ ?side1 ?side2 ?side3 A3.out).mono ?_); (case side1 => exact (by exact BK0.out)); (case side2 => repeat (first | exact HR0_2.out | (with_reducible first | refine Kd.C_alloc ?_ _ | refine Kd.C_drewN ?_ _ | refine Kd.C_drew ?_))); (case side3 => exact HC0_2.out); rintro e w5 ⟨pF, rfl, hpn, hps, hb⟩; refine ⟨_, rfl, ?_⟩; obtain rfl := hpn (of_decide_eq_true (by first | (with_reducible assumption) | assumption)); clear hps; replace BK0 := Aside0.mk (blk_below (g := g0_) (o := .cells #[.int .i64 a0_0, .int .i64 a0_1, .slice A0_2 l0_2.length c0_2] 29 (0, 0)) (by exact BK0.out) hb); replace HB := Aside0.mk (below_step (by repeat first | with_reducible exact HB.out | apply XW.bN) hb); (try clear hb); (try clear hb2); (try clear hk); (try clear hi)))
  go_ret
  exact ⟨by first | rfl | (simp [errW_none, errW_some] <;> rfl) | (simp [*, errW_none, errW_some] <;> rfl), by repeat first | (with_reducible first | exact HB.out | apply XW.bN) | exact HB.out⟩
 ·rw [if_neg c4] at H
  have c4b0 : decide (t228 < 0) = false := decide_eq_false c4
  clear c4
  obtain rfl := Option.some.inj H
  go_enter Try.func61, Try.ntmps61
  go_wp2_with (first | ((with_reducible refine gate_callee (f := 121) rfl ?_); refine goesL_ (some 7) rfl rfl Try.func121 (by kernel_rfl) rfl #[.pointer (some ⟨g0_, 0, none⟩), .int .i64 a1] rfl (by (try simp only [List.map_toArray, List.map_cons, List.map_nil]); first | done | rfl | (simp only [List.length_drop, List.length_take]; rfl)) ?_; (with_reducible refine (impl_Doc_find.calls k g0_ a0_0 a0_1 A0_2 c0_2 l0_2 a1 t228 _ ?side1 ?side2 ?side3 A3.out).mono ?_); (case side1 => exact (by exact BK0.out)); (case side2 => repeat (first | exact HR0_2.out | (with_reducible first | refine Kd.C_alloc ?_ _ | refine Kd.C_drewN ?_ _ | refine Kd.C_drew ?_))); (case side3 => exact HC0_2.out); rintro e w6 ⟨pF, rfl, hpn, hps, hb⟩; refine ⟨_, rfl, ?_⟩; obtain ⟨adf7, hae, rfl⟩ := hps (Int.not_lt.mp (of_decide_eq_false (by first | (with_reducible assumption) | assumption))); clear hpn; cases hae; replace BK0 := Aside0.mk (blk_below (g := g0_) (o := .cells #[.int .i64 a0_0, .int .i64 a0_1, .slice (some adf7) l0_2.length c0_2] 29 (0, 0)) (by exact BK0.out) hb); replace HB := Aside0.mk (below_step (by repeat first | with_reducible exact HB.out | apply XW.bN) hb); (try clear hb); (try clear hb2); (try clear hk); (try clear hi)))
  go_ret
  exact ⟨by first | rfl | (simp [errW_none, errW_some] <;> rfl) | (simp [*, errW_none, errW_some] <;> rfl), by repeat first | (with_reducible first | exact HB.out | apply XW.bN) | exact HB.out⟩

/-! ### impl_Doc_depth: function 122 -/
mutual
def impl_Doc_depth.l0 : Nat → Int → Int → List Int → Int → Int → Int → Int → List (S88) → Option (Int)
 | 0, _, _, _, _, _, _, _, _ => none
 | k + 1, x2, x7, x17, x18, x19, x1000, x1001, x1002 => if x19 < x18 then (if 0 ≤ x19 then (if x19 < (x17.length : Int) then ((impl_Doc_depth.f k x1000 x1001 x1002 (rd x17 x19) (wrap64 (x2 + 1))).bind fun t232 => (impl_Doc_depth.l0 k x2 (mx x7 t232) x17 x18 (wrap64 (x19 + 1)) x1000 x1001 x1002)) else (none)) else (none)) else (some (wrap64 (x7 + 1)))
def impl_Doc_depth.f : Nat → Int → Int → List (S88) → Int → Int → Option (Int)
 | 0, _, _, _, _, _ => none
 | k + 1, a0_0, a0_1, l0_2, a1, a2 => if a2 > 6 then (some 0) else ((impl_Doc_find.f k a0_0 a0_1 l0_2 a1).bind fun t229 => (if t229 < 0 then (none) else (if 0 ≤ t229 then (if t229 < (l0_2.length : Int) then (impl_Doc_depth.l0 k a2 0 ((rd_T88 l0_2 t229).f4) (((rd_T88 l0_2 t229).f4).length : Int) 0 a0_0 a0_1 l0_2) else (none)) else (none))))
end
theorem impl_Doc_depth.mono_l : ∀ k, (∀ y0 y1 y2 y3 y4, LeO (impl_Doc_depth.f k y0 y1 y2 y3 y4) (impl_Doc_depth.f (k + 1) y0 y1 y2 y3 y4)) ∧ (∀ y0 y1 y2 y3 y4 y5 y6 y7, LeO (impl_Doc_depth.l0 k y0 y1 y2 y3 y4 y5 y6 y7) (impl_Doc_depth.l0 (k + 1) y0 y1 y2 y3 y4 y5 y6 y7))
 | 0 => ⟨fun _ _ _ _ _ r h => by simp [impl_Doc_depth.f] at h, fun _ _ _ _ _ _ _ _ r h => by simp [impl_Doc_depth.l0] at h⟩
 | k + 1 => by
  obtain ⟨ih0, ih1⟩ := impl_Doc_depth.mono_l k
  refine ⟨?_, ?_⟩
  ·intro y0 y1 y2 y3 y4
   unfold impl_Doc_depth.f
   repeat' first
   | (with_reducible exact ih0 _ _ _ _ _)
   | (with_reducible exact ih1 _ _ _ _ _ _ _ _)
   | (with_reducible exact impl_Doc_find.mono _ _ _ _ _)
   | (with_reducible exact LeO.refl _)
   | (with_reducible exact LeO.none _)
   | (with_reducible refine LeO.ite ?_ ?_)
   | (with_reducible refine LeO.bind ?_ (fun _ => ?_))
   | exact ih0 _ _ _ _ _
   | exact ih1 _ _ _ _ _ _ _ _
   | exact impl_Doc_find.mono _ _ _ _ _
   | exact LeO.none _
   | refine LeO.ite ?_ ?_
   | refine LeO.bind ?_ (fun _ => ?_)
  ·intro y0 y1 y2 y3 y4 y5 y6 y7
   unfold impl_Doc_depth.l0
   repeat' first
   | (with_reducible exact ih0 _ _ _ _ _)
   | (with_reducible exact ih1 _ _ _ _ _ _ _ _)
   | (with_reducible exact impl_Doc_find.mono _ _ _ _ _)
   | (with_reducible exact LeO.refl _)
   | (with_reducible exact LeO.none _)
   | (with_reducible refine LeO.ite ?_ ?_)
   | (with_reducible refine LeO.bind ?_ (fun _ => ?_))
   | exact ih0 _ _ _ _ _
   | exact ih1 _ _ _ _ _ _ _ _
   | exact impl_Doc_find.mono _ _ _ _ _
   | exact LeO.none _
   | refine LeO.ite ?_ ?_
   | refine LeO.bind ?_ (fun _ => ?_)
theorem impl_Doc_depth.mono : ∀ a0 a1 a2 a3 a4 k, LeO (impl_Doc_depth.f k a0 a1 a2 a3 a4) (impl_Doc_depth.f (k + 1) a0 a1 a2 a3 a4) := by
 intro a0 a1 a2 a3 a4 k
 obtain ⟨ih0, ih1⟩ := impl_Doc_depth.mono_l k
 exact ih0 a0 a1 a2 a3 a4
set_option maxHeartbeats 8000000 in
set_option maxRecDepth 100000 in
theorem impl_Doc_depth.calls (k : Nat) : ∀ (g0_ : Nat) (a0_0 : Int) (a0_1 : Int) (A0_2 : Option Addr) (c0_2 : Nat) (l0_2 : List (S88)) (a1 : Int) (a2 : Int) (r : Int) (w : World) (hg0_ : w.heap[g0_]? = some (.cells #[.int .i64 a0_0, .int .i64 a0_1, .slice A0_2 l0_2.length c0_2] 29 (0, 0))) (hr0_2 : Kd.C k88 w A0_2 l0_2.length l0_2) (hc0_2 : l0_2.length ≤ c0_2) (h : impl_Doc_depth.f k a0_0 a0_1 l0_2 a1 a2 = some r),
  Calls Try.prog 122 #[.pointer (some ⟨g0_, 0, none⟩), .int .i64 a1, .int .i64 a2] w fun e w' => e = .returned (.int .i64 r) ∧ Below w.heap.size w w' := by
 induction k using Nat.strongRecOn with
 | _ k ih =>
 intro g0_ a0_0 a0_1 A0_2 c0_2 l0_2 a1 a2 r w hg0_ hr0_2 hc0_2 h
 cases k with
 | zero => exact absurd h (by simp [impl_Doc_depth.f])
 | succ k =>
 simp only [impl_Doc_depth.f] at h
 have HR0_2 := Aside0.mk hr0_2
 have HC0_2 := Aside0.mk hc0_2
 clear hr0_2 hc0_2
 have BK0 := Aside0.mk hg0_
 clear hg0_
 have HB := Aside0.mk (Below.refl w.heap.size w)
 have H : (if a2 > 6 then (some 0) else ((impl_Doc_find.f k a0_0 a0_1 l0_2 a1).bind fun t229 => (if t229 < 0 then (none) else (if 0 ≤ t229 then (if t229 < (l0_2.length : Int) then (impl_Doc_depth.l0 k a2 0 ((rd_T88 l0_2 t229).f4) (((rd_T88 l0_2 t229).f4).length : Int) 0 a0_0 a0_1 l0_2) else (none)) else (none))))) = some r := h
 clear h
 by_cases c4 : a2 > 6
 ·rw [if_pos c4] at H
  have c4b0 : decide (6 < a2) = true := decide_eq_true c4
  clear c4
  obtain rfl := Option.some.inj H
  go_enter Try.func122, Try.ntmps122
  go_wp2
  go_ret
  exact ⟨by first | rfl | (simp [errW_none, errW_some] <;> rfl) | (simp [*, errW_none, errW_some] <;> rfl), by repeat first | (with_reducible first | exact HB.out | apply XW.bN) | exact HB.out⟩
 ·rw [if_neg c4] at H
  have c4b0 : decide (6 < a2) = false := decide_eq_false c4
  clear c4
  replace H := Option.bind_eq_some_iff.mp H
  obtain ⟨t229, A50, H⟩ := H
  (try dsimp only at H)
  have A5 := Aside0.mk A50
  clear A50
  by_cases c6 : t229 < 0
  ·rw [if_pos c6] at H
   have c6b0 : decide (t229 < 0) = true := decide_eq_true c6
   clear c6
   exact absurd H (by simp)
  ·rw [if_neg c6] at H
   have c6b0 : decide (t229 < 0) = false := decide_eq_false c6
   clear c6
   by_cases c7 : 0 ≤ t229
   ·rw [if_pos c7] at H
    have c7b0 : decide (0 ≤ t229) = true := decide_eq_true c7
    clear c7
    by_cases c8 : t229 < (l0_2.length : Int)
    ·rw [if_pos c8] at H
     have c8b0 : decide (t229 < (l0_2.length : Int)) = true := decide_eq_true c8
     clear c8
     have H' := Aside0.mk H
     clear H
     go_enter Try.func122, Try.ntmps122
     go_wp2_with (first | ((with_reducible refine gate_callee (f := 121) rfl ?_); refine goesL_ (some 14) rfl rfl Try.func121 (by kernel_rfl) rfl #[.pointer (some ⟨g0_, 0, none⟩), .int .i64 a1] rfl (by (try simp only [List.map_toArray, List.map_cons, List.map_nil]); first | done | rfl | (simp only [List.length_drop, List.length_take]; rfl)) ?_; (with_reducible refine (impl_Doc_find.calls k g0_ a0_0 a0_1 A0_2 c0_2 l0_2 a1 t229 _ ?side1 ?side2 ?side3 A5.out).mono ?_); (case side1 => exact (by exact BK0.out)); (case side2 => repeat (first | exact HR0_2.out | (with_reducible first | refine Kd.C_alloc ?_ _ | refine Kd.C_drewN ?_ _ | refine Kd.C_drew ?_))); (case side3 => exact HC0_2.out); rintro e w9 ⟨pF, rfl, hpn, hps, hb⟩; refine ⟨_, rfl, ?_⟩; obtain ⟨adf10, hae, rfl⟩ := hps (Int.not_lt.mp (of_decide_eq_false (by first | (with_reducible assumption) | assumption))); clear hpn; cases hae; replace BK0 := Aside0.mk (blk_below (g := g0_) (o := .cells #[.int .i64 a0_0, .int .i64 a0_1, .slice (some adf10) l0_2.length c0_2] 29 (0, 0)) (by exact BK0.out) hb); replace HB := Aside0.mk (below_step (by repeat first | with_reducible exact HB.out | apply XW.bN) hb); (try clear hb); (try clear hb2); (try clear hk); (try clear hi); have p230 : 0 ≤ (t229 : Int) := of_decide_eq_true (by first | (with_reducible assumption) | assumption); have q230 : t229 < (l0_2.length : Int) := of_decide_eq_true (by first | (with_reducible assumption) | assumption); obtain ⟨ad230, A230_4, c230_4, e230, hx230_0, hx230_1, hx230_2, hx230_3, hx230_4, hl230_4, hi230_4⟩ := at_T88 HR0_2.out t229 p230 q230; obtain rfl : adf10 = ad230 := (by injection e230); replace hx230_0 := (HB.out.cell (World.block_lt_of_cell? w _ hx230_0)).trans hx230_0; replace hx230_1 := (HB.out.cell (World.block_lt_of_cell? w _ hx230_1)).trans hx230_1; replace hx230_2 := (HB.out.cell (World.block_lt_of_cell? w _ hx230_2)).trans hx230_2; replace hx230_3 := (HB.out.cell (World.block_lt_of_cell? w _ hx230_3)).trans hx230_3; replace hx230_4 := (HB.out.cell (World.block_lt_of_cell? w _ hx230_4)).trans hx230_4; have HR230_4 := Aside0.mk hi230_4; have HC230_4 := Aside0.mk hl230_4; clear hi230_4 hl230_4; replace p230 := eq_true p230; replace q230 := eq_true q230))
     go_loopg [7, 19] k (fun kq v7 v19 w' => ∃ (x7_1 : Int) (x19_1 : Int), v7 = .int .i64 x7_1 ∧ v19 = .int .i64 x19_1 ∧ Aside0 (impl_Doc_depth.l0 kq a2 x7_1 ((rd_T88 l0_2 t229).f4) (((rd_T88 l0_2 t229).f4).length : Int) x19_1 a0_0 a0_1 l0_2 = some r) ∧ Aside0 (kq ≤ k) ∧ Aside0 (w'.heap[g0_]? = some (.cells #[.int .i64 a0_0, .int .i64 a0_1, (.slice (some adf10) l0_2.length c0_2)] 29 (0, 0))) ∧ Aside0 (Below w.heap.size w w'))
     case atStart => exact ⟨(0), (0), (by first | rfl | (simp; done) | (simp [*]; done)), (by first | rfl | (simp; done) | (simp [*]; done)), H', ⟨Nat.le_refl _⟩, ⟨by exact BK0.out⟩, ⟨by repeat first | (with_reducible first | exact HB.out | apply XW.bN) | exact HB.out⟩⟩
     case round =>
      clear H'
      (try clear c4); (try clear c4b0); (try clear c6); (try clear c6b0); (try clear c7); (try clear c7b0); (try clear c8); (try clear c8b0); (try clear hx230_0); (try clear hx230_1); (try clear hx230_2); (try clear hx230_3); (try clear hx230_4); (try clear p230); (try clear q230)
      obtain ⟨x7_1, x19_1, rfl, rfl, HA, HK1, BK0, HB⟩ := hrel
      cases gk with
      | zero => exact absurd HA.out (by simp [impl_Doc_depth.l0])
      | succ k1 =>
       have H := HA.out
       clear HA
       simp only [impl_Doc_depth.l0] at H
       by_cases c11 : x19_1 < (((rd_T88 l0_2 t229).f4).length : Int)
       ·rw [if_pos c11] at H
        have c11b0 : decide (x19_1 < (((rd_T88 l0_2 t229).f4).length : Int)) = true := decide_eq_true c11
        clear c11
        by_cases c12 : 0 ≤ x19_1
        ·rw [if_pos c12] at H
         have c12b0 : decide (0 ≤ x19_1) = true := decide_eq_true c12
         clear c12
         by_cases c13 : x19_1 < (((rd_T88 l0_2 t229).f4).length : Int)
         ·rw [if_pos c13] at H
          have c13b0 : decide (x19_1 < (((rd_T88 l0_2 t229).f4).length : Int)) = true := decide_eq_true c13
          clear c13
          replace H := Option.bind_eq_some_iff.mp H
          obtain ⟨t232, A140, H⟩ := H
          (try dsimp only at H)
          have A14 := Aside0.mk A140
          clear A140
          obtain ⟨ji15, hji15⟩ : ∃ j_ : Int, (mx x7_1 t232) = j_ := ⟨_, rfl⟩
          replace H : (impl_Doc_depth.l0 k1 a2 ji15 ((rd_T88 l0_2 t229).f4) (((rd_T88 l0_2 t229).f4).length : Int) (wrap64 (x19_1 + 1)) a0_0 a0_1 l0_2) = some r := by first | (rw [hji15] at H; exact H) | (simp only [hji15] at H ⊢; exact H)
          (try rw [hji15] at A14)
          have hji15_ : (if x7_1 < t232 then t232 else x7_1) = ji15 := hji15
          have H' := Aside0.mk H
          clear H
          have p231 : 0 ≤ (x19_1 : Int) := of_decide_eq_true (by first | (with_reducible assumption) | assumption)
          have q231 : x19_1 < (((rd_T88 l0_2 t229).f4).length : Int) := of_decide_eq_true (by first | (with_reducible assumption) | assumption)
          obtain ⟨ad231, e231, hx231_0⟩ := Kd.at_int HR230_4.out x19_1 p231 q231
          cases e231
          replace hx231_0 := (HB.out.cell (World.block_lt_of_cell? w _ hx231_0)).trans hx231_0
          replace p231 := eq_true p231
          replace q231 := eq_true q231
          go_wp2_with (first | ((with_reducible refine gate_callee (f := 122) rfl ?_); refine goesL_ (some 28) rfl rfl Try.func122 (by kernel_rfl) rfl #[.pointer (some ⟨g0_, 0, none⟩), .int .i64 (rd ((rd_T88 l0_2 t229).f4) x19_1), .int .i64 (wrap64 (a2 + 1))] rfl (by (try simp only [List.map_toArray, List.map_cons, List.map_nil]); first | done | rfl | (simp only [List.length_drop, List.length_take]; rfl)) ?_; (with_reducible refine (ih k1 (by have := HK1.out; omega) g0_ a0_0 a0_1 (some adf10) c0_2 l0_2 (rd ((rd_T88 l0_2 t229).f4) x19_1) (wrap64 (a2 + 1)) t232 _ ?side1 ?side2 ?side3 A14.out).mono ?_); (case side1 => exact (by exact BK0.out)); (case side2 => repeat (first | exact (Kd.C_below HR0_2.out HB.out) | (with_reducible first | refine Kd.C_alloc ?_ _ | refine Kd.C_drewN ?_ _ | refine Kd.C_drew ?_))); (case side3 => exact HC0_2.out); rintro e w16 ⟨rfl, hb⟩; refine ⟨_, rfl, ?_⟩; replace BK0 := Aside0.mk (blk_below (g := g0_) (o := .cells #[.int .i64 a0_0, .int .i64 a0_1, .slice (some adf10) l0_2.length c0_2] 29 (0, 0)) (by exact BK0.out) hb); replace HB := Aside0.mk (below_step (by repeat first | with_reducible exact HB.out | apply XW.bN) hb); (try clear hb); (try clear hb2); (try clear hk); (try clear hi)))
          go_roundg k1
          case measure => have := HK1.out; omega
          case rel => exact ⟨(ji15), (wrap64 (x19_1 + 1)), (by first | rfl | (simp; done) | (simp only [← hji15] <;> (first | rfl | simp)) | (simp [*]; done)), (by first | rfl | (simp; done) | (simp [*]; done)), H', ⟨by have := HK1.out; omega⟩, ⟨by exact BK0.out⟩, ⟨by repeat first | (with_reducible first | exact HB.out | apply XW.bN) | exact HB.out⟩⟩
         ·rw [if_neg c13] at H
          exact absurd H (by simp)
        ·rw [if_neg c12] at H
         exact absurd H (by simp)
       ·rw [if_neg c11] at H
        have c11b0 : decide (x19_1 < (((rd_T88 l0_2 t229).f4).length : Int)) = false := decide_eq_false c11
        clear c11
        obtain rfl := Option.some.inj H
        go_wp2
        go_ret
        exact ⟨by first | rfl | (simp [errW_none, errW_some] <;> rfl) | (simp [*, errW_none, errW_some] <;> rfl), by repeat first | (with_reducible first | exact HB.out | apply XW.bN) | exact HB.out⟩
    ·rw [if_neg c8] at H
     exact absurd H (by simp)
   ·rw [if_neg c7] at H
    exact absurd H (by simp)

/-! ### impl_Doc_isDeep: function 62 -/
def impl_Doc_isDeep.f (k : Nat) (a0_0 : Int) (a0_1 : Int) (l0_2 : List (S88)) : Option (Bool) := (impl_Doc_depth.f k a0_0 a0_1 l0_2 a0_0 0).bind fun t233 => (some (decide (t233 > 6)))
theorem impl_Doc_isDeep.mono : ∀ a0 a1 a2 k, LeO (impl_Doc_isDeep.f k a0 a1 a2) (impl_Doc_isDeep.f (k + 1) a0 a1 a2) := by
 intro a0 a1 a2 k
 unfold impl_Doc_isDeep.f
 repeat' first
   | (with_reducible exact impl_Doc_depth.mono _ _ _ _ _ _)
   | (with_reducible exact LeO.refl _)
   | (with_reducible exact LeO.none _)
   | (with_reducible refine LeO.ite ?_ ?_)
   | (with_reducible refine LeO.bind ?_ (fun _ => ?_))
   | exact impl_Doc_depth.mono _ _ _ _ _ _
   | exact LeO.none _
   | refine LeO.ite ?_ ?_
   | refine LeO.bind ?_ (fun _ => ?_)
set_option maxHeartbeats 8000000 in
set_option maxRecDepth 100000 in
theorem impl_Doc_isDeep.calls (k : Nat) (g0_ : Nat) (a0_0 : Int) (a0_1 : Int) (A0_2 : Option Addr) (c0_2 : Nat) (l0_2 : List (S88)) (r : Bool) (w : World) (hg0_ : w.heap[g0_]? = some (.cells #[.int .i64 a0_0, .int .i64 a0_1, .slice A0_2 l0_2.length c0_2] 29 (0, 0))) (hr0_2 : Kd.C k88 w A0_2 l0_2.length l0_2) (hc0_2 : l0_2.length ≤ c0_2) (h : impl_Doc_isDeep.f k a0_0 a0_1 l0_2 = some r) :
  Calls Try.prog 62 #[.pointer (some ⟨g0_, 0, none⟩)] w fun e w' => e = .returned (.bool r) ∧ Below w.heap.size w w' := by
 have HR0_2 := Aside0.mk hr0_2
 have HC0_2 := Aside0.mk hc0_2
 clear hr0_2 hc0_2
 have BK0 := Aside0.mk hg0_
 clear hg0_
 have HB := Aside0.mk (Below.refl w.heap.size w)
 have H : ((impl_Doc_depth.f k a0_0 a0_1 l0_2 a0_0 0).bind fun t233 => (some (decide (t233 > 6)))) = some r := h
 clear h
 replace H := Option.bind_eq_some_iff.mp H
 obtain ⟨t233, A20, H⟩ := H
 (try dsimp only at H)
 have A2 := Aside0.mk A20
 clear A20
 obtain rfl := Option.some.inj H
 have hcz3_0 := (blk_cell BK0.out 0).trans XW.i0
 have hcz3_1 := (blk_cell BK0.out 1).trans XW.i1
 have hcz3_2 := (blk_cell BK0.out 2).trans XW.i2
 go_enter Try.func62, Try.ntmps62
 go_wp2_with (first | ((with_reducible refine gate_callee (f := 122) rfl ?_); refine goesL_ (some 8) rfl rfl Try.func122 (by kernel_rfl) rfl #[.pointer (some ⟨g0_, 0, none⟩), .int .i64 a0_0, .int .i64 0] rfl (by (try simp only [List.map_toArray, List.map_cons, List.map_nil]); first | done | rfl | (simp only [List.length_drop, List.length_take]; rfl)) ?_; (with_reducible refine (impl_Doc_depth.calls k g0_ a0_0 a0_1 A0_2 c0_2 l0_2 a0_0 0 t233 _ ?side1 ?side2 ?side3 A2.out).mono ?_); (case side1 => exact (by exact BK0.out)); (case side2 => repeat (first | exact HR0_2.out | (with_reducible first | refine Kd.C_alloc ?_ _ | refine Kd.C_drewN ?_ _ | refine Kd.C_drew ?_))); (case side3 => exact HC0_2.out); rintro e w4 ⟨rfl, hb⟩; refine ⟨_, rfl, ?_⟩; replace BK0 := Aside0.mk (blk_below (g := g0_) (o := .cells #[.int .i64 a0_0, .int .i64 a0_1, .slice A0_2 l0_2.length c0_2] 29 (0, 0)) (by exact BK0.out) hb); replace HB := Aside0.mk (below_step (by repeat first | with_reducible exact HB.out | apply XW.bN) hb); (try clear hb); (try clear hb2); (try clear hk); (try clear hi)))
 go_ret
 exact ⟨by first | rfl | (simp [errW_none, errW_some] <;> rfl) | (simp [*, errW_none, errW_some] <;> rfl), by repeat first | (with_reducible first | exact HB.out | apply XW.bN) | exact HB.out⟩

/-! ### impl_Doc_order: function 63 -/
mutual
def impl_Doc_order.l0 : Nat → List Int → List Int → Int → Int → Int → Int → List (S88) → Option (List Int)
 | 0, _, _, _, _, _, _, _ => none
 | k + 1, x1, x18, x19, x20, x1000, x1001, x1002 => if x20 < x19 then (if 0 ≤ x20 then (if x20 < (x18.length : Int) then ((impl_Doc_order.f k x1000 x1001 x1002 x1 (rd x18 x20)).bind fun t240 => (impl_Doc_order.l0 k t240 x18 x19 (wrap64 (x20 + 1)) x1000 x1001 x1002)) else (none)) else (none)) else (some x1)
def impl_Doc_order.f : Nat → Int → Int → List (S88) → List Int → Int → Option (List Int)
 | 0, _, _, _, _, _ => none
 | k + 1, a0_0, a0_1, l0_2, l1, a2 => if l1.length < 17592186044416 then ((impl_Doc_find.f k a0_0 a0_1 l0_2 a2).bind fun t237 => (if t237 < 0 then (none) else (if 0 ≤ t237 then (if t237 < (l0_2.length : Int) then (impl_Doc_order.l0 k (l1 ++ [a2]) ((rd_T88 l0_2 t237).f4) (((rd_T88 l0_2 t237).f4).length : Int) 0 a0_0 a0_1 l0_2) else (none)) else (none)))) else (none)
end
theorem impl_Doc_order.mono_l : ∀ k, (∀ y0 y1 y2 y3 y4, LeO (impl_Doc_order.f k y0 y1 y2 y3 y4) (impl_Doc_order.f (k + 1) y0 y1 y2 y3 y4)) ∧ (∀ y0 y1 y2 y3 y4 y5 y6, LeO (impl_Doc_order.l0 k y0 y1 y2 y3 y4 y5 y6) (impl_Doc_order.l0 (k + 1) y0 y1 y2 y3 y4 y5 y6))
 | 0 => ⟨fun _ _ _ _ _ r h => by simp [impl_Doc_order.f] at h, fun _ _ _ _ _ _ _ r h => by simp [impl_Doc_order.l0] at h⟩
 | k + 1 => by
  obtain ⟨ih0, ih1⟩ := impl_Doc_order.mono_l k
  refine ⟨?_, ?_⟩
  ·intro y0 y1 y2 y3 y4
   unfold impl_Doc_order.f
   repeat' first
   | (with_reducible exact ih0 _ _ _ _ _)
   | (with_reducible exact ih1 _ _ _ _ _ _ _)
   | (with_reducible exact impl_Doc_find.mono _ _ _ _ _)
   | (with_reducible exact LeO.refl _)
   | (with_reducible exact LeO.none _)
   | (with_reducible refine LeO.ite ?_ ?_)
   | (with_reducible refine LeO.bind ?_ (fun _ => ?_))
   | exact ih0 _ _ _ _ _
   | exact ih1 _ _ _ _ _ _ _
   | exact impl_Doc_find.mono _ _ _ _ _
   | exact LeO.none _
   | refine LeO.ite ?_ ?_
   | refine LeO.bind ?_ (fun _ => ?_)
  ·intro y0 y1 y2 y3 y4 y5 y6
   unfold impl_Doc_order.l0
   repeat' first
   | (with_reducible exact ih0 _ _ _ _ _)
   | (with_reducible exact ih1 _ _ _ _ _ _ _)
   | (with_reducible exact impl_Doc_find.mono _ _ _ _ _)
   | (with_reducible exact LeO.refl _)
   | (with_reducible exact LeO.none _)
   | (with_reducible refine LeO.ite ?_ ?_)
   | (with_reducible refine LeO.bind ?_ (fun _ => ?_))
   | exact ih0 _ _ _ _ _
   | exact ih1 _ _ _ _ _ _ _
   | exact impl_Doc_find.mono _ _ _ _ _
   | exact LeO.none _
   | refine LeO.ite ?_ ?_
   | refine LeO.bind ?_ (fun _ => ?_)
theorem impl_Doc_order.mono : ∀ a0 a1 a2 a3 a4 k, LeO (impl_Doc_order.f k a0 a1 a2 a3 a4) (impl_Doc_order.f (k + 1) a0 a1 a2 a3 a4) := by
 intro a0 a1 a2 a3 a4 k
 obtain ⟨ih0, ih1⟩ := impl_Doc_order.mono_l k
 exact ih0 a0 a1 a2 a3 a4
set_option maxHeartbeats 8000000 in
set_option maxRecDepth 100000 in
theorem impl_Doc_order.calls (k : Nat) : ∀ (g0_ : Nat) (a0_0 : Int) (a0_1 : Int) (A0_2 : Option Addr) (c0_2 : Nat) (l0_2 : List (S88)) (P1_ : Nat → Prop) (u9000_ : Value) (l1 : List Int) (a2 : Int) (r : List Int) (w0 w : World) (hB : Below w0.heap.size w0 w) (hg0_ : w.heap[g0_]? = some (.cells #[.int .i64 a0_0, .int .i64 a0_1, .slice A0_2 l0_2.length c0_2] 29 (0, 0))) (hr0_2 : ∀ W_, Kept w W_ (fun k_ => P1_ k_) → Kd.C k88 W_ A0_2 l0_2.length l0_2) (hc0_2 : l0_2.length ≤ c0_2) (ho1 : Kd.R (Kd.int .i64) 3 w w0.heap.size P1_ u9000_ l1) (h : impl_Doc_order.f k a0_0 a0_1 l0_2 l1 a2 = some r),
  Calls Try.prog 63 #[.pointer (some ⟨g0_, 0, none⟩), u9000_, .int .i64 a2] w fun e w' => ∃ v0_ : Value, e = .returned (v0_) ∧ Kd.R (Kd.int .i64) 3 w' w0.heap.size (fun k_ => (P1_ k_ ∨ w.heap.size ≤ k_)) v0_ r ∧ Below w0.heap.size w0 w' ∧ Kept w w' (fun k_ => P1_ k_) := by
 induction k using Nat.strongRecOn with
 | _ k ih =>
 intro g0_ a0_0 a0_1 A0_2 c0_2 l0_2 P1_ u9000_ l1 a2 r w0 w hB hg0_ hr0_2 hc0_2 ho1 h
 cases k with
 | zero => exact absurd h (by simp [impl_Doc_order.f])
 | succ k =>
 simp only [impl_Doc_order.f] at h
 have HR0_2 := Aside0.mk hr0_2
 have HC0_2 := Aside0.mk hc0_2
 clear hr0_2 hc0_2
 have HO1 := Aside0.mk (show Kd.R (Kd.int .i64) 3 w w0.heap.size (fun k_ => (P1_ k_ ∨ w.heap.size ≤ k_)) u9000_ l1 from Kd.R_mono ho1 (fun k_ hk => (.inl hk)))
 have BK0 := Aside0.mk hg0_
 clear hg0_
 have HK := Aside0.mk (Kept.refl w (fun k_ => P1_ k_))
 have HW0 := Aside0.mk hB.size
 have HB := Aside0.mk hB
 clear hB
 have H : (if l1.length < 17592186044416 then ((impl_Doc_find.f k a0_0 a0_1 l0_2 a2).bind fun t237 => (if t237 < 0 then (none) else (if 0 ≤ t237 then (if t237 < (l0_2.length : Int) then (impl_Doc_order.l0 k (l1 ++ [a2]) ((rd_T88 l0_2 t237).f4) (((rd_T88 l0_2 t237).f4).length : Int) 0 a0_0 a0_1 l0_2) else (none)) else (none)))) else (none)) = some r := h
 clear h
 by_cases c4 : l1.length < 17592186044416
 ·rw [if_pos c4] at H
  have LMc4 := Aside0.mk c4
  clear c4
  obtain ⟨y234, hy234⟩ : ∃ y_ : List Int, y_ = (l1 ++ [a2]) := ⟨_, rfl⟩
  replace H : ((impl_Doc_find.f k a0_0 a0_1 l0_2 a2).bind fun t237 => (if t237 < 0 then (none) else (if 0 ≤ t237 then (if t237 < (l0_2.length : Int) then (impl_Doc_order.l0 k y234 ((rd_T88 l0_2 t237).f4) (((rd_T88 l0_2 t237).f4).length : Int) 0 a0_0 a0_1 l0_2) else (none)) else (none)))) = some r := by first | (rw [hy234]; with_reducible exact H) | (have H2_ := (Option.bind_some _ _).symm.trans H; rw [hy234]; with_reducible exact H2_) | (have H2_ := (Option.bind_some _ _).symm.trans H; with_reducible exact H2_) | with_reducible exact H | (rw [hy234]; exact H) | exact H
  have Ny234 := Aside0.mk hy234
  clear hy234
  replace H := Option.bind_eq_some_iff.mp H
  obtain ⟨t237, A50, H⟩ := H
  (try dsimp only at H)
  have A5 := Aside0.mk A50
  clear A50
  by_cases c6 : t237 < 0
  ·rw [if_pos c6] at H
   have c6b0 : decide (t237 < 0) = true := decide_eq_true c6
   clear c6
   exact absurd H (by simp)
  ·rw [if_neg c6] at H
   have c6b0 : decide (t237 < 0) = false := decide_eq_false c6
   clear c6
   by_cases c7 : 0 ≤ t237
   ·rw [if_pos c7] at H
    have c7b0 : decide (0 ≤ t237) = true := decide_eq_true c7
    clear c7
    by_cases c8 : t237 < (l0_2.length : Int)
    ·rw [if_pos c8] at H
     have c8b0 : decide (t237 < (l0_2.length : Int)) = true := decide_eq_true c8
     clear c8
     have H' := Aside0.mk H
     clear H
     go_enter Try.func63, Try.ntmps63
     go_wp2_with (first | ((with_reducible refine gate_builtin (b := .append) (xs := #[.tmp 9, .tmp 11]) rfl ?_); at_builtin; refine Kd.R_append (Kd.int .i64) (w0 := w0) w0.heap.size rfl (.tmp 9) (.tmp 11) 34 3 (.int .i64 0) 8 rfl Try.underlying34 info3 rfl (by decide) (by omega) u9000_ l1 a2 [.int .i64 a2] (fun k_ => (P1_ k_ ∨ w.heap.size ≤ k_)) (fun _ => False) rfl rfl ?aP (fun _ hk => hk.elim) ?aF ?aO ?aB ?aS ?aL ?_; (case aP => exact rfl); (case aB => exact (by repeat first | (with_reducible first | exact HB.out | apply below_alloc | apply XW.bN) | exact HB.out)); (case aF => exact (fun k_ hk => (.inr (Nat.le_trans (by first | exact HK.out.1 | exact (show Kept w _ (fun k_ => P1_ k_) from by repeat first | (with_reducible first | exact HK.out | apply Kept.alloc | apply Kept.drewN | apply Kept.drew | refine Kept.setCell ?_ (.inr GW0.out) _) | exact HK.out).1) hk)))); (case aO => exact (by (with_reducible repeat (first | apply Kd.R_alloc | apply Kd.R_drewN | apply Kd.R_drew)); exact HO1.out)); (case aS => exact (below_size (by repeat first | (with_reducible first | exact HB.out | apply below_alloc | apply XW.bN) | exact HB.out))); (case aL => have := LMc4.out; omega); intro v235 w9 ho hb hg hat; rw [← Ny234.out] at ho; replace BK0 := Aside0.mk (blk_grown (g := g0_) (o := .cells #[.int .i64 a0_0, .int .i64 a0_1, .slice A0_2 l0_2.length c0_2] 29 (0, 0)) (by (with_reducible repeat (first | refine blk_drewN ?_ _ | refine blk_drew ?_ | refine blk_alloc ?_ _)); exact BK0.out) hg (Kd.R_ne HO1.out BK0.out (by decide))); replace HB := Aside0.mk (hb); replace HK := Aside0.mk (Kept.of_grown (S := (fun k_ => P1_ k_)) hg (by repeat first | (with_reducible first | exact HK.out | apply Kept.alloc | apply Kept.drewN | apply Kept.drew | refine Kept.setCell ?_ (.inr GW0.out) _) | exact HK.out) (fun k_ e_ => (HO1.out.1 k_ e_))); have HO236 := Aside0.mk (ho); clear HO1; clear ho hb hg hat) | ((with_reducible refine gate_callee (f := 121) rfl ?_); refine goesL_ (some 15) rfl rfl Try.func121 (by kernel_rfl) rfl #[.pointer (some ⟨g0_, 0, none⟩), .int .i64 a2] rfl (by (try simp only [List.map_toArray, List.map_cons, List.map_nil]); first | done | rfl | (simp only [List.length_drop, List.length_take]; rfl)) ?_; (with_reducible refine (impl_Doc_find.calls k g0_ a0_0 a0_1 A0_2 c0_2 l0_2 a2 t237 _ ?side1 ?side2 ?side3 A5.out).mono ?_); (case side1 => exact (by (with_reducible repeat (first | refine blk_drewN ?_ _ | refine blk_drew ?_ | refine blk_alloc ?_ _)); exact BK0.out)); (case side2 => exact Kd.C_kept_now HR0_2.out (by repeat first | (with_reducible first | exact HK.out | apply Kept.alloc | apply Kept.drewN | apply Kept.drew | refine Kept.setCell ?_ (.inr GW0.out) _) | exact HK.out)); (case side3 => exact HC0_2.out); rintro e w10 ⟨pF, rfl, hpn, hps, hb⟩; refine ⟨_, rfl, ?_⟩; obtain ⟨adf11, hae, rfl⟩ := hps (Int.not_lt.mp (of_decide_eq_false (by first | (with_reducible assumption) | assumption))); clear hpn; cases hae; replace HO236 := Aside0.mk (Kd.R_below (by (with_reducible repeat (first | apply Kd.R_alloc | apply Kd.R_drewN | apply Kd.R_drew)); exact HO236.out) hb); replace BK0 := Aside0.mk (blk_below (g := g0_) (o := .cells #[.int .i64 a0_0, .int .i64 a0_1, .slice (some adf11) l0_2.length c0_2] 29 (0, 0)) (by (with_reducible repeat (first | refine blk_drewN ?_ _ | refine blk_drew ?_ | refine blk_alloc ?_ _)); exact BK0.out) hb); replace HK := Aside0.mk (Kept.below (S := (fun k_ => P1_ k_)) (by repeat first | (with_reducible first | exact HK.out | apply Kept.alloc | apply Kept.drewN | apply Kept.drew | refine Kept.setCell ?_ (.inr GW0.out) _) | exact HK.out) hb); replace HB := Aside0.mk (below_step (by repeat first | (with_reducible first | exact HB.out | apply below_alloc | apply XW.bN) | exact HB.out) hb); (try clear hb); (try clear hb2); (try clear hk); (try clear hi); have p238 : 0 ≤ (t237 : Int) := of_decide_eq_true (by first | (with_reducible assumption) | assumption); have q238 : t237 < (l0_2.length : Int) := of_decide_eq_true (by first | (with_reducible assumption) | assumption); obtain ⟨ad238, A238_4, c238_4, e238, hx238_0, hx238_1, hx238_2, hx238_3, hx238_4, hl238_4, hi238_4⟩ := at_T88 (Kd.C_kept_now HR0_2.out HK.out) t237 p238 q238; obtain rfl : adf11 = ad238 := (by injection e238); obtain ⟨af_, Af_, cf_, ef_, ff_, lf_, gf_⟩ := footT88_4 HR0_2.out t237 p238 q238; obtain rfl : adf11 = af_ := (by first | (injection ef_) | (injection ef_.symm)); have ff1_ := (ff_ _ HK.out).symm.trans hx238_4; injection (Option.some.inj ff1_) with ha_ hn_ hc_; rw [ha_] at gf_; clear hi238_4 ff1_ ff_ lf_ ha_ hn_ hc_; have hi238_4 := gf_; clear gf_ ef_; have HR238_4 := Aside0.mk hi238_4; have HC238_4 := Aside0.mk hl238_4; clear hi238_4 hl238_4; replace p238 := eq_true p238; replace q238 := eq_true q238))
     go_loopg [1, 20] k (fun kq v1 v20 w' => ∃ (x1_1 : List Int) (x20_1 : Int), v20 = .int .i64 x20_1 ∧ Aside0 (impl_Doc_order.l0 kq x1_1 ((rd_T88 l0_2 t237).f4) (((rd_T88 l0_2 t237).f4).length : Int) x20_1 a0_0 a0_1 l0_2 = some r) ∧ Aside0 (kq ≤ k) ∧ Aside0 (Kd.R (Kd.int .i64) 3 w' w0.heap.size (fun k_ => (P1_ k_ ∨ w.heap.size ≤ k_)) v1 x1_1) ∧ Aside0 (w'.heap[g0_]? = some (.cells #[.int .i64 a0_0, .int .i64 a0_1, (.slice (some adf11) l0_2.length c0_2)] 29 (0, 0))) ∧ Aside0 (Kept w w' (fun k_ => P1_ k_)) ∧ Aside0 (Below w0.heap.size w0 w'))
     case atStart => exact ⟨(y234), (0), (by first | rfl | (simp; done) | (simp [*]; done)), H', ⟨Nat.le_refl _⟩, ⟨by (with_reducible repeat (first | apply Kd.R_alloc | apply Kd.R_drewN | apply Kd.R_drew)); exact HO236.out⟩, ⟨by (with_reducible repeat (first | refine blk_drewN ?_ _ | refine blk_drew ?_ | refine blk_alloc ?_ _)); exact BK0.out⟩, ⟨by repeat first | (with_reducible first | exact HK.out | apply Kept.alloc | apply Kept.drewN | apply Kept.drew | refine Kept.setCell ?_ (.inr GW0.out) _) | exact HK.out⟩, ⟨by repeat first | (with_reducible first | exact HB.out | apply below_alloc | apply XW.bN) | exact HB.out⟩⟩
     case round =>
      clear H'
      (try clear c4); (try clear c6); (try clear c6b0); (try clear c7); (try clear c7b0); (try clear c8); (try clear c8b0); (try clear hx238_0); (try clear hx238_1); (try clear hx238_2); (try clear hx238_3); (try clear hx238_4); (try clear p238); (try clear q238)
      obtain ⟨x1_1, x20_1, rfl, HA, HK1, HO_1, BK0, HK, HB⟩ := hrel
      cases gk with
      | zero => exact absurd HA.out (by simp [impl_Doc_order.l0])
      | succ k1 =>
       have H := HA.out
       clear HA
       simp only [impl_Doc_order.l0] at H
       by_cases c12 : x20_1 < (((rd_T88 l0_2 t237).f4).length : Int)
       ·rw [if_pos c12] at H
        have c12b0 : decide (x20_1 < (((rd_T88 l0_2 t237).f4).length : Int)) = true := decide_eq_true c12
        clear c12
        by_cases c13 : 0 ≤ x20_1
        ·rw [if_pos c13] at H
         have c13b0 : decide (0 ≤ x20_1) = true := decide_eq_true c13
         clear c13
         by_cases c14 : x20_1 < (((rd_T88 l0_2 t237).f4).length : Int)
         ·rw [if_pos c14] at H
          have c14b0 : decide (x20_1 < (((rd_T88 l0_2 t237).f4).length : Int)) = true := decide_eq_true c14
          clear c14
          replace H := Option.bind_eq_some_iff.mp H
          obtain ⟨t240, A150, H⟩ := H
          (try dsimp only at H)
          have A15 := Aside0.mk A150
          clear A150
          have H' := Aside0.mk H
          clear H
          have p239 : 0 ≤ (x20_1 : Int) := of_decide_eq_true (by first | (with_reducible assumption) | assumption)
          have q239 : x20_1 < (((rd_T88 l0_2 t237).f4).length : Int) := of_decide_eq_true (by first | (with_reducible assumption) | assumption)
          obtain ⟨ad239, e239, hx239_0⟩ := Kd.at_int (Kd.C_kept_now HR238_4.out HK.out) x20_1 p239 q239
          cases e239
          replace p239 := eq_true p239
          replace q239 := eq_true q239
          obtain ⟨Ao16, co16, eo16⟩ := Kd.R_slice HO_1.out
          subst eo16
          go_wp2_with (first | ((with_reducible refine gate_callee (f := 63) rfl ?_); refine goesL_ (some 27) rfl rfl Try.func63 (by kernel_rfl) rfl #[.pointer (some ⟨g0_, 0, none⟩), .slice Ao16 x1_1.length co16, .int .i64 (rd ((rd_T88 l0_2 t237).f4) x20_1)] rfl (by (try simp only [List.map_toArray, List.map_cons, List.map_nil]); first | done | rfl | (simp only [List.length_drop, List.length_take]; rfl)) ?_; (with_reducible refine (ih k1 (by have := HK1.out; omega) g0_ a0_0 a0_1 (some adf11) c0_2 l0_2 (fun k_ => some k_ = (.slice Ao16 x1_1.length co16 : Value).ownBlock) (.slice Ao16 x1_1.length co16) x1_1 (rd ((rd_T88 l0_2 t237).f4) x20_1) t240 w0 _ ?side1 ?side2 ?side3 ?side4 ?side5 A15.out).mono ?_); (case side1 => repeat first | (with_reducible first | exact HB.out | apply below_alloc | apply XW.bN) | exact HB.out); (case side2 => exact (by (with_reducible repeat (first | refine blk_drewN ?_ _ | refine blk_drew ?_ | refine blk_alloc ?_ _)); exact BK0.out)); (case side3 => exact Kd.C_kept_call HR0_2.out (by repeat first | (with_reducible first | exact HK.out | apply Kept.alloc | apply Kept.drewN | apply Kept.drew | refine Kept.setCell ?_ (.inr GW0.out) _) | exact HK.out) (fun k_ hs_ => (fun e_ => (HO_1.out.1 k_ e_.symm)) hs_)); (case side4 => exact HC0_2.out); (case side5 => exact Kd.R_tight rfl HO_1.out); rintro e w17 ⟨v241, rfl, ho0, hb, hkp⟩; refine ⟨_, rfl, ?_⟩; replace BK0 := Aside0.mk (blk_kept (by (with_reducible repeat (first | refine blk_drewN ?_ _ | refine blk_drew ?_ | refine blk_alloc ?_ _)); exact BK0.out) hkp (fun hs_ => (fun e_ => (Kd.R_ne HO_1.out BK0.out (by decide)) e_) hs_)); have HO242 := Aside0.mk (Kd.R_mono (ok' := fun k_ => (P1_ k_ ∨ w.heap.size ≤ k_)) ho0 (fun k_ hk_ => Or.elim hk_ (fun hs_ => (HO_1.out.1 k_ (hs_).symm)) (fun hn_ => (.inr (Nat.le_trans (by first | exact HK.out.1 | exact (show Kept w _ (fun k_ => P1_ k_) from by repeat first | (with_reducible first | exact HK.out | apply Kept.alloc | apply Kept.drewN | apply Kept.drew | refine Kept.setCell ?_ (.inr GW0.out) _) | exact HK.out).1) hn_))))); replace HK := Aside0.mk (Kept.then_ (S := (fun k_ => P1_ k_)) (by repeat first | (with_reducible first | exact HK.out | apply Kept.alloc | apply Kept.drewN | apply Kept.drew | refine Kept.setCell ?_ (.inr GW0.out) _) | exact HK.out) hkp (fun k_ hs_ => (fun e_ => (HO_1.out.1 k_ e_.symm)) hs_)); replace HB := Aside0.mk (hb); clear HO_1; (try clear hb); (try clear hkp); (try clear ho0)))
          go_roundg k1
          case measure => have := HK1.out; omega
          case rel => exact ⟨(t240), (wrap64 (x20_1 + 1)), (by first | rfl | (simp; done) | (simp [*]; done)), H', ⟨by have := HK1.out; omega⟩, ⟨by (with_reducible repeat (first | apply Kd.R_alloc | apply Kd.R_drewN | apply Kd.R_drew)); exact HO242.out⟩, ⟨by (with_reducible repeat (first | refine blk_drewN ?_ _ | refine blk_drew ?_ | refine blk_alloc ?_ _)); exact BK0.out⟩, ⟨by repeat first | (with_reducible first | exact HK.out | apply Kept.alloc | apply Kept.drewN | apply Kept.drew | refine Kept.setCell ?_ (.inr GW0.out) _) | exact HK.out⟩, ⟨by repeat first | (with_reducible first | exact HB.out | apply below_alloc | apply XW.bN) | exact HB.out⟩⟩
         ·rw [if_neg c14] at H
          exact absurd H (by simp)
        ·rw [if_neg c13] at H
         exact absurd H (by simp)
       ·rw [if_neg c12] at H
        have c12b0 : decide (x20_1 < (((rd_T88 l0_2 t237).f4).length : Int)) = false := decide_eq_false c12
        clear c12
        obtain rfl := Option.some.inj H
        go_wp2
        go_ret
        exact ⟨_, by first | rfl | (simp [errW_none, errW_some] <;> rfl) | (simp [*, errW_none, errW_some] <;> rfl), by (with_reducible repeat (first | apply Kd.R_alloc | apply Kd.R_drewN | apply Kd.R_drew)); exact HO_1.out, by repeat first | (with_reducible first | exact HB.out | apply below_alloc | apply XW.bN) | exact HB.out, by repeat first | (with_reducible first | exact HK.out | apply Kept.alloc | apply Kept.drewN | apply Kept.drew | refine Kept.setCell ?_ (.inr GW0.out) _) | exact HK.out⟩
    ·rw [if_neg c8] at H
     exact absurd H (by simp)
   ·rw [if_neg c7] at H
    exact absurd H (by simp)
 ·rw [if_neg c4] at H
  exact absurd H (by simp)

end Go.Proofs.Ytfemohapampkiaa.XA
