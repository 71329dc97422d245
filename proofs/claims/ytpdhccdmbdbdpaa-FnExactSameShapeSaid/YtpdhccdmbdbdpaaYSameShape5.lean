/- Contracts of the program's functions: each Go function that is named below comes to what its Lean function says. Written by xprint.py (a program of this session's, over the kit's print). Conditions: each contract's own premises. -/
import Derived.Test.YtpdhccdmbdbdpaaYSameShape0
import Derived.Test.YtpdhccdmbdbdpaaYSameShape1
namespace Go.Proofs.Ytpdhccdmbdbdpaa.XA
open Go.RowKit Go.Proofs.YtpdhccdmbdbdpaaW.PrintWords Go.Proofs.YtpdhccdmbdbdpaaW.PrintLast Go.Proofs.YtpdhccdmbdbdpaaW.PrintMore XW
attribute [local go_sem] max2_int min2_int max_two min_two max_three min_three max_four min_four   -- for this text's walks alone
set_option linter.unusedVariables false
set_option linter.unusedSimpArgs false

/-! ### spec_l02Like: function 52 -/
mutual
def spec_l02Like.j0 : Nat → Bool → Int → Int → List (S43) → Int → Int → List (S43) → Int → Int → Int → ByteArray → List Int → Int → Int → Int → ByteArray → List Int → Option (Bool)
 | 0, _, _, _, _, _, _, _, _, _, _, _, _, _, _, _, _, _ => none
 | k + 1, x53, x152000, x152001, x152002, x153000, x153001, x153002, x156000, x156001, x156002, x156003, x156004, x159000, x159001, x159002, x159003, x159004 => if x53 = true then (some false) else (spec_l02Like.l0 k 0 x152000 x152001 x152002 x153000 x153001 x153002 x156000 x156001 x156002 x156003 x156004 x159000 x159001 x159002 x159003 x159004)
def spec_l02Like.l0 : Nat → Int → Int → Int → List (S43) → Int → Int → List (S43) → Int → Int → Int → ByteArray → List Int → Int → Int → Int → ByteArray → List Int → Option (Bool)
 | 0, _, _, _, _, _, _, _, _, _, _, _, _, _, _, _, _, _ => none
 | k + 1, x11, x152000, x152001, x152002, x153000, x153001, x153002, x156000, x156001, x156002, x156003, x156004, x159000, x159001, x159002, x159003, x159004 => if x11 < (x156004.length : Int) then (if 0 ≤ x11 then (if x11 < (x159004.length : Int) then ((spec_l02Like.f k x152000 x152001 x152002 x153000 x153001 x153002 (rd x156004 x11) (rd x159004 x11)).bind fun t161 => (if t161 = true then (spec_l02Like.l0 k (wrap64 (x11 + 1)) x152000 x152001 x152002 x153000 x153001 x153002 x156000 x156001 x156002 x156003 x156004 x159000 x159001 x159002 x159003 x159004) else (some false))) else (none)) else (none)) else (some true)
def spec_l02Like.f : Nat → Int → Int → List (S43) → Int → Int → List (S43) → Int → Int → Option (Bool)
 | 0, _, _, _, _, _, _, _, _ => none
 | k + 1, a0_0, a0_1, l0_2, a1_0, a1_1, l1_2, a2, a3 => (spec_l02At.f k a0_0 a0_1 l0_2 a2).bind fun t153 => (if 0 ≤ t153 then (if t153 < (l0_2.length : Int) then ((spec_l02At.f k a1_0 a1_1 l1_2 a3).bind fun t156 => (if 0 ≤ t156 then (if t156 < (l1_2.length : Int) then (if ((rd_T43 l0_2 t153).f1) = ((rd_T43 l1_2 t156).f1) then (if ((rd_T43 l0_2 t153).f2) = ((rd_T43 l1_2 t156).f2) then (if ((rd_T43 l0_2 t153).f3).toList = ((rd_T43 l1_2 t156).f3).toList then (spec_l02Like.j0 k ((((rd_T43 l0_2 t153).f4).length : Int) != (((rd_T43 l1_2 t156).f4).length : Int)) a0_0 a0_1 l0_2 a1_0 a1_1 l1_2 ((rd_T43 l0_2 t153).f0) ((rd_T43 l0_2 t153).f1) ((rd_T43 l0_2 t153).f2) ((rd_T43 l0_2 t153).f3) ((rd_T43 l0_2 t153).f4) ((rd_T43 l1_2 t156).f0) ((rd_T43 l1_2 t156).f1) ((rd_T43 l1_2 t156).f2) ((rd_T43 l1_2 t156).f3) ((rd_T43 l1_2 t156).f4)) else (spec_l02Like.j0 k true a0_0 a0_1 l0_2 a1_0 a1_1 l1_2 ((rd_T43 l0_2 t153).f0) ((rd_T43 l0_2 t153).f1) ((rd_T43 l0_2 t153).f2) ((rd_T43 l0_2 t153).f3) ((rd_T43 l0_2 t153).f4) ((rd_T43 l1_2 t156).f0) ((rd_T43 l1_2 t156).f1) ((rd_T43 l1_2 t156).f2) ((rd_T43 l1_2 t156).f3) ((rd_T43 l1_2 t156).f4))) else (spec_l02Like.j0 k true a0_0 a0_1 l0_2 a1_0 a1_1 l1_2 ((rd_T43 l0_2 t153).f0) ((rd_T43 l0_2 t153).f1) ((rd_T43 l0_2 t153).f2) ((rd_T43 l0_2 t153).f3) ((rd_T43 l0_2 t153).f4) ((rd_T43 l1_2 t156).f0) ((rd_T43 l1_2 t156).f1) ((rd_T43 l1_2 t156).f2) ((rd_T43 l1_2 t156).f3) ((rd_T43 l1_2 t156).f4))) else (spec_l02Like.j0 k true a0_0 a0_1 l0_2 a1_0 a1_1 l1_2 ((rd_T43 l0_2 t153).f0) ((rd_T43 l0_2 t153).f1) ((rd_T43 l0_2 t153).f2) ((rd_T43 l0_2 t153).f3) ((rd_T43 l0_2 t153).f4) ((rd_T43 l1_2 t156).f0) ((rd_T43 l1_2 t156).f1) ((rd_T43 l1_2 t156).f2) ((rd_T43 l1_2 t156).f3) ((rd_T43 l1_2 t156).f4))) else (none)) else (none))) else (none)) else (none))
end
def spec_l02Like.T1 : Bool × List (List Nat × List Nat) := (true, [([], []), ([0], [0]), ([], []), ([], []), ([2, 3], [2, 3]), ([1, 4], [1, 4]), ([5], [5]), ([], []), ([7, 6, 4, 0, 1, 2, 3, 4, 5, 6, 7], [6, 7])])
def spec_l02Like.B1 : List Nat := [0, 1, 0, 0, 12, 31, 63, 0, 255]
theorem spec_l02Like.tab1 : rtab .any (opsOf Try.f52 1) = spec_l02Like.T1 := by kernel_rfl
theorem spec_l02Like.bits1 : waitsOk spec_l02Like.T1.2 spec_l02Like.B1 = true := by kernel_rfl
def spec_l02Like.T2 : Bool × List (List Nat × List Nat) := (true, [([], []), ([0], [0]), ([], []), ([], []), ([2, 3], [2, 3]), ([1, 4], [1, 4]), ([5], [5]), ([], []), ([7, 6, 4, 0, 1, 2, 3, 4, 5, 6, 7], [6, 7])])
def spec_l02Like.B2 : List Nat := [0, 1, 0, 0, 12, 31, 63, 0, 255]
theorem spec_l02Like.tab2 : rtab .any (opsOf Try.f52 2) = spec_l02Like.T2 := by kernel_rfl
theorem spec_l02Like.bits2 : waitsOk spec_l02Like.T2.2 spec_l02Like.B2 = true := by kernel_rfl
def spec_l02Like.T8 : Bool × List (List Nat × List Nat) := (true, [([], []), ([], []), ([], []), ([2], [2]), ([], []), ([3, 4], [3, 4]), ([5], [5]), ([], []), ([7], [7]), ([], []), ([8, 9], [8, 9]), ([10], [10]), ([0, 1, 6, 11], [0, 1, 6, 11]), ([12], [12])])
def spec_l02Like.B8 : List Nat := [0, 0, 0, 4, 0, 28, 60, 0, 128, 0, 896, 1920, 4095, 8191]
theorem spec_l02Like.tab8 : rtab .any (opsOf Try.f52 8) = spec_l02Like.T8 := by kernel_rfl
theorem spec_l02Like.bits8 : waitsOk spec_l02Like.T8.2 spec_l02Like.B8 = true := by kernel_rfl
set_option maxHeartbeats 8000000 in
set_option maxRecDepth 100000 in
theorem spec_l02Like.calls (k : Nat) : ∀ (a0_0 : Int) (a0_1 : Int) (A0_2 : Option Addr) (c0_2 : Nat) (l0_2 : List (S43)) (a1_0 : Int) (a1_1 : Int) (A1_2 : Option Addr) (c1_2 : Nat) (l1_2 : List (S43)) (a2 : Int) (a3 : Int) (r : Bool) (w : World) (hr0_2 : Kd.C k43 w A0_2 l0_2.length l0_2) (hc0_2 : l0_2.length ≤ c0_2) (hr1_2 : Kd.C k43 w A1_2 l1_2.length l1_2) (hc1_2 : l1_2.length ≤ c1_2) (h : spec_l02Like.f k a0_0 a0_1 l0_2 a1_0 a1_1 l1_2 a2 a3 = some r),
  Calls Try.prog 52 #[.agg #[.int .i64 a0_0, .int .i64 a0_1, .slice A0_2 l0_2.length c0_2], .agg #[.int .i64 a1_0, .int .i64 a1_1, .slice A1_2 l1_2.length c1_2], .int .i64 a2, .int .i64 a3] w fun e w' => e = .returned (.bool r) ∧ Below w.heap.size w w' := by
 induction k using Nat.strongRecOn with
 | _ k ih =>
 intro a0_0 a0_1 A0_2 c0_2 l0_2 a1_0 a1_1 A1_2 c1_2 l1_2 a2 a3 r w hr0_2 hc0_2 hr1_2 hc1_2 h
 cases k with
 | zero => exact absurd h (by simp [spec_l02Like.f])
 | succ k =>
 simp only [spec_l02Like.f] at h
 have hu29 := Try.underlying29
 have hu43 := Try.underlying43
 have HR0_2 := Aside0.mk hr0_2
 have HC0_2 := Aside0.mk hc0_2
 clear hr0_2 hc0_2
 have HR1_2 := Aside0.mk hr1_2
 have HC1_2 := Aside0.mk hc1_2
 clear hr1_2 hc1_2
 have HB := Aside0.mk (Below.refl w.heap.size w)
 have H : ((spec_l02At.f k a0_0 a0_1 l0_2 a2).bind fun t153 => (if 0 ≤ t153 then (if t153 < (l0_2.length : Int) then ((spec_l02At.f k a1_0 a1_1 l1_2 a3).bind fun t156 => (if 0 ≤ t156 then (if t156 < (l1_2.length : Int) then (if ((rd_T43 l0_2 t153).f1) = ((rd_T43 l1_2 t156).f1) then (if ((rd_T43 l0_2 t153).f2) = ((rd_T43 l1_2 t156).f2) then (if ((rd_T43 l0_2 t153).f3).toList = ((rd_T43 l1_2 t156).f3).toList then (spec_l02Like.j0 k ((((rd_T43 l0_2 t153).f4).length : Int) != (((rd_T43 l1_2 t156).f4).length : Int)) a0_0 a0_1 l0_2 a1_0 a1_1 l1_2 ((rd_T43 l0_2 t153).f0) ((rd_T43 l0_2 t153).f1) ((rd_T43 l0_2 t153).f2) ((rd_T43 l0_2 t153).f3) ((rd_T43 l0_2 t153).f4) ((rd_T43 l1_2 t156).f0) ((rd_T43 l1_2 t156).f1) ((rd_T43 l1_2 t156).f2) ((rd_T43 l1_2 t156).f3) ((rd_T43 l1_2 t156).f4)) else (spec_l02Like.j0 k true a0_0 a0_1 l0_2 a1_0 a1_1 l1_2 ((rd_T43 l0_2 t153).f0) ((rd_T43 l0_2 t153).f1) ((rd_T43 l0_2 t153).f2) ((rd_T43 l0_2 t153).f3) ((rd_T43 l0_2 t153).f4) ((rd_T43 l1_2 t156).f0) ((rd_T43 l1_2 t156).f1) ((rd_T43 l1_2 t156).f2) ((rd_T43 l1_2 t156).f3) ((rd_T43 l1_2 t156).f4))) else (spec_l02Like.j0 k true a0_0 a0_1 l0_2 a1_0 a1_1 l1_2 ((rd_T43 l0_2 t153).f0) ((rd_T43 l0_2 t153).f1) ((rd_T43 l0_2 t153).f2) ((rd_T43 l0_2 t153).f3) ((rd_T43 l0_2 t153).f4) ((rd_T43 l1_2 t156).f0) ((rd_T43 l1_2 t156).f1) ((rd_T43 l1_2 t156).f2) ((rd_T43 l1_2 t156).f3) ((rd_T43 l1_2 t156).f4))) else (spec_l02Like.j0 k true a0_0 a0_1 l0_2 a1_0 a1_1 l1_2 ((rd_T43 l0_2 t153).f0) ((rd_T43 l0_2 t153).f1) ((rd_T43 l0_2 t153).f2) ((rd_T43 l0_2 t153).f3) ((rd_T43 l0_2 t153).f4) ((rd_T43 l1_2 t156).f0) ((rd_T43 l1_2 t156).f1) ((rd_T43 l1_2 t156).f2) ((rd_T43 l1_2 t156).f3) ((rd_T43 l1_2 t156).f4))) else (none)) else (none))) else (none)) else (none))) = some r := h
 clear h
 obtain ⟨t153, A5, H⟩ := Xbi H
 (try dsimp only at H)
 obtain ⟨c6, H⟩ | ⟨c6, H⟩ := Xiu H
 ·have c6b0 : decide (0 ≤ t153) = true := decide_eq_true c6
  clear c6
  obtain ⟨c7b0, H⟩ := Xid H
  obtain ⟨t156, A8, H⟩ := Xbi H
  (try dsimp only at H)
  obtain ⟨c9b0, H⟩ := Xid H
  obtain ⟨c10b0, H⟩ := Xid H
  have HC11 := Aside0.mk H
  clear H
  go_enter Try.func52, Try.ntmps52
  try go_wp2_with (first | ((with_reducible refine gate_dst (N := 4) rfl ?_); (try (refine gate_guard (by rfl) ?_; dsimp only)); refine Xbox 4 #[.int .i64 a0_0, .int .i64 a0_1, .slice A0_2 l0_2.length c0_2] 29 ?_; intro gb151 hg w12 hbox hb; have BK151 := Aside0.mk (hbox); have GE151 := Xge hg Xi; replace HB := Aside0.mk (below_step Xi hb); clear hb hbox hg) | ((with_reducible refine gate_dst (N := 5) rfl ?_); (try (refine gate_guard (by rfl) ?_; dsimp only)); refine Xbox 5 #[.int .i64 a1_0, .int .i64 a1_1, .slice A1_2 l1_2.length c1_2] 29 ?_; intro gb152 hg w13 hbox hb; have BK152 := Aside0.mk (hbox); have GE152 := Xge hg Xi; replace HB := Aside0.mk (below_step Xi hb); have NB151_152 := Xnb hg BK151; have NB152_151 := Xns NB151_152; replace BK151 := Xbb BK151 hb; clear hb hbox hg))
  replace BK151 := Aside0.mk (blk_drew BK151.out)
  replace BK152 := Aside0.mk (blk_drew BK152.out)
  replace HB := Aside0.mk (below_drew1 HB.out)
  have p154 : 0 ≤ (t153 : Int) := of_decide_eq_true Xa
  have q154 : t153 < (l0_2.length : Int) := of_decide_eq_true Xa
  obtain ⟨ad154, A154_4, c154_4, e154, hx154_0, hx154_1, hx154_2, hx154_3, hx154_4, hl154_4, hi154_4⟩ := at_T43 HR0_2.out t153 p154 q154
  have hw154_4 := hx154_4
  have hw154_3 := hx154_3
  have hw154_2 := hx154_2
  have hw154_1 := hx154_1
  have hw154_0 := hx154_0
  cases e154
  replace hx154_0 := Xm HB hx154_0
  replace hx154_1 := Xm HB hx154_1
  replace hx154_2 := Xm HB hx154_2
  replace hx154_3 := Xm HB hx154_3
  replace hx154_4 := Xm HB hx154_4
  have HR154_4 := Aside0.mk hi154_4
  have HC154_4 := Aside0.mk hl154_4
  clear hi154_4 hl154_4
  replace p154 := eq_true p154
  replace q154 := eq_true q154
  refine start_ (n := 9) (S := fun w' => w'.cell? ⟨gb151, 0, none⟩ = some (.int .i64 a0_0) ∧ w'.cell? ⟨gb151, 1, none⟩ = some (.int .i64 a0_1) ∧ w'.cell? ⟨gb151, 2, none⟩ = some (.slice (some ad154) l0_2.length c0_2) ∧ w'.cell? (ad154.add ((t153).toNat * 5)) = some (.int .i64 ((rd_T43 l0_2 t153).f0)) ∧ w'.cell? ⟨(ad154.add ((t153).toNat * 5)).block, (ad154.add ((t153).toNat * 5)).off + 1, none⟩ = some (.int .i64 ((rd_T43 l0_2 t153).f1)) ∧ w'.cell? ⟨(ad154.add ((t153).toNat * 5)).block, (ad154.add ((t153).toNat * 5)).off + 2, none⟩ = some (.int .i64 ((rd_T43 l0_2 t153).f2)) ∧ w'.cell? ⟨(ad154.add ((t153).toNat * 5)).block, (ad154.add ((t153).toNat * 5)).off + 3, none⟩ = some (.string ((rd_T43 l0_2 t153).f3)) ∧ w'.cell? ⟨(ad154.add ((t153).toNat * 5)).block, (ad154.add ((t153).toNat * 5)).off + 4, none⟩ = some (.slice A154_4 ((rd_T43 l0_2 t153).f4).length c154_4)) (ds := []) #[false, false, false, false, false, false, false, false, false] (by kernel_rfl) rfl rfl ⟨(blk_cell BK151.out 0).trans rfl, (blk_cell BK151.out 1).trans rfl, (blk_cell BK151.out 2).trans rfl, Xn hw154_0, Xn hw154_1, Xn hw154_2, Xn hw154_3, Xn hw154_4⟩ (fun hHeld => ?_); refine with_tabW spec_l02Like.tab1 spec_l02Like.bits1 (fun HT_ HW_ => ?_)
  generalize w13.drew = w14 at BK151 BK152 HB HR154_4 hx154_0 hx154_1 hx154_2 hx154_3 hx154_4 hHeld ⊢
  refine Xpu 0 12 (XW.bs 9 1) HT_.out ?_
  refine Xpu 3 15 (XW.bs 9 9) HT_.out ?_
  refine Xta 1 13 (XW.bs 9 11) HT_.out HW_.out hHeld ?_
  refine Xta 2 14 (XW.bs 9 15) HT_.out HW_.out hHeld ?_
  refine join_ (σ := Nat) 1 #[true, true, true, true, true, true, true, true, false] (fun s_ => [(16, .int .i64 t153), (9, .pointer (some ⟨s_, 0, none⟩)), (17, .pointer (some (ad154.add ((t153).toNat * 5)))), (18, .agg #[.int .i64 ((rd_T43 l0_2 t153).f0), .int .i64 ((rd_T43 l0_2 t153).f1), .int .i64 ((rd_T43 l0_2 t153).f2), .string ((rd_T43 l0_2 t153).f3), .slice A154_4 ((rd_T43 l0_2 t153).f4).length c154_4])]) (fun s_ w' => (w'.cell? ⟨gb151, 0, none⟩ = some (.int .i64 a0_0) ∧ w'.cell? ⟨gb151, 1, none⟩ = some (.int .i64 a0_1) ∧ w'.cell? ⟨gb151, 2, none⟩ = some (.slice (some ad154) l0_2.length c0_2) ∧ w'.cell? (ad154.add ((t153).toNat * 5)) = some (.int .i64 ((rd_T43 l0_2 t153).f0)) ∧ w'.cell? ⟨(ad154.add ((t153).toNat * 5)).block, (ad154.add ((t153).toNat * 5)).off + 1, none⟩ = some (.int .i64 ((rd_T43 l0_2 t153).f1)) ∧ w'.cell? ⟨(ad154.add ((t153).toNat * 5)).block, (ad154.add ((t153).toNat * 5)).off + 2, none⟩ = some (.int .i64 ((rd_T43 l0_2 t153).f2)) ∧ w'.cell? ⟨(ad154.add ((t153).toNat * 5)).block, (ad154.add ((t153).toNat * 5)).off + 3, none⟩ = some (.string ((rd_T43 l0_2 t153).f3)) ∧ w'.cell? ⟨(ad154.add ((t153).toNat * 5)).block, (ad154.add ((t153).toNat * 5)).off + 4, none⟩ = some (.slice A154_4 ((rd_T43 l0_2 t153).f4).length c154_4)) ∧ (w'.heap[gb151]? = some (.cells #[.int .i64 a0_0, .int .i64 a0_1, .slice (some ad154) l0_2.length c0_2] 29 (0, 0))) ∧ (w'.heap[gb152]? = some (.cells #[.int .i64 a1_0, .int .i64 a1_1, .slice A1_2 l1_2.length c1_2] 29 (0, 0))) ∧ (w'.heap[s_]? = some (.cells #[.int .i64 0, .int .i64 0, .int .i64 0, .string (⟨#[]⟩ : ByteArray), .slice none 0 0] 43 (0, 0))) ∧ (w.heap.size ≤ s_) ∧ (w.heap.size ≤ s_) ∧ (gb151 ≠ s_) ∧ (s_ ≠ gb151) ∧ (gb152 ≠ s_) ∧ (s_ ≠ gb152) ∧ (Below w.heap.size w w')) ?_ ?_
  rotate_left
  ·intro hCont
   refine two_ (i := 4) (j := 7) (Ni := some 16) (Nj := some 9) #[true, true, true, true, true, false, false, false, false] #[true, true, true, true, false, false, false, true, false] rfl rfl rfl rfl (two_of HT_.out (by kernel_rfl)) (by decide) (by decide) (fun K hK => ?_) (fun K hK => ?_)
   ·skip
    refine goes_ Try.func74 (by kernel_rfl) rfl #[.agg #[.int .i64 a0_0, .int .i64 a0_1, .slice (some ad154) l0_2.length c0_2], .int .i64 a2] (by rfl) rfl rfl (by (try simp only [List.map_toArray, List.map_cons, List.map_nil]); first | done | rfl | (simp only [List.length_drop, List.length_take]; rfl)) ?_
    with_reducible refine (spec_l02At.calls k a0_0 a0_1 _ _ l0_2 a2 t153 _ ?side1 ?side2 A5.out).mono ?_
    (case side1 => exact Xc HR0_2)
    (case side2 => exact HC0_2.out)
    rintro e w15 ⟨rfl, hb⟩
    refine ⟨_, rfl, ?_⟩
    replace BK151 := Xbb BK151 hb
    replace BK152 := Xbb BK152 hb
    replace HB := Aside0.mk (below_step Xi hb)
    (try clear hb)
    (try clear hb2)
    (try clear hk)
    (try clear hi)
    refine hK.out _ _ ⟨(blk_cell BK151.out 0).trans rfl, (blk_cell BK151.out 1).trans rfl, (blk_cell BK151.out 2).trans rfl, Xn hw154_0, Xn hw154_1, Xn hw154_2, Xn hw154_3, Xn hw154_4⟩ (fun hHeld => ?_)
    clear hK K
    refine Xno ?_
    refine Xpu 5 17 (XW.bs 9 63) HT_.out ?_
    refine Xta 6 18 (XW.bs 9 127) HT_.out HW_.out hHeld ?_
    refine one_ (i := 7) (N := some 9) (XW.bs 9 255) rfl rfl (one_of HT_.out (by kernel_rfl)) (by decide) (fun K hK => ?_)
    refine box_step ?hg (N := 9) ?hd (cs := #[.int .i64 0, .int .i64 0, .int .i64 0, .string (⟨#[]⟩ : ByteArray), .slice none 0 0]) (t := 43) ?hr ?_; (case hd => rfl); (case hg => rfl); (case hr => first | (go_simp; done) | (go_simp; rfl))
    intro gb155 hg w16 hbox hb
    have BK155 := Aside0.mk (hbox)
    have GW155 := Aside0.mk ((by rw [hg]; exact (below_size Xi) : w.heap.size ≤ gb155))
    have GE155 := Aside0.mk ((by rw [hg]; exact (below_size Xi) : w.heap.size ≤ gb155))
    replace HB := Aside0.mk (below_step Xi hb)
    have NB151_155 := Aside0.mk ((by rw [hg]; exact Nat.ne_of_lt (blk_lt (g := gb151) (o := .cells #[.int .i64 a0_0, .int .i64 a0_1, .slice (some ad154) l0_2.length c0_2] 29 (0, 0)) BK151.out) : gb151 ≠ gb155))
    have NB155_151 := Aside0.mk ((by rw [hg]; exact Nat.ne_of_gt (blk_lt (g := gb151) (o := .cells #[.int .i64 a0_0, .int .i64 a0_1, .slice (some ad154) l0_2.length c0_2] 29 (0, 0)) BK151.out) : gb155 ≠ gb151))
    replace BK151 := Xbb BK151 hb
    have NB152_155 := Aside0.mk ((by rw [hg]; exact Nat.ne_of_lt (blk_lt (g := gb152) (o := .cells #[.int .i64 a1_0, .int .i64 a1_1, .slice A1_2 l1_2.length c1_2] 29 (0, 0)) BK152.out) : gb152 ≠ gb155))
    have NB155_152 := Aside0.mk ((by rw [hg]; exact Nat.ne_of_gt (blk_lt (g := gb152) (o := .cells #[.int .i64 a1_0, .int .i64 a1_1, .slice A1_2 l1_2.length c1_2] 29 (0, 0)) BK152.out) : gb155 ≠ gb152))
    replace BK152 := Xbb BK152 hb
    clear hb hbox hg
    refine hK.out _ _ ⟨(blk_cell BK151.out 0).trans rfl, (blk_cell BK151.out 1).trans rfl, (blk_cell BK151.out 2).trans rfl, Xn hw154_0, Xn hw154_1, Xn hw154_2, Xn hw154_3, Xn hw154_4⟩ (fun hHeld => ?_)
    clear hK K
    refine Xno ?_
    exact norm_ (by simp only [putAll, Act.put, List.setIfInBounds_toArray, List.set_cons_zero, List.set_cons_succ]) (hCont (gb155) _ ⟨hHeld, BK151.out, BK152.out, BK155.out, GW155.out, GE155.out, NB151_155.out, NB155_151.out, NB152_155.out, NB155_152.out, Xi⟩)
   ·skip
    refine box_step ?hg (N := 9) ?hd (cs := #[.int .i64 0, .int .i64 0, .int .i64 0, .string (⟨#[]⟩ : ByteArray), .slice none 0 0]) (t := 43) ?hr ?_; (case hd => rfl); (case hg => rfl); (case hr => first | (go_simp; done) | (go_simp; rfl))
    intro gb155 hg w15 hbox hb
    have BK155 := Aside0.mk (hbox)
    have GW155 := Aside0.mk ((by rw [hg]; exact (below_size Xi) : w.heap.size ≤ gb155))
    have GE155 := Aside0.mk ((by rw [hg]; exact (below_size Xi) : w.heap.size ≤ gb155))
    replace HB := Aside0.mk (below_step Xi hb)
    have NB151_155 := Aside0.mk ((by rw [hg]; exact Nat.ne_of_lt (blk_lt (g := gb151) (o := .cells #[.int .i64 a0_0, .int .i64 a0_1, .slice (some ad154) l0_2.length c0_2] 29 (0, 0)) BK151.out) : gb151 ≠ gb155))
    have NB155_151 := Aside0.mk ((by rw [hg]; exact Nat.ne_of_gt (blk_lt (g := gb151) (o := .cells #[.int .i64 a0_0, .int .i64 a0_1, .slice (some ad154) l0_2.length c0_2] 29 (0, 0)) BK151.out) : gb155 ≠ gb151))
    replace BK151 := Xbb BK151 hb
    have NB152_155 := Aside0.mk ((by rw [hg]; exact Nat.ne_of_lt (blk_lt (g := gb152) (o := .cells #[.int .i64 a1_0, .int .i64 a1_1, .slice A1_2 l1_2.length c1_2] 29 (0, 0)) BK152.out) : gb152 ≠ gb155))
    have NB155_152 := Aside0.mk ((by rw [hg]; exact Nat.ne_of_gt (blk_lt (g := gb152) (o := .cells #[.int .i64 a1_0, .int .i64 a1_1, .slice A1_2 l1_2.length c1_2] 29 (0, 0)) BK152.out) : gb155 ≠ gb152))
    replace BK152 := Xbb BK152 hb
    clear hb hbox hg
    refine hK.out _ _ ⟨(blk_cell BK151.out 0).trans rfl, (blk_cell BK151.out 1).trans rfl, (blk_cell BK151.out 2).trans rfl, Xn hw154_0, Xn hw154_1, Xn hw154_2, Xn hw154_3, Xn hw154_4⟩ (fun hHeld => ?_)
    clear hK K
    refine Xno ?_
    refine one_ (i := 4) (N := some 16) (XW.bs 9 159) rfl rfl (one_of HT_.out (by kernel_rfl)) (by decide) (fun K hK => ?_)
    refine goes_ Try.func74 (by kernel_rfl) rfl #[.agg #[.int .i64 a0_0, .int .i64 a0_1, .slice (some ad154) l0_2.length c0_2], .int .i64 a2] (by rfl) rfl rfl (by (try simp only [List.map_toArray, List.map_cons, List.map_nil]); first | done | rfl | (simp only [List.length_drop, List.length_take]; rfl)) ?_
    with_reducible refine (spec_l02At.calls k a0_0 a0_1 _ _ l0_2 a2 t153 _ ?side1 ?side2 A5.out).mono ?_
    (case side1 => exact Xc HR0_2)
    (case side2 => exact HC0_2.out)
    rintro e w16 ⟨rfl, hb⟩
    refine ⟨_, rfl, ?_⟩
    replace BK151 := Xbb BK151 hb
    replace BK152 := Xbb BK152 hb
    replace BK155 := Xbb BK155 hb
    replace HB := Aside0.mk (below_step Xi hb)
    (try clear hb)
    (try clear hb2)
    (try clear hk)
    (try clear hi)
    refine hK.out _ _ ⟨(blk_cell BK151.out 0).trans rfl, (blk_cell BK151.out 1).trans rfl, (blk_cell BK151.out 2).trans rfl, Xn hw154_0, Xn hw154_1, Xn hw154_2, Xn hw154_3, Xn hw154_4⟩ (fun hHeld => ?_)
    clear hK K
    refine Xno ?_
    refine Xpu 5 17 (XW.bs 9 191) HT_.out ?_
    refine Xta 6 18 (XW.bs 9 255) HT_.out HW_.out hHeld ?_
    exact norm_ (by simp only [putAll, Act.put, List.setIfInBounds_toArray, List.set_cons_zero, List.set_cons_succ]) (hCont (gb155) _ ⟨hHeld, BK151.out, BK152.out, BK155.out, GW155.out, GE155.out, NB151_155.out, NB155_151.out, NB152_155.out, NB155_152.out, Xi⟩)
  rintro gb155 w17 ⟨hS_, h0_, h1_, h2_, h3_, h4_, h5_, h6_, h7_, h8_, h9_⟩
  have n0_ : Aside0 (w17.heap[gb151]? = some (.cells #[.int .i64 a0_0, .int .i64 a0_1, .slice (some ad154) l0_2.length c0_2] 29 (0, 0))) := ⟨h0_⟩
  have n1_ : Aside0 (w17.heap[gb152]? = some (.cells #[.int .i64 a1_0, .int .i64 a1_1, .slice A1_2 l1_2.length c1_2] 29 (0, 0))) := ⟨h1_⟩
  have n2_ : Aside0 (w17.heap[gb155]? = some (.cells #[.int .i64 0, .int .i64 0, .int .i64 0, .string (⟨#[]⟩ : ByteArray), .slice none 0 0] 43 (0, 0))) := ⟨h2_⟩
  have n3_ : Aside0 (w.heap.size ≤ gb155) := ⟨h3_⟩
  have n4_ : Aside0 (w.heap.size ≤ gb155) := ⟨h4_⟩
  have n5_ : Aside0 (gb151 ≠ gb155) := ⟨h5_⟩
  have n6_ : Aside0 (gb155 ≠ gb151) := ⟨h6_⟩
  have n7_ : Aside0 (gb152 ≠ gb155) := ⟨h7_⟩
  have n8_ : Aside0 (gb155 ≠ gb152) := ⟨h8_⟩
  have n9_ : Aside0 (Below w.heap.size w w17) := ⟨h9_⟩
  clear BK151
  clear BK152
  clear HB
  clear h0_ h1_ h2_ h3_ h4_ h5_ h6_ h7_ h8_ h9_
  have BK151 := n0_
  have BK152 := n1_
  have BK155 := n2_
  have GW155 := n3_
  have GE155 := n4_
  have NB151_155 := n5_
  have NB155_151 := n6_
  have NB152_155 := n7_
  have NB155_152 := n8_
  have HB := n9_
  clear n0_ n1_ n2_ n3_ n4_ n5_ n6_ n7_ n8_ n9_
  have hHeld : w17.cell? ⟨gb151, 0, none⟩ = some (.int .i64 a0_0) ∧ w17.cell? ⟨gb151, 1, none⟩ = some (.int .i64 a0_1) ∧ w17.cell? ⟨gb151, 2, none⟩ = some (.slice (some ad154) l0_2.length c0_2) ∧ w17.cell? (ad154.add ((t153).toNat * 5)) = some (.int .i64 ((rd_T43 l0_2 t153).f0)) ∧ w17.cell? ⟨(ad154.add ((t153).toNat * 5)).block, (ad154.add ((t153).toNat * 5)).off + 1, none⟩ = some (.int .i64 ((rd_T43 l0_2 t153).f1)) ∧ w17.cell? ⟨(ad154.add ((t153).toNat * 5)).block, (ad154.add ((t153).toNat * 5)).off + 2, none⟩ = some (.int .i64 ((rd_T43 l0_2 t153).f2)) ∧ w17.cell? ⟨(ad154.add ((t153).toNat * 5)).block, (ad154.add ((t153).toNat * 5)).off + 3, none⟩ = some (.string ((rd_T43 l0_2 t153).f3)) ∧ w17.cell? ⟨(ad154.add ((t153).toNat * 5)).block, (ad154.add ((t153).toNat * 5)).off + 4, none⟩ = some (.slice A154_4 ((rd_T43 l0_2 t153).f4).length c154_4) := hS_
  refine norm_ (a' := ?_) ?_ ?_
  rotate_left
  ·simp only [putAll, Act.put, List.setIfInBounds_toArray, List.set_cons_zero, List.set_cons_succ]
   rfl
  refine one_ (i := 8) (N := none) (XW.bs 9 511) rfl rfl (one_of HT_.out (by kernel_rfl)) (by decide) (fun K hK => ?_)
  have hs18 : w17.cell? ⟨gb155, 0, none⟩ = some (.int .i64 0) := (blk_cell BK155.out 0).trans rfl
  have hfs18 := blk_frozen BK155.out 0
  have hns18_0 := NB151_155.out
  have hns18_1 := NB152_155.out
  have hms18_0 := NB155_151.out
  have hms18_1 := NB155_152.out
  have hs19 : w17.cell? ⟨gb155, 1, none⟩ = some (.int .i64 0) := (blk_cell BK155.out 1).trans rfl
  have hfs19 := blk_frozen BK155.out 1
  have hns19_0 := NB151_155.out
  have hns19_1 := NB152_155.out
  have hms19_0 := NB155_151.out
  have hms19_1 := NB155_152.out
  have hs20 : w17.cell? ⟨gb155, 2, none⟩ = some (.int .i64 0) := (blk_cell BK155.out 2).trans rfl
  have hfs20 := blk_frozen BK155.out 2
  have hns20_0 := NB151_155.out
  have hns20_1 := NB152_155.out
  have hms20_0 := NB155_151.out
  have hms20_1 := NB155_152.out
  have hs21 : w17.cell? ⟨gb155, 3, none⟩ = some (.string (⟨#[]⟩ : ByteArray)) := (blk_cell BK155.out 3).trans rfl
  have hfs21 := blk_frozen BK155.out 3
  have hns21_0 := NB151_155.out
  have hns21_1 := NB152_155.out
  have hms21_0 := NB155_151.out
  have hms21_1 := NB155_152.out
  have hs22 : w17.cell? ⟨gb155, 4, none⟩ = some (.slice none 0 0) := (blk_cell BK155.out 4).trans rfl
  have hfs22 := blk_frozen BK155.out 4
  have hns22_0 := NB151_155.out
  have hns22_1 := NB152_155.out
  have hms22_0 := NB155_151.out
  have hms22_1 := NB155_152.out
  refine skip_ (w1 := ?_) (by rfl) rfl ?_ ?_
  rotate_left
  ·go_simp
   rfl
  refine hK.out _ _ ⟨((cell_far (p := ⟨gb155, _, none⟩) NB151_155.out _).trans (((cell_far (p := ⟨gb155, _, none⟩) NB151_155.out _).trans (((cell_far (p := ⟨gb155, _, none⟩) NB151_155.out _).trans (((cell_far (p := ⟨gb155, _, none⟩) NB151_155.out _).trans (((cell_far (p := ⟨gb155, _, none⟩) NB151_155.out _).trans (hHeld.1)))))))))), ((cell_far (p := ⟨gb155, _, none⟩) NB151_155.out _).trans (((cell_far (p := ⟨gb155, _, none⟩) NB151_155.out _).trans (((cell_far (p := ⟨gb155, _, none⟩) NB151_155.out _).trans (((cell_far (p := ⟨gb155, _, none⟩) NB151_155.out _).trans (((cell_far (p := ⟨gb155, _, none⟩) NB151_155.out _).trans (hHeld.2.1)))))))))), ((cell_far (p := ⟨gb155, _, none⟩) NB151_155.out _).trans (((cell_far (p := ⟨gb155, _, none⟩) NB151_155.out _).trans (((cell_far (p := ⟨gb155, _, none⟩) NB151_155.out _).trans (((cell_far (p := ⟨gb155, _, none⟩) NB151_155.out _).trans (((cell_far (p := ⟨gb155, _, none⟩) NB151_155.out _).trans (hHeld.2.2.1)))))))))), ((cell_far (p := ⟨gb155, _, none⟩) (by first | exact Nat.ne_of_lt (Nat.lt_of_lt_of_le (by have := World.block_lt_of_cell? _ _ hw154_0; first | rwa [add_block] at this | exact this) GW155.out) | (rw [add_block]; exact Nat.ne_of_lt (Nat.lt_of_lt_of_le (by have := World.block_lt_of_cell? _ _ hw154_0; first | rwa [add_block] at this | exact this) GW155.out)) | (show (Addr.add _ _).block ≠ _; rw [add_block]; exact Nat.ne_of_lt (Nat.lt_of_lt_of_le (by have := World.block_lt_of_cell? _ _ hw154_0; first | rwa [add_block] at this | exact this) GW155.out)) | (dsimp only; exact Nat.ne_of_lt (Nat.lt_of_lt_of_le (by have := World.block_lt_of_cell? _ _ hw154_0; first | rwa [add_block] at this | exact this) GW155.out))) _).trans (((cell_far (p := ⟨gb155, _, none⟩) (by first | exact Nat.ne_of_lt (Nat.lt_of_lt_of_le (by have := World.block_lt_of_cell? _ _ hw154_0; first | rwa [add_block] at this | exact this) GW155.out) | (rw [add_block]; exact Nat.ne_of_lt (Nat.lt_of_lt_of_le (by have := World.block_lt_of_cell? _ _ hw154_0; first | rwa [add_block] at this | exact this) GW155.out)) | (show (Addr.add _ _).block ≠ _; rw [add_block]; exact Nat.ne_of_lt (Nat.lt_of_lt_of_le (by have := World.block_lt_of_cell? _ _ hw154_0; first | rwa [add_block] at this | exact this) GW155.out)) | (dsimp only; exact Nat.ne_of_lt (Nat.lt_of_lt_of_le (by have := World.block_lt_of_cell? _ _ hw154_0; first | rwa [add_block] at this | exact this) GW155.out))) _).trans (((cell_far (p := ⟨gb155, _, none⟩) (by first | exact Nat.ne_of_lt (Nat.lt_of_lt_of_le (by have := World.block_lt_of_cell? _ _ hw154_0; first | rwa [add_block] at this | exact this) GW155.out) | (rw [add_block]; exact Nat.ne_of_lt (Nat.lt_of_lt_of_le (by have := World.block_lt_of_cell? _ _ hw154_0; first | rwa [add_block] at this | exact this) GW155.out)) | (show (Addr.add _ _).block ≠ _; rw [add_block]; exact Nat.ne_of_lt (Nat.lt_of_lt_of_le (by have := World.block_lt_of_cell? _ _ hw154_0; first | rwa [add_block] at this | exact this) GW155.out)) | (dsimp only; exact Nat.ne_of_lt (Nat.lt_of_lt_of_le (by have := World.block_lt_of_cell? _ _ hw154_0; first | rwa [add_block] at this | exact this) GW155.out))) _).trans (((cell_far (p := ⟨gb155, _, none⟩) (by first | exact Nat.ne_of_lt (Nat.lt_of_lt_of_le (by have := World.block_lt_of_cell? _ _ hw154_0; first | rwa [add_block] at this | exact this) GW155.out) | (rw [add_block]; exact Nat.ne_of_lt (Nat.lt_of_lt_of_le (by have := World.block_lt_of_cell? _ _ hw154_0; first | rwa [add_block] at this | exact this) GW155.out)) | (show (Addr.add _ _).block ≠ _; rw [add_block]; exact Nat.ne_of_lt (Nat.lt_of_lt_of_le (by have := World.block_lt_of_cell? _ _ hw154_0; first | rwa [add_block] at this | exact this) GW155.out)) | (dsimp only; exact Nat.ne_of_lt (Nat.lt_of_lt_of_le (by have := World.block_lt_of_cell? _ _ hw154_0; first | rwa [add_block] at this | exact this) GW155.out))) _).trans (((cell_far (p := ⟨gb155, _, none⟩) (by first | exact Nat.ne_of_lt (Nat.lt_of_lt_of_le (by have := World.block_lt_of_cell? _ _ hw154_0; first | rwa [add_block] at this | exact this) GW155.out) | (rw [add_block]; exact Nat.ne_of_lt (Nat.lt_of_lt_of_le (by have := World.block_lt_of_cell? _ _ hw154_0; first | rwa [add_block] at this | exact this) GW155.out)) | (show (Addr.add _ _).block ≠ _; rw [add_block]; exact Nat.ne_of_lt (Nat.lt_of_lt_of_le (by have := World.block_lt_of_cell? _ _ hw154_0; first | rwa [add_block] at this | exact this) GW155.out)) | (dsimp only; exact Nat.ne_of_lt (Nat.lt_of_lt_of_le (by have := World.block_lt_of_cell? _ _ hw154_0; first | rwa [add_block] at this | exact this) GW155.out))) _).trans (hHeld.2.2.2.1)))))))))), ((cell_far (p := ⟨gb155, _, none⟩) (by first | exact Nat.ne_of_lt (Nat.lt_of_lt_of_le (by have := World.block_lt_of_cell? _ _ hw154_1; first | rwa [add_block] at this | exact this) GW155.out) | (rw [add_block]; exact Nat.ne_of_lt (Nat.lt_of_lt_of_le (by have := World.block_lt_of_cell? _ _ hw154_1; first | rwa [add_block] at this | exact this) GW155.out)) | (show (Addr.add _ _).block ≠ _; rw [add_block]; exact Nat.ne_of_lt (Nat.lt_of_lt_of_le (by have := World.block_lt_of_cell? _ _ hw154_1; first | rwa [add_block] at this | exact this) GW155.out)) | (dsimp only; exact Nat.ne_of_lt (Nat.lt_of_lt_of_le (by have := World.block_lt_of_cell? _ _ hw154_1; first | rwa [add_block] at this | exact this) GW155.out))) _).trans (((cell_far (p := ⟨gb155, _, none⟩) (by first | exact Nat.ne_of_lt (Nat.lt_of_lt_of_le (by have := World.block_lt_of_cell? _ _ hw154_1; first | rwa [add_block] at this | exact this) GW155.out) | (rw [add_block]; exact Nat.ne_of_lt (Nat.lt_of_lt_of_le (by have := World.block_lt_of_cell? _ _ hw154_1; first | rwa [add_block] at this | exact this) GW155.out)) | (show (Addr.add _ _).block ≠ _; rw [add_block]; exact Nat.ne_of_lt (Nat.lt_of_lt_of_le (by have := World.block_lt_of_cell? _ _ hw154_1; first | rwa [add_block] at this | exact this) GW155.out)) | (dsimp only; exact Nat.ne_of_lt (Nat.lt_of_lt_of_le (by have := World.block_lt_of_cell? _ _ hw154_1; first | rwa [add_block] at this | exact this) GW155.out))) _).trans (((cell_far (p := ⟨gb155, _, none⟩) (by first | exact Nat.ne_of_lt (Nat.lt_of_lt_of_le (by have := World.block_lt_of_cell? _ _ hw154_1; first | rwa [add_block] at this | exact this) GW155.out) | (rw [add_block]; exact Nat.ne_of_lt (Nat.lt_of_lt_of_le (by have := World.block_lt_of_cell? _ _ hw154_1; first | rwa [add_block] at this | exact this) GW155.out)) | (show (Addr.add _ _).block ≠ _; rw [add_block]; exact Nat.ne_of_lt (Nat.lt_of_lt_of_le (by have := World.block_lt_of_cell? _ _ hw154_1; first | rwa [add_block] at this | exact this) GW155.out)) | (dsimp only; exact Nat.ne_of_lt (Nat.lt_of_lt_of_le (by have := World.block_lt_of_cell? _ _ hw154_1; first | rwa [add_block] at this | exact this) GW155.out))) _).trans (((cell_far (p := ⟨gb155, _, none⟩) (by first | exact Nat.ne_of_lt (Nat.lt_of_lt_of_le (by have := World.block_lt_of_cell? _ _ hw154_1; first | rwa [add_block] at this | exact this) GW155.out) | (rw [add_block]; exact Nat.ne_of_lt (Nat.lt_of_lt_of_le (by have := World.block_lt_of_cell? _ _ hw154_1; first | rwa [add_block] at this | exact this) GW155.out)) | (show (Addr.add _ _).block ≠ _; rw [add_block]; exact Nat.ne_of_lt (Nat.lt_of_lt_of_le (by have := World.block_lt_of_cell? _ _ hw154_1; first | rwa [add_block] at this | exact this) GW155.out)) | (dsimp only; exact Nat.ne_of_lt (Nat.lt_of_lt_of_le (by have := World.block_lt_of_cell? _ _ hw154_1; first | rwa [add_block] at this | exact this) GW155.out))) _).trans (((cell_far (p := ⟨gb155, _, none⟩) (by first | exact Nat.ne_of_lt (Nat.lt_of_lt_of_le (by have := World.block_lt_of_cell? _ _ hw154_1; first | rwa [add_block] at this | exact this) GW155.out) | (rw [add_block]; exact Nat.ne_of_lt (Nat.lt_of_lt_of_le (by have := World.block_lt_of_cell? _ _ hw154_1; first | rwa [add_block] at this | exact this) GW155.out)) | (show (Addr.add _ _).block ≠ _; rw [add_block]; exact Nat.ne_of_lt (Nat.lt_of_lt_of_le (by have := World.block_lt_of_cell? _ _ hw154_1; first | rwa [add_block] at this | exact this) GW155.out)) | (dsimp only; exact Nat.ne_of_lt (Nat.lt_of_lt_of_le (by have := World.block_lt_of_cell? _ _ hw154_1; first | rwa [add_block] at this | exact this) GW155.out))) _).trans (hHeld.2.2.2.2.1)))))))))), ((cell_far (p := ⟨gb155, _, none⟩) (by first | exact Nat.ne_of_lt (Nat.lt_of_lt_of_le (by have := World.block_lt_of_cell? _ _ hw154_2; first | rwa [add_block] at this | exact this) GW155.out) | (rw [add_block]; exact Nat.ne_of_lt (Nat.lt_of_lt_of_le (by have := World.block_lt_of_cell? _ _ hw154_2; first | rwa [add_block] at this | exact this) GW155.out)) | (show (Addr.add _ _).block ≠ _; rw [add_block]; exact Nat.ne_of_lt (Nat.lt_of_lt_of_le (by have := World.block_lt_of_cell? _ _ hw154_2; first | rwa [add_block] at this | exact this) GW155.out)) | (dsimp only; exact Nat.ne_of_lt (Nat.lt_of_lt_of_le (by have := World.block_lt_of_cell? _ _ hw154_2; first | rwa [add_block] at this | exact this) GW155.out))) _).trans (((cell_far (p := ⟨gb155, _, none⟩) (by first | exact Nat.ne_of_lt (Nat.lt_of_lt_of_le (by have := World.block_lt_of_cell? _ _ hw154_2; first | rwa [add_block] at this | exact this) GW155.out) | (rw [add_block]; exact Nat.ne_of_lt (Nat.lt_of_lt_of_le (by have := World.block_lt_of_cell? _ _ hw154_2; first | rwa [add_block] at this | exact this) GW155.out)) | (show (Addr.add _ _).block ≠ _; rw [add_block]; exact Nat.ne_of_lt (Nat.lt_of_lt_of_le (by have := World.block_lt_of_cell? _ _ hw154_2; first | rwa [add_block] at this | exact this) GW155.out)) | (dsimp only; exact Nat.ne_of_lt (Nat.lt_of_lt_of_le (by have := World.block_lt_of_cell? _ _ hw154_2; first | rwa [add_block] at this | exact this) GW155.out))) _).trans (((cell_far (p := ⟨gb155, _, none⟩) (by first | exact Nat.ne_of_lt (Nat.lt_of_lt_of_le (by have := World.block_lt_of_cell? _ _ hw154_2; first | rwa [add_block] at this | exact this) GW155.out) | (rw [add_block]; exact Nat.ne_of_lt (Nat.lt_of_lt_of_le (by have := World.block_lt_of_cell? _ _ hw154_2; first | rwa [add_block] at this | exact this) GW155.out)) | (show (Addr.add _ _).block ≠ _; rw [add_block]; exact Nat.ne_of_lt (Nat.lt_of_lt_of_le (by have := World.block_lt_of_cell? _ _ hw154_2; first | rwa [add_block] at this | exact this) GW155.out)) | (dsimp only; exact Nat.ne_of_lt (Nat.lt_of_lt_of_le (by have := World.block_lt_of_cell? _ _ hw154_2; first | rwa [add_block] at this | exact this) GW155.out))) _).trans (((cell_far (p := ⟨gb155, _, none⟩) (by first | exact Nat.ne_of_lt (Nat.lt_of_lt_of_le (by have := World.block_lt_of_cell? _ _ hw154_2; first | rwa [add_block] at this | exact this) GW155.out) | (rw [add_block]; exact Nat.ne_of_lt (Nat.lt_of_lt_of_le (by have := World.block_lt_of_cell? _ _ hw154_2; first | rwa [add_block] at this | exact this) GW155.out)) | (show (Addr.add _ _).block ≠ _; rw [add_block]; exact Nat.ne_of_lt (Nat.lt_of_lt_of_le (by have := World.block_lt_of_cell? _ _ hw154_2; first | rwa [add_block] at this | exact this) GW155.out)) | (dsimp only; exact Nat.ne_of_lt (Nat.lt_of_lt_of_le (by have := World.block_lt_of_cell? _ _ hw154_2; first | rwa [add_block] at this | exact this) GW155.out))) _).trans (((cell_far (p := ⟨gb155, _, none⟩) (by first | exact Nat.ne_of_lt (Nat.lt_of_lt_of_le (by have := World.block_lt_of_cell? _ _ hw154_2; first | rwa [add_block] at this | exact this) GW155.out) | (rw [add_block]; exact Nat.ne_of_lt (Nat.lt_of_lt_of_le (by have := World.block_lt_of_cell? _ _ hw154_2; first | rwa [add_block] at this | exact this) GW155.out)) | (show (Addr.add _ _).block ≠ _; rw [add_block]; exact Nat.ne_of_lt (Nat.lt_of_lt_of_le (by have := World.block_lt_of_cell? _ _ hw154_2; first | rwa [add_block] at this | exact this) GW155.out)) | (dsimp only; exact Nat.ne_of_lt (Nat.lt_of_lt_of_le (by have := World.block_lt_of_cell? _ _ hw154_2; first | rwa [add_block] at this | exact this) GW155.out))) _).trans (hHeld.2.2.2.2.2.1)))))))))), ((cell_far (p := ⟨gb155, _, none⟩) (by first | exact Nat.ne_of_lt (Nat.lt_of_lt_of_le (by have := World.block_lt_of_cell? _ _ hw154_3; first | rwa [add_block] at this | exact this) GW155.out) | (rw [add_block]; exact Nat.ne_of_lt (Nat.lt_of_lt_of_le (by have := World.block_lt_of_cell? _ _ hw154_3; first | rwa [add_block] at this | exact this) GW155.out)) | (show (Addr.add _ _).block ≠ _; rw [add_block]; exact Nat.ne_of_lt (Nat.lt_of_lt_of_le (by have := World.block_lt_of_cell? _ _ hw154_3; first | rwa [add_block] at this | exact this) GW155.out)) | (dsimp only; exact Nat.ne_of_lt (Nat.lt_of_lt_of_le (by have := World.block_lt_of_cell? _ _ hw154_3; first | rwa [add_block] at this | exact this) GW155.out))) _).trans (((cell_far (p := ⟨gb155, _, none⟩) (by first | exact Nat.ne_of_lt (Nat.lt_of_lt_of_le (by have := World.block_lt_of_cell? _ _ hw154_3; first | rwa [add_block] at this | exact this) GW155.out) | (rw [add_block]; exact Nat.ne_of_lt (Nat.lt_of_lt_of_le (by have := World.block_lt_of_cell? _ _ hw154_3; first | rwa [add_block] at this | exact this) GW155.out)) | (show (Addr.add _ _).block ≠ _; rw [add_block]; exact Nat.ne_of_lt (Nat.lt_of_lt_of_le (by have := World.block_lt_of_cell? _ _ hw154_3; first | rwa [add_block] at this | exact this) GW155.out)) | (dsimp only; exact Nat.ne_of_lt (Nat.lt_of_lt_of_le (by have := World.block_lt_of_cell? _ _ hw154_3; first | rwa [add_block] at this | exact this) GW155.out))) _).trans (((cell_far (p := ⟨gb155, _, none⟩) (by first | exact Nat.ne_of_lt (Nat.lt_of_lt_of_le (by have := World.block_lt_of_cell? _ _ hw154_3; first | rwa [add_block] at this | exact this) GW155.out) | (rw [add_block]; exact Nat.ne_of_lt (Nat.lt_of_lt_of_le (by have := World.block_lt_of_cell? _ _ hw154_3; first | rwa [add_block] at this | exact this) GW155.out)) | (show (Addr.add _ _).block ≠ _; rw [add_block]; exact Nat.ne_of_lt (Nat.lt_of_lt_of_le (by have := World.block_lt_of_cell? _ _ hw154_3; first | rwa [add_block] at this | exact this) GW155.out)) | (dsimp only; exact Nat.ne_of_lt (Nat.lt_of_lt_of_le (by have := World.block_lt_of_cell? _ _ hw154_3; first | rwa [add_block] at this | exact this) GW155.out))) _).trans (((cell_far (p := ⟨gb155, _, none⟩) (by first | exact Nat.ne_of_lt (Nat.lt_of_lt_of_le (by have := World.block_lt_of_cell? _ _ hw154_3; first | rwa [add_block] at this | exact this) GW155.out) | (rw [add_block]; exact Nat.ne_of_lt (Nat.lt_of_lt_of_le (by have := World.block_lt_of_cell? _ _ hw154_3; first | rwa [add_block] at this | exact this) GW155.out)) | (show (Addr.add _ _).block ≠ _; rw [add_block]; exact Nat.ne_of_lt (Nat.lt_of_lt_of_le (by have := World.block_lt_of_cell? _ _ hw154_3; first | rwa [add_block] at this | exact this) GW155.out)) | (dsimp only; exact Nat.ne_of_lt (Nat.lt_of_lt_of_le (by have := World.block_lt_of_cell? _ _ hw154_3; first | rwa [add_block] at this | exact this) GW155.out))) _).trans (((cell_far (p := ⟨gb155, _, none⟩) (by first | exact Nat.ne_of_lt (Nat.lt_of_lt_of_le (by have := World.block_lt_of_cell? _ _ hw154_3; first | rwa [add_block] at this | exact this) GW155.out) | (rw [add_block]; exact Nat.ne_of_lt (Nat.lt_of_lt_of_le (by have := World.block_lt_of_cell? _ _ hw154_3; first | rwa [add_block] at this | exact this) GW155.out)) | (show (Addr.add _ _).block ≠ _; rw [add_block]; exact Nat.ne_of_lt (Nat.lt_of_lt_of_le (by have := World.block_lt_of_cell? _ _ hw154_3; first | rwa [add_block] at this | exact this) GW155.out)) | (dsimp only; exact Nat.ne_of_lt (Nat.lt_of_lt_of_le (by have := World.block_lt_of_cell? _ _ hw154_3; first | rwa [add_block] at this | exact this) GW155.out))) _).trans (hHeld.2.2.2.2.2.2.1)))))))))), ((cell_far (p := ⟨gb155, _, none⟩) (by first | exact Nat.ne_of_lt (Nat.lt_of_lt_of_le (by have := World.block_lt_of_cell? _ _ hw154_4; first | rwa [add_block] at this | exact this) GW155.out) | (rw [add_block]; exact Nat.ne_of_lt (Nat.lt_of_lt_of_le (by have := World.block_lt_of_cell? _ _ hw154_4; first | rwa [add_block] at this | exact this) GW155.out)) | (show (Addr.add _ _).block ≠ _; rw [add_block]; exact Nat.ne_of_lt (Nat.lt_of_lt_of_le (by have := World.block_lt_of_cell? _ _ hw154_4; first | rwa [add_block] at this | exact this) GW155.out)) | (dsimp only; exact Nat.ne_of_lt (Nat.lt_of_lt_of_le (by have := World.block_lt_of_cell? _ _ hw154_4; first | rwa [add_block] at this | exact this) GW155.out))) _).trans (((cell_far (p := ⟨gb155, _, none⟩) (by first | exact Nat.ne_of_lt (Nat.lt_of_lt_of_le (by have := World.block_lt_of_cell? _ _ hw154_4; first | rwa [add_block] at this | exact this) GW155.out) | (rw [add_block]; exact Nat.ne_of_lt (Nat.lt_of_lt_of_le (by have := World.block_lt_of_cell? _ _ hw154_4; first | rwa [add_block] at this | exact this) GW155.out)) | (show (Addr.add _ _).block ≠ _; rw [add_block]; exact Nat.ne_of_lt (Nat.lt_of_lt_of_le (by have := World.block_lt_of_cell? _ _ hw154_4; first | rwa [add_block] at this | exact this) GW155.out)) | (dsimp only; exact Nat.ne_of_lt (Nat.lt_of_lt_of_le (by have := World.block_lt_of_cell? _ _ hw154_4; first | rwa [add_block] at this | exact this) GW155.out))) _).trans (((cell_far (p := ⟨gb155, _, none⟩) (by first | exact Nat.ne_of_lt (Nat.lt_of_lt_of_le (by have := World.block_lt_of_cell? _ _ hw154_4; first | rwa [add_block] at this | exact this) GW155.out) | (rw [add_block]; exact Nat.ne_of_lt (Nat.lt_of_lt_of_le (by have := World.block_lt_of_cell? _ _ hw154_4; first | rwa [add_block] at this | exact this) GW155.out)) | (show (Addr.add _ _).block ≠ _; rw [add_block]; exact Nat.ne_of_lt (Nat.lt_of_lt_of_le (by have := World.block_lt_of_cell? _ _ hw154_4; first | rwa [add_block] at this | exact this) GW155.out)) | (dsimp only; exact Nat.ne_of_lt (Nat.lt_of_lt_of_le (by have := World.block_lt_of_cell? _ _ hw154_4; first | rwa [add_block] at this | exact this) GW155.out))) _).trans (((cell_far (p := ⟨gb155, _, none⟩) (by first | exact Nat.ne_of_lt (Nat.lt_of_lt_of_le (by have := World.block_lt_of_cell? _ _ hw154_4; first | rwa [add_block] at this | exact this) GW155.out) | (rw [add_block]; exact Nat.ne_of_lt (Nat.lt_of_lt_of_le (by have := World.block_lt_of_cell? _ _ hw154_4; first | rwa [add_block] at this | exact this) GW155.out)) | (show (Addr.add _ _).block ≠ _; rw [add_block]; exact Nat.ne_of_lt (Nat.lt_of_lt_of_le (by have := World.block_lt_of_cell? _ _ hw154_4; first | rwa [add_block] at this | exact this) GW155.out)) | (dsimp only; exact Nat.ne_of_lt (Nat.lt_of_lt_of_le (by have := World.block_lt_of_cell? _ _ hw154_4; first | rwa [add_block] at this | exact this) GW155.out))) _).trans (((cell_far (p := ⟨gb155, _, none⟩) (by first | exact Nat.ne_of_lt (Nat.lt_of_lt_of_le (by have := World.block_lt_of_cell? _ _ hw154_4; first | rwa [add_block] at this | exact this) GW155.out) | (rw [add_block]; exact Nat.ne_of_lt (Nat.lt_of_lt_of_le (by have := World.block_lt_of_cell? _ _ hw154_4; first | rwa [add_block] at this | exact this) GW155.out)) | (show (Addr.add _ _).block ≠ _; rw [add_block]; exact Nat.ne_of_lt (Nat.lt_of_lt_of_le (by have := World.block_lt_of_cell? _ _ hw154_4; first | rwa [add_block] at this | exact this) GW155.out)) | (dsimp only; exact Nat.ne_of_lt (Nat.lt_of_lt_of_le (by have := World.block_lt_of_cell? _ _ hw154_4; first | rwa [add_block] at this | exact this) GW155.out))) _).trans (hHeld.2.2.2.2.2.2.2))))))))))⟩ (fun hHeld => ?_)
  clear hK K
  refine done_ (done_of HT_.out (by kernel_rfl)) ?_
  try go_wp2
  have n0_ : Aside0 ((((((w17.setCell ⟨gb155, 0, none⟩ (.int .i64 ((rd_T43 l0_2 t153).f0))).setCell ⟨gb155, 1, none⟩ (.int .i64 ((rd_T43 l0_2 t153).f1))).setCell ⟨gb155, 2, none⟩ (.int .i64 ((rd_T43 l0_2 t153).f2))).setCell ⟨gb155, 3, none⟩ (.string ((rd_T43 l0_2 t153).f3))).setCell ⟨gb155, 4, none⟩ (.slice A154_4 ((rd_T43 l0_2 t153).f4).length c154_4)).heap[gb151]? = some (.cells #[.int .i64 a0_0, .int .i64 a0_1, .slice (some ad154) l0_2.length c0_2] 29 (0, 0))) := ⟨by (with_reducible repeat (first | refine blk_drewN ?_ _ | refine blk_drew ?_ | refine blk_alloc ?_ _)); refine blk_far ?_ NB151_155.out _; (with_reducible repeat (first | refine blk_drewN ?_ _ | refine blk_drew ?_ | refine blk_alloc ?_ _)); refine blk_far ?_ NB151_155.out _; (with_reducible repeat (first | refine blk_drewN ?_ _ | refine blk_drew ?_ | refine blk_alloc ?_ _)); refine blk_far ?_ NB151_155.out _; (with_reducible repeat (first | refine blk_drewN ?_ _ | refine blk_drew ?_ | refine blk_alloc ?_ _)); refine blk_far ?_ NB151_155.out _; (with_reducible repeat (first | refine blk_drewN ?_ _ | refine blk_drew ?_ | refine blk_alloc ?_ _)); refine blk_far ?_ NB151_155.out _; (with_reducible repeat (first | refine blk_drewN ?_ _ | refine blk_drew ?_ | refine blk_alloc ?_ _)); exact BK151.out⟩
  have n1_ : Aside0 ((((((w17.setCell ⟨gb155, 0, none⟩ (.int .i64 ((rd_T43 l0_2 t153).f0))).setCell ⟨gb155, 1, none⟩ (.int .i64 ((rd_T43 l0_2 t153).f1))).setCell ⟨gb155, 2, none⟩ (.int .i64 ((rd_T43 l0_2 t153).f2))).setCell ⟨gb155, 3, none⟩ (.string ((rd_T43 l0_2 t153).f3))).setCell ⟨gb155, 4, none⟩ (.slice A154_4 ((rd_T43 l0_2 t153).f4).length c154_4)).heap[gb152]? = some (.cells #[.int .i64 a1_0, .int .i64 a1_1, .slice A1_2 l1_2.length c1_2] 29 (0, 0))) := ⟨by (with_reducible repeat (first | refine blk_drewN ?_ _ | refine blk_drew ?_ | refine blk_alloc ?_ _)); refine blk_far ?_ NB152_155.out _; (with_reducible repeat (first | refine blk_drewN ?_ _ | refine blk_drew ?_ | refine blk_alloc ?_ _)); refine blk_far ?_ NB152_155.out _; (with_reducible repeat (first | refine blk_drewN ?_ _ | refine blk_drew ?_ | refine blk_alloc ?_ _)); refine blk_far ?_ NB152_155.out _; (with_reducible repeat (first | refine blk_drewN ?_ _ | refine blk_drew ?_ | refine blk_alloc ?_ _)); refine blk_far ?_ NB152_155.out _; (with_reducible repeat (first | refine blk_drewN ?_ _ | refine blk_drew ?_ | refine blk_alloc ?_ _)); refine blk_far ?_ NB152_155.out _; (with_reducible repeat (first | refine blk_drewN ?_ _ | refine blk_drew ?_ | refine blk_alloc ?_ _)); exact BK152.out⟩
  have n2_ : Aside0 ((((((w17.setCell ⟨gb155, 0, none⟩ (.int .i64 ((rd_T43 l0_2 t153).f0))).setCell ⟨gb155, 1, none⟩ (.int .i64 ((rd_T43 l0_2 t153).f1))).setCell ⟨gb155, 2, none⟩ (.int .i64 ((rd_T43 l0_2 t153).f2))).setCell ⟨gb155, 3, none⟩ (.string ((rd_T43 l0_2 t153).f3))).setCell ⟨gb155, 4, none⟩ (.slice A154_4 ((rd_T43 l0_2 t153).f4).length c154_4)).heap[gb155]? = some (.cells #[.int .i64 ((rd_T43 l0_2 t153).f0), .int .i64 ((rd_T43 l0_2 t153).f1), .int .i64 ((rd_T43 l0_2 t153).f2), .string ((rd_T43 l0_2 t153).f3), .slice A154_4 ((rd_T43 l0_2 t153).f4).length c154_4] 43 (0, 0))) := ⟨by (with_reducible repeat (first | refine blk_drewN ?_ _ | refine blk_drew ?_ | refine blk_alloc ?_ _)); refine blk_put (cs := #[.int .i64 ((rd_T43 l0_2 t153).f0), .int .i64 ((rd_T43 l0_2 t153).f1), .int .i64 ((rd_T43 l0_2 t153).f2), .string ((rd_T43 l0_2 t153).f3), .slice none 0 0]) ?_ 4 _ rfl; (with_reducible repeat (first | refine blk_drewN ?_ _ | refine blk_drew ?_ | refine blk_alloc ?_ _)); refine blk_put (cs := #[.int .i64 ((rd_T43 l0_2 t153).f0), .int .i64 ((rd_T43 l0_2 t153).f1), .int .i64 ((rd_T43 l0_2 t153).f2), .string (⟨#[]⟩ : ByteArray), .slice none 0 0]) ?_ 3 _ rfl; (with_reducible repeat (first | refine blk_drewN ?_ _ | refine blk_drew ?_ | refine blk_alloc ?_ _)); refine blk_put (cs := #[.int .i64 ((rd_T43 l0_2 t153).f0), .int .i64 ((rd_T43 l0_2 t153).f1), .int .i64 0, .string (⟨#[]⟩ : ByteArray), .slice none 0 0]) ?_ 2 _ rfl; (with_reducible repeat (first | refine blk_drewN ?_ _ | refine blk_drew ?_ | refine blk_alloc ?_ _)); refine blk_put (cs := #[.int .i64 ((rd_T43 l0_2 t153).f0), .int .i64 0, .int .i64 0, .string (⟨#[]⟩ : ByteArray), .slice none 0 0]) ?_ 1 _ rfl; (with_reducible repeat (first | refine blk_drewN ?_ _ | refine blk_drew ?_ | refine blk_alloc ?_ _)); refine blk_put (cs := #[.int .i64 0, .int .i64 0, .int .i64 0, .string (⟨#[]⟩ : ByteArray), .slice none 0 0]) ?_ 0 _ rfl; (with_reducible repeat (first | refine blk_drewN ?_ _ | refine blk_drew ?_ | refine blk_alloc ?_ _)); exact BK155.out⟩
  have n3_ : Aside0 (Below w.heap.size w (((((w17.setCell ⟨gb155, 0, none⟩ (.int .i64 ((rd_T43 l0_2 t153).f0))).setCell ⟨gb155, 1, none⟩ (.int .i64 ((rd_T43 l0_2 t153).f1))).setCell ⟨gb155, 2, none⟩ (.int .i64 ((rd_T43 l0_2 t153).f2))).setCell ⟨gb155, 3, none⟩ (.string ((rd_T43 l0_2 t153).f3))).setCell ⟨gb155, 4, none⟩ (.slice A154_4 ((rd_T43 l0_2 t153).f4).length c154_4))) := ⟨Xi⟩
  (try clear BK151)
  (try clear BK152)
  (try clear BK155)
  (try clear HB)
  generalize (((((w17.setCell ⟨gb155, 0, none⟩ (.int .i64 ((rd_T43 l0_2 t153).f0))).setCell ⟨gb155, 1, none⟩ (.int .i64 ((rd_T43 l0_2 t153).f1))).setCell ⟨gb155, 2, none⟩ (.int .i64 ((rd_T43 l0_2 t153).f2))).setCell ⟨gb155, 3, none⟩ (.string ((rd_T43 l0_2 t153).f3))).setCell ⟨gb155, 4, none⟩ (.slice A154_4 ((rd_T43 l0_2 t153).f4).length c154_4)) = w23 at n0_ n1_ n2_ n3_ ⊢
  have BK151 := n0_
  have BK152 := n1_
  have BK155 := n2_
  have HB := n3_
  clear n0_ n1_ n2_ n3_
  replace BK151 := Aside0.mk (blk_drew BK151.out)
  replace BK152 := Aside0.mk (blk_drew BK152.out)
  replace BK155 := Aside0.mk (blk_drew BK155.out)
  replace HB := Aside0.mk (below_drew1 HB.out)
  have p157 : 0 ≤ (t156 : Int) := of_decide_eq_true Xa
  have q157 : t156 < (l1_2.length : Int) := of_decide_eq_true Xa
  obtain ⟨ad157, A157_4, c157_4, e157, hx157_0, hx157_1, hx157_2, hx157_3, hx157_4, hl157_4, hi157_4⟩ := at_T43 HR1_2.out t156 p157 q157
  have hw157_4 := hx157_4
  have hw157_3 := hx157_3
  have hw157_2 := hx157_2
  have hw157_1 := hx157_1
  have hw157_0 := hx157_0
  cases e157
  replace hx157_0 := Xm HB hx157_0
  replace hx157_1 := Xm HB hx157_1
  replace hx157_2 := Xm HB hx157_2
  replace hx157_3 := Xm HB hx157_3
  replace hx157_4 := Xm HB hx157_4
  have HR157_4 := Aside0.mk hi157_4
  have HC157_4 := Aside0.mk hl157_4
  clear hi157_4 hl157_4
  replace p157 := eq_true p157
  replace q157 := eq_true q157
  refine start_ (n := 9) (S := fun w' => w'.cell? ⟨gb152, 0, none⟩ = some (.int .i64 a1_0) ∧ w'.cell? ⟨gb152, 1, none⟩ = some (.int .i64 a1_1) ∧ w'.cell? ⟨gb152, 2, none⟩ = some (.slice (some ad157) l1_2.length c1_2) ∧ w'.cell? (ad157.add ((t156).toNat * 5)) = some (.int .i64 ((rd_T43 l1_2 t156).f0)) ∧ w'.cell? ⟨(ad157.add ((t156).toNat * 5)).block, (ad157.add ((t156).toNat * 5)).off + 1, none⟩ = some (.int .i64 ((rd_T43 l1_2 t156).f1)) ∧ w'.cell? ⟨(ad157.add ((t156).toNat * 5)).block, (ad157.add ((t156).toNat * 5)).off + 2, none⟩ = some (.int .i64 ((rd_T43 l1_2 t156).f2)) ∧ w'.cell? ⟨(ad157.add ((t156).toNat * 5)).block, (ad157.add ((t156).toNat * 5)).off + 3, none⟩ = some (.string ((rd_T43 l1_2 t156).f3)) ∧ w'.cell? ⟨(ad157.add ((t156).toNat * 5)).block, (ad157.add ((t156).toNat * 5)).off + 4, none⟩ = some (.slice A157_4 ((rd_T43 l1_2 t156).f4).length c157_4)) (ds := []) #[false, false, false, false, false, false, false, false, false] (by kernel_rfl) rfl rfl ⟨(blk_cell BK152.out 0).trans rfl, (blk_cell BK152.out 1).trans rfl, (blk_cell BK152.out 2).trans rfl, Xn hw157_0, Xn hw157_1, Xn hw157_2, Xn hw157_3, Xn hw157_4⟩ (fun hHeld => ?_); refine with_tabW spec_l02Like.tab2 spec_l02Like.bits2 (fun HT_ HW_ => ?_)
  generalize w23.drew = w24 at BK151 BK152 BK155 HB HR157_4 hx157_0 hx157_1 hx157_2 hx157_3 hx157_4 hHeld ⊢
  refine Xpu 0 19 (XW.bs 9 1) HT_.out ?_
  refine Xpu 3 22 (XW.bs 9 9) HT_.out ?_
  refine Xta 1 20 (XW.bs 9 11) HT_.out HW_.out hHeld ?_
  refine Xta 2 21 (XW.bs 9 15) HT_.out HW_.out hHeld ?_
  refine join_ (σ := Nat) 1 #[true, true, true, true, true, true, true, true, false] (fun s_ => [(23, .int .i64 t156), (10, .pointer (some ⟨s_, 0, none⟩)), (24, .pointer (some (ad157.add ((t156).toNat * 5)))), (25, .agg #[.int .i64 ((rd_T43 l1_2 t156).f0), .int .i64 ((rd_T43 l1_2 t156).f1), .int .i64 ((rd_T43 l1_2 t156).f2), .string ((rd_T43 l1_2 t156).f3), .slice A157_4 ((rd_T43 l1_2 t156).f4).length c157_4])]) (fun s_ w' => (w'.cell? ⟨gb152, 0, none⟩ = some (.int .i64 a1_0) ∧ w'.cell? ⟨gb152, 1, none⟩ = some (.int .i64 a1_1) ∧ w'.cell? ⟨gb152, 2, none⟩ = some (.slice (some ad157) l1_2.length c1_2) ∧ w'.cell? (ad157.add ((t156).toNat * 5)) = some (.int .i64 ((rd_T43 l1_2 t156).f0)) ∧ w'.cell? ⟨(ad157.add ((t156).toNat * 5)).block, (ad157.add ((t156).toNat * 5)).off + 1, none⟩ = some (.int .i64 ((rd_T43 l1_2 t156).f1)) ∧ w'.cell? ⟨(ad157.add ((t156).toNat * 5)).block, (ad157.add ((t156).toNat * 5)).off + 2, none⟩ = some (.int .i64 ((rd_T43 l1_2 t156).f2)) ∧ w'.cell? ⟨(ad157.add ((t156).toNat * 5)).block, (ad157.add ((t156).toNat * 5)).off + 3, none⟩ = some (.string ((rd_T43 l1_2 t156).f3)) ∧ w'.cell? ⟨(ad157.add ((t156).toNat * 5)).block, (ad157.add ((t156).toNat * 5)).off + 4, none⟩ = some (.slice A157_4 ((rd_T43 l1_2 t156).f4).length c157_4)) ∧ (w'.heap[gb151]? = some (.cells #[.int .i64 a0_0, .int .i64 a0_1, .slice (some ad154) l0_2.length c0_2] 29 (0, 0))) ∧ (w'.heap[gb152]? = some (.cells #[.int .i64 a1_0, .int .i64 a1_1, .slice (some ad157) l1_2.length c1_2] 29 (0, 0))) ∧ (w'.heap[gb155]? = some (.cells #[.int .i64 ((rd_T43 l0_2 t153).f0), .int .i64 ((rd_T43 l0_2 t153).f1), .int .i64 ((rd_T43 l0_2 t153).f2), .string ((rd_T43 l0_2 t153).f3), .slice A154_4 ((rd_T43 l0_2 t153).f4).length c154_4] 43 (0, 0))) ∧ (w'.heap[s_]? = some (.cells #[.int .i64 0, .int .i64 0, .int .i64 0, .string (⟨#[]⟩ : ByteArray), .slice none 0 0] 43 (0, 0))) ∧ (w.heap.size ≤ s_) ∧ (w.heap.size ≤ s_) ∧ (gb151 ≠ s_) ∧ (s_ ≠ gb151) ∧ (gb152 ≠ s_) ∧ (s_ ≠ gb152) ∧ (gb155 ≠ s_) ∧ (s_ ≠ gb155) ∧ (Below w.heap.size w w')) ?_ ?_
  rotate_left
  ·intro hCont
   refine two_ (i := 4) (j := 7) (Ni := some 23) (Nj := some 10) #[true, true, true, true, true, false, false, false, false] #[true, true, true, true, false, false, false, true, false] rfl rfl rfl rfl (two_of HT_.out (by kernel_rfl)) (by decide) (by decide) (fun K hK => ?_) (fun K hK => ?_)
   ·skip
    refine goes_ Try.func74 (by kernel_rfl) rfl #[.agg #[.int .i64 a1_0, .int .i64 a1_1, .slice (some ad157) l1_2.length c1_2], .int .i64 a3] (by rfl) rfl rfl (by (try simp only [List.map_toArray, List.map_cons, List.map_nil]); first | done | rfl | (simp only [List.length_drop, List.length_take]; rfl)) ?_
    with_reducible refine (spec_l02At.calls k a1_0 a1_1 _ _ l1_2 a3 t156 _ ?side1 ?side2 A8.out).mono ?_
    (case side1 => exact Xc HR1_2)
    (case side2 => exact HC1_2.out)
    rintro e w25 ⟨rfl, hb⟩
    refine ⟨_, rfl, ?_⟩
    replace BK151 := Xbb BK151 hb
    replace BK152 := Xbb BK152 hb
    replace BK155 := Xbb BK155 hb
    replace HB := Aside0.mk (below_step Xi hb)
    (try clear hb)
    (try clear hb2)
    (try clear hk)
    (try clear hi)
    refine hK.out _ _ ⟨(blk_cell BK152.out 0).trans rfl, (blk_cell BK152.out 1).trans rfl, (blk_cell BK152.out 2).trans rfl, Xn hw157_0, Xn hw157_1, Xn hw157_2, Xn hw157_3, Xn hw157_4⟩ (fun hHeld => ?_)
    clear hK K
    refine Xno ?_
    refine Xpu 5 24 (XW.bs 9 63) HT_.out ?_
    refine Xta 6 25 (XW.bs 9 127) HT_.out HW_.out hHeld ?_
    refine one_ (i := 7) (N := some 10) (XW.bs 9 255) rfl rfl (one_of HT_.out (by kernel_rfl)) (by decide) (fun K hK => ?_)
    refine box_step ?hg (N := 10) ?hd (cs := #[.int .i64 0, .int .i64 0, .int .i64 0, .string (⟨#[]⟩ : ByteArray), .slice none 0 0]) (t := 43) ?hr ?_; (case hd => rfl); (case hg => rfl); (case hr => first | (go_simp; done) | (go_simp; rfl))
    intro gb158 hg w26 hbox hb
    have BK158 := Aside0.mk (hbox)
    have GW158 := Aside0.mk ((by rw [hg]; exact (below_size Xi) : w.heap.size ≤ gb158))
    have GE158 := Aside0.mk ((by rw [hg]; exact (below_size Xi) : w.heap.size ≤ gb158))
    replace HB := Aside0.mk (below_step Xi hb)
    have NB151_158 := Aside0.mk ((by rw [hg]; exact Nat.ne_of_lt (blk_lt (g := gb151) (o := .cells #[.int .i64 a0_0, .int .i64 a0_1, .slice (some ad154) l0_2.length c0_2] 29 (0, 0)) BK151.out) : gb151 ≠ gb158))
    have NB158_151 := Aside0.mk ((by rw [hg]; exact Nat.ne_of_gt (blk_lt (g := gb151) (o := .cells #[.int .i64 a0_0, .int .i64 a0_1, .slice (some ad154) l0_2.length c0_2] 29 (0, 0)) BK151.out) : gb158 ≠ gb151))
    replace BK151 := Xbb BK151 hb
    have NB152_158 := Aside0.mk ((by rw [hg]; exact Nat.ne_of_lt (blk_lt (g := gb152) (o := .cells #[.int .i64 a1_0, .int .i64 a1_1, .slice (some ad157) l1_2.length c1_2] 29 (0, 0)) BK152.out) : gb152 ≠ gb158))
    have NB158_152 := Aside0.mk ((by rw [hg]; exact Nat.ne_of_gt (blk_lt (g := gb152) (o := .cells #[.int .i64 a1_0, .int .i64 a1_1, .slice (some ad157) l1_2.length c1_2] 29 (0, 0)) BK152.out) : gb158 ≠ gb152))
    replace BK152 := Xbb BK152 hb
    have NB155_158 := Aside0.mk ((by rw [hg]; exact Nat.ne_of_lt (blk_lt (g := gb155) (o := .cells #[.int .i64 ((rd_T43 l0_2 t153).f0), .int .i64 ((rd_T43 l0_2 t153).f1), .int .i64 ((rd_T43 l0_2 t153).f2), .string ((rd_T43 l0_2 t153).f3), .slice A154_4 ((rd_T43 l0_2 t153).f4).length c154_4] 43 (0, 0)) BK155.out) : gb155 ≠ gb158))
    have NB158_155 := Aside0.mk ((by rw [hg]; exact Nat.ne_of_gt (blk_lt (g := gb155) (o := .cells #[.int .i64 ((rd_T43 l0_2 t153).f0), .int .i64 ((rd_T43 l0_2 t153).f1), .int .i64 ((rd_T43 l0_2 t153).f2), .string ((rd_T43 l0_2 t153).f3), .slice A154_4 ((rd_T43 l0_2 t153).f4).length c154_4] 43 (0, 0)) BK155.out) : gb158 ≠ gb155))
    replace BK155 := Xbb BK155 hb
    clear hb hbox hg
    refine hK.out _ _ ⟨(blk_cell BK152.out 0).trans rfl, (blk_cell BK152.out 1).trans rfl, (blk_cell BK152.out 2).trans rfl, Xn hw157_0, Xn hw157_1, Xn hw157_2, Xn hw157_3, Xn hw157_4⟩ (fun hHeld => ?_)
    clear hK K
    refine Xno ?_
    exact norm_ (by simp only [putAll, Act.put, List.setIfInBounds_toArray, List.set_cons_zero, List.set_cons_succ]) (hCont (gb158) _ ⟨hHeld, BK151.out, BK152.out, BK155.out, BK158.out, GW158.out, GE158.out, NB151_158.out, NB158_151.out, NB152_158.out, NB158_152.out, NB155_158.out, NB158_155.out, Xi⟩)
   ·skip
    refine box_step ?hg (N := 10) ?hd (cs := #[.int .i64 0, .int .i64 0, .int .i64 0, .string (⟨#[]⟩ : ByteArray), .slice none 0 0]) (t := 43) ?hr ?_; (case hd => rfl); (case hg => rfl); (case hr => first | (go_simp; done) | (go_simp; rfl))
    intro gb158 hg w25 hbox hb
    have BK158 := Aside0.mk (hbox)
    have GW158 := Aside0.mk ((by rw [hg]; exact (below_size Xi) : w.heap.size ≤ gb158))
    have GE158 := Aside0.mk ((by rw [hg]; exact (below_size Xi) : w.heap.size ≤ gb158))
    replace HB := Aside0.mk (below_step Xi hb)
    have NB151_158 := Aside0.mk ((by rw [hg]; exact Nat.ne_of_lt (blk_lt (g := gb151) (o := .cells #[.int .i64 a0_0, .int .i64 a0_1, .slice (some ad154) l0_2.length c0_2] 29 (0, 0)) BK151.out) : gb151 ≠ gb158))
    have NB158_151 := Aside0.mk ((by rw [hg]; exact Nat.ne_of_gt (blk_lt (g := gb151) (o := .cells #[.int .i64 a0_0, .int .i64 a0_1, .slice (some ad154) l0_2.length c0_2] 29 (0, 0)) BK151.out) : gb158 ≠ gb151))
    replace BK151 := Xbb BK151 hb
    have NB152_158 := Aside0.mk ((by rw [hg]; exact Nat.ne_of_lt (blk_lt (g := gb152) (o := .cells #[.int .i64 a1_0, .int .i64 a1_1, .slice (some ad157) l1_2.length c1_2] 29 (0, 0)) BK152.out) : gb152 ≠ gb158))
    have NB158_152 := Aside0.mk ((by rw [hg]; exact Nat.ne_of_gt (blk_lt (g := gb152) (o := .cells #[.int .i64 a1_0, .int .i64 a1_1, .slice (some ad157) l1_2.length c1_2] 29 (0, 0)) BK152.out) : gb158 ≠ gb152))
    replace BK152 := Xbb BK152 hb
    have NB155_158 := Aside0.mk ((by rw [hg]; exact Nat.ne_of_lt (blk_lt (g := gb155) (o := .cells #[.int .i64 ((rd_T43 l0_2 t153).f0), .int .i64 ((rd_T43 l0_2 t153).f1), .int .i64 ((rd_T43 l0_2 t153).f2), .string ((rd_T43 l0_2 t153).f3), .slice A154_4 ((rd_T43 l0_2 t153).f4).length c154_4] 43 (0, 0)) BK155.out) : gb155 ≠ gb158))
    have NB158_155 := Aside0.mk ((by rw [hg]; exact Nat.ne_of_gt (blk_lt (g := gb155) (o := .cells #[.int .i64 ((rd_T43 l0_2 t153).f0), .int .i64 ((rd_T43 l0_2 t153).f1), .int .i64 ((rd_T43 l0_2 t153).f2), .string ((rd_T43 l0_2 t153).f3), .slice A154_4 ((rd_T43 l0_2 t153).f4).length c154_4] 43 (0, 0)) BK155.out) : gb158 ≠ gb155))
    replace BK155 := Xbb BK155 hb
    clear hb hbox hg
    refine hK.out _ _ ⟨(blk_cell BK152.out 0).trans rfl, (blk_cell BK152.out 1).trans rfl, (blk_cell BK152.out 2).trans rfl, Xn hw157_0, Xn hw157_1, Xn hw157_2, Xn hw157_3, Xn hw157_4⟩ (fun hHeld => ?_)
    clear hK K
    refine Xno ?_
    refine one_ (i := 4) (N := some 23) (XW.bs 9 159) rfl rfl (one_of HT_.out (by kernel_rfl)) (by decide) (fun K hK => ?_)
    refine goes_ Try.func74 (by kernel_rfl) rfl #[.agg #[.int .i64 a1_0, .int .i64 a1_1, .slice (some ad157) l1_2.length c1_2], .int .i64 a3] (by rfl) rfl rfl (by (try simp only [List.map_toArray, List.map_cons, List.map_nil]); first | done | rfl | (simp only [List.length_drop, List.length_take]; rfl)) ?_
    with_reducible refine (spec_l02At.calls k a1_0 a1_1 _ _ l1_2 a3 t156 _ ?side1 ?side2 A8.out).mono ?_
    (case side1 => exact Xc HR1_2)
    (case side2 => exact HC1_2.out)
    rintro e w26 ⟨rfl, hb⟩
    refine ⟨_, rfl, ?_⟩
    replace BK151 := Xbb BK151 hb
    replace BK152 := Xbb BK152 hb
    replace BK155 := Xbb BK155 hb
    replace BK158 := Xbb BK158 hb
    replace HB := Aside0.mk (below_step Xi hb)
    (try clear hb)
    (try clear hb2)
    (try clear hk)
    (try clear hi)
    refine hK.out _ _ ⟨(blk_cell BK152.out 0).trans rfl, (blk_cell BK152.out 1).trans rfl, (blk_cell BK152.out 2).trans rfl, Xn hw157_0, Xn hw157_1, Xn hw157_2, Xn hw157_3, Xn hw157_4⟩ (fun hHeld => ?_)
    clear hK K
    refine Xno ?_
    refine Xpu 5 24 (XW.bs 9 191) HT_.out ?_
    refine Xta 6 25 (XW.bs 9 255) HT_.out HW_.out hHeld ?_
    exact norm_ (by simp only [putAll, Act.put, List.setIfInBounds_toArray, List.set_cons_zero, List.set_cons_succ]) (hCont (gb158) _ ⟨hHeld, BK151.out, BK152.out, BK155.out, BK158.out, GW158.out, GE158.out, NB151_158.out, NB158_151.out, NB152_158.out, NB158_152.out, NB155_158.out, NB158_155.out, Xi⟩)
  rintro gb158 w27 ⟨hS_, h0_, h1_, h2_, h3_, h4_, h5_, h6_, h7_, h8_, h9_, h10_, h11_, h12_⟩
  have n0_ : Aside0 (w27.heap[gb151]? = some (.cells #[.int .i64 a0_0, .int .i64 a0_1, .slice (some ad154) l0_2.length c0_2] 29 (0, 0))) := ⟨h0_⟩
  have n1_ : Aside0 (w27.heap[gb152]? = some (.cells #[.int .i64 a1_0, .int .i64 a1_1, .slice (some ad157) l1_2.length c1_2] 29 (0, 0))) := ⟨h1_⟩
  have n2_ : Aside0 (w27.heap[gb155]? = some (.cells #[.int .i64 ((rd_T43 l0_2 t153).f0), .int .i64 ((rd_T43 l0_2 t153).f1), .int .i64 ((rd_T43 l0_2 t153).f2), .string ((rd_T43 l0_2 t153).f3), .slice A154_4 ((rd_T43 l0_2 t153).f4).length c154_4] 43 (0, 0))) := ⟨h2_⟩
  have n3_ : Aside0 (w27.heap[gb158]? = some (.cells #[.int .i64 0, .int .i64 0, .int .i64 0, .string (⟨#[]⟩ : ByteArray), .slice none 0 0] 43 (0, 0))) := ⟨h3_⟩
  have n4_ : Aside0 (w.heap.size ≤ gb158) := ⟨h4_⟩
  have n5_ : Aside0 (w.heap.size ≤ gb158) := ⟨h5_⟩
  have n6_ : Aside0 (gb151 ≠ gb158) := ⟨h6_⟩
  have n7_ : Aside0 (gb158 ≠ gb151) := ⟨h7_⟩
  have n8_ : Aside0 (gb152 ≠ gb158) := ⟨h8_⟩
  have n9_ : Aside0 (gb158 ≠ gb152) := ⟨h9_⟩
  have n10_ : Aside0 (gb155 ≠ gb158) := ⟨h10_⟩
  have n11_ : Aside0 (gb158 ≠ gb155) := ⟨h11_⟩
  have n12_ : Aside0 (Below w.heap.size w w27) := ⟨h12_⟩
  clear BK151
  clear BK152
  clear BK155
  clear HB
  clear h0_ h1_ h2_ h3_ h4_ h5_ h6_ h7_ h8_ h9_ h10_ h11_ h12_
  have BK151 := n0_
  have BK152 := n1_
  have BK155 := n2_
  have BK158 := n3_
  have GW158 := n4_
  have GE158 := n5_
  have NB151_158 := n6_
  have NB158_151 := n7_
  have NB152_158 := n8_
  have NB158_152 := n9_
  have NB155_158 := n10_
  have NB158_155 := n11_
  have HB := n12_
  clear n0_ n1_ n2_ n3_ n4_ n5_ n6_ n7_ n8_ n9_ n10_ n11_ n12_
  have hHeld : w27.cell? ⟨gb152, 0, none⟩ = some (.int .i64 a1_0) ∧ w27.cell? ⟨gb152, 1, none⟩ = some (.int .i64 a1_1) ∧ w27.cell? ⟨gb152, 2, none⟩ = some (.slice (some ad157) l1_2.length c1_2) ∧ w27.cell? (ad157.add ((t156).toNat * 5)) = some (.int .i64 ((rd_T43 l1_2 t156).f0)) ∧ w27.cell? ⟨(ad157.add ((t156).toNat * 5)).block, (ad157.add ((t156).toNat * 5)).off + 1, none⟩ = some (.int .i64 ((rd_T43 l1_2 t156).f1)) ∧ w27.cell? ⟨(ad157.add ((t156).toNat * 5)).block, (ad157.add ((t156).toNat * 5)).off + 2, none⟩ = some (.int .i64 ((rd_T43 l1_2 t156).f2)) ∧ w27.cell? ⟨(ad157.add ((t156).toNat * 5)).block, (ad157.add ((t156).toNat * 5)).off + 3, none⟩ = some (.string ((rd_T43 l1_2 t156).f3)) ∧ w27.cell? ⟨(ad157.add ((t156).toNat * 5)).block, (ad157.add ((t156).toNat * 5)).off + 4, none⟩ = some (.slice A157_4 ((rd_T43 l1_2 t156).f4).length c157_4) := hS_
  refine norm_ (a' := ?_) ?_ ?_
  rotate_left
  ·simp only [putAll, Act.put, List.setIfInBounds_toArray, List.set_cons_zero, List.set_cons_succ]
   rfl
  refine one_ (i := 8) (N := none) (XW.bs 9 511) rfl rfl (one_of HT_.out (by kernel_rfl)) (by decide) (fun K hK => ?_)
  have hs28 : w27.cell? ⟨gb158, 0, none⟩ = some (.int .i64 0) := (blk_cell BK158.out 0).trans rfl
  have hfs28 := blk_frozen BK158.out 0
  have hns28_0 := NB151_158.out
  have hns28_1 := NB152_158.out
  have hns28_2 := NB155_158.out
  have hms28_0 := NB158_151.out
  have hms28_1 := NB158_152.out
  have hms28_2 := NB158_155.out
  have hs29 : w27.cell? ⟨gb158, 1, none⟩ = some (.int .i64 0) := (blk_cell BK158.out 1).trans rfl
  have hfs29 := blk_frozen BK158.out 1
  have hns29_0 := NB151_158.out
  have hns29_1 := NB152_158.out
  have hns29_2 := NB155_158.out
  have hms29_0 := NB158_151.out
  have hms29_1 := NB158_152.out
  have hms29_2 := NB158_155.out
  have hs30 : w27.cell? ⟨gb158, 2, none⟩ = some (.int .i64 0) := (blk_cell BK158.out 2).trans rfl
  have hfs30 := blk_frozen BK158.out 2
  have hns30_0 := NB151_158.out
  have hns30_1 := NB152_158.out
  have hns30_2 := NB155_158.out
  have hms30_0 := NB158_151.out
  have hms30_1 := NB158_152.out
  have hms30_2 := NB158_155.out
  have hs31 : w27.cell? ⟨gb158, 3, none⟩ = some (.string (⟨#[]⟩ : ByteArray)) := (blk_cell BK158.out 3).trans rfl
  have hfs31 := blk_frozen BK158.out 3
  have hns31_0 := NB151_158.out
  have hns31_1 := NB152_158.out
  have hns31_2 := NB155_158.out
  have hms31_0 := NB158_151.out
  have hms31_1 := NB158_152.out
  have hms31_2 := NB158_155.out
  have hs32 : w27.cell? ⟨gb158, 4, none⟩ = some (.slice none 0 0) := (blk_cell BK158.out 4).trans rfl
  have hfs32 := blk_frozen BK158.out 4
  have hns32_0 := NB151_158.out
  have hns32_1 := NB152_158.out
  have hns32_2 := NB155_158.out
  have hms32_0 := NB158_151.out
  have hms32_1 := NB158_152.out
  have hms32_2 := NB158_155.out
  refine skip_ (w1 := ?_) (by rfl) rfl ?_ ?_
  rotate_left
  ·go_simp
   rfl
  refine hK.out _ _ ⟨((cell_far (p := ⟨gb158, _, none⟩) NB152_158.out _).trans (((cell_far (p := ⟨gb158, _, none⟩) NB152_158.out _).trans (((cell_far (p := ⟨gb158, _, none⟩) NB152_158.out _).trans (((cell_far (p := ⟨gb158, _, none⟩) NB152_158.out _).trans (((cell_far (p := ⟨gb158, _, none⟩) NB152_158.out _).trans (hHeld.1)))))))))), ((cell_far (p := ⟨gb158, _, none⟩) NB152_158.out _).trans (((cell_far (p := ⟨gb158, _, none⟩) NB152_158.out _).trans (((cell_far (p := ⟨gb158, _, none⟩) NB152_158.out _).trans (((cell_far (p := ⟨gb158, _, none⟩) NB152_158.out _).trans (((cell_far (p := ⟨gb158, _, none⟩) NB152_158.out _).trans (hHeld.2.1)))))))))), ((cell_far (p := ⟨gb158, _, none⟩) NB152_158.out _).trans (((cell_far (p := ⟨gb158, _, none⟩) NB152_158.out _).trans (((cell_far (p := ⟨gb158, _, none⟩) NB152_158.out _).trans (((cell_far (p := ⟨gb158, _, none⟩) NB152_158.out _).trans (((cell_far (p := ⟨gb158, _, none⟩) NB152_158.out _).trans (hHeld.2.2.1)))))))))), ((cell_far (p := ⟨gb158, _, none⟩) (by first | exact Nat.ne_of_lt (Nat.lt_of_lt_of_le (by have := World.block_lt_of_cell? _ _ hw157_0; first | rwa [add_block] at this | exact this) GW158.out) | (rw [add_block]; exact Nat.ne_of_lt (Nat.lt_of_lt_of_le (by have := World.block_lt_of_cell? _ _ hw157_0; first | rwa [add_block] at this | exact this) GW158.out)) | (show (Addr.add _ _).block ≠ _; rw [add_block]; exact Nat.ne_of_lt (Nat.lt_of_lt_of_le (by have := World.block_lt_of_cell? _ _ hw157_0; first | rwa [add_block] at this | exact this) GW158.out)) | (dsimp only; exact Nat.ne_of_lt (Nat.lt_of_lt_of_le (by have := World.block_lt_of_cell? _ _ hw157_0; first | rwa [add_block] at this | exact this) GW158.out))) _).trans (((cell_far (p := ⟨gb158, _, none⟩) (by first | exact Nat.ne_of_lt (Nat.lt_of_lt_of_le (by have := World.block_lt_of_cell? _ _ hw157_0; first | rwa [add_block] at this | exact this) GW158.out) | (rw [add_block]; exact Nat.ne_of_lt (Nat.lt_of_lt_of_le (by have := World.block_lt_of_cell? _ _ hw157_0; first | rwa [add_block] at this | exact this) GW158.out)) | (show (Addr.add _ _).block ≠ _; rw [add_block]; exact Nat.ne_of_lt (Nat.lt_of_lt_of_le (by have := World.block_lt_of_cell? _ _ hw157_0; first | rwa [add_block] at this | exact this) GW158.out)) | (dsimp only; exact Nat.ne_of_lt (Nat.lt_of_lt_of_le (by have := World.block_lt_of_cell? _ _ hw157_0; first | rwa [add_block] at this | exact this) GW158.out))) _).trans (((cell_far (p := ⟨gb158, _, none⟩) (by first | exact Nat.ne_of_lt (Nat.lt_of_lt_of_le (by have := World.block_lt_of_cell? _ _ hw157_0; first | rwa [add_block] at this | exact this) GW158.out) | (rw [add_block]; exact Nat.ne_of_lt (Nat.lt_of_lt_of_le (by have := World.block_lt_of_cell? _ _ hw157_0; first | rwa [add_block] at this | exact this) GW158.out)) | (show (Addr.add _ _).block ≠ _; rw [add_block]; exact Nat.ne_of_lt (Nat.lt_of_lt_of_le (by have := World.block_lt_of_cell? _ _ hw157_0; first | rwa [add_block] at this | exact this) GW158.out)) | (dsimp only; exact Nat.ne_of_lt (Nat.lt_of_lt_of_le (by have := World.block_lt_of_cell? _ _ hw157_0; first | rwa [add_block] at this | exact this) GW158.out))) _).trans (((cell_far (p := ⟨gb158, _, none⟩) (by first | exact Nat.ne_of_lt (Nat.lt_of_lt_of_le (by have := World.block_lt_of_cell? _ _ hw157_0; first | rwa [add_block] at this | exact this) GW158.out) | (rw [add_block]; exact Nat.ne_of_lt (Nat.lt_of_lt_of_le (by have := World.block_lt_of_cell? _ _ hw157_0; first | rwa [add_block] at this | exact this) GW158.out)) | (show (Addr.add _ _).block ≠ _; rw [add_block]; exact Nat.ne_of_lt (Nat.lt_of_lt_of_le (by have := World.block_lt_of_cell? _ _ hw157_0; first | rwa [add_block] at this | exact this) GW158.out)) | (dsimp only; exact Nat.ne_of_lt (Nat.lt_of_lt_of_le (by have := World.block_lt_of_cell? _ _ hw157_0; first | rwa [add_block] at this | exact this) GW158.out))) _).trans (((cell_far (p := ⟨gb158, _, none⟩) (by first | exact Nat.ne_of_lt (Nat.lt_of_lt_of_le (by have := World.block_lt_of_cell? _ _ hw157_0; first | rwa [add_block] at this | exact this) GW158.out) | (rw [add_block]; exact Nat.ne_of_lt (Nat.lt_of_lt_of_le (by have := World.block_lt_of_cell? _ _ hw157_0; first | rwa [add_block] at this | exact this) GW158.out)) | (show (Addr.add _ _).block ≠ _; rw [add_block]; exact Nat.ne_of_lt (Nat.lt_of_lt_of_le (by have := World.block_lt_of_cell? _ _ hw157_0; first | rwa [add_block] at this | exact this) GW158.out)) | (dsimp only; exact Nat.ne_of_lt (Nat.lt_of_lt_of_le (by have := World.block_lt_of_cell? _ _ hw157_0; first | rwa [add_block] at this | exact this) GW158.out))) _).trans (hHeld.2.2.2.1)))))))))), ((cell_far (p := ⟨gb158, _, none⟩) (by first | exact Nat.ne_of_lt (Nat.lt_of_lt_of_le (by have := World.block_lt_of_cell? _ _ hw157_1; first | rwa [add_block] at this | exact this) GW158.out) | (rw [add_block]; exact Nat.ne_of_lt (Nat.lt_of_lt_of_le (by have := World.block_lt_of_cell? _ _ hw157_1; first | rwa [add_block] at this | exact this) GW158.out)) | (show (Addr.add _ _).block ≠ _; rw [add_block]; exact Nat.ne_of_lt (Nat.lt_of_lt_of_le (by have := World.block_lt_of_cell? _ _ hw157_1; first | rwa [add_block] at this | exact this) GW158.out)) | (dsimp only; exact Nat.ne_of_lt (Nat.lt_of_lt_of_le (by have := World.block_lt_of_cell? _ _ hw157_1; first | rwa [add_block] at this | exact this) GW158.out))) _).trans (((cell_far (p := ⟨gb158, _, none⟩) (by first | exact Nat.ne_of_lt (Nat.lt_of_lt_of_le (by have := World.block_lt_of_cell? _ _ hw157_1; first | rwa [add_block] at this | exact this) GW158.out) | (rw [add_block]; exact Nat.ne_of_lt (Nat.lt_of_lt_of_le (by have := World.block_lt_of_cell? _ _ hw157_1; first | rwa [add_block] at this | exact this) GW158.out)) | (show (Addr.add _ _).block ≠ _; rw [add_block]; exact Nat.ne_of_lt (Nat.lt_of_lt_of_le (by have := World.block_lt_of_cell? _ _ hw157_1; first | rwa [add_block] at this | exact this) GW158.out)) | (dsimp only; exact Nat.ne_of_lt (Nat.lt_of_lt_of_le (by have := World.block_lt_of_cell? _ _ hw157_1; first | rwa [add_block] at this | exact this) GW158.out))) _).trans (((cell_far (p := ⟨gb158, _, none⟩) (by first | exact Nat.ne_of_lt (Nat.lt_of_lt_of_le (by have := World.block_lt_of_cell? _ _ hw157_1; first | rwa [add_block] at this | exact this) GW158.out) | (rw [add_block]; exact Nat.ne_of_lt (Nat.lt_of_lt_of_le (by have := World.block_lt_of_cell? _ _ hw157_1; first | rwa [add_block] at this | exact this) GW158.out)) | (show (Addr.add _ _).block ≠ _; rw [add_block]; exact Nat.ne_of_lt (Nat.lt_of_lt_of_le (by have := World.block_lt_of_cell? _ _ hw157_1; first | rwa [add_block] at this | exact this) GW158.out)) | (dsimp only; exact Nat.ne_of_lt (Nat.lt_of_lt_of_le (by have := World.block_lt_of_cell? _ _ hw157_1; first | rwa [add_block] at this | exact this) GW158.out))) _).trans (((cell_far (p := ⟨gb158, _, none⟩) (by first | exact Nat.ne_of_lt (Nat.lt_of_lt_of_le (by have := World.block_lt_of_cell? _ _ hw157_1; first | rwa [add_block] at this | exact this) GW158.out) | (rw [add_block]; exact Nat.ne_of_lt (Nat.lt_of_lt_of_le (by have := World.block_lt_of_cell? _ _ hw157_1; first | rwa [add_block] at this | exact this) GW158.out)) | (show (Addr.add _ _).block ≠ _; rw [add_block]; exact Nat.ne_of_lt (Nat.lt_of_lt_of_le (by have := World.block_lt_of_cell? _ _ hw157_1; first | rwa [add_block] at this | exact this) GW158.out)) | (dsimp only; exact Nat.ne_of_lt (Nat.lt_of_lt_of_le (by have := World.block_lt_of_cell? _ _ hw157_1; first | rwa [add_block] at this | exact this) GW158.out))) _).trans (((cell_far (p := ⟨gb158, _, none⟩) (by first | exact Nat.ne_of_lt (Nat.lt_of_lt_of_le (by have := World.block_lt_of_cell? _ _ hw157_1; first | rwa [add_block] at this | exact this) GW158.out) | (rw [add_block]; exact Nat.ne_of_lt (Nat.lt_of_lt_of_le (by have := World.block_lt_of_cell? _ _ hw157_1; first | rwa [add_block] at this | exact this) GW158.out)) | (show (Addr.add _ _).block ≠ _; rw [add_block]; exact Nat.ne_of_lt (Nat.lt_of_lt_of_le (by have := World.block_lt_of_cell? _ _ hw157_1; first | rwa [add_block] at this | exact this) GW158.out)) | (dsimp only; exact Nat.ne_of_lt (Nat.lt_of_lt_of_le (by have := World.block_lt_of_cell? _ _ hw157_1; first | rwa [add_block] at this | exact this) GW158.out))) _).trans (hHeld.2.2.2.2.1)))))))))), ((cell_far (p := ⟨gb158, _, none⟩) (by first | exact Nat.ne_of_lt (Nat.lt_of_lt_of_le (by have := World.block_lt_of_cell? _ _ hw157_2; first | rwa [add_block] at this | exact this) GW158.out) | (rw [add_block]; exact Nat.ne_of_lt (Nat.lt_of_lt_of_le (by have := World.block_lt_of_cell? _ _ hw157_2; first | rwa [add_block] at this | exact this) GW158.out)) | (show (Addr.add _ _).block ≠ _; rw [add_block]; exact Nat.ne_of_lt (Nat.lt_of_lt_of_le (by have := World.block_lt_of_cell? _ _ hw157_2; first | rwa [add_block] at this | exact this) GW158.out)) | (dsimp only; exact Nat.ne_of_lt (Nat.lt_of_lt_of_le (by have := World.block_lt_of_cell? _ _ hw157_2; first | rwa [add_block] at this | exact this) GW158.out))) _).trans (((cell_far (p := ⟨gb158, _, none⟩) (by first | exact Nat.ne_of_lt (Nat.lt_of_lt_of_le (by have := World.block_lt_of_cell? _ _ hw157_2; first | rwa [add_block] at this | exact this) GW158.out) | (rw [add_block]; exact Nat.ne_of_lt (Nat.lt_of_lt_of_le (by have := World.block_lt_of_cell? _ _ hw157_2; first | rwa [add_block] at this | exact this) GW158.out)) | (show (Addr.add _ _).block ≠ _; rw [add_block]; exact Nat.ne_of_lt (Nat.lt_of_lt_of_le (by have := World.block_lt_of_cell? _ _ hw157_2; first | rwa [add_block] at this | exact this) GW158.out)) | (dsimp only; exact Nat.ne_of_lt (Nat.lt_of_lt_of_le (by have := World.block_lt_of_cell? _ _ hw157_2; first | rwa [add_block] at this | exact this) GW158.out))) _).trans (((cell_far (p := ⟨gb158, _, none⟩) (by first | exact Nat.ne_of_lt (Nat.lt_of_lt_of_le (by have := World.block_lt_of_cell? _ _ hw157_2; first | rwa [add_block] at this | exact this) GW158.out) | (rw [add_block]; exact Nat.ne_of_lt (Nat.lt_of_lt_of_le (by have := World.block_lt_of_cell? _ _ hw157_2; first | rwa [add_block] at this | exact this) GW158.out)) | (show (Addr.add _ _).block ≠ _; rw [add_block]; exact Nat.ne_of_lt (Nat.lt_of_lt_of_le (by have := World.block_lt_of_cell? _ _ hw157_2; first | rwa [add_block] at this | exact this) GW158.out)) | (dsimp only; exact Nat.ne_of_lt (Nat.lt_of_lt_of_le (by have := World.block_lt_of_cell? _ _ hw157_2; first | rwa [add_block] at this | exact this) GW158.out))) _).trans (((cell_far (p := ⟨gb158, _, none⟩) (by first | exact Nat.ne_of_lt (Nat.lt_of_lt_of_le (by have := World.block_lt_of_cell? _ _ hw157_2; first | rwa [add_block] at this | exact this) GW158.out) | (rw [add_block]; exact Nat.ne_of_lt (Nat.lt_of_lt_of_le (by have := World.block_lt_of_cell? _ _ hw157_2; first | rwa [add_block] at this | exact this) GW158.out)) | (show (Addr.add _ _).block ≠ _; rw [add_block]; exact Nat.ne_of_lt (Nat.lt_of_lt_of_le (by have := World.block_lt_of_cell? _ _ hw157_2; first | rwa [add_block] at this | exact this) GW158.out)) | (dsimp only; exact Nat.ne_of_lt (Nat.lt_of_lt_of_le (by have := World.block_lt_of_cell? _ _ hw157_2; first | rwa [add_block] at this | exact this) GW158.out))) _).trans (((cell_far (p := ⟨gb158, _, none⟩) (by first | exact Nat.ne_of_lt (Nat.lt_of_lt_of_le (by have := World.block_lt_of_cell? _ _ hw157_2; first | rwa [add_block] at this | exact this) GW158.out) | (rw [add_block]; exact Nat.ne_of_lt (Nat.lt_of_lt_of_le (by have := World.block_lt_of_cell? _ _ hw157_2; first | rwa [add_block] at this | exact this) GW158.out)) | (show (Addr.add _ _).block ≠ _; rw [add_block]; exact Nat.ne_of_lt (Nat.lt_of_lt_of_le (by have := World.block_lt_of_cell? _ _ hw157_2; first | rwa [add_block] at this | exact this) GW158.out)) | (dsimp only; exact Nat.ne_of_lt (Nat.lt_of_lt_of_le (by have := World.block_lt_of_cell? _ _ hw157_2; first | rwa [add_block] at this | exact this) GW158.out))) _).trans (hHeld.2.2.2.2.2.1)))))))))), ((cell_far (p := ⟨gb158, _, none⟩) (by first | exact Nat.ne_of_lt (Nat.lt_of_lt_of_le (by have := World.block_lt_of_cell? _ _ hw157_3; first | rwa [add_block] at this | exact this) GW158.out) | (rw [add_block]; exact Nat.ne_of_lt (Nat.lt_of_lt_of_le (by have := World.block_lt_of_cell? _ _ hw157_3; first | rwa [add_block] at this | exact this) GW158.out)) | (show (Addr.add _ _).block ≠ _; rw [add_block]; exact Nat.ne_of_lt (Nat.lt_of_lt_of_le (by have := World.block_lt_of_cell? _ _ hw157_3; first | rwa [add_block] at this | exact this) GW158.out)) | (dsimp only; exact Nat.ne_of_lt (Nat.lt_of_lt_of_le (by have := World.block_lt_of_cell? _ _ hw157_3; first | rwa [add_block] at this | exact this) GW158.out))) _).trans (((cell_far (p := ⟨gb158, _, none⟩) (by first | exact Nat.ne_of_lt (Nat.lt_of_lt_of_le (by have := World.block_lt_of_cell? _ _ hw157_3; first | rwa [add_block] at this | exact this) GW158.out) | (rw [add_block]; exact Nat.ne_of_lt (Nat.lt_of_lt_of_le (by have := World.block_lt_of_cell? _ _ hw157_3; first | rwa [add_block] at this | exact this) GW158.out)) | (show (Addr.add _ _).block ≠ _; rw [add_block]; exact Nat.ne_of_lt (Nat.lt_of_lt_of_le (by have := World.block_lt_of_cell? _ _ hw157_3; first | rwa [add_block] at this | exact this) GW158.out)) | (dsimp only; exact Nat.ne_of_lt (Nat.lt_of_lt_of_le (by have := World.block_lt_of_cell? _ _ hw157_3; first | rwa [add_block] at this | exact this) GW158.out))) _).trans (((cell_far (p := ⟨gb158, _, none⟩) (by first | exact Nat.ne_of_lt (Nat.lt_of_lt_of_le (by have := World.block_lt_of_cell? _ _ hw157_3; first | rwa [add_block] at this | exact this) GW158.out) | (rw [add_block]; exact Nat.ne_of_lt (Nat.lt_of_lt_of_le (by have := World.block_lt_of_cell? _ _ hw157_3; first | rwa [add_block] at this | exact this) GW158.out)) | (show (Addr.add _ _).block ≠ _; rw [add_block]; exact Nat.ne_of_lt (Nat.lt_of_lt_of_le (by have := World.block_lt_of_cell? _ _ hw157_3; first | rwa [add_block] at this | exact this) GW158.out)) | (dsimp only; exact Nat.ne_of_lt (Nat.lt_of_lt_of_le (by have := World.block_lt_of_cell? _ _ hw157_3; first | rwa [add_block] at this | exact this) GW158.out))) _).trans (((cell_far (p := ⟨gb158, _, none⟩) (by first | exact Nat.ne_of_lt (Nat.lt_of_lt_of_le (by have := World.block_lt_of_cell? _ _ hw157_3; first | rwa [add_block] at this | exact this) GW158.out) | (rw [add_block]; exact Nat.ne_of_lt (Nat.lt_of_lt_of_le (by have := World.block_lt_of_cell? _ _ hw157_3; first | rwa [add_block] at this | exact this) GW158.out)) | (show (Addr.add _ _).block ≠ _; rw [add_block]; exact Nat.ne_of_lt (Nat.lt_of_lt_of_le (by have := World.block_lt_of_cell? _ _ hw157_3; first | rwa [add_block] at this | exact this) GW158.out)) | (dsimp only; exact Nat.ne_of_lt (Nat.lt_of_lt_of_le (by have := World.block_lt_of_cell? _ _ hw157_3; first | rwa [add_block] at this | exact this) GW158.out))) _).trans (((cell_far (p := ⟨gb158, _, none⟩) (by first | exact Nat.ne_of_lt (Nat.lt_of_lt_of_le (by have := World.block_lt_of_cell? _ _ hw157_3; first | rwa [add_block] at this | exact this) GW158.out) | (rw [add_block]; exact Nat.ne_of_lt (Nat.lt_of_lt_of_le (by have := World.block_lt_of_cell? _ _ hw157_3; first | rwa [add_block] at this | exact this) GW158.out)) | (show (Addr.add _ _).block ≠ _; rw [add_block]; exact Nat.ne_of_lt (Nat.lt_of_lt_of_le (by have := World.block_lt_of_cell? _ _ hw157_3; first | rwa [add_block] at this | exact this) GW158.out)) | (dsimp only; exact Nat.ne_of_lt (Nat.lt_of_lt_of_le (by have := World.block_lt_of_cell? _ _ hw157_3; first | rwa [add_block] at this | exact this) GW158.out))) _).trans (hHeld.2.2.2.2.2.2.1)))))))))), ((cell_far (p := ⟨gb158, _, none⟩) (by first | exact Nat.ne_of_lt (Nat.lt_of_lt_of_le (by have := World.block_lt_of_cell? _ _ hw157_4; first | rwa [add_block] at this | exact this) GW158.out) | (rw [add_block]; exact Nat.ne_of_lt (Nat.lt_of_lt_of_le (by have := World.block_lt_of_cell? _ _ hw157_4; first | rwa [add_block] at this | exact this) GW158.out)) | (show (Addr.add _ _).block ≠ _; rw [add_block]; exact Nat.ne_of_lt (Nat.lt_of_lt_of_le (by have := World.block_lt_of_cell? _ _ hw157_4; first | rwa [add_block] at this | exact this) GW158.out)) | (dsimp only; exact Nat.ne_of_lt (Nat.lt_of_lt_of_le (by have := World.block_lt_of_cell? _ _ hw157_4; first | rwa [add_block] at this | exact this) GW158.out))) _).trans (((cell_far (p := ⟨gb158, _, none⟩) (by first | exact Nat.ne_of_lt (Nat.lt_of_lt_of_le (by have := World.block_lt_of_cell? _ _ hw157_4; first | rwa [add_block] at this | exact this) GW158.out) | (rw [add_block]; exact Nat.ne_of_lt (Nat.lt_of_lt_of_le (by have := World.block_lt_of_cell? _ _ hw157_4; first | rwa [add_block] at this | exact this) GW158.out)) | (show (Addr.add _ _).block ≠ _; rw [add_block]; exact Nat.ne_of_lt (Nat.lt_of_lt_of_le (by have := World.block_lt_of_cell? _ _ hw157_4; first | rwa [add_block] at this | exact this) GW158.out)) | (dsimp only; exact Nat.ne_of_lt (Nat.lt_of_lt_of_le (by have := World.block_lt_of_cell? _ _ hw157_4; first | rwa [add_block] at this | exact this) GW158.out))) _).trans (((cell_far (p := ⟨gb158, _, none⟩) (by first | exact Nat.ne_of_lt (Nat.lt_of_lt_of_le (by have := World.block_lt_of_cell? _ _ hw157_4; first | rwa [add_block] at this | exact this) GW158.out) | (rw [add_block]; exact Nat.ne_of_lt (Nat.lt_of_lt_of_le (by have := World.block_lt_of_cell? _ _ hw157_4; first | rwa [add_block] at this | exact this) GW158.out)) | (show (Addr.add _ _).block ≠ _; rw [add_block]; exact Nat.ne_of_lt (Nat.lt_of_lt_of_le (by have := World.block_lt_of_cell? _ _ hw157_4; first | rwa [add_block] at this | exact this) GW158.out)) | (dsimp only; exact Nat.ne_of_lt (Nat.lt_of_lt_of_le (by have := World.block_lt_of_cell? _ _ hw157_4; first | rwa [add_block] at this | exact this) GW158.out))) _).trans (((cell_far (p := ⟨gb158, _, none⟩) (by first | exact Nat.ne_of_lt (Nat.lt_of_lt_of_le (by have := World.block_lt_of_cell? _ _ hw157_4; first | rwa [add_block] at this | exact this) GW158.out) | (rw [add_block]; exact Nat.ne_of_lt (Nat.lt_of_lt_of_le (by have := World.block_lt_of_cell? _ _ hw157_4; first | rwa [add_block] at this | exact this) GW158.out)) | (show (Addr.add _ _).block ≠ _; rw [add_block]; exact Nat.ne_of_lt (Nat.lt_of_lt_of_le (by have := World.block_lt_of_cell? _ _ hw157_4; first | rwa [add_block] at this | exact this) GW158.out)) | (dsimp only; exact Nat.ne_of_lt (Nat.lt_of_lt_of_le (by have := World.block_lt_of_cell? _ _ hw157_4; first | rwa [add_block] at this | exact this) GW158.out))) _).trans (((cell_far (p := ⟨gb158, _, none⟩) (by first | exact Nat.ne_of_lt (Nat.lt_of_lt_of_le (by have := World.block_lt_of_cell? _ _ hw157_4; first | rwa [add_block] at this | exact this) GW158.out) | (rw [add_block]; exact Nat.ne_of_lt (Nat.lt_of_lt_of_le (by have := World.block_lt_of_cell? _ _ hw157_4; first | rwa [add_block] at this | exact this) GW158.out)) | (show (Addr.add _ _).block ≠ _; rw [add_block]; exact Nat.ne_of_lt (Nat.lt_of_lt_of_le (by have := World.block_lt_of_cell? _ _ hw157_4; first | rwa [add_block] at this | exact this) GW158.out)) | (dsimp only; exact Nat.ne_of_lt (Nat.lt_of_lt_of_le (by have := World.block_lt_of_cell? _ _ hw157_4; first | rwa [add_block] at this | exact this) GW158.out))) _).trans (hHeld.2.2.2.2.2.2.2))))))))))⟩ (fun hHeld => ?_)
  clear hK K
  refine done_ (done_of HT_.out (by kernel_rfl)) ?_
  go_upto_region 3 with (fail)
  go_cut [53] (fun v53 wc => ∃ (kq : Nat) (x53_10 : Bool), v53 = .bool x53_10 ∧ Aside0 (spec_l02Like.j0 kq x53_10 a0_0 a0_1 l0_2 a1_0 a1_1 l1_2 ((rd_T43 l0_2 t153).f0) ((rd_T43 l0_2 t153).f1) ((rd_T43 l0_2 t153).f2) ((rd_T43 l0_2 t153).f3) ((rd_T43 l0_2 t153).f4) ((rd_T43 l1_2 t156).f0) ((rd_T43 l1_2 t156).f1) ((rd_T43 l1_2 t156).f2) ((rd_T43 l1_2 t156).f3) ((rd_T43 l1_2 t156).f4) = some r) ∧ Aside0 (kq ≤ k) ∧ Aside0 (wc.heap[gb151]? = some (.cells #[.int .i64 a0_0, .int .i64 a0_1, (.slice (some ad154) l0_2.length c0_2)] 29 (0, 0))) ∧ Aside0 (wc.heap[gb152]? = some (.cells #[.int .i64 a1_0, .int .i64 a1_1, (.slice (some ad157) l1_2.length c1_2)] 29 (0, 0))) ∧ Aside0 (wc.heap[gb155]? = some (.cells #[.int .i64 ((rd_T43 l0_2 t153).f0), .int .i64 ((rd_T43 l0_2 t153).f1), .int .i64 ((rd_T43 l0_2 t153).f2), .string ((rd_T43 l0_2 t153).f3), (.slice A154_4 ((rd_T43 l0_2 t153).f4).length c154_4)] 43 (0, 0))) ∧ Aside0 (wc.heap[gb158]? = some (.cells #[.int .i64 ((rd_T43 l1_2 t156).f0), .int .i64 ((rd_T43 l1_2 t156).f1), .int .i64 ((rd_T43 l1_2 t156).f2), .string ((rd_T43 l1_2 t156).f3), (.slice A157_4 ((rd_T43 l1_2 t156).f4).length c157_4)] 43 (0, 0))) ∧ Aside0 (Below w.heap.size w wc))
  case first =>
   have H := HC11.out
   clear HC11
   obtain ⟨c33, H⟩ | ⟨c33, H⟩ := Xiu H
   ·have c33b0 : (((rd_T43 l0_2 t153).f1) == ((rd_T43 l1_2 t156).f1)) = true := beq_iff_eq.mpr c33
    have c33b1 : (((rd_T43 l0_2 t153).f1) != ((rd_T43 l1_2 t156).f1)) = false := bne_eq_false_iff_eq.mpr c33
    clear c33
    (first | rw [c33b0] | (simp only [i64_w, i32_w]; rw [c33b0]) | skip)
    obtain ⟨c34, H⟩ | ⟨c34, H⟩ := Xiu H
    ·have c34b0 : (((rd_T43 l0_2 t153).f2) == ((rd_T43 l1_2 t156).f2)) = true := beq_iff_eq.mpr c34
     have c34b1 : (((rd_T43 l0_2 t153).f2) != ((rd_T43 l1_2 t156).f2)) = false := bne_eq_false_iff_eq.mpr c34
     clear c34
     obtain ⟨c35, H⟩ | ⟨c35, H⟩ := Xiu H
     ·have c35b0 : (((rd_T43 l0_2 t153).f3).toList == ((rd_T43 l1_2 t156).f3).toList) = true := beq_iff_eq.mpr c35
      have c35b1 : (((rd_T43 l0_2 t153).f3).toList != ((rd_T43 l1_2 t156).f3).toList) = false := bne_eq_false_iff_eq.mpr c35
      clear c35
      have H' := Aside0.mk H
      clear H
      have hnb36 := NB155_151.out
      have hnc36 := NB151_155.out
      have hnb37 := NB155_152.out
      have hnc37 := NB152_155.out
      have hnb38 := NB155_158.out
      have hnc38 := NB158_155.out
      obtain ⟨hcz39_0, hcz39_1, hcz39_2, hcz39_3, hcz39_4⟩ := Xc5 BK155
      obtain ⟨hfz39_0, hfz39_1, hfz39_2, hfz39_3, hfz39_4⟩ := Xf5 BK155
      have hnb40 := NB158_151.out
      have hnc40 := NB151_158.out
      have hnb41 := NB158_152.out
      have hnc41 := NB152_158.out
      obtain ⟨hcz42_0, hcz42_1, hcz42_2, hcz42_3, hcz42_4⟩ := Xc5 BK158
      obtain ⟨hfz42_0, hfz42_1, hfz42_2, hfz42_3, hfz42_4⟩ := Xf5 BK158
      go_wp2
      go_meet
      case rel => exact ⟨_, (((((rd_T43 l0_2 t153).f4).length : Int) != (((rd_T43 l1_2 t156).f4).length : Int))), Xr, H', Xko, ⟨by (with_reducible repeat (first | refine blk_drewN ?_ _ | refine blk_drew ?_ | refine blk_alloc ?_ _)); refine blk_far ?_ NB151_158.out _; (with_reducible repeat (first | refine blk_drewN ?_ _ | refine blk_drew ?_ | refine blk_alloc ?_ _)); refine blk_far ?_ NB151_158.out _; (with_reducible repeat (first | refine blk_drewN ?_ _ | refine blk_drew ?_ | refine blk_alloc ?_ _)); refine blk_far ?_ NB151_158.out _; (with_reducible repeat (first | refine blk_drewN ?_ _ | refine blk_drew ?_ | refine blk_alloc ?_ _)); refine blk_far ?_ NB151_158.out _; (with_reducible repeat (first | refine blk_drewN ?_ _ | refine blk_drew ?_ | refine blk_alloc ?_ _)); refine blk_far ?_ NB151_158.out _; (with_reducible repeat (first | refine blk_drewN ?_ _ | refine blk_drew ?_ | refine blk_alloc ?_ _)); exact BK151.out⟩, ⟨by (with_reducible repeat (first | refine blk_drewN ?_ _ | refine blk_drew ?_ | refine blk_alloc ?_ _)); refine blk_far ?_ NB152_158.out _; (with_reducible repeat (first | refine blk_drewN ?_ _ | refine blk_drew ?_ | refine blk_alloc ?_ _)); refine blk_far ?_ NB152_158.out _; (with_reducible repeat (first | refine blk_drewN ?_ _ | refine blk_drew ?_ | refine blk_alloc ?_ _)); refine blk_far ?_ NB152_158.out _; (with_reducible repeat (first | refine blk_drewN ?_ _ | refine blk_drew ?_ | refine blk_alloc ?_ _)); refine blk_far ?_ NB152_158.out _; (with_reducible repeat (first | refine blk_drewN ?_ _ | refine blk_drew ?_ | refine blk_alloc ?_ _)); refine blk_far ?_ NB152_158.out _; (with_reducible repeat (first | refine blk_drewN ?_ _ | refine blk_drew ?_ | refine blk_alloc ?_ _)); exact BK152.out⟩, ⟨by (with_reducible repeat (first | refine blk_drewN ?_ _ | refine blk_drew ?_ | refine blk_alloc ?_ _)); refine blk_far ?_ NB155_158.out _; (with_reducible repeat (first | refine blk_drewN ?_ _ | refine blk_drew ?_ | refine blk_alloc ?_ _)); refine blk_far ?_ NB155_158.out _; (with_reducible repeat (first | refine blk_drewN ?_ _ | refine blk_drew ?_ | refine blk_alloc ?_ _)); refine blk_far ?_ NB155_158.out _; (with_reducible repeat (first | refine blk_drewN ?_ _ | refine blk_drew ?_ | refine blk_alloc ?_ _)); refine blk_far ?_ NB155_158.out _; (with_reducible repeat (first | refine blk_drewN ?_ _ | refine blk_drew ?_ | refine blk_alloc ?_ _)); refine blk_far ?_ NB155_158.out _; (with_reducible repeat (first | refine blk_drewN ?_ _ | refine blk_drew ?_ | refine blk_alloc ?_ _)); exact BK155.out⟩, ⟨by (with_reducible repeat (first | refine blk_drewN ?_ _ | refine blk_drew ?_ | refine blk_alloc ?_ _)); refine blk_put (cs := #[.int .i64 ((rd_T43 l1_2 t156).f0), .int .i64 ((rd_T43 l1_2 t156).f1), .int .i64 ((rd_T43 l1_2 t156).f2), .string ((rd_T43 l1_2 t156).f3), .slice none 0 0]) ?_ 4 _ rfl; (with_reducible repeat (first | refine blk_drewN ?_ _ | refine blk_drew ?_ | refine blk_alloc ?_ _)); refine blk_put (cs := #[.int .i64 ((rd_T43 l1_2 t156).f0), .int .i64 ((rd_T43 l1_2 t156).f1), .int .i64 ((rd_T43 l1_2 t156).f2), .string (⟨#[]⟩ : ByteArray), .slice none 0 0]) ?_ 3 _ rfl; (with_reducible repeat (first | refine blk_drewN ?_ _ | refine blk_drew ?_ | refine blk_alloc ?_ _)); refine blk_put (cs := #[.int .i64 ((rd_T43 l1_2 t156).f0), .int .i64 ((rd_T43 l1_2 t156).f1), .int .i64 0, .string (⟨#[]⟩ : ByteArray), .slice none 0 0]) ?_ 2 _ rfl; (with_reducible repeat (first | refine blk_drewN ?_ _ | refine blk_drew ?_ | refine blk_alloc ?_ _)); refine blk_put (cs := #[.int .i64 ((rd_T43 l1_2 t156).f0), .int .i64 0, .int .i64 0, .string (⟨#[]⟩ : ByteArray), .slice none 0 0]) ?_ 1 _ rfl; (with_reducible repeat (first | refine blk_drewN ?_ _ | refine blk_drew ?_ | refine blk_alloc ?_ _)); refine blk_put (cs := #[.int .i64 0, .int .i64 0, .int .i64 0, .string (⟨#[]⟩ : ByteArray), .slice none 0 0]) ?_ 0 _ rfl; (with_reducible repeat (first | refine blk_drewN ?_ _ | refine blk_drew ?_ | refine blk_alloc ?_ _)); exact BK158.out⟩, ⟨Xi⟩⟩
     ·have c35b0 : (((rd_T43 l0_2 t153).f3).toList == ((rd_T43 l1_2 t156).f3).toList) = false := beq_eq_false_iff_ne.mpr c35
      have c35b1 : (((rd_T43 l0_2 t153).f3).toList != ((rd_T43 l1_2 t156).f3).toList) = true := bne_iff_ne.mpr c35
      have H' := Aside0.mk H
      clear H
      have hnb43 := NB155_151.out
      have hnc43 := NB151_155.out
      have hnb44 := NB155_152.out
      have hnc44 := NB152_155.out
      have hnb45 := NB155_158.out
      have hnc45 := NB158_155.out
      obtain ⟨hcz46_0, hcz46_1, hcz46_2, hcz46_3, hcz46_4⟩ := Xc5 BK155
      obtain ⟨hfz46_0, hfz46_1, hfz46_2, hfz46_3, hfz46_4⟩ := Xf5 BK155
      have hnb47 := NB158_151.out
      have hnc47 := NB151_158.out
      have hnb48 := NB158_152.out
      have hnc48 := NB152_158.out
      obtain ⟨hcz49_0, hcz49_1, hcz49_2, hcz49_3, hcz49_4⟩ := Xc5 BK158
      obtain ⟨hfz49_0, hfz49_1, hfz49_2, hfz49_3, hfz49_4⟩ := Xf5 BK158
      go_wp2
      go_meet
      case rel => exact ⟨_, (true), Xr, H', Xko, ⟨by (with_reducible repeat (first | refine blk_drewN ?_ _ | refine blk_drew ?_ | refine blk_alloc ?_ _)); refine blk_far ?_ NB151_158.out _; (with_reducible repeat (first | refine blk_drewN ?_ _ | refine blk_drew ?_ | refine blk_alloc ?_ _)); refine blk_far ?_ NB151_158.out _; (with_reducible repeat (first | refine blk_drewN ?_ _ | refine blk_drew ?_ | refine blk_alloc ?_ _)); refine blk_far ?_ NB151_158.out _; (with_reducible repeat (first | refine blk_drewN ?_ _ | refine blk_drew ?_ | refine blk_alloc ?_ _)); refine blk_far ?_ NB151_158.out _; (with_reducible repeat (first | refine blk_drewN ?_ _ | refine blk_drew ?_ | refine blk_alloc ?_ _)); refine blk_far ?_ NB151_158.out _; (with_reducible repeat (first | refine blk_drewN ?_ _ | refine blk_drew ?_ | refine blk_alloc ?_ _)); exact BK151.out⟩, ⟨by (with_reducible repeat (first | refine blk_drewN ?_ _ | refine blk_drew ?_ | refine blk_alloc ?_ _)); refine blk_far ?_ NB152_158.out _; (with_reducible repeat (first | refine blk_drewN ?_ _ | refine blk_drew ?_ | refine blk_alloc ?_ _)); refine blk_far ?_ NB152_158.out _; (with_reducible repeat (first | refine blk_drewN ?_ _ | refine blk_drew ?_ | refine blk_alloc ?_ _)); refine blk_far ?_ NB152_158.out _; (with_reducible repeat (first | refine blk_drewN ?_ _ | refine blk_drew ?_ | refine blk_alloc ?_ _)); refine blk_far ?_ NB152_158.out _; (with_reducible repeat (first | refine blk_drewN ?_ _ | refine blk_drew ?_ | refine blk_alloc ?_ _)); refine blk_far ?_ NB152_158.out _; (with_reducible repeat (first | refine blk_drewN ?_ _ | refine blk_drew ?_ | refine blk_alloc ?_ _)); exact BK152.out⟩, ⟨by (with_reducible repeat (first | refine blk_drewN ?_ _ | refine blk_drew ?_ | refine blk_alloc ?_ _)); refine blk_far ?_ NB155_158.out _; (with_reducible repeat (first | refine blk_drewN ?_ _ | refine blk_drew ?_ | refine blk_alloc ?_ _)); refine blk_far ?_ NB155_158.out _; (with_reducible repeat (first | refine blk_drewN ?_ _ | refine blk_drew ?_ | refine blk_alloc ?_ _)); refine blk_far ?_ NB155_158.out _; (with_reducible repeat (first | refine blk_drewN ?_ _ | refine blk_drew ?_ | refine blk_alloc ?_ _)); refine blk_far ?_ NB155_158.out _; (with_reducible repeat (first | refine blk_drewN ?_ _ | refine blk_drew ?_ | refine blk_alloc ?_ _)); refine blk_far ?_ NB155_158.out _; (with_reducible repeat (first | refine blk_drewN ?_ _ | refine blk_drew ?_ | refine blk_alloc ?_ _)); exact BK155.out⟩, ⟨by (with_reducible repeat (first | refine blk_drewN ?_ _ | refine blk_drew ?_ | refine blk_alloc ?_ _)); refine blk_put (cs := #[.int .i64 ((rd_T43 l1_2 t156).f0), .int .i64 ((rd_T43 l1_2 t156).f1), .int .i64 ((rd_T43 l1_2 t156).f2), .string ((rd_T43 l1_2 t156).f3), .slice none 0 0]) ?_ 4 _ rfl; (with_reducible repeat (first | refine blk_drewN ?_ _ | refine blk_drew ?_ | refine blk_alloc ?_ _)); refine blk_put (cs := #[.int .i64 ((rd_T43 l1_2 t156).f0), .int .i64 ((rd_T43 l1_2 t156).f1), .int .i64 ((rd_T43 l1_2 t156).f2), .string (⟨#[]⟩ : ByteArray), .slice none 0 0]) ?_ 3 _ rfl; (with_reducible repeat (first | refine blk_drewN ?_ _ | refine blk_drew ?_ | refine blk_alloc ?_ _)); refine blk_put (cs := #[.int .i64 ((rd_T43 l1_2 t156).f0), .int .i64 ((rd_T43 l1_2 t156).f1), .int .i64 0, .string (⟨#[]⟩ : ByteArray), .slice none 0 0]) ?_ 2 _ rfl; (with_reducible repeat (first | refine blk_drewN ?_ _ | refine blk_drew ?_ | refine blk_alloc ?_ _)); refine blk_put (cs := #[.int .i64 ((rd_T43 l1_2 t156).f0), .int .i64 0, .int .i64 0, .string (⟨#[]⟩ : ByteArray), .slice none 0 0]) ?_ 1 _ rfl; (with_reducible repeat (first | refine blk_drewN ?_ _ | refine blk_drew ?_ | refine blk_alloc ?_ _)); refine blk_put (cs := #[.int .i64 0, .int .i64 0, .int .i64 0, .string (⟨#[]⟩ : ByteArray), .slice none 0 0]) ?_ 0 _ rfl; (with_reducible repeat (first | refine blk_drewN ?_ _ | refine blk_drew ?_ | refine blk_alloc ?_ _)); exact BK158.out⟩, ⟨Xi⟩⟩
    ·have c34b0 : (((rd_T43 l0_2 t153).f2) == ((rd_T43 l1_2 t156).f2)) = false := beq_eq_false_iff_ne.mpr c34
     have c34b1 : (((rd_T43 l0_2 t153).f2) != ((rd_T43 l1_2 t156).f2)) = true := bne_iff_ne.mpr c34
     have H' := Aside0.mk H
     clear H
     have hnb50 := NB155_151.out
     have hnc50 := NB151_155.out
     have hnb51 := NB155_152.out
     have hnc51 := NB152_155.out
     have hnb52 := NB155_158.out
     have hnc52 := NB158_155.out
     obtain ⟨hcz53_0, hcz53_1, hcz53_2, hcz53_3, hcz53_4⟩ := Xc5 BK155
     obtain ⟨hfz53_0, hfz53_1, hfz53_2, hfz53_3, hfz53_4⟩ := Xf5 BK155
     have hnb54 := NB158_151.out
     have hnc54 := NB151_158.out
     have hnb55 := NB158_152.out
     have hnc55 := NB152_158.out
     obtain ⟨hcz56_0, hcz56_1, hcz56_2, hcz56_3, hcz56_4⟩ := Xc5 BK158
     obtain ⟨hfz56_0, hfz56_1, hfz56_2, hfz56_3, hfz56_4⟩ := Xf5 BK158
     go_wp2
     go_meet
     case rel => exact ⟨_, (true), Xr, H', Xko, ⟨by (with_reducible repeat (first | refine blk_drewN ?_ _ | refine blk_drew ?_ | refine blk_alloc ?_ _)); refine blk_far ?_ NB151_158.out _; (with_reducible repeat (first | refine blk_drewN ?_ _ | refine blk_drew ?_ | refine blk_alloc ?_ _)); refine blk_far ?_ NB151_158.out _; (with_reducible repeat (first | refine blk_drewN ?_ _ | refine blk_drew ?_ | refine blk_alloc ?_ _)); refine blk_far ?_ NB151_158.out _; (with_reducible repeat (first | refine blk_drewN ?_ _ | refine blk_drew ?_ | refine blk_alloc ?_ _)); refine blk_far ?_ NB151_158.out _; (with_reducible repeat (first | refine blk_drewN ?_ _ | refine blk_drew ?_ | refine blk_alloc ?_ _)); refine blk_far ?_ NB151_158.out _; (with_reducible repeat (first | refine blk_drewN ?_ _ | refine blk_drew ?_ | refine blk_alloc ?_ _)); exact BK151.out⟩, ⟨by (with_reducible repeat (first | refine blk_drewN ?_ _ | refine blk_drew ?_ | refine blk_alloc ?_ _)); refine blk_far ?_ NB152_158.out _; (with_reducible repeat (first | refine blk_drewN ?_ _ | refine blk_drew ?_ | refine blk_alloc ?_ _)); refine blk_far ?_ NB152_158.out _; (with_reducible repeat (first | refine blk_drewN ?_ _ | refine blk_drew ?_ | refine blk_alloc ?_ _)); refine blk_far ?_ NB152_158.out _; (with_reducible repeat (first | refine blk_drewN ?_ _ | refine blk_drew ?_ | refine blk_alloc ?_ _)); refine blk_far ?_ NB152_158.out _; (with_reducible repeat (first | refine blk_drewN ?_ _ | refine blk_drew ?_ | refine blk_alloc ?_ _)); refine blk_far ?_ NB152_158.out _; (with_reducible repeat (first | refine blk_drewN ?_ _ | refine blk_drew ?_ | refine blk_alloc ?_ _)); exact BK152.out⟩, ⟨by (with_reducible repeat (first | refine blk_drewN ?_ _ | refine blk_drew ?_ | refine blk_alloc ?_ _)); refine blk_far ?_ NB155_158.out _; (with_reducible repeat (first | refine blk_drewN ?_ _ | refine blk_drew ?_ | refine blk_alloc ?_ _)); refine blk_far ?_ NB155_158.out _; (with_reducible repeat (first | refine blk_drewN ?_ _ | refine blk_drew ?_ | refine blk_alloc ?_ _)); refine blk_far ?_ NB155_158.out _; (with_reducible repeat (first | refine blk_drewN ?_ _ | refine blk_drew ?_ | refine blk_alloc ?_ _)); refine blk_far ?_ NB155_158.out _; (with_reducible repeat (first | refine blk_drewN ?_ _ | refine blk_drew ?_ | refine blk_alloc ?_ _)); refine blk_far ?_ NB155_158.out _; (with_reducible repeat (first | refine blk_drewN ?_ _ | refine blk_drew ?_ | refine blk_alloc ?_ _)); exact BK155.out⟩, ⟨by (with_reducible repeat (first | refine blk_drewN ?_ _ | refine blk_drew ?_ | refine blk_alloc ?_ _)); refine blk_put (cs := #[.int .i64 ((rd_T43 l1_2 t156).f0), .int .i64 ((rd_T43 l1_2 t156).f1), .int .i64 ((rd_T43 l1_2 t156).f2), .string ((rd_T43 l1_2 t156).f3), .slice none 0 0]) ?_ 4 _ rfl; (with_reducible repeat (first | refine blk_drewN ?_ _ | refine blk_drew ?_ | refine blk_alloc ?_ _)); refine blk_put (cs := #[.int .i64 ((rd_T43 l1_2 t156).f0), .int .i64 ((rd_T43 l1_2 t156).f1), .int .i64 ((rd_T43 l1_2 t156).f2), .string (⟨#[]⟩ : ByteArray), .slice none 0 0]) ?_ 3 _ rfl; (with_reducible repeat (first | refine blk_drewN ?_ _ | refine blk_drew ?_ | refine blk_alloc ?_ _)); refine blk_put (cs := #[.int .i64 ((rd_T43 l1_2 t156).f0), .int .i64 ((rd_T43 l1_2 t156).f1), .int .i64 0, .string (⟨#[]⟩ : ByteArray), .slice none 0 0]) ?_ 2 _ rfl; (with_reducible repeat (first | refine blk_drewN ?_ _ | refine blk_drew ?_ | refine blk_alloc ?_ _)); refine blk_put (cs := #[.int .i64 ((rd_T43 l1_2 t156).f0), .int .i64 0, .int .i64 0, .string (⟨#[]⟩ : ByteArray), .slice none 0 0]) ?_ 1 _ rfl; (with_reducible repeat (first | refine blk_drewN ?_ _ | refine blk_drew ?_ | refine blk_alloc ?_ _)); refine blk_put (cs := #[.int .i64 0, .int .i64 0, .int .i64 0, .string (⟨#[]⟩ : ByteArray), .slice none 0 0]) ?_ 0 _ rfl; (with_reducible repeat (first | refine blk_drewN ?_ _ | refine blk_drew ?_ | refine blk_alloc ?_ _)); exact BK158.out⟩, ⟨Xi⟩⟩
   ·have c33b0 : (((rd_T43 l0_2 t153).f1) == ((rd_T43 l1_2 t156).f1)) = false := beq_eq_false_iff_ne.mpr c33
    have c33b1 : (((rd_T43 l0_2 t153).f1) != ((rd_T43 l1_2 t156).f1)) = true := bne_iff_ne.mpr c33
    (first | rw [c33b0] | (simp only [i64_w, i32_w]; rw [c33b0]) | skip)
    have H' := Aside0.mk H
    clear H
    have hnb57 := NB155_151.out
    have hnc57 := NB151_155.out
    have hnb58 := NB155_152.out
    have hnc58 := NB152_155.out
    have hnb59 := NB155_158.out
    have hnc59 := NB158_155.out
    obtain ⟨hcz60_0, hcz60_1, hcz60_2, hcz60_3, hcz60_4⟩ := Xc5 BK155
    obtain ⟨hfz60_0, hfz60_1, hfz60_2, hfz60_3, hfz60_4⟩ := Xf5 BK155
    have hnb61 := NB158_151.out
    have hnc61 := NB151_158.out
    have hnb62 := NB158_152.out
    have hnc62 := NB152_158.out
    obtain ⟨hcz63_0, hcz63_1, hcz63_2, hcz63_3, hcz63_4⟩ := Xc5 BK158
    obtain ⟨hfz63_0, hfz63_1, hfz63_2, hfz63_3, hfz63_4⟩ := Xf5 BK158
    go_wp2
    go_meet
    case rel => exact ⟨_, (true), Xr, H', Xko, ⟨by (with_reducible repeat (first | refine blk_drewN ?_ _ | refine blk_drew ?_ | refine blk_alloc ?_ _)); refine blk_far ?_ NB151_158.out _; (with_reducible repeat (first | refine blk_drewN ?_ _ | refine blk_drew ?_ | refine blk_alloc ?_ _)); refine blk_far ?_ NB151_158.out _; (with_reducible repeat (first | refine blk_drewN ?_ _ | refine blk_drew ?_ | refine blk_alloc ?_ _)); refine blk_far ?_ NB151_158.out _; (with_reducible repeat (first | refine blk_drewN ?_ _ | refine blk_drew ?_ | refine blk_alloc ?_ _)); refine blk_far ?_ NB151_158.out _; (with_reducible repeat (first | refine blk_drewN ?_ _ | refine blk_drew ?_ | refine blk_alloc ?_ _)); refine blk_far ?_ NB151_158.out _; (with_reducible repeat (first | refine blk_drewN ?_ _ | refine blk_drew ?_ | refine blk_alloc ?_ _)); exact BK151.out⟩, ⟨by (with_reducible repeat (first | refine blk_drewN ?_ _ | refine blk_drew ?_ | refine blk_alloc ?_ _)); refine blk_far ?_ NB152_158.out _; (with_reducible repeat (first | refine blk_drewN ?_ _ | refine blk_drew ?_ | refine blk_alloc ?_ _)); refine blk_far ?_ NB152_158.out _; (with_reducible repeat (first | refine blk_drewN ?_ _ | refine blk_drew ?_ | refine blk_alloc ?_ _)); refine blk_far ?_ NB152_158.out _; (with_reducible repeat (first | refine blk_drewN ?_ _ | refine blk_drew ?_ | refine blk_alloc ?_ _)); refine blk_far ?_ NB152_158.out _; (with_reducible repeat (first | refine blk_drewN ?_ _ | refine blk_drew ?_ | refine blk_alloc ?_ _)); refine blk_far ?_ NB152_158.out _; (with_reducible repeat (first | refine blk_drewN ?_ _ | refine blk_drew ?_ | refine blk_alloc ?_ _)); exact BK152.out⟩, ⟨by (with_reducible repeat (first | refine blk_drewN ?_ _ | refine blk_drew ?_ | refine blk_alloc ?_ _)); refine blk_far ?_ NB155_158.out _; (with_reducible repeat (first | refine blk_drewN ?_ _ | refine blk_drew ?_ | refine blk_alloc ?_ _)); refine blk_far ?_ NB155_158.out _; (with_reducible repeat (first | refine blk_drewN ?_ _ | refine blk_drew ?_ | refine blk_alloc ?_ _)); refine blk_far ?_ NB155_158.out _; (with_reducible repeat (first | refine blk_drewN ?_ _ | refine blk_drew ?_ | refine blk_alloc ?_ _)); refine blk_far ?_ NB155_158.out _; (with_reducible repeat (first | refine blk_drewN ?_ _ | refine blk_drew ?_ | refine blk_alloc ?_ _)); refine blk_far ?_ NB155_158.out _; (with_reducible repeat (first | refine blk_drewN ?_ _ | refine blk_drew ?_ | refine blk_alloc ?_ _)); exact BK155.out⟩, ⟨by (with_reducible repeat (first | refine blk_drewN ?_ _ | refine blk_drew ?_ | refine blk_alloc ?_ _)); refine blk_put (cs := #[.int .i64 ((rd_T43 l1_2 t156).f0), .int .i64 ((rd_T43 l1_2 t156).f1), .int .i64 ((rd_T43 l1_2 t156).f2), .string ((rd_T43 l1_2 t156).f3), .slice none 0 0]) ?_ 4 _ rfl; (with_reducible repeat (first | refine blk_drewN ?_ _ | refine blk_drew ?_ | refine blk_alloc ?_ _)); refine blk_put (cs := #[.int .i64 ((rd_T43 l1_2 t156).f0), .int .i64 ((rd_T43 l1_2 t156).f1), .int .i64 ((rd_T43 l1_2 t156).f2), .string (⟨#[]⟩ : ByteArray), .slice none 0 0]) ?_ 3 _ rfl; (with_reducible repeat (first | refine blk_drewN ?_ _ | refine blk_drew ?_ | refine blk_alloc ?_ _)); refine blk_put (cs := #[.int .i64 ((rd_T43 l1_2 t156).f0), .int .i64 ((rd_T43 l1_2 t156).f1), .int .i64 0, .string (⟨#[]⟩ : ByteArray), .slice none 0 0]) ?_ 2 _ rfl; (with_reducible repeat (first | refine blk_drewN ?_ _ | refine blk_drew ?_ | refine blk_alloc ?_ _)); refine blk_put (cs := #[.int .i64 ((rd_T43 l1_2 t156).f0), .int .i64 0, .int .i64 0, .string (⟨#[]⟩ : ByteArray), .slice none 0 0]) ?_ 1 _ rfl; (with_reducible repeat (first | refine blk_drewN ?_ _ | refine blk_drew ?_ | refine blk_alloc ?_ _)); refine blk_put (cs := #[.int .i64 0, .int .i64 0, .int .i64 0, .string (⟨#[]⟩ : ByteArray), .slice none 0 0]) ?_ 0 _ rfl; (with_reducible repeat (first | refine blk_drewN ?_ _ | refine blk_drew ?_ | refine blk_alloc ?_ _)); exact BK158.out⟩, ⟨Xi⟩⟩
  case rest =>
   clear HC11
   (try clear c6); (try clear c7); (try clear hx157_0); (try clear hx157_1); (try clear hx157_2); (try clear hx157_3); (try clear hx157_4); (try clear p157); (try clear q157)
   obtain ⟨kq, x53_10, rfl, HA, HJ10, BK151, BK152, BK155, BK158, HB⟩ := hcut
   cases kq with
   | zero => cases HA.out
   | succ kj10 =>
    have H := HA.out
    clear HA
    simp only [spec_l02Like.j0] at H
    by_cases c64 : x53_10 = true
    ·subst c64
     (first | rw [if_pos rfl] at H | skip)
     obtain rfl := Option.some.inj H
     go_wp2
     go_ret
     exact ⟨Xe, Xi⟩
    ·replace c64 := Bool.eq_false_iff.mpr c64
     subst c64
     (first | rw [if_neg (show ¬ (false = true) by decide)] at H | skip)
     have H' := Aside0.mk H
     clear H
     go_wp2
     go_loopg [11] kj10 (fun kq v11 w' => ∃ (x11_2 : Int), v11 = .int .i64 x11_2 ∧ Aside0 (spec_l02Like.l0 kq x11_2 a0_0 a0_1 l0_2 a1_0 a1_1 l1_2 ((rd_T43 l0_2 t153).f0) ((rd_T43 l0_2 t153).f1) ((rd_T43 l0_2 t153).f2) ((rd_T43 l0_2 t153).f3) ((rd_T43 l0_2 t153).f4) ((rd_T43 l1_2 t156).f0) ((rd_T43 l1_2 t156).f1) ((rd_T43 l1_2 t156).f2) ((rd_T43 l1_2 t156).f3) ((rd_T43 l1_2 t156).f4) = some r) ∧ Aside0 (kq ≤ kj10) ∧ Aside0 (w'.heap[gb151]? = some (.cells #[.int .i64 a0_0, .int .i64 a0_1, (.slice (some ad154) l0_2.length c0_2)] 29 (0, 0))) ∧ Aside0 (w'.heap[gb152]? = some (.cells #[.int .i64 a1_0, .int .i64 a1_1, (.slice (some ad157) l1_2.length c1_2)] 29 (0, 0))) ∧ Aside0 (w'.heap[gb155]? = some (.cells #[.int .i64 ((rd_T43 l0_2 t153).f0), .int .i64 ((rd_T43 l0_2 t153).f1), .int .i64 ((rd_T43 l0_2 t153).f2), .string ((rd_T43 l0_2 t153).f3), (.slice A154_4 ((rd_T43 l0_2 t153).f4).length c154_4)] 43 (0, 0))) ∧ Aside0 (w'.heap[gb158]? = some (.cells #[.int .i64 ((rd_T43 l1_2 t156).f0), .int .i64 ((rd_T43 l1_2 t156).f1), .int .i64 ((rd_T43 l1_2 t156).f2), .string ((rd_T43 l1_2 t156).f3), (.slice A157_4 ((rd_T43 l1_2 t156).f4).length c157_4)] 43 (0, 0))) ∧ Aside0 (Below w.heap.size w w'))
     case atStart => exact ⟨(0), Xr, H', Xkr, BK151, BK152, BK155, BK158, ⟨Xi⟩⟩
     case round =>
      clear H'
      (try clear c6); (try clear c7); (try clear c64); (try clear hx157_0); (try clear hx157_1); (try clear hx157_2); (try clear hx157_3); (try clear hx157_4); (try clear p157); (try clear q157)
      obtain ⟨x11_2, rfl, HA, HK2, BK151, BK152, BK155, BK158, HB⟩ := hrel
      cases gk with
      | zero => cases HA.out
      | succ k2 =>
       have H := HA.out
       clear HA
       simp only [spec_l02Like.l0] at H
       obtain ⟨c65b0, H⟩ | ⟨c65b0, H⟩ := Xit H
       ·obtain ⟨c66b0, H⟩ := Xid H
        obtain ⟨c67b0, H⟩ := Xid H
        obtain ⟨t161, A68, H⟩ := Xbi H
        (try dsimp only at H)
        have HC69 := Aside0.mk H
        clear H
        have hnb70 := NB155_151.out
        have hnc70 := NB151_155.out
        have hnb71 := NB155_152.out
        have hnc71 := NB152_155.out
        have hnb72 := NB155_158.out
        have hnc72 := NB158_155.out
        obtain ⟨hcz73_0, hcz73_1, hcz73_2, hcz73_3, hcz73_4⟩ := Xc5 BK155
        obtain ⟨hfz73_0, hfz73_1, hfz73_2, hfz73_3, hfz73_4⟩ := Xf5 BK155
        try go_wp2_with (fail)
        replace BK151 := Aside0.mk (blk_drew BK151.out)
        replace BK152 := Aside0.mk (blk_drew BK152.out)
        replace BK155 := Aside0.mk (blk_drew BK155.out)
        replace BK158 := Aside0.mk (blk_drew BK158.out)
        replace HB := Aside0.mk (below_drew1 HB.out)
        have p159 : 0 ≤ (x11_2 : Int) := of_decide_eq_true Xa
        have q159 : x11_2 < (((rd_T43 l0_2 t153).f4).length : Int) := of_decide_eq_true Xa
        obtain ⟨ad159, e159, hx159_0⟩ := Kd.at_int HR154_4.out x11_2 p159 q159
        have hw159_0 := hx159_0
        cases e159
        replace hx159_0 := Xm HB hx159_0
        replace p159 := eq_true p159
        replace q159 := eq_true q159
        have p160 : 0 ≤ (x11_2 : Int) := of_decide_eq_true Xa
        have q160 : x11_2 < (((rd_T43 l1_2 t156).f4).length : Int) := of_decide_eq_true Xa
        obtain ⟨ad160, e160, hx160_0⟩ := Kd.at_int HR157_4.out x11_2 p160 q160
        have hw160_0 := hx160_0
        cases e160
        replace hx160_0 := Xm HB hx160_0
        replace p160 := eq_true p160
        replace q160 := eq_true q160
        refine start_ (n := 14) (S := fun w' => w'.cell? ⟨gb151, 0, none⟩ = some (.int .i64 a0_0) ∧ w'.cell? ⟨gb151, 1, none⟩ = some (.int .i64 a0_1) ∧ w'.cell? ⟨gb151, 2, none⟩ = some (.slice (some ad154) l0_2.length c0_2) ∧ w'.cell? ⟨gb152, 0, none⟩ = some (.int .i64 a1_0) ∧ w'.cell? ⟨gb152, 1, none⟩ = some (.int .i64 a1_1) ∧ w'.cell? ⟨gb152, 2, none⟩ = some (.slice (some ad157) l1_2.length c1_2) ∧ w'.cell? ⟨gb155, 0, none⟩ = some (.int .i64 ((rd_T43 l0_2 t153).f0)) ∧ w'.cell? ⟨gb155, 1, none⟩ = some (.int .i64 ((rd_T43 l0_2 t153).f1)) ∧ w'.cell? ⟨gb155, 2, none⟩ = some (.int .i64 ((rd_T43 l0_2 t153).f2)) ∧ w'.cell? ⟨gb155, 3, none⟩ = some (.string ((rd_T43 l0_2 t153).f3)) ∧ w'.cell? ⟨gb155, 4, none⟩ = some (.slice (some ad159) ((rd_T43 l0_2 t153).f4).length c154_4) ∧ w'.cell? ⟨gb158, 0, none⟩ = some (.int .i64 ((rd_T43 l1_2 t156).f0)) ∧ w'.cell? ⟨gb158, 1, none⟩ = some (.int .i64 ((rd_T43 l1_2 t156).f1)) ∧ w'.cell? ⟨gb158, 2, none⟩ = some (.int .i64 ((rd_T43 l1_2 t156).f2)) ∧ w'.cell? ⟨gb158, 3, none⟩ = some (.string ((rd_T43 l1_2 t156).f3)) ∧ w'.cell? ⟨gb158, 4, none⟩ = some (.slice (some ad160) ((rd_T43 l1_2 t156).f4).length c157_4) ∧ w'.cell? (ad159.add (x11_2).toNat) = some (.int .i64 (rd ((rd_T43 l0_2 t153).f4) x11_2)) ∧ w'.cell? (ad160.add (x11_2).toNat) = some (.int .i64 (rd ((rd_T43 l1_2 t156).f4) x11_2))) (ds := []) #[false, false, false, false, false, false, false, false, false, false, false, false, false, false] (by kernel_rfl) rfl rfl ⟨(blk_cell BK151.out 0).trans rfl, (blk_cell BK151.out 1).trans rfl, (blk_cell BK151.out 2).trans rfl, (blk_cell BK152.out 0).trans rfl, (blk_cell BK152.out 1).trans rfl, (blk_cell BK152.out 2).trans rfl, (blk_cell BK155.out 0).trans rfl, (blk_cell BK155.out 1).trans rfl, (blk_cell BK155.out 2).trans rfl, (blk_cell BK155.out 3).trans rfl, (blk_cell BK155.out 4).trans rfl, (blk_cell BK158.out 0).trans rfl, (blk_cell BK158.out 1).trans rfl, (blk_cell BK158.out 2).trans rfl, (blk_cell BK158.out 3).trans rfl, (blk_cell BK158.out 4).trans rfl, Xn hw159_0, Xn hw160_0⟩ (fun hHeld => ?_); refine with_tabW spec_l02Like.tab8 spec_l02Like.bits8 (fun HT_ HW_ => ?_)
        generalize wr.drew = w74 at BK151 BK152 BK155 BK158 HB hx159_0 hx160_0 hHeld ⊢
        refine Xpu 2 63 (XW.bs 14 4) HT_.out ?_
        refine Xpu 4 65 (XW.bs 14 20) HT_.out ?_
        refine Xpu 7 68 (XW.bs 14 148) HT_.out ?_
        refine Xpu 9 70 (XW.bs 14 660) HT_.out ?_
        refine Xta 0 61 (XW.bs 14 661) HT_.out HW_.out hHeld ?_
        refine Xta 1 62 (XW.bs 14 663) HT_.out HW_.out hHeld ?_
        refine Xta 3 64 (XW.bs 14 671) HT_.out HW_.out hHeld ?_
        refine Xpu 5 66 (XW.bs 14 703) HT_.out ?_
        refine Xta 6 67 (XW.bs 14 767) HT_.out HW_.out hHeld ?_
        refine Xta 8 69 (XW.bs 14 1023) HT_.out HW_.out hHeld ?_
        refine Xpu 10 71 (XW.bs 14 2047) HT_.out ?_
        refine Xta 11 72 (XW.bs 14 4095) HT_.out HW_.out hHeld ?_
        refine one_ (i := 12) (N := some 73) (XW.bs 14 8191) rfl rfl (one_of HT_.out (by kernel_rfl)) (by decide) (fun K hK => ?_)
        refine goes_ Try.func52 (by kernel_rfl) rfl #[.agg #[.int .i64 a0_0, .int .i64 a0_1, .slice (some ad154) l0_2.length c0_2], .agg #[.int .i64 a1_0, .int .i64 a1_1, .slice (some ad157) l1_2.length c1_2], .int .i64 (rd ((rd_T43 l0_2 t153).f4) x11_2), .int .i64 (rd ((rd_T43 l1_2 t156).f4) x11_2)] (by rfl) rfl rfl (by (try simp only [List.map_toArray, List.map_cons, List.map_nil]); first | done | rfl | (simp only [List.length_drop, List.length_take]; rfl)) ?_
        with_reducible refine (ih k2 (by have := HJ10.out; have := HK2.out; omega) a0_0 a0_1 _ _ l0_2 a1_0 a1_1 _ _ l1_2 (rd ((rd_T43 l0_2 t153).f4) x11_2) (rd ((rd_T43 l1_2 t156).f4) x11_2) t161 _ ?side1 ?side2 ?side3 ?side4 A68.out).mono ?_
        (case side1 => exact Xc HR0_2)
        (case side2 => exact HC0_2.out)
        (case side3 => exact Xc HR1_2)
        (case side4 => exact HC1_2.out)
        rintro e w75 ⟨rfl, hb⟩
        refine ⟨_, rfl, ?_⟩
        replace BK151 := Xbb BK151 hb
        replace BK152 := Xbb BK152 hb
        replace BK155 := Xbb BK155 hb
        replace BK158 := Xbb BK158 hb
        replace HB := Aside0.mk (below_step Xi hb)
        (try clear hb)
        (try clear hb2)
        (try clear hk)
        (try clear hi)
        refine hK.out _ _ ⟨(blk_cell BK151.out 0).trans rfl, (blk_cell BK151.out 1).trans rfl, (blk_cell BK151.out 2).trans rfl, (blk_cell BK152.out 0).trans rfl, (blk_cell BK152.out 1).trans rfl, (blk_cell BK152.out 2).trans rfl, (blk_cell BK155.out 0).trans rfl, (blk_cell BK155.out 1).trans rfl, (blk_cell BK155.out 2).trans rfl, (blk_cell BK155.out 3).trans rfl, (blk_cell BK155.out 4).trans rfl, (blk_cell BK158.out 0).trans rfl, (blk_cell BK158.out 1).trans rfl, (blk_cell BK158.out 2).trans rfl, (blk_cell BK158.out 3).trans rfl, (blk_cell BK158.out 4).trans rfl, Xn hw159_0, Xn hw160_0⟩ (fun hHeld => ?_)
        clear hK K
        refine Xno ?_
        refine Xpu 13 74 (XW.bs 14 16383) HT_.out ?_
        refine done_ (done_of HT_.out (by kernel_rfl)) ?_
        go_upto_if 74 with (fail)
        have H := HC69.out
        clear HC69
        by_cases c76 : t161 = true
        ·subst c76
         (first | rw [if_pos rfl] at H | skip)
         have H' := Aside0.mk H
         clear H
         go_wp2
         go_roundg k2
         case measure => have := HJ10.out; have := HK2.out; omega
         case rel => exact ⟨(wrap64 (x11_2 + 1)), Xr, H', ⟨by have := HJ10.out; have := HK2.out; omega⟩, BK151, BK152, BK155, BK158, ⟨Xi⟩⟩
        ·replace c76 := Bool.eq_false_iff.mpr c76
         subst c76
         (first | rw [if_neg (show ¬ (false = true) by decide)] at H | skip)
         obtain rfl := Option.some.inj H
         go_wp2
         go_ret
         exact ⟨Xe, Xi⟩
       ·obtain rfl := Option.some.inj H
        have hnb77 := NB155_151.out
        have hnc77 := NB151_155.out
        have hnb78 := NB155_152.out
        have hnc78 := NB152_155.out
        have hnb79 := NB155_158.out
        have hnc79 := NB158_155.out
        obtain ⟨hcz80_0, hcz80_1, hcz80_2, hcz80_3, hcz80_4⟩ := Xc5 BK155
        obtain ⟨hfz80_0, hfz80_1, hfz80_2, hfz80_3, hfz80_4⟩ := Xf5 BK155
        go_wp2
        go_ret
        exact ⟨Xe, Xi⟩
 ·exact absurd H (by simp)

end Go.Proofs.Ytpdhccdmbdbdpaa.XA
