/- Contracts of the program's functions: each Go function that is named below comes to what its Lean function says. Written by xprint.py (a program of this session's, over the kit's print). Conditions: each contract's own premises. -/
import Derived.Test.YthkbgbkglgmpoaaYCompileTerms0
import Derived.Test.YthkbgbkglgmpoaaYCompileTerms5
import Derived.Test.YthkbgbkglgmpoaaYCompileTerms6
namespace Go.Proofs.Ythkbgbkglgmpoaa.XA
open Go.RowKit Go.Proofs.YthkbgbkglgmpoaaW.PrintWords Go.Proofs.YthkbgbkglgmpoaaW.PrintLast Go.Proofs.YthkbgbkglgmpoaaW.PrintMore XW
attribute [local go_sem] max2_int min2_int max_two min_two max_three min_three max_four min_four   -- for this text's walks alone
set_option linter.unusedVariables false
set_option linter.unusedSimpArgs false

/-! ### impl_compile: function 48 -/
mutual
def impl_compile.l0 : Nat → List (S78) → List Int → Int → List (List Int) → List Bool → Option ((List (List Int)) × List Bool)
 | 0, _, _, _, _, _ => none
 | k + 1, x0, x4, x5, x253000, x253001 => if x5 < (x4.length : Int) then (if 8 ≤ 35184372088832 then ((some (List.replicate 8 0 : List Int)).bind fun y257 => (impl_compile.l1 k x0 x4 x5 y257 (y257.length : Int) 0 x253000 x253001)) else (none)) else (some (x253000, x253001))
def impl_compile.l1 : Nat → List (S78) → List Int → Int → List Int → Int → Int → List (List Int) → List Bool → Option ((List (List Int)) × List Bool)
 | 0, _, _, _, _, _, _, _, _ => none
 | k + 1, x0, x4, x5, x6, x20, x21, x253000, x253001 => if x21 < x20 then (if 0 ≤ x5 then (if x5 < (x4.length : Int) then ((impl_lead.f k x0 (rd x4 x5) (wrap64 (x21 + 1))).bind fun t269 => ((slices_Index_int_int.f k x4 t269).bind fun t270 => (if 0 ≤ x21 then (if x21 < (x6.length : Int) then ((some (x6.set (x21 : Int).toNat t270 : List Int)).bind fun y271 => (if t269 = 0 then (impl_compile.l1 k x0 x4 x5 (y271.set (x21 : Int).toNat (-1)) x20 (wrap64 (x21 + 1)) x253000 x253001) else (if (rd y271 x21) < 0 then (if x4.length < 17592186044416 then (impl_compile.l1 k x0 (x4 ++ [t269]) x5 (y271.set (x21 : Int).toNat (x4.length : Int)) x20 (wrap64 (x21 + 1)) x253000 x253001) else (none)) else (impl_compile.l1 k x0 x4 x5 y271 x20 (wrap64 (x21 + 1)) x253000 x253001)))) else (none)) else (none)))) else (none)) else (none)) else (if x253000.length < 5864062014805 then (if 0 ≤ x5 then (if x5 < (x4.length : Int) then ((impl_has.f (rd x4 x5) (wrap64 (2 * (x0.length : Int)))).bind fun t264 => (if x253001.length < 140737488355328 then (impl_compile.l0 k x0 x4 (wrap64 (x5 + 1)) (x253000 ++ [x6]) (x253001 ++ [t264])) else (none))) else (none)) else (none)) else (none))
end
def impl_compile.f (k : Nat) (l0 : List (S78)) : Option ((List (List Int)) × List Bool) := (impl_closed.f k l0 1).bind fun t253 => (impl_compile.l0 k l0 (([t253] : List Int)) 0 ([] : List (List Int)) ([] : List Bool))
def impl_compile.T19 : Bool × List (List Nat × List Nat) := (true, [([], []), ([0], [0]), ([], []), ([], []), ([2, 3], [2, 3]), ([4], [4]), ([], []), ([6], [6]), ([7], [7]), ([5, 8], [5, 8]), ([9], [9]), ([1, 10, 9], [1, 10]), ([0, 1, 2, 3, 4, 5, 6, 7, 8, 9, 10, 11], []), ([12, 11, 11, 0, 1, 2, 3, 4, 5, 6, 7, 8, 9, 10, 11], [11, 12])])
def impl_compile.B19 : List Nat := [0, 1, 0, 0, 12, 28, 0, 64, 192, 508, 1020, 2047, 4095, 8191]
theorem impl_compile.tab19 : rtab .any (opsOf Try.f48 19) = impl_compile.T19 := by kernel_rfl
theorem impl_compile.bits19 : waitsOk impl_compile.T19.2 impl_compile.B19 = true := by kernel_rfl
set_option maxHeartbeats 8000000 in
set_option maxRecDepth 100000 in
theorem impl_compile.calls (k : Nat) (A0 : Option Addr) (c0 : Nat) (l0 : List (S78)) (r1 : List (List Int)) (r2 : List Bool) (w : World) (hr0 : Kd.C k78 w A0 l0.length l0) (hc0 : l0.length ≤ c0) (h : impl_compile.f k l0 = some (r1, r2)) :
  Calls Try.prog 48 #[.slice A0 l0.length c0] w fun e w' => ∃ v0_ v1_ : Value, e = .returned (.agg #[v0_, v1_]) ∧ Kd.S (Kd.slice 3 (Kd.int .i64)) 39 w' w.heap.size (fun _ => True) v0_ r1 ∧ Kd.R Kd.bool 4 w' w.heap.size (fun _ => True) v1_ r2 ∧ Below w.heap.size w w' := by
 have hu27 := Try.underlying27
 have HR0 := Aside0.mk hr0
 have HC0 := Aside0.mk hc0
 clear hr0 hc0
 have HB := Aside0.mk (Below.refl w.heap.size w)
 have H : ((impl_closed.f k l0 1).bind fun t253 => (impl_compile.l0 k l0 (([t253] : List Int)) 0 ([] : List (List Int)) ([] : List Bool))) = some (r1, r2) := h
 clear h
 obtain ⟨t253, A2, H⟩ := Xbi H
 (try dsimp only at H)
 obtain ⟨y254, hy254⟩ : ∃ y_ : List Int, y_ = (([t253] : List Int)) := ⟨_, rfl⟩
 replace H : (impl_compile.l0 k l0 y254 0 ([] : List (List Int)) ([] : List Bool)) = some (r1, r2) := by first | (rw [hy254]; with_reducible exact H) | (have H2_ := (Option.bind_some _ _).symm.trans H; rw [hy254]; with_reducible exact H2_) | (have H2_ := (Option.bind_some _ _).symm.trans H; with_reducible exact H2_) | with_reducible exact H | (rw [hy254]; exact H) | exact H
 have Ny254 := Aside0.mk hy254
 clear hy254
 have H' := Aside0.mk H
 clear H
 go_enter Try.func48, Try.ntmps48
 go_wp2_with (first | ((with_reducible refine gate_dst (N := 2) rfl ?_); refine Xbox 2 #[.slice none 0 0, .slice none 0 0] 27 ?_; intro gb251 hg w3 hbox hb; have BK251 := Aside0.mk (hbox); have GE251 := Xge hg Xi; replace HB := Aside0.mk (below_step Xi hb); clear hb hbox hg) | ((with_reducible refine gate_dst (N := 3) rfl ?_); refine Xbox 3 #[.slice none 0 0, .slice none 0 0] 27 ?_; intro gb252 hg w4 hbox hb; have BK252 := Aside0.mk (hbox); have GE252 := Xge hg Xi; replace HB := Aside0.mk (below_step Xi hb); have NB251_252 := Xnb hg BK251; have NB252_251 := Xns NB251_252; replace BK251 := Xbb BK251 hb; clear hb hbox hg) | ((with_reducible refine gate_callee (f := 101) rfl ?_); refine Xgo 10 Try.func101 #[.slice A0 l0.length c0, .int .i64 1] ?_; (with_reducible refine (impl_closed.calls k _ _ l0 1 t253 _ ?side1 ?side2 A2.out).mono ?_); (case side1 => exact Xc HR0); (case side2 => exact HC0.out); rintro e w5 ⟨rfl, hb⟩; refine ⟨_, rfl, ?_⟩; replace BK251 := Xbb BK251 hb; replace BK252 := Xbb BK252 hb; replace HB := Aside0.mk (below_step Xi hb); clear hb) | ((with_reducible refine gate_dst (N := 11) rfl ?_); refine Kd.R_lit (Kd.int .i64) _ 3 ?hg (N := 11) ?hd (xs := ([t253] : List Int)) (inner := [.int .i64 t253]) (ok := fun _ => True) (okp := fun _ => True) ?hr ?hp (fun _ hk => hk) trivial (Below.refl _ _) (Nat.le_refl _) (by simp) ?_; (case hd => rfl); (case hg => rfl); (case hr => first | (go_simp; done) | (go_simp; rfl)); (case hp => exact (Reps.one (show Kd.M (Kd.int .i64) _ _ _ t253 [.int .i64 t253] from rfl) (Reps.none _ _))); intro v255 w6 ho7 hb hg_ hnew_; clear hg_ hnew_; (first | rw [← Ny254.out] at ho7 | (simp only [Int.reduceToNat] at ho7; rw [← Ny254.out] at ho7)); have HO256 := Aside0.mk (Kd.R_lower ho7 (below_size Xi)); replace BK251 := Xbb BK251 hb; replace BK252 := Xbb BK252 hb; replace HB := Aside0.mk (below_step Xi hb); clear hb ho7))
 go_loopg [4, 5] k (fun kq v4 v5 w' => ∃ (x4_1 : List Int) (x5_1 : Int) (x253000_1 : List (List Int)) (x253001_1 : List Bool) (u253000 : Value) (u253001 : Value), v5 = .int .i64 x5_1 ∧ Aside0 (impl_compile.l0 kq l0 x4_1 x5_1 x253000_1 x253001_1 = some (r1, r2)) ∧ Aside0 (kq ≤ k) ∧ Aside0 (Kd.R (Kd.int .i64) 3 w' w.heap.size (fun _ => True) v4 x4_1) ∧ Aside0 (Kd.S (Kd.slice 3 (Kd.int .i64)) 39 w' w.heap.size (fun k_ => some k_ ≠ (v4 : Value).ownBlock) u253000 x253000_1) ∧ Aside0 (Kd.R Kd.bool 4 w' w.heap.size (fun _ => True) u253001 x253001_1) ∧ Aside0 (w'.heap[gb251]? = some (.cells #[(.slice none 0 0), (.slice none 0 0)] 27 (0, 0))) ∧ Aside0 (w'.heap[gb252]? = some (.cells #[u253000, u253001] 27 (0, 0))) ∧ Aside0 (Below w.heap.size w w'))
 case atStart => exact ⟨(y254), (0), (([] : List (List Int))), (([] : List Bool)), (.slice none 0 0), (.slice none 0 0), Xr, H', Xkr, (Xp' HO256), ⟨by first | exact Kd.S_nil _ _ _ _ _ | exact Kd.N_nil _ _ _ _ _ | exact Kd.V_nil _ _ _ _ _ | exact Kd.Q_nil _ _ _ _ _ | exact Kd.R_nil _ _ _ _ _⟩, ⟨by first | exact Kd.R_nil _ _ _ _ _ | exact Kd.N_nil _ _ _ _ _ | exact Kd.V_nil _ _ _ _ _ | exact Kd.Q_nil _ _ _ _ _ | exact Kd.S_nil _ _ _ _ _⟩, (Xp BK251), (Xp BK252), ⟨Xi⟩⟩
 case round =>
  clear H'
  obtain ⟨x4_1, x5_1, x253000_1, x253001_1, u253000, u253001, rfl, HA, HK1, HO_4, HO_253000, HO_253001, BK251, BK252, HB⟩ := hrel
  cases gk with
  | zero => cases HA.out
  | succ k1 =>
   have H := HA.out
   clear HA
   simp only [impl_compile.l0] at H
   obtain ⟨c8b0, H⟩ | ⟨c8b0, H⟩ := Xit H
   ·obtain ⟨c9, H⟩ := Xif H
    have c9b0 := eq_true c9
    have c9b1 : decide (8 ≤ 35184372088832) = true := decide_eq_true c9
    clear c9
    obtain ⟨y257, hy257⟩ : ∃ y_ : List Int, y_ = (List.replicate 8 0) := ⟨_, rfl⟩
    replace H : (impl_compile.l1 k1 l0 x4_1 x5_1 y257 (y257.length : Int) 0 x253000_1 x253001_1) = some (r1, r2) := by first | (rw [hy257]; with_reducible exact H) | (have H2_ := (Option.bind_some _ _).symm.trans H; rw [hy257]; with_reducible exact H2_) | (have H2_ := (Option.bind_some _ _).symm.trans H; with_reducible exact H2_) | with_reducible exact H | (rw [hy257]; exact H) | exact H
    have Ny257 := Aside0.mk hy257
    clear hy257
    have H' := Aside0.mk H
    clear H
    obtain ⟨Ao10, co10, eo10⟩ := Kd.R_slice HO_4.out
    subst eo10
    go_wp2_with (first | ((with_reducible refine gate_dst (N := 18) rfl ?_); refine Kd.R_make (Kd.int .i64) _ 3 rfl (N := 18) rfl 39 _ _ rfl 8 rfl rfl Try.underlying39 (.int .i64 0) 8 info3 rfl (by decide) (by omega) 0 (ok := fun _ => True) (okp := fun _ => True) rfl (fun _ hk => hk) trivial (by omega) (by omega) (Below.refl _ _) (Nat.le_refl _) ?_; intro v258 w11 ho12 hb hg_ hnew_; clear hg_ hnew_; (first | rw [← Ny257.out] at ho12 | (simp only [Int.reduceToNat] at ho12; rw [← Ny257.out] at ho12)); replace HO_253000 := Aside0.mk (Kd.S_elder' (Xq HO_253000) (Kd.R_base ho12) hb); replace HO_253001 := Aside0.mk (Kd.R_below (Xq HO_253001) hb); have HO259 := Aside0.mk (Kd.R_lower (Kd.R_new' ho12 (Kd.R_lt (Xq HO_4))) (below_size Xi)); replace HO_4 := Aside0.mk (Kd.R_elder' (Xq HO_4) (Kd.R_base ho12) hb); replace BK251 := Xbb BK251 hb; replace BK252 := Xbb BK252 hb; replace HB := Aside0.mk (below_step Xi hb); clear hb ho12; obtain ⟨Ao13, co13, eo13⟩ := Kd.R_slice HO259.out; subst eo13))
    go_loopg [4, 21] k1 (fun kq v4 v21 w' => ∃ (x4_2 : List Int) (x6_2 : List Int) (x21_2 : Int), v21 = .int .i64 x21_2 ∧ Aside0 (impl_compile.l1 kq l0 x4_2 x5_1 x6_2 (y257.length : Int) x21_2 x253000_1 x253001_1 = some (r1, r2)) ∧ Aside0 (kq ≤ k1) ∧ Aside0 (Kd.R (Kd.int .i64) 3 w' w.heap.size (fun k_ => some k_ ≠ ((.slice Ao13 y257.length co13) : Value).ownBlock) v4 x4_2) ∧ Aside0 (Kd.R (Kd.int .i64) 3 w' w.heap.size (fun k_ => some k_ ≠ (v4 : Value).ownBlock) (.slice Ao13 y257.length co13) x6_2) ∧ Aside0 (Kd.S (Kd.slice 3 (Kd.int .i64)) 39 w' w.heap.size (fun k_ => some k_ ≠ (v4 : Value).ownBlock ∧ some k_ ≠ ((.slice Ao13 y257.length co13) : Value).ownBlock) u253000 x253000_1) ∧ Aside0 (Kd.R Kd.bool 4 w' w.heap.size (fun _ => True) u253001 x253001_1) ∧ Aside0 (w'.heap[gb251]? = some (.cells #[(.slice none 0 0), (.slice none 0 0)] 27 (0, 0))) ∧ Aside0 (w'.heap[gb252]? = some (.cells #[u253000, u253001] 27 (0, 0))) ∧ Aside0 (Below w.heap.size w w'))
    case atStart => exact ⟨(x4_1), (y257), (0), Xr, H', Xkr, ⟨by (with_reducible repeat (first | apply Kd.R_alloc | apply Kd.R_drewN | apply Kd.R_drew)); exact Kd.R_mono HO_4.out (fun _ hk => hk.2)⟩, ⟨by (with_reducible repeat (first | apply Kd.R_alloc | apply Kd.R_drewN | apply Kd.R_drew)); exact Kd.R_mono HO259.out (fun _ hk => hk.2)⟩, (Xp' HO_253000), (Xp' HO_253001), (Xp BK251), (Xp BK252), ⟨Xi⟩⟩
    case round =>
     clear H'
     (try clear c8); (try clear c8b0); (try clear c9); (try clear c9b0); (try clear c9b1)
     obtain ⟨x4_2, x6_2, x21_2, rfl, HA, HK2, HO_4, HO_6, HO_253000, HO_253001, BK251, BK252, HB⟩ := hrel
     have hl6_2 := (Kd.R_reads' HO_6.out).1
     rw [hl6_2] at HO_6
     (try simp only [hl6_2])
     (try simp only [hl6_2] at BK251)
     (try simp only [hl6_2] at BK252)
     (try simp only [hl6_2] at HO_4)
     (try simp only [hl6_2] at HO_253000)
     (try simp only [hl6_2] at HO_253001)
     cases gk with
     | zero => cases HA.out
     | succ k2 =>
      have H := HA.out
      clear HA
      simp only [impl_compile.l1] at H
      obtain ⟨c14b0, H⟩ | ⟨c14b0, H⟩ := Xit H
      ·(try simp only [hl6_2] at c14b0)
       obtain ⟨c15b0, H⟩ := Xid H
       obtain ⟨c16b0, H⟩ := Xid H
       obtain ⟨t269, A17, H⟩ := Xbi H
       (try dsimp only at H)
       obtain ⟨t270, A18, H⟩ := Xbi H
       (try dsimp only at H)
       obtain ⟨c19b0, H⟩ := Xid H
       obtain ⟨c20b0, H⟩ := Xid H
       obtain ⟨y271, hy271⟩ : ∃ y_ : List Int, y_ = (x6_2.set (x21_2 : Int).toNat t270) := ⟨_, rfl⟩
       replace H : (if t269 = 0 then (impl_compile.l1 k2 l0 x4_2 x5_1 (y271.set (x21_2 : Int).toNat (-1)) (y257.length : Int) (wrap64 (x21_2 + 1)) x253000_1 x253001_1) else (if (rd y271 x21_2) < 0 then (if x4_2.length < 17592186044416 then (impl_compile.l1 k2 l0 (x4_2 ++ [t269]) x5_1 (y271.set (x21_2 : Int).toNat (x4_2.length : Int)) (y257.length : Int) (wrap64 (x21_2 + 1)) x253000_1 x253001_1) else (none)) else (impl_compile.l1 k2 l0 x4_2 x5_1 y271 (y257.length : Int) (wrap64 (x21_2 + 1)) x253000_1 x253001_1))) = some (r1, r2) := by first | (rw [hy271]; with_reducible exact H) | (have H2_ := (Option.bind_some _ _).symm.trans H; rw [hy271]; with_reducible exact H2_) | (have H2_ := (Option.bind_some _ _).symm.trans H; with_reducible exact H2_) | with_reducible exact H | (rw [hy271]; exact H) | exact H
       have Ny271 := Aside0.mk hy271
       clear hy271
       have HC22 := Aside0.mk H
       clear H
       obtain ⟨Ao23, co23, eo23⟩ := Kd.R_slice HO_4.out
       subst eo23
       have p268 : 0 ≤ (x5_1 : Int) := of_decide_eq_true Xa
       have q268 : x5_1 < (x4_2.length : Int) := of_decide_eq_true Xa
       obtain ⟨ad268, e268, hx268_0⟩ := Kd.at_int (Kd.R_reads' HO_4.out).2.2 x5_1 p268 q268
       cases e268
       replace p268 := eq_true p268
       replace q268 := eq_true q268
       go_upto_if 39 with (first | ((with_reducible refine gate_callee (f := 102) rfl ?_); refine Xgo 31 Try.func102 #[.slice A0 l0.length c0, .int .i64 (rd x4_2 x5_1), .int .i64 (wrap64 (x21_2 + 1))] ?_; (with_reducible refine (impl_lead.calls k2 _ _ l0 (rd x4_2 x5_1) (wrap64 (x21_2 + 1)) t269 _ ?side1 ?side2 A17.out).mono ?_); (case side1 => exact Xc HR0); (case side2 => exact HC0.out); rintro e w24 ⟨rfl, hb⟩; refine ⟨_, rfl, ?_⟩; replace HO_4 := Aside0.mk (Kd.R_below (Xq HO_4) hb); replace HO_6 := Aside0.mk (Kd.R_below (Xq HO_6) hb); replace HO_253000 := Aside0.mk (Kd.S_below (Xq HO_253000) hb); replace HO_253001 := Aside0.mk (Kd.R_below (Xq HO_253001) hb); replace BK251 := Xbb BK251 hb; replace BK252 := Xbb BK252 hb; replace HB := Aside0.mk (below_step Xi hb); clear hb) | ((with_reducible refine gate_callee (f := 103) rfl ?_); refine Xgo 36 Try.func103 #[.slice (some ad268) x4_2.length co23, .int .i64 t269] ?_; (with_reducible refine (slices_Index_int_int.calls k2 _ _ x4_2 t269 t270 _ ?side1 ?side2 A18.out).mono ?_); (case side1 => repeat (first | exact (Kd.R_reads' HO_4.out).2.2 | (with_reducible first | refine Kd.C_alloc ?_ _ | refine Kd.C_drewN ?_ _ | refine Kd.C_drew ?_))); (case side2 => exact (Kd.R_reads' HO_4.out).2.1); rintro e w' ⟨rfl, ⟨nd, rfl⟩⟩; refine ⟨_, rfl, ?_⟩; (try (rw [drewN_self w24]; generalize hq_ : World.drewN w24 _ = w24; have n0_ : Aside0 (Kd.S (Kd.slice 3 (Kd.int .i64)) 39 w24 w.heap.size (fun k_ => some k_ ≠ (.slice (some ad268) x4_2.length co23 : Value).ownBlock ∧ some k_ ≠ (.slice Ao13 x6_2.length co13 : Value).ownBlock) u253000 x253000_1) := ⟨by rw [← hq_]; exact (Xq HO_253000)⟩; have n1_ : Aside0 (Kd.R Kd.bool 4 w24 w.heap.size (fun _ => True) u253001 x253001_1) := ⟨by rw [← hq_]; exact (Xq HO_253001)⟩; have n2_ : Aside0 (Kd.R (Kd.int .i64) 3 w24 w.heap.size (fun k_ => some k_ ≠ (.slice Ao13 x6_2.length co13 : Value).ownBlock) (.slice (some ad268) x4_2.length co23) x4_2) := ⟨by rw [← hq_]; exact (Xq HO_4)⟩; have n3_ : Aside0 (Kd.R (Kd.int .i64) 3 w24 w.heap.size (fun k_ => some k_ ≠ (.slice (some ad268) x4_2.length co23 : Value).ownBlock) (.slice Ao13 x6_2.length co13) x6_2) := ⟨by rw [← hq_]; exact (Xq HO_6)⟩; have n4_ : Aside0 (w24.heap[gb251]? = some (.cells #[.slice none 0 0, .slice none 0 0] 27 (0, 0))) := ⟨by rw [← hq_]; exact (Xq' BK251)⟩; have n5_ : Aside0 (w24.heap[gb252]? = some (.cells #[u253000, u253001] 27 (0, 0))) := ⟨by rw [← hq_]; exact (Xq' BK252)⟩; have n6_ : Aside0 (Below w.heap.size w w24) := ⟨by rw [← hq_]; exact Xi⟩; clear HO_253000 HO_253001 HO_4 HO_6 BK251 BK252 HB hq_; have HO_253000 := n0_; have HO_253001 := n1_; have HO_4 := n2_; have HO_6 := n3_; have BK251 := n4_; have BK252 := n5_; have HB := n6_; clear n0_ n1_ n2_ n3_ n4_ n5_ n6_)); have p21 : 0 ≤ (x21_2 : Int) := of_decide_eq_true Xa; have q21 : (x21_2 : Int) < ((x6_2.length : Int) : Int) := of_decide_eq_true Xa; obtain ⟨go21, co21, eo21, gb21, gl21, cl21, HG21⟩ := Kd.R_form HO_6.out (by omega); (first | cases eo21 | (injection eo21 with ea_ en_ ec_; (first | subst ea_ | (injection ea_ with ea_; subst ea_)); subst ec_; clear en_)); have GB21 := Aside0.mk gb21; have GG21 := Aside0.mk HG21; clear gb21 gl21 HG21; obtain ⟨hx21_0, hf21_0⟩ := Kd.R_celln 0 HO_6.out (x21_2 : Int) p21 q21; replace p21 := eq_true p21; replace q21 := eq_true q21; obtain ⟨hy25_, hz25_⟩ := Kd.R_celln 0 HO_6.out (x21_2 : Int) (of_decide_eq_true Xa) (of_decide_eq_true Xa); have HP25 := Kd.R_putg HO_6.out (x21_2 : Int) t270) | ((with_reducible refine gate_store (t := 3) (p := 37) rfl ?_); refine store_event (t := 3) (p := 37) (v := ?vo_w26) (w1 := (w24.setCell ⟨go21, (x21_2 : Int).toNat, none⟩ (.int .i64 t270))) ?hg ?ho ?hn ?hr ?_; (case ho => rfl); (case hg => rfl); (case hn => rfl); (case hr => first | (go_simp; done) | (go_simp; rfl)); intro w26 hw; have hg : w24.grownBy w26 (some go21) := (by rw [hw]; exact HP25.2); have hp_ : Kd.R (Kd.int .i64) 3 w26 w.heap.size (fun k_ => some k_ ≠ (.slice (some ad268) x4_2.length co23 : Value).ownBlock) (.slice (some ⟨go21, 0, none⟩) x6_2.length co13) y271 := (by rw [hw, Ny271.out]; exact HP25.1); clear HP25; replace HO_4 := Aside0.mk (Kd.R_after (v := (.slice (some ⟨go21, 0, none⟩) x6_2.length co13)) (v1 := (.slice (some ⟨go21, 0, none⟩) x6_2.length co13)) (ok := (fun _ => True)) (by (with_reducible repeat (first | apply Kd.R_alloc | apply Kd.R_drewN | apply Kd.R_drew)); exact Kd.R_mono HO_4.out (fun _ hk => ⟨trivial, hk⟩)) hg (.inl rfl)); replace HO_253000 := Aside0.mk (Kd.S_after (v := (.slice (some ⟨go21, 0, none⟩) x6_2.length co13)) (v1 := (.slice (some ⟨go21, 0, none⟩) x6_2.length co13)) (ok := (fun k_ => some k_ ≠ (.slice (some ad268) x4_2.length co23 : Value).ownBlock)) (Xq HO_253000) hg (.inl rfl)); replace HO_253001 := Aside0.mk (Kd.R_over' (v := (.slice (some ⟨go21, 0, none⟩) x6_2.length co13)) (Xq HO_253001) (Kd.R_typed HO_6.out) (by decide) hg); replace BK251 := Aside0.mk (blk_grown (g := gb251) (o := .cells #[.slice none 0 0, .slice none 0 0] 27 (0, 0)) (Xq' BK251) hg (Kd.R_ne HO_6.out BK251.out (by decide))); replace BK252 := Aside0.mk (blk_grown (g := gb252) (o := .cells #[u253000, u253001] 27 (0, 0)) (Xq' BK252) hg (Kd.R_ne HO_6.out BK252.out (by decide))); replace HO_6 := Aside0.mk (hp_); replace HB := Aside0.mk ((by rw [hw]; exact below_set (HB.out) GB21.out : Below w.heap.size w w26)); clear hg hw hp_))
       have H := HC22.out
       clear HC22
       obtain ⟨c27, H⟩ | ⟨c27, H⟩ := Xiu H
       ·have c27b0 : (t269 == 0) = true := beq_iff_eq.mpr c27
        have c27b1 : (t269 != 0) = false := bne_eq_false_iff_eq.mpr c27
        clear c27
        (first | rw [c27b0] | (simp only [i64_w, i32_w]; rw [c27b0]) | skip)
        obtain ⟨y272, hy272⟩ : ∃ y_ : List Int, y_ = (y271.set (x21_2 : Int).toNat (-1)) := ⟨_, rfl⟩
        replace H : (impl_compile.l1 k2 l0 x4_2 x5_1 y272 (y257.length : Int) (wrap64 (x21_2 + 1)) x253000_1 x253001_1) = some (r1, r2) := by first | (rw [hy272]; with_reducible exact H) | (have H2_ := (Option.bind_some _ _).symm.trans H; rw [hy272]; with_reducible exact H2_) | (have H2_ := (Option.bind_some _ _).symm.trans H; with_reducible exact H2_) | with_reducible exact H | (rw [hy272]; exact H) | exact H
        have Ny272 := Aside0.mk hy272
        clear hy272
        have H' := Aside0.mk H
        clear H
        have p28 : 0 ≤ (x21_2 : Int) := of_decide_eq_true Xa
        have q28 : (x21_2 : Int) < ((x6_2.length : Int) : Int) := of_decide_eq_true Xa
        obtain ⟨hx28_0, hf28_0⟩ := Kd.R_celln 0 HO_6.out (x21_2 : Int) p28 q28
        replace p28 := eq_true p28
        replace q28 := eq_true q28
        have HP29 := Kd.R_putg HO_6.out (x21_2 : Int) (-1)
        go_wp2_with (first | ((with_reducible refine gate_store (t := 3) (p := 42) rfl ?_); refine store_event (t := 3) (p := 42) (v := ?vo_w30) (w1 := (w26.setCell ⟨go21, (x21_2 : Int).toNat, none⟩ (.int .i64 (-1)))) ?hg ?ho ?hn ?hr ?_; (case ho => rfl); (case hg => rfl); (case hn => rfl); (case hr => first | (go_simp; done) | (go_simp; rfl)); intro w30 hw; have hg : w26.grownBy w30 (some go21) := (by rw [hw]; exact HP29.2); have hp_ : Kd.R (Kd.int .i64) 3 w30 w.heap.size (fun k_ => some k_ ≠ (.slice (some ad268) x4_2.length co23 : Value).ownBlock) (.slice (some ⟨go21, 0, none⟩) x6_2.length co13) y272 := (by rw [hw, Ny272.out]; exact HP29.1); clear HP29; replace HO_4 := Aside0.mk (Kd.R_after (v := (.slice (some ⟨go21, 0, none⟩) x6_2.length co13)) (v1 := (.slice (some ⟨go21, 0, none⟩) x6_2.length co13)) (ok := (fun _ => True)) (Xq HO_4) hg (.inl rfl)); replace HO_253000 := Aside0.mk (Kd.S_after (v := (.slice (some ⟨go21, 0, none⟩) x6_2.length co13)) (v1 := (.slice (some ⟨go21, 0, none⟩) x6_2.length co13)) (ok := (fun k_ => some k_ ≠ (.slice (some ad268) x4_2.length co23 : Value).ownBlock)) (Xq HO_253000) hg (.inl rfl)); replace HO_253001 := Aside0.mk (Kd.R_over' (v := (.slice (some ⟨go21, 0, none⟩) x6_2.length co13)) (Xq HO_253001) (Kd.R_typed HO_6.out) (by decide) hg); replace BK251 := Aside0.mk (blk_grown (g := gb251) (o := .cells #[.slice none 0 0, .slice none 0 0] 27 (0, 0)) (Xq' BK251) hg (Kd.R_ne HO_6.out BK251.out (by decide))); replace BK252 := Aside0.mk (blk_grown (g := gb252) (o := .cells #[u253000, u253001] 27 (0, 0)) (Xq' BK252) hg (Kd.R_ne HO_6.out BK252.out (by decide))); replace HO_6 := Aside0.mk (hp_); replace HB := Aside0.mk ((by rw [hw]; exact below_set (HB.out) GB21.out : Below w.heap.size w w30)); clear hg hw hp_))
        (try simp only [← hl6_2])
        go_roundg k2
        case measure => have := HK1.out; have := HK2.out; omega
        case rel => exact ⟨(x4_2), (y272), (wrap64 (x21_2 + 1)), Xr, H', ⟨by have := HK1.out; have := HK2.out; omega⟩, ⟨by (try simp only [hl6_2]); (with_reducible repeat (first | apply Kd.R_alloc | apply Kd.R_drewN | apply Kd.R_drew)); exact Kd.R_mono HO_4.out (fun _ hk => hk.2)⟩, ⟨by (try simp only [hl6_2]); (with_reducible repeat (first | apply Kd.R_alloc | apply Kd.R_drewN | apply Kd.R_drew)); exact HO_6.out⟩, ⟨by (try simp only [hl6_2]); (with_reducible repeat (first | apply Kd.S_alloc | apply Kd.S_drewN | apply Kd.S_drew)); exact HO_253000.out⟩, ⟨by (try simp only [hl6_2]); (with_reducible repeat (first | apply Kd.R_alloc | apply Kd.R_drewN | apply Kd.R_drew)); exact HO_253001.out⟩, ⟨by (try simp only [hl6_2]); (with_reducible repeat (first | refine blk_drewN ?_ _ | refine blk_drew ?_ | refine blk_alloc ?_ _)); exact BK251.out⟩, ⟨by (try simp only [hl6_2]); (with_reducible repeat (first | refine blk_drewN ?_ _ | refine blk_drew ?_ | refine blk_alloc ?_ _)); exact BK252.out⟩, ⟨Xi⟩⟩
       ·have c27b0 : (t269 == 0) = false := beq_eq_false_iff_ne.mpr c27
        have c27b1 : (t269 != 0) = true := bne_iff_ne.mpr c27
        (first | rw [c27b0] | (simp only [i64_w, i32_w]; rw [c27b0]) | skip)
        obtain ⟨c31b0, H⟩ | ⟨c31b0, H⟩ := Xit H
        ·obtain ⟨y274, hy274⟩ : ∃ y_ : List Int, y_ = (y271.set (x21_2 : Int).toNat (x4_2.length : Int)) := ⟨_, rfl⟩
         replace H : (if x4_2.length < 17592186044416 then (impl_compile.l1 k2 l0 (x4_2 ++ [t269]) x5_1 y274 (y257.length : Int) (wrap64 (x21_2 + 1)) x253000_1 x253001_1) else (none)) = some (r1, r2) := by first | (rw [hy274]; with_reducible exact H) | (have H2_ := (Option.bind_some _ _).symm.trans H; rw [hy274]; with_reducible exact H2_) | (have H2_ := (Option.bind_some _ _).symm.trans H; with_reducible exact H2_) | with_reducible exact H | (rw [hy274]; exact H) | exact H
         have Ny274 := Aside0.mk hy274
         clear hy274
         obtain ⟨c33, H⟩ := Xif H
         have LMc33 := Aside0.mk c33
         clear c33
         obtain ⟨y275, hy275⟩ : ∃ y_ : List Int, y_ = (x4_2 ++ [t269]) := ⟨_, rfl⟩
         replace H : (impl_compile.l1 k2 l0 y275 x5_1 y274 (y257.length : Int) (wrap64 (x21_2 + 1)) x253000_1 x253001_1) = some (r1, r2) := by first | (rw [hy275]; with_reducible exact H) | (have H2_ := (Option.bind_some _ _).symm.trans H; rw [hy275]; with_reducible exact H2_) | (have H2_ := (Option.bind_some _ _).symm.trans H; with_reducible exact H2_) | with_reducible exact H | (rw [hy275]; exact H) | exact H
         have Ny275 := Aside0.mk hy275
         clear hy275
         have H' := Aside0.mk H
         clear H
         have p273 : 0 ≤ (x21_2 : Int) := of_decide_eq_true Xa
         have q273 : x21_2 < (y271.length : Int) := (by have h_ : (x21_2 : Int) < ((x6_2.length : Int) : Int) := of_decide_eq_true Xa; first | (have e_ := (Kd.R_reads' HO_6.out).1; omega) | simpa only [Ny271.out, List.length_set] using h_)
         have ql273 : ((x21_2 : Int) < ((x6_2.length : Int) : Int)) = True := eq_true (of_decide_eq_true Xa)
         obtain ⟨ad273, e273, hx273_0⟩ := Kd.at_int (Kd.R_reads' HO_6.out).2.2 x21_2 p273 q273
         obtain rfl : (⟨go21, 0, none⟩ : Addr) = ad273 := (by injection e273)
         (first | simp only [add_plain] at hx273_0 | simp only [add_at] at hx273_0 | simp only [Addr.add, Nat.zero_add] at hx273_0 | skip)
         replace p273 := eq_true p273
         replace q273 := eq_true q273
         have p32 : 0 ≤ (x21_2 : Int) := of_decide_eq_true Xa
         have q32 : (x21_2 : Int) < ((x6_2.length : Int) : Int) := of_decide_eq_true Xa
         obtain ⟨hx32_0, hf32_0⟩ := Kd.R_celln 0 HO_6.out (x21_2 : Int) p32 q32
         replace p32 := eq_true p32
         replace q32 := eq_true q32
         have HP34 := Kd.R_putg HO_6.out (x21_2 : Int) (x4_2.length : Int)
         go_wp2_with (first | ((with_reducible refine gate_store (t := 3) (p := 52) rfl ?_); refine store_event (t := 3) (p := 52) (v := ?vo_w35) (w1 := (w26.setCell ⟨go21, (x21_2 : Int).toNat, none⟩ (.int .i64 (x4_2.length : Int)))) ?hg ?ho ?hn ?hr ?_; (case ho => rfl); (case hg => rfl); (case hn => rfl); (case hr => first | (go_simp; done) | (go_simp; rfl)); intro w35 hw; have hg : w26.grownBy w35 (some go21) := (by rw [hw]; exact HP34.2); have hp_ : Kd.R (Kd.int .i64) 3 w35 w.heap.size (fun k_ => some k_ ≠ (.slice (some ad268) x4_2.length co23 : Value).ownBlock) (.slice (some ⟨go21, 0, none⟩) x6_2.length co13) y274 := (by rw [hw, Ny274.out]; exact HP34.1); clear HP34; replace HO_4 := Aside0.mk (Kd.R_after (v := (.slice (some ⟨go21, 0, none⟩) x6_2.length co13)) (v1 := (.slice (some ⟨go21, 0, none⟩) x6_2.length co13)) (ok := (fun _ => True)) (Xq HO_4) hg (.inl rfl)); replace HO_253000 := Aside0.mk (Kd.S_after (v := (.slice (some ⟨go21, 0, none⟩) x6_2.length co13)) (v1 := (.slice (some ⟨go21, 0, none⟩) x6_2.length co13)) (ok := (fun k_ => some k_ ≠ (.slice (some ad268) x4_2.length co23 : Value).ownBlock)) (Xq HO_253000) hg (.inl rfl)); replace HO_253001 := Aside0.mk (Kd.R_over' (v := (.slice (some ⟨go21, 0, none⟩) x6_2.length co13)) (Xq HO_253001) (Kd.R_typed HO_6.out) (by decide) hg); replace BK251 := Aside0.mk (blk_grown (g := gb251) (o := .cells #[.slice none 0 0, .slice none 0 0] 27 (0, 0)) (Xq' BK251) hg (Kd.R_ne HO_6.out BK251.out (by decide))); replace BK252 := Aside0.mk (blk_grown (g := gb252) (o := .cells #[u253000, u253001] 27 (0, 0)) (Xq' BK252) hg (Kd.R_ne HO_6.out BK252.out (by decide))); replace HO_6 := Aside0.mk (hp_); replace HB := Aside0.mk ((by rw [hw]; exact below_set (HB.out) GB21.out : Below w.heap.size w w35)); clear hg hw hp_) | ((with_reducible refine gate_builtin (b := .append) (xs := #[.tmp 53, .tmp 55]) rfl ?_); at_builtin; refine Kd.R_append (Kd.int .i64) (w0 := w) w.heap.size rfl (.tmp 53) (.tmp 55) 39 3 (.int .i64 0) 8 rfl Try.underlying39 info3 rfl (by decide) (by omega) (.slice (some ad268) x4_2.length co23) x4_2 t269 [.int .i64 t269] (fun k_ => some k_ ≠ (.slice (some ⟨go21, 0, none⟩) x6_2.length co13 : Value).ownBlock) (fun _ => False) rfl rfl ?aP (fun _ hk => hk.elim) ?aF ?aO ?aB ?aS ?aL ?_; (case aP => exact rfl); (case aB => exact Xi); (case aF => exact (fun k_ hk => Kd.fresh' (Kd.R_lt (Xq HO_6)) k_ hk)); (case aO => exact (by (with_reducible repeat (first | apply Kd.R_alloc | apply Kd.R_drewN | apply Kd.R_drew)); exact Kd.R_mono HO_4.out (fun _ hk => hk.2))); (case aS => exact (below_size Xi)); (case aL => have := LMc33.out; omega); intro v276 w36 ho hb hg hat; rw [← Ny275.out] at ho; replace HO_6 := Aside0.mk (Kd.R_after (ok := (fun _ => True)) (by (with_reducible repeat (first | apply Kd.R_alloc | apply Kd.R_drewN | apply Kd.R_drew)); exact Kd.R_mono HO_6.out (fun _ hk => ⟨trivial, hk⟩)) hg hat); replace HO_253000 := Aside0.mk (Kd.S_after (ok := (fun k_ => some k_ ≠ (.slice (some ⟨go21, 0, none⟩) x6_2.length co13 : Value).ownBlock)) (by (with_reducible repeat (first | apply Kd.S_alloc | apply Kd.S_drewN | apply Kd.S_drew)); exact Kd.S_mono HO_253000.out (fun _ hk => ⟨hk.2, hk.1⟩)) hg hat); replace HO_253001 := Aside0.mk (Kd.R_over' (Xq HO_253001) (Kd.R_typed (Xq HO_4)) (by decide) hg); replace BK251 := Aside0.mk (blk_grown (g := gb251) (o := .cells #[.slice none 0 0, .slice none 0 0] 27 (0, 0)) (Xq' BK251) hg (Kd.R_ne HO_4.out BK251.out (by decide))); replace BK252 := Aside0.mk (blk_grown (g := gb252) (o := .cells #[u253000, u253001] 27 (0, 0)) (Xq' BK252) hg (Kd.R_ne HO_4.out BK252.out (by decide))); replace HB := Aside0.mk (hb); have HO277 := Aside0.mk (ho); clear HO_4; clear ho hb hg hat))
         (try simp only [← hl6_2])
         go_roundg k2
         case measure => have := HK1.out; have := HK2.out; omega
         case rel => exact ⟨(y275), (y274), (wrap64 (x21_2 + 1)), Xr, H', ⟨by have := HK1.out; have := HK2.out; omega⟩, ⟨by (try simp only [hl6_2]); (with_reducible repeat (first | apply Kd.R_alloc | apply Kd.R_drewN | apply Kd.R_drew)); exact HO277.out⟩, ⟨by (try simp only [hl6_2]); (with_reducible repeat (first | apply Kd.R_alloc | apply Kd.R_drewN | apply Kd.R_drew)); exact Kd.R_mono HO_6.out (fun _ hk => hk.2)⟩, ⟨by (try simp only [hl6_2]); (with_reducible repeat (first | apply Kd.S_alloc | apply Kd.S_drewN | apply Kd.S_drew)); exact Kd.S_mono HO_253000.out (fun _ hk => ⟨hk.2, hk.1⟩)⟩, ⟨by (try simp only [hl6_2]); (with_reducible repeat (first | apply Kd.R_alloc | apply Kd.R_drewN | apply Kd.R_drew)); exact HO_253001.out⟩, ⟨by (try simp only [hl6_2]); (with_reducible repeat (first | refine blk_drewN ?_ _ | refine blk_drew ?_ | refine blk_alloc ?_ _)); exact BK251.out⟩, ⟨by (try simp only [hl6_2]); (with_reducible repeat (first | refine blk_drewN ?_ _ | refine blk_drew ?_ | refine blk_alloc ?_ _)); exact BK252.out⟩, ⟨Xi⟩⟩
        ·have H' := Aside0.mk H
         clear H
         have p273 : 0 ≤ (x21_2 : Int) := of_decide_eq_true Xa
         have q273 : x21_2 < (y271.length : Int) := (by have h_ : (x21_2 : Int) < ((x6_2.length : Int) : Int) := of_decide_eq_true Xa; first | (have e_ := (Kd.R_reads' HO_6.out).1; omega) | simpa only [Ny271.out, List.length_set] using h_)
         have ql273 : ((x21_2 : Int) < ((x6_2.length : Int) : Int)) = True := eq_true (of_decide_eq_true Xa)
         obtain ⟨ad273, e273, hx273_0⟩ := Kd.at_int (Kd.R_reads' HO_6.out).2.2 x21_2 p273 q273
         obtain rfl : (⟨go21, 0, none⟩ : Addr) = ad273 := (by injection e273)
         (first | simp only [add_plain] at hx273_0 | simp only [add_at] at hx273_0 | simp only [Addr.add, Nat.zero_add] at hx273_0 | skip)
         replace p273 := eq_true p273
         replace q273 := eq_true q273
         go_wp2
         (try simp only [← hl6_2])
         go_roundg k2
         case measure => have := HK1.out; have := HK2.out; omega
         case rel => exact ⟨(x4_2), (y271), (wrap64 (x21_2 + 1)), Xr, H', ⟨by have := HK1.out; have := HK2.out; omega⟩, ⟨by (try simp only [hl6_2]); (with_reducible repeat (first | apply Kd.R_alloc | apply Kd.R_drewN | apply Kd.R_drew)); exact Kd.R_mono HO_4.out (fun _ hk => hk.2)⟩, ⟨by (try simp only [hl6_2]); (with_reducible repeat (first | apply Kd.R_alloc | apply Kd.R_drewN | apply Kd.R_drew)); exact HO_6.out⟩, ⟨by (try simp only [hl6_2]); (with_reducible repeat (first | apply Kd.S_alloc | apply Kd.S_drewN | apply Kd.S_drew)); exact HO_253000.out⟩, ⟨by (try simp only [hl6_2]); (with_reducible repeat (first | apply Kd.R_alloc | apply Kd.R_drewN | apply Kd.R_drew)); exact HO_253001.out⟩, ⟨by (try simp only [hl6_2]); (with_reducible repeat (first | refine blk_drewN ?_ _ | refine blk_drew ?_ | refine blk_alloc ?_ _)); exact BK251.out⟩, ⟨by (try simp only [hl6_2]); (with_reducible repeat (first | refine blk_drewN ?_ _ | refine blk_drew ?_ | refine blk_alloc ?_ _)); exact BK252.out⟩, ⟨Xi⟩⟩
      ·(try simp only [hl6_2] at c14b0)
       obtain ⟨c37, H⟩ := Xif H
       have LMc37 := Aside0.mk c37
       clear c37
       obtain ⟨y260, hy260⟩ : ∃ y_ : List (List Int), y_ = (x253000_1 ++ [x6_2]) := ⟨_, rfl⟩
       replace H : (if 0 ≤ x5_1 then (if x5_1 < (x4_2.length : Int) then ((impl_has.f (rd x4_2 x5_1) (wrap64 (2 * (l0.length : Int)))).bind fun t264 => (if x253001_1.length < 140737488355328 then (impl_compile.l0 k2 l0 x4_2 (wrap64 (x5_1 + 1)) y260 (x253001_1 ++ [t264])) else (none))) else (none)) else (none)) = some (r1, r2) := by first | (rw [hy260]; with_reducible exact H) | (have H2_ := (Option.bind_some _ _).symm.trans H; rw [hy260]; with_reducible exact H2_) | (have H2_ := (Option.bind_some _ _).symm.trans H; with_reducible exact H2_) | with_reducible exact H | (rw [hy260]; exact H) | exact H
       have Ny260 := Aside0.mk hy260
       clear hy260
       obtain ⟨c38b0, H⟩ := Xid H
       obtain ⟨c39b0, H⟩ := Xid H
       obtain ⟨t264, A40, H⟩ := Xbi H
       (try dsimp only at H)
       obtain ⟨c41, H⟩ := Xif H
       have LMc41 := Aside0.mk c41
       clear c41
       obtain ⟨y265, hy265⟩ : ∃ y_ : List Bool, y_ = (x253001_1 ++ [t264]) := ⟨_, rfl⟩
       replace H : (impl_compile.l0 k2 l0 x4_2 (wrap64 (x5_1 + 1)) y260 y265) = some (r1, r2) := by first | (rw [hy265]; with_reducible exact H) | (have H2_ := (Option.bind_some _ _).symm.trans H; rw [hy265]; with_reducible exact H2_) | (have H2_ := (Option.bind_some _ _).symm.trans H; with_reducible exact H2_) | with_reducible exact H | (rw [hy265]; exact H) | exact H
       have Ny265 := Aside0.mk hy265
       clear hy265
       have H' := Aside0.mk H
       clear H
       have hnb42 := NB252_251.out
       have hnc42 := NB251_252.out
       obtain ⟨hcz43_0, hcz43_1⟩ := Xc2 BK252
       obtain ⟨hfz43_0, hfz43_1⟩ := Xf2 BK252
       try go_wp2_with (first | ((with_reducible refine gate_builtin (b := .append) (xs := #[.tmp 59, .tmp 61]) rfl ?_); at_builtin; refine Kd.S_append (Kd.slice 3 (Kd.int .i64)) (w0 := w) w.heap.size rfl (.tmp 59) (.tmp 61) 24 39 (.slice none 0 0) 24 rfl Try.underlying24 info39 rfl (by decide) (by omega) u253000 x253000_1 x6_2 [.slice Ao13 x6_2.length co13] (fun k_ => some k_ ≠ (u4 : Value).ownBlock) (fun k_ => some k_ = (.slice Ao13 x6_2.length co13 : Value).ownBlock) rfl rfl ?aP (fun k_ hk_ => ((Kd.R_mono (ok' := fun k_ => ((fun k_ => some k_ ≠ (u4 : Value).ownBlock)) k_ ∧ some k_ ≠ (u253000 : Value).ownBlock) (Kd.R_apart' (HO_6.out) (Kd.S_typed HO_253000.out) (by decide)) (fun k_ hk => ⟨hk.1, hk.2⟩))).1 k_ hk_.symm) ?aF ?aO ?aB ?aS ?aL ?_; (case aP => exact Kd.M_row (Kd.R_mono (Kd.R_tight rfl (Kd.R_mono (ok' := fun k_ => ((fun k_ => some k_ ≠ (u4 : Value).ownBlock)) k_ ∧ some k_ ≠ (u253000 : Value).ownBlock) (Kd.R_apart' (HO_6.out) (Kd.S_typed HO_253000.out) (by decide)) (fun k_ hk => ⟨hk.1, hk.2⟩))) (fun _ h_ => h_))); (case aB => exact Xi); (case aF => exact (fun k_ hk => Kd.fresh' (Kd.R_lt (Xq HO_4)) k_ hk)); (case aO => exact (by (with_reducible repeat (first | apply Kd.S_alloc | apply Kd.S_drewN | apply Kd.S_drew)); exact Kd.S_mono HO_253000.out (fun k_ hk => ⟨hk.1, fun e_ => hk.2 e_⟩))); (case aS => exact (below_size Xi)); (case aL => have := LMc37.out; omega); intro v261 w44 ho hb hg hat; rw [← Ny260.out] at ho; replace HO_4 := Aside0.mk (Kd.R_over' (Xq HO_4) (Kd.S_typed (Xq HO_253000)) (by decide) hg); replace HO_253001 := Aside0.mk (Kd.R_over' (Xq HO_253001) (Kd.S_typed (Xq HO_253000)) (by decide) hg); replace BK251 := Aside0.mk (blk_grown (g := gb251) (o := .cells #[.slice none 0 0, .slice none 0 0] 27 (0, 0)) (Xq' BK251) hg (Kd.S_ne HO_253000.out BK251.out (by decide))); replace BK252 := Aside0.mk (blk_grown (g := gb252) (o := .cells #[u253000, u253001] 27 (0, 0)) (Xq' BK252) hg (Kd.S_ne HO_253000.out BK252.out (by decide))); replace HB := Aside0.mk (hb); have HO262 := Aside0.mk (ho); clear HO_253000; clear HO_6; clear ho hb hg hat; obtain ⟨Ao45, co45, eo45⟩ := Kd.S_slice HO262.out; subst eo45; obtain ⟨hcz46_0, hcz46_1⟩ := Xc2 BK252; obtain ⟨hfz46_0, hfz46_1⟩ := Xf2 BK252))
       have n0_ : Aside0 (Kd.R (Kd.int .i64) 3 (w44.setCell ⟨gb252, 0, none⟩ (.slice Ao45 y260.length co45)) w.heap.size (fun _ => True) u4 x4_2) := ⟨by (with_reducible repeat (first | apply Kd.R_alloc | apply Kd.R_drewN | apply Kd.R_drew)); exact Kd.R_mono (Kd.R_far (p := ⟨gb252, 0, none⟩) (Kd.R_types HO_4.out BK252.out (by decide)) (fun _ hk => hk.2) (.slice Ao45 y260.length co45)) (fun _ hk => trivial)⟩
       have n1_ : Aside0 (Kd.R Kd.bool 4 (w44.setCell ⟨gb252, 0, none⟩ (.slice Ao45 y260.length co45)) w.heap.size (fun _ => True) u253001 x253001_1) := ⟨by (with_reducible repeat (first | apply Kd.R_alloc | apply Kd.R_drewN | apply Kd.R_drew)); exact Kd.R_mono (Kd.R_far (p := ⟨gb252, 0, none⟩) (Kd.R_types HO_253001.out BK252.out (by decide)) (fun _ hk => hk.2) (.slice Ao45 y260.length co45)) (fun _ hk => trivial)⟩
       have n2_ : Aside0 (Kd.S (Kd.slice 3 (Kd.int .i64)) 39 (w44.setCell ⟨gb252, 0, none⟩ (.slice Ao45 y260.length co45)) w.heap.size (fun k_ => some k_ ≠ (u4 : Value).ownBlock) (.slice Ao45 y260.length co45) y260) := ⟨by (with_reducible repeat (first | apply Kd.S_alloc | apply Kd.S_drewN | apply Kd.S_drew)); exact Kd.S_mono (Kd.S_far (p := ⟨gb252, 0, none⟩) (Kd.S_types HO262.out BK252.out (by decide)) (fun _ hk => hk.2) (.slice Ao45 y260.length co45)) (fun _ hk => hk.1)⟩
       have n3_ : Aside0 ((w44.setCell ⟨gb252, 0, none⟩ (.slice Ao45 y260.length co45)).heap[gb251]? = some (.cells #[.slice none 0 0, .slice none 0 0] 27 (0, 0))) := ⟨by (with_reducible repeat (first | refine blk_drewN ?_ _ | refine blk_drew ?_ | refine blk_alloc ?_ _)); refine blk_far ?_ NB251_252.out _; (with_reducible repeat (first | refine blk_drewN ?_ _ | refine blk_drew ?_ | refine blk_alloc ?_ _)); exact BK251.out⟩
       have n4_ : Aside0 ((w44.setCell ⟨gb252, 0, none⟩ (.slice Ao45 y260.length co45)).heap[gb252]? = some (.cells #[.slice Ao45 y260.length co45, u253001] 27 (0, 0))) := ⟨by (with_reducible repeat (first | refine blk_drewN ?_ _ | refine blk_drew ?_ | refine blk_alloc ?_ _)); refine blk_put (cs := #[u253000, u253001]) ?_ 0 _ rfl; (with_reducible repeat (first | refine blk_drewN ?_ _ | refine blk_drew ?_ | refine blk_alloc ?_ _)); exact BK252.out⟩
       have n5_ : Aside0 (Below w.heap.size w (w44.setCell ⟨gb252, 0, none⟩ (.slice Ao45 y260.length co45))) := ⟨Xi⟩
       (try clear HO_4)
       (try clear HO_253001)
       (try clear HO262)
       (try clear BK251)
       (try clear BK252)
       (try clear HB)
       generalize (w44.setCell ⟨gb252, 0, none⟩ (.slice Ao45 y260.length co45)) = w47 at n0_ n1_ n2_ n3_ n4_ n5_ ⊢
       have HO_4 := n0_
       have HO_253001 := n1_
       have HO262 := n2_
       have BK251 := n3_
       have BK252 := n4_
       have HB := n5_
       clear n0_ n1_ n2_ n3_ n4_ n5_
       replace HO_4 := Aside0.mk (Kd.R_drew HO_4.out)
       replace HO_253001 := Aside0.mk (Kd.R_drew HO_253001.out)
       replace HO262 := Aside0.mk (Kd.S_drew HO262.out)
       replace BK251 := Aside0.mk (blk_drew BK251.out)
       replace BK252 := Aside0.mk (blk_drew BK252.out)
       replace HB := Aside0.mk (below_drew1 HB.out)
       obtain ⟨Ao49, co49, eo49⟩ := Kd.R_slice HO_4.out
       (first | subst eo49 | (injection eo49 with f1_ f2_ f3_; have f4_ := f1_.symm; have f5_ := f3_.symm; clear f1_ f2_ f3_; subst f4_; subst f5_))
       have p263 : 0 ≤ (x5_1 : Int) := of_decide_eq_true Xa
       have q263 : x5_1 < (x4_2.length : Int) := of_decide_eq_true Xa
       obtain ⟨ad263, e263, hx263_0⟩ := Kd.at_int (Kd.R_reads' HO_4.out).2.2 x5_1 p263 q263
       cases e263
       replace p263 := eq_true p263
       replace q263 := eq_true q263
       refine start_ (n := 14) (S := fun w' => w'.cell? ⟨gb252, 0, none⟩ = some (.slice Ao45 y260.length co45) ∧ w'.cell? ⟨gb252, 1, none⟩ = some (u253001) ∧ w'.cell? (ad263.add (x5_1).toNat) = some (.int .i64 (rd x4_2 x5_1))) (ds := [11, 13]) #[false, false, false, false, false, false, false, false, false, false, false, false, false, false] (by kernel_rfl) rfl rfl ⟨(blk_cell BK252.out 0).trans rfl, (blk_cell BK252.out 1).trans rfl, hx263_0⟩ (fun hHeld => ?_); refine with_tabW impl_compile.tab19 impl_compile.bits19 (fun HT_ HW_ => ?_)
       generalize w47.drew = w48 at HO_4 HO_253001 HO262 BK251 BK252 HB HO262 hx263_0 hHeld ⊢
       refine Xpu 0 64 (XW.bs 14 1) HT_.out ?_
       refine Xpu 2 66 (XW.bs 14 5) HT_.out ?_
       refine Xpu 3 67 (XW.bs 14 13) HT_.out ?_
       refine Xpu 4 68 (XW.bs 14 29) HT_.out ?_
       refine Xpu 6 70 (XW.bs 14 93) HT_.out ?_
       refine Xpu 7 71 (XW.bs 14 221) HT_.out ?_
       refine Xpu 8 72 (XW.bs 14 477) HT_.out ?_
       refine Xta 1 65 (XW.bs 14 479) HT_.out HW_.out hHeld ?_
       refine Xta 5 69 (XW.bs 14 511) HT_.out HW_.out hHeld ?_
       refine one_ (i := 9) (N := some 73) (XW.bs 14 1023) rfl rfl (one_of HT_.out (by kernel_rfl)) (by decide) (fun K hK => ?_)
       refine goes_ Try.func104 (by kernel_rfl) rfl #[.int .i64 (rd x4_2 x5_1), .int .i64 (wrap64 (2 * (l0.length : Int)))] (by rfl) rfl rfl (by (try simp only [List.map_toArray, List.map_cons, List.map_nil]); first | done | rfl | (simp only [List.length_drop, List.length_take]; rfl)) ?_
       with_reducible refine (impl_has.calls (rd x4_2 x5_1) (wrap64 (2 * (l0.length : Int))) t264 _ A40.out).mono ?_
       rintro e w' ⟨rfl, ⟨nd, rfl⟩⟩
       refine ⟨_, rfl, ?_⟩
       refine hK.out _ _ ⟨(blk_cell BK252.out 0).trans rfl, (blk_cell BK252.out 1).trans rfl, hHeld.2.2⟩ (fun hHeld => ?_)
       clear hK K
       refine Xno ?_
       refine one_ (i := 10) (N := some 74) (XW.bs 14 2047) rfl rfl (one_of HT_.out (by kernel_rfl)) (by decide) (fun K hK => ?_)
       refine value_ (w1 := ?_) (v := ?_) (by rfl) rfl ?_ ?_
       rotate_left 2
       ·go_simp
        constructor
        ·rfl
        ·rfl
       refine hK.out _ _ ⟨(blk_cell (blk_alloc BK252.out _) 0).trans rfl, (blk_cell (blk_alloc BK252.out _) 1).trans rfl, (World.cell?_alloc_lt _ _ _ (World.block_lt_of_cell? _ _ (hHeld.2.2))).trans (hHeld.2.2)⟩ (fun hHeld => ?_)
       clear hK K
       refine Xno ?_
       refine last_ (i := 11) (N := some 75) #[true, true, true, true, true, true, true, true, true, true, true, true, false, false] rfl rfl (one_of HT_.out (by kernel_rfl)) (by decide) (fun K hK => ?_)
       refine Kd.R_append_step Kd.bool (w0 := w) w.heap.size (by rfl) (.tmp 65) (.tmp 74) 25 4 (.bool false) 1 rfl Try.underlying25 info4 rfl (by decide) (by omega) u253001 x253001_1 t264 [.bool t264] (fun _ => True) (fun _ => False) rfl rfl ?aP (fun _ hk => hk.elim) ?aF ?aO ?aB ?aS ?aL ?_
       (case aP => exact rfl)
       (case aB => exact Xi)
       (case aF => exact (fun _ _ => trivial))
       (case aO => exact (Xq HO_253001))
       (case aS => exact (below_size Xi))
       (case aL => have := LMc41.out; omega)
       intro v266 w50 ho hb hg hat
       rw [← Ny265.out] at ho
       replace HO_4 := Aside0.mk (Kd.R_over' (Xq HO_4) (Kd.R_typed (Xq HO_253001)) (by decide) hg)
       replace BK251 := Aside0.mk (blk_grown (g := gb251) (o := .cells #[.slice none 0 0, .slice none 0 0] 27 (0, 0)) (Xq' BK251) hg (Kd.R_ne HO_253001.out BK251.out (by decide)))
       replace BK252 := Aside0.mk (blk_grown (g := gb252) (o := .cells #[.slice Ao45 y260.length co45, u253001] 27 (0, 0)) (Xq' BK252) hg (Kd.R_ne HO_253001.out BK252.out (by decide)))
       replace HO262 := Aside0.mk (Kd.S_over' (Xq HO262) (Kd.R_typed (Xq HO_253001)) (by decide) hg)
       replace HB := Aside0.mk (hb)
       have HO267 := Aside0.mk (ho)
       clear HO_253001
       clear ho hb hg hat
       obtain ⟨Ao51, co51, eo51⟩ := Kd.R_slice HO267.out
       (first | subst eo51 | (injection eo51 with f1_ f2_ f3_; have f4_ := f1_.symm; have f5_ := f3_.symm; clear f1_ f2_ f3_; subst f4_; subst f5_))
       refine hK.out _ _ ?_
       clear hK K
       refine Xno ?_
       refine Xpu 12 76 (XW.bs 14 8191) HT_.out ?_
       refine last_ (i := 13) (N := none) #[true, true, true, true, true, true, true, true, true, true, true, true, true, true] rfl rfl (one_of HT_.out (by kernel_rfl)) (by decide) (fun K hK => ?_)
       have hs52 : w50.cell? ⟨gb252, 1, none⟩ = some (u253001) := (blk_cell BK252.out 1).trans rfl
       have hfs52 := blk_frozen BK252.out 1
       have hns52_0 := NB251_252.out
       have hms52_0 := NB252_251.out
       refine skip_ (w1 := ?_) (by rfl) rfl ?_ ?_
       rotate_left
       ·go_simp
        rfl
       refine hK.out _ _ ?_
       clear hK K
       refine done_ (done_of HT_.out (by kernel_rfl)) ?_
       try go_wp2_with (fail)
       (try simp only [← hl6_2])
       go_roundg k2
       case measure => have := HK1.out; have := HK2.out; omega
       case rel => exact ⟨(x4_2), (wrap64 (x5_1 + 1)), (y260), (y265), (.slice Ao45 y260.length co45), (.slice Ao51 y265.length co51), Xr, H', ⟨by have := HK1.out; have := HK2.out; omega⟩, ⟨by (try simp only [hl6_2]); (with_reducible repeat (first | apply Kd.R_alloc | apply Kd.R_drewN | apply Kd.R_drew)); exact Kd.R_mono (Kd.R_far (p := ⟨gb252, 1, none⟩) (Kd.R_types HO_4.out BK252.out (by decide)) (fun _ hk => hk.2) (.slice Ao51 y265.length co51)) (fun _ hk => trivial)⟩, ⟨by (try simp only [hl6_2]); (with_reducible repeat (first | apply Kd.S_alloc | apply Kd.S_drewN | apply Kd.S_drew)); exact Kd.S_mono (Kd.S_far (p := ⟨gb252, 1, none⟩) (Kd.S_types HO262.out BK252.out (by decide)) (fun _ hk => hk.2) (.slice Ao51 y265.length co51)) (fun _ hk => hk.1)⟩, ⟨by (try simp only [hl6_2]); (with_reducible repeat (first | apply Kd.R_alloc | apply Kd.R_drewN | apply Kd.R_drew)); exact Kd.R_mono (Kd.R_far (p := ⟨gb252, 1, none⟩) (Kd.R_types HO267.out BK252.out (by decide)) (fun _ hk => hk.2) (.slice Ao51 y265.length co51)) (fun _ hk => trivial)⟩, ⟨by (try simp only [hl6_2]); (with_reducible repeat (first | refine blk_drewN ?_ _ | refine blk_drew ?_ | refine blk_alloc ?_ _)); refine blk_far ?_ NB251_252.out _; (with_reducible repeat (first | refine blk_drewN ?_ _ | refine blk_drew ?_ | refine blk_alloc ?_ _)); exact BK251.out⟩, ⟨by (try simp only [hl6_2]); (with_reducible repeat (first | refine blk_drewN ?_ _ | refine blk_drew ?_ | refine blk_alloc ?_ _)); refine blk_put (cs := #[.slice Ao45 y260.length co45, u253001]) ?_ 1 _ rfl; (with_reducible repeat (first | refine blk_drewN ?_ _ | refine blk_drew ?_ | refine blk_alloc ?_ _)); exact BK252.out⟩, ⟨Xi⟩⟩
   ·simp only [Option.some.injEq, Prod.mk.injEq] at H
    obtain ⟨rfl, rfl⟩ := H
    obtain ⟨Ao53, co53, eo53⟩ := Kd.R_slice HO_4.out
    subst eo53
    have hnb54 := NB252_251.out
    have hnc54 := NB251_252.out
    obtain ⟨hcz55_0, hcz55_1⟩ := Xc2 BK252
    obtain ⟨hfz55_0, hfz55_1⟩ := Xf2 BK252
    obtain ⟨Ao56, co56, eo56⟩ := Kd.S_slice HO_253000.out
    subst eo56
    obtain ⟨hcz57_0, hcz57_1⟩ := Xc2 BK251
    obtain ⟨hfz57_0, hfz57_1⟩ := Xf2 BK251
    obtain ⟨Ao58, co58, eo58⟩ := Kd.R_slice HO_253001.out
    subst eo58
    go_wp2
    refine bodyPost_ret (results_cell_row rfl _ _ gb251 27 #[.slice Ao56 x253000_1.length co56, .slice Ao58 x253001_1.length co58] (0, 0) _ rfl (by (with_reducible repeat (first | refine blk_drewN ?_ _ | refine blk_drew ?_ | refine blk_alloc ?_ _)); refine blk_put (cs := #[.slice Ao56 x253000_1.length co56, .slice none 0 0]) ?_ 1 _ rfl; (with_reducible repeat (first | refine blk_drewN ?_ _ | refine blk_drew ?_ | refine blk_alloc ?_ _)); refine blk_put (cs := #[.slice none 0 0, .slice none 0 0]) ?_ 0 _ rfl; (with_reducible repeat (first | refine blk_drewN ?_ _ | refine blk_drew ?_ | refine blk_alloc ?_ _)); exact BK251.out) Try.underlying27 rfl (by kernel_rfl)) rfl ?_
    exact ⟨_, _, by first | rfl | (simp <;> rfl) | (simp [*] <;> rfl), by (with_reducible repeat (first | apply Kd.S_alloc | apply Kd.S_drewN | apply Kd.S_drew)); exact Kd.S_mono (Kd.S_far (p := ⟨gb251, 1, none⟩) (Kd.S_far (p := ⟨gb251, 0, none⟩) (Kd.S_types HO_253000.out BK251.out (by decide)) (fun _ hk => hk.2) (.slice Ao56 x253000_1.length co56)) (fun _ hk => hk.2) (.slice Ao58 x253001_1.length co58)) (fun _ hk => trivial), by (with_reducible repeat (first | apply Kd.R_alloc | apply Kd.R_drewN | apply Kd.R_drew)); exact Kd.R_mono (Kd.R_far (p := ⟨gb251, 1, none⟩) (Kd.R_far (p := ⟨gb251, 0, none⟩) (Kd.R_types HO_253001.out BK251.out (by decide)) (fun _ hk => hk.2) (.slice Ao56 x253000_1.length co56)) (fun _ hk => hk.2) (.slice Ao58 x253001_1.length co58)) (fun _ hk => trivial), Xi⟩

/-! ### impl_CompileTerms: function 11 -/
def impl_CompileTerms.f (k : Nat) (l0 : List (S78)) : Option ((List (List Int)) × List Bool × Int) := (impl_isLongList_impl_Term.f l0).bind fun t279 => (if t279 = true then (some (([] : List (List Int)), ([] : List Bool), 2)) else ((impl_areTerms.f k l0 8).bind fun t280 => (if t280 = true then ((impl_compile.f k l0).bind fun bt281 => (some (bt281.1, bt281.2, 0))) else (some (([] : List (List Int)), ([] : List Bool), 1)))))
set_option maxHeartbeats 8000000 in
set_option maxRecDepth 100000 in
theorem impl_CompileTerms.calls (k : Nat) (A0 : Option Addr) (c0 : Nat) (l0 : List (S78)) (r1 : List (List Int)) (r2 : List Bool) (r3 : Int) (w : World) (hr0 : Kd.C k78 w A0 l0.length l0) (hc0 : l0.length ≤ c0) (h : impl_CompileTerms.f k l0 = some (r1, r2, r3)) :
  Calls Try.prog 11 #[.slice A0 l0.length c0] w fun e w' => ∃ v0_ v1_ : Value, e = .returned (.tuple #[.agg #[v0_, v1_], .int .i64 r3]) ∧ Kd.S (Kd.slice 3 (Kd.int .i64)) 39 w' w.heap.size (fun _ => True) v0_ r1 ∧ Kd.R Kd.bool 4 w' w.heap.size (fun _ => True) v1_ r2 ∧ Below w.heap.size w w' := by
 have hu27 := Try.underlying27
 have HR0 := Aside0.mk hr0
 have HC0 := Aside0.mk hc0
 clear hr0 hc0
 have HB := Aside0.mk (Below.refl w.heap.size w)
 have H : ((impl_isLongList_impl_Term.f l0).bind fun t279 => (if t279 = true then (some (([] : List (List Int)), ([] : List Bool), 2)) else ((impl_areTerms.f k l0 8).bind fun t280 => (if t280 = true then ((impl_compile.f k l0).bind fun bt281 => (some (bt281.1, bt281.2, 0))) else (some (([] : List (List Int)), ([] : List Bool), 1)))))) = some (r1, r2, r3) := h
 clear h
 obtain ⟨t279, A2, H⟩ := Xbi H
 (try dsimp only at H)
 have HC3 := Aside0.mk H
 clear H
 go_enter Try.func11, Try.ntmps11
 go_upto_if 4 with (first | ((with_reducible refine gate_dst (N := 2) rfl ?_); refine Xbox 2 #[.slice none 0 0, .slice none 0 0] 27 ?_; intro gb278 hg w4 hbox hb; have BK278 := Aside0.mk (hbox); have GE278 := Xge hg Xi; replace HB := Aside0.mk (below_step Xi hb); clear hb hbox hg) | ((with_reducible refine gate_callee (f := 46) rfl ?_); refine Xgo 6 Try.func46 #[.slice A0 l0.length c0] ?_; (with_reducible refine (impl_isLongList_impl_Term.calls _ _ l0 t279 _ ?side1 ?side2 A2.out).mono ?_); (case side1 => exact Xc HR0); (case side2 => exact HC0.out); rintro e w' ⟨rfl, ⟨nd, rfl⟩⟩; refine ⟨_, rfl, ?_⟩))
 (try (rw [drewN_self w4]; generalize hq_ : World.drewN w4 _ = w4; have n0_ : Aside0 (w4.heap[gb278]? = some (.cells #[.slice none 0 0, .slice none 0 0] 27 (0, 0))) := ⟨by rw [← hq_]; exact BK278.out⟩; have n1_ : Aside0 (Below w.heap.size w w4) := ⟨by rw [← hq_]; exact Xi⟩; clear BK278 HB hq_; have BK278 := n0_; have HB := n1_; clear n0_ n1_))
 have H := HC3.out
 clear HC3
 by_cases c5 : t279 = true
 ·subst c5
  (first | rw [if_pos rfl] at H | skip)
  simp only [Option.some.injEq, Prod.mk.injEq] at H
  obtain ⟨rfl, rfl, rfl⟩ := H
  obtain ⟨hcz6_0, hcz6_1⟩ := Xc2 BK278
  obtain ⟨hfz6_0, hfz6_1⟩ := Xf2 BK278
  go_wp2
  refine bodyPost_ret (results_ct rfl _ _ gb278 27 #[.slice none 0 0, .slice none 0 0] (0, 0) _ rfl (by (with_reducible repeat (first | refine blk_drewN ?_ _ | refine blk_drew ?_ | refine blk_alloc ?_ _)); refine blk_put (cs := #[.slice none 0 0, .slice none 0 0]) ?_ 1 _ rfl; (with_reducible repeat (first | refine blk_drewN ?_ _ | refine blk_drew ?_ | refine blk_alloc ?_ _)); refine blk_put (cs := #[.slice none 0 0, .slice none 0 0]) ?_ 0 _ rfl; (with_reducible repeat (first | refine blk_drewN ?_ _ | refine blk_drew ?_ | refine blk_alloc ?_ _)); exact BK278.out) Try.underlying27 rfl (by kernel_rfl)) rfl ?_
  exact ⟨_, _, by first | rfl | (simp <;> rfl) | (simp [*] <;> rfl), by first | exact Kd.S_nil _ _ _ _ _ | exact Kd.N_nil _ _ _ _ _ | exact Kd.V_nil _ _ _ _ _ | exact Kd.Q_nil _ _ _ _ _ | exact Kd.R_nil _ _ _ _ _, by first | exact Kd.R_nil _ _ _ _ _ | exact Kd.N_nil _ _ _ _ _ | exact Kd.V_nil _ _ _ _ _ | exact Kd.Q_nil _ _ _ _ _ | exact Kd.S_nil _ _ _ _ _, Xi⟩
 ·replace c5 := Bool.eq_false_iff.mpr c5
  subst c5
  (first | rw [if_neg (show ¬ (false = true) by decide)] at H | skip)
  obtain ⟨t280, A7, H⟩ := Xbi H
  (try dsimp only at H)
  have HC8 := Aside0.mk H
  clear H
  go_upto_if 8 with (first | ((with_reducible refine gate_callee (f := 47) rfl ?_); refine Xgo 10 Try.func47 #[.slice A0 l0.length c0, .int .i64 8] ?_; (with_reducible refine (impl_areTerms.calls k _ _ l0 8 t280 _ ?side1 ?side2 A7.out).mono ?_); (case side1 => exact Xc HR0); (case side2 => exact HC0.out); rintro e w9 ⟨rfl, hb⟩; refine ⟨_, rfl, ?_⟩; replace BK278 := Xbb BK278 hb; replace HB := Aside0.mk (below_step Xi hb); clear hb))
  have H := HC8.out
  clear HC8
  by_cases c10 : t280 = true
  ·subst c10
   (first | rw [if_pos rfl] at H | skip)
   replace H := Option.bind_eq_some_iff.mp H
   obtain ⟨⟨t281, t284⟩, A110, H⟩ := H
   (try dsimp only at H)
   have A11 := Aside0.mk A110
   clear A110
   simp only [Option.some.injEq, Prod.mk.injEq] at H
   obtain ⟨rfl, rfl, rfl⟩ := H
   go_wp2_with (first | ((with_reducible refine gate_callee (f := 48) rfl ?_); refine Xgo 14 Try.func48 #[.slice A0 l0.length c0] ?_; (with_reducible refine (impl_compile.calls k _ _ l0 t281 t284 _ ?side1 ?side2 A11.out).mono ?_); (case side1 => exact Xc HR0); (case side2 => exact HC0.out); rintro e w12 ⟨v282, v285, rfl, ho0, ho1, hb⟩; refine ⟨_, rfl, ?_⟩; have HO283 := Aside0.mk (Kd.S_lower ho0 (below_size Xi)); have HO286 := Aside0.mk (Kd.R_lower ho1 (below_size Xi)); replace BK278 := Xbb BK278 hb; replace HB := Aside0.mk (below_step Xi hb); clear hb; (try clear ho0); (try clear ho1); obtain ⟨Ao13, co13, eo13⟩ := Kd.S_slice HO283.out; subst eo13; obtain ⟨hcz14_0, hcz14_1⟩ := Xc2 BK278; obtain ⟨hfz14_0, hfz14_1⟩ := Xf2 BK278; obtain ⟨Ao15, co15, eo15⟩ := Kd.R_slice HO286.out; subst eo15))
   refine bodyPost_ret (results_ct rfl _ _ gb278 27 #[.slice Ao13 t281.length co13, .slice Ao15 t284.length co15] (0, 0) _ rfl (by (with_reducible repeat (first | refine blk_drewN ?_ _ | refine blk_drew ?_ | refine blk_alloc ?_ _)); refine blk_put (cs := #[.slice Ao13 t281.length co13, .slice none 0 0]) ?_ 1 _ rfl; (with_reducible repeat (first | refine blk_drewN ?_ _ | refine blk_drew ?_ | refine blk_alloc ?_ _)); refine blk_put (cs := #[.slice none 0 0, .slice none 0 0]) ?_ 0 _ rfl; (with_reducible repeat (first | refine blk_drewN ?_ _ | refine blk_drew ?_ | refine blk_alloc ?_ _)); exact BK278.out) Try.underlying27 rfl (by kernel_rfl)) rfl ?_
   exact ⟨_, _, by first | rfl | (simp <;> rfl) | (simp [*] <;> rfl), by (with_reducible repeat (first | apply Kd.S_alloc | apply Kd.S_drewN | apply Kd.S_drew)); exact Kd.S_mono (Kd.S_far (p := ⟨gb278, 1, none⟩) (Kd.S_far (p := ⟨gb278, 0, none⟩) (Kd.S_types HO283.out BK278.out (by decide)) (fun _ hk => hk.2) (.slice Ao13 t281.length co13)) (fun _ hk => hk.2) (.slice Ao15 t284.length co15)) (fun _ hk => trivial), by (with_reducible repeat (first | apply Kd.R_alloc | apply Kd.R_drewN | apply Kd.R_drew)); exact Kd.R_mono (Kd.R_far (p := ⟨gb278, 1, none⟩) (Kd.R_far (p := ⟨gb278, 0, none⟩) (Kd.R_types HO286.out BK278.out (by decide)) (fun _ hk => hk.2) (.slice Ao13 t281.length co13)) (fun _ hk => hk.2) (.slice Ao15 t284.length co15)) (fun _ hk => trivial), Xi⟩
  ·replace c10 := Bool.eq_false_iff.mpr c10
   subst c10
   (first | rw [if_neg (show ¬ (false = true) by decide)] at H | skip)
   simp only [Option.some.injEq, Prod.mk.injEq] at H
   obtain ⟨rfl, rfl, rfl⟩ := H
   obtain ⟨hcz16_0, hcz16_1⟩ := Xc2 BK278
   obtain ⟨hfz16_0, hfz16_1⟩ := Xf2 BK278
   go_wp2
   refine bodyPost_ret (results_ct rfl _ _ gb278 27 #[.slice none 0 0, .slice none 0 0] (0, 0) _ rfl (by (with_reducible repeat (first | refine blk_drewN ?_ _ | refine blk_drew ?_ | refine blk_alloc ?_ _)); refine blk_put (cs := #[.slice none 0 0, .slice none 0 0]) ?_ 1 _ rfl; (with_reducible repeat (first | refine blk_drewN ?_ _ | refine blk_drew ?_ | refine blk_alloc ?_ _)); refine blk_put (cs := #[.slice none 0 0, .slice none 0 0]) ?_ 0 _ rfl; (with_reducible repeat (first | refine blk_drewN ?_ _ | refine blk_drew ?_ | refine blk_alloc ?_ _)); exact BK278.out) Try.underlying27 rfl (by kernel_rfl)) rfl ?_
   exact ⟨_, _, by first | rfl | (simp <;> rfl) | (simp [*] <;> rfl), by first | exact Kd.S_nil _ _ _ _ _ | exact Kd.N_nil _ _ _ _ _ | exact Kd.V_nil _ _ _ _ _ | exact Kd.Q_nil _ _ _ _ _ | exact Kd.R_nil _ _ _ _ _, by first | exact Kd.R_nil _ _ _ _ _ | exact Kd.N_nil _ _ _ _ _ | exact Kd.V_nil _ _ _ _ _ | exact Kd.Q_nil _ _ _ _ _ | exact Kd.S_nil _ _ _ _ _, Xi⟩

end Go.Proofs.Ythkbgbkglgmpoaa.XA
