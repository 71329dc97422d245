/- Contracts of the program's functions: each Go function that is named below comes to what its Lean function says. Written by xprint.py (a program of this session's, over the kit's print). Conditions: each contract's own premises. -/
import Derived.Test.YthkbgbkglgmpoaaYCompileTerms0
import Derived.Test.YthkbgbkglgmpoaaYCompileTerms1
import Derived.Test.YthkbgbkglgmpoaaYCompileTerms2
import Derived.Test.YthkbgbkglgmpoaaYCompileTerms3
namespace Go.Proofs.Ythkbgbkglgmpoaa.XA
open Go.RowKit Go.Proofs.YthkbgbkglgmpoaaW.PrintWords Go.Proofs.YthkbgbkglgmpoaaW.PrintLast Go.Proofs.YthkbgbkglgmpoaaW.PrintMore XW
attribute [local go_sem] max2_int min2_int max_two min_two max_three min_three max_four min_four   -- for this text's walks alone
set_option linter.unusedVariables false
set_option linter.unusedSimpArgs false

/-! ### spec_l04Compile: function 44 -/
mutual
def spec_l04Compile.l0 : Nat → List (S78) → List (List Bool) → Int → List (List Int) → List Bool → Option ((List (List Int)) × List Bool)
 | 0, _, _, _, _, _ => none
 | k + 1, x0, x4, x6, x165000, x165001 => if x6 < (x4.length : Int) then (spec_l04Compile.l1 k x0 x4 x6 (([] : List Int)) 1 x165000 x165001) else (some (x165000, x165001))
def spec_l04Compile.l1 : Nat → List (S78) → List (List Bool) → Int → List Int → Int → List (List Int) → List Bool → Option ((List (List Int)) × List Bool)
 | 0, _, _, _, _, _, _, _ => none
 | k + 1, x0, x4, x6, x7, x8, x165000, x165001 => if x8 ≤ 8 then (if 0 ≤ x6 then (if x6 < (x4.length : Int) then ((spec_l04Step.f k x0 (rd_L5 x4 x6) x8).bind fun t177 => ((spec_l04Any.f k t177).bind fun t180 => (if t180 = true then ((spec_l04Find.f k x4 t177).bind fun t181 => (if t181 < 0 then (if x4.length < 5864062014805 then (if x7.length < 17592186044416 then (spec_l04Compile.l1 k x0 (x4 ++ [t177]) x6 (x7 ++ [(x4.length : Int)]) (wrap64 (x8 + 1)) x165000 x165001) else (none)) else (none)) else (if x7.length < 17592186044416 then (spec_l04Compile.l1 k x0 x4 x6 (x7 ++ [t181]) (wrap64 (x8 + 1)) x165000 x165001) else (none)))) else (if x7.length < 17592186044416 then (spec_l04Compile.l1 k x0 x4 x6 (x7 ++ [(-1)]) (wrap64 (x8 + 1)) x165000 x165001) else (none))))) else (none)) else (none)) else (if x165000.length < 5864062014805 then (if 0 ≤ x6 then (if x6 < (x4.length : Int) then (if 0 ≤ (wrap64 (2 * (x0.length : Int))) then (if (wrap64 (2 * (x0.length : Int))) < ((rd_L5 x4 x6).length : Int) then (if x165001.length < 140737488355328 then (spec_l04Compile.l0 k x0 x4 (wrap64 (x6 + 1)) (x165000 ++ [x7]) (x165001 ++ [rdOf false (rd_L5 x4 x6) (wrap64 (2 * (x0.length : Int)))])) else (none)) else (none)) else (none)) else (none)) else (none)) else (none))
end
def spec_l04Compile.f (k : Nat) (l0 : List (S78)) : Option ((List (List Int)) × List Bool) := if 0 ≤ (wrap64 ((wrap64 (2 * (l0.length : Int))) + 1)) then (if (wrap64 ((wrap64 (2 * (l0.length : Int))) + 1) : Int).toNat ≤ 281474976710656 then ((some (List.replicate (wrap64 ((wrap64 (2 * (l0.length : Int))) + 1) : Int).toNat false : List Bool)).bind fun y148 => (if 0 < (y148.length : Int) then ((spec_l04Close.f k l0 (y148.set (0 : Int).toNat true)).bind fun t152 => (spec_l04Compile.l0 k l0 (([t152] : List (List Bool))) 0 (([] : List (List Int))) (([] : List Bool)))) else (none))) else (none)) else (none)
def spec_l04Compile.T21 : Bool × List (List Nat × List Nat) := (true, [([], []), ([0], [0]), ([], []), ([], []), ([2, 3], [2, 3]), ([4], [4]), ([], []), ([6], [6]), ([7], [7]), ([5, 8], [5, 8]), ([9], [9]), ([10], [10]), ([1, 11], [1, 11]), ([0, 1, 2, 3, 4, 5, 6, 7, 8, 9, 10, 11, 12], []), ([13, 12, 12, 0, 1, 2, 3, 4, 5, 6, 7, 8, 9, 10, 11, 12], [12, 13])])
def spec_l04Compile.B21 : List Nat := [0, 1, 0, 0, 12, 28, 0, 64, 192, 508, 1020, 2044, 4095, 8191, 16383]
theorem spec_l04Compile.tab21 : rtab .any (opsOf Try.f44 21) = spec_l04Compile.T21 := by kernel_rfl
theorem spec_l04Compile.bits21 : waitsOk spec_l04Compile.T21.2 spec_l04Compile.B21 = true := by kernel_rfl
set_option maxHeartbeats 8000000 in
set_option maxRecDepth 100000 in
theorem spec_l04Compile.calls (k : Nat) (A0 : Option Addr) (c0 : Nat) (l0 : List (S78)) (r1 : List (List Int)) (r2 : List Bool) (w : World) (hr0 : Kd.C k78 w A0 l0.length l0) (hc0 : l0.length ≤ c0) (h : spec_l04Compile.f k l0 = some (r1, r2)) :
  Calls Try.prog 44 #[.slice A0 l0.length c0] w fun e w' => ∃ v0_ v1_ : Value, e = .returned (.agg #[v0_, v1_]) ∧ Kd.N (Kd.slice 3 (Kd.int .i64)) 39 w' w.heap.size (fun k_ => (w.heap.size ≤ k_) ∧ some k_ ≠ (v1_ : Value).ownBlock) v0_ r1 ∧ Kd.R Kd.bool 4 w' w.heap.size (fun k_ => (w.heap.size ≤ k_)) v1_ r2 ∧ Below w.heap.size w w' := by
 have hu27 := Try.underlying27
 have HR0 := Aside0.mk hr0
 have HC0 := Aside0.mk hc0
 clear hr0 hc0
 have HB := Aside0.mk (Below.refl w.heap.size w)
 have H : (if 0 ≤ (wrap64 ((wrap64 (2 * (l0.length : Int))) + 1)) then (if (wrap64 ((wrap64 (2 * (l0.length : Int))) + 1) : Int).toNat ≤ 281474976710656 then ((some (List.replicate (wrap64 ((wrap64 (2 * (l0.length : Int))) + 1) : Int).toNat false : List Bool)).bind fun y148 => (if 0 < (y148.length : Int) then ((spec_l04Close.f k l0 (y148.set (0 : Int).toNat true)).bind fun t152 => (spec_l04Compile.l0 k l0 (([t152] : List (List Bool))) 0 (([] : List (List Int))) (([] : List Bool)))) else (none))) else (none)) else (none)) = some (r1, r2) := h
 clear h
 obtain ⟨ji2, hji2⟩ : ∃ j_ : Int, (wrap64 ((wrap64 (2 * (l0.length : Int))) + 1)) = j_ := ⟨_, rfl⟩
 replace H : (if 0 ≤ (ji2) then (if (ji2 : Int).toNat ≤ 281474976710656 then ((some (List.replicate (ji2 : Int).toNat false : List Bool)).bind fun y148 => (if 0 < (y148.length : Int) then ((spec_l04Close.f k l0 (y148.set (0 : Int).toNat true)).bind fun t152 => (spec_l04Compile.l0 k l0 (([t152] : List (List Bool))) 0 (([] : List (List Int))) (([] : List Bool)))) else (none))) else (none)) else (none)) = some (r1, r2) := by first | (rw [hji2] at H; exact H) | (simp only [hji2] at H ⊢; exact H)
 have hji2w : (IntKind.i64.wrap ((wrap64 (2 * (l0.length : Int))) + 1)) = ji2 := (i64_w _).trans hji2
 obtain ⟨c3, H⟩ | ⟨c3, H⟩ := Xiu H
 ·have c3b0 := eq_true c3
  have c3b1 : decide (0 ≤ (ji2)) = true := decide_eq_true c3
  clear c3
  obtain ⟨c4, H⟩ := Xif H
  have c4b0 := eq_true c4
  have c4b1 : decide ((ji2 : Int).toNat ≤ 281474976710656) = true := decide_eq_true c4
  clear c4
  obtain ⟨y148, hy148⟩ : ∃ y_ : List Bool, y_ = (List.replicate (ji2 : Int).toNat false) := ⟨_, rfl⟩
  replace H : (if 0 < (y148.length : Int) then ((spec_l04Close.f k l0 (y148.set (0 : Int).toNat true)).bind fun t152 => (spec_l04Compile.l0 k l0 (([t152] : List (List Bool))) 0 (([] : List (List Int))) (([] : List Bool)))) else (none)) = some (r1, r2) := by first | (rw [hy148]; with_reducible exact H) | (have H2_ := (Option.bind_some _ _).symm.trans H; rw [hy148]; with_reducible exact H2_) | (have H2_ := (Option.bind_some _ _).symm.trans H; with_reducible exact H2_) | with_reducible exact H | (rw [hy148]; exact H) | exact H
  have Ny148 := Aside0.mk hy148
  clear hy148
  obtain ⟨c5, H⟩ := Xif H
  have c5b0 : decide (0 < (y148.length : Int)) = true := decide_eq_true c5
  have c5b1 : decide (0 < y148.length) = true := decide_eq_true (by omega)
  clear c5
  obtain ⟨y151, hy151⟩ : ∃ y_ : List Bool, y_ = (y148.set (0 : Int).toNat true) := ⟨_, rfl⟩
  replace H : ((spec_l04Close.f k l0 y151).bind fun t152 => (spec_l04Compile.l0 k l0 (([t152] : List (List Bool))) 0 (([] : List (List Int))) (([] : List Bool)))) = some (r1, r2) := by first | (rw [hy151]; with_reducible exact H) | (have H2_ := (Option.bind_some _ _).symm.trans H; rw [hy151]; with_reducible exact H2_) | (have H2_ := (Option.bind_some _ _).symm.trans H; with_reducible exact H2_) | with_reducible exact H | (rw [hy151]; exact H) | exact H
  have Ny151 := Aside0.mk hy151
  clear hy151
  obtain ⟨t152, A7, H⟩ := Xbi H
  (try dsimp only at H)
  obtain ⟨y155, hy155⟩ : ∃ y_ : List (List Bool), y_ = (([t152] : List (List Bool))) := ⟨_, rfl⟩
  replace H : (spec_l04Compile.l0 k l0 y155 0 (([] : List (List Int))) (([] : List Bool))) = some (r1, r2) := by first | (rw [hy155]; with_reducible exact H) | (have H2_ := (Option.bind_some _ _).symm.trans H; rw [hy155]; with_reducible exact H2_) | (have H2_ := (Option.bind_some _ _).symm.trans H; with_reducible exact H2_) | with_reducible exact H | (rw [hy155]; exact H) | exact H
  have Ny155 := Aside0.mk hy155
  clear hy155
  obtain ⟨y158, hy158⟩ : ∃ y_ : List (List Int), y_ = (([] : List (List Int))) := ⟨_, rfl⟩
  replace H : (spec_l04Compile.l0 k l0 y155 0 y158 (([] : List Bool))) = some (r1, r2) := by first | (rw [hy158]; with_reducible exact H) | (have H2_ := (Option.bind_some _ _).symm.trans H; rw [hy158]; with_reducible exact H2_) | (have H2_ := (Option.bind_some _ _).symm.trans H; with_reducible exact H2_) | with_reducible exact H | (rw [hy158]; exact H) | exact H
  have Ny158 := Aside0.mk hy158
  clear hy158
  obtain ⟨y161, hy161⟩ : ∃ y_ : List Bool, y_ = (([] : List Bool)) := ⟨_, rfl⟩
  replace H : (spec_l04Compile.l0 k l0 y155 0 y158 y161) = some (r1, r2) := by first | (rw [hy161]; with_reducible exact H) | (have H2_ := (Option.bind_some _ _).symm.trans H; rw [hy161]; with_reducible exact H2_) | (have H2_ := (Option.bind_some _ _).symm.trans H; with_reducible exact H2_) | with_reducible exact H | (rw [hy161]; exact H) | exact H
  have Ny161 := Aside0.mk hy161
  clear hy161
  have H' := Aside0.mk H
  clear H
  go_enter Try.func44, Try.ntmps44
  go_wp2_with (first | ((with_reducible refine gate_dst (N := 2) rfl ?_); refine Xbox 2 #[.slice none 0 0, .slice none 0 0] 27 ?_; intro gb147 hg w8 hbox hb; have BK147 := Aside0.mk (hbox); have GE147 := Xge hg Xi; replace HB := Aside0.mk (below_step Xi hb); clear hb hbox hg) | ((with_reducible refine gate_dst (N := 15) rfl ?_); refine Kd.R_make Kd.bool _ 4 rfl (N := 15) rfl 25 _ _ rfl ji2 rfl rfl Try.underlying25 (.bool false) 1 info4 rfl (by decide) (by omega) false (ok := fun _ => True) (okp := fun _ => True) rfl (fun _ hk => hk) trivial (of_decide_eq_true Xa) (Nat.le_trans (Nat.mul_le_mul_right _ (of_decide_eq_true Xa : ji2.toNat ≤ 281474976710656)) (by omega)) (Below.refl _ _) (Nat.le_refl _) ?_; intro v149 w9 ho10 hb hg_ hnew_; clear hg_ hnew_; (first | rw [← Ny148.out] at ho10 | (simp only [Int.reduceToNat] at ho10; rw [← Ny148.out] at ho10)); have HO150 := Aside0.mk (Kd.R_lower (Kd.R_newM (M := fun k_ => (w.heap.size ≤ k_)) ho10 (below_size Xi) (fun k_ h_ => h_)) (below_size Xi)); replace BK147 := Xbb BK147 hb; replace HB := Aside0.mk (below_step Xi hb); clear hb ho10; have p6 : 0 ≤ (0 : Int) := (by omega); have q6 : (0 : Int) < ((y148.length : Int) : Int) := of_decide_eq_true Xa; have qi6 : (0 < y148.length) = True := eq_true (by omega); obtain ⟨go6, co6, eo6, gb6, gl6, cl6, HG6⟩ := Kd.R_form HO150.out (by omega); (first | cases eo6 | (injection eo6 with ea_ en_ ec_; (first | subst ea_ | (injection ea_ with ea_; subst ea_)); subst ec_; clear en_)); have GB6 := Aside0.mk gb6; have GG6 := Aside0.mk HG6; clear gb6 gl6 HG6; obtain ⟨hx6_0, hf6_0⟩ := Kd.R_celln false HO150.out (0 : Int) p6 q6; (try rw [show ((0 : Int)).toNat = 0 from rfl] at hx6_0); (try simp only [Nat.reduceMul, Nat.zero_mul, Nat.zero_add, Nat.reduceAdd] at hx6_0); (try rw [show ((0 : Int)).toNat = 0 from rfl] at hf6_0); (try simp only [Nat.reduceMul, Nat.zero_mul, Nat.zero_add, Nat.reduceAdd] at hf6_0); replace p6 := eq_true p6; replace q6 := eq_true q6; have n_ := Aside0.mk (Kd.R_mono (ok' := (fun k_ => (w.heap.size ≤ k_))) HO150.out (fun k_ hk => hk.1)); clear HO150; have HO150 := n_; clear n_; obtain ⟨hy11_, hz11_⟩ := Kd.R_celln false HO150.out (0 : Int) (by omega) (of_decide_eq_true Xa); (try simp only [Int.reduceToNat, Int.toNat_zero, Int.toNat_ofNat, Nat.reduceMul, Nat.zero_mul, Nat.zero_add] at hy11_ hz11_); (try rw [show ((0 : Int)).toNat = 0 from rfl] at hy11_); (try rw [show ((0 : Int)).toNat = 0 from rfl] at hz11_); have HP11 := Kd.R_putg HO150.out (0 : Int) true) | ((with_reducible refine gate_store (t := 4) (p := 17) rfl ?_); refine store_event (t := 4) (p := 17) (v := ?vo_w12) (w1 := (w9.setCell ⟨go6, (0 : Int).toNat, none⟩ (.bool true))) ?hg ?ho ?hn ?hr ?_; (case ho => rfl); (case hg => rfl); (case hn => rfl); (case hr => first | (go_simp; done) | (go_simp; rfl)); intro w12 hw; have hg : w9.grownBy w12 (some go6) := (by rw [hw]; exact HP11.2); have hp_ : Kd.R Kd.bool 4 w12 w.heap.size (fun k_ => (w.heap.size ≤ k_)) (.slice (some ⟨go6, 0, none⟩) y148.length co6) y151 := (by rw [hw, Ny151.out]; exact HP11.1); clear HP11; replace BK147 := Aside0.mk (blk_grown (g := gb147) (o := .cells #[.slice none 0 0, .slice none 0 0] 27 (0, 0)) (Xq' BK147) hg (Kd.R_ne HO150.out BK147.out (by decide))); replace HO150 := Aside0.mk (hp_); replace HB := Aside0.mk ((by rw [hw]; exact below_set (HB.out) GB6.out : Below w.heap.size w w12)); clear hg hw hp_) | ((with_reducible refine gate_callee (f := 93) rfl ?_); refine goesL_ (some 20) rfl rfl Try.func93 (by kernel_rfl) rfl #[.slice A0 l0.length c0, .slice (some ⟨go6, 0, none⟩) y151.length co6] rfl (by (try simp only [List.map_toArray, List.map_cons, List.map_nil]); first | done | (rw [show y151.length = y148.length from (Kd.R_reads' HO150.out).1.symm] <;> rfl) | rfl | (simp only [List.length_drop, List.length_take]; rfl)) ?_; (with_reducible refine (spec_l04Close.calls k _ _ l0 _ _ y151 t152 _ ?side1 ?side2 ?side3 ?side4 A7.out).mono ?_); (case side1 => exact Xc HR0); (case side2 => exact HC0.out); (case side3 => repeat (first | exact (Kd.R_reads' HO150.out).2.2 | (with_reducible first | refine Kd.C_alloc ?_ _ | refine Kd.C_drewN ?_ _ | refine Kd.C_drew ?_))); (case side4 => rw [show y151.length = y148.length from (Kd.R_reads' HO150.out).1.symm]; exact (Kd.R_reads' HO150.out).2.1); rintro e w13 ⟨v153, rfl, ho0, hb⟩; refine ⟨_, rfl, ?_⟩; have HO154 := Aside0.mk (Kd.R_lower (Kd.R_new' (Kd.R_newM (M := fun k_ => (w.heap.size ≤ k_)) ho0 (below_size Xi) (fun k_ h_ => h_)) (Kd.R_lt (Xq HO150))) (below_size Xi)); replace HO150 := Aside0.mk (Kd.R_elder' (Xq HO150) (Kd.R_base ho0) hb); replace BK147 := Xbb BK147 hb; replace HB := Aside0.mk (below_step Xi hb); clear hb; (try clear ho0); obtain ⟨Ao14, co14, eo14⟩ := Kd.R_slice HO154.out; subst eo14) | ((with_reducible refine gate_dst (N := 21) rfl ?_); refine Kd.N_lit (Kd.slice 4 Kd.bool) _ 25 ?hg (N' := 21) ?hd (xs := ([t152] : List (List Bool))) (inner := [.slice Ao14 t152.length co14]) (ok := (fun k_ => (w.heap.size ≤ k_) ∧ some k_ ≠ (.slice (some ⟨go6, 0, none⟩) y148.length co6 : Value).ownBlock ∧ k_ ≠ gb147)) (okp := (fun k_ => (w.heap.size ≤ k_) ∧ some k_ ≠ (.slice (some ⟨go6, 0, none⟩) y148.length co6 : Value).ownBlock ∧ k_ ≠ gb147)) ?hr ?hp (fun _ hk => hk) ((show ∀ k_, w13.heap.size ≤ k_ → (fun k_ => (w.heap.size ≤ k_) ∧ some k_ ≠ (.slice (some ⟨go6, 0, none⟩) y148.length co6 : Value).ownBlock ∧ k_ ≠ gb147) k_ from fun k_ hk => ⟨(Nat.le_trans (below_size Xi) hk), Kd.fresh' (Kd.R_lt (Xq HO150)) k_ hk, Kd.freshB (g := gb147) (o := .cells #[.slice none 0 0, .slice none 0 0] 27 (0, 0)) (Xq' BK147) k_ hk⟩) _ (Nat.le_refl _)) (Below.refl _ _) (Nat.le_refl _) (by simp) ?_; (case hd => rfl); (case hg => rfl); (case hr => first | (go_simp; done) | (go_simp; rfl)); (case hp => exact (Reps.one (show Kd.FK (Kd.slice 4 Kd.bool) _ _ t152 [.slice Ao14 t152.length co14] from (Kd.FK_slice_mk (Kd.R_reads' (Kd.R_mono (ok' := (fun k_ => (w.heap.size ≤ k_) ∧ some k_ ≠ (.slice (some ⟨go6, 0, none⟩) y148.length co6 : Value).ownBlock ∧ k_ ≠ gb147)) (Kd.R_types (HO154.out) BK147.out (by decide)) (fun k_ hk => ⟨hk.1.1.1, ⟨hk.1.2, hk.2⟩⟩))).2.1 (Kd.R_F (Kd.R_mono (ok' := (fun k_ => (w.heap.size ≤ k_) ∧ some k_ ≠ (.slice (some ⟨go6, 0, none⟩) y148.length co6 : Value).ownBlock ∧ k_ ≠ gb147)) (Kd.R_types (HO154.out) BK147.out (by decide)) (fun k_ hk => ⟨hk.1.1.1, ⟨hk.1.2, hk.2⟩⟩))))) (Reps.none _ _))); intro v156 w15 ho16 hb hg_ hnew_; clear hg_ hnew_; (first | rw [← Ny155.out] at ho16 | (simp only [Int.reduceToNat] at ho16; rw [← Ny155.out] at ho16)); replace HO150 := Aside0.mk (Kd.R_below (Xq HO150) hb); have HO157 := Aside0.mk (Kd.N_lower ho16 (below_size Xi)); replace BK147 := Xbb BK147 hb; replace HB := Aside0.mk (below_step Xi hb); clear HO154; clear hb ho16) | ((with_reducible refine gate_dst (N := 22) rfl ?_); refine Kd.N_lit (Kd.slice 3 (Kd.int .i64)) _ 39 ?hg (N' := 22) ?hd (xs := ([] : List (List Int))) (inner := []) (ok := (fun k_ => (w.heap.size ≤ k_) ∧ some k_ ≠ (.slice (some ⟨go6, 0, none⟩) y148.length co6 : Value).ownBlock ∧ some k_ ≠ (v156 : Value).ownBlock ∧ k_ ≠ gb147)) (okp := (fun k_ => (w.heap.size ≤ k_) ∧ some k_ ≠ (.slice (some ⟨go6, 0, none⟩) y148.length co6 : Value).ownBlock ∧ some k_ ≠ (v156 : Value).ownBlock ∧ k_ ≠ gb147)) ?hr ?hp (fun _ hk => hk) ((show ∀ k_, w15.heap.size ≤ k_ → (fun k_ => (w.heap.size ≤ k_) ∧ some k_ ≠ (.slice (some ⟨go6, 0, none⟩) y148.length co6 : Value).ownBlock ∧ some k_ ≠ (v156 : Value).ownBlock ∧ k_ ≠ gb147) k_ from fun k_ hk => ⟨(Nat.le_trans (below_size Xi) hk), Kd.fresh' (Kd.R_lt (Xq HO150)) k_ hk, Kd.fresh' (Kd.N_lt (Xq HO157)) k_ hk, Kd.freshB (g := gb147) (o := .cells #[.slice none 0 0, .slice none 0 0] 27 (0, 0)) (Xq' BK147) k_ hk⟩) _ (Nat.le_refl _)) (Below.refl _ _) (Nat.le_refl _) (by simp) ?_; (case hd => rfl); (case hg => rfl); (case hr => first | (go_simp; done) | (go_simp; rfl)); (case hp => exact (Reps.none _ _)); intro v159 w17 ho18 hb hg_ hnew_; clear hg_ hnew_; (first | rw [← Ny158.out] at ho18 | (simp only [Int.reduceToNat] at ho18; rw [← Ny158.out] at ho18)); replace HO150 := Aside0.mk (Kd.R_below (Xq HO150) hb); replace HO157 := Aside0.mk (Kd.N_elder' (Xq HO157) (Kd.N_base ho18) hb); have HO160 := Aside0.mk (Kd.N_lower ho18 (below_size Xi)); replace BK147 := Xbb BK147 hb; replace HB := Aside0.mk (below_step Xi hb); clear hb ho18) | ((with_reducible refine gate_dst (N := 23) rfl ?_); refine Kd.R_lit Kd.bool _ 4 ?hg (N := 23) ?hd (xs := ([] : List Bool)) (inner := []) (ok := fun _ => True) (okp := fun _ => True) ?hr ?hp (fun _ hk => hk) trivial (Below.refl _ _) (Nat.le_refl _) (by simp) ?_; (case hd => rfl); (case hg => rfl); (case hr => first | (go_simp; done) | (go_simp; rfl)); (case hp => exact (Reps.none _ _)); intro v162 w19 ho20 hb hg_ hnew_; clear hg_ hnew_; (first | rw [← Ny161.out] at ho20 | (simp only [Int.reduceToNat] at ho20; rw [← Ny161.out] at ho20)); replace HO157 := Aside0.mk (Kd.N_elder' (Xq HO157) (Kd.R_base ho20) hb); replace HO160 := Aside0.mk (Kd.N_elder' (Xq HO160) (Kd.R_base ho20) hb); have HO163 := Aside0.mk (Kd.R_lower (Kd.R_new' (Kd.R_newM (M := fun k_ => (w.heap.size ≤ k_)) ho20 (below_size Xi) (fun k_ h_ => h_)) (Kd.R_lt (Xq HO150))) (below_size Xi)); replace HO150 := Aside0.mk (Kd.R_elder' (Xq HO150) (Kd.R_base ho20) hb); replace BK147 := Xbb BK147 hb; replace HB := Aside0.mk (below_step Xi hb); clear hb ho20; obtain ⟨Ao21, co21, eo21⟩ := Kd.R_slice HO163.out; subst eo21; obtain ⟨Ao22, co22, eo22⟩ := Kd.N_slice HO160.out; subst eo22) | ((with_reducible refine gate_dst (N := 5) rfl ?_); refine Xbox 5 #[.slice none 0 0, .slice none 0 0] 27 ?_; intro gb164 hg w23 hbox hb; replace HO150 := Aside0.mk (Kd.R_below (Xq HO150) hb); replace HO157 := Aside0.mk (Kd.N_below (Kd.N_elderB (Xq HO157) gb164 (Nat.le_of_eq hg.symm)) hb); replace HO160 := Aside0.mk (Kd.N_below (Kd.N_elderB (Xq HO160) gb164 (Nat.le_of_eq hg.symm)) hb); replace HO163 := Aside0.mk (Kd.R_below (Xq HO163) hb); have BK164 := Aside0.mk (hbox); have GE164 := Xge hg Xi; replace HB := Aside0.mk (below_step Xi hb); have NB147_164 := Xnb hg BK147; have NB164_147 := Xns NB147_164; replace BK147 := Xbb BK147 hb; clear hb hbox hg; have hnb24 := NB164_147.out; have hnc24 := NB147_164.out; obtain ⟨hcz25_0, hcz25_1⟩ := Xc2 BK164; obtain ⟨hfz25_0, hfz25_1⟩ := Xf2 BK164))
  go_loopg [4, 6] k (fun kq v4 v6 w' => ∃ (x4_1 : List (List Bool)) (x6_1 : Int) (x165000_1 : List (List Int)) (x165001_1 : List Bool) (u165000 : Value) (u165001 : Value), v6 = .int .i64 x6_1 ∧ Aside0 (spec_l04Compile.l0 kq l0 x4_1 x6_1 x165000_1 x165001_1 = some (r1, r2)) ∧ Aside0 (kq ≤ k) ∧ Aside0 (Kd.N (Kd.slice 4 Kd.bool) 25 w' w.heap.size (fun k_ => (w.heap.size ≤ k_) ∧ some k_ ≠ (u165000 : Value).ownBlock ∧ some k_ ≠ (u165001 : Value).ownBlock ∧ k_ ≠ gb147 ∧ k_ ≠ gb164) v4 x4_1) ∧ Aside0 (Kd.N (Kd.slice 3 (Kd.int .i64)) 39 w' w.heap.size (fun k_ => (w.heap.size ≤ k_) ∧ some k_ ≠ (v4 : Value).ownBlock ∧ some k_ ≠ (u165001 : Value).ownBlock ∧ k_ ≠ gb147 ∧ k_ ≠ gb164) u165000 x165000_1) ∧ Aside0 (Kd.R Kd.bool 4 w' w.heap.size (fun k_ => (w.heap.size ≤ k_)) u165001 x165001_1) ∧ Aside0 (w'.heap[gb147]? = some (.cells #[(.slice none 0 0), (.slice none 0 0)] 27 (0, 0))) ∧ Aside0 (w'.heap[gb164]? = some (.cells #[u165000, u165001] 27 (0, 0))) ∧ Aside0 (Below w.heap.size w w'))
  case atStart => exact ⟨(y155), (0), (y158), (y161), (.slice Ao22 y158.length co22), (.slice Ao21 y161.length co21), Xr, H', Xkr, ⟨by (with_reducible repeat (first | apply Kd.N_alloc | apply Kd.N_drewN | apply Kd.N_drew)); exact Kd.N_mono (Kd.N_far (p := ⟨gb164, 1, none⟩) (Kd.N_far (p := ⟨gb164, 0, none⟩) (Kd.N_mono HO157.out (fun k_ hk => (⟨hk, hk.2⟩ : _ ∧ k_ ≠ gb164))) (fun _ hk => hk.2) (.slice Ao22 y158.length co22)) (fun _ hk => hk.2) (.slice Ao21 y161.length co21)) (fun _ hk => ⟨hk.1.1.1.1.1, ⟨hk.1.1.1.2, ⟨hk.1.1.2, ⟨hk.1.1.1.1.2.2, hk.1.2⟩⟩⟩⟩)⟩, ⟨by (with_reducible repeat (first | apply Kd.N_alloc | apply Kd.N_drewN | apply Kd.N_drew)); exact Kd.N_mono (Kd.N_far (p := ⟨gb164, 1, none⟩) (Kd.N_far (p := ⟨gb164, 0, none⟩) (Kd.N_mono HO160.out (fun k_ hk => (⟨hk, hk.2⟩ : _ ∧ k_ ≠ gb164))) (fun _ hk => hk.2) (.slice Ao22 y158.length co22)) (fun _ hk => hk.2) (.slice Ao21 y161.length co21)) (fun _ hk => ⟨hk.1.1.1.1, ⟨hk.1.1.1.2.2.1, ⟨hk.1.1.2, ⟨hk.1.1.1.2.2.2, hk.1.2⟩⟩⟩⟩)⟩, ⟨by (with_reducible repeat (first | apply Kd.R_alloc | apply Kd.R_drewN | apply Kd.R_drew)); exact Kd.R_mono (Kd.R_far (p := ⟨gb164, 1, none⟩) (Kd.R_far (p := ⟨gb164, 0, none⟩) (Kd.R_types HO163.out BK164.out (by decide)) (fun _ hk => hk.2) (.slice Ao22 y158.length co22)) (fun _ hk => hk.2) (.slice Ao21 y161.length co21)) (fun _ hk => hk.1.1.1)⟩, ⟨by (with_reducible repeat (first | refine blk_drewN ?_ _ | refine blk_drew ?_ | refine blk_alloc ?_ _)); refine blk_far ?_ NB147_164.out _; (with_reducible repeat (first | refine blk_drewN ?_ _ | refine blk_drew ?_ | refine blk_alloc ?_ _)); refine blk_far ?_ NB147_164.out _; (with_reducible repeat (first | refine blk_drewN ?_ _ | refine blk_drew ?_ | refine blk_alloc ?_ _)); exact BK147.out⟩, ⟨by (with_reducible repeat (first | refine blk_drewN ?_ _ | refine blk_drew ?_ | refine blk_alloc ?_ _)); refine blk_put (cs := #[.slice Ao22 y158.length co22, .slice none 0 0]) ?_ 1 _ rfl; (with_reducible repeat (first | refine blk_drewN ?_ _ | refine blk_drew ?_ | refine blk_alloc ?_ _)); refine blk_put (cs := #[.slice none 0 0, .slice none 0 0]) ?_ 0 _ rfl; (with_reducible repeat (first | refine blk_drewN ?_ _ | refine blk_drew ?_ | refine blk_alloc ?_ _)); exact BK164.out⟩, ⟨Xi⟩⟩
  case round =>
   clear H'
   (try clear c3); (try clear c3b0); (try clear c3b1); (try clear c4); (try clear c4b0); (try clear c4b1); (try clear c5); (try clear c5b0); (try clear c5b1); (try clear p6); (try clear q6); (try clear qi6); (try clear hcz25_0); (try clear hcz25_1); (try clear hfz25_0); (try clear hfz25_1); (try clear hx6_0); (try clear p6); (try clear q6)
   obtain ⟨x4_1, x6_1, x165000_1, x165001_1, u165000, u165001, rfl, HA, HK1, HO_4, HO_165000, HO_165001, BK147, BK164, HB⟩ := hrel
   cases gk with
   | zero => cases HA.out
   | succ k1 =>
    have H := HA.out
    clear HA
    simp only [spec_l04Compile.l0] at H
    obtain ⟨c26b0, H⟩ | ⟨c26b0, H⟩ := Xit H
    ·obtain ⟨y165, hy165⟩ : ∃ y_ : List Int, y_ = (([] : List Int)) := ⟨_, rfl⟩
     replace H : (spec_l04Compile.l1 k1 l0 x4_1 x6_1 y165 1 x165000_1 x165001_1) = some (r1, r2) := by first | (rw [hy165]; with_reducible exact H) | (have H2_ := (Option.bind_some _ _).symm.trans H; rw [hy165]; with_reducible exact H2_) | (have H2_ := (Option.bind_some _ _).symm.trans H; with_reducible exact H2_) | with_reducible exact H | (rw [hy165]; exact H) | exact H
     have Ny165 := Aside0.mk hy165
     clear hy165
     have H' := Aside0.mk H
     clear H
     obtain ⟨Ao27, co27, eo27⟩ := Kd.N_slice HO_4.out
     subst eo27
     go_wp2_with (first | ((with_reducible refine gate_dst (N := 31) rfl ?_); refine Kd.R_lit (Kd.int .i64) _ 3 ?hg (N := 31) ?hd (xs := ([] : List Int)) (inner := []) (ok := fun _ => True) (okp := fun _ => True) ?hr ?hp (fun _ hk => hk) trivial (Below.refl _ _) (Nat.le_refl _) (by simp) ?_; (case hd => rfl); (case hg => rfl); (case hr => first | (go_simp; done) | (go_simp; rfl)); (case hp => exact (Reps.none _ _)); intro v166 w28 ho29 hb hg_ hnew_; clear hg_ hnew_; (first | rw [← Ny165.out] at ho29 | (simp only [Int.reduceToNat] at ho29; rw [← Ny165.out] at ho29)); replace HO_4 := Aside0.mk (Kd.N_elder' (Xq HO_4) (Kd.R_base ho29) hb); replace HO_165000 := Aside0.mk (Kd.N_elder' (Xq HO_165000) (Kd.R_base ho29) hb); replace HO_165001 := Aside0.mk (Kd.R_below (Xq HO_165001) hb); have HO167 := Aside0.mk (Kd.R_lower (Kd.R_newM (M := fun k_ => (w.heap.size ≤ k_)) ho29 (below_size Xi) (fun k_ h_ => h_)) (below_size Xi)); replace BK147 := Xbb BK147 hb; replace BK164 := Xbb BK164 hb; replace HB := Aside0.mk (below_step Xi hb); clear hb ho29))
     go_loopg [4, 7, 8] k1 (fun kq v4 v7 v8 w' => ∃ (x4_2 : List (List Bool)) (x7_2 : List Int) (x8_2 : Int), v8 = .int .i64 x8_2 ∧ Aside0 (spec_l04Compile.l1 kq l0 x4_2 x6_1 x7_2 x8_2 x165000_1 x165001_1 = some (r1, r2)) ∧ Aside0 (kq ≤ k1) ∧ Aside0 (Kd.N (Kd.slice 4 Kd.bool) 25 w' w.heap.size (fun k_ => (w.heap.size ≤ k_) ∧ some k_ ≠ (v7 : Value).ownBlock ∧ some k_ ≠ (u165000 : Value).ownBlock ∧ some k_ ≠ (u165001 : Value).ownBlock ∧ k_ ≠ gb147 ∧ k_ ≠ gb164) v4 x4_2) ∧ Aside0 (Kd.R (Kd.int .i64) 3 w' w.heap.size (fun k_ => (w.heap.size ≤ k_)) v7 x7_2) ∧ Aside0 (Kd.N (Kd.slice 3 (Kd.int .i64)) 39 w' w.heap.size (fun k_ => (w.heap.size ≤ k_) ∧ some k_ ≠ (v4 : Value).ownBlock ∧ some k_ ≠ (v7 : Value).ownBlock ∧ some k_ ≠ (u165001 : Value).ownBlock ∧ k_ ≠ gb147 ∧ k_ ≠ gb164) u165000 x165000_1) ∧ Aside0 (Kd.R Kd.bool 4 w' w.heap.size (fun k_ => (w.heap.size ≤ k_)) u165001 x165001_1) ∧ Aside0 (w'.heap[gb147]? = some (.cells #[(.slice none 0 0), (.slice none 0 0)] 27 (0, 0))) ∧ Aside0 (w'.heap[gb164]? = some (.cells #[u165000, u165001] 27 (0, 0))) ∧ Aside0 (Below w.heap.size w w'))
     case atStart => exact ⟨(x4_1), (y165), (1), Xr, H', Xkr, ⟨by (with_reducible repeat (first | apply Kd.N_alloc | apply Kd.N_drewN | apply Kd.N_drew)); exact Kd.N_mono HO_4.out (fun _ hk => ⟨hk.1.1, ⟨hk.2, ⟨hk.1.2.1, ⟨hk.1.2.2.1, ⟨hk.1.2.2.2.1, hk.1.2.2.2.2⟩⟩⟩⟩⟩)⟩, ⟨by (with_reducible repeat (first | apply Kd.R_alloc | apply Kd.R_drewN | apply Kd.R_drew)); exact Kd.R_mono HO167.out (fun _ hk => hk.1)⟩, ⟨by (with_reducible repeat (first | apply Kd.N_alloc | apply Kd.N_drewN | apply Kd.N_drew)); exact Kd.N_mono HO_165000.out (fun _ hk => ⟨hk.1.1, ⟨hk.1.2.1, ⟨hk.2, ⟨hk.1.2.2.1, ⟨hk.1.2.2.2.1, hk.1.2.2.2.2⟩⟩⟩⟩⟩)⟩, (Xp' HO_165001), (Xp BK147), (Xp BK164), ⟨Xi⟩⟩
     case round =>
      clear H'
      (try clear c3); (try clear c3b0); (try clear c3b1); (try clear c4); (try clear c4b0); (try clear c4b1); (try clear c5); (try clear c5b0); (try clear c5b1); (try clear p6); (try clear q6); (try clear qi6); (try clear c26); (try clear c26b0); (try clear hcz25_0); (try clear hcz25_1); (try clear hfz25_0); (try clear hfz25_1); (try clear hx6_0); (try clear p6); (try clear q6)
      obtain ⟨x4_2, x7_2, x8_2, rfl, HA, HK2, HO_4, HO_7, HO_165000, HO_165001, BK147, BK164, HB⟩ := hrel
      cases gk with
      | zero => cases HA.out
      | succ k2 =>
       have H := HA.out
       clear HA
       simp only [spec_l04Compile.l1] at H
       obtain ⟨c30b0, H⟩ | ⟨c30b0, H⟩ := Xit H
       ·obtain ⟨c31b0, H⟩ := Xid H
        obtain ⟨c32b0, H⟩ := Xid H
        obtain ⟨t177, A33, H⟩ := Xbi H
        (try dsimp only at H)
        obtain ⟨t180, A34, H⟩ := Xbi H
        (try dsimp only at H)
        have HC35 := Aside0.mk H
        clear H
        obtain ⟨Ao36, co36, eo36⟩ := Kd.N_slice HO_4.out
        subst eo36
        have p176 : 0 ≤ (x6_1 : Int) := of_decide_eq_true Xa
        have q176 : x6_1 < (x4_2.length : Int) := of_decide_eq_true Xa
        obtain ⟨ad176, A176_0, c176_0, e176, hx176_0, hl176_0, hi176_0⟩ := at_L5 (Kd.N_reads' HO_4.out).2.2 x6_1 p176 q176
        cases e176
        obtain ⟨ce176, hce176, hMe176, hcc176⟩ := Kd.N_get HO_4.out [] x6_1 p176 (by first | exact q176 | exact of_decide_eq_true Xa | (have e_ := (Kd.N_reads' HO_4.out).1; omega))
        obtain ⟨ua176_0, uc176_0, rfl, ul176_0, ge176_0⟩ := Kd.FK_slice_open hMe176
        have hv176_0 := hcc176 0 _ rfl
        rw [Nat.add_zero, show ((Kd.slice 4 Kd.bool)).sz = 1 from rfl, Nat.mul_one] at hv176_0
        replace hv176_0 := Option.some.inj (hv176_0.symm.trans hx176_0)
        injection hv176_0 with hva_ hvn_ hvc_
        rw [hva_] at ge176_0
        rw [hvc_] at ul176_0
        have HL176_0 := Aside0.mk (show Kd.V Kd.bool 4 _ w.heap.size _ _ (rd_L5 x4_2 x6_1) from Kd.V_mk ul176_0 ge176_0)
        clear hva_ hvn_ hvc_ ge176_0 ul176_0
        clear hcc176 hce176
        have HR176_0 := Aside0.mk hi176_0
        have HC176_0 := Aside0.mk hl176_0
        clear hi176_0 hl176_0
        replace p176 := eq_true p176
        replace q176 := eq_true q176
        go_upto_if 45 with (first | ((with_reducible refine gate_callee (f := 94) rfl ?_); refine Xgo 42 Try.func94 #[.slice A0 l0.length c0, .slice A176_0 (rd_L5 x4_2 x6_1).length c176_0, .int .i64 x8_2] ?_; (with_reducible refine (spec_l04Step.calls k2 _ _ l0 _ _ (rd_L5 x4_2 x6_1) x8_2 t177 _ ?side1 ?side2 ?side3 ?side4 A33.out).mono ?_); (case side1 => exact Xc HR0); (case side2 => exact HC0.out); (case side3 => repeat (first | exact (by repeat (first | (with_reducible exact HR176_0.out) | (with_reducible first | refine Kd.C_alloc ?_ _ | refine Kd.C_drewN ?_ _ | refine Kd.C_drew ?_) | exact HR176_0.out)) | (with_reducible first | refine Kd.C_alloc ?_ _ | refine Kd.C_drewN ?_ _ | refine Kd.C_drew ?_))); (case side4 => exact HC176_0.out); rintro e w37 ⟨v178, rfl, ho0, hb⟩; refine ⟨_, rfl, ?_⟩; replace HO_4 := Aside0.mk (Kd.N_elder' (Xq HO_4) (Kd.R_base ho0) hb); replace HO_7 := Aside0.mk (Kd.R_below (Xq HO_7) hb); replace HO_165000 := Aside0.mk (Kd.N_elder' (Xq HO_165000) (Kd.R_base ho0) hb); replace HL176_0 := Aside0.mk (Kd.V_elder' (by (with_reducible repeat (first | apply Kd.V_alloc | apply Kd.V_drewN | apply Kd.V_drew)); exact HL176_0.out) (Kd.R_base ho0) hb); have HO179 := Aside0.mk (Kd.R_lower (Kd.R_new' (Kd.R_newM (M := fun k_ => (w.heap.size ≤ k_)) ho0 (below_size Xi) (fun k_ h_ => h_)) (Kd.R_lt (Xq HO_165001))) (below_size Xi)); replace HO_165001 := Aside0.mk (Kd.R_elder' (Xq HO_165001) (Kd.R_base ho0) hb); replace BK147 := Xbb BK147 hb; replace BK164 := Xbb BK164 hb; replace HR176_0 := Aside0.mk (Kd.C_below (by repeat (first | (with_reducible exact HR176_0.out) | (with_reducible first | refine Kd.C_alloc ?_ _ | refine Kd.C_drewN ?_ _ | refine Kd.C_drew ?_) | exact HR176_0.out)) hb); replace HB := Aside0.mk (below_step Xi hb); clear hb; (try clear ho0); obtain ⟨Ao38, co38, eo38⟩ := Kd.R_slice HO179.out; subst eo38) | ((with_reducible refine gate_callee (f := 95) rfl ?_); refine Xgo 44 Try.func95 #[.slice Ao38 t177.length co38] ?_; (with_reducible refine (spec_l04Any.calls k2 _ _ t177 t180 _ ?side1 ?side2 A34.out).mono ?_); (case side1 => repeat (first | exact (Kd.R_reads' HO179.out).2.2 | (with_reducible first | refine Kd.C_alloc ?_ _ | refine Kd.C_drewN ?_ _ | refine Kd.C_drew ?_))); (case side2 => exact (Kd.R_reads' HO179.out).2.1); rintro e w' ⟨rfl, ⟨nd, rfl⟩⟩; refine ⟨_, rfl, ?_⟩))
        (try (rw [drewN_self w37]; generalize hq_ : World.drewN w37 _ = w37; have n0_ : Aside0 (Kd.V Kd.bool 4 w37 w.heap.size (fun k_ => (w.heap.size ≤ k_) ∧ some k_ ≠ (u7 : Value).ownBlock ∧ some k_ ≠ (u165000 : Value).ownBlock ∧ some k_ ≠ (u165001 : Value).ownBlock ∧ some k_ ≠ (.slice (some ad176) x4_2.length co36 : Value).ownBlock ∧ some k_ ≠ (.slice Ao38 t177.length co38 : Value).ownBlock ∧ k_ ≠ gb147 ∧ k_ ≠ gb164) (.slice A176_0 (rd_L5 x4_2 x6_1).length c176_0) (rd_L5 x4_2 x6_1)) := ⟨by rw [← hq_]; exact (by (with_reducible repeat (first | apply Kd.V_alloc | apply Kd.V_drewN | apply Kd.V_drew)); exact Kd.V_mono HL176_0.out (fun _ hk => ⟨hk.1.1.1, ⟨hk.1.1.2.1, ⟨hk.1.1.2.2.1, ⟨hk.1.1.2.2.2.1, ⟨hk.1.2, ⟨hk.2, ⟨hk.1.1.2.2.2.2.1, hk.1.1.2.2.2.2.2⟩⟩⟩⟩⟩⟩⟩))⟩; have n1_ : Aside0 (Kd.R Kd.bool 4 w37 w.heap.size (fun k_ => (w.heap.size ≤ k_) ∧ some k_ ≠ (u165001 : Value).ownBlock) (.slice Ao38 t177.length co38) t177) := ⟨by rw [← hq_]; exact (by (with_reducible repeat (first | apply Kd.R_alloc | apply Kd.R_drewN | apply Kd.R_drew)); exact Kd.R_mono HO179.out (fun _ hk => ⟨hk.1.1, hk.2⟩))⟩; have n2_ : Aside0 (Kd.N (Kd.slice 3 (Kd.int .i64)) 39 w37 w.heap.size (fun k_ => (w.heap.size ≤ k_) ∧ some k_ ≠ (.slice (some ad176) x4_2.length co36 : Value).ownBlock ∧ some k_ ≠ (u7 : Value).ownBlock ∧ some k_ ≠ (u165001 : Value).ownBlock ∧ some k_ ≠ (.slice Ao38 t177.length co38 : Value).ownBlock ∧ k_ ≠ gb147 ∧ k_ ≠ gb164) u165000 x165000_1) := ⟨by rw [← hq_]; exact (by (with_reducible repeat (first | apply Kd.N_alloc | apply Kd.N_drewN | apply Kd.N_drew)); exact Kd.N_mono HO_165000.out (fun _ hk => ⟨hk.1.1, ⟨hk.1.2.1, ⟨hk.1.2.2.1, ⟨hk.1.2.2.2.1, ⟨hk.2, ⟨hk.1.2.2.2.2.1, hk.1.2.2.2.2.2⟩⟩⟩⟩⟩⟩))⟩; have n3_ : Aside0 (Kd.R Kd.bool 4 w37 w.heap.size (fun k_ => (w.heap.size ≤ k_) ∧ some k_ ≠ (.slice Ao38 t177.length co38 : Value).ownBlock) u165001 x165001_1) := ⟨by rw [← hq_]; exact (Xq HO_165001)⟩; have n4_ : Aside0 (Kd.N (Kd.slice 4 Kd.bool) 25 w37 w.heap.size (fun k_ => (w.heap.size ≤ k_) ∧ some k_ ≠ (u7 : Value).ownBlock ∧ some k_ ≠ (u165000 : Value).ownBlock ∧ some k_ ≠ (u165001 : Value).ownBlock ∧ some k_ ≠ (.slice Ao38 t177.length co38 : Value).ownBlock ∧ k_ ≠ gb147 ∧ k_ ≠ gb164) (.slice (some ad176) x4_2.length co36) x4_2) := ⟨by rw [← hq_]; exact (by (with_reducible repeat (first | apply Kd.N_alloc | apply Kd.N_drewN | apply Kd.N_drew)); exact Kd.N_mono HO_4.out (fun _ hk => ⟨hk.1.1, ⟨hk.1.2.1, ⟨hk.1.2.2.1, ⟨hk.1.2.2.2.1, ⟨hk.2, ⟨hk.1.2.2.2.2.1, hk.1.2.2.2.2.2⟩⟩⟩⟩⟩⟩))⟩; have n5_ : Aside0 (Kd.R (Kd.int .i64) 3 w37 w.heap.size (fun k_ => (w.heap.size ≤ k_)) u7 x7_2) := ⟨by rw [← hq_]; exact (Xq HO_7)⟩; have n6_ : Aside0 (w37.heap[gb147]? = some (.cells #[.slice none 0 0, .slice none 0 0] 27 (0, 0))) := ⟨by rw [← hq_]; exact (Xq' BK147)⟩; have n7_ : Aside0 (w37.heap[gb164]? = some (.cells #[u165000, u165001] 27 (0, 0))) := ⟨by rw [← hq_]; exact (Xq' BK164)⟩; have n8_ : Aside0 (Below w.heap.size w w37) := ⟨by rw [← hq_]; exact Xi⟩; have n9_ : Aside0 (Kd.C Kd.bool w37 A176_0 (rd_L5 x4_2 x6_1).length (rd_L5 x4_2 x6_1)) := ⟨by rw [← hq_]; exact (by repeat (first | (with_reducible exact HR176_0.out) | (with_reducible first | refine Kd.C_alloc ?_ _ | refine Kd.C_drewN ?_ _ | refine Kd.C_drew ?_) | exact HR176_0.out))⟩; clear HL176_0 HO179 HO_165000 HO_165001 HO_4 HO_7 BK147 BK164 HB HR176_0 hq_; have HL176_0 := n0_; have HO179 := n1_; have HO_165000 := n2_; have HO_165001 := n3_; have HO_4 := n4_; have HO_7 := n5_; have BK147 := n6_; have BK164 := n7_; have HB := n8_; have HR176_0 := n9_; clear n0_ n1_ n2_ n3_ n4_ n5_ n6_ n7_ n8_ n9_))
        have H := HC35.out
        clear HC35
        by_cases c39 : t180 = true
        ·subst c39
         (first | rw [if_pos rfl] at H | skip)
         obtain ⟨t181, A40, H⟩ := Xbi H
         (try dsimp only at H)
         have HC41 := Aside0.mk H
         clear H
         go_upto_if 53 with (first | ((with_reducible refine gate_callee (f := 96) rfl ?_); refine Xgo 51 Try.func96 #[.slice (some ad176) x4_2.length co36, .slice Ao38 t177.length co38] ?_; (with_reducible refine (spec_l04Find.calls k2 _ _ x4_2 _ _ t177 t181 _ ?side1 ?side2 ?side3 ?side4 A40.out).mono ?_); (case side1 => repeat (first | exact (Kd.N_reads' HO_4.out).2.2 | (with_reducible first | refine Kd.C_alloc ?_ _ | refine Kd.C_drewN ?_ _ | refine Kd.C_drew ?_))); (case side2 => exact (Kd.N_reads' HO_4.out).2.1); (case side3 => repeat (first | exact (Kd.R_reads' HO179.out).2.2 | (with_reducible first | refine Kd.C_alloc ?_ _ | refine Kd.C_drewN ?_ _ | refine Kd.C_drew ?_))); (case side4 => exact (Kd.R_reads' HO179.out).2.1); rintro e w' ⟨rfl, ⟨nd, rfl⟩⟩; refine ⟨_, rfl, ?_⟩))
         (try (rw [drewN_self w37]; generalize hq_ : World.drewN w37 _ = w37; have n0_ : Aside0 (Kd.V Kd.bool 4 w37 w.heap.size (fun k_ => (w.heap.size ≤ k_) ∧ some k_ ≠ (u7 : Value).ownBlock ∧ some k_ ≠ (u165000 : Value).ownBlock ∧ some k_ ≠ (u165001 : Value).ownBlock ∧ some k_ ≠ (.slice (some ad176) x4_2.length co36 : Value).ownBlock ∧ some k_ ≠ (.slice Ao38 t177.length co38 : Value).ownBlock ∧ k_ ≠ gb147 ∧ k_ ≠ gb164) (.slice A176_0 (rd_L5 x4_2 x6_1).length c176_0) (rd_L5 x4_2 x6_1)) := ⟨by rw [← hq_]; exact (by (with_reducible repeat (first | apply Kd.V_alloc | apply Kd.V_drewN | apply Kd.V_drew)); exact HL176_0.out)⟩; have n1_ : Aside0 (Kd.R Kd.bool 4 w37 w.heap.size (fun k_ => (w.heap.size ≤ k_) ∧ some k_ ≠ (u165001 : Value).ownBlock) (.slice Ao38 t177.length co38) t177) := ⟨by rw [← hq_]; exact (Xq HO179)⟩; have n2_ : Aside0 (Kd.N (Kd.slice 3 (Kd.int .i64)) 39 w37 w.heap.size (fun k_ => (w.heap.size ≤ k_) ∧ some k_ ≠ (.slice (some ad176) x4_2.length co36 : Value).ownBlock ∧ some k_ ≠ (u7 : Value).ownBlock ∧ some k_ ≠ (u165001 : Value).ownBlock ∧ some k_ ≠ (.slice Ao38 t177.length co38 : Value).ownBlock ∧ k_ ≠ gb147 ∧ k_ ≠ gb164) u165000 x165000_1) := ⟨by rw [← hq_]; exact (Xq HO_165000)⟩; have n3_ : Aside0 (Kd.R Kd.bool 4 w37 w.heap.size (fun k_ => (w.heap.size ≤ k_) ∧ some k_ ≠ (.slice Ao38 t177.length co38 : Value).ownBlock) u165001 x165001_1) := ⟨by rw [← hq_]; exact (Xq HO_165001)⟩; have n4_ : Aside0 (Kd.N (Kd.slice 4 Kd.bool) 25 w37 w.heap.size (fun k_ => (w.heap.size ≤ k_) ∧ some k_ ≠ (u7 : Value).ownBlock ∧ some k_ ≠ (u165000 : Value).ownBlock ∧ some k_ ≠ (u165001 : Value).ownBlock ∧ some k_ ≠ (.slice Ao38 t177.length co38 : Value).ownBlock ∧ k_ ≠ gb147 ∧ k_ ≠ gb164) (.slice (some ad176) x4_2.length co36) x4_2) := ⟨by rw [← hq_]; exact (Xq HO_4)⟩; have n5_ : Aside0 (Kd.R (Kd.int .i64) 3 w37 w.heap.size (fun k_ => (w.heap.size ≤ k_)) u7 x7_2) := ⟨by rw [← hq_]; exact (Xq HO_7)⟩; have n6_ : Aside0 (w37.heap[gb147]? = some (.cells #[.slice none 0 0, .slice none 0 0] 27 (0, 0))) := ⟨by rw [← hq_]; exact (Xq' BK147)⟩; have n7_ : Aside0 (w37.heap[gb164]? = some (.cells #[u165000, u165001] 27 (0, 0))) := ⟨by rw [← hq_]; exact (Xq' BK164)⟩; have n8_ : Aside0 (Below w.heap.size w w37) := ⟨by rw [← hq_]; exact Xi⟩; have n9_ : Aside0 (Kd.C Kd.bool w37 A176_0 (rd_L5 x4_2 x6_1).length (rd_L5 x4_2 x6_1)) := ⟨by rw [← hq_]; exact (by repeat (first | (with_reducible exact HR176_0.out) | (with_reducible first | refine Kd.C_alloc ?_ _ | refine Kd.C_drewN ?_ _ | refine Kd.C_drew ?_) | exact HR176_0.out))⟩; clear HL176_0 HO179 HO_165000 HO_165001 HO_4 HO_7 BK147 BK164 HB HR176_0 hq_; have HL176_0 := n0_; have HO179 := n1_; have HO_165000 := n2_; have HO_165001 := n3_; have HO_4 := n4_; have HO_7 := n5_; have BK147 := n6_; have BK164 := n7_; have HB := n8_; have HR176_0 := n9_; clear n0_ n1_ n2_ n3_ n4_ n5_ n6_ n7_ n8_ n9_))
         have H := HC41.out
         clear HC41
         obtain ⟨c42b0, H⟩ | ⟨c42b0, H⟩ := Xit H
         ·(first | rw [c42b0] | (simp only [i64_w, i32_w]; rw [c42b0]) | skip)
          obtain ⟨c43, H⟩ := Xif H
          have LMc43 := Aside0.mk c43
          clear c43
          obtain ⟨y182, hy182⟩ : ∃ y_ : List (List Bool), y_ = (x4_2 ++ [t177]) := ⟨_, rfl⟩
          replace H : (if x7_2.length < 17592186044416 then (spec_l04Compile.l1 k2 l0 y182 x6_1 (x7_2 ++ [(x4_2.length : Int)]) (wrap64 (x8_2 + 1)) x165000_1 x165001_1) else (none)) = some (r1, r2) := by first | (rw [hy182]; with_reducible exact H) | (have H2_ := (Option.bind_some _ _).symm.trans H; rw [hy182]; with_reducible exact H2_) | (have H2_ := (Option.bind_some _ _).symm.trans H; with_reducible exact H2_) | with_reducible exact H | (rw [hy182]; exact H) | exact H
          have Ny182 := Aside0.mk hy182
          clear hy182
          obtain ⟨c44, H⟩ := Xif H
          have LMc44 := Aside0.mk c44
          clear c44
          obtain ⟨y185, hy185⟩ : ∃ y_ : List Int, y_ = (x7_2 ++ [(x4_2.length : Int)]) := ⟨_, rfl⟩
          replace H : (spec_l04Compile.l1 k2 l0 y182 x6_1 y185 (wrap64 (x8_2 + 1)) x165000_1 x165001_1) = some (r1, r2) := by first | (rw [hy185]; with_reducible exact H) | (have H2_ := (Option.bind_some _ _).symm.trans H; rw [hy185]; with_reducible exact H2_) | (have H2_ := (Option.bind_some _ _).symm.trans H; with_reducible exact H2_) | with_reducible exact H | (rw [hy185]; exact H) | exact H
          have Ny185 := Aside0.mk hy185
          clear hy185
          have H' := Aside0.mk H
          clear H
          go_wp2_with (first | ((with_reducible refine gate_builtin (b := .append) (xs := #[.tmp 56, .tmp 58]) rfl ?_); at_builtin; refine Kd.N_append (Kd.slice 4 Kd.bool) (w0 := w) w.heap.size rfl (.tmp 56) (.tmp 58) 118 25 (.slice none 0 0) 24 rfl Try.underlying118 info25 rfl (by decide) (by omega) (.slice (some ad176) x4_2.length co36) x4_2 t177 [.slice Ao38 t177.length co38] (fun k_ => (w.heap.size ≤ k_) ∧ some k_ ≠ (u7 : Value).ownBlock ∧ some k_ ≠ (u165000 : Value).ownBlock ∧ some k_ ≠ (u165001 : Value).ownBlock ∧ k_ ≠ gb147 ∧ k_ ≠ gb164) (fun k_ => ((fun k_ => (w.heap.size ≤ k_) ∧ some k_ ≠ (u7 : Value).ownBlock ∧ some k_ ≠ (u165000 : Value).ownBlock ∧ some k_ ≠ (u165001 : Value).ownBlock ∧ k_ ≠ gb147 ∧ k_ ≠ gb164)) k_ ∧ some k_ ≠ (.slice (some ad176) x4_2.length co36 : Value).ownBlock) rfl rfl ?aP (fun _ hk => hk) ?aF ?aO ?aB ?aS ?aL ?_; (case aP => exact (Kd.FK_slice_mk (Kd.R_reads' (Kd.R_mono (ok' := (fun k_ => ((fun k_ => (w.heap.size ≤ k_) ∧ some k_ ≠ (u7 : Value).ownBlock ∧ some k_ ≠ (u165000 : Value).ownBlock ∧ some k_ ≠ (u165001 : Value).ownBlock ∧ k_ ≠ gb147 ∧ k_ ≠ gb164)) k_ ∧ some k_ ≠ (.slice (some ad176) x4_2.length co36 : Value).ownBlock)) (Kd.R_types (Kd.R_types (Kd.R_apart' (Kd.R_apart' (Kd.R_apart' (HO179.out) (Kd.R_typed HO_7.out) (by decide)) (Kd.N_typed HO_165000.out) (by decide)) (Kd.N_typed HO_4.out) (by decide)) BK147.out (by decide)) BK164.out (by decide)) (fun k_ hk => ⟨⟨hk.1.1.1.1.1.1, ⟨hk.1.1.1.1.2, ⟨hk.1.1.1.2, ⟨hk.1.1.1.1.1.2, ⟨hk.1.2, hk.2⟩⟩⟩⟩⟩, hk.1.1.2⟩))).2.1 (Kd.R_F (Kd.R_mono (ok' := (fun k_ => ((fun k_ => (w.heap.size ≤ k_) ∧ some k_ ≠ (u7 : Value).ownBlock ∧ some k_ ≠ (u165000 : Value).ownBlock ∧ some k_ ≠ (u165001 : Value).ownBlock ∧ k_ ≠ gb147 ∧ k_ ≠ gb164)) k_ ∧ some k_ ≠ (.slice (some ad176) x4_2.length co36 : Value).ownBlock)) (Kd.R_types (Kd.R_types (Kd.R_apart' (Kd.R_apart' (Kd.R_apart' (HO179.out) (Kd.R_typed HO_7.out) (by decide)) (Kd.N_typed HO_165000.out) (by decide)) (Kd.N_typed HO_4.out) (by decide)) BK147.out (by decide)) BK164.out (by decide)) (fun k_ hk => ⟨⟨hk.1.1.1.1.1.1, ⟨hk.1.1.1.1.2, ⟨hk.1.1.1.2, ⟨hk.1.1.1.1.1.2, ⟨hk.1.2, hk.2⟩⟩⟩⟩⟩, hk.1.1.2⟩))))); (case aB => exact Xi); (case aF => exact (fun k_ hk => ⟨(Nat.le_trans (below_size Xi) hk), Kd.fresh' (Kd.R_lt (Xq HO_7)) k_ hk, Kd.fresh' (Kd.N_lt (Xq HO_165000)) k_ hk, Kd.fresh' (Kd.R_lt (Xq HO_165001)) k_ hk, Kd.freshB (g := gb147) (o := .cells #[.slice none 0 0, .slice none 0 0] 27 (0, 0)) (Xq' BK147) k_ hk, Kd.freshB (g := gb164) (o := .cells #[u165000, u165001] 27 (0, 0)) (Xq' BK164) k_ hk⟩)); (case aO => exact (by (with_reducible repeat (first | apply Kd.N_alloc | apply Kd.N_drewN | apply Kd.N_drew)); exact Kd.N_mono HO_4.out (fun _ hk => ⟨hk.1, ⟨hk.2.1, ⟨hk.2.2.1, ⟨hk.2.2.2.1, ⟨hk.2.2.2.2.2.1, hk.2.2.2.2.2.2⟩⟩⟩⟩⟩))); (case aS => exact (below_size Xi)); (case aL => have := LMc43.out; omega); intro v183 w45 ho hb hg hat; rw [← Ny182.out] at ho; replace HO_7 := Aside0.mk (Kd.R_over' (Xq HO_7) (Kd.N_typed (Xq HO_4)) (by decide) hg); replace HO_165000 := Aside0.mk (Kd.N_afterv (ok := (fun k_ => (w.heap.size ≤ k_) ∧ some k_ ≠ (u7 : Value).ownBlock ∧ some k_ ≠ (u165001 : Value).ownBlock ∧ some k_ ≠ (.slice Ao38 t177.length co38 : Value).ownBlock ∧ k_ ≠ gb147 ∧ k_ ≠ gb164)) (by (with_reducible repeat (first | apply Kd.N_alloc | apply Kd.N_drewN | apply Kd.N_drew)); exact Kd.N_mono HO_165000.out (fun _ hk => ⟨⟨hk.1, ⟨hk.2.2.1, ⟨hk.2.2.2.1, ⟨hk.2.2.2.2.1, ⟨hk.2.2.2.2.2.1, hk.2.2.2.2.2.2⟩⟩⟩⟩⟩, hk.2.1⟩)) hg hat); replace HO_165001 := Aside0.mk (Kd.R_over' (Xq HO_165001) (Kd.N_typed (Xq HO_4)) (by decide) hg); replace BK147 := Aside0.mk (blk_grown (g := gb147) (o := .cells #[.slice none 0 0, .slice none 0 0] 27 (0, 0)) (Xq' BK147) hg (Kd.N_ne HO_4.out BK147.out (by decide))); replace BK164 := Aside0.mk (blk_grown (g := gb164) (o := .cells #[u165000, u165001] 27 (0, 0)) (Xq' BK164) hg (Kd.N_ne HO_4.out BK164.out (by decide))); replace HL176_0 := Aside0.mk (Kd.V_afterv (ok := (fun k_ => (w.heap.size ≤ k_) ∧ some k_ ≠ (u7 : Value).ownBlock ∧ some k_ ≠ (u165000 : Value).ownBlock ∧ some k_ ≠ (u165001 : Value).ownBlock ∧ some k_ ≠ (.slice Ao38 t177.length co38 : Value).ownBlock ∧ k_ ≠ gb147 ∧ k_ ≠ gb164)) (by (with_reducible repeat (first | apply Kd.V_alloc | apply Kd.V_drewN | apply Kd.V_drew)); exact Kd.V_mono HL176_0.out (fun _ hk => ⟨⟨hk.1, ⟨hk.2.1, ⟨hk.2.2.1, ⟨hk.2.2.2.1, ⟨hk.2.2.2.2.2.1, ⟨hk.2.2.2.2.2.2.1, hk.2.2.2.2.2.2.2⟩⟩⟩⟩⟩⟩, hk.2.2.2.2.1⟩)) hg hat); replace HB := Aside0.mk (hb); have HO184 := Aside0.mk (ho); clear HO_4; clear HO179; clear ho hb hg hat) | ((with_reducible refine gate_builtin (b := .append) (xs := #[.tmp 60, .tmp 62]) rfl ?_); at_builtin; refine Kd.R_append (Kd.int .i64) (w0 := w) w.heap.size rfl (.tmp 60) (.tmp 62) 39 3 (.int .i64 0) 8 rfl Try.underlying39 info3 rfl (by decide) (by omega) u7 x7_2 (x4_2.length : Int) [.int .i64 (x4_2.length : Int)] (fun k_ => (w.heap.size ≤ k_)) (fun _ => False) rfl rfl ?aP (fun _ hk => hk.elim) ?aF ?aO ?aB ?aS ?aL ?_; (case aP => exact rfl); (case aB => exact Xi); (case aF => exact (fun k_ hk => (Nat.le_trans (below_size Xi) hk))); (case aO => exact (Xq HO_7)); (case aS => exact (below_size Xi)); (case aL => have := LMc44.out; omega); intro v186 w46 ho hb hg hat; rw [← Ny185.out] at ho; replace HO_165000 := Aside0.mk (Kd.N_afterv (ok := (fun k_ => (w.heap.size ≤ k_) ∧ some k_ ≠ (u165001 : Value).ownBlock ∧ some k_ ≠ (v183 : Value).ownBlock ∧ k_ ≠ gb147 ∧ k_ ≠ gb164)) (by (with_reducible repeat (first | apply Kd.N_alloc | apply Kd.N_drewN | apply Kd.N_drew)); exact Kd.N_mono HO_165000.out (fun _ hk => ⟨⟨hk.1.1, ⟨hk.1.2.2.1, ⟨hk.2, ⟨hk.1.2.2.2.2.1, hk.1.2.2.2.2.2⟩⟩⟩⟩, hk.1.2.1⟩)) hg hat); replace HO_165001 := Aside0.mk (Kd.R_over' (Xq HO_165001) (Kd.R_typed (Xq HO_7)) (by decide) hg); replace BK147 := Aside0.mk (blk_grown (g := gb147) (o := .cells #[.slice none 0 0, .slice none 0 0] 27 (0, 0)) (Xq' BK147) hg (Kd.R_ne HO_7.out BK147.out (by decide))); replace BK164 := Aside0.mk (blk_grown (g := gb164) (o := .cells #[u165000, u165001] 27 (0, 0)) (Xq' BK164) hg (Kd.R_ne HO_7.out BK164.out (by decide))); replace HL176_0 := Aside0.mk (Kd.V_afterv (ok := (fun k_ => (w.heap.size ≤ k_) ∧ some k_ ≠ (u165000 : Value).ownBlock ∧ some k_ ≠ (u165001 : Value).ownBlock ∧ some k_ ≠ (v183 : Value).ownBlock ∧ k_ ≠ gb147 ∧ k_ ≠ gb164)) (by (with_reducible repeat (first | apply Kd.V_alloc | apply Kd.V_drewN | apply Kd.V_drew)); exact Kd.V_mono HL176_0.out (fun _ hk => ⟨⟨hk.1.1, ⟨hk.1.2.2.1, ⟨hk.1.2.2.2.1, ⟨hk.2, ⟨hk.1.2.2.2.2.2.1, hk.1.2.2.2.2.2.2⟩⟩⟩⟩⟩, hk.1.2.1⟩)) hg hat); replace HO184 := Aside0.mk (Kd.N_afterv (ok := (fun k_ => (w.heap.size ≤ k_) ∧ some k_ ≠ (u165000 : Value).ownBlock ∧ some k_ ≠ (u165001 : Value).ownBlock ∧ k_ ≠ gb147 ∧ k_ ≠ gb164)) (by (with_reducible repeat (first | apply Kd.N_alloc | apply Kd.N_drewN | apply Kd.N_drew)); exact Kd.N_mono HO184.out (fun _ hk => ⟨⟨hk.1, ⟨hk.2.2.1, ⟨hk.2.2.2.1, ⟨hk.2.2.2.2.1, hk.2.2.2.2.2⟩⟩⟩⟩, hk.2.1⟩)) hg hat); replace HB := Aside0.mk (hb); have HO187 := Aside0.mk (ho); clear HO_7; clear ho hb hg hat))
          go_roundg k2
          case measure => have := HK1.out; have := HK2.out; omega
          case rel => exact ⟨(y182), (y185), (wrap64 (x8_2 + 1)), Xr, H', ⟨by have := HK1.out; have := HK2.out; omega⟩, ⟨by (with_reducible repeat (first | apply Kd.N_alloc | apply Kd.N_drewN | apply Kd.N_drew)); exact Kd.N_mono HO184.out (fun _ hk => ⟨hk.1.1, ⟨hk.2, ⟨hk.1.2.1, ⟨hk.1.2.2.1, ⟨hk.1.2.2.2.1, hk.1.2.2.2.2⟩⟩⟩⟩⟩)⟩, (Xp' HO187), ⟨by (with_reducible repeat (first | apply Kd.N_alloc | apply Kd.N_drewN | apply Kd.N_drew)); exact Kd.N_mono HO_165000.out (fun _ hk => ⟨hk.1.1, ⟨hk.1.2.2.1, ⟨hk.2, ⟨hk.1.2.1, ⟨hk.1.2.2.2.1, hk.1.2.2.2.2⟩⟩⟩⟩⟩)⟩, ⟨by (with_reducible repeat (first | apply Kd.R_alloc | apply Kd.R_drewN | apply Kd.R_drew)); exact Kd.R_mono HO_165001.out (fun _ hk => hk.1)⟩, (Xp BK147), (Xp BK164), ⟨Xi⟩⟩
         ·(first | rw [c42b0] | (simp only [i64_w, i32_w]; rw [c42b0]) | skip)
          obtain ⟨c47, H⟩ := Xif H
          have LMc47 := Aside0.mk c47
          clear c47
          obtain ⟨y188, hy188⟩ : ∃ y_ : List Int, y_ = (x7_2 ++ [t181]) := ⟨_, rfl⟩
          replace H : (spec_l04Compile.l1 k2 l0 x4_2 x6_1 y188 (wrap64 (x8_2 + 1)) x165000_1 x165001_1) = some (r1, r2) := by first | (rw [hy188]; with_reducible exact H) | (have H2_ := (Option.bind_some _ _).symm.trans H; rw [hy188]; with_reducible exact H2_) | (have H2_ := (Option.bind_some _ _).symm.trans H; with_reducible exact H2_) | with_reducible exact H | (rw [hy188]; exact H) | exact H
          have Ny188 := Aside0.mk hy188
          clear hy188
          have H' := Aside0.mk H
          clear H
          go_wp2_with (first | ((with_reducible refine gate_builtin (b := .append) (xs := #[.tmp 60, .tmp 62]) rfl ?_); at_builtin; refine Kd.R_append (Kd.int .i64) (w0 := w) w.heap.size rfl (.tmp 60) (.tmp 62) 39 3 (.int .i64 0) 8 rfl Try.underlying39 info3 rfl (by decide) (by omega) u7 x7_2 t181 [.int .i64 t181] (fun k_ => (w.heap.size ≤ k_)) (fun _ => False) rfl rfl ?aP (fun _ hk => hk.elim) ?aF ?aO ?aB ?aS ?aL ?_; (case aP => exact rfl); (case aB => exact Xi); (case aF => exact (fun k_ hk => (Nat.le_trans (below_size Xi) hk))); (case aO => exact (Xq HO_7)); (case aS => exact (below_size Xi)); (case aL => have := LMc47.out; omega); intro v189 w48 ho hb hg hat; rw [← Ny188.out] at ho; replace HO_4 := Aside0.mk (Kd.N_afterv (ok := (fun k_ => (w.heap.size ≤ k_) ∧ some k_ ≠ (u165000 : Value).ownBlock ∧ some k_ ≠ (u165001 : Value).ownBlock ∧ some k_ ≠ (.slice Ao38 t177.length co38 : Value).ownBlock ∧ k_ ≠ gb147 ∧ k_ ≠ gb164)) (by (with_reducible repeat (first | apply Kd.N_alloc | apply Kd.N_drewN | apply Kd.N_drew)); exact Kd.N_mono HO_4.out (fun _ hk => ⟨⟨hk.1, ⟨hk.2.2.1, ⟨hk.2.2.2.1, ⟨hk.2.2.2.2.1, ⟨hk.2.2.2.2.2.1, hk.2.2.2.2.2.2⟩⟩⟩⟩⟩, hk.2.1⟩)) hg hat); replace HO_165000 := Aside0.mk (Kd.N_afterv (ok := (fun k_ => (w.heap.size ≤ k_) ∧ some k_ ≠ (.slice (some ad176) x4_2.length co36 : Value).ownBlock ∧ some k_ ≠ (u165001 : Value).ownBlock ∧ some k_ ≠ (.slice Ao38 t177.length co38 : Value).ownBlock ∧ k_ ≠ gb147 ∧ k_ ≠ gb164)) (by (with_reducible repeat (first | apply Kd.N_alloc | apply Kd.N_drewN | apply Kd.N_drew)); exact Kd.N_mono HO_165000.out (fun _ hk => ⟨⟨hk.1, ⟨hk.2.1, ⟨hk.2.2.2.1, ⟨hk.2.2.2.2.1, ⟨hk.2.2.2.2.2.1, hk.2.2.2.2.2.2⟩⟩⟩⟩⟩, hk.2.2.1⟩)) hg hat); replace HO_165001 := Aside0.mk (Kd.R_over' (Xq HO_165001) (Kd.R_typed (Xq HO_7)) (by decide) hg); replace BK147 := Aside0.mk (blk_grown (g := gb147) (o := .cells #[.slice none 0 0, .slice none 0 0] 27 (0, 0)) (Xq' BK147) hg (Kd.R_ne HO_7.out BK147.out (by decide))); replace BK164 := Aside0.mk (blk_grown (g := gb164) (o := .cells #[u165000, u165001] 27 (0, 0)) (Xq' BK164) hg (Kd.R_ne HO_7.out BK164.out (by decide))); replace HL176_0 := Aside0.mk (Kd.V_afterv (ok := (fun k_ => (w.heap.size ≤ k_) ∧ some k_ ≠ (.slice (some ad176) x4_2.length co36 : Value).ownBlock ∧ some k_ ≠ (u165000 : Value).ownBlock ∧ some k_ ≠ (u165001 : Value).ownBlock ∧ some k_ ≠ (.slice Ao38 t177.length co38 : Value).ownBlock ∧ k_ ≠ gb147 ∧ k_ ≠ gb164)) (by (with_reducible repeat (first | apply Kd.V_alloc | apply Kd.V_drewN | apply Kd.V_drew)); exact Kd.V_mono HL176_0.out (fun _ hk => ⟨⟨hk.1, ⟨hk.2.2.2.2.1, ⟨hk.2.2.1, ⟨hk.2.2.2.1, ⟨hk.2.2.2.2.2.1, ⟨hk.2.2.2.2.2.2.1, hk.2.2.2.2.2.2.2⟩⟩⟩⟩⟩⟩, hk.2.1⟩)) hg hat); replace HO179 := Aside0.mk (Kd.R_over' (Xq HO179) (Kd.R_typed (Xq HO_7)) (by decide) hg); replace HB := Aside0.mk (hb); have HO190 := Aside0.mk (ho); clear HO_7; clear ho hb hg hat))
          go_roundg k2
          case measure => have := HK1.out; have := HK2.out; omega
          case rel => exact ⟨(x4_2), (y188), (wrap64 (x8_2 + 1)), Xr, H', ⟨by have := HK1.out; have := HK2.out; omega⟩, ⟨by (with_reducible repeat (first | apply Kd.N_alloc | apply Kd.N_drewN | apply Kd.N_drew)); exact Kd.N_mono HO_4.out (fun _ hk => ⟨hk.1.1, ⟨hk.2, ⟨hk.1.2.1, ⟨hk.1.2.2.1, ⟨hk.1.2.2.2.2.1, hk.1.2.2.2.2.2⟩⟩⟩⟩⟩)⟩, (Xp' HO190), ⟨by (with_reducible repeat (first | apply Kd.N_alloc | apply Kd.N_drewN | apply Kd.N_drew)); exact Kd.N_mono HO_165000.out (fun _ hk => ⟨hk.1.1, ⟨hk.1.2.1, ⟨hk.2, ⟨hk.1.2.2.1, ⟨hk.1.2.2.2.2.1, hk.1.2.2.2.2.2⟩⟩⟩⟩⟩)⟩, ⟨by (with_reducible repeat (first | apply Kd.R_alloc | apply Kd.R_drewN | apply Kd.R_drew)); exact Kd.R_mono HO_165001.out (fun _ hk => hk.1)⟩, (Xp BK147), (Xp BK164), ⟨Xi⟩⟩
        ·replace c39 := Bool.eq_false_iff.mpr c39
         subst c39
         (first | rw [if_neg (show ¬ (false = true) by decide)] at H | skip)
         obtain ⟨c49, H⟩ := Xif H
         have LMc49 := Aside0.mk c49
         clear c49
         obtain ⟨y191, hy191⟩ : ∃ y_ : List Int, y_ = (x7_2 ++ [(-1)]) := ⟨_, rfl⟩
         replace H : (spec_l04Compile.l1 k2 l0 x4_2 x6_1 y191 (wrap64 (x8_2 + 1)) x165000_1 x165001_1) = some (r1, r2) := by first | (rw [hy191]; with_reducible exact H) | (have H2_ := (Option.bind_some _ _).symm.trans H; rw [hy191]; with_reducible exact H2_) | (have H2_ := (Option.bind_some _ _).symm.trans H; with_reducible exact H2_) | with_reducible exact H | (rw [hy191]; exact H) | exact H
         have Ny191 := Aside0.mk hy191
         clear hy191
         have H' := Aside0.mk H
         clear H
         go_wp2_with (first | ((with_reducible refine gate_builtin (b := .append) (xs := #[.tmp 46, .tmp 47]) rfl ?_); at_builtin; refine Kd.R_append (Kd.int .i64) (w0 := w) w.heap.size rfl (.tmp 46) (.tmp 47) 39 3 (.int .i64 0) 8 rfl Try.underlying39 info3 rfl (by decide) (by omega) u7 x7_2 (-1) [.int .i64 (-1)] (fun k_ => (w.heap.size ≤ k_)) (fun _ => False) rfl rfl ?aP (fun _ hk => hk.elim) ?aF ?aO ?aB ?aS ?aL ?_; (case aP => exact rfl); (case aB => exact Xi); (case aF => exact (fun k_ hk => (Nat.le_trans (below_size Xi) hk))); (case aO => exact (Xq HO_7)); (case aS => exact (below_size Xi)); (case aL => have := LMc49.out; omega); intro v192 w50 ho hb hg hat; rw [← Ny191.out] at ho; replace HO_4 := Aside0.mk (Kd.N_afterv (ok := (fun k_ => (w.heap.size ≤ k_) ∧ some k_ ≠ (u165000 : Value).ownBlock ∧ some k_ ≠ (u165001 : Value).ownBlock ∧ some k_ ≠ (.slice Ao38 t177.length co38 : Value).ownBlock ∧ k_ ≠ gb147 ∧ k_ ≠ gb164)) (by (with_reducible repeat (first | apply Kd.N_alloc | apply Kd.N_drewN | apply Kd.N_drew)); exact Kd.N_mono HO_4.out (fun _ hk => ⟨⟨hk.1, ⟨hk.2.2.1, ⟨hk.2.2.2.1, ⟨hk.2.2.2.2.1, ⟨hk.2.2.2.2.2.1, hk.2.2.2.2.2.2⟩⟩⟩⟩⟩, hk.2.1⟩)) hg hat); replace HO_165000 := Aside0.mk (Kd.N_afterv (ok := (fun k_ => (w.heap.size ≤ k_) ∧ some k_ ≠ (.slice (some ad176) x4_2.length co36 : Value).ownBlock ∧ some k_ ≠ (u165001 : Value).ownBlock ∧ some k_ ≠ (.slice Ao38 t177.length co38 : Value).ownBlock ∧ k_ ≠ gb147 ∧ k_ ≠ gb164)) (by (with_reducible repeat (first | apply Kd.N_alloc | apply Kd.N_drewN | apply Kd.N_drew)); exact Kd.N_mono HO_165000.out (fun _ hk => ⟨⟨hk.1, ⟨hk.2.1, ⟨hk.2.2.2.1, ⟨hk.2.2.2.2.1, ⟨hk.2.2.2.2.2.1, hk.2.2.2.2.2.2⟩⟩⟩⟩⟩, hk.2.2.1⟩)) hg hat); replace HO_165001 := Aside0.mk (Kd.R_over' (Xq HO_165001) (Kd.R_typed (Xq HO_7)) (by decide) hg); replace BK147 := Aside0.mk (blk_grown (g := gb147) (o := .cells #[.slice none 0 0, .slice none 0 0] 27 (0, 0)) (Xq' BK147) hg (Kd.R_ne HO_7.out BK147.out (by decide))); replace BK164 := Aside0.mk (blk_grown (g := gb164) (o := .cells #[u165000, u165001] 27 (0, 0)) (Xq' BK164) hg (Kd.R_ne HO_7.out BK164.out (by decide))); replace HL176_0 := Aside0.mk (Kd.V_afterv (ok := (fun k_ => (w.heap.size ≤ k_) ∧ some k_ ≠ (.slice (some ad176) x4_2.length co36 : Value).ownBlock ∧ some k_ ≠ (u165000 : Value).ownBlock ∧ some k_ ≠ (u165001 : Value).ownBlock ∧ some k_ ≠ (.slice Ao38 t177.length co38 : Value).ownBlock ∧ k_ ≠ gb147 ∧ k_ ≠ gb164)) (by (with_reducible repeat (first | apply Kd.V_alloc | apply Kd.V_drewN | apply Kd.V_drew)); exact Kd.V_mono HL176_0.out (fun _ hk => ⟨⟨hk.1, ⟨hk.2.2.2.2.1, ⟨hk.2.2.1, ⟨hk.2.2.2.1, ⟨hk.2.2.2.2.2.1, ⟨hk.2.2.2.2.2.2.1, hk.2.2.2.2.2.2.2⟩⟩⟩⟩⟩⟩, hk.2.1⟩)) hg hat); replace HO179 := Aside0.mk (Kd.R_over' (Xq HO179) (Kd.R_typed (Xq HO_7)) (by decide) hg); replace HB := Aside0.mk (hb); have HO193 := Aside0.mk (ho); clear HO_7; clear ho hb hg hat))
         go_roundg k2
         case measure => have := HK1.out; have := HK2.out; omega
         case rel => exact ⟨(x4_2), (y191), (wrap64 (x8_2 + 1)), Xr, H', ⟨by have := HK1.out; have := HK2.out; omega⟩, ⟨by (with_reducible repeat (first | apply Kd.N_alloc | apply Kd.N_drewN | apply Kd.N_drew)); exact Kd.N_mono HO_4.out (fun _ hk => ⟨hk.1.1, ⟨hk.2, ⟨hk.1.2.1, ⟨hk.1.2.2.1, ⟨hk.1.2.2.2.2.1, hk.1.2.2.2.2.2⟩⟩⟩⟩⟩)⟩, (Xp' HO193), ⟨by (with_reducible repeat (first | apply Kd.N_alloc | apply Kd.N_drewN | apply Kd.N_drew)); exact Kd.N_mono HO_165000.out (fun _ hk => ⟨hk.1.1, ⟨hk.1.2.1, ⟨hk.2, ⟨hk.1.2.2.1, ⟨hk.1.2.2.2.2.1, hk.1.2.2.2.2.2⟩⟩⟩⟩⟩)⟩, ⟨by (with_reducible repeat (first | apply Kd.R_alloc | apply Kd.R_drewN | apply Kd.R_drew)); exact Kd.R_mono HO_165001.out (fun _ hk => hk.1)⟩, (Xp BK147), (Xp BK164), ⟨Xi⟩⟩
       ·obtain ⟨c51, H⟩ := Xif H
        have LMc51 := Aside0.mk c51
        clear c51
        obtain ⟨y168, hy168⟩ : ∃ y_ : List (List Int), y_ = (x165000_1 ++ [x7_2]) := ⟨_, rfl⟩
        replace H : (if 0 ≤ x6_1 then (if x6_1 < (x4_2.length : Int) then (if 0 ≤ (wrap64 (2 * (l0.length : Int))) then (if (wrap64 (2 * (l0.length : Int))) < ((rd_L5 x4_2 x6_1).length : Int) then (if x165001_1.length < 140737488355328 then (spec_l04Compile.l0 k2 l0 x4_2 (wrap64 (x6_1 + 1)) y168 (x165001_1 ++ [rdOf false (rd_L5 x4_2 x6_1) (wrap64 (2 * (l0.length : Int)))])) else (none)) else (none)) else (none)) else (none)) else (none)) = some (r1, r2) := by first | (rw [hy168]; with_reducible exact H) | (have H2_ := (Option.bind_some _ _).symm.trans H; rw [hy168]; with_reducible exact H2_) | (have H2_ := (Option.bind_some _ _).symm.trans H; with_reducible exact H2_) | with_reducible exact H | (rw [hy168]; exact H) | exact H
        have Ny168 := Aside0.mk hy168
        clear hy168
        obtain ⟨c52b0, H⟩ := Xid H
        obtain ⟨c53b0, H⟩ := Xid H
        obtain ⟨ji54, hji54⟩ : ∃ j_ : Int, (wrap64 (2 * (l0.length : Int))) = j_ := ⟨_, rfl⟩
        replace H : (if 0 ≤ (ji54) then (if (ji54) < ((rd_L5 x4_2 x6_1).length : Int) then (if x165001_1.length < 140737488355328 then (spec_l04Compile.l0 k2 l0 x4_2 (wrap64 (x6_1 + 1)) y168 (x165001_1 ++ [rdOf false (rd_L5 x4_2 x6_1) (ji54)])) else (none)) else (none)) else (none)) = some (r1, r2) := by first | (rw [hji54] at H; exact H) | (simp only [hji54] at H ⊢; exact H)
        have hji54w : (IntKind.i64.wrap (2 * (l0.length : Int))) = ji54 := (i64_w _).trans hji54
        obtain ⟨c55b0, H⟩ := Xid H
        obtain ⟨c56b0, H⟩ := Xid H
        obtain ⟨c57, H⟩ := Xif H
        have LMc57 := Aside0.mk c57
        clear c57
        obtain ⟨y173, hy173⟩ : ∃ y_ : List Bool, y_ = (x165001_1 ++ [rdOf false (rd_L5 x4_2 x6_1) (ji54)]) := ⟨_, rfl⟩
        replace H : (spec_l04Compile.l0 k2 l0 x4_2 (wrap64 (x6_1 + 1)) y168 y173) = some (r1, r2) := by first | (rw [hy173]; with_reducible exact H) | (have H2_ := (Option.bind_some _ _).symm.trans H; rw [hy173]; with_reducible exact H2_) | (have H2_ := (Option.bind_some _ _).symm.trans H; with_reducible exact H2_) | with_reducible exact H | (rw [hy173]; exact H) | exact H
        have Ny173 := Aside0.mk hy173
        clear hy173
        have H' := Aside0.mk H
        clear H
        have hnb58 := NB164_147.out
        have hnc58 := NB147_164.out
        obtain ⟨hcz59_0, hcz59_1⟩ := Xc2 BK164
        obtain ⟨hfz59_0, hfz59_1⟩ := Xf2 BK164
        obtain ⟨Ao61, co61, eo61⟩ := Kd.R_slice HO_7.out
        subst eo61
        try go_wp2_with (first | ((with_reducible refine gate_builtin (b := .append) (xs := #[.tmp 65, .tmp 67]) rfl ?_); at_builtin; refine Kd.N_append (Kd.slice 3 (Kd.int .i64)) (w0 := w) w.heap.size rfl (.tmp 65) (.tmp 67) 24 39 (.slice none 0 0) 24 rfl Try.underlying24 info39 rfl (by decide) (by omega) u165000 x165000_1 x7_2 [.slice Ao61 x7_2.length co61] (fun k_ => (w.heap.size ≤ k_) ∧ some k_ ≠ (u4 : Value).ownBlock ∧ some k_ ≠ (u165001 : Value).ownBlock ∧ k_ ≠ gb147 ∧ k_ ≠ gb164) (fun k_ => ((fun k_ => (w.heap.size ≤ k_) ∧ some k_ ≠ (u4 : Value).ownBlock ∧ some k_ ≠ (u165001 : Value).ownBlock ∧ k_ ≠ gb147 ∧ k_ ≠ gb164)) k_ ∧ some k_ ≠ (u165000 : Value).ownBlock) rfl rfl ?aP (fun _ hk => hk) ?aF ?aO ?aB ?aS ?aL ?_; (case aP => exact (Kd.FK_slice_mk (Kd.R_reads' (Kd.R_mono (ok' := (fun k_ => ((fun k_ => (w.heap.size ≤ k_) ∧ some k_ ≠ (u4 : Value).ownBlock ∧ some k_ ≠ (u165001 : Value).ownBlock ∧ k_ ≠ gb147 ∧ k_ ≠ gb164)) k_ ∧ some k_ ≠ (u165000 : Value).ownBlock)) (Kd.R_types (Kd.R_types (Kd.R_apart' (Kd.R_apart' (Kd.R_apart' (HO_7.out) (Kd.N_typed HO_4.out) (by decide)) (Kd.R_typed HO_165001.out) (by decide)) (Kd.N_typed HO_165000.out) (by decide)) BK147.out (by decide)) BK164.out (by decide)) (fun k_ hk => ⟨⟨hk.1.1.1.1.1, ⟨hk.1.1.1.1.2, ⟨hk.1.1.1.2, ⟨hk.1.2, hk.2⟩⟩⟩⟩, hk.1.1.2⟩))).2.1 (Kd.R_F (Kd.R_mono (ok' := (fun k_ => ((fun k_ => (w.heap.size ≤ k_) ∧ some k_ ≠ (u4 : Value).ownBlock ∧ some k_ ≠ (u165001 : Value).ownBlock ∧ k_ ≠ gb147 ∧ k_ ≠ gb164)) k_ ∧ some k_ ≠ (u165000 : Value).ownBlock)) (Kd.R_types (Kd.R_types (Kd.R_apart' (Kd.R_apart' (Kd.R_apart' (HO_7.out) (Kd.N_typed HO_4.out) (by decide)) (Kd.R_typed HO_165001.out) (by decide)) (Kd.N_typed HO_165000.out) (by decide)) BK147.out (by decide)) BK164.out (by decide)) (fun k_ hk => ⟨⟨hk.1.1.1.1.1, ⟨hk.1.1.1.1.2, ⟨hk.1.1.1.2, ⟨hk.1.2, hk.2⟩⟩⟩⟩, hk.1.1.2⟩))))); (case aB => exact Xi); (case aF => exact (fun k_ hk => ⟨(Nat.le_trans (below_size Xi) hk), Kd.fresh' (Kd.N_lt (Xq HO_4)) k_ hk, Kd.fresh' (Kd.R_lt (Xq HO_165001)) k_ hk, Kd.freshB (g := gb147) (o := .cells #[.slice none 0 0, .slice none 0 0] 27 (0, 0)) (Xq' BK147) k_ hk, Kd.freshB (g := gb164) (o := .cells #[u165000, u165001] 27 (0, 0)) (Xq' BK164) k_ hk⟩)); (case aO => exact (by (with_reducible repeat (first | apply Kd.N_alloc | apply Kd.N_drewN | apply Kd.N_drew)); exact Kd.N_mono HO_165000.out (fun _ hk => ⟨hk.1, ⟨hk.2.1, ⟨hk.2.2.2.1, ⟨hk.2.2.2.2.1, hk.2.2.2.2.2⟩⟩⟩⟩))); (case aS => exact (below_size Xi)); (case aL => have := LMc51.out; omega); intro v169 w60 ho hb hg hat; rw [← Ny168.out] at ho; replace HO_4 := Aside0.mk (Kd.N_afterv (ok := (fun k_ => (w.heap.size ≤ k_) ∧ some k_ ≠ (.slice Ao61 x7_2.length co61 : Value).ownBlock ∧ some k_ ≠ (u165001 : Value).ownBlock ∧ k_ ≠ gb147 ∧ k_ ≠ gb164)) (by (with_reducible repeat (first | apply Kd.N_alloc | apply Kd.N_drewN | apply Kd.N_drew)); exact Kd.N_mono HO_4.out (fun _ hk => ⟨⟨hk.1, ⟨hk.2.1, ⟨hk.2.2.2.1, ⟨hk.2.2.2.2.1, hk.2.2.2.2.2⟩⟩⟩⟩, hk.2.2.1⟩)) hg hat); replace HO_165001 := Aside0.mk (Kd.R_over' (Xq HO_165001) (Kd.N_typed (Xq HO_165000)) (by decide) hg); replace BK147 := Aside0.mk (blk_grown (g := gb147) (o := .cells #[.slice none 0 0, .slice none 0 0] 27 (0, 0)) (Xq' BK147) hg (Kd.N_ne HO_165000.out BK147.out (by decide))); replace BK164 := Aside0.mk (blk_grown (g := gb164) (o := .cells #[u165000, u165001] 27 (0, 0)) (Xq' BK164) hg (Kd.N_ne HO_165000.out BK164.out (by decide))); replace HB := Aside0.mk (hb); have HO170 := Aside0.mk (ho); clear HO_165000; clear HO_7; clear ho hb hg hat; obtain ⟨Ao62, co62, eo62⟩ := Kd.N_slice HO170.out; subst eo62; obtain ⟨hcz63_0, hcz63_1⟩ := Xc2 BK164; obtain ⟨hfz63_0, hfz63_1⟩ := Xf2 BK164))
        have n0_ : Aside0 (Kd.N (Kd.slice 4 Kd.bool) 25 (w60.setCell ⟨gb164, 0, none⟩ (.slice Ao62 y168.length co62)) w.heap.size (fun k_ => (w.heap.size ≤ k_) ∧ some k_ ≠ (u165001 : Value).ownBlock ∧ some k_ ≠ (.slice Ao62 y168.length co62 : Value).ownBlock ∧ k_ ≠ gb147 ∧ k_ ≠ gb164) u4 x4_2) := ⟨by (with_reducible repeat (first | apply Kd.N_alloc | apply Kd.N_drewN | apply Kd.N_drew)); exact Kd.N_mono (Kd.N_far (p := ⟨gb164, 0, none⟩) (Kd.N_mono HO_4.out (fun k_ hk => (⟨hk, hk.1.2.2.2.2⟩ : _ ∧ k_ ≠ gb164))) (fun _ hk => hk.2) (.slice Ao62 y168.length co62)) (fun _ hk => ⟨hk.1.1.1, ⟨hk.1.1.2.2.1, ⟨hk.1.2, ⟨hk.1.1.2.2.2.1, hk.1.1.2.2.2.2⟩⟩⟩⟩)⟩
        have n1_ : Aside0 (Kd.R Kd.bool 4 (w60.setCell ⟨gb164, 0, none⟩ (.slice Ao62 y168.length co62)) w.heap.size (fun k_ => (w.heap.size ≤ k_)) u165001 x165001_1) := ⟨by (with_reducible repeat (first | apply Kd.R_alloc | apply Kd.R_drewN | apply Kd.R_drew)); exact Kd.R_mono (Kd.R_far (p := ⟨gb164, 0, none⟩) (Kd.R_types HO_165001.out BK164.out (by decide)) (fun _ hk => hk.2) (.slice Ao62 y168.length co62)) (fun _ hk => hk.1)⟩
        have n2_ : Aside0 (Kd.N (Kd.slice 3 (Kd.int .i64)) 39 (w60.setCell ⟨gb164, 0, none⟩ (.slice Ao62 y168.length co62)) w.heap.size (fun k_ => (w.heap.size ≤ k_) ∧ some k_ ≠ (u4 : Value).ownBlock ∧ some k_ ≠ (u165001 : Value).ownBlock ∧ k_ ≠ gb147 ∧ k_ ≠ gb164) (.slice Ao62 y168.length co62) y168) := ⟨by (with_reducible repeat (first | apply Kd.N_alloc | apply Kd.N_drewN | apply Kd.N_drew)); exact Kd.N_mono (Kd.N_far (p := ⟨gb164, 0, none⟩) (Kd.N_mono HO170.out (fun k_ hk => (⟨hk, hk.2.2.2.2⟩ : _ ∧ k_ ≠ gb164))) (fun _ hk => hk.2) (.slice Ao62 y168.length co62)) (fun _ hk => ⟨hk.1.1, ⟨hk.1.2.1, ⟨hk.1.2.2.1, ⟨hk.1.2.2.2.1, hk.1.2.2.2.2⟩⟩⟩⟩)⟩
        have n3_ : Aside0 ((w60.setCell ⟨gb164, 0, none⟩ (.slice Ao62 y168.length co62)).heap[gb147]? = some (.cells #[.slice none 0 0, .slice none 0 0] 27 (0, 0))) := ⟨by (with_reducible repeat (first | refine blk_drewN ?_ _ | refine blk_drew ?_ | refine blk_alloc ?_ _)); refine blk_far ?_ NB147_164.out _; (with_reducible repeat (first | refine blk_drewN ?_ _ | refine blk_drew ?_ | refine blk_alloc ?_ _)); exact BK147.out⟩
        have n4_ : Aside0 ((w60.setCell ⟨gb164, 0, none⟩ (.slice Ao62 y168.length co62)).heap[gb164]? = some (.cells #[.slice Ao62 y168.length co62, u165001] 27 (0, 0))) := ⟨by (with_reducible repeat (first | refine blk_drewN ?_ _ | refine blk_drew ?_ | refine blk_alloc ?_ _)); refine blk_put (cs := #[u165000, u165001]) ?_ 0 _ rfl; (with_reducible repeat (first | refine blk_drewN ?_ _ | refine blk_drew ?_ | refine blk_alloc ?_ _)); exact BK164.out⟩
        have n5_ : Aside0 (Below w.heap.size w (w60.setCell ⟨gb164, 0, none⟩ (.slice Ao62 y168.length co62))) := ⟨Xi⟩
        (try clear HO_4)
        (try clear HO_165001)
        (try clear HO170)
        (try clear BK147)
        (try clear BK164)
        (try clear HB)
        generalize (w60.setCell ⟨gb164, 0, none⟩ (.slice Ao62 y168.length co62)) = w64 at n0_ n1_ n2_ n3_ n4_ n5_ ⊢
        have HO_4 := n0_
        have HO_165001 := n1_
        have HO170 := n2_
        have BK147 := n3_
        have BK164 := n4_
        have HB := n5_
        clear n0_ n1_ n2_ n3_ n4_ n5_
        replace HO_4 := Aside0.mk (Kd.N_drew HO_4.out)
        replace HO_165001 := Aside0.mk (Kd.R_drew HO_165001.out)
        replace HO170 := Aside0.mk (Kd.N_drew HO170.out)
        replace BK147 := Aside0.mk (blk_drew BK147.out)
        replace BK164 := Aside0.mk (blk_drew BK164.out)
        replace HB := Aside0.mk (below_drew1 HB.out)
        obtain ⟨Ao66, co66, eo66⟩ := Kd.N_slice HO_4.out
        (first | subst eo66 | (injection eo66 with f1_ f2_ f3_; have f4_ := f1_.symm; have f5_ := f3_.symm; clear f1_ f2_ f3_; subst f4_; subst f5_))
        have p171 : 0 ≤ (x6_1 : Int) := of_decide_eq_true Xa
        have q171 : x6_1 < (x4_2.length : Int) := of_decide_eq_true Xa
        obtain ⟨ad171, A171_0, c171_0, e171, hx171_0, hl171_0, hi171_0⟩ := at_L5 (Kd.N_reads' HO_4.out).2.2 x6_1 p171 q171
        cases e171
        obtain ⟨ce171, hce171, hMe171, hcc171⟩ := Kd.N_get HO_4.out [] x6_1 p171 (by first | exact q171 | exact of_decide_eq_true Xa | (have e_ := (Kd.N_reads' HO_4.out).1; omega))
        obtain ⟨ua171_0, uc171_0, rfl, ul171_0, ge171_0⟩ := Kd.FK_slice_open hMe171
        have hv171_0 := hcc171 0 _ rfl
        rw [Nat.add_zero, show ((Kd.slice 4 Kd.bool)).sz = 1 from rfl, Nat.mul_one] at hv171_0
        replace hv171_0 := Option.some.inj (hv171_0.symm.trans hx171_0)
        injection hv171_0 with hva_ hvn_ hvc_
        rw [hva_] at ge171_0
        rw [hvc_] at ul171_0
        have HL171_0 := Aside0.mk (show Kd.V Kd.bool 4 _ w.heap.size _ _ (rd_L5 x4_2 x6_1) from Kd.V_mk ul171_0 ge171_0)
        clear hva_ hvn_ hvc_ ge171_0 ul171_0
        clear hcc171 hce171
        have HR171_0 := Aside0.mk hi171_0
        have HC171_0 := Aside0.mk hl171_0
        clear hi171_0 hl171_0
        replace p171 := eq_true p171
        replace q171 := eq_true q171
        have p172 : 0 ≤ ((ji54) : Int) := of_decide_eq_true Xa
        have q172 : (ji54) < ((rd_L5 x4_2 x6_1).length : Int) := of_decide_eq_true Xa
        obtain ⟨ad172, e172, hx172_0⟩ := Kd.at_bool (by repeat (first | (with_reducible exact HR171_0.out) | (with_reducible first | refine Kd.C_alloc ?_ _ | refine Kd.C_drewN ?_ _ | refine Kd.C_drew ?_) | exact HR171_0.out)) (ji54) p172 q172
        cases e172
        replace p172 := eq_true p172
        replace q172 := eq_true q172
        refine start_ (n := 15) (S := fun w' => w'.cell? ⟨gb164, 0, none⟩ = some (.slice Ao62 y168.length co62) ∧ w'.cell? ⟨gb164, 1, none⟩ = some (u165001) ∧ w'.cell? (ad171.add (x6_1).toNat) = some (.slice (some ad172) (rd_L5 x4_2 x6_1).length c171_0) ∧ w'.cell? (ad172.add ((ji54)).toNat) = some (.bool (rdOf false (rd_L5 x4_2 x6_1) (ji54)))) (ds := [12, 14]) #[false, false, false, false, false, false, false, false, false, false, false, false, false, false, false] (by kernel_rfl) rfl rfl ⟨(blk_cell BK164.out 0).trans rfl, (blk_cell BK164.out 1).trans rfl, hx171_0, hx172_0⟩ (fun hHeld => ?_); refine with_tabW spec_l04Compile.tab21 spec_l04Compile.bits21 (fun HT_ HW_ => ?_)
        generalize w64.drew = w65 at HO_4 HO_165001 HO170 BK147 BK164 HB HL171_0 HO170 HR171_0 hx171_0 hx172_0 hHeld ⊢
        refine Xpu 0 70 (XW.bs 15 1) HT_.out ?_
        refine Xpu 2 72 (XW.bs 15 5) HT_.out ?_
        refine Xpu 3 73 (XW.bs 15 13) HT_.out ?_
        refine Xpu 4 74 (XW.bs 15 29) HT_.out ?_
        refine Xpu 6 76 (XW.bs 15 93) HT_.out ?_
        refine Xpu 7 77 (XW.bs 15 221) HT_.out ?_
        refine Xpu 8 78 (XW.bs 15 477) HT_.out ?_
        refine Xta 1 71 (XW.bs 15 479) HT_.out HW_.out hHeld ?_
        refine Xta 5 75 (XW.bs 15 511) HT_.out HW_.out hHeld ?_
        refine Xpu 9 79 (XW.bs 15 1023) HT_.out ?_
        refine Xta 10 80 (XW.bs 15 2047) HT_.out HW_.out hHeld ?_
        refine one_ (i := 11) (N := some 81) (XW.bs 15 4095) rfl rfl (one_of HT_.out (by kernel_rfl)) (by decide) (fun K hK => ?_)
        refine value_ (w1 := ?_) (v := ?_) (by rfl) rfl ?_ ?_
        rotate_left 2
        ·go_simp
         constructor
         ·rfl
         ·rfl
        refine hK.out _ _ ⟨(blk_cell (blk_alloc BK164.out _) 0).trans rfl, (blk_cell (blk_alloc BK164.out _) 1).trans rfl, (World.cell?_alloc_lt _ _ _ (World.block_lt_of_cell? _ _ (hHeld.2.2.1))).trans (hHeld.2.2.1), (World.cell?_alloc_lt _ _ _ (World.block_lt_of_cell? _ _ (hHeld.2.2.2))).trans (hHeld.2.2.2)⟩ (fun hHeld => ?_)
        clear hK K
        refine Xno ?_
        refine last_ (i := 12) (N := some 82) #[true, true, true, true, true, true, true, true, true, true, true, true, true, false, false] rfl rfl (one_of HT_.out (by kernel_rfl)) (by decide) (fun K hK => ?_)
        refine Kd.R_append_step Kd.bool (w0 := w) w.heap.size (by rfl) (.tmp 71) (.tmp 81) 25 4 (.bool false) 1 rfl Try.underlying25 info4 rfl (by decide) (by omega) u165001 x165001_1 (rdOf false (rd_L5 x4_2 x6_1) (ji54)) [.bool (rdOf false (rd_L5 x4_2 x6_1) (ji54))] (fun k_ => (w.heap.size ≤ k_)) (fun _ => False) rfl rfl ?aP (fun _ hk => hk.elim) ?aF ?aO ?aB ?aS ?aL ?_
        (case aP => exact rfl)
        (case aB => exact Xi)
        (case aF => exact (fun k_ hk => (Nat.le_trans (below_size Xi) hk)))
        (case aO => exact (Xq HO_165001))
        (case aS => exact (below_size Xi))
        (case aL => have := LMc57.out; omega)
        intro v174 w67 ho hb hg hat
        rw [← Ny173.out] at ho
        replace HO_4 := Aside0.mk (Kd.N_afterv (ok := (fun k_ => (w.heap.size ≤ k_) ∧ some k_ ≠ (.slice Ao62 y168.length co62 : Value).ownBlock ∧ k_ ≠ gb147 ∧ k_ ≠ gb164)) (by (with_reducible repeat (first | apply Kd.N_alloc | apply Kd.N_drewN | apply Kd.N_drew)); exact Kd.N_mono HO_4.out (fun _ hk => ⟨⟨hk.1, ⟨hk.2.2.1, ⟨hk.2.2.2.1, hk.2.2.2.2⟩⟩⟩, hk.2.1⟩)) hg hat)
        replace BK147 := Aside0.mk (blk_grown (g := gb147) (o := .cells #[.slice none 0 0, .slice none 0 0] 27 (0, 0)) (Xq' BK147) hg (Kd.R_ne HO_165001.out BK147.out (by decide)))
        replace BK164 := Aside0.mk (blk_grown (g := gb164) (o := .cells #[.slice Ao62 y168.length co62, u165001] 27 (0, 0)) (Xq' BK164) hg (Kd.R_ne HO_165001.out BK164.out (by decide)))
        replace HO170 := Aside0.mk (Kd.N_afterv (ok := (fun k_ => (w.heap.size ≤ k_) ∧ some k_ ≠ (.slice (some ad171) x4_2.length co66 : Value).ownBlock ∧ k_ ≠ gb147 ∧ k_ ≠ gb164)) (by (with_reducible repeat (first | apply Kd.N_alloc | apply Kd.N_drewN | apply Kd.N_drew)); exact Kd.N_mono HO170.out (fun _ hk => ⟨⟨hk.1, ⟨hk.2.1, ⟨hk.2.2.2.1, hk.2.2.2.2⟩⟩⟩, hk.2.2.1⟩)) hg hat)
        replace HL171_0 := Aside0.mk (Kd.V_afterv (ok := (fun k_ => (w.heap.size ≤ k_) ∧ some k_ ≠ (.slice (some ad171) x4_2.length co66 : Value).ownBlock ∧ some k_ ≠ (.slice Ao62 y168.length co62 : Value).ownBlock ∧ k_ ≠ gb147 ∧ k_ ≠ gb164)) (by (with_reducible repeat (first | apply Kd.V_alloc | apply Kd.V_drewN | apply Kd.V_drew)); exact Kd.V_mono HL171_0.out (fun _ hk => ⟨⟨hk.1.1, ⟨hk.2, ⟨hk.1.2.2.1, ⟨hk.1.2.2.2.1, hk.1.2.2.2.2⟩⟩⟩⟩, hk.1.2.1⟩)) hg hat)
        replace HB := Aside0.mk (hb)
        have HO175 := Aside0.mk (ho)
        clear HO_165001
        clear ho hb hg hat
        obtain ⟨Ao68, co68, eo68⟩ := Kd.R_slice HO175.out
        (first | subst eo68 | (injection eo68 with f1_ f2_ f3_; have f4_ := f1_.symm; have f5_ := f3_.symm; clear f1_ f2_ f3_; subst f4_; subst f5_))
        refine hK.out _ _ ?_
        clear hK K
        refine Xno ?_
        refine Xpu 13 83 (XW.bs 15 16383) HT_.out ?_
        refine last_ (i := 14) (N := none) #[true, true, true, true, true, true, true, true, true, true, true, true, true, true, true] rfl rfl (one_of HT_.out (by kernel_rfl)) (by decide) (fun K hK => ?_)
        have hs69 : w67.cell? ⟨gb164, 1, none⟩ = some (u165001) := (blk_cell BK164.out 1).trans rfl
        have hfs69 := blk_frozen BK164.out 1
        have hns69_0 := NB147_164.out
        have hms69_0 := NB164_147.out
        refine skip_ (w1 := ?_) (by rfl) rfl ?_ ?_
        rotate_left
        ·go_simp
         rfl
        refine hK.out _ _ ?_
        clear hK K
        refine done_ (done_of HT_.out (by kernel_rfl)) ?_
        try go_wp2_with (fail)
        (try simp only [← hji54])
        go_roundg k2
        case measure => have := HK1.out; have := HK2.out; omega
        case rel => exact ⟨(x4_2), (wrap64 (x6_1 + 1)), (y168), (y173), (.slice Ao62 y168.length co62), (.slice Ao68 y173.length co68), Xr, H', ⟨by have := HK1.out; have := HK2.out; omega⟩, ⟨by (with_reducible repeat (first | apply Kd.N_alloc | apply Kd.N_drewN | apply Kd.N_drew)); exact Kd.N_mono (Kd.N_far (p := ⟨gb164, 1, none⟩) (Kd.N_mono HO_4.out (fun k_ hk => (⟨hk, hk.1.2.2.2⟩ : _ ∧ k_ ≠ gb164))) (fun _ hk => hk.2) (.slice Ao68 y173.length co68)) (fun _ hk => ⟨hk.1.1.1, ⟨hk.1.1.2.1, ⟨hk.1.2, ⟨hk.1.1.2.2.1, hk.1.1.2.2.2⟩⟩⟩⟩)⟩, ⟨by (with_reducible repeat (first | apply Kd.N_alloc | apply Kd.N_drewN | apply Kd.N_drew)); exact Kd.N_mono (Kd.N_far (p := ⟨gb164, 1, none⟩) (Kd.N_mono HO170.out (fun k_ hk => (⟨hk, hk.1.2.2.2⟩ : _ ∧ k_ ≠ gb164))) (fun _ hk => hk.2) (.slice Ao68 y173.length co68)) (fun _ hk => ⟨hk.1.1.1, ⟨hk.1.1.2.1, ⟨hk.1.2, ⟨hk.1.1.2.2.1, hk.1.1.2.2.2⟩⟩⟩⟩)⟩, ⟨by (with_reducible repeat (first | apply Kd.R_alloc | apply Kd.R_drewN | apply Kd.R_drew)); exact Kd.R_mono (Kd.R_far (p := ⟨gb164, 1, none⟩) (Kd.R_types HO175.out BK164.out (by decide)) (fun _ hk => hk.2) (.slice Ao68 y173.length co68)) (fun _ hk => hk.1)⟩, ⟨by (with_reducible repeat (first | refine blk_drewN ?_ _ | refine blk_drew ?_ | refine blk_alloc ?_ _)); refine blk_far ?_ NB147_164.out _; (with_reducible repeat (first | refine blk_drewN ?_ _ | refine blk_drew ?_ | refine blk_alloc ?_ _)); exact BK147.out⟩, ⟨by (with_reducible repeat (first | refine blk_drewN ?_ _ | refine blk_drew ?_ | refine blk_alloc ?_ _)); refine blk_put (cs := #[.slice Ao62 y168.length co62, u165001]) ?_ 1 _ rfl; (with_reducible repeat (first | refine blk_drewN ?_ _ | refine blk_drew ?_ | refine blk_alloc ?_ _)); exact BK164.out⟩, ⟨Xi⟩⟩
    ·simp only [Option.some.injEq, Prod.mk.injEq] at H
     obtain ⟨rfl, rfl⟩ := H
     obtain ⟨Ao70, co70, eo70⟩ := Kd.N_slice HO_4.out
     subst eo70
     have hnb71 := NB164_147.out
     have hnc71 := NB147_164.out
     obtain ⟨hcz72_0, hcz72_1⟩ := Xc2 BK164
     obtain ⟨hfz72_0, hfz72_1⟩ := Xf2 BK164
     obtain ⟨Ao73, co73, eo73⟩ := Kd.N_slice HO_165000.out
     subst eo73
     obtain ⟨hcz74_0, hcz74_1⟩ := Xc2 BK147
     obtain ⟨hfz74_0, hfz74_1⟩ := Xf2 BK147
     obtain ⟨Ao75, co75, eo75⟩ := Kd.R_slice HO_165001.out
     subst eo75
     go_wp2
     refine bodyPost_ret (results_cell_row rfl _ _ gb147 27 #[.slice Ao73 x165000_1.length co73, .slice Ao75 x165001_1.length co75] (0, 0) _ rfl (by (with_reducible repeat (first | refine blk_drewN ?_ _ | refine blk_drew ?_ | refine blk_alloc ?_ _)); refine blk_put (cs := #[.slice Ao73 x165000_1.length co73, .slice none 0 0]) ?_ 1 _ rfl; (with_reducible repeat (first | refine blk_drewN ?_ _ | refine blk_drew ?_ | refine blk_alloc ?_ _)); refine blk_put (cs := #[.slice none 0 0, .slice none 0 0]) ?_ 0 _ rfl; (with_reducible repeat (first | refine blk_drewN ?_ _ | refine blk_drew ?_ | refine blk_alloc ?_ _)); exact BK147.out) Try.underlying27 rfl (by kernel_rfl)) rfl ?_
     exact ⟨_, _, by first | rfl | (simp [errW_none, errW_some] <;> rfl) | (simp only [← hji2]; first | rfl | (simp [errW_none, errW_some] <;> rfl)) | (simp [*, errW_none, errW_some] <;> rfl), by (with_reducible repeat (first | apply Kd.N_alloc | apply Kd.N_drewN | apply Kd.N_drew)); exact Kd.N_mono (Kd.N_far (p := ⟨gb147, 1, none⟩) (Kd.N_far (p := ⟨gb147, 0, none⟩) (Kd.N_mono HO_165000.out (fun k_ hk => (⟨hk, hk.2.2.2.1⟩ : _ ∧ k_ ≠ gb147))) (fun _ hk => hk.2) (.slice Ao73 x165000_1.length co73)) (fun _ hk => hk.2) (.slice Ao75 x165001_1.length co75)) (fun _ hk => ⟨hk.1.1, hk.1.2.2.1⟩), by (with_reducible repeat (first | apply Kd.R_alloc | apply Kd.R_drewN | apply Kd.R_drew)); exact Kd.R_mono (Kd.R_far (p := ⟨gb147, 1, none⟩) (Kd.R_far (p := ⟨gb147, 0, none⟩) (Kd.R_types HO_165001.out BK147.out (by decide)) (fun _ hk => hk.2) (.slice Ao73 x165000_1.length co73)) (fun _ hk => hk.2) (.slice Ao75 x165001_1.length co75)) (fun _ hk => hk.1), Xi⟩
 ·exact absurd H (by simp)

/-! ### spec_CompileTerms: function 9 -/
def spec_CompileTerms.f (k : Nat) (l0 : List (S78)) : Option ((List (List Int)) × List Bool × Int) := if (l0.length : Int) > 4096 then (some (([] : List (List Int)), ([] : List Bool), 2)) else ((spec_l03Terms.f k l0).bind fun t195 => (if t195 = true then ((spec_l04Compile.f k l0).bind fun bt196 => (some (bt196.1, bt196.2, 0))) else (some (([] : List (List Int)), ([] : List Bool), 1))))
set_option maxHeartbeats 8000000 in
set_option maxRecDepth 100000 in
theorem spec_CompileTerms.calls (k : Nat) (A0 : Option Addr) (c0 : Nat) (l0 : List (S78)) (r1 : List (List Int)) (r2 : List Bool) (r3 : Int) (w : World) (hr0 : Kd.C k78 w A0 l0.length l0) (hc0 : l0.length ≤ c0) (h : spec_CompileTerms.f k l0 = some (r1, r2, r3)) :
  Calls Try.prog 9 #[.slice A0 l0.length c0] w fun e w' => ∃ v0_ v1_ : Value, e = .returned (.tuple #[.agg #[v0_, v1_], .int .i64 r3]) ∧ Kd.N (Kd.slice 3 (Kd.int .i64)) 39 w' w.heap.size (fun k_ => (w.heap.size ≤ k_) ∧ some k_ ≠ (v1_ : Value).ownBlock) v0_ r1 ∧ Kd.R Kd.bool 4 w' w.heap.size (fun k_ => (w.heap.size ≤ k_)) v1_ r2 ∧ Below w.heap.size w w' := by
 have hu27 := Try.underlying27
 have HR0 := Aside0.mk hr0
 have HC0 := Aside0.mk hc0
 clear hr0 hc0
 have HB := Aside0.mk (Below.refl w.heap.size w)
 have H : (if (l0.length : Int) > 4096 then (some (([] : List (List Int)), ([] : List Bool), 2)) else ((spec_l03Terms.f k l0).bind fun t195 => (if t195 = true then ((spec_l04Compile.f k l0).bind fun bt196 => (some (bt196.1, bt196.2, 0))) else (some (([] : List (List Int)), ([] : List Bool), 1))))) = some (r1, r2, r3) := h
 clear h
 have HC2 := Aside0.mk H
 clear H
 go_enter Try.func9, Try.ntmps9
 go_upto_if 6 with (first | ((with_reducible refine gate_dst (N := 2) rfl ?_); refine Xbox 2 #[.slice none 0 0, .slice none 0 0] 27 ?_; intro gb194 hg w3 hbox hb; have BK194 := Aside0.mk (hbox); have GE194 := Xge hg Xi; replace HB := Aside0.mk (below_step Xi hb); clear hb hbox hg))
 have H := HC2.out
 clear HC2
 obtain ⟨c4, H⟩ | ⟨c4, H⟩ := Xiu H
 ·have c4b0 : decide (4096 < (l0.length : Int)) = true := decide_eq_true c4
  have c4b1 : decide (4096 < l0.length) = true := decide_eq_true (by omega)
  clear c4
  (first | rw [c4b0] | (simp only [i64_w, i32_w]; rw [c4b0]) | skip)
  simp only [Option.some.injEq, Prod.mk.injEq] at H
  obtain ⟨rfl, rfl, rfl⟩ := H
  obtain ⟨hcz5_0, hcz5_1⟩ := Xc2 BK194
  obtain ⟨hfz5_0, hfz5_1⟩ := Xf2 BK194
  go_wp2
  refine bodyPost_ret (results_ct rfl _ _ gb194 27 #[.slice none 0 0, .slice none 0 0] (0, 0) _ rfl (by (with_reducible repeat (first | refine blk_drewN ?_ _ | refine blk_drew ?_ | refine blk_alloc ?_ _)); refine blk_put (cs := #[.slice none 0 0, .slice none 0 0]) ?_ 1 _ rfl; (with_reducible repeat (first | refine blk_drewN ?_ _ | refine blk_drew ?_ | refine blk_alloc ?_ _)); refine blk_put (cs := #[.slice none 0 0, .slice none 0 0]) ?_ 0 _ rfl; (with_reducible repeat (first | refine blk_drewN ?_ _ | refine blk_drew ?_ | refine blk_alloc ?_ _)); exact BK194.out) Try.underlying27 rfl (by kernel_rfl)) rfl ?_
  exact ⟨_, _, by first | rfl | (simp <;> rfl) | (simp [*] <;> rfl), by first | exact Kd.S_nil _ _ _ _ _ | exact Kd.N_nil _ _ _ _ _ | exact Kd.V_nil _ _ _ _ _ | exact Kd.Q_nil _ _ _ _ _ | exact Kd.R_nil _ _ _ _ _, by first | exact Kd.R_nil _ _ _ _ _ | exact Kd.N_nil _ _ _ _ _ | exact Kd.V_nil _ _ _ _ _ | exact Kd.Q_nil _ _ _ _ _ | exact Kd.S_nil _ _ _ _ _, Xi⟩
 ·have c4b0 : decide (4096 < (l0.length : Int)) = false := decide_eq_false c4
  have c4b1 : decide (4096 < l0.length) = false := decide_eq_false (by omega)
  clear c4
  (first | rw [c4b0] | (simp only [i64_w, i32_w]; rw [c4b0]) | skip)
  obtain ⟨t195, A6, H⟩ := Xbi H
  (try dsimp only at H)
  have HC7 := Aside0.mk H
  clear H
  go_upto_if 10 with (first | ((with_reducible refine gate_callee (f := 43) rfl ?_); refine Xgo 9 Try.func43 #[.slice A0 l0.length c0] ?_; (with_reducible refine (spec_l03Terms.calls k _ _ l0 t195 _ ?side1 ?side2 A6.out).mono ?_); (case side1 => exact Xc HR0); (case side2 => exact HC0.out); rintro e w8 ⟨rfl, hb⟩; refine ⟨_, rfl, ?_⟩; replace BK194 := Xbb BK194 hb; replace HB := Aside0.mk (below_step Xi hb); clear hb))
  have H := HC7.out
  clear HC7
  by_cases c9 : t195 = true
  ·subst c9
   (first | rw [if_pos rfl] at H | skip)
   replace H := Option.bind_eq_some_iff.mp H
   obtain ⟨⟨t196, t199⟩, A100, H⟩ := H
   (try dsimp only at H)
   have A10 := Aside0.mk A100
   clear A100
   simp only [Option.some.injEq, Prod.mk.injEq] at H
   obtain ⟨rfl, rfl, rfl⟩ := H
   go_wp2_with (first | ((with_reducible refine gate_callee (f := 44) rfl ?_); refine Xgo 13 Try.func44 #[.slice A0 l0.length c0] ?_; (with_reducible refine (spec_l04Compile.calls k _ _ l0 t196 t199 _ ?side1 ?side2 A10.out).mono ?_); (case side1 => exact Xc HR0); (case side2 => exact HC0.out); rintro e w11 ⟨v197, v200, rfl, ho0, ho1, hb⟩; refine ⟨_, rfl, ?_⟩; have HO198 := Aside0.mk (Kd.N_lower (Kd.N_mono (ok' := fun k_ => (w.heap.size ≤ k_) ∧ some k_ ≠ (v200 : Value).ownBlock ∧ k_ ≠ gb194) ho0 (fun k_ hk_ => ⟨(Nat.le_trans (below_size Xi) hk_.1), hk_.2, (Kd.freshB (g := gb194) (o := .cells #[.slice none 0 0, .slice none 0 0] 27 (0, 0)) BK194.out k_ hk_.1)⟩)) (below_size Xi)); have HO201 := Aside0.mk (Kd.R_lower (Kd.R_newM (M := fun k_ => (w.heap.size ≤ k_)) (Kd.R_mono (ok' := fun k_ => True) ho1 (fun _ hk_ => trivial)) (below_size Xi) (fun k_ h_ => h_)) (below_size Xi)); replace BK194 := Xbb BK194 hb; replace HB := Aside0.mk (below_step Xi hb); clear hb; (try clear ho0); (try clear ho1); obtain ⟨Ao12, co12, eo12⟩ := Kd.N_slice HO198.out; subst eo12; obtain ⟨hcz13_0, hcz13_1⟩ := Xc2 BK194; obtain ⟨hfz13_0, hfz13_1⟩ := Xf2 BK194; obtain ⟨Ao14, co14, eo14⟩ := Kd.R_slice HO201.out; subst eo14))
   refine bodyPost_ret (results_ct rfl _ _ gb194 27 #[.slice Ao12 t196.length co12, .slice Ao14 t199.length co14] (0, 0) _ rfl (by (with_reducible repeat (first | refine blk_drewN ?_ _ | refine blk_drew ?_ | refine blk_alloc ?_ _)); refine blk_put (cs := #[.slice Ao12 t196.length co12, .slice none 0 0]) ?_ 1 _ rfl; (with_reducible repeat (first | refine blk_drewN ?_ _ | refine blk_drew ?_ | refine blk_alloc ?_ _)); refine blk_put (cs := #[.slice none 0 0, .slice none 0 0]) ?_ 0 _ rfl; (with_reducible repeat (first | refine blk_drewN ?_ _ | refine blk_drew ?_ | refine blk_alloc ?_ _)); exact BK194.out) Try.underlying27 rfl (by kernel_rfl)) rfl ?_
   exact ⟨_, _, by first | rfl | (simp <;> rfl) | (simp [*] <;> rfl), by (with_reducible repeat (first | apply Kd.N_alloc | apply Kd.N_drewN | apply Kd.N_drew)); exact Kd.N_mono (Kd.N_far (p := ⟨gb194, 1, none⟩) (Kd.N_far (p := ⟨gb194, 0, none⟩) (Kd.N_mono HO198.out (fun k_ hk => (⟨hk, hk.2.2⟩ : _ ∧ k_ ≠ gb194))) (fun _ hk => hk.2) (.slice Ao12 t196.length co12)) (fun _ hk => hk.2) (.slice Ao14 t199.length co14)) (fun _ hk => ⟨hk.1.1, hk.1.2.1⟩), by (with_reducible repeat (first | apply Kd.R_alloc | apply Kd.R_drewN | apply Kd.R_drew)); exact Kd.R_mono (Kd.R_far (p := ⟨gb194, 1, none⟩) (Kd.R_far (p := ⟨gb194, 0, none⟩) (Kd.R_types HO201.out BK194.out (by decide)) (fun _ hk => hk.2) (.slice Ao12 t196.length co12)) (fun _ hk => hk.2) (.slice Ao14 t199.length co14)) (fun _ hk => hk.1.1), Xi⟩
  ·replace c9 := Bool.eq_false_iff.mpr c9
   subst c9
   (first | rw [if_neg (show ¬ (false = true) by decide)] at H | skip)
   simp only [Option.some.injEq, Prod.mk.injEq] at H
   obtain ⟨rfl, rfl, rfl⟩ := H
   obtain ⟨hcz15_0, hcz15_1⟩ := Xc2 BK194
   obtain ⟨hfz15_0, hfz15_1⟩ := Xf2 BK194
   go_wp2
   refine bodyPost_ret (results_ct rfl _ _ gb194 27 #[.slice none 0 0, .slice none 0 0] (0, 0) _ rfl (by (with_reducible repeat (first | refine blk_drewN ?_ _ | refine blk_drew ?_ | refine blk_alloc ?_ _)); refine blk_put (cs := #[.slice none 0 0, .slice none 0 0]) ?_ 1 _ rfl; (with_reducible repeat (first | refine blk_drewN ?_ _ | refine blk_drew ?_ | refine blk_alloc ?_ _)); refine blk_put (cs := #[.slice none 0 0, .slice none 0 0]) ?_ 0 _ rfl; (with_reducible repeat (first | refine blk_drewN ?_ _ | refine blk_drew ?_ | refine blk_alloc ?_ _)); exact BK194.out) Try.underlying27 rfl (by kernel_rfl)) rfl ?_
   exact ⟨_, _, by first | rfl | (simp <;> rfl) | (simp [*] <;> rfl), by first | exact Kd.S_nil _ _ _ _ _ | exact Kd.N_nil _ _ _ _ _ | exact Kd.V_nil _ _ _ _ _ | exact Kd.Q_nil _ _ _ _ _ | exact Kd.R_nil _ _ _ _ _, by first | exact Kd.R_nil _ _ _ _ _ | exact Kd.N_nil _ _ _ _ _ | exact Kd.V_nil _ _ _ _ _ | exact Kd.Q_nil _ _ _ _ _ | exact Kd.S_nil _ _ _ _ _, Xi⟩

end Go.Proofs.Ythkbgbkglgmpoaa.XA
