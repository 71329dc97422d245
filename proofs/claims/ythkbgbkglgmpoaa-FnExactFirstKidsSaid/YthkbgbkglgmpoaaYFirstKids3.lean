/- Contracts of the program's functions: each Go function that is named below comes to what its Lean function says. Written by xprint.py (a program of this session's, over the kit's print). Conditions: each contract's own premises. -/
import Derived.Test.YthkbgbkglgmpoaaYFirstKids0
import Derived.Test.YthkbgbkglgmpoaaYFirstKids2
namespace Go.Proofs.Ythkbgbkglgmpoaa.XA
open Go.RowKit Go.Proofs.YthkbgbkglgmpoaaW.PrintWords Go.Proofs.YthkbgbkglgmpoaaW.PrintLast Go.Proofs.YthkbgbkglgmpoaaW.PrintMore XW
attribute [local go_sem] max2_int min2_int max_two min_two max_three min_three max_four min_four   -- for this text's walks alone
set_option linter.unusedVariables false
set_option linter.unusedSimpArgs false

/-! ### spec_l04First: function 59 -/
mutual
def spec_l04First.l0 : Nat → List Int → List (List Int) → Int → List (List Int) → List Bool → Option (List Int × Bool)
 | 0, _, _, _, _, _ => none
 | k + 1, x4, x5, x6, x127000, x127001 => if x6 < (x4.length : Int) then (if 0 ≤ x6 then (if 0 ≤ (rd x4 x6) then (if (rd x4 x6) < (x127001.length : Int) then (if rdOf false x127001 (rd x4 x6) = true then (if x6 < (x5.length : Int) then (some (rd_L1 x5 x6, true)) else (none)) else (spec_l04First.l1 k x4 x5 x6 1 x127000 x127001)) else (none)) else (none)) else (none)) else (some ((([] : List Int)), false))
def spec_l04First.l1 : Nat → List Int → List (List Int) → Int → Int → List (List Int) → List Bool → Option (List Int × Bool)
 | 0, _, _, _, _, _, _ => none
 | k + 1, x4, x5, x6, x7, x127000, x127001 => if x7 ≤ 8 then (if 0 ≤ x6 then (if x6 < (x4.length : Int) then (if 0 ≤ (rd x4 x6) then (if (rd x4 x6) < (x127000.length : Int) then (if 0 ≤ (wrap64 (x7 - 1)) then (if (wrap64 (x7 - 1)) < ((rd_L1 x127000 (rd x4 x6)).length : Int) then (if (rd (rd_L1 x127000 (rd x4 x6)) (wrap64 (x7 - 1))) ≥ 0 then ((spec_l02Has.f k x4 (rd (rd_L1 x127000 (rd x4 x6)) (wrap64 (x7 - 1)))).bind fun t145 => (if t145 = true then (spec_l04First.l1 k x4 x5 x6 (wrap64 (x7 + 1)) x127000 x127001) else (if x4.length < 17592186044416 then ((some (([] : List Int) : List Int)).bind fun y149 => (if x6 < (x5.length : Int) then (if y149.length + (rd_L1 x5 x6).length < 17592186044416 then ((some (y149 ++ (rd_L1 x5 x6) : List Int)).bind fun y153 => (if y153.length < 17592186044416 then (if x5.length < 5864062014805 then (spec_l04First.l1 k (x4 ++ [rd (rd_L1 x127000 (rd x4 x6)) (wrap64 (x7 - 1))]) (x5 ++ [(y153 ++ [x7])]) x6 (wrap64 (x7 + 1)) x127000 x127001) else (none)) else (none))) else (none)) else (none))) else (none)))) else (spec_l04First.l1 k x4 x5 x6 (wrap64 (x7 + 1)) x127000 x127001)) else (none)) else (none)) else (none)) else (none)) else (none)) else (none)) else (spec_l04First.l0 k x4 x5 (wrap64 (x6 + 1)) x127000 x127001)
end
def spec_l04First.f (k : Nat) (l0_0 : List (List Int)) (l0_1 : List Bool) : Option (List Int × Bool) := spec_l04First.l0 k (([0] : List Int)) (([(([] : List Int))] : List (List Int))) 0 l0_0 l0_1
set_option maxHeartbeats 8000000 in
set_option maxRecDepth 100000 in
theorem spec_l04First.calls (k : Nat) (A0_0 : Option Addr) (c0_0 : Nat) (l0_0 : List (List Int)) (A0_1 : Option Addr) (c0_1 : Nat) (l0_1 : List Bool) (r1 : List Int) (r2 : Bool) (w : World) (hr0_0 : Kd.C (Kd.slice 3 (Kd.int .i64)) w A0_0 l0_0.length l0_0) (hc0_0 : l0_0.length ≤ c0_0) (hr0_1 : Kd.C Kd.bool w A0_1 l0_1.length l0_1) (hc0_1 : l0_1.length ≤ c0_1) (h : spec_l04First.f k l0_0 l0_1 = some (r1, r2)) :
  Calls Try.prog 59 #[.agg #[.slice A0_0 l0_0.length c0_0, .slice A0_1 l0_1.length c0_1]] w fun e w' => ∃ v0_ : Value, e = .returned (.tuple #[v0_, .bool r2]) ∧ Kd.V (Kd.int .i64) 3 w' w.heap.size (fun k_ => (w.heap.size ≤ k_)) v0_ r1 ∧ Below w.heap.size w w' := by
 have hu27 := Try.underlying27
 have HR0_0 := Aside0.mk hr0_0
 have HC0_0 := Aside0.mk hc0_0
 clear hr0_0 hc0_0
 have HR0_1 := Aside0.mk hr0_1
 have HC0_1 := Aside0.mk hc0_1
 clear hr0_1 hc0_1
 have HB := Aside0.mk (Below.refl w.heap.size w)
 have H : (spec_l04First.l0 k (([0] : List Int)) (([(([] : List Int))] : List (List Int))) 0 l0_0 l0_1) = some (r1, r2) := h
 clear h
 obtain ⟨y127, hy127⟩ : ∃ y_ : List Int, y_ = (([0] : List Int)) := ⟨_, rfl⟩
 replace H : (spec_l04First.l0 k y127 (([(([] : List Int))] : List (List Int))) 0 l0_0 l0_1) = some (r1, r2) := by first | (rw [hy127]; with_reducible exact H) | (have H2_ := (Option.bind_some _ _).symm.trans H; rw [hy127]; with_reducible exact H2_) | (have H2_ := (Option.bind_some _ _).symm.trans H; with_reducible exact H2_) | with_reducible exact H | (rw [hy127]; exact H) | exact H
 have Ny127 := Aside0.mk hy127
 clear hy127
 obtain ⟨y130, hy130⟩ : ∃ y_ : List Int, y_ = (([] : List Int)) := ⟨_, rfl⟩
 replace H : (spec_l04First.l0 k y127 (([y130] : List (List Int))) 0 l0_0 l0_1) = some (r1, r2) := by first | (rw [hy130]; with_reducible exact H) | (have H2_ := (Option.bind_some _ _).symm.trans H; rw [hy130]; with_reducible exact H2_) | (have H2_ := (Option.bind_some _ _).symm.trans H; with_reducible exact H2_) | with_reducible exact H | (rw [hy130]; exact H) | exact H
 have Ny130 := Aside0.mk hy130
 clear hy130
 obtain ⟨y133, hy133⟩ : ∃ y_ : List (List Int), y_ = (([y130] : List (List Int))) := ⟨_, rfl⟩
 replace H : (spec_l04First.l0 k y127 y133 0 l0_0 l0_1) = some (r1, r2) := by first | (rw [hy133]; with_reducible exact H) | (have H2_ := (Option.bind_some _ _).symm.trans H; rw [hy133]; with_reducible exact H2_) | (have H2_ := (Option.bind_some _ _).symm.trans H; with_reducible exact H2_) | with_reducible exact H | (rw [hy133]; exact H) | exact H
 have Ny133 := Aside0.mk hy133
 clear hy133
 have H' := Aside0.mk H
 clear H
 go_enter Try.func59, Try.ntmps59
 go_wp2_with (first | ((with_reducible refine gate_dst (N := 1) rfl ?_); refine Xbox 1 #[.slice A0_0 l0_0.length c0_0, .slice A0_1 l0_1.length c0_1] 27 ?_; intro gb126 hg w2 hbox hb; have BK126 := Aside0.mk (hbox); have GE126 := Xge hg Xi; have GW126 := GE126; replace HB := Aside0.mk (below_step Xi hb); clear hb hbox hg) | ((with_reducible refine gate_dst (N := 9) rfl ?_); refine Kd.R_lit (Kd.int .i64) _ 3 ?hg (N := 9) ?hd (xs := ([0] : List Int)) (inner := [.int .i64 0]) (ok := fun _ => True) (okp := fun _ => True) ?hr ?hp (fun _ hk => hk) trivial (Below.refl _ _) (Nat.le_refl _) (by simp) ?_; (case hd => rfl); (case hg => rfl); (case hr => first | (go_simp; done) | (go_simp; rfl)); (case hp => exact (Reps.one (show Kd.M (Kd.int .i64) _ _ _ 0 [.int .i64 0] from rfl) (Reps.none _ _))); intro v128 w3 ho4 hb hg_ hnew_; clear hg_ hnew_; (first | rw [← Ny127.out] at ho4 | (simp only [Int.reduceToNat] at ho4; rw [← Ny127.out] at ho4)); have HO129 := Aside0.mk (Kd.R_lower (Kd.R_newM (M := fun k_ => (w.heap.size ≤ k_)) ho4 (below_size Xi) (fun k_ h_ => h_)) (below_size Xi)); replace BK126 := Xbb BK126 hb; replace HB := Aside0.mk (below_step Xi hb); clear hb ho4) | ((with_reducible refine gate_dst (N := 10) rfl ?_); refine Kd.R_lit (Kd.int .i64) _ 3 ?hg (N := 10) ?hd (xs := ([] : List Int)) (inner := []) (ok := fun _ => True) (okp := fun _ => True) ?hr ?hp (fun _ hk => hk) trivial (Below.refl _ _) (Nat.le_refl _) (by simp) ?_; (case hd => rfl); (case hg => rfl); (case hr => first | (go_simp; done) | (go_simp; rfl)); (case hp => exact (Reps.none _ _)); intro v131 w5 ho6 hb hg_ hnew_; clear hg_ hnew_; (first | rw [← Ny130.out] at ho6 | (simp only [Int.reduceToNat] at ho6; rw [← Ny130.out] at ho6)); have HO132 := Aside0.mk (Kd.R_lower (Kd.R_new' (Kd.R_newM (M := fun k_ => (w.heap.size ≤ k_)) ho6 (below_size Xi) (fun k_ h_ => h_)) (Kd.R_lt (Xq HO129))) (below_size Xi)); replace HO129 := Aside0.mk (Kd.R_elder' (Xq HO129) (Kd.R_base ho6) hb); replace BK126 := Xbb BK126 hb; replace HB := Aside0.mk (below_step Xi hb); clear hb ho6; obtain ⟨Ao7, co7, eo7⟩ := Kd.R_slice HO132.out; subst eo7) | ((with_reducible refine gate_dst (N := 11) rfl ?_); refine Kd.N_lit (Kd.slice 3 (Kd.int .i64)) _ 39 ?hg (N' := 11) ?hd (xs := ([y130] : List (List Int))) (inner := [.slice Ao7 y130.length co7]) (ok := (fun k_ => (w.heap.size ≤ k_) ∧ some k_ ≠ (v128 : Value).ownBlock ∧ k_ ≠ gb126)) (okp := (fun k_ => (w.heap.size ≤ k_) ∧ some k_ ≠ (v128 : Value).ownBlock ∧ k_ ≠ gb126)) ?hr ?hp (fun _ hk => hk) ((show ∀ k_, w5.heap.size ≤ k_ → (fun k_ => (w.heap.size ≤ k_) ∧ some k_ ≠ (v128 : Value).ownBlock ∧ k_ ≠ gb126) k_ from fun k_ hk => ⟨(Nat.le_trans (below_size Xi) hk), Kd.fresh' (Kd.R_lt (Xq HO129)) k_ hk, Kd.freshB (g := gb126) (o := .cells #[.slice A0_0 l0_0.length c0_0, .slice A0_1 l0_1.length c0_1] 27 (0, 0)) (Xq' BK126) k_ hk⟩) _ (Nat.le_refl _)) (Below.refl _ _) (Nat.le_refl _) (by simp) ?_; (case hd => rfl); (case hg => rfl); (case hr => first | (go_simp; done) | (go_simp; rfl)); (case hp => exact (Reps.one (show Kd.FK (Kd.slice 3 (Kd.int .i64)) _ _ y130 [.slice Ao7 y130.length co7] from (Kd.FK_slice_mk (Kd.R_reads' (Kd.R_mono (ok' := (fun k_ => (w.heap.size ≤ k_) ∧ some k_ ≠ (v128 : Value).ownBlock ∧ k_ ≠ gb126)) (Kd.R_types (HO132.out) BK126.out (by decide)) (fun k_ hk => ⟨hk.1.1.1, ⟨hk.1.2, hk.2⟩⟩))).2.1 (Kd.R_F (Kd.R_mono (ok' := (fun k_ => (w.heap.size ≤ k_) ∧ some k_ ≠ (v128 : Value).ownBlock ∧ k_ ≠ gb126)) (Kd.R_types (HO132.out) BK126.out (by decide)) (fun k_ hk => ⟨hk.1.1.1, ⟨hk.1.2, hk.2⟩⟩))))) (Reps.none _ _))); intro v134 w8 ho9 hb hg_ hnew_; clear hg_ hnew_; (first | rw [← Ny133.out] at ho9 | (simp only [Int.reduceToNat] at ho9; rw [← Ny133.out] at ho9)); replace HO129 := Aside0.mk (Kd.R_below (Xq HO129) hb); have HO135 := Aside0.mk (Kd.N_lower ho9 (below_size Xi)); replace BK126 := Xbb BK126 hb; replace HB := Aside0.mk (below_step Xi hb); clear HO132; clear hb ho9))
 repeat (go_quiet (first | ((with_reducible refine gate_dst (N := 1) rfl ?_); refine Xbox 1 #[.slice A0_0 l0_0.length c0_0, .slice A0_1 l0_1.length c0_1] 27 ?_; intro gb126 hg w2 hbox hb; have BK126 := Aside0.mk (hbox); have GE126 := Xge hg Xi; have GW126 := GE126; replace HB := Aside0.mk (below_step Xi hb); clear hb hbox hg) | ((with_reducible refine gate_dst (N := 9) rfl ?_); refine Kd.R_lit (Kd.int .i64) _ 3 ?hg (N := 9) ?hd (xs := ([0] : List Int)) (inner := [.int .i64 0]) (ok := fun _ => True) (okp := fun _ => True) ?hr ?hp (fun _ hk => hk) trivial (Below.refl _ _) (Nat.le_refl _) (by simp) ?_; (case hd => rfl); (case hg => rfl); (case hr => first | (go_simp; done) | (go_simp; rfl)); (case hp => exact (Reps.one (show Kd.M (Kd.int .i64) _ _ _ 0 [.int .i64 0] from rfl) (Reps.none _ _))); intro v128 w3 ho4 hb hg_ hnew_; clear hg_ hnew_; (first | rw [← Ny127.out] at ho4 | (simp only [Int.reduceToNat] at ho4; rw [← Ny127.out] at ho4)); have HO129 := Aside0.mk (Kd.R_lower (Kd.R_newM (M := fun k_ => (w.heap.size ≤ k_)) ho4 (below_size Xi) (fun k_ h_ => h_)) (below_size Xi)); replace BK126 := Xbb BK126 hb; replace HB := Aside0.mk (below_step Xi hb); clear hb ho4) | ((with_reducible refine gate_dst (N := 10) rfl ?_); refine Kd.R_lit (Kd.int .i64) _ 3 ?hg (N := 10) ?hd (xs := ([] : List Int)) (inner := []) (ok := fun _ => True) (okp := fun _ => True) ?hr ?hp (fun _ hk => hk) trivial (Below.refl _ _) (Nat.le_refl _) (by simp) ?_; (case hd => rfl); (case hg => rfl); (case hr => first | (go_simp; done) | (go_simp; rfl)); (case hp => exact (Reps.none _ _)); intro v131 w5 ho6 hb hg_ hnew_; clear hg_ hnew_; (first | rw [← Ny130.out] at ho6 | (simp only [Int.reduceToNat] at ho6; rw [← Ny130.out] at ho6)); have HO132 := Aside0.mk (Kd.R_lower (Kd.R_new' (Kd.R_newM (M := fun k_ => (w.heap.size ≤ k_)) ho6 (below_size Xi) (fun k_ h_ => h_)) (Kd.R_lt (Xq HO129))) (below_size Xi)); replace HO129 := Aside0.mk (Kd.R_elder' (Xq HO129) (Kd.R_base ho6) hb); replace BK126 := Xbb BK126 hb; replace HB := Aside0.mk (below_step Xi hb); clear hb ho6; obtain ⟨Ao7, co7, eo7⟩ := Kd.R_slice HO132.out; subst eo7) | ((with_reducible refine gate_dst (N := 11) rfl ?_); refine Kd.N_lit (Kd.slice 3 (Kd.int .i64)) _ 39 ?hg (N' := 11) ?hd (xs := ([y130] : List (List Int))) (inner := [.slice Ao7 y130.length co7]) (ok := (fun k_ => (w.heap.size ≤ k_) ∧ some k_ ≠ (v128 : Value).ownBlock ∧ k_ ≠ gb126)) (okp := (fun k_ => (w.heap.size ≤ k_) ∧ some k_ ≠ (v128 : Value).ownBlock ∧ k_ ≠ gb126)) ?hr ?hp (fun _ hk => hk) ((show ∀ k_, w5.heap.size ≤ k_ → (fun k_ => (w.heap.size ≤ k_) ∧ some k_ ≠ (v128 : Value).ownBlock ∧ k_ ≠ gb126) k_ from fun k_ hk => ⟨(Nat.le_trans (below_size Xi) hk), Kd.fresh' (Kd.R_lt (Xq HO129)) k_ hk, Kd.freshB (g := gb126) (o := .cells #[.slice A0_0 l0_0.length c0_0, .slice A0_1 l0_1.length c0_1] 27 (0, 0)) (Xq' BK126) k_ hk⟩) _ (Nat.le_refl _)) (Below.refl _ _) (Nat.le_refl _) (by simp) ?_; (case hd => rfl); (case hg => rfl); (case hr => first | (go_simp; done) | (go_simp; rfl)); (case hp => exact (Reps.one (show Kd.FK (Kd.slice 3 (Kd.int .i64)) _ _ y130 [.slice Ao7 y130.length co7] from (Kd.FK_slice_mk (Kd.R_reads' (Kd.R_mono (ok' := (fun k_ => (w.heap.size ≤ k_) ∧ some k_ ≠ (v128 : Value).ownBlock ∧ k_ ≠ gb126)) (Kd.R_types (HO132.out) BK126.out (by decide)) (fun k_ hk => ⟨hk.1.1.1, ⟨hk.1.2, hk.2⟩⟩))).2.1 (Kd.R_F (Kd.R_mono (ok' := (fun k_ => (w.heap.size ≤ k_) ∧ some k_ ≠ (v128 : Value).ownBlock ∧ k_ ≠ gb126)) (Kd.R_types (HO132.out) BK126.out (by decide)) (fun k_ hk => ⟨hk.1.1.1, ⟨hk.1.2, hk.2⟩⟩))))) (Reps.none _ _))); intro v134 w8 ho9 hb hg_ hnew_; clear hg_ hnew_; (first | rw [← Ny133.out] at ho9 | (simp only [Int.reduceToNat] at ho9; rw [← Ny133.out] at ho9)); replace HO129 := Aside0.mk (Kd.R_below (Xq HO129) hb); have HO135 := Aside0.mk (Kd.N_lower ho9 (below_size Xi)); replace BK126 := Xbb BK126 hb; replace HB := Aside0.mk (below_step Xi hb); clear HO132; clear hb ho9)); try go_wp2_with (first | ((with_reducible refine gate_dst (N := 1) rfl ?_); refine Xbox 1 #[.slice A0_0 l0_0.length c0_0, .slice A0_1 l0_1.length c0_1] 27 ?_; intro gb126 hg w2 hbox hb; have BK126 := Aside0.mk (hbox); have GE126 := Xge hg Xi; have GW126 := GE126; replace HB := Aside0.mk (below_step Xi hb); clear hb hbox hg) | ((with_reducible refine gate_dst (N := 9) rfl ?_); refine Kd.R_lit (Kd.int .i64) _ 3 ?hg (N := 9) ?hd (xs := ([0] : List Int)) (inner := [.int .i64 0]) (ok := fun _ => True) (okp := fun _ => True) ?hr ?hp (fun _ hk => hk) trivial (Below.refl _ _) (Nat.le_refl _) (by simp) ?_; (case hd => rfl); (case hg => rfl); (case hr => first | (go_simp; done) | (go_simp; rfl)); (case hp => exact (Reps.one (show Kd.M (Kd.int .i64) _ _ _ 0 [.int .i64 0] from rfl) (Reps.none _ _))); intro v128 w3 ho4 hb hg_ hnew_; clear hg_ hnew_; (first | rw [← Ny127.out] at ho4 | (simp only [Int.reduceToNat] at ho4; rw [← Ny127.out] at ho4)); have HO129 := Aside0.mk (Kd.R_lower (Kd.R_newM (M := fun k_ => (w.heap.size ≤ k_)) ho4 (below_size Xi) (fun k_ h_ => h_)) (below_size Xi)); replace BK126 := Xbb BK126 hb; replace HB := Aside0.mk (below_step Xi hb); clear hb ho4) | ((with_reducible refine gate_dst (N := 10) rfl ?_); refine Kd.R_lit (Kd.int .i64) _ 3 ?hg (N := 10) ?hd (xs := ([] : List Int)) (inner := []) (ok := fun _ => True) (okp := fun _ => True) ?hr ?hp (fun _ hk => hk) trivial (Below.refl _ _) (Nat.le_refl _) (by simp) ?_; (case hd => rfl); (case hg => rfl); (case hr => first | (go_simp; done) | (go_simp; rfl)); (case hp => exact (Reps.none _ _)); intro v131 w5 ho6 hb hg_ hnew_; clear hg_ hnew_; (first | rw [← Ny130.out] at ho6 | (simp only [Int.reduceToNat] at ho6; rw [← Ny130.out] at ho6)); have HO132 := Aside0.mk (Kd.R_lower (Kd.R_new' (Kd.R_newM (M := fun k_ => (w.heap.size ≤ k_)) ho6 (below_size Xi) (fun k_ h_ => h_)) (Kd.R_lt (Xq HO129))) (below_size Xi)); replace HO129 := Aside0.mk (Kd.R_elder' (Xq HO129) (Kd.R_base ho6) hb); replace BK126 := Xbb BK126 hb; replace HB := Aside0.mk (below_step Xi hb); clear hb ho6; obtain ⟨Ao7, co7, eo7⟩ := Kd.R_slice HO132.out; subst eo7) | ((with_reducible refine gate_dst (N := 11) rfl ?_); refine Kd.N_lit (Kd.slice 3 (Kd.int .i64)) _ 39 ?hg (N' := 11) ?hd (xs := ([y130] : List (List Int))) (inner := [.slice Ao7 y130.length co7]) (ok := (fun k_ => (w.heap.size ≤ k_) ∧ some k_ ≠ (v128 : Value).ownBlock ∧ k_ ≠ gb126)) (okp := (fun k_ => (w.heap.size ≤ k_) ∧ some k_ ≠ (v128 : Value).ownBlock ∧ k_ ≠ gb126)) ?hr ?hp (fun _ hk => hk) ((show ∀ k_, w5.heap.size ≤ k_ → (fun k_ => (w.heap.size ≤ k_) ∧ some k_ ≠ (v128 : Value).ownBlock ∧ k_ ≠ gb126) k_ from fun k_ hk => ⟨(Nat.le_trans (below_size Xi) hk), Kd.fresh' (Kd.R_lt (Xq HO129)) k_ hk, Kd.freshB (g := gb126) (o := .cells #[.slice A0_0 l0_0.length c0_0, .slice A0_1 l0_1.length c0_1] 27 (0, 0)) (Xq' BK126) k_ hk⟩) _ (Nat.le_refl _)) (Below.refl _ _) (Nat.le_refl _) (by simp) ?_; (case hd => rfl); (case hg => rfl); (case hr => first | (go_simp; done) | (go_simp; rfl)); (case hp => exact (Reps.one (show Kd.FK (Kd.slice 3 (Kd.int .i64)) _ _ y130 [.slice Ao7 y130.length co7] from (Kd.FK_slice_mk (Kd.R_reads' (Kd.R_mono (ok' := (fun k_ => (w.heap.size ≤ k_) ∧ some k_ ≠ (v128 : Value).ownBlock ∧ k_ ≠ gb126)) (Kd.R_types (HO132.out) BK126.out (by decide)) (fun k_ hk => ⟨hk.1.1.1, ⟨hk.1.2, hk.2⟩⟩))).2.1 (Kd.R_F (Kd.R_mono (ok' := (fun k_ => (w.heap.size ≤ k_) ∧ some k_ ≠ (v128 : Value).ownBlock ∧ k_ ≠ gb126)) (Kd.R_types (HO132.out) BK126.out (by decide)) (fun k_ hk => ⟨hk.1.1.1, ⟨hk.1.2, hk.2⟩⟩))))) (Reps.none _ _))); intro v134 w8 ho9 hb hg_ hnew_; clear hg_ hnew_; (first | rw [← Ny133.out] at ho9 | (simp only [Int.reduceToNat] at ho9; rw [← Ny133.out] at ho9)); replace HO129 := Aside0.mk (Kd.R_below (Xq HO129) hb); have HO135 := Aside0.mk (Kd.N_lower ho9 (below_size Xi)); replace BK126 := Xbb BK126 hb; replace HB := Aside0.mk (below_step Xi hb); clear HO132; clear hb ho9)))
 go_loopg [4, 5, 6] k (fun kq v4 v5 v6 w' => ∃ (x4_1 : List Int) (x5_1 : List (List Int)) (x6_1 : Int), v6 = .int .i64 x6_1 ∧ Aside0 (spec_l04First.l0 kq x4_1 x5_1 x6_1 l0_0 l0_1 = some (r1, r2)) ∧ Aside0 (kq ≤ k) ∧ Aside0 (Kd.R (Kd.int .i64) 3 w' w.heap.size (fun k_ => (w.heap.size ≤ k_)) v4 x4_1) ∧ Aside0 (Kd.N (Kd.slice 3 (Kd.int .i64)) 39 w' w.heap.size (fun k_ => (w.heap.size ≤ k_) ∧ some k_ ≠ (v4 : Value).ownBlock ∧ k_ ≠ gb126) v5 x5_1) ∧ Aside0 (w'.heap[gb126]? = some (.cells #[(.slice A0_0 l0_0.length c0_0), (.slice A0_1 l0_1.length c0_1)] 27 (0, 0))) ∧ Aside0 (Below w.heap.size w w'))
 case atStart => exact ⟨(y127), (y133), (0), Xr, H', Xkr, ⟨by (with_reducible repeat (first | apply Kd.R_alloc | apply Kd.R_drewN | apply Kd.R_drew)); exact Kd.R_mono HO129.out (fun _ hk => hk.1.1)⟩, (Xp' HO135), (Xp BK126), ⟨Xi⟩⟩
 case round =>
  clear H'
  obtain ⟨x4_1, x5_1, x6_1, rfl, HA, HK1, HO_4, HO_5, BK126, HB⟩ := hrel
  cases gk with
  | zero => cases HA.out
  | succ k1 =>
   have H := HA.out
   clear HA
   simp only [spec_l04First.l0] at H
   obtain ⟨c10b0, H⟩ | ⟨c10b0, H⟩ := Xit H
   ·obtain ⟨c11b0, H⟩ := Xid H
    obtain ⟨c12b0, H⟩ := Xid H
    obtain ⟨c13b0, H⟩ := Xid H
    obtain ⟨bq14, hbq14⟩ : ∃ b_ : Bool, b_ = (rdOf false l0_1 (rd x4_1 x6_1)) := ⟨_, rfl⟩
    replace H : (if bq14 = true then (if x6_1 < (x5_1.length : Int) then (some (rd_L1 x5_1 x6_1, true)) else (none)) else (spec_l04First.l1 k1 x4_1 x5_1 x6_1 1 l0_0 l0_1)) = some (r1, r2) := by rw [← hbq14] at H; exact H
    have Nbq14 := Aside0.mk hbq14
    clear hbq14
    by_cases c15 : bq14 = true
    ·subst c15
     (first | rw [if_pos rfl] at H | skip)
     obtain ⟨c16b0, H⟩ := Xid H
     simp only [Option.some.injEq, Prod.mk.injEq] at H
     obtain ⟨rfl, rfl⟩ := H
     obtain ⟨Ao17, co17, eo17⟩ := Kd.R_slice HO_4.out
     subst eo17
     obtain ⟨hcz18_0, hcz18_1⟩ := Xc2 BK126
     have p139 : 0 ≤ (x6_1 : Int) := of_decide_eq_true Xa
     have q139 : x6_1 < (x4_1.length : Int) := of_decide_eq_true Xa
     obtain ⟨ad139, e139, hx139_0⟩ := Kd.at_int (Kd.R_reads' HO_4.out).2.2 x6_1 p139 q139
     cases e139
     replace p139 := eq_true p139
     replace q139 := eq_true q139
     have p140 : 0 ≤ ((rd x4_1 x6_1) : Int) := of_decide_eq_true Xa
     have q140 : (rd x4_1 x6_1) < (l0_1.length : Int) := of_decide_eq_true Xa
     obtain ⟨ad140, e140, hx140_0⟩ := Kd.at_bool HR0_1.out (rd x4_1 x6_1) p140 q140
     (try rw [← Nbq14.out] at hx140_0)
     cases e140
     replace hx140_0 := Xm HB hx140_0
     replace p140 := eq_true p140
     replace q140 := eq_true q140
     obtain ⟨Ao19, co19, eo19⟩ := Kd.N_slice HO_5.out
     subst eo19
     have p141 : 0 ≤ (x6_1 : Int) := of_decide_eq_true Xa
     have q141 : x6_1 < (x5_1.length : Int) := of_decide_eq_true Xa
     obtain ⟨ad141, A141_0, c141_0, e141, hx141_0, hl141_0, hi141_0⟩ := at_L1 (Kd.N_reads' HO_5.out).2.2 x6_1 p141 q141
     cases e141
     obtain ⟨ce141, hce141, hMe141, hcc141⟩ := Kd.N_get HO_5.out [] x6_1 p141 (by first | exact q141 | exact of_decide_eq_true Xa | (have e_ := (Kd.N_reads' HO_5.out).1; omega))
     obtain ⟨ua141_0, uc141_0, rfl, ul141_0, ge141_0⟩ := Kd.FK_slice_open hMe141
     have hv141_0 := hcc141 0 _ rfl
     rw [Nat.add_zero, show ((Kd.slice 3 (Kd.int .i64))).sz = 1 from rfl, Nat.mul_one] at hv141_0
     replace hv141_0 := Option.some.inj (hv141_0.symm.trans hx141_0)
     injection hv141_0 with hva_ hvn_ hvc_
     rw [hva_] at ge141_0
     rw [hvc_] at ul141_0
     have HL141_0 := Aside0.mk (show Kd.V (Kd.int .i64) 3 _ w.heap.size _ _ (rd_L1 x5_1 x6_1) from Kd.V_mk ul141_0 ge141_0)
     clear hva_ hvn_ hvc_ ge141_0 ul141_0
     clear hcc141 hce141
     have HR141_0 := Aside0.mk hi141_0
     have HC141_0 := Aside0.mk hl141_0
     clear hi141_0 hl141_0
     replace p141 := eq_true p141
     replace q141 := eq_true q141
     go_wp2
     repeat (go_quiet (fail); try go_wp2)
     go_ret2
     exact ⟨_, Xe, by (with_reducible repeat (first | apply Kd.V_alloc | apply Kd.V_drewN | apply Kd.V_drew)); exact Kd.V_mono HL141_0.out (fun _ hk => hk.1.1), Xi⟩
    ·replace c15 := Bool.eq_false_iff.mpr c15
     subst c15
     (first | rw [if_neg (show ¬ (false = true) by decide)] at H | skip)
     have H' := Aside0.mk H
     clear H
     obtain ⟨Ao20, co20, eo20⟩ := Kd.R_slice HO_4.out
     subst eo20
     obtain ⟨hcz21_0, hcz21_1⟩ := Xc2 BK126
     have p139 : 0 ≤ (x6_1 : Int) := of_decide_eq_true Xa
     have q139 : x6_1 < (x4_1.length : Int) := of_decide_eq_true Xa
     obtain ⟨ad139, e139, hx139_0⟩ := Kd.at_int (Kd.R_reads' HO_4.out).2.2 x6_1 p139 q139
     cases e139
     replace p139 := eq_true p139
     replace q139 := eq_true q139
     have p140 : 0 ≤ ((rd x4_1 x6_1) : Int) := of_decide_eq_true Xa
     have q140 : (rd x4_1 x6_1) < (l0_1.length : Int) := of_decide_eq_true Xa
     obtain ⟨ad140, e140, hx140_0⟩ := Kd.at_bool HR0_1.out (rd x4_1 x6_1) p140 q140
     (try rw [← Nbq14.out] at hx140_0)
     cases e140
     replace hx140_0 := Xm HB hx140_0
     replace p140 := eq_true p140
     replace q140 := eq_true q140
     go_wp2
     repeat (go_quiet (fail); try go_wp2)
     go_loopg [4, 5, 7] k1 (fun kq v4 v5 v7 w' => ∃ (x4_2 : List Int) (x5_2 : List (List Int)) (x7_2 : Int), v7 = .int .i64 x7_2 ∧ Aside0 (spec_l04First.l1 kq x4_2 x5_2 x6_1 x7_2 l0_0 l0_1 = some (r1, r2)) ∧ Aside0 (kq ≤ k1) ∧ Aside0 (Kd.R (Kd.int .i64) 3 w' w.heap.size (fun k_ => (w.heap.size ≤ k_)) v4 x4_2) ∧ Aside0 (Kd.N (Kd.slice 3 (Kd.int .i64)) 39 w' w.heap.size (fun k_ => (w.heap.size ≤ k_) ∧ some k_ ≠ (v4 : Value).ownBlock ∧ k_ ≠ gb126) v5 x5_2) ∧ Aside0 (w'.heap[gb126]? = some (.cells #[(.slice A0_0 l0_0.length c0_0), (.slice (some ad140) l0_1.length c0_1)] 27 (0, 0))) ∧ Aside0 (Below w.heap.size w w'))
     case atStart => exact ⟨(x4_1), (x5_1), (1), Xr, H', Xkr, (Xp' HO_4), (Xp' HO_5), (Xp BK126), ⟨Xi⟩⟩
     case round =>
      clear H'
      (try clear c10); (try clear c10b0); (try clear c11); (try clear c11b0); (try clear c12); (try clear c12b0); (try clear c13); (try clear c13b0); (try clear c15); (try clear hcz21_0); (try clear hcz21_1); (try clear hx139_0); (try clear hx140_0); (try clear p139); (try clear p140); (try clear q139); (try clear q140)
      obtain ⟨x4_2, x5_2, x7_2, rfl, HA, HK2, HO_4, HO_5, BK126, HB⟩ := hrel
      cases gk with
      | zero => cases HA.out
      | succ k2 =>
       have H := HA.out
       clear HA
       simp only [spec_l04First.l1] at H
       obtain ⟨c22b0, H⟩ | ⟨c22b0, H⟩ := Xit H
       ·obtain ⟨c23b0, H⟩ := Xid H
        obtain ⟨c24b0, H⟩ := Xid H
        obtain ⟨c25b0, H⟩ := Xid H
        obtain ⟨c26b0, H⟩ := Xid H
        obtain ⟨ji27, hji27⟩ : ∃ j_ : Int, (wrap64 (x7_2 - 1)) = j_ := ⟨_, rfl⟩
        replace H : (if 0 ≤ (ji27) then (if (ji27) < ((rd_L1 l0_0 (rd x4_2 x6_1)).length : Int) then (if (rd (rd_L1 l0_0 (rd x4_2 x6_1)) (ji27)) ≥ 0 then ((spec_l02Has.f k2 x4_2 (rd (rd_L1 l0_0 (rd x4_2 x6_1)) (ji27))).bind fun t145 => (if t145 = true then (spec_l04First.l1 k2 x4_2 x5_2 x6_1 (wrap64 (x7_2 + 1)) l0_0 l0_1) else (if x4_2.length < 17592186044416 then ((some (([] : List Int) : List Int)).bind fun y149 => (if x6_1 < (x5_2.length : Int) then (if y149.length + (rd_L1 x5_2 x6_1).length < 17592186044416 then ((some (y149 ++ (rd_L1 x5_2 x6_1) : List Int)).bind fun y153 => (if y153.length < 17592186044416 then (if x5_2.length < 5864062014805 then (spec_l04First.l1 k2 (x4_2 ++ [rd (rd_L1 l0_0 (rd x4_2 x6_1)) (ji27)]) (x5_2 ++ [(y153 ++ [x7_2])]) x6_1 (wrap64 (x7_2 + 1)) l0_0 l0_1) else (none)) else (none))) else (none)) else (none))) else (none)))) else (spec_l04First.l1 k2 x4_2 x5_2 x6_1 (wrap64 (x7_2 + 1)) l0_0 l0_1)) else (none)) else (none)) = some (r1, r2) := by first | (rw [hji27] at H; exact H) | (simp only [hji27] at H ⊢; exact H)
        have hji27w : (IntKind.i64.wrap (x7_2 - 1)) = ji27 := (i64_w _).trans hji27
        obtain ⟨c28b0, H⟩ := Xid H
        obtain ⟨c29b0, H⟩ := Xid H
        obtain ⟨c30, H⟩ | ⟨c30, H⟩ := Xiu H
        ·have c30b0 : decide (0 ≤ (rd (rd_L1 l0_0 (rd x4_2 x6_1)) (ji27))) = true := decide_eq_true c30
         clear c30
         obtain ⟨t145, A31, H⟩ := Xbi H
         (try dsimp only at H)
         have HC32 := Aside0.mk H
         clear H
         obtain ⟨hcz33_0, hcz33_1⟩ := Xc2 BK126
         obtain ⟨Ao34, co34, eo34⟩ := Kd.R_slice HO_4.out
         subst eo34
         have p142 : 0 ≤ (x6_1 : Int) := of_decide_eq_true Xa
         have q142 : x6_1 < (x4_2.length : Int) := of_decide_eq_true Xa
         obtain ⟨ad142, e142, hx142_0⟩ := Kd.at_int (Kd.R_reads' HO_4.out).2.2 x6_1 p142 q142
         cases e142
         replace p142 := eq_true p142
         replace q142 := eq_true q142
         have p143 : 0 ≤ ((rd x4_2 x6_1) : Int) := of_decide_eq_true Xa
         have q143 : (rd x4_2 x6_1) < (l0_0.length : Int) := of_decide_eq_true Xa
         obtain ⟨ad143, A143_0, c143_0, e143, hx143_0, hl143_0, hi143_0⟩ := at_L1 HR0_0.out (rd x4_2 x6_1) p143 q143
         cases e143
         replace hx143_0 := Xm HB hx143_0
         have HR143_0 := Aside0.mk hi143_0
         have HC143_0 := Aside0.mk hl143_0
         clear hi143_0 hl143_0
         replace p143 := eq_true p143
         replace q143 := eq_true q143
         have p144 : 0 ≤ ((ji27) : Int) := of_decide_eq_true Xa
         have q144 : (ji27) < ((rd_L1 l0_0 (rd x4_2 x6_1)).length : Int) := of_decide_eq_true Xa
         obtain ⟨ad144, e144, hx144_0⟩ := Kd.at_int HR143_0.out (ji27) p144 q144
         cases e144
         replace hx144_0 := Xm HB hx144_0
         replace p144 := eq_true p144
         replace q144 := eq_true q144
         go_upto_if 53 with (first | (go_at_call 106; (with_reducible refine (spec_l02Has.calls k2 _ _ x4_2 (rd (rd_L1 l0_0 (rd x4_2 x6_1)) (ji27)) t145 _ ?side1 ?side2 A31.out).mono ?_); (case side1 => repeat (first | exact (Kd.R_reads' HO_4.out).2.2 | (with_reducible first | refine Kd.C_alloc ?_ _ | refine Kd.C_drewN ?_ _ | refine Kd.C_drew ?_))); (case side2 => exact (Kd.R_reads' HO_4.out).2.1); rintro e w' ⟨rfl, ⟨nd, rfl⟩⟩; (try exact Xdd)))
         repeat (go_quiet (first | (go_at_call 106; (with_reducible refine (spec_l02Has.calls k2 _ _ x4_2 (rd (rd_L1 l0_0 (rd x4_2 x6_1)) (ji27)) t145 _ ?side1 ?side2 A31.out).mono ?_); (case side1 => repeat (first | exact (Kd.R_reads' HO_4.out).2.2 | (with_reducible first | refine Kd.C_alloc ?_ _ | refine Kd.C_drewN ?_ _ | refine Kd.C_drew ?_))); (case side2 => exact (Kd.R_reads' HO_4.out).2.1); rintro e w' ⟨rfl, ⟨nd, rfl⟩⟩; (try exact Xdd))); go_upto_if 53 with (first | (go_at_call 106; (with_reducible refine (spec_l02Has.calls k2 _ _ x4_2 (rd (rd_L1 l0_0 (rd x4_2 x6_1)) (ji27)) t145 _ ?side1 ?side2 A31.out).mono ?_); (case side1 => repeat (first | exact (Kd.R_reads' HO_4.out).2.2 | (with_reducible first | refine Kd.C_alloc ?_ _ | refine Kd.C_drewN ?_ _ | refine Kd.C_drew ?_))); (case side2 => exact (Kd.R_reads' HO_4.out).2.1); rintro e w' ⟨rfl, ⟨nd, rfl⟩⟩; (try exact Xdd))))
         have H := HC32.out
         clear HC32
         by_cases c35 : t145 = true
         ·subst c35
          (first | rw [if_pos rfl] at H | skip)
          have H' := Aside0.mk H
          clear H
          go_wp2
          repeat (go_quiet (fail); try go_wp2)
          go_roundg k2
          case measure => have := HK1.out; have := HK2.out; omega
          case rel => exact ⟨(x4_2), (x5_2), (wrap64 (x7_2 + 1)), Xr, H', ⟨by have := HK1.out; have := HK2.out; omega⟩, (Xp' HO_4), (Xp' HO_5), (Xp BK126), ⟨Xi⟩⟩
         ·replace c35 := Bool.eq_false_iff.mpr c35
          subst c35
          (first | rw [if_neg (show ¬ (false = true) by decide)] at H | skip)
          obtain ⟨c36, H⟩ := Xif H
          have LMc36 := Aside0.mk c36
          clear c36
          obtain ⟨y146, hy146⟩ : ∃ y_ : List Int, y_ = (x4_2 ++ [rd (rd_L1 l0_0 (rd x4_2 x6_1)) (ji27)]) := ⟨_, rfl⟩
          replace H : ((some (([] : List Int) : List Int)).bind fun y149 => (if x6_1 < (x5_2.length : Int) then (if y149.length + (rd_L1 x5_2 x6_1).length < 17592186044416 then ((some (y149 ++ (rd_L1 x5_2 x6_1) : List Int)).bind fun y153 => (if y153.length < 17592186044416 then (if x5_2.length < 5864062014805 then (spec_l04First.l1 k2 y146 (x5_2 ++ [(y153 ++ [x7_2])]) x6_1 (wrap64 (x7_2 + 1)) l0_0 l0_1) else (none)) else (none))) else (none)) else (none))) = some (r1, r2) := by first | (rw [hy146]; with_reducible exact H) | (have H2_ := (Option.bind_some _ _).symm.trans H; rw [hy146]; with_reducible exact H2_) | (have H2_ := (Option.bind_some _ _).symm.trans H; with_reducible exact H2_) | with_reducible exact H | (rw [hy146]; exact H) | exact H
          have Ny146 := Aside0.mk hy146
          clear hy146
          obtain ⟨y149, hy149⟩ : ∃ y_ : List Int, y_ = (([] : List Int)) := ⟨_, rfl⟩
          replace H : (if x6_1 < (x5_2.length : Int) then (if y149.length + (rd_L1 x5_2 x6_1).length < 17592186044416 then ((some (y149 ++ (rd_L1 x5_2 x6_1) : List Int)).bind fun y153 => (if y153.length < 17592186044416 then (if x5_2.length < 5864062014805 then (spec_l04First.l1 k2 y146 (x5_2 ++ [(y153 ++ [x7_2])]) x6_1 (wrap64 (x7_2 + 1)) l0_0 l0_1) else (none)) else (none))) else (none)) else (none)) = some (r1, r2) := by first | (rw [hy149]; with_reducible exact H) | (have H2_ := (Option.bind_some _ _).symm.trans H; rw [hy149]; with_reducible exact H2_) | (have H2_ := (Option.bind_some _ _).symm.trans H; with_reducible exact H2_) | with_reducible exact H | (rw [hy149]; exact H) | exact H
          have Ny149 := Aside0.mk hy149
          clear hy149
          obtain ⟨c37b0, H⟩ := Xid H
          (first | rw [c37b0] | (simp only [i64_w, i32_w]; rw [c37b0]) | skip)
          obtain ⟨c38, H⟩ := Xif H
          have LMc38 := Aside0.mk c38
          clear c38
          obtain ⟨y153, hy153⟩ : ∃ y_ : List Int, y_ = (y149 ++ (rd_L1 x5_2 x6_1)) := ⟨_, rfl⟩
          replace H : (if y153.length < 17592186044416 then (if x5_2.length < 5864062014805 then (spec_l04First.l1 k2 y146 (x5_2 ++ [(y153 ++ [x7_2])]) x6_1 (wrap64 (x7_2 + 1)) l0_0 l0_1) else (none)) else (none)) = some (r1, r2) := by first | (rw [hy153]; with_reducible exact H) | (have H2_ := (Option.bind_some _ _).symm.trans H; rw [hy153]; with_reducible exact H2_) | (have H2_ := (Option.bind_some _ _).symm.trans H; with_reducible exact H2_) | with_reducible exact H | (rw [hy153]; exact H) | exact H
          have Ny153 := Aside0.mk hy153
          clear hy153
          obtain ⟨c39, H⟩ := Xif H
          have LMc39 := Aside0.mk c39
          clear c39
          obtain ⟨y156, hy156⟩ : ∃ y_ : List Int, y_ = (y153 ++ [x7_2]) := ⟨_, rfl⟩
          replace H : (if x5_2.length < 5864062014805 then (spec_l04First.l1 k2 y146 (x5_2 ++ [y156]) x6_1 (wrap64 (x7_2 + 1)) l0_0 l0_1) else (none)) = some (r1, r2) := by first | (rw [hy156]; with_reducible exact H) | (have H2_ := (Option.bind_some _ _).symm.trans H; rw [hy156]; with_reducible exact H2_) | (have H2_ := (Option.bind_some _ _).symm.trans H; with_reducible exact H2_) | with_reducible exact H | (rw [hy156]; exact H) | exact H
          have Ny156 := Aside0.mk hy156
          clear hy156
          obtain ⟨c40, H⟩ := Xif H
          have LMc40 := Aside0.mk c40
          clear c40
          obtain ⟨y159, hy159⟩ : ∃ y_ : List (List Int), y_ = (x5_2 ++ [y156]) := ⟨_, rfl⟩
          replace H : (spec_l04First.l1 k2 y146 y159 x6_1 (wrap64 (x7_2 + 1)) l0_0 l0_1) = some (r1, r2) := by first | (rw [hy159]; with_reducible exact H) | (have H2_ := (Option.bind_some _ _).symm.trans H; rw [hy159]; with_reducible exact H2_) | (have H2_ := (Option.bind_some _ _).symm.trans H; with_reducible exact H2_) | with_reducible exact H | (rw [hy159]; exact H) | exact H
          have Ny159 := Aside0.mk hy159
          clear hy159
          have H' := Aside0.mk H
          clear H
          go_wp2_with (first | ((with_reducible refine gate_builtin (b := .append) (xs := #[.tmp 54, .tmp 56]) rfl ?_); at_builtin; refine Kd.R_append (Kd.int .i64) (w0 := w) w.heap.size rfl (.tmp 54) (.tmp 56) 39 3 (.int .i64 0) 8 rfl Try.underlying39 info3 rfl (by decide) (by omega) (.slice (some ad142) x4_2.length co34) x4_2 (rd (rd_L1 l0_0 (rd x4_2 x6_1)) (ji27)) [.int .i64 (rd (rd_L1 l0_0 (rd x4_2 x6_1)) (ji27))] (fun k_ => (w.heap.size ≤ k_)) (fun _ => False) rfl rfl ?aP (fun _ hk => hk.elim) ?aF ?aO ?aB ?aS ?aL ?_; (case aP => exact rfl); (case aB => exact Xi); (case aF => exact (fun k_ hk => (Nat.le_trans (below_size Xi) hk))); (case aO => exact (Xq HO_4)); (case aS => exact (below_size Xi)); (case aL => have := LMc36.out; omega); intro v147 w41 ho hb hg hat; rw [← Ny146.out] at ho; replace HO_5 := Aside0.mk (Kd.N_afterv (ok := (fun k_ => (w.heap.size ≤ k_) ∧ k_ ≠ gb126)) (by (with_reducible repeat (first | apply Kd.N_alloc | apply Kd.N_drewN | apply Kd.N_drew)); exact Kd.N_mono HO_5.out (fun _ hk => ⟨⟨hk.1, hk.2.2⟩, hk.2.1⟩)) hg hat); replace BK126 := Aside0.mk (blk_grown (g := gb126) (o := .cells #[.slice (some ad143) l0_0.length c0_0, .slice (some ad140) l0_1.length c0_1] 27 (0, 0)) (Xq' BK126) hg (Kd.R_ne HO_4.out BK126.out (by decide))); replace HB := Aside0.mk (hb); have HO148 := Aside0.mk (ho); clear HO_4; clear ho hb hg hat) | ((with_reducible refine gate_dst (N := 59) rfl ?_); refine Kd.R_lit (Kd.int .i64) _ 3 ?hg (N := 59) ?hd (xs := ([] : List Int)) (inner := []) (ok := fun _ => True) (okp := fun _ => True) ?hr ?hp (fun _ hk => hk) trivial (Below.refl _ _) (Nat.le_refl _) (by simp) ?_; (case hd => rfl); (case hg => rfl); (case hr => first | (go_simp; done) | (go_simp; rfl)); (case hp => exact (Reps.none _ _)); intro v150 w42 ho43 hb hg_ hnew_; clear hg_ hnew_; (first | rw [← Ny149.out] at ho43 | (simp only [Int.reduceToNat] at ho43; rw [← Ny149.out] at ho43)); replace HO_5 := Aside0.mk (Kd.N_elder' (Xq HO_5) (Kd.R_base ho43) hb); have HO151 := Aside0.mk (Kd.R_lower (Kd.R_new' (Kd.R_newM (M := fun k_ => (w.heap.size ≤ k_)) ho43 (below_size Xi) (fun k_ h_ => h_)) (Kd.R_lt (Xq HO148))) (below_size Xi)); replace HO148 := Aside0.mk (Kd.R_elder' (Xq HO148) (Kd.R_base ho43) hb); replace BK126 := Xbb BK126 hb; replace HB := Aside0.mk (below_step Xi hb); clear hb ho43; obtain ⟨Ao44, co44, eo44⟩ := Kd.N_slice HO_5.out; subst eo44; have p152 : 0 ≤ (x6_1 : Int) := of_decide_eq_true Xa; have q152 : x6_1 < (x5_2.length : Int) := of_decide_eq_true Xa; obtain ⟨ad152, A152_0, c152_0, e152, hx152_0, hl152_0, hi152_0⟩ := at_L1 (Kd.N_reads' HO_5.out).2.2 x6_1 p152 q152; cases e152; obtain ⟨ce152, hce152, hMe152, hcc152⟩ := Kd.N_get HO_5.out [] x6_1 p152 (by first | exact q152 | exact of_decide_eq_true Xa | (have e_ := (Kd.N_reads' HO_5.out).1; omega)); obtain ⟨ua152_0, uc152_0, rfl, ul152_0, ge152_0⟩ := Kd.FK_slice_open hMe152; have hv152_0 := hcc152 0 _ rfl; rw [Nat.add_zero, show ((Kd.slice 3 (Kd.int .i64))).sz = 1 from rfl, Nat.mul_one] at hv152_0; replace hv152_0 := Option.some.inj (hv152_0.symm.trans hx152_0); injection hv152_0 with hva_ hvn_ hvc_; rw [hva_] at ge152_0; rw [hvc_] at ul152_0; have HL152_0 := Aside0.mk (show Kd.V (Kd.int .i64) 3 _ w.heap.size _ _ (rd_L1 x5_2 x6_1) from Kd.V_mk ul152_0 ge152_0); clear hva_ hvn_ hvc_ ge152_0 ul152_0; clear hcc152 hce152; have HR152_0 := Aside0.mk hi152_0; have HC152_0 := Aside0.mk hl152_0; clear hi152_0 hl152_0; replace p152 := eq_true p152; replace q152 := eq_true q152) | ((with_reducible refine gate_builtin (b := .append) (xs := #[.tmp 59, .tmp 63]) rfl ?_); at_builtin; refine Kd.R_append_rows (Kd.int .i64) (w0 := w) w.heap.size rfl (.tmp 59) (.tmp 63) 39 3 (.int .i64 0) 8 rfl Try.underlying39 info3 rfl (by decide) (by omega) v150 y149 (rd_L1 x5_2 x6_1) _ _ _ (fun k_ => (w.heap.size ≤ k_) ∧ some k_ ≠ (v147 : Value).ownBlock) (fun _ => False) rfl rfl ?aO ?aR (fun _ _ h => h) (fun _ h => h.elim) ?aF ?aB ?aS ?aL ?_; (case aR => repeat (first | exact (by repeat (first | (with_reducible exact HR152_0.out) | (with_reducible first | refine Kd.C_alloc ?_ _ | refine Kd.C_drewN ?_ _ | refine Kd.C_drew ?_) | exact HR152_0.out)) | (with_reducible first | refine Kd.C_alloc ?_ _ | refine Kd.C_drewN ?_ _ | refine Kd.C_drew ?_))); (case aB => exact Xi); (case aF => exact (fun k_ hk => ⟨(Nat.le_trans (below_size Xi) hk), Kd.fresh' (Kd.R_lt (Xq HO148)) k_ hk⟩)); (case aO => exact (by (with_reducible repeat (first | apply Kd.R_alloc | apply Kd.R_drewN | apply Kd.R_drew)); exact Kd.R_mono HO151.out (fun _ hk => ⟨hk.1.1, hk.2⟩))); (case aS => exact (below_size Xi)); (case aL => have := LMc38.out; omega); intro v154 w45 ho hb hg hat; rw [← Ny153.out] at ho; replace HO_5 := Aside0.mk (Kd.N_afterv (ok := (fun k_ => (w.heap.size ≤ k_) ∧ some k_ ≠ (v147 : Value).ownBlock ∧ k_ ≠ gb126)) (by (with_reducible repeat (first | apply Kd.N_alloc | apply Kd.N_drewN | apply Kd.N_drew)); exact Kd.N_mono HO_5.out (fun _ hk => ⟨⟨hk.1.1.1, ⟨hk.1.2, hk.1.1.2⟩⟩, hk.2⟩)) hg hat); replace BK126 := Aside0.mk (blk_grown (g := gb126) (o := .cells #[.slice (some ad143) l0_0.length c0_0, .slice (some ad140) l0_1.length c0_1] 27 (0, 0)) (Xq' BK126) hg (Kd.R_ne HO151.out BK126.out (by decide))); replace HO148 := Aside0.mk (Kd.R_after (ok := (fun k_ => (w.heap.size ≤ k_))) (Xq HO148) hg hat); replace HL152_0 := Aside0.mk (Kd.V_afterv (ok := (fun k_ => (w.heap.size ≤ k_) ∧ some k_ ≠ (.slice (some ad152) x5_2.length co44 : Value).ownBlock ∧ some k_ ≠ (v147 : Value).ownBlock ∧ k_ ≠ gb126)) (by (with_reducible repeat (first | apply Kd.V_alloc | apply Kd.V_drewN | apply Kd.V_drew)); exact Kd.V_mono HL152_0.out (fun _ hk => ⟨⟨hk.1.1.1.1, ⟨hk.2, ⟨hk.1.1.2, hk.1.1.1.2⟩⟩⟩, hk.1.2⟩)) hg hat); replace HB := Aside0.mk (hb); have HO155 := Aside0.mk (ho); clear HO151; clear ho hb hg hat) | ((with_reducible refine gate_builtin (b := .append) (xs := #[.tmp 64, .tmp 66]) rfl ?_); at_builtin; refine Kd.R_append (Kd.int .i64) (w0 := w) w.heap.size rfl (.tmp 64) (.tmp 66) 39 3 (.int .i64 0) 8 rfl Try.underlying39 info3 rfl (by decide) (by omega) v154 y153 x7_2 [.int .i64 x7_2] (fun k_ => (w.heap.size ≤ k_) ∧ some k_ ≠ (v147 : Value).ownBlock) (fun _ => False) rfl rfl ?aP (fun _ hk => hk.elim) ?aF ?aO ?aB ?aS ?aL ?_; (case aP => exact rfl); (case aB => exact Xi); (case aF => exact (fun k_ hk => ⟨(Nat.le_trans (below_size Xi) hk), Kd.fresh' (Kd.R_lt (Xq HO148)) k_ hk⟩)); (case aO => exact (Xq HO155)); (case aS => exact (below_size Xi)); (case aL => have := LMc39.out; omega); intro v157 w46 ho hb hg hat; rw [← Ny156.out] at ho; replace HO_5 := Aside0.mk (Kd.N_afterv (ok := (fun k_ => (w.heap.size ≤ k_) ∧ some k_ ≠ (v147 : Value).ownBlock ∧ k_ ≠ gb126)) (Xq HO_5) hg hat); replace BK126 := Aside0.mk (blk_grown (g := gb126) (o := .cells #[.slice (some ad143) l0_0.length c0_0, .slice (some ad140) l0_1.length c0_1] 27 (0, 0)) (Xq' BK126) hg (Kd.R_ne HO155.out BK126.out (by decide))); replace HO148 := Aside0.mk (Kd.R_after (ok := (fun k_ => (w.heap.size ≤ k_))) (Xq HO148) hg hat); replace HL152_0 := Aside0.mk (Kd.V_afterv (ok := (fun k_ => (w.heap.size ≤ k_) ∧ some k_ ≠ (.slice (some ad152) x5_2.length co44 : Value).ownBlock ∧ some k_ ≠ (v147 : Value).ownBlock ∧ k_ ≠ gb126)) (by (with_reducible repeat (first | apply Kd.V_alloc | apply Kd.V_drewN | apply Kd.V_drew)); exact HL152_0.out) hg hat); replace HB := Aside0.mk (hb); have HO158 := Aside0.mk (ho); clear HO155; clear ho hb hg hat; obtain ⟨Ao48, co48, eo48⟩ := Kd.R_slice HO158.out; subst eo48) | ((with_reducible refine gate_builtin (b := .append) (xs := #[.tmp 58, .tmp 68]) rfl ?_); at_builtin; refine Kd.N_append (Kd.slice 3 (Kd.int .i64)) (w0 := w) w.heap.size rfl (.tmp 58) (.tmp 68) 24 39 (.slice none 0 0) 24 rfl Try.underlying24 info39 rfl (by decide) (by omega) (.slice (some ad152) x5_2.length co44) x5_2 y156 [.slice Ao48 y156.length co48] (fun k_ => (w.heap.size ≤ k_) ∧ some k_ ≠ (v147 : Value).ownBlock ∧ k_ ≠ gb126) (fun k_ => ((fun k_ => (w.heap.size ≤ k_) ∧ some k_ ≠ (v147 : Value).ownBlock ∧ k_ ≠ gb126)) k_ ∧ some k_ ≠ (.slice (some ad152) x5_2.length co44 : Value).ownBlock) rfl rfl ?aP (fun _ hk => hk) ?aF ?aO ?aB ?aS ?aL ?_; (case aP => exact (Kd.FK_slice_mk (Kd.R_reads' (Kd.R_mono (ok' := (fun k_ => ((fun k_ => (w.heap.size ≤ k_) ∧ some k_ ≠ (v147 : Value).ownBlock ∧ k_ ≠ gb126)) k_ ∧ some k_ ≠ (.slice (some ad152) x5_2.length co44 : Value).ownBlock)) (Kd.R_types (Kd.R_apart' (HO158.out) (Kd.N_typed HO_5.out) (by decide)) BK126.out (by decide)) (fun k_ hk => ⟨⟨hk.1.1.1, ⟨hk.1.1.2, hk.2⟩⟩, hk.1.2⟩))).2.1 (Kd.R_F (Kd.R_mono (ok' := (fun k_ => ((fun k_ => (w.heap.size ≤ k_) ∧ some k_ ≠ (v147 : Value).ownBlock ∧ k_ ≠ gb126)) k_ ∧ some k_ ≠ (.slice (some ad152) x5_2.length co44 : Value).ownBlock)) (Kd.R_types (Kd.R_apart' (HO158.out) (Kd.N_typed HO_5.out) (by decide)) BK126.out (by decide)) (fun k_ hk => ⟨⟨hk.1.1.1, ⟨hk.1.1.2, hk.2⟩⟩, hk.1.2⟩))))); (case aB => exact Xi); (case aF => exact (fun k_ hk => ⟨(Nat.le_trans (below_size Xi) hk), Kd.fresh' (Kd.R_lt (Xq HO148)) k_ hk, Kd.freshB (g := gb126) (o := .cells #[.slice (some ad143) l0_0.length c0_0, .slice (some ad140) l0_1.length c0_1] 27 (0, 0)) (Xq' BK126) k_ hk⟩)); (case aO => exact (by (with_reducible repeat (first | apply Kd.N_alloc | apply Kd.N_drewN | apply Kd.N_drew)); exact Kd.N_mono HO_5.out (fun _ hk => ⟨hk.1.1, ⟨hk.1.2.1, hk.1.2.2⟩⟩))); (case aS => exact (below_size Xi)); (case aL => have := LMc40.out; omega); intro v160 w47 ho hb hg hat; rw [← Ny159.out] at ho; replace BK126 := Aside0.mk (blk_grown (g := gb126) (o := .cells #[.slice (some ad143) l0_0.length c0_0, .slice (some ad140) l0_1.length c0_1] 27 (0, 0)) (Xq' BK126) hg (Kd.N_ne HO_5.out BK126.out (by decide))); replace HO148 := Aside0.mk (Kd.R_over' (Xq HO148) (Kd.N_typed (Xq HO_5)) (by decide) hg); replace HL152_0 := Aside0.mk (Kd.V_afterv (ok := (fun k_ => (w.heap.size ≤ k_) ∧ some k_ ≠ (v147 : Value).ownBlock ∧ some k_ ≠ (.slice Ao48 y156.length co48 : Value).ownBlock ∧ k_ ≠ gb126)) (by (with_reducible repeat (first | apply Kd.V_alloc | apply Kd.V_drewN | apply Kd.V_drew)); exact Kd.V_mono HL152_0.out (fun _ hk => ⟨⟨hk.1.1, ⟨hk.1.2.2.1, ⟨hk.2, hk.1.2.2.2⟩⟩⟩, hk.1.2.1⟩)) hg hat); replace HB := Aside0.mk (hb); have HO161 := Aside0.mk (ho); clear HO_5; clear HO158; clear ho hb hg hat))
          repeat (go_quiet (first | ((with_reducible refine gate_builtin (b := .append) (xs := #[.tmp 54, .tmp 56]) rfl ?_); at_builtin; refine Kd.R_append (Kd.int .i64) (w0 := w) w.heap.size rfl (.tmp 54) (.tmp 56) 39 3 (.int .i64 0) 8 rfl Try.underlying39 info3 rfl (by decide) (by omega) (.slice (some ad142) x4_2.length co34) x4_2 (rd (rd_L1 l0_0 (rd x4_2 x6_1)) (ji27)) [.int .i64 (rd (rd_L1 l0_0 (rd x4_2 x6_1)) (ji27))] (fun k_ => (w.heap.size ≤ k_)) (fun _ => False) rfl rfl ?aP (fun _ hk => hk.elim) ?aF ?aO ?aB ?aS ?aL ?_; (case aP => exact rfl); (case aB => exact Xi); (case aF => exact (fun k_ hk => (Nat.le_trans (below_size Xi) hk))); (case aO => exact (Xq HO_4)); (case aS => exact (below_size Xi)); (case aL => have := LMc36.out; omega); intro v147 w41 ho hb hg hat; rw [← Ny146.out] at ho; replace HO_5 := Aside0.mk (Kd.N_afterv (ok := (fun k_ => (w.heap.size ≤ k_) ∧ k_ ≠ gb126)) (by (with_reducible repeat (first | apply Kd.N_alloc | apply Kd.N_drewN | apply Kd.N_drew)); exact Kd.N_mono HO_5.out (fun _ hk => ⟨⟨hk.1, hk.2.2⟩, hk.2.1⟩)) hg hat); replace BK126 := Aside0.mk (blk_grown (g := gb126) (o := .cells #[.slice (some ad143) l0_0.length c0_0, .slice (some ad140) l0_1.length c0_1] 27 (0, 0)) (Xq' BK126) hg (Kd.R_ne HO_4.out BK126.out (by decide))); replace HB := Aside0.mk (hb); have HO148 := Aside0.mk (ho); clear HO_4; clear ho hb hg hat) | ((with_reducible refine gate_dst (N := 59) rfl ?_); refine Kd.R_lit (Kd.int .i64) _ 3 ?hg (N := 59) ?hd (xs := ([] : List Int)) (inner := []) (ok := fun _ => True) (okp := fun _ => True) ?hr ?hp (fun _ hk => hk) trivial (Below.refl _ _) (Nat.le_refl _) (by simp) ?_; (case hd => rfl); (case hg => rfl); (case hr => first | (go_simp; done) | (go_simp; rfl)); (case hp => exact (Reps.none _ _)); intro v150 w42 ho43 hb hg_ hnew_; clear hg_ hnew_; (first | rw [← Ny149.out] at ho43 | (simp only [Int.reduceToNat] at ho43; rw [← Ny149.out] at ho43)); replace HO_5 := Aside0.mk (Kd.N_elder' (Xq HO_5) (Kd.R_base ho43) hb); have HO151 := Aside0.mk (Kd.R_lower (Kd.R_new' (Kd.R_newM (M := fun k_ => (w.heap.size ≤ k_)) ho43 (below_size Xi) (fun k_ h_ => h_)) (Kd.R_lt (Xq HO148))) (below_size Xi)); replace HO148 := Aside0.mk (Kd.R_elder' (Xq HO148) (Kd.R_base ho43) hb); replace BK126 := Xbb BK126 hb; replace HB := Aside0.mk (below_step Xi hb); clear hb ho43; obtain ⟨Ao44, co44, eo44⟩ := Kd.N_slice HO_5.out; subst eo44; have p152 : 0 ≤ (x6_1 : Int) := of_decide_eq_true Xa; have q152 : x6_1 < (x5_2.length : Int) := of_decide_eq_true Xa; obtain ⟨ad152, A152_0, c152_0, e152, hx152_0, hl152_0, hi152_0⟩ := at_L1 (Kd.N_reads' HO_5.out).2.2 x6_1 p152 q152; cases e152; obtain ⟨ce152, hce152, hMe152, hcc152⟩ := Kd.N_get HO_5.out [] x6_1 p152 (by first | exact q152 | exact of_decide_eq_true Xa | (have e_ := (Kd.N_reads' HO_5.out).1; omega)); obtain ⟨ua152_0, uc152_0, rfl, ul152_0, ge152_0⟩ := Kd.FK_slice_open hMe152; have hv152_0 := hcc152 0 _ rfl; rw [Nat.add_zero, show ((Kd.slice 3 (Kd.int .i64))).sz = 1 from rfl, Nat.mul_one] at hv152_0; replace hv152_0 := Option.some.inj (hv152_0.symm.trans hx152_0); injection hv152_0 with hva_ hvn_ hvc_; rw [hva_] at ge152_0; rw [hvc_] at ul152_0; have HL152_0 := Aside0.mk (show Kd.V (Kd.int .i64) 3 _ w.heap.size _ _ (rd_L1 x5_2 x6_1) from Kd.V_mk ul152_0 ge152_0); clear hva_ hvn_ hvc_ ge152_0 ul152_0; clear hcc152 hce152; have HR152_0 := Aside0.mk hi152_0; have HC152_0 := Aside0.mk hl152_0; clear hi152_0 hl152_0; replace p152 := eq_true p152; replace q152 := eq_true q152) | ((with_reducible refine gate_builtin (b := .append) (xs := #[.tmp 59, .tmp 63]) rfl ?_); at_builtin; refine Kd.R_append_rows (Kd.int .i64) (w0 := w) w.heap.size rfl (.tmp 59) (.tmp 63) 39 3 (.int .i64 0) 8 rfl Try.underlying39 info3 rfl (by decide) (by omega) v150 y149 (rd_L1 x5_2 x6_1) _ _ _ (fun k_ => (w.heap.size ≤ k_) ∧ some k_ ≠ (v147 : Value).ownBlock) (fun _ => False) rfl rfl ?aO ?aR (fun _ _ h => h) (fun _ h => h.elim) ?aF ?aB ?aS ?aL ?_; (case aR => repeat (first | exact (by repeat (first | (with_reducible exact HR152_0.out) | (with_reducible first | refine Kd.C_alloc ?_ _ | refine Kd.C_drewN ?_ _ | refine Kd.C_drew ?_) | exact HR152_0.out)) | (with_reducible first | refine Kd.C_alloc ?_ _ | refine Kd.C_drewN ?_ _ | refine Kd.C_drew ?_))); (case aB => exact Xi); (case aF => exact (fun k_ hk => ⟨(Nat.le_trans (below_size Xi) hk), Kd.fresh' (Kd.R_lt (Xq HO148)) k_ hk⟩)); (case aO => exact (by (with_reducible repeat (first | apply Kd.R_alloc | apply Kd.R_drewN | apply Kd.R_drew)); exact Kd.R_mono HO151.out (fun _ hk => ⟨hk.1.1, hk.2⟩))); (case aS => exact (below_size Xi)); (case aL => have := LMc38.out; omega); intro v154 w45 ho hb hg hat; rw [← Ny153.out] at ho; replace HO_5 := Aside0.mk (Kd.N_afterv (ok := (fun k_ => (w.heap.size ≤ k_) ∧ some k_ ≠ (v147 : Value).ownBlock ∧ k_ ≠ gb126)) (by (with_reducible repeat (first | apply Kd.N_alloc | apply Kd.N_drewN | apply Kd.N_drew)); exact Kd.N_mono HO_5.out (fun _ hk => ⟨⟨hk.1.1.1, ⟨hk.1.2, hk.1.1.2⟩⟩, hk.2⟩)) hg hat); replace BK126 := Aside0.mk (blk_grown (g := gb126) (o := .cells #[.slice (some ad143) l0_0.length c0_0, .slice (some ad140) l0_1.length c0_1] 27 (0, 0)) (Xq' BK126) hg (Kd.R_ne HO151.out BK126.out (by decide))); replace HO148 := Aside0.mk (Kd.R_after (ok := (fun k_ => (w.heap.size ≤ k_))) (Xq HO148) hg hat); replace HL152_0 := Aside0.mk (Kd.V_afterv (ok := (fun k_ => (w.heap.size ≤ k_) ∧ some k_ ≠ (.slice (some ad152) x5_2.length co44 : Value).ownBlock ∧ some k_ ≠ (v147 : Value).ownBlock ∧ k_ ≠ gb126)) (by (with_reducible repeat (first | apply Kd.V_alloc | apply Kd.V_drewN | apply Kd.V_drew)); exact Kd.V_mono HL152_0.out (fun _ hk => ⟨⟨hk.1.1.1.1, ⟨hk.2, ⟨hk.1.1.2, hk.1.1.1.2⟩⟩⟩, hk.1.2⟩)) hg hat); replace HB := Aside0.mk (hb); have HO155 := Aside0.mk (ho); clear HO151; clear ho hb hg hat) | ((with_reducible refine gate_builtin (b := .append) (xs := #[.tmp 64, .tmp 66]) rfl ?_); at_builtin; refine Kd.R_append (Kd.int .i64) (w0 := w) w.heap.size rfl (.tmp 64) (.tmp 66) 39 3 (.int .i64 0) 8 rfl Try.underlying39 info3 rfl (by decide) (by omega) v154 y153 x7_2 [.int .i64 x7_2] (fun k_ => (w.heap.size ≤ k_) ∧ some k_ ≠ (v147 : Value).ownBlock) (fun _ => False) rfl rfl ?aP (fun _ hk => hk.elim) ?aF ?aO ?aB ?aS ?aL ?_; (case aP => exact rfl); (case aB => exact Xi); (case aF => exact (fun k_ hk => ⟨(Nat.le_trans (below_size Xi) hk), Kd.fresh' (Kd.R_lt (Xq HO148)) k_ hk⟩)); (case aO => exact (Xq HO155)); (case aS => exact (below_size Xi)); (case aL => have := LMc39.out; omega); intro v157 w46 ho hb hg hat; rw [← Ny156.out] at ho; replace HO_5 := Aside0.mk (Kd.N_afterv (ok := (fun k_ => (w.heap.size ≤ k_) ∧ some k_ ≠ (v147 : Value).ownBlock ∧ k_ ≠ gb126)) (Xq HO_5) hg hat); replace BK126 := Aside0.mk (blk_grown (g := gb126) (o := .cells #[.slice (some ad143) l0_0.length c0_0, .slice (some ad140) l0_1.length c0_1] 27 (0, 0)) (Xq' BK126) hg (Kd.R_ne HO155.out BK126.out (by decide))); replace HO148 := Aside0.mk (Kd.R_after (ok := (fun k_ => (w.heap.size ≤ k_))) (Xq HO148) hg hat); replace HL152_0 := Aside0.mk (Kd.V_afterv (ok := (fun k_ => (w.heap.size ≤ k_) ∧ some k_ ≠ (.slice (some ad152) x5_2.length co44 : Value).ownBlock ∧ some k_ ≠ (v147 : Value).ownBlock ∧ k_ ≠ gb126)) (by (with_reducible repeat (first | apply Kd.V_alloc | apply Kd.V_drewN | apply Kd.V_drew)); exact HL152_0.out) hg hat); replace HB := Aside0.mk (hb); have HO158 := Aside0.mk (ho); clear HO155; clear ho hb hg hat; obtain ⟨Ao48, co48, eo48⟩ := Kd.R_slice HO158.out; subst eo48) | ((with_reducible refine gate_builtin (b := .append) (xs := #[.tmp 58, .tmp 68]) rfl ?_); at_builtin; refine Kd.N_append (Kd.slice 3 (Kd.int .i64)) (w0 := w) w.heap.size rfl (.tmp 58) (.tmp 68) 24 39 (.slice none 0 0) 24 rfl Try.underlying24 info39 rfl (by decide) (by omega) (.slice (some ad152) x5_2.length co44) x5_2 y156 [.slice Ao48 y156.length co48] (fun k_ => (w.heap.size ≤ k_) ∧ some k_ ≠ (v147 : Value).ownBlock ∧ k_ ≠ gb126) (fun k_ => ((fun k_ => (w.heap.size ≤ k_) ∧ some k_ ≠ (v147 : Value).ownBlock ∧ k_ ≠ gb126)) k_ ∧ some k_ ≠ (.slice (some ad152) x5_2.length co44 : Value).ownBlock) rfl rfl ?aP (fun _ hk => hk) ?aF ?aO ?aB ?aS ?aL ?_; (case aP => exact (Kd.FK_slice_mk (Kd.R_reads' (Kd.R_mono (ok' := (fun k_ => ((fun k_ => (w.heap.size ≤ k_) ∧ some k_ ≠ (v147 : Value).ownBlock ∧ k_ ≠ gb126)) k_ ∧ some k_ ≠ (.slice (some ad152) x5_2.length co44 : Value).ownBlock)) (Kd.R_types (Kd.R_apart' (HO158.out) (Kd.N_typed HO_5.out) (by decide)) BK126.out (by decide)) (fun k_ hk => ⟨⟨hk.1.1.1, ⟨hk.1.1.2, hk.2⟩⟩, hk.1.2⟩))).2.1 (Kd.R_F (Kd.R_mono (ok' := (fun k_ => ((fun k_ => (w.heap.size ≤ k_) ∧ some k_ ≠ (v147 : Value).ownBlock ∧ k_ ≠ gb126)) k_ ∧ some k_ ≠ (.slice (some ad152) x5_2.length co44 : Value).ownBlock)) (Kd.R_types (Kd.R_apart' (HO158.out) (Kd.N_typed HO_5.out) (by decide)) BK126.out (by decide)) (fun k_ hk => ⟨⟨hk.1.1.1, ⟨hk.1.1.2, hk.2⟩⟩, hk.1.2⟩))))); (case aB => exact Xi); (case aF => exact (fun k_ hk => ⟨(Nat.le_trans (below_size Xi) hk), Kd.fresh' (Kd.R_lt (Xq HO148)) k_ hk, Kd.freshB (g := gb126) (o := .cells #[.slice (some ad143) l0_0.length c0_0, .slice (some ad140) l0_1.length c0_1] 27 (0, 0)) (Xq' BK126) k_ hk⟩)); (case aO => exact (by (with_reducible repeat (first | apply Kd.N_alloc | apply Kd.N_drewN | apply Kd.N_drew)); exact Kd.N_mono HO_5.out (fun _ hk => ⟨hk.1.1, ⟨hk.1.2.1, hk.1.2.2⟩⟩))); (case aS => exact (below_size Xi)); (case aL => have := LMc40.out; omega); intro v160 w47 ho hb hg hat; rw [← Ny159.out] at ho; replace BK126 := Aside0.mk (blk_grown (g := gb126) (o := .cells #[.slice (some ad143) l0_0.length c0_0, .slice (some ad140) l0_1.length c0_1] 27 (0, 0)) (Xq' BK126) hg (Kd.N_ne HO_5.out BK126.out (by decide))); replace HO148 := Aside0.mk (Kd.R_over' (Xq HO148) (Kd.N_typed (Xq HO_5)) (by decide) hg); replace HL152_0 := Aside0.mk (Kd.V_afterv (ok := (fun k_ => (w.heap.size ≤ k_) ∧ some k_ ≠ (v147 : Value).ownBlock ∧ some k_ ≠ (.slice Ao48 y156.length co48 : Value).ownBlock ∧ k_ ≠ gb126)) (by (with_reducible repeat (first | apply Kd.V_alloc | apply Kd.V_drewN | apply Kd.V_drew)); exact Kd.V_mono HL152_0.out (fun _ hk => ⟨⟨hk.1.1, ⟨hk.1.2.2.1, ⟨hk.2, hk.1.2.2.2⟩⟩⟩, hk.1.2.1⟩)) hg hat); replace HB := Aside0.mk (hb); have HO161 := Aside0.mk (ho); clear HO_5; clear HO158; clear ho hb hg hat)); try go_wp2_with (first | ((with_reducible refine gate_builtin (b := .append) (xs := #[.tmp 54, .tmp 56]) rfl ?_); at_builtin; refine Kd.R_append (Kd.int .i64) (w0 := w) w.heap.size rfl (.tmp 54) (.tmp 56) 39 3 (.int .i64 0) 8 rfl Try.underlying39 info3 rfl (by decide) (by omega) (.slice (some ad142) x4_2.length co34) x4_2 (rd (rd_L1 l0_0 (rd x4_2 x6_1)) (ji27)) [.int .i64 (rd (rd_L1 l0_0 (rd x4_2 x6_1)) (ji27))] (fun k_ => (w.heap.size ≤ k_)) (fun _ => False) rfl rfl ?aP (fun _ hk => hk.elim) ?aF ?aO ?aB ?aS ?aL ?_; (case aP => exact rfl); (case aB => exact Xi); (case aF => exact (fun k_ hk => (Nat.le_trans (below_size Xi) hk))); (case aO => exact (Xq HO_4)); (case aS => exact (below_size Xi)); (case aL => have := LMc36.out; omega); intro v147 w41 ho hb hg hat; rw [← Ny146.out] at ho; replace HO_5 := Aside0.mk (Kd.N_afterv (ok := (fun k_ => (w.heap.size ≤ k_) ∧ k_ ≠ gb126)) (by (with_reducible repeat (first | apply Kd.N_alloc | apply Kd.N_drewN | apply Kd.N_drew)); exact Kd.N_mono HO_5.out (fun _ hk => ⟨⟨hk.1, hk.2.2⟩, hk.2.1⟩)) hg hat); replace BK126 := Aside0.mk (blk_grown (g := gb126) (o := .cells #[.slice (some ad143) l0_0.length c0_0, .slice (some ad140) l0_1.length c0_1] 27 (0, 0)) (Xq' BK126) hg (Kd.R_ne HO_4.out BK126.out (by decide))); replace HB := Aside0.mk (hb); have HO148 := Aside0.mk (ho); clear HO_4; clear ho hb hg hat) | ((with_reducible refine gate_dst (N := 59) rfl ?_); refine Kd.R_lit (Kd.int .i64) _ 3 ?hg (N := 59) ?hd (xs := ([] : List Int)) (inner := []) (ok := fun _ => True) (okp := fun _ => True) ?hr ?hp (fun _ hk => hk) trivial (Below.refl _ _) (Nat.le_refl _) (by simp) ?_; (case hd => rfl); (case hg => rfl); (case hr => first | (go_simp; done) | (go_simp; rfl)); (case hp => exact (Reps.none _ _)); intro v150 w42 ho43 hb hg_ hnew_; clear hg_ hnew_; (first | rw [← Ny149.out] at ho43 | (simp only [Int.reduceToNat] at ho43; rw [← Ny149.out] at ho43)); replace HO_5 := Aside0.mk (Kd.N_elder' (Xq HO_5) (Kd.R_base ho43) hb); have HO151 := Aside0.mk (Kd.R_lower (Kd.R_new' (Kd.R_newM (M := fun k_ => (w.heap.size ≤ k_)) ho43 (below_size Xi) (fun k_ h_ => h_)) (Kd.R_lt (Xq HO148))) (below_size Xi)); replace HO148 := Aside0.mk (Kd.R_elder' (Xq HO148) (Kd.R_base ho43) hb); replace BK126 := Xbb BK126 hb; replace HB := Aside0.mk (below_step Xi hb); clear hb ho43; obtain ⟨Ao44, co44, eo44⟩ := Kd.N_slice HO_5.out; subst eo44; have p152 : 0 ≤ (x6_1 : Int) := of_decide_eq_true Xa; have q152 : x6_1 < (x5_2.length : Int) := of_decide_eq_true Xa; obtain ⟨ad152, A152_0, c152_0, e152, hx152_0, hl152_0, hi152_0⟩ := at_L1 (Kd.N_reads' HO_5.out).2.2 x6_1 p152 q152; cases e152; obtain ⟨ce152, hce152, hMe152, hcc152⟩ := Kd.N_get HO_5.out [] x6_1 p152 (by first | exact q152 | exact of_decide_eq_true Xa | (have e_ := (Kd.N_reads' HO_5.out).1; omega)); obtain ⟨ua152_0, uc152_0, rfl, ul152_0, ge152_0⟩ := Kd.FK_slice_open hMe152; have hv152_0 := hcc152 0 _ rfl; rw [Nat.add_zero, show ((Kd.slice 3 (Kd.int .i64))).sz = 1 from rfl, Nat.mul_one] at hv152_0; replace hv152_0 := Option.some.inj (hv152_0.symm.trans hx152_0); injection hv152_0 with hva_ hvn_ hvc_; rw [hva_] at ge152_0; rw [hvc_] at ul152_0; have HL152_0 := Aside0.mk (show Kd.V (Kd.int .i64) 3 _ w.heap.size _ _ (rd_L1 x5_2 x6_1) from Kd.V_mk ul152_0 ge152_0); clear hva_ hvn_ hvc_ ge152_0 ul152_0; clear hcc152 hce152; have HR152_0 := Aside0.mk hi152_0; have HC152_0 := Aside0.mk hl152_0; clear hi152_0 hl152_0; replace p152 := eq_true p152; replace q152 := eq_true q152) | ((with_reducible refine gate_builtin (b := .append) (xs := #[.tmp 59, .tmp 63]) rfl ?_); at_builtin; refine Kd.R_append_rows (Kd.int .i64) (w0 := w) w.heap.size rfl (.tmp 59) (.tmp 63) 39 3 (.int .i64 0) 8 rfl Try.underlying39 info3 rfl (by decide) (by omega) v150 y149 (rd_L1 x5_2 x6_1) _ _ _ (fun k_ => (w.heap.size ≤ k_) ∧ some k_ ≠ (v147 : Value).ownBlock) (fun _ => False) rfl rfl ?aO ?aR (fun _ _ h => h) (fun _ h => h.elim) ?aF ?aB ?aS ?aL ?_; (case aR => repeat (first | exact (by repeat (first | (with_reducible exact HR152_0.out) | (with_reducible first | refine Kd.C_alloc ?_ _ | refine Kd.C_drewN ?_ _ | refine Kd.C_drew ?_) | exact HR152_0.out)) | (with_reducible first | refine Kd.C_alloc ?_ _ | refine Kd.C_drewN ?_ _ | refine Kd.C_drew ?_))); (case aB => exact Xi); (case aF => exact (fun k_ hk => ⟨(Nat.le_trans (below_size Xi) hk), Kd.fresh' (Kd.R_lt (Xq HO148)) k_ hk⟩)); (case aO => exact (by (with_reducible repeat (first | apply Kd.R_alloc | apply Kd.R_drewN | apply Kd.R_drew)); exact Kd.R_mono HO151.out (fun _ hk => ⟨hk.1.1, hk.2⟩))); (case aS => exact (below_size Xi)); (case aL => have := LMc38.out; omega); intro v154 w45 ho hb hg hat; rw [← Ny153.out] at ho; replace HO_5 := Aside0.mk (Kd.N_afterv (ok := (fun k_ => (w.heap.size ≤ k_) ∧ some k_ ≠ (v147 : Value).ownBlock ∧ k_ ≠ gb126)) (by (with_reducible repeat (first | apply Kd.N_alloc | apply Kd.N_drewN | apply Kd.N_drew)); exact Kd.N_mono HO_5.out (fun _ hk => ⟨⟨hk.1.1.1, ⟨hk.1.2, hk.1.1.2⟩⟩, hk.2⟩)) hg hat); replace BK126 := Aside0.mk (blk_grown (g := gb126) (o := .cells #[.slice (some ad143) l0_0.length c0_0, .slice (some ad140) l0_1.length c0_1] 27 (0, 0)) (Xq' BK126) hg (Kd.R_ne HO151.out BK126.out (by decide))); replace HO148 := Aside0.mk (Kd.R_after (ok := (fun k_ => (w.heap.size ≤ k_))) (Xq HO148) hg hat); replace HL152_0 := Aside0.mk (Kd.V_afterv (ok := (fun k_ => (w.heap.size ≤ k_) ∧ some k_ ≠ (.slice (some ad152) x5_2.length co44 : Value).ownBlock ∧ some k_ ≠ (v147 : Value).ownBlock ∧ k_ ≠ gb126)) (by (with_reducible repeat (first | apply Kd.V_alloc | apply Kd.V_drewN | apply Kd.V_drew)); exact Kd.V_mono HL152_0.out (fun _ hk => ⟨⟨hk.1.1.1.1, ⟨hk.2, ⟨hk.1.1.2, hk.1.1.1.2⟩⟩⟩, hk.1.2⟩)) hg hat); replace HB := Aside0.mk (hb); have HO155 := Aside0.mk (ho); clear HO151; clear ho hb hg hat) | ((with_reducible refine gate_builtin (b := .append) (xs := #[.tmp 64, .tmp 66]) rfl ?_); at_builtin; refine Kd.R_append (Kd.int .i64) (w0 := w) w.heap.size rfl (.tmp 64) (.tmp 66) 39 3 (.int .i64 0) 8 rfl Try.underlying39 info3 rfl (by decide) (by omega) v154 y153 x7_2 [.int .i64 x7_2] (fun k_ => (w.heap.size ≤ k_) ∧ some k_ ≠ (v147 : Value).ownBlock) (fun _ => False) rfl rfl ?aP (fun _ hk => hk.elim) ?aF ?aO ?aB ?aS ?aL ?_; (case aP => exact rfl); (case aB => exact Xi); (case aF => exact (fun k_ hk => ⟨(Nat.le_trans (below_size Xi) hk), Kd.fresh' (Kd.R_lt (Xq HO148)) k_ hk⟩)); (case aO => exact (Xq HO155)); (case aS => exact (below_size Xi)); (case aL => have := LMc39.out; omega); intro v157 w46 ho hb hg hat; rw [← Ny156.out] at ho; replace HO_5 := Aside0.mk (Kd.N_afterv (ok := (fun k_ => (w.heap.size ≤ k_) ∧ some k_ ≠ (v147 : Value).ownBlock ∧ k_ ≠ gb126)) (Xq HO_5) hg hat); replace BK126 := Aside0.mk (blk_grown (g := gb126) (o := .cells #[.slice (some ad143) l0_0.length c0_0, .slice (some ad140) l0_1.length c0_1] 27 (0, 0)) (Xq' BK126) hg (Kd.R_ne HO155.out BK126.out (by decide))); replace HO148 := Aside0.mk (Kd.R_after (ok := (fun k_ => (w.heap.size ≤ k_))) (Xq HO148) hg hat); replace HL152_0 := Aside0.mk (Kd.V_afterv (ok := (fun k_ => (w.heap.size ≤ k_) ∧ some k_ ≠ (.slice (some ad152) x5_2.length co44 : Value).ownBlock ∧ some k_ ≠ (v147 : Value).ownBlock ∧ k_ ≠ gb126)) (by (with_reducible repeat (first | apply Kd.V_alloc | apply Kd.V_drewN | apply Kd.V_drew)); exact HL152_0.out) hg hat); replace HB := Aside0.mk (hb); have HO158 := Aside0.mk (ho); clear HO155; clear ho hb hg hat; obtain ⟨Ao48, co48, eo48⟩ := Kd.R_slice HO158.out; subst eo48) | ((with_reducible refine gate_builtin (b := .append) (xs := #[.tmp 58, .tmp 68]) rfl ?_); at_builtin; refine Kd.N_append (Kd.slice 3 (Kd.int .i64)) (w0 := w) w.heap.size rfl (.tmp 58) (.tmp 68) 24 39 (.slice none 0 0) 24 rfl Try.underlying24 info39 rfl (by decide) (by omega) (.slice (some ad152) x5_2.length co44) x5_2 y156 [.slice Ao48 y156.length co48] (fun k_ => (w.heap.size ≤ k_) ∧ some k_ ≠ (v147 : Value).ownBlock ∧ k_ ≠ gb126) (fun k_ => ((fun k_ => (w.heap.size ≤ k_) ∧ some k_ ≠ (v147 : Value).ownBlock ∧ k_ ≠ gb126)) k_ ∧ some k_ ≠ (.slice (some ad152) x5_2.length co44 : Value).ownBlock) rfl rfl ?aP (fun _ hk => hk) ?aF ?aO ?aB ?aS ?aL ?_; (case aP => exact (Kd.FK_slice_mk (Kd.R_reads' (Kd.R_mono (ok' := (fun k_ => ((fun k_ => (w.heap.size ≤ k_) ∧ some k_ ≠ (v147 : Value).ownBlock ∧ k_ ≠ gb126)) k_ ∧ some k_ ≠ (.slice (some ad152) x5_2.length co44 : Value).ownBlock)) (Kd.R_types (Kd.R_apart' (HO158.out) (Kd.N_typed HO_5.out) (by decide)) BK126.out (by decide)) (fun k_ hk => ⟨⟨hk.1.1.1, ⟨hk.1.1.2, hk.2⟩⟩, hk.1.2⟩))).2.1 (Kd.R_F (Kd.R_mono (ok' := (fun k_ => ((fun k_ => (w.heap.size ≤ k_) ∧ some k_ ≠ (v147 : Value).ownBlock ∧ k_ ≠ gb126)) k_ ∧ some k_ ≠ (.slice (some ad152) x5_2.length co44 : Value).ownBlock)) (Kd.R_types (Kd.R_apart' (HO158.out) (Kd.N_typed HO_5.out) (by decide)) BK126.out (by decide)) (fun k_ hk => ⟨⟨hk.1.1.1, ⟨hk.1.1.2, hk.2⟩⟩, hk.1.2⟩))))); (case aB => exact Xi); (case aF => exact (fun k_ hk => ⟨(Nat.le_trans (below_size Xi) hk), Kd.fresh' (Kd.R_lt (Xq HO148)) k_ hk, Kd.freshB (g := gb126) (o := .cells #[.slice (some ad143) l0_0.length c0_0, .slice (some ad140) l0_1.length c0_1] 27 (0, 0)) (Xq' BK126) k_ hk⟩)); (case aO => exact (by (with_reducible repeat (first | apply Kd.N_alloc | apply Kd.N_drewN | apply Kd.N_drew)); exact Kd.N_mono HO_5.out (fun _ hk => ⟨hk.1.1, ⟨hk.1.2.1, hk.1.2.2⟩⟩))); (case aS => exact (below_size Xi)); (case aL => have := LMc40.out; omega); intro v160 w47 ho hb hg hat; rw [← Ny159.out] at ho; replace BK126 := Aside0.mk (blk_grown (g := gb126) (o := .cells #[.slice (some ad143) l0_0.length c0_0, .slice (some ad140) l0_1.length c0_1] 27 (0, 0)) (Xq' BK126) hg (Kd.N_ne HO_5.out BK126.out (by decide))); replace HO148 := Aside0.mk (Kd.R_over' (Xq HO148) (Kd.N_typed (Xq HO_5)) (by decide) hg); replace HL152_0 := Aside0.mk (Kd.V_afterv (ok := (fun k_ => (w.heap.size ≤ k_) ∧ some k_ ≠ (v147 : Value).ownBlock ∧ some k_ ≠ (.slice Ao48 y156.length co48 : Value).ownBlock ∧ k_ ≠ gb126)) (by (with_reducible repeat (first | apply Kd.V_alloc | apply Kd.V_drewN | apply Kd.V_drew)); exact Kd.V_mono HL152_0.out (fun _ hk => ⟨⟨hk.1.1, ⟨hk.1.2.2.1, ⟨hk.2, hk.1.2.2.2⟩⟩⟩, hk.1.2.1⟩)) hg hat); replace HB := Aside0.mk (hb); have HO161 := Aside0.mk (ho); clear HO_5; clear HO158; clear ho hb hg hat)))
          go_roundg k2
          case measure => have := HK1.out; have := HK2.out; omega
          case rel => exact ⟨(y146), (y159), (wrap64 (x7_2 + 1)), Xr, H', ⟨by have := HK1.out; have := HK2.out; omega⟩, ⟨by (with_reducible repeat (first | apply Kd.R_alloc | apply Kd.R_drewN | apply Kd.R_drew)); exact Kd.R_mono HO148.out (fun _ hk => hk.1)⟩, (Xp' HO161), (Xp BK126), ⟨Xi⟩⟩
        ·have c30b0 : decide (0 ≤ (rd (rd_L1 l0_0 (rd x4_2 x6_1)) (ji27))) = false := decide_eq_false c30
         clear c30
         have H' := Aside0.mk H
         clear H
         obtain ⟨hcz49_0, hcz49_1⟩ := Xc2 BK126
         obtain ⟨Ao50, co50, eo50⟩ := Kd.R_slice HO_4.out
         subst eo50
         have p142 : 0 ≤ (x6_1 : Int) := of_decide_eq_true Xa
         have q142 : x6_1 < (x4_2.length : Int) := of_decide_eq_true Xa
         obtain ⟨ad142, e142, hx142_0⟩ := Kd.at_int (Kd.R_reads' HO_4.out).2.2 x6_1 p142 q142
         cases e142
         replace p142 := eq_true p142
         replace q142 := eq_true q142
         have p143 : 0 ≤ ((rd x4_2 x6_1) : Int) := of_decide_eq_true Xa
         have q143 : (rd x4_2 x6_1) < (l0_0.length : Int) := of_decide_eq_true Xa
         obtain ⟨ad143, A143_0, c143_0, e143, hx143_0, hl143_0, hi143_0⟩ := at_L1 HR0_0.out (rd x4_2 x6_1) p143 q143
         cases e143
         replace hx143_0 := Xm HB hx143_0
         have HR143_0 := Aside0.mk hi143_0
         have HC143_0 := Aside0.mk hl143_0
         clear hi143_0 hl143_0
         replace p143 := eq_true p143
         replace q143 := eq_true q143
         have p144 : 0 ≤ ((ji27) : Int) := of_decide_eq_true Xa
         have q144 : (ji27) < ((rd_L1 l0_0 (rd x4_2 x6_1)).length : Int) := of_decide_eq_true Xa
         obtain ⟨ad144, e144, hx144_0⟩ := Kd.at_int HR143_0.out (ji27) p144 q144
         cases e144
         replace hx144_0 := Xm HB hx144_0
         replace p144 := eq_true p144
         replace q144 := eq_true q144
         go_wp2
         repeat (go_quiet (fail); try go_wp2)
         go_roundg k2
         case measure => have := HK1.out; have := HK2.out; omega
         case rel => exact ⟨(x4_2), (x5_2), (wrap64 (x7_2 + 1)), Xr, H', ⟨by have := HK1.out; have := HK2.out; omega⟩, (Xp' HO_4), (Xp' HO_5), (Xp BK126), ⟨Xi⟩⟩
       ·have H' := Aside0.mk H
        clear H
        go_wp2
        repeat (go_quiet (fail); try go_wp2)
        go_roundg k2
        case measure => have := HK1.out; have := HK2.out; omega
        case rel => exact ⟨(x4_2), (x5_2), (wrap64 (x6_1 + 1)), Xr, H', ⟨by have := HK1.out; have := HK2.out; omega⟩, (Xp' HO_4), (Xp' HO_5), (Xp BK126), ⟨Xi⟩⟩
   ·obtain ⟨y136, hy136⟩ : ∃ y_ : List Int, y_ = (([] : List Int)) := ⟨_, rfl⟩
    replace H : (some (y136, false)) = some (r1, r2) := by first | (rw [hy136]; with_reducible exact H) | (have H2_ := (Option.bind_some _ _).symm.trans H; rw [hy136]; with_reducible exact H2_) | (have H2_ := (Option.bind_some _ _).symm.trans H; with_reducible exact H2_) | with_reducible exact H | (rw [hy136]; exact H) | exact H
    have Ny136 := Aside0.mk hy136
    clear hy136
    simp only [Option.some.injEq, Prod.mk.injEq] at H
    obtain ⟨rfl, rfl⟩ := H
    obtain ⟨Ao51, co51, eo51⟩ := Kd.R_slice HO_4.out
    subst eo51
    go_wp2_with (first | ((with_reducible refine gate_dst (N := 70) rfl ?_); refine Kd.R_lit (Kd.int .i64) _ 3 ?hg (N := 70) ?hd (xs := ([] : List Int)) (inner := []) (ok := fun _ => True) (okp := fun _ => True) ?hr ?hp (fun _ hk => hk) trivial (Below.refl _ _) (Nat.le_refl _) (by simp) ?_; (case hd => rfl); (case hg => rfl); (case hr => first | (go_simp; done) | (go_simp; rfl)); (case hp => exact (Reps.none _ _)); intro v137 w52 ho53 hb hg_ hnew_; clear hg_ hnew_; (first | rw [← Ny136.out] at ho53 | (simp only [Int.reduceToNat] at ho53; rw [← Ny136.out] at ho53)); replace HO_5 := Aside0.mk (Kd.N_elder' (Xq HO_5) (Kd.R_base ho53) hb); have HO138 := Aside0.mk (Kd.R_lower (Kd.R_new' (Kd.R_newM (M := fun k_ => (w.heap.size ≤ k_)) ho53 (below_size Xi) (fun k_ h_ => h_)) (Kd.R_lt (Xq HO_4))) (below_size Xi)); replace HO_4 := Aside0.mk (Kd.R_elder' (Xq HO_4) (Kd.R_base ho53) hb); replace BK126 := Xbb BK126 hb; replace HB := Aside0.mk (below_step Xi hb); clear hb ho53))
    repeat (go_quiet (first | ((with_reducible refine gate_dst (N := 70) rfl ?_); refine Kd.R_lit (Kd.int .i64) _ 3 ?hg (N := 70) ?hd (xs := ([] : List Int)) (inner := []) (ok := fun _ => True) (okp := fun _ => True) ?hr ?hp (fun _ hk => hk) trivial (Below.refl _ _) (Nat.le_refl _) (by simp) ?_; (case hd => rfl); (case hg => rfl); (case hr => first | (go_simp; done) | (go_simp; rfl)); (case hp => exact (Reps.none _ _)); intro v137 w52 ho53 hb hg_ hnew_; clear hg_ hnew_; (first | rw [← Ny136.out] at ho53 | (simp only [Int.reduceToNat] at ho53; rw [← Ny136.out] at ho53)); replace HO_5 := Aside0.mk (Kd.N_elder' (Xq HO_5) (Kd.R_base ho53) hb); have HO138 := Aside0.mk (Kd.R_lower (Kd.R_new' (Kd.R_newM (M := fun k_ => (w.heap.size ≤ k_)) ho53 (below_size Xi) (fun k_ h_ => h_)) (Kd.R_lt (Xq HO_4))) (below_size Xi)); replace HO_4 := Aside0.mk (Kd.R_elder' (Xq HO_4) (Kd.R_base ho53) hb); replace BK126 := Xbb BK126 hb; replace HB := Aside0.mk (below_step Xi hb); clear hb ho53)); try go_wp2_with (first | ((with_reducible refine gate_dst (N := 70) rfl ?_); refine Kd.R_lit (Kd.int .i64) _ 3 ?hg (N := 70) ?hd (xs := ([] : List Int)) (inner := []) (ok := fun _ => True) (okp := fun _ => True) ?hr ?hp (fun _ hk => hk) trivial (Below.refl _ _) (Nat.le_refl _) (by simp) ?_; (case hd => rfl); (case hg => rfl); (case hr => first | (go_simp; done) | (go_simp; rfl)); (case hp => exact (Reps.none _ _)); intro v137 w52 ho53 hb hg_ hnew_; clear hg_ hnew_; (first | rw [← Ny136.out] at ho53 | (simp only [Int.reduceToNat] at ho53; rw [← Ny136.out] at ho53)); replace HO_5 := Aside0.mk (Kd.N_elder' (Xq HO_5) (Kd.R_base ho53) hb); have HO138 := Aside0.mk (Kd.R_lower (Kd.R_new' (Kd.R_newM (M := fun k_ => (w.heap.size ≤ k_)) ho53 (below_size Xi) (fun k_ h_ => h_)) (Kd.R_lt (Xq HO_4))) (below_size Xi)); replace HO_4 := Aside0.mk (Kd.R_elder' (Xq HO_4) (Kd.R_base ho53) hb); replace BK126 := Xbb BK126 hb; replace HB := Aside0.mk (below_step Xi hb); clear hb ho53)))
    go_ret2
    exact ⟨_, Xe, Kd.R_V (by (with_reducible repeat (first | apply Kd.R_alloc | apply Kd.R_drewN | apply Kd.R_drew)); exact Kd.R_mono HO138.out (fun _ hk => hk.1.1)), Xi⟩

/-! ### spec_FirstKids: function 18 -/
def spec_FirstKids.f (k : Nat) (l0_0 : List (List Int)) (l0_1 : List Bool) : Option (List Int × Int) := (spec_MachineOK.f k l0_0 l0_1).bind fun t163 => (if t163 = true then ((spec_l04First.f k l0_0 l0_1).bind fun bt164 => (if bt164.2 = true then ((some (([] : List Int) : List Int)).bind fun y168 => (if y168.length + bt164.1.length < 17592186044416 then (some ((y168 ++ bt164.1), 0)) else (none))) else (some ((([] : List Int)), 5)))) else (some ((([] : List Int)), 1)))
set_option maxHeartbeats 8000000 in
set_option maxRecDepth 100000 in
theorem spec_FirstKids.calls (k : Nat) (A0_0 : Option Addr) (c0_0 : Nat) (l0_0 : List (List Int)) (A0_1 : Option Addr) (c0_1 : Nat) (l0_1 : List Bool) (r1 : List Int) (r2 : Int) (w : World) (hr0_0 : Kd.C (Kd.slice 3 (Kd.int .i64)) w A0_0 l0_0.length l0_0) (hc0_0 : l0_0.length ≤ c0_0) (hr0_1 : Kd.C Kd.bool w A0_1 l0_1.length l0_1) (hc0_1 : l0_1.length ≤ c0_1) (h : spec_FirstKids.f k l0_0 l0_1 = some (r1, r2)) :
  Calls Try.prog 18 #[.agg #[.slice A0_0 l0_0.length c0_0, .slice A0_1 l0_1.length c0_1]] w fun e w' => ∃ v0_ : Value, e = .returned (.tuple #[v0_, .int .i64 r2]) ∧ Kd.R (Kd.int .i64) 3 w' w.heap.size (fun _ => True) v0_ r1 ∧ Below w.heap.size w w' := by
 have hu27 := Try.underlying27
 have HR0_0 := Aside0.mk hr0_0
 have HC0_0 := Aside0.mk hc0_0
 clear hr0_0 hc0_0
 have HR0_1 := Aside0.mk hr0_1
 have HC0_1 := Aside0.mk hc0_1
 clear hr0_1 hc0_1
 have HB := Aside0.mk (Below.refl w.heap.size w)
 have H : ((spec_MachineOK.f k l0_0 l0_1).bind fun t163 => (if t163 = true then ((spec_l04First.f k l0_0 l0_1).bind fun bt164 => (if bt164.2 = true then ((some (([] : List Int) : List Int)).bind fun y168 => (if y168.length + bt164.1.length < 17592186044416 then (some ((y168 ++ bt164.1), 0)) else (none))) else (some ((([] : List Int)), 5)))) else (some ((([] : List Int)), 1)))) = some (r1, r2) := h
 clear h
 obtain ⟨t163, A2, H⟩ := Xbi H
 (try dsimp only at H)
 have HC3 := Aside0.mk H
 clear H
 go_enter Try.func18, Try.ntmps18
 go_upto_if 8 with (first | ((with_reducible refine gate_dst (N := 1) rfl ?_); refine Xbox 1 #[.slice A0_0 l0_0.length c0_0, .slice A0_1 l0_1.length c0_1] 27 ?_; intro gb162 hg w4 hbox hb; have BK162 := Aside0.mk (hbox); have GE162 := Xge hg Xi; replace HB := Aside0.mk (below_step Xi hb); clear hb hbox hg; obtain ⟨hcz5_0, hcz5_1⟩ := Xc2 BK162) | ((with_reducible refine gate_callee (f := 58) rfl ?_); refine Xgo 7 Try.func58 #[.agg #[.slice A0_0 l0_0.length c0_0, .slice A0_1 l0_1.length c0_1]] ?_; (with_reducible refine (spec_MachineOK.calls k _ _ l0_0 _ _ l0_1 t163 _ ?side1 ?side2 ?side3 ?side4 A2.out).mono ?_); (case side1 => exact Xc HR0_0); (case side2 => exact HC0_0.out); (case side3 => exact Xc HR0_1); (case side4 => exact HC0_1.out); rintro e w6 ⟨rfl, hb⟩; refine ⟨_, rfl, ?_⟩; replace BK162 := Xbb BK162 hb; replace HB := Aside0.mk (below_step Xi hb); clear hb))
 have H := HC3.out
 clear HC3
 by_cases c7 : t163 = true
 ·subst c7
  (first | rw [if_pos rfl] at H | skip)
  replace H := Option.bind_eq_some_iff.mp H
  obtain ⟨⟨t164, t167⟩, A80, H⟩ := H
  (try dsimp only at H)
  have A8 := Aside0.mk A80
  clear A80
  have HC9 := Aside0.mk H
  clear H
  obtain ⟨hcz10_0, hcz10_1⟩ := Xc2 BK162
  go_upto_if 16 with (first | ((with_reducible refine gate_callee (f := 59) rfl ?_); refine Xgo 12 Try.func59 #[.agg #[.slice A0_0 l0_0.length c0_0, .slice A0_1 l0_1.length c0_1]] ?_; (with_reducible refine (spec_l04First.calls k _ _ l0_0 _ _ l0_1 t164 t167 _ ?side1 ?side2 ?side3 ?side4 A8.out).mono ?_); (case side1 => exact Xc HR0_0); (case side2 => exact HC0_0.out); (case side3 => exact Xc HR0_1); (case side4 => exact HC0_1.out); rintro e w11 ⟨v165, rfl, ho0, hb⟩; refine ⟨_, rfl, ?_⟩; have HO166 := Aside0.mk (Kd.V_lower (Kd.V_mono (ok' := fun k_ => k_ ≠ gb162) ho0 (fun k_ hk_ => (Kd.freshB (g := gb162) (o := .cells #[.slice A0_0 l0_0.length c0_0, .slice A0_1 l0_1.length c0_1] 27 (0, 0)) (Xq' BK162) k_ hk_))) (below_size Xi)); replace BK162 := Xbb BK162 hb; replace HB := Aside0.mk (below_step Xi hb); clear hb; (try clear ho0)))
  have H := HC9.out
  clear HC9
  by_cases c12 : t167 = true
  ·subst c12
   (first | rw [if_pos rfl] at H | skip)
   obtain ⟨y168, hy168⟩ : ∃ y_ : List Int, y_ = (([] : List Int)) := ⟨_, rfl⟩
   replace H : (if y168.length + t164.length < 17592186044416 then (some ((y168 ++ t164), 0)) else (none)) = some (r1, r2) := by first | (rw [hy168]; with_reducible exact H) | (have H2_ := (Option.bind_some _ _).symm.trans H; rw [hy168]; with_reducible exact H2_) | (have H2_ := (Option.bind_some _ _).symm.trans H; with_reducible exact H2_) | with_reducible exact H | (rw [hy168]; exact H) | exact H
   have Ny168 := Aside0.mk hy168
   clear hy168
   obtain ⟨c13, H⟩ := Xif H
   have LMc13 := Aside0.mk c13
   clear c13
   obtain ⟨y171, hy171⟩ : ∃ y_ : List Int, y_ = (y168 ++ t164) := ⟨_, rfl⟩
   replace H : (some (y171, 0)) = some (r1, r2) := by first | (rw [hy171]; with_reducible exact H) | (have H2_ := (Option.bind_some _ _).symm.trans H; rw [hy171]; with_reducible exact H2_) | (have H2_ := (Option.bind_some _ _).symm.trans H; with_reducible exact H2_) | with_reducible exact H | (rw [hy171]; exact H) | exact H
   have Ny171 := Aside0.mk hy171
   clear hy171
   simp only [Option.some.injEq, Prod.mk.injEq] at H
   obtain ⟨rfl, rfl⟩ := H
   go_wp2_with (first | ((with_reducible refine gate_dst (N := 18) rfl ?_); refine Kd.R_lit (Kd.int .i64) _ 3 ?hg (N := 18) ?hd (xs := ([] : List Int)) (inner := []) (ok := fun _ => True) (okp := fun _ => True) ?hr ?hp (fun _ hk => hk) trivial (Below.refl _ _) (Nat.le_refl _) (by simp) ?_; (case hd => rfl); (case hg => rfl); (case hr => first | (go_simp; done) | (go_simp; rfl)); (case hp => exact (Reps.none _ _)); intro v169 w14 ho15 hb hg_ hnew_; clear hg_ hnew_; (first | rw [← Ny168.out] at ho15 | (simp only [Int.reduceToNat] at ho15; rw [← Ny168.out] at ho15)); replace HO166 := Aside0.mk (Kd.V_elder' (by (with_reducible repeat (first | apply Kd.V_alloc | apply Kd.V_drewN | apply Kd.V_drew)); exact HO166.out) (Kd.R_base ho15) hb); have HO170 := Aside0.mk (Kd.R_lower ho15 (below_size Xi)); replace BK162 := Xbb BK162 hb; replace HB := Aside0.mk (below_step Xi hb); clear hb ho15; obtain ⟨Ao17, co17, eo17⟩ := Kd.V_slice HO166.out; subst eo17) | ((with_reducible refine gate_builtin (b := .append) (xs := #[.tmp 18, .tmp 19]) rfl ?_); at_builtin; refine Kd.R_append_rows (Kd.int .i64) (w0 := w) w.heap.size rfl (.tmp 18) (.tmp 19) 39 3 (.int .i64 0) 8 rfl Try.underlying39 info3 rfl (by decide) (by omega) v169 y168 t164 _ _ _ (fun _ => True) (fun _ => False) rfl rfl ?aO ?aR (fun _ _ h => h) (fun _ h => h.elim) ?aF ?aB ?aS ?aL ?_; (case aR => repeat (first | exact (Kd.V_reads' HO166.out).2.2 | (with_reducible first | refine Kd.C_alloc ?_ _ | refine Kd.C_drewN ?_ _ | refine Kd.C_drew ?_))); (case aB => exact Xi); (case aF => exact (fun _ _ => trivial)); (case aO => exact (Xq HO170)); (case aS => exact (below_size Xi)); (case aL => have := LMc13.out; omega); intro v172 w16 ho hb hg hat; rw [← Ny171.out] at ho; replace BK162 := Aside0.mk (blk_grown (g := gb162) (o := .cells #[.slice A0_0 l0_0.length c0_0, .slice A0_1 l0_1.length c0_1] 27 (0, 0)) (Xq' BK162) hg (Kd.R_ne HO170.out BK162.out (by decide))); replace HO166 := Aside0.mk (Kd.V_afterv (ok := (fun k_ => k_ ≠ gb162)) (by (with_reducible repeat (first | apply Kd.V_alloc | apply Kd.V_drewN | apply Kd.V_drew)); exact HO166.out) hg hat); replace HB := Aside0.mk (hb); have HO173 := Aside0.mk (ho); clear HO170; clear ho hb hg hat))
   go_ret2
   exact ⟨_, Xe, Xq HO173, Xi⟩
  ·replace c12 := Bool.eq_false_iff.mpr c12
   subst c12
   (first | rw [if_neg (show ¬ (false = true) by decide)] at H | skip)
   obtain ⟨y174, hy174⟩ : ∃ y_ : List Int, y_ = (([] : List Int)) := ⟨_, rfl⟩
   replace H : (some (y174, 5)) = some (r1, r2) := by first | (rw [hy174]; with_reducible exact H) | (have H2_ := (Option.bind_some _ _).symm.trans H; rw [hy174]; with_reducible exact H2_) | (have H2_ := (Option.bind_some _ _).symm.trans H; with_reducible exact H2_) | with_reducible exact H | (rw [hy174]; exact H) | exact H
   have Ny174 := Aside0.mk hy174
   clear hy174
   simp only [Option.some.injEq, Prod.mk.injEq] at H
   obtain ⟨rfl, rfl⟩ := H
   go_wp2_with (first | ((with_reducible refine gate_dst (N := 17) rfl ?_); refine Kd.R_lit (Kd.int .i64) _ 3 ?hg (N := 17) ?hd (xs := ([] : List Int)) (inner := []) (ok := fun _ => True) (okp := fun _ => True) ?hr ?hp (fun _ hk => hk) trivial (Below.refl _ _) (Nat.le_refl _) (by simp) ?_; (case hd => rfl); (case hg => rfl); (case hr => first | (go_simp; done) | (go_simp; rfl)); (case hp => exact (Reps.none _ _)); intro v175 w18 ho19 hb hg_ hnew_; clear hg_ hnew_; (first | rw [← Ny174.out] at ho19 | (simp only [Int.reduceToNat] at ho19; rw [← Ny174.out] at ho19)); replace HO166 := Aside0.mk (Kd.V_elder' (by (with_reducible repeat (first | apply Kd.V_alloc | apply Kd.V_drewN | apply Kd.V_drew)); exact HO166.out) (Kd.R_base ho19) hb); have HO176 := Aside0.mk (Kd.R_lower ho19 (below_size Xi)); replace BK162 := Xbb BK162 hb; replace HB := Aside0.mk (below_step Xi hb); clear hb ho19))
   go_ret2
   exact ⟨_, Xe, Xq HO176, Xi⟩
 ·replace c7 := Bool.eq_false_iff.mpr c7
  subst c7
  (first | rw [if_neg (show ¬ (false = true) by decide)] at H | skip)
  obtain ⟨y177, hy177⟩ : ∃ y_ : List Int, y_ = (([] : List Int)) := ⟨_, rfl⟩
  replace H : (some (y177, 1)) = some (r1, r2) := by first | (rw [hy177]; with_reducible exact H) | (have H2_ := (Option.bind_some _ _).symm.trans H; rw [hy177]; with_reducible exact H2_) | (have H2_ := (Option.bind_some _ _).symm.trans H; with_reducible exact H2_) | with_reducible exact H | (rw [hy177]; exact H) | exact H
  have Ny177 := Aside0.mk hy177
  clear hy177
  simp only [Option.some.injEq, Prod.mk.injEq] at H
  obtain ⟨rfl, rfl⟩ := H
  go_wp2_with (first | ((with_reducible refine gate_dst (N := 9) rfl ?_); refine Kd.R_lit (Kd.int .i64) _ 3 ?hg (N := 9) ?hd (xs := ([] : List Int)) (inner := []) (ok := fun _ => True) (okp := fun _ => True) ?hr ?hp (fun _ hk => hk) trivial (Below.refl _ _) (Nat.le_refl _) (by simp) ?_; (case hd => rfl); (case hg => rfl); (case hr => first | (go_simp; done) | (go_simp; rfl)); (case hp => exact (Reps.none _ _)); intro v178 w20 ho21 hb hg_ hnew_; clear hg_ hnew_; (first | rw [← Ny177.out] at ho21 | (simp only [Int.reduceToNat] at ho21; rw [← Ny177.out] at ho21)); have HO179 := Aside0.mk (Kd.R_lower ho21 (below_size Xi)); replace BK162 := Xbb BK162 hb; replace HB := Aside0.mk (below_step Xi hb); clear hb ho21))
  go_ret2
  exact ⟨_, Xe, Xq HO179, Xi⟩

/-! ### laws_toIntS: function 97 -/
def laws_toIntS.l0 : Nat → List Int → List Int → Int → Option (List Int)
 | 0, _, _, _ => none
 | k + 1, x0, x3, x4 => if x4 < (x0.length : Int) then (if 0 ≤ x4 then (if x4 < (x3.length : Int) then (laws_toIntS.l0 k x0 (x3.set (x4 : Int).toNat (rd x0 x4)) (wrap64 (x4 + 1))) else (none)) else (none)) else (some x3)
def laws_toIntS.f (k : Nat) (l0 : List Int) : Option (List Int) := if 0 ≤ (l0.length : Int) then (if ((l0.length : Int) : Int).toNat ≤ 35184372088832 then (laws_toIntS.l0 k l0 (List.replicate ((l0.length : Int) : Int).toNat 0) 0) else (none)) else (none)
set_option maxHeartbeats 8000000 in
set_option maxRecDepth 100000 in
theorem laws_toIntS.calls (k : Nat) (A0 : Option Addr) (c0 : Nat) (l0 : List Int) (r : List Int) (w : World) (hr0 : Kd.C (Kd.int .i64) w A0 l0.length l0) (hc0 : l0.length ≤ c0) (h : laws_toIntS.f k l0 = some r) :
  Calls Try.prog 97 #[.slice A0 l0.length c0] w fun e w' => ∃ v0_ : Value, e = .returned (v0_) ∧ Kd.R (Kd.int .i64) 3 w' w.heap.size (fun _ => True) v0_ r ∧ Below w.heap.size w w' := by
 have HR0 := Aside0.mk hr0
 have HC0 := Aside0.mk hc0
 clear hr0 hc0
 have HB := Aside0.mk (Below.refl w.heap.size w)
 have H : (if 0 ≤ (l0.length : Int) then (if ((l0.length : Int) : Int).toNat ≤ 35184372088832 then (laws_toIntS.l0 k l0 (List.replicate ((l0.length : Int) : Int).toNat 0) 0) else (none)) else (none)) = some r := h
 clear h
 obtain ⟨c2, H⟩ | ⟨c2, H⟩ := Xiu H
 ·have c2b0 := eq_true c2
  have c2b1 : decide (0 ≤ (l0.length : Int)) = true := decide_eq_true c2
  clear c2
  obtain ⟨c3, H⟩ := Xif H
  have c3b0 := eq_true c3
  have c3b1 : decide (((l0.length : Int) : Int).toNat ≤ 35184372088832) = true := decide_eq_true c3
  clear c3
  obtain ⟨y180, hy180⟩ : ∃ y_ : List Int, y_ = (List.replicate ((l0.length : Int) : Int).toNat 0) := ⟨_, rfl⟩
  replace H : (laws_toIntS.l0 k l0 y180 0) = some r := by first | (rw [hy180]; with_reducible exact H) | (have H2_ := (Option.bind_some _ _).symm.trans H; rw [hy180]; with_reducible exact H2_) | (have H2_ := (Option.bind_some _ _).symm.trans H; with_reducible exact H2_) | with_reducible exact H | (rw [hy180]; exact H) | exact H
  have Ny180 := Aside0.mk hy180
  clear hy180
  have H' := Aside0.mk H
  clear H
  go_enter Try.func97, Try.ntmps97
  go_wp2_with (first | ((with_reducible refine gate_dst (N := 7) rfl ?_); refine Kd.R_make (Kd.int .i64) _ 3 rfl (N := 7) rfl 39 _ _ rfl (l0.length : Int) rfl rfl Try.underlying39 (.int .i64 0) 8 info3 rfl (by decide) (by omega) 0 (ok := fun _ => True) (okp := fun _ => True) rfl (fun _ hk => hk) trivial (of_decide_eq_true Xa) (Nat.le_trans (Nat.mul_le_mul_right _ (of_decide_eq_true Xa : (l0.length : Int).toNat ≤ 35184372088832)) (by omega)) (Below.refl _ _) (Nat.le_refl _) ?_; intro v181 w4 ho5 hb hg_ hnew_; clear hg_ hnew_; (first | rw [← Ny180.out] at ho5 | (simp only [Int.reduceToNat] at ho5; rw [← Ny180.out] at ho5)); have HO182 := Aside0.mk (Kd.R_lower ho5 (below_size Xi)); replace HB := Aside0.mk (below_step Xi hb); clear hb ho5))
  go_loopg [4] k (fun kq v4 w' => ∃ (x3_1 : List Int) (x4_1 : Int), v4 = .int .i64 x4_1 ∧ Aside0 (laws_toIntS.l0 kq l0 x3_1 x4_1 = some r) ∧ Aside0 (kq ≤ k) ∧ Aside0 (Kd.R (Kd.int .i64) 3 w' w.heap.size (fun _ => True) v181 x3_1) ∧ Aside0 (Below w.heap.size w w'))
  case atStart => exact ⟨(y180), (0), Xr, H', Xkr, (Xp' HO182), ⟨Xi⟩⟩
  case round =>
   clear H'
   (try clear c2); (try clear c2b0); (try clear c2b1); (try clear c3); (try clear c3b0); (try clear c3b1)
   obtain ⟨x3_1, x4_1, rfl, HA, HK1, HO_3, HB⟩ := hrel
   cases gk with
   | zero => cases HA.out
   | succ k1 =>
    have H := HA.out
    clear HA
    simp only [laws_toIntS.l0] at H
    obtain ⟨c6b0, H⟩ | ⟨c6b0, H⟩ := Xit H
    ·obtain ⟨c7b0, H⟩ := Xid H
     obtain ⟨c8b0, H⟩ := Xid H
     obtain ⟨y184, hy184⟩ : ∃ y_ : List Int, y_ = (x3_1.set (x4_1 : Int).toNat (rd l0 x4_1)) := ⟨_, rfl⟩
     replace H : (laws_toIntS.l0 k1 l0 y184 (wrap64 (x4_1 + 1))) = some r := by first | (rw [hy184]; with_reducible exact H) | (have H2_ := (Option.bind_some _ _).symm.trans H; rw [hy184]; with_reducible exact H2_) | (have H2_ := (Option.bind_some _ _).symm.trans H; with_reducible exact H2_) | with_reducible exact H | (rw [hy184]; exact H) | exact H
     have Ny184 := Aside0.mk hy184
     clear hy184
     have H' := Aside0.mk H
     clear H
     have p183 : 0 ≤ (x4_1 : Int) := of_decide_eq_true Xa
     have q183 : x4_1 < (l0.length : Int) := of_decide_eq_true Xa
     obtain ⟨ad183, e183, hx183_0⟩ := Kd.at_int HR0.out x4_1 p183 q183
     cases e183
     replace hx183_0 := Xm HB hx183_0
     replace p183 := eq_true p183
     replace q183 := eq_true q183
     have p9 : 0 ≤ (x4_1 : Int) := of_decide_eq_true Xa
     have q9 : (x4_1 : Int) < ((x3_1.length : Int) : Int) := of_decide_eq_true Xa
     obtain ⟨go9, co9, eo9, gb9, gl9, cl9, HG9⟩ := Kd.R_form HO_3.out (by omega)
     (first | cases eo9 | (injection eo9 with ea_ en_ ec_; (first | subst ea_ | (injection ea_ with ea_; subst ea_)); subst ec_; clear en_))
     have GB9 := Aside0.mk gb9
     have GG9 := Aside0.mk HG9
     clear gb9 gl9 HG9
     obtain ⟨hx9_0, hf9_0⟩ := Kd.R_celln 0 HO_3.out (x4_1 : Int) p9 q9
     replace p9 := eq_true p9
     replace q9 := eq_true q9
     have HP10 := Kd.R_putg HO_3.out (x4_1 : Int) (rd l0 x4_1)
     go_wp2_with (first | ((with_reducible refine gate_store (t := 3) (p := 20) rfl ?_); refine store_event (t := 3) (p := 20) (v := ?vo_w11) (w1 := (wr.setCell ⟨go9, (x4_1 : Int).toNat, none⟩ (.int .i64 (rd l0 x4_1)))) ?hg ?ho ?hn ?hr ?_; (case ho => rfl); (case hg => rfl); (case hn => rfl); (case hr => first | (go_simp; done) | (go_simp; rfl)); intro w11 hw; have hg : wr.grownBy w11 (some go9) := (by rw [hw]; exact HP10.2); have hp_ : Kd.R (Kd.int .i64) 3 w11 w.heap.size (fun _ => True) (.slice (some ⟨go9, 0, none⟩) x3_1.length co9) y184 := (by rw [hw, Ny184.out]; exact HP10.1); clear HP10; replace HO_3 := Aside0.mk (hp_); replace HB := Aside0.mk ((by rw [hw]; exact below_set (HB.out) GB9.out : Below w.heap.size w w11)); clear hg hw hp_))
     go_roundg k1
     case measure => have := HK1.out; omega
     case rel => exact ⟨(y184), (wrap64 (x4_1 + 1)), Xr, H', Xk1, (Xp' HO_3), ⟨Xi⟩⟩
    ·obtain rfl := Option.some.inj H
     go_wp2
     go_ret
     exact ⟨_, Xe, Xq HO_3, Xi⟩
 ·exact absurd H (by simp)

end Go.Proofs.Ythkbgbkglgmpoaa.XA
