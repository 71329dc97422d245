/- Words and contracts of this claim, put together out of several texts by a program of this session's. Conditions: each theorem's own premises. -/
import Derived.Test.YtpdhccdmbdbdpaaZ1
namespace Go.Proofs.Ytpdhccdmbdbdpaa.XA
open Go.RowKit Go.Proofs.YtpdhccdmbdbdpaaW.PrintWords Go.Proofs.YtpdhccdmbdbdpaaW.PrintLast Go.Proofs.YtpdhccdmbdbdpaaW.PrintMore XW
attribute [local go_sem] max2_int min2_int max_two min_two max_three min_three max_four min_four   -- for this text's walks alone
set_option linter.unusedVariables false
set_option linter.unusedSimpArgs false
set_option maxHeartbeats 8000000
set_option maxRecDepth 100000
def spec_l02Put.l0 : Nat → List (S43) → List (S43) → Bool → Int → Int → Int → Int → ByteArray → List Int → Option ((List (S43)))
 | 0, _, _, _, _, _, _, _, _, _ => none
 | k + 1, x0, x5, x6, x7, x228000, x228001, x228002, x228003, x228004 => if x7 < (x0.length : Int) then (if x6 = true then (if 0 ≤ x7 then (if x5.length < 2199023255552 then (spec_l02Put.l0 k x0 (x5 ++ [(⟨(rd_T43 x0 x7).f0, (rd_T43 x0 x7).f1, (rd_T43 x0 x7).f2, (rd_T43 x0 x7).f3, (rd_T43 x0 x7).f4⟩ : S43)]) x6 (wrap64 (x7 + 1)) x228000 x228001 x228002 x228003 x228004) else (none)) else (none)) else (if 0 ≤ x7 then (if ((rd_T43 x0 x7).f0) > x228000 then (if x5.length < 2199023255552 then ((some (x5 ++ [(⟨x228000, x228001, x228002, x228003, x228004⟩ : S43)] : List (S43))).bind fun y10 => (if y10.length < 2199023255552 then (spec_l02Put.l0 k x0 (y10 ++ [(⟨(rd_T43 x0 x7).f0, (rd_T43 x0 x7).f1, (rd_T43 x0 x7).f2, (rd_T43 x0 x7).f3, (rd_T43 x0 x7).f4⟩ : S43)]) true (wrap64 (x7 + 1)) x228000 x228001 x228002 x228003 x228004) else (none))) else (none)) else (if x5.length < 2199023255552 then (spec_l02Put.l0 k x0 (x5 ++ [(⟨(rd_T43 x0 x7).f0, (rd_T43 x0 x7).f1, (rd_T43 x0 x7).f2, (rd_T43 x0 x7).f3, (rd_T43 x0 x7).f4⟩ : S43)]) x6 (wrap64 (x7 + 1)) x228000 x228001 x228002 x228003 x228004) else (none))) else (none))) else (if x6 = true then (some x5) else (if x5.length < 2199023255552 then (some (x5 ++ [(⟨x228000, x228001, x228002, x228003, x228004⟩ : S43)])) else (none)))
def spec_l02Put.f (k : Nat) (l0 : List (S43)) (a1_0 : Int) (a1_1 : Int) (a1_2 : Int) (a1_3 : ByteArray) (l1_4 : List Int) : Option ((List (S43))) := spec_l02Put.l0 k l0 (([] : List (S43))) false 0 a1_0 a1_1 a1_2 a1_3 l1_4
theorem spec_l02Put.calls (k : Nat) (P0_ : Nat → Prop) (A0 : Option Addr) (c0 : Nat) (l0 : List (S43)) (a1_0 : Int) (a1_1 : Int) (a1_2 : Int) (a1_3 : ByteArray) (P1_4_ : Nat → Prop) (A1_4 : Option Addr) (c1_4 : Nat) (l1_4 : List Int) (r : List (S43)) (w : World) (hs0 : Kd.V k43 43 w w.heap.size (fun k_ => P0_ k_) (.slice A0 l0.length c0) l0) (hs1_4 : Kd.V (Kd.int .i64) 3 w w.heap.size (fun k_ => P1_4_ k_) (.slice A1_4 l1_4.length c1_4) l1_4) (h : spec_l02Put.f k l0 a1_0 a1_1 a1_2 a1_3 l1_4 = some r) :
  Calls Try.prog 125 #[.slice A0 l0.length c0, .agg #[.int .i64 a1_0, .int .i64 a1_1, .int .i64 a1_2, .string a1_3, .slice A1_4 l1_4.length c1_4]] w fun e w' => ∃ v0_ : Value, e = .returned (v0_) ∧ Kd.N k43 43 w' w.heap.size (fun k_ => ((P0_ k_ ∨ P1_4_ k_) ∨ w.heap.size ≤ k_)) v0_ r ∧ Below w.heap.size w w' := by
 have hu43 := Try.underlying43
 have HO0 := Am (show Kd.V k43 43 w w.heap.size (fun k_ => ((P0_ k_ ∨ P1_4_ k_) ∨ w.heap.size ≤ k_)) (.slice A0 l0.length c0) l0 from Kd.V_mono hs0 (fun k_ hk => .inl (.inl hk)))
 have HO1_4 := Am (show Kd.V (Kd.int .i64) 3 w w.heap.size (fun k_ => ((P0_ k_ ∨ P1_4_ k_) ∨ w.heap.size ≤ k_)) (.slice A1_4 l1_4.length c1_4) l1_4 from Kd.V_mono hs1_4 (fun k_ hk => .inl (.inr hk)))
 have HB := Am (Below.refl w.heap.size w)
 have H : (spec_l02Put.l0 k l0 (([] : List (S43))) false 0 a1_0 a1_1 a1_2 a1_3 l1_4) = some r := h
 clear h
 obtain ⟨y228, hy228⟩ : ∃ y_ : List (S43), y_ = (([] : List (S43))) := ⟨_, rfl⟩
 replace H : (spec_l02Put.l0 k l0 y228 false 0 a1_0 a1_1 a1_2 a1_3 l1_4) = some r := by first | (rw [hy228]; with_reducible exact H) | (have H2_ := (Option.bind_some _ _).symm.trans H; rw [hy228]; with_reducible exact H2_) | (have H2_ := (Option.bind_some _ _).symm.trans H; with_reducible exact H2_) | with_reducible exact H | (rw [hy228]; exact H) | exact H
 have Ny228 := Am hy228
 clear hy228
 have H' := Am H
 clear H
 go_enter Try.func125, Try.ntmps125
 go_wp2_with (first | ((with_reducible refine gate_dst (N := 3) rfl ?_); refine Xbox 3 #[.int .i64 a1_0, .int .i64 a1_1, .int .i64 a1_2, .string a1_3, .slice A1_4 l1_4.length c1_4] 43 ?_; intro gb25 hg w3 hbox hb; replace HO0 := Am (Kd.V_below (Kd.V_elderB (by (with_reducible repeat (first | apply Kd.V_alloc | apply Kd.V_drewN | apply Kd.V_drew)); exact HO0.out) gb25 (Nat.le_of_eq hg.symm)) hb); replace HO1_4 := Am (Kd.V_below (Kd.V_elderB (by (with_reducible repeat (first | apply Kd.V_alloc | apply Kd.V_drewN | apply Kd.V_drew)); exact HO1_4.out) gb25 (Nat.le_of_eq hg.symm)) hb); have B25 := Am (hbox); have GE25 := Xge hg Xi; have GW25 := GE25; replace HB := Xhb hb; clear hb hbox hg) | ((with_reducible refine gate_dst (N := 8) rfl ?_); refine Kd.N_lit k43 _ 43 ?hg (N' := 8) ?hd (xs := ([] : List (S43))) (inner := []) (ok := (fun k_ => ((P0_ k_ ∨ P1_4_ k_) ∨ w.heap.size ≤ k_) ∧ k_ ≠ gb25)) (okp := (fun k_ => ((P0_ k_ ∨ P1_4_ k_) ∨ w.heap.size ≤ k_) ∧ k_ ≠ gb25)) ?hr ?hp (fun _ hk => hk) ((show ∀ k_, w3.heap.size ≤ k_ → (fun k_ => ((P0_ k_ ∨ P1_4_ k_) ∨ w.heap.size ≤ k_) ∧ k_ ≠ gb25) k_ from fun k_ hk => ⟨(.inr (Nat.le_trans (below_size Xi) hk)), Kd.freshB (g := gb25) (o := .cells #[.int .i64 a1_0, .int .i64 a1_1, .int .i64 a1_2, .string a1_3, .slice A1_4 l1_4.length c1_4] 43 (0, 0)) (Xq' B25) k_ hk⟩) _ (Nat.le_refl _)) (Below.refl _ _) (Nat.le_refl _) (by simp) ?_; (case hd => rfl); (case hg => rfl); (case hr => first | (go_simp; done) | (go_simp; rfl)); (case hp => exact (Reps.none _ _)); intro v229 w4 ho5 hb hg_ hnew_; clear hg_ hnew_; (first | rw [← Ny228.out] at ho5 | (simp only [Int.reduceToNat] at ho5; rw [← Ny228.out] at ho5)); replace HO0 := Am (Kd.V_elder' (by (with_reducible repeat (first | apply Kd.V_alloc | apply Kd.V_drewN | apply Kd.V_drew)); exact HO0.out) (Kd.N_base ho5) hb); replace HO1_4 := Am (Kd.V_elder' (by (with_reducible repeat (first | apply Kd.V_alloc | apply Kd.V_drewN | apply Kd.V_drew)); exact HO1_4.out) (Kd.N_base ho5) hb); have HO26 := Am (Kd.N_lower ho5 (below_size Xi)); replace B25 := Xbb B25 hb; replace HB := Xhb hb; clear hb ho5))
 repeat (go_quiet (first | ((with_reducible refine gate_dst (N := 3) rfl ?_); refine Xbox 3 #[.int .i64 a1_0, .int .i64 a1_1, .int .i64 a1_2, .string a1_3, .slice A1_4 l1_4.length c1_4] 43 ?_; intro gb25 hg w3 hbox hb; replace HO0 := Am (Kd.V_below (Kd.V_elderB (by (with_reducible repeat (first | apply Kd.V_alloc | apply Kd.V_drewN | apply Kd.V_drew)); exact HO0.out) gb25 (Nat.le_of_eq hg.symm)) hb); replace HO1_4 := Am (Kd.V_below (Kd.V_elderB (by (with_reducible repeat (first | apply Kd.V_alloc | apply Kd.V_drewN | apply Kd.V_drew)); exact HO1_4.out) gb25 (Nat.le_of_eq hg.symm)) hb); have B25 := Am (hbox); have GE25 := Xge hg Xi; have GW25 := GE25; replace HB := Xhb hb; clear hb hbox hg) | ((with_reducible refine gate_dst (N := 8) rfl ?_); refine Kd.N_lit k43 _ 43 ?hg (N' := 8) ?hd (xs := ([] : List (S43))) (inner := []) (ok := (fun k_ => ((P0_ k_ ∨ P1_4_ k_) ∨ w.heap.size ≤ k_) ∧ k_ ≠ gb25)) (okp := (fun k_ => ((P0_ k_ ∨ P1_4_ k_) ∨ w.heap.size ≤ k_) ∧ k_ ≠ gb25)) ?hr ?hp (fun _ hk => hk) ((show ∀ k_, w3.heap.size ≤ k_ → (fun k_ => ((P0_ k_ ∨ P1_4_ k_) ∨ w.heap.size ≤ k_) ∧ k_ ≠ gb25) k_ from fun k_ hk => ⟨(.inr (Nat.le_trans (below_size Xi) hk)), Kd.freshB (g := gb25) (o := .cells #[.int .i64 a1_0, .int .i64 a1_1, .int .i64 a1_2, .string a1_3, .slice A1_4 l1_4.length c1_4] 43 (0, 0)) (Xq' B25) k_ hk⟩) _ (Nat.le_refl _)) (Below.refl _ _) (Nat.le_refl _) (by simp) ?_; (case hd => rfl); (case hg => rfl); (case hr => first | (go_simp; done) | (go_simp; rfl)); (case hp => exact (Reps.none _ _)); intro v229 w4 ho5 hb hg_ hnew_; clear hg_ hnew_; (first | rw [← Ny228.out] at ho5 | (simp only [Int.reduceToNat] at ho5; rw [← Ny228.out] at ho5)); replace HO0 := Am (Kd.V_elder' (by (with_reducible repeat (first | apply Kd.V_alloc | apply Kd.V_drewN | apply Kd.V_drew)); exact HO0.out) (Kd.N_base ho5) hb); replace HO1_4 := Am (Kd.V_elder' (by (with_reducible repeat (first | apply Kd.V_alloc | apply Kd.V_drewN | apply Kd.V_drew)); exact HO1_4.out) (Kd.N_base ho5) hb); have HO26 := Am (Kd.N_lower ho5 (below_size Xi)); replace B25 := Xbb B25 hb; replace HB := Xhb hb; clear hb ho5)); try go_wp2_with (first | ((with_reducible refine gate_dst (N := 3) rfl ?_); refine Xbox 3 #[.int .i64 a1_0, .int .i64 a1_1, .int .i64 a1_2, .string a1_3, .slice A1_4 l1_4.length c1_4] 43 ?_; intro gb25 hg w3 hbox hb; replace HO0 := Am (Kd.V_below (Kd.V_elderB (by (with_reducible repeat (first | apply Kd.V_alloc | apply Kd.V_drewN | apply Kd.V_drew)); exact HO0.out) gb25 (Nat.le_of_eq hg.symm)) hb); replace HO1_4 := Am (Kd.V_below (Kd.V_elderB (by (with_reducible repeat (first | apply Kd.V_alloc | apply Kd.V_drewN | apply Kd.V_drew)); exact HO1_4.out) gb25 (Nat.le_of_eq hg.symm)) hb); have B25 := Am (hbox); have GE25 := Xge hg Xi; have GW25 := GE25; replace HB := Xhb hb; clear hb hbox hg) | ((with_reducible refine gate_dst (N := 8) rfl ?_); refine Kd.N_lit k43 _ 43 ?hg (N' := 8) ?hd (xs := ([] : List (S43))) (inner := []) (ok := (fun k_ => ((P0_ k_ ∨ P1_4_ k_) ∨ w.heap.size ≤ k_) ∧ k_ ≠ gb25)) (okp := (fun k_ => ((P0_ k_ ∨ P1_4_ k_) ∨ w.heap.size ≤ k_) ∧ k_ ≠ gb25)) ?hr ?hp (fun _ hk => hk) ((show ∀ k_, w3.heap.size ≤ k_ → (fun k_ => ((P0_ k_ ∨ P1_4_ k_) ∨ w.heap.size ≤ k_) ∧ k_ ≠ gb25) k_ from fun k_ hk => ⟨(.inr (Nat.le_trans (below_size Xi) hk)), Kd.freshB (g := gb25) (o := .cells #[.int .i64 a1_0, .int .i64 a1_1, .int .i64 a1_2, .string a1_3, .slice A1_4 l1_4.length c1_4] 43 (0, 0)) (Xq' B25) k_ hk⟩) _ (Nat.le_refl _)) (Below.refl _ _) (Nat.le_refl _) (by simp) ?_; (case hd => rfl); (case hg => rfl); (case hr => first | (go_simp; done) | (go_simp; rfl)); (case hp => exact (Reps.none _ _)); intro v229 w4 ho5 hb hg_ hnew_; clear hg_ hnew_; (first | rw [← Ny228.out] at ho5 | (simp only [Int.reduceToNat] at ho5; rw [← Ny228.out] at ho5)); replace HO0 := Am (Kd.V_elder' (by (with_reducible repeat (first | apply Kd.V_alloc | apply Kd.V_drewN | apply Kd.V_drew)); exact HO0.out) (Kd.N_base ho5) hb); replace HO1_4 := Am (Kd.V_elder' (by (with_reducible repeat (first | apply Kd.V_alloc | apply Kd.V_drewN | apply Kd.V_drew)); exact HO1_4.out) (Kd.N_base ho5) hb); have HO26 := Am (Kd.N_lower ho5 (below_size Xi)); replace B25 := Xbb B25 hb; replace HB := Xhb hb; clear hb ho5)))
 go_loopg [5, 6, 7] k (fun kq v5 v6 v7 w' => ∃ (x5_1 : List (S43)) (x6_1 : Bool) (x7_1 : Int), v6 = .bool x6_1 ∧ v7 = .int .i64 x7_1 ∧ Aside0 (spec_l02Put.l0 kq l0 x5_1 x6_1 x7_1 a1_0 a1_1 a1_2 a1_3 l1_4 = some r) ∧ Aside0 (kq ≤ k) ∧ Aside0 (Kd.V k43 43 w' w.heap.size (fun k_ => ((P0_ k_ ∨ P1_4_ k_) ∨ w.heap.size ≤ k_) ∧ some k_ ≠ (v5 : Value).ownBlock ∧ k_ ≠ gb25) (.slice A0 l0.length c0) l0) ∧ Aside0 (Kd.N k43 43 w' w.heap.size (fun k_ => ((P0_ k_ ∨ P1_4_ k_) ∨ w.heap.size ≤ k_) ∧ k_ ≠ gb25) v5 x5_1) ∧ Aside0 (Kd.V (Kd.int .i64) 3 w' w.heap.size (fun k_ => ((P0_ k_ ∨ P1_4_ k_) ∨ w.heap.size ≤ k_) ∧ some k_ ≠ (v5 : Value).ownBlock ∧ k_ ≠ gb25) (.slice A1_4 l1_4.length c1_4) l1_4) ∧ Aside0 (w'.heap[gb25]? = some (.cells #[.int .i64 a1_0, .int .i64 a1_1, .int .i64 a1_2, .string a1_3, (.slice A1_4 l1_4.length c1_4)] 43 (0, 0))) ∧ Aside0 (Below w.heap.size w w'))
 case atStart => exact ⟨(y228), (false), (0), Xr, Xr, H', Xkr, ⟨by (with_reducible repeat (first | apply Kd.V_alloc | apply Kd.V_drewN | apply Kd.V_drew)); exact Kd.V_mono HO0.out (fun _ hk => ⟨hk.1.1, ⟨hk.2, hk.1.2⟩⟩)⟩, (Xp' HO26), ⟨by (with_reducible repeat (first | apply Kd.V_alloc | apply Kd.V_drewN | apply Kd.V_drew)); exact Kd.V_mono HO1_4.out (fun _ hk => ⟨hk.1.1, ⟨hk.2, hk.1.2⟩⟩)⟩, (Xp B25), ⟨Xi⟩⟩
 clear H'
 obtain ⟨x5_1, x6_1, x7_1, rfl, rfl, HA, HK1, O_0, O_5, O_228004, B25, HB⟩ := hrel
 cases gk with | zero => cases HA.out | succ k1 => ?_
 have H := HA.out
 clear HA
 simp only [spec_l02Put.l0] at H
 obtain ⟨c6b0, H⟩ | ⟨c6b0, H⟩ := Xit H
 ·by_cases c7 : x6_1 = true
  ·subst c7
   try rw [if_pos rfl] at H
   obtain ⟨c8b0, H⟩ := Xid H
   obtain ⟨c9, H⟩ := Xif H
   have LMc9 := Am c9
   clear c9
   obtain ⟨y27, hy27⟩ : ∃ y_ : List (S43), y_ = (x5_1 ++ [(⟨(rd_T43 l0 x7_1).f0, (rd_T43 l0 x7_1).f1, (rd_T43 l0 x7_1).f2, (rd_T43 l0 x7_1).f3, (rd_T43 l0 x7_1).f4⟩ : S43)]) := ⟨_, rfl⟩
   replace H : (spec_l02Put.l0 k1 l0 y27 true (wrap64 (x7_1 + 1)) a1_0 a1_1 a1_2 a1_3 l1_4) = some r := by first | (rw [hy27]; with_reducible exact H) | (have H2_ := (Option.bind_some _ _).symm.trans H; rw [hy27]; with_reducible exact H2_) | (have H2_ := (Option.bind_some _ _).symm.trans H; with_reducible exact H2_) | with_reducible exact H | (rw [hy27]; exact H) | exact H
   have Ny27 := Am hy27
   clear hy27
   have H' := Am H
   clear H
   have p28 : 0 ≤ (x7_1 : Int) := Xo
   have q28 : x7_1 < (l0.length : Int) := Xo
   obtain ⟨ad28, A231_4, c231_4, e28, hx28_0, hx28_1, hx28_2, hx28_3, hx28_4, hl231_4, hi231_4⟩ := at_T43 (Kd.V_reads' O_0.out).2.2 x7_1 p28 q28
   cases e28
   obtain ⟨ce231, hce231, hMe231, hcc231⟩ := Kd.V_get O_0.out z43 x7_1 p28 (by first | exact q28 | exact Xo | (have e_ := (Kd.V_reads' O_0.out).1; omega))
   obtain ⟨ua231_4, uc231_4, rfl, ul231_4, ge231_4⟩ := k43_openF hMe231
   have hv231_4 := hcc231 4 _ rfl
   rw [add_field _ _ 4 (by omega)] at hv231_4
   replace hv231_4 := Option.some.inj (hv231_4.symm.trans hx28_4)
   injection hv231_4 with hva_ hvn_ hvc_
   rw [hva_] at ge231_4
   rw [hvc_] at ul231_4
   have HL231_4 := Am (show Kd.V (Kd.int .i64) 3 _ w.heap.size _ _ ((rd_T43 l0 x7_1).f4) from Kd.V_mk ul231_4 ge231_4)
   clear hva_ hvn_ hvc_ ge231_4 ul231_4
   clear hcc231 hce231
   have HR28_4 := Am hi231_4
   have HC28_4 := Am hl231_4
   clear hi231_4 hl231_4
   replace p28 := eq_true p28
   replace q28 := eq_true q28
   go_wp2_with (first | ((with_reducible refine gate_builtin (b := .append) (xs := #[.tmp 31, .tmp 36]) rfl ?_); at_builtin; refine Kd.N_append k43 (w0 := w) w.heap.size rfl (.tmp 31) (.tmp 36) 27 43 (.agg #[(.int .i64 0), (.int .i64 0), (.int .i64 0), (.string ⟨#[]⟩), (.slice none 0 0)]) 64 rfl Try.underlying27 info43 rfl (by decide) (by omega) u5 x5_1 (⟨(rd_T43 l0 x7_1).f0, (rd_T43 l0 x7_1).f1, (rd_T43 l0 x7_1).f2, (rd_T43 l0 x7_1).f3, (rd_T43 l0 x7_1).f4⟩ : S43) [.int .i64 ((rd_T43 l0 x7_1).f0), .int .i64 ((rd_T43 l0 x7_1).f1), .int .i64 ((rd_T43 l0 x7_1).f2), .string ((rd_T43 l0 x7_1).f3), .slice A231_4 ((rd_T43 l0 x7_1).f4).length c231_4] (fun k_ => ((P0_ k_ ∨ P1_4_ k_) ∨ w.heap.size ≤ k_) ∧ k_ ≠ gb25) (fun k_ => ((fun k_ => ((P0_ k_ ∨ P1_4_ k_) ∨ w.heap.size ≤ k_) ∧ k_ ≠ gb25)) k_ ∧ some k_ ≠ (u5 : Value).ownBlock) rfl rfl ?aP (fun _ hk => hk) ?aF ?aO ?aB ?aS ?aL ?_; (case aP => exact (k43_mkF _ _ (⟨(rd_T43 l0 x7_1).f0, (rd_T43 l0 x7_1).f1, (rd_T43 l0 x7_1).f2, (rd_T43 l0 x7_1).f3, (rd_T43 l0 x7_1).f4⟩ : S43) (Kd.V_reads' (Kd.V_mono (ok' := (fun k_ => ((fun k_ => ((P0_ k_ ∨ P1_4_ k_) ∨ w.heap.size ≤ k_) ∧ k_ ≠ gb25)) k_ ∧ some k_ ≠ (u5 : Value).ownBlock)) (HL231_4.out) (fun k_ hk => ⟨⟨hk.1, hk.2.2⟩, hk.2.1⟩))).2.1 (Kd.V_F (by (with_reducible repeat (first | apply Kd.V_alloc | apply Kd.V_drewN | apply Kd.V_drew)); exact (Kd.V_mono (ok' := (fun k_ => ((fun k_ => ((P0_ k_ ∨ P1_4_ k_) ∨ w.heap.size ≤ k_) ∧ k_ ≠ gb25)) k_ ∧ some k_ ≠ (u5 : Value).ownBlock)) (HL231_4.out) (fun k_ hk => ⟨⟨hk.1, hk.2.2⟩, hk.2.1⟩)))))); (case aB => exact Xi); (case aF => exact (fun k_ hk => ⟨(.inr (Nat.le_trans (below_size Xi) hk)), Kd.freshB (g := gb25) (o := .cells #[.int .i64 a1_0, .int .i64 a1_1, .int .i64 a1_2, .string a1_3, .slice A1_4 l1_4.length c1_4] 43 (0, 0)) (Xq' B25) k_ hk⟩)); (case aO => exact (Xq O_5)); (case aS => exact (below_size Xi)); (case aL => have := LMc9.out; omega); intro v233 w10 ho hb hg hat; rw [← Ny27.out] at ho; replace O_0 := Am (Kd.V_afterv (ok := (fun k_ => ((P0_ k_ ∨ P1_4_ k_) ∨ w.heap.size ≤ k_) ∧ k_ ≠ gb25)) (by (with_reducible repeat (first | apply Kd.V_alloc | apply Kd.V_drewN | apply Kd.V_drew)); exact Kd.V_mono O_0.out (fun _ hk => ⟨⟨hk.1, hk.2.2⟩, hk.2.1⟩)) hg hat); replace O_228004 := Am (Kd.V_afterv (ok := (fun k_ => ((P0_ k_ ∨ P1_4_ k_) ∨ w.heap.size ≤ k_) ∧ k_ ≠ gb25)) (by (with_reducible repeat (first | apply Kd.V_alloc | apply Kd.V_drewN | apply Kd.V_drew)); exact Kd.V_mono O_228004.out (fun _ hk => ⟨⟨hk.1, hk.2.2⟩, hk.2.1⟩)) hg hat); replace B25 := Am (blk_grown (g := gb25) (o := .cells #[.int .i64 a1_0, .int .i64 a1_1, .int .i64 a1_2, .string a1_3, .slice A1_4 l1_4.length c1_4] 43 (0, 0)) (Xq' B25) hg (Kd.N_away O_5.out (fun _ hk => hk.2))); replace HL231_4 := Am (Kd.V_afterv (ok := (fun k_ => ((P0_ k_ ∨ P1_4_ k_) ∨ w.heap.size ≤ k_) ∧ k_ ≠ gb25)) (by (with_reducible repeat (first | apply Kd.V_alloc | apply Kd.V_drewN | apply Kd.V_drew)); exact Kd.V_mono HL231_4.out (fun _ hk => ⟨⟨hk.1, hk.2.2⟩, hk.2.1⟩)) hg hat); replace HB := Am (hb); have HO29 := Am (ho); clear O_5; clear ho hb hg hat))
   repeat (go_quiet (first | ((with_reducible refine gate_builtin (b := .append) (xs := #[.tmp 31, .tmp 36]) rfl ?_); at_builtin; refine Kd.N_append k43 (w0 := w) w.heap.size rfl (.tmp 31) (.tmp 36) 27 43 (.agg #[(.int .i64 0), (.int .i64 0), (.int .i64 0), (.string ⟨#[]⟩), (.slice none 0 0)]) 64 rfl Try.underlying27 info43 rfl (by decide) (by omega) u5 x5_1 (⟨(rd_T43 l0 x7_1).f0, (rd_T43 l0 x7_1).f1, (rd_T43 l0 x7_1).f2, (rd_T43 l0 x7_1).f3, (rd_T43 l0 x7_1).f4⟩ : S43) [.int .i64 ((rd_T43 l0 x7_1).f0), .int .i64 ((rd_T43 l0 x7_1).f1), .int .i64 ((rd_T43 l0 x7_1).f2), .string ((rd_T43 l0 x7_1).f3), .slice A231_4 ((rd_T43 l0 x7_1).f4).length c231_4] (fun k_ => ((P0_ k_ ∨ P1_4_ k_) ∨ w.heap.size ≤ k_) ∧ k_ ≠ gb25) (fun k_ => ((fun k_ => ((P0_ k_ ∨ P1_4_ k_) ∨ w.heap.size ≤ k_) ∧ k_ ≠ gb25)) k_ ∧ some k_ ≠ (u5 : Value).ownBlock) rfl rfl ?aP (fun _ hk => hk) ?aF ?aO ?aB ?aS ?aL ?_; (case aP => exact (k43_mkF _ _ (⟨(rd_T43 l0 x7_1).f0, (rd_T43 l0 x7_1).f1, (rd_T43 l0 x7_1).f2, (rd_T43 l0 x7_1).f3, (rd_T43 l0 x7_1).f4⟩ : S43) (Kd.V_reads' (Kd.V_mono (ok' := (fun k_ => ((fun k_ => ((P0_ k_ ∨ P1_4_ k_) ∨ w.heap.size ≤ k_) ∧ k_ ≠ gb25)) k_ ∧ some k_ ≠ (u5 : Value).ownBlock)) (HL231_4.out) (fun k_ hk => ⟨⟨hk.1, hk.2.2⟩, hk.2.1⟩))).2.1 (Kd.V_F (by (with_reducible repeat (first | apply Kd.V_alloc | apply Kd.V_drewN | apply Kd.V_drew)); exact (Kd.V_mono (ok' := (fun k_ => ((fun k_ => ((P0_ k_ ∨ P1_4_ k_) ∨ w.heap.size ≤ k_) ∧ k_ ≠ gb25)) k_ ∧ some k_ ≠ (u5 : Value).ownBlock)) (HL231_4.out) (fun k_ hk => ⟨⟨hk.1, hk.2.2⟩, hk.2.1⟩)))))); (case aB => exact Xi); (case aF => exact (fun k_ hk => ⟨(.inr (Nat.le_trans (below_size Xi) hk)), Kd.freshB (g := gb25) (o := .cells #[.int .i64 a1_0, .int .i64 a1_1, .int .i64 a1_2, .string a1_3, .slice A1_4 l1_4.length c1_4] 43 (0, 0)) (Xq' B25) k_ hk⟩)); (case aO => exact (Xq O_5)); (case aS => exact (below_size Xi)); (case aL => have := LMc9.out; omega); intro v233 w10 ho hb hg hat; rw [← Ny27.out] at ho; replace O_0 := Am (Kd.V_afterv (ok := (fun k_ => ((P0_ k_ ∨ P1_4_ k_) ∨ w.heap.size ≤ k_) ∧ k_ ≠ gb25)) (by (with_reducible repeat (first | apply Kd.V_alloc | apply Kd.V_drewN | apply Kd.V_drew)); exact Kd.V_mono O_0.out (fun _ hk => ⟨⟨hk.1, hk.2.2⟩, hk.2.1⟩)) hg hat); replace O_228004 := Am (Kd.V_afterv (ok := (fun k_ => ((P0_ k_ ∨ P1_4_ k_) ∨ w.heap.size ≤ k_) ∧ k_ ≠ gb25)) (by (with_reducible repeat (first | apply Kd.V_alloc | apply Kd.V_drewN | apply Kd.V_drew)); exact Kd.V_mono O_228004.out (fun _ hk => ⟨⟨hk.1, hk.2.2⟩, hk.2.1⟩)) hg hat); replace B25 := Am (blk_grown (g := gb25) (o := .cells #[.int .i64 a1_0, .int .i64 a1_1, .int .i64 a1_2, .string a1_3, .slice A1_4 l1_4.length c1_4] 43 (0, 0)) (Xq' B25) hg (Kd.N_away O_5.out (fun _ hk => hk.2))); replace HL231_4 := Am (Kd.V_afterv (ok := (fun k_ => ((P0_ k_ ∨ P1_4_ k_) ∨ w.heap.size ≤ k_) ∧ k_ ≠ gb25)) (by (with_reducible repeat (first | apply Kd.V_alloc | apply Kd.V_drewN | apply Kd.V_drew)); exact Kd.V_mono HL231_4.out (fun _ hk => ⟨⟨hk.1, hk.2.2⟩, hk.2.1⟩)) hg hat); replace HB := Am (hb); have HO29 := Am (ho); clear O_5; clear ho hb hg hat)); try go_wp2_with (first | ((with_reducible refine gate_builtin (b := .append) (xs := #[.tmp 31, .tmp 36]) rfl ?_); at_builtin; refine Kd.N_append k43 (w0 := w) w.heap.size rfl (.tmp 31) (.tmp 36) 27 43 (.agg #[(.int .i64 0), (.int .i64 0), (.int .i64 0), (.string ⟨#[]⟩), (.slice none 0 0)]) 64 rfl Try.underlying27 info43 rfl (by decide) (by omega) u5 x5_1 (⟨(rd_T43 l0 x7_1).f0, (rd_T43 l0 x7_1).f1, (rd_T43 l0 x7_1).f2, (rd_T43 l0 x7_1).f3, (rd_T43 l0 x7_1).f4⟩ : S43) [.int .i64 ((rd_T43 l0 x7_1).f0), .int .i64 ((rd_T43 l0 x7_1).f1), .int .i64 ((rd_T43 l0 x7_1).f2), .string ((rd_T43 l0 x7_1).f3), .slice A231_4 ((rd_T43 l0 x7_1).f4).length c231_4] (fun k_ => ((P0_ k_ ∨ P1_4_ k_) ∨ w.heap.size ≤ k_) ∧ k_ ≠ gb25) (fun k_ => ((fun k_ => ((P0_ k_ ∨ P1_4_ k_) ∨ w.heap.size ≤ k_) ∧ k_ ≠ gb25)) k_ ∧ some k_ ≠ (u5 : Value).ownBlock) rfl rfl ?aP (fun _ hk => hk) ?aF ?aO ?aB ?aS ?aL ?_; (case aP => exact (k43_mkF _ _ (⟨(rd_T43 l0 x7_1).f0, (rd_T43 l0 x7_1).f1, (rd_T43 l0 x7_1).f2, (rd_T43 l0 x7_1).f3, (rd_T43 l0 x7_1).f4⟩ : S43) (Kd.V_reads' (Kd.V_mono (ok' := (fun k_ => ((fun k_ => ((P0_ k_ ∨ P1_4_ k_) ∨ w.heap.size ≤ k_) ∧ k_ ≠ gb25)) k_ ∧ some k_ ≠ (u5 : Value).ownBlock)) (HL231_4.out) (fun k_ hk => ⟨⟨hk.1, hk.2.2⟩, hk.2.1⟩))).2.1 (Kd.V_F (by (with_reducible repeat (first | apply Kd.V_alloc | apply Kd.V_drewN | apply Kd.V_drew)); exact (Kd.V_mono (ok' := (fun k_ => ((fun k_ => ((P0_ k_ ∨ P1_4_ k_) ∨ w.heap.size ≤ k_) ∧ k_ ≠ gb25)) k_ ∧ some k_ ≠ (u5 : Value).ownBlock)) (HL231_4.out) (fun k_ hk => ⟨⟨hk.1, hk.2.2⟩, hk.2.1⟩)))))); (case aB => exact Xi); (case aF => exact (fun k_ hk => ⟨(.inr (Nat.le_trans (below_size Xi) hk)), Kd.freshB (g := gb25) (o := .cells #[.int .i64 a1_0, .int .i64 a1_1, .int .i64 a1_2, .string a1_3, .slice A1_4 l1_4.length c1_4] 43 (0, 0)) (Xq' B25) k_ hk⟩)); (case aO => exact (Xq O_5)); (case aS => exact (below_size Xi)); (case aL => have := LMc9.out; omega); intro v233 w10 ho hb hg hat; rw [← Ny27.out] at ho; replace O_0 := Am (Kd.V_afterv (ok := (fun k_ => ((P0_ k_ ∨ P1_4_ k_) ∨ w.heap.size ≤ k_) ∧ k_ ≠ gb25)) (by (with_reducible repeat (first | apply Kd.V_alloc | apply Kd.V_drewN | apply Kd.V_drew)); exact Kd.V_mono O_0.out (fun _ hk => ⟨⟨hk.1, hk.2.2⟩, hk.2.1⟩)) hg hat); replace O_228004 := Am (Kd.V_afterv (ok := (fun k_ => ((P0_ k_ ∨ P1_4_ k_) ∨ w.heap.size ≤ k_) ∧ k_ ≠ gb25)) (by (with_reducible repeat (first | apply Kd.V_alloc | apply Kd.V_drewN | apply Kd.V_drew)); exact Kd.V_mono O_228004.out (fun _ hk => ⟨⟨hk.1, hk.2.2⟩, hk.2.1⟩)) hg hat); replace B25 := Am (blk_grown (g := gb25) (o := .cells #[.int .i64 a1_0, .int .i64 a1_1, .int .i64 a1_2, .string a1_3, .slice A1_4 l1_4.length c1_4] 43 (0, 0)) (Xq' B25) hg (Kd.N_away O_5.out (fun _ hk => hk.2))); replace HL231_4 := Am (Kd.V_afterv (ok := (fun k_ => ((P0_ k_ ∨ P1_4_ k_) ∨ w.heap.size ≤ k_) ∧ k_ ≠ gb25)) (by (with_reducible repeat (first | apply Kd.V_alloc | apply Kd.V_drewN | apply Kd.V_drew)); exact Kd.V_mono HL231_4.out (fun _ hk => ⟨⟨hk.1, hk.2.2⟩, hk.2.1⟩)) hg hat); replace HB := Am (hb); have HO29 := Am (ho); clear O_5; clear ho hb hg hat)))
   go_roundg k1
   case measure => have := HK1.out; omega
   case rel => exact ⟨(y27), (true), (wrap64 (x7_1 + 1)), Xr, Xr, H', Xk1, ⟨by (with_reducible repeat (first | apply Kd.V_alloc | apply Kd.V_drewN | apply Kd.V_drew)); exact Kd.V_mono O_0.out (fun _ hk => ⟨hk.1.1, ⟨hk.2, hk.1.2⟩⟩)⟩, (Xp' HO29), ⟨by (with_reducible repeat (first | apply Kd.V_alloc | apply Kd.V_drewN | apply Kd.V_drew)); exact Kd.V_mono O_228004.out (fun _ hk => ⟨hk.1.1, ⟨hk.2, hk.1.2⟩⟩)⟩, (Xp B25), ⟨Xi⟩⟩
  replace c7 := Xbf c7
  subst c7
  try rw [if_neg Xft] at H
  obtain ⟨c11b0, H⟩ := Xid H
  obtain ⟨c12, H⟩ | ⟨c12, H⟩ := Xiu H
  ·have c12b0 : decide (a1_0 < ((rd_T43 l0 x7_1).f0)) = true := decide_eq_true c12
   clear c12
   obtain ⟨c13, H⟩ := Xif H
   have LMc13 := Am c13
   clear c13
   obtain ⟨y30, hy30⟩ : ∃ y_ : List (S43), y_ = (x5_1 ++ [(⟨a1_0, a1_1, a1_2, a1_3, l1_4⟩ : S43)]) := ⟨_, rfl⟩
   replace H : (if y30.length < 2199023255552 then (spec_l02Put.l0 k1 l0 (y30 ++ [(⟨(rd_T43 l0 x7_1).f0, (rd_T43 l0 x7_1).f1, (rd_T43 l0 x7_1).f2, (rd_T43 l0 x7_1).f3, (rd_T43 l0 x7_1).f4⟩ : S43)]) true (wrap64 (x7_1 + 1)) a1_0 a1_1 a1_2 a1_3 l1_4) else (none)) = some r := by first | (rw [hy30]; with_reducible exact H) | (have H2_ := (Option.bind_some _ _).symm.trans H; rw [hy30]; with_reducible exact H2_) | (have H2_ := (Option.bind_some _ _).symm.trans H; with_reducible exact H2_) | with_reducible exact H | (rw [hy30]; exact H) | exact H
   have Ny30 := Am hy30
   clear hy30
   obtain ⟨c14, H⟩ := Xif H
   have LMc14 := Am c14
   clear c14
   obtain ⟨y31, hy31⟩ : ∃ y_ : List (S43), y_ = (y30 ++ [(⟨(rd_T43 l0 x7_1).f0, (rd_T43 l0 x7_1).f1, (rd_T43 l0 x7_1).f2, (rd_T43 l0 x7_1).f3, (rd_T43 l0 x7_1).f4⟩ : S43)]) := ⟨_, rfl⟩
   replace H : (spec_l02Put.l0 k1 l0 y31 true (wrap64 (x7_1 + 1)) a1_0 a1_1 a1_2 a1_3 l1_4) = some r := by first | (rw [hy31]; with_reducible exact H) | (have H2_ := (Option.bind_some _ _).symm.trans H; rw [hy31]; with_reducible exact H2_) | (have H2_ := (Option.bind_some _ _).symm.trans H; with_reducible exact H2_) | with_reducible exact H | (rw [hy31]; exact H) | exact H
   have Ny31 := Am hy31
   clear hy31
   have H' := Am H
   clear H
   have p32 : 0 ≤ (x7_1 : Int) := Xo
   have q32 : x7_1 < (l0.length : Int) := Xo
   obtain ⟨ad32, A235_4, c235_4, e32, hx32_0, hx32_1, hx32_2, hx32_3, hx32_4, hl235_4, hi235_4⟩ := at_T43 (Kd.V_reads' O_0.out).2.2 x7_1 p32 q32
   cases e32
   obtain ⟨ce235, hce235, hMe235, hcc235⟩ := Kd.V_get O_0.out z43 x7_1 p32 (by first | exact q32 | exact Xo | (have e_ := (Kd.V_reads' O_0.out).1; omega))
   obtain ⟨ua235_4, uc235_4, rfl, ul235_4, ge235_4⟩ := k43_openF hMe235
   have hv235_4 := hcc235 4 _ rfl
   rw [add_field _ _ 4 (by omega)] at hv235_4
   replace hv235_4 := Option.some.inj (hv235_4.symm.trans hx32_4)
   injection hv235_4 with hva_ hvn_ hvc_
   rw [hva_] at ge235_4
   rw [hvc_] at ul235_4
   have HL235_4 := Am (show Kd.V (Kd.int .i64) 3 _ w.heap.size _ _ ((rd_T43 l0 x7_1).f4) from Kd.V_mk ul235_4 ge235_4)
   clear hva_ hvn_ hvc_ ge235_4 ul235_4
   clear hcc235 hce235
   have HR32_4 := Am hi235_4
   have HC32_4 := Am hl235_4
   clear hi235_4 hl235_4
   replace p32 := eq_true p32
   replace q32 := eq_true q32
   obtain ⟨Z15_0, Z15_1, Z15_2, Z15_3, Z15_4⟩ := Xc5 B25
   go_wp2_with (first | ((with_reducible refine gate_builtin (b := .append) (xs := #[.tmp 27, .tmp 29]) rfl ?_); at_builtin; refine Kd.N_append k43 (w0 := w) w.heap.size rfl (.tmp 27) (.tmp 29) 27 43 (.agg #[(.int .i64 0), (.int .i64 0), (.int .i64 0), (.string ⟨#[]⟩), (.slice none 0 0)]) 64 rfl Try.underlying27 info43 rfl (by decide) (by omega) u5 x5_1 (⟨a1_0, a1_1, a1_2, a1_3, l1_4⟩ : S43) [.int .i64 a1_0, .int .i64 a1_1, .int .i64 a1_2, .string a1_3, .slice A1_4 l1_4.length c1_4] (fun k_ => ((P0_ k_ ∨ P1_4_ k_) ∨ w.heap.size ≤ k_) ∧ k_ ≠ gb25) (fun k_ => ((fun k_ => ((P0_ k_ ∨ P1_4_ k_) ∨ w.heap.size ≤ k_) ∧ k_ ≠ gb25)) k_ ∧ some k_ ≠ (u5 : Value).ownBlock) rfl rfl ?aP (fun _ hk => hk) ?aF ?aO ?aB ?aS ?aL ?_; (case aP => exact (k43_mkF _ _ (⟨a1_0, a1_1, a1_2, a1_3, l1_4⟩ : S43) (Kd.V_reads' (Kd.V_mono (ok' := (fun k_ => ((fun k_ => ((P0_ k_ ∨ P1_4_ k_) ∨ w.heap.size ≤ k_) ∧ k_ ≠ gb25)) k_ ∧ some k_ ≠ (u5 : Value).ownBlock)) (O_228004.out) (fun k_ hk => ⟨⟨hk.1, hk.2.2⟩, hk.2.1⟩))).2.1 (Kd.V_F (by (with_reducible repeat (first | apply Kd.V_alloc | apply Kd.V_drewN | apply Kd.V_drew)); exact (Kd.V_mono (ok' := (fun k_ => ((fun k_ => ((P0_ k_ ∨ P1_4_ k_) ∨ w.heap.size ≤ k_) ∧ k_ ≠ gb25)) k_ ∧ some k_ ≠ (u5 : Value).ownBlock)) (O_228004.out) (fun k_ hk => ⟨⟨hk.1, hk.2.2⟩, hk.2.1⟩)))))); (case aB => exact Xi); (case aF => exact (fun k_ hk => ⟨(.inr (Nat.le_trans (below_size Xi) hk)), Kd.freshB (g := gb25) (o := .cells #[.int .i64 a1_0, .int .i64 a1_1, .int .i64 a1_2, .string a1_3, .slice A1_4 l1_4.length c1_4] 43 (0, 0)) (Xq' B25) k_ hk⟩)); (case aO => exact (Xq O_5)); (case aS => exact (below_size Xi)); (case aL => have := LMc13.out; omega); intro v237 w16 ho hb hg hat; rw [← Ny30.out] at ho; replace O_0 := Am (Kd.V_afterv (ok := (fun k_ => ((P0_ k_ ∨ P1_4_ k_) ∨ w.heap.size ≤ k_) ∧ k_ ≠ gb25)) (by (with_reducible repeat (first | apply Kd.V_alloc | apply Kd.V_drewN | apply Kd.V_drew)); exact Kd.V_mono O_0.out (fun _ hk => ⟨⟨hk.1, hk.2.2⟩, hk.2.1⟩)) hg hat); replace O_228004 := Am (Kd.V_afterv (ok := (fun k_ => ((P0_ k_ ∨ P1_4_ k_) ∨ w.heap.size ≤ k_) ∧ k_ ≠ gb25)) (by (with_reducible repeat (first | apply Kd.V_alloc | apply Kd.V_drewN | apply Kd.V_drew)); exact Kd.V_mono O_228004.out (fun _ hk => ⟨⟨hk.1, hk.2.2⟩, hk.2.1⟩)) hg hat); replace B25 := Am (blk_grown (g := gb25) (o := .cells #[.int .i64 a1_0, .int .i64 a1_1, .int .i64 a1_2, .string a1_3, .slice A1_4 l1_4.length c1_4] 43 (0, 0)) (Xq' B25) hg (Kd.N_away O_5.out (fun _ hk => hk.2))); replace HL235_4 := Am (Kd.V_afterv (ok := (fun k_ => ((P0_ k_ ∨ P1_4_ k_) ∨ w.heap.size ≤ k_) ∧ k_ ≠ gb25)) (by (with_reducible repeat (first | apply Kd.V_alloc | apply Kd.V_drewN | apply Kd.V_drew)); exact Kd.V_mono HL235_4.out (fun _ hk => ⟨⟨hk.1, hk.2.2⟩, hk.2.1⟩)) hg hat); replace HB := Am (hb); have HO33 := Am (ho); clear O_5; clear ho hb hg hat; have p34 : 0 ≤ (x7_1 : Int) := Xo; have q34 : x7_1 < (l0.length : Int) := Xo; obtain ⟨ad34, A239_4, c239_4, e34, hx34_0, hx34_1, hx34_2, hx34_3, hx34_4, hl239_4, hi239_4⟩ := at_T43 (Kd.V_reads' O_0.out).2.2 x7_1 p34 q34; obtain rfl : ad32 = ad34 := (by injection e34); obtain ⟨ce239, hce239, hMe239, hcc239⟩ := Kd.V_get O_0.out z43 x7_1 p34 (by first | exact q34 | exact Xo | (have e_ := (Kd.V_reads' O_0.out).1; omega)); obtain ⟨ua239_4, uc239_4, rfl, ul239_4, ge239_4⟩ := k43_openF hMe239; have hv239_4 := hcc239 4 _ rfl; rw [add_field _ _ 4 (by omega)] at hv239_4; replace hv239_4 := Option.some.inj (hv239_4.symm.trans hx34_4); injection hv239_4 with hva_ hvn_ hvc_; rw [hva_] at ge239_4; rw [hvc_] at ul239_4; have HL239_4 := Am (show Kd.V (Kd.int .i64) 3 _ w.heap.size _ _ ((rd_T43 l0 x7_1).f4) from Kd.V_mk ul239_4 ge239_4); clear hva_ hvn_ hvc_ ge239_4 ul239_4; clear hcc239 hce239; have HR34_4 := Am hi239_4; have HC34_4 := Am hl239_4; clear hi239_4 hl239_4; replace p34 := eq_true p34; replace q34 := eq_true q34) | ((with_reducible refine gate_builtin (b := .append) (xs := #[.tmp 31, .tmp 36]) rfl ?_); at_builtin; refine Kd.N_append k43 (w0 := w) w.heap.size rfl (.tmp 31) (.tmp 36) 27 43 (.agg #[(.int .i64 0), (.int .i64 0), (.int .i64 0), (.string ⟨#[]⟩), (.slice none 0 0)]) 64 rfl Try.underlying27 info43 rfl (by decide) (by omega) v237 y30 (⟨(rd_T43 l0 x7_1).f0, (rd_T43 l0 x7_1).f1, (rd_T43 l0 x7_1).f2, (rd_T43 l0 x7_1).f3, (rd_T43 l0 x7_1).f4⟩ : S43) [.int .i64 ((rd_T43 l0 x7_1).f0), .int .i64 ((rd_T43 l0 x7_1).f1), .int .i64 ((rd_T43 l0 x7_1).f2), .string ((rd_T43 l0 x7_1).f3), .slice A239_4 ((rd_T43 l0 x7_1).f4).length c239_4] (fun k_ => ((P0_ k_ ∨ P1_4_ k_) ∨ w.heap.size ≤ k_) ∧ k_ ≠ gb25) (fun k_ => ((fun k_ => ((P0_ k_ ∨ P1_4_ k_) ∨ w.heap.size ≤ k_) ∧ k_ ≠ gb25)) k_ ∧ some k_ ≠ (v237 : Value).ownBlock) rfl rfl ?aP (fun _ hk => hk) ?aF ?aO ?aB ?aS ?aL ?_; (case aP => exact (k43_mkF _ _ (⟨(rd_T43 l0 x7_1).f0, (rd_T43 l0 x7_1).f1, (rd_T43 l0 x7_1).f2, (rd_T43 l0 x7_1).f3, (rd_T43 l0 x7_1).f4⟩ : S43) (Kd.V_reads' (Kd.V_mono (ok' := (fun k_ => ((fun k_ => ((P0_ k_ ∨ P1_4_ k_) ∨ w.heap.size ≤ k_) ∧ k_ ≠ gb25)) k_ ∧ some k_ ≠ (v237 : Value).ownBlock)) (HL239_4.out) (fun k_ hk => ⟨⟨hk.1.1, hk.1.2⟩, hk.2⟩))).2.1 (Kd.V_F (by (with_reducible repeat (first | apply Kd.V_alloc | apply Kd.V_drewN | apply Kd.V_drew)); exact (Kd.V_mono (ok' := (fun k_ => ((fun k_ => ((P0_ k_ ∨ P1_4_ k_) ∨ w.heap.size ≤ k_) ∧ k_ ≠ gb25)) k_ ∧ some k_ ≠ (v237 : Value).ownBlock)) (HL239_4.out) (fun k_ hk => ⟨⟨hk.1.1, hk.1.2⟩, hk.2⟩)))))); (case aB => exact Xi); (case aF => exact (fun k_ hk => ⟨(.inr (Nat.le_trans (below_size Xi) hk)), Kd.freshB (g := gb25) (o := .cells #[.int .i64 a1_0, .int .i64 a1_1, .int .i64 a1_2, .string a1_3, .slice A1_4 l1_4.length c1_4] 43 (0, 0)) (Xq' B25) k_ hk⟩)); (case aO => exact (Xq HO33)); (case aS => exact (below_size Xi)); (case aL => have := LMc14.out; omega); intro v241 w17 ho hb hg hat; rw [← Ny31.out] at ho; replace O_0 := Am (Kd.V_afterv (ok := (fun k_ => ((P0_ k_ ∨ P1_4_ k_) ∨ w.heap.size ≤ k_) ∧ k_ ≠ gb25)) (by (with_reducible repeat (first | apply Kd.V_alloc | apply Kd.V_drewN | apply Kd.V_drew)); exact O_0.out) hg hat); replace O_228004 := Am (Kd.V_afterv (ok := (fun k_ => ((P0_ k_ ∨ P1_4_ k_) ∨ w.heap.size ≤ k_) ∧ k_ ≠ gb25)) (by (with_reducible repeat (first | apply Kd.V_alloc | apply Kd.V_drewN | apply Kd.V_drew)); exact O_228004.out) hg hat); replace B25 := Am (blk_grown (g := gb25) (o := .cells #[.int .i64 a1_0, .int .i64 a1_1, .int .i64 a1_2, .string a1_3, .slice A1_4 l1_4.length c1_4] 43 (0, 0)) (Xq' B25) hg (Kd.N_away HO33.out (fun _ hk => hk.2))); replace HL235_4 := Am (Kd.V_afterv (ok := (fun k_ => ((P0_ k_ ∨ P1_4_ k_) ∨ w.heap.size ≤ k_) ∧ k_ ≠ gb25)) (by (with_reducible repeat (first | apply Kd.V_alloc | apply Kd.V_drewN | apply Kd.V_drew)); exact HL235_4.out) hg hat); replace HL239_4 := Am (Kd.V_afterv (ok := (fun k_ => ((P0_ k_ ∨ P1_4_ k_) ∨ w.heap.size ≤ k_) ∧ k_ ≠ gb25)) (by (with_reducible repeat (first | apply Kd.V_alloc | apply Kd.V_drewN | apply Kd.V_drew)); exact HL239_4.out) hg hat); replace HB := Am (hb); have HO35 := Am (ho); clear HO33; clear ho hb hg hat))
   repeat (go_quiet (first | ((with_reducible refine gate_builtin (b := .append) (xs := #[.tmp 27, .tmp 29]) rfl ?_); at_builtin; refine Kd.N_append k43 (w0 := w) w.heap.size rfl (.tmp 27) (.tmp 29) 27 43 (.agg #[(.int .i64 0), (.int .i64 0), (.int .i64 0), (.string ⟨#[]⟩), (.slice none 0 0)]) 64 rfl Try.underlying27 info43 rfl (by decide) (by omega) u5 x5_1 (⟨a1_0, a1_1, a1_2, a1_3, l1_4⟩ : S43) [.int .i64 a1_0, .int .i64 a1_1, .int .i64 a1_2, .string a1_3, .slice A1_4 l1_4.length c1_4] (fun k_ => ((P0_ k_ ∨ P1_4_ k_) ∨ w.heap.size ≤ k_) ∧ k_ ≠ gb25) (fun k_ => ((fun k_ => ((P0_ k_ ∨ P1_4_ k_) ∨ w.heap.size ≤ k_) ∧ k_ ≠ gb25)) k_ ∧ some k_ ≠ (u5 : Value).ownBlock) rfl rfl ?aP (fun _ hk => hk) ?aF ?aO ?aB ?aS ?aL ?_; (case aP => exact (k43_mkF _ _ (⟨a1_0, a1_1, a1_2, a1_3, l1_4⟩ : S43) (Kd.V_reads' (Kd.V_mono (ok' := (fun k_ => ((fun k_ => ((P0_ k_ ∨ P1_4_ k_) ∨ w.heap.size ≤ k_) ∧ k_ ≠ gb25)) k_ ∧ some k_ ≠ (u5 : Value).ownBlock)) (O_228004.out) (fun k_ hk => ⟨⟨hk.1, hk.2.2⟩, hk.2.1⟩))).2.1 (Kd.V_F (by (with_reducible repeat (first | apply Kd.V_alloc | apply Kd.V_drewN | apply Kd.V_drew)); exact (Kd.V_mono (ok' := (fun k_ => ((fun k_ => ((P0_ k_ ∨ P1_4_ k_) ∨ w.heap.size ≤ k_) ∧ k_ ≠ gb25)) k_ ∧ some k_ ≠ (u5 : Value).ownBlock)) (O_228004.out) (fun k_ hk => ⟨⟨hk.1, hk.2.2⟩, hk.2.1⟩)))))); (case aB => exact Xi); (case aF => exact (fun k_ hk => ⟨(.inr (Nat.le_trans (below_size Xi) hk)), Kd.freshB (g := gb25) (o := .cells #[.int .i64 a1_0, .int .i64 a1_1, .int .i64 a1_2, .string a1_3, .slice A1_4 l1_4.length c1_4] 43 (0, 0)) (Xq' B25) k_ hk⟩)); (case aO => exact (Xq O_5)); (case aS => exact (below_size Xi)); (case aL => have := LMc13.out; omega); intro v237 w16 ho hb hg hat; rw [← Ny30.out] at ho; replace O_0 := Am (Kd.V_afterv (ok := (fun k_ => ((P0_ k_ ∨ P1_4_ k_) ∨ w.heap.size ≤ k_) ∧ k_ ≠ gb25)) (by (with_reducible repeat (first | apply Kd.V_alloc | apply Kd.V_drewN | apply Kd.V_drew)); exact Kd.V_mono O_0.out (fun _ hk => ⟨⟨hk.1, hk.2.2⟩, hk.2.1⟩)) hg hat); replace O_228004 := Am (Kd.V_afterv (ok := (fun k_ => ((P0_ k_ ∨ P1_4_ k_) ∨ w.heap.size ≤ k_) ∧ k_ ≠ gb25)) (by (with_reducible repeat (first | apply Kd.V_alloc | apply Kd.V_drewN | apply Kd.V_drew)); exact Kd.V_mono O_228004.out (fun _ hk => ⟨⟨hk.1, hk.2.2⟩, hk.2.1⟩)) hg hat); replace B25 := Am (blk_grown (g := gb25) (o := .cells #[.int .i64 a1_0, .int .i64 a1_1, .int .i64 a1_2, .string a1_3, .slice A1_4 l1_4.length c1_4] 43 (0, 0)) (Xq' B25) hg (Kd.N_away O_5.out (fun _ hk => hk.2))); replace HL235_4 := Am (Kd.V_afterv (ok := (fun k_ => ((P0_ k_ ∨ P1_4_ k_) ∨ w.heap.size ≤ k_) ∧ k_ ≠ gb25)) (by (with_reducible repeat (first | apply Kd.V_alloc | apply Kd.V_drewN | apply Kd.V_drew)); exact Kd.V_mono HL235_4.out (fun _ hk => ⟨⟨hk.1, hk.2.2⟩, hk.2.1⟩)) hg hat); replace HB := Am (hb); have HO33 := Am (ho); clear O_5; clear ho hb hg hat; have p34 : 0 ≤ (x7_1 : Int) := Xo; have q34 : x7_1 < (l0.length : Int) := Xo; obtain ⟨ad34, A239_4, c239_4, e34, hx34_0, hx34_1, hx34_2, hx34_3, hx34_4, hl239_4, hi239_4⟩ := at_T43 (Kd.V_reads' O_0.out).2.2 x7_1 p34 q34; obtain rfl : ad32 = ad34 := (by injection e34); obtain ⟨ce239, hce239, hMe239, hcc239⟩ := Kd.V_get O_0.out z43 x7_1 p34 (by first | exact q34 | exact Xo | (have e_ := (Kd.V_reads' O_0.out).1; omega)); obtain ⟨ua239_4, uc239_4, rfl, ul239_4, ge239_4⟩ := k43_openF hMe239; have hv239_4 := hcc239 4 _ rfl; rw [add_field _ _ 4 (by omega)] at hv239_4; replace hv239_4 := Option.some.inj (hv239_4.symm.trans hx34_4); injection hv239_4 with hva_ hvn_ hvc_; rw [hva_] at ge239_4; rw [hvc_] at ul239_4; have HL239_4 := Am (show Kd.V (Kd.int .i64) 3 _ w.heap.size _ _ ((rd_T43 l0 x7_1).f4) from Kd.V_mk ul239_4 ge239_4); clear hva_ hvn_ hvc_ ge239_4 ul239_4; clear hcc239 hce239; have HR34_4 := Am hi239_4; have HC34_4 := Am hl239_4; clear hi239_4 hl239_4; replace p34 := eq_true p34; replace q34 := eq_true q34) | ((with_reducible refine gate_builtin (b := .append) (xs := #[.tmp 31, .tmp 36]) rfl ?_); at_builtin; refine Kd.N_append k43 (w0 := w) w.heap.size rfl (.tmp 31) (.tmp 36) 27 43 (.agg #[(.int .i64 0), (.int .i64 0), (.int .i64 0), (.string ⟨#[]⟩), (.slice none 0 0)]) 64 rfl Try.underlying27 info43 rfl (by decide) (by omega) v237 y30 (⟨(rd_T43 l0 x7_1).f0, (rd_T43 l0 x7_1).f1, (rd_T43 l0 x7_1).f2, (rd_T43 l0 x7_1).f3, (rd_T43 l0 x7_1).f4⟩ : S43) [.int .i64 ((rd_T43 l0 x7_1).f0), .int .i64 ((rd_T43 l0 x7_1).f1), .int .i64 ((rd_T43 l0 x7_1).f2), .string ((rd_T43 l0 x7_1).f3), .slice A239_4 ((rd_T43 l0 x7_1).f4).length c239_4] (fun k_ => ((P0_ k_ ∨ P1_4_ k_) ∨ w.heap.size ≤ k_) ∧ k_ ≠ gb25) (fun k_ => ((fun k_ => ((P0_ k_ ∨ P1_4_ k_) ∨ w.heap.size ≤ k_) ∧ k_ ≠ gb25)) k_ ∧ some k_ ≠ (v237 : Value).ownBlock) rfl rfl ?aP (fun _ hk => hk) ?aF ?aO ?aB ?aS ?aL ?_; (case aP => exact (k43_mkF _ _ (⟨(rd_T43 l0 x7_1).f0, (rd_T43 l0 x7_1).f1, (rd_T43 l0 x7_1).f2, (rd_T43 l0 x7_1).f3, (rd_T43 l0 x7_1).f4⟩ : S43) (Kd.V_reads' (Kd.V_mono (ok' := (fun k_ => ((fun k_ => ((P0_ k_ ∨ P1_4_ k_) ∨ w.heap.size ≤ k_) ∧ k_ ≠ gb25)) k_ ∧ some k_ ≠ (v237 : Value).ownBlock)) (HL239_4.out) (fun k_ hk => ⟨⟨hk.1.1, hk.1.2⟩, hk.2⟩))).2.1 (Kd.V_F (by (with_reducible repeat (first | apply Kd.V_alloc | apply Kd.V_drewN | apply Kd.V_drew)); exact (Kd.V_mono (ok' := (fun k_ => ((fun k_ => ((P0_ k_ ∨ P1_4_ k_) ∨ w.heap.size ≤ k_) ∧ k_ ≠ gb25)) k_ ∧ some k_ ≠ (v237 : Value).ownBlock)) (HL239_4.out) (fun k_ hk => ⟨⟨hk.1.1, hk.1.2⟩, hk.2⟩)))))); (case aB => exact Xi); (case aF => exact (fun k_ hk => ⟨(.inr (Nat.le_trans (below_size Xi) hk)), Kd.freshB (g := gb25) (o := .cells #[.int .i64 a1_0, .int .i64 a1_1, .int .i64 a1_2, .string a1_3, .slice A1_4 l1_4.length c1_4] 43 (0, 0)) (Xq' B25) k_ hk⟩)); (case aO => exact (Xq HO33)); (case aS => exact (below_size Xi)); (case aL => have := LMc14.out; omega); intro v241 w17 ho hb hg hat; rw [← Ny31.out] at ho; replace O_0 := Am (Kd.V_afterv (ok := (fun k_ => ((P0_ k_ ∨ P1_4_ k_) ∨ w.heap.size ≤ k_) ∧ k_ ≠ gb25)) (by (with_reducible repeat (first | apply Kd.V_alloc | apply Kd.V_drewN | apply Kd.V_drew)); exact O_0.out) hg hat); replace O_228004 := Am (Kd.V_afterv (ok := (fun k_ => ((P0_ k_ ∨ P1_4_ k_) ∨ w.heap.size ≤ k_) ∧ k_ ≠ gb25)) (by (with_reducible repeat (first | apply Kd.V_alloc | apply Kd.V_drewN | apply Kd.V_drew)); exact O_228004.out) hg hat); replace B25 := Am (blk_grown (g := gb25) (o := .cells #[.int .i64 a1_0, .int .i64 a1_1, .int .i64 a1_2, .string a1_3, .slice A1_4 l1_4.length c1_4] 43 (0, 0)) (Xq' B25) hg (Kd.N_away HO33.out (fun _ hk => hk.2))); replace HL235_4 := Am (Kd.V_afterv (ok := (fun k_ => ((P0_ k_ ∨ P1_4_ k_) ∨ w.heap.size ≤ k_) ∧ k_ ≠ gb25)) (by (with_reducible repeat (first | apply Kd.V_alloc | apply Kd.V_drewN | apply Kd.V_drew)); exact HL235_4.out) hg hat); replace HL239_4 := Am (Kd.V_afterv (ok := (fun k_ => ((P0_ k_ ∨ P1_4_ k_) ∨ w.heap.size ≤ k_) ∧ k_ ≠ gb25)) (by (with_reducible repeat (first | apply Kd.V_alloc | apply Kd.V_drewN | apply Kd.V_drew)); exact HL239_4.out) hg hat); replace HB := Am (hb); have HO35 := Am (ho); clear HO33; clear ho hb hg hat)); try go_wp2_with (first | ((with_reducible refine gate_builtin (b := .append) (xs := #[.tmp 27, .tmp 29]) rfl ?_); at_builtin; refine Kd.N_append k43 (w0 := w) w.heap.size rfl (.tmp 27) (.tmp 29) 27 43 (.agg #[(.int .i64 0), (.int .i64 0), (.int .i64 0), (.string ⟨#[]⟩), (.slice none 0 0)]) 64 rfl Try.underlying27 info43 rfl (by decide) (by omega) u5 x5_1 (⟨a1_0, a1_1, a1_2, a1_3, l1_4⟩ : S43) [.int .i64 a1_0, .int .i64 a1_1, .int .i64 a1_2, .string a1_3, .slice A1_4 l1_4.length c1_4] (fun k_ => ((P0_ k_ ∨ P1_4_ k_) ∨ w.heap.size ≤ k_) ∧ k_ ≠ gb25) (fun k_ => ((fun k_ => ((P0_ k_ ∨ P1_4_ k_) ∨ w.heap.size ≤ k_) ∧ k_ ≠ gb25)) k_ ∧ some k_ ≠ (u5 : Value).ownBlock) rfl rfl ?aP (fun _ hk => hk) ?aF ?aO ?aB ?aS ?aL ?_; (case aP => exact (k43_mkF _ _ (⟨a1_0, a1_1, a1_2, a1_3, l1_4⟩ : S43) (Kd.V_reads' (Kd.V_mono (ok' := (fun k_ => ((fun k_ => ((P0_ k_ ∨ P1_4_ k_) ∨ w.heap.size ≤ k_) ∧ k_ ≠ gb25)) k_ ∧ some k_ ≠ (u5 : Value).ownBlock)) (O_228004.out) (fun k_ hk => ⟨⟨hk.1, hk.2.2⟩, hk.2.1⟩))).2.1 (Kd.V_F (by (with_reducible repeat (first | apply Kd.V_alloc | apply Kd.V_drewN | apply Kd.V_drew)); exact (Kd.V_mono (ok' := (fun k_ => ((fun k_ => ((P0_ k_ ∨ P1_4_ k_) ∨ w.heap.size ≤ k_) ∧ k_ ≠ gb25)) k_ ∧ some k_ ≠ (u5 : Value).ownBlock)) (O_228004.out) (fun k_ hk => ⟨⟨hk.1, hk.2.2⟩, hk.2.1⟩)))))); (case aB => exact Xi); (case aF => exact (fun k_ hk => ⟨(.inr (Nat.le_trans (below_size Xi) hk)), Kd.freshB (g := gb25) (o := .cells #[.int .i64 a1_0, .int .i64 a1_1, .int .i64 a1_2, .string a1_3, .slice A1_4 l1_4.length c1_4] 43 (0, 0)) (Xq' B25) k_ hk⟩)); (case aO => exact (Xq O_5)); (case aS => exact (below_size Xi)); (case aL => have := LMc13.out; omega); intro v237 w16 ho hb hg hat; rw [← Ny30.out] at ho; replace O_0 := Am (Kd.V_afterv (ok := (fun k_ => ((P0_ k_ ∨ P1_4_ k_) ∨ w.heap.size ≤ k_) ∧ k_ ≠ gb25)) (by (with_reducible repeat (first | apply Kd.V_alloc | apply Kd.V_drewN | apply Kd.V_drew)); exact Kd.V_mono O_0.out (fun _ hk => ⟨⟨hk.1, hk.2.2⟩, hk.2.1⟩)) hg hat); replace O_228004 := Am (Kd.V_afterv (ok := (fun k_ => ((P0_ k_ ∨ P1_4_ k_) ∨ w.heap.size ≤ k_) ∧ k_ ≠ gb25)) (by (with_reducible repeat (first | apply Kd.V_alloc | apply Kd.V_drewN | apply Kd.V_drew)); exact Kd.V_mono O_228004.out (fun _ hk => ⟨⟨hk.1, hk.2.2⟩, hk.2.1⟩)) hg hat); replace B25 := Am (blk_grown (g := gb25) (o := .cells #[.int .i64 a1_0, .int .i64 a1_1, .int .i64 a1_2, .string a1_3, .slice A1_4 l1_4.length c1_4] 43 (0, 0)) (Xq' B25) hg (Kd.N_away O_5.out (fun _ hk => hk.2))); replace HL235_4 := Am (Kd.V_afterv (ok := (fun k_ => ((P0_ k_ ∨ P1_4_ k_) ∨ w.heap.size ≤ k_) ∧ k_ ≠ gb25)) (by (with_reducible repeat (first | apply Kd.V_alloc | apply Kd.V_drewN | apply Kd.V_drew)); exact Kd.V_mono HL235_4.out (fun _ hk => ⟨⟨hk.1, hk.2.2⟩, hk.2.1⟩)) hg hat); replace HB := Am (hb); have HO33 := Am (ho); clear O_5; clear ho hb hg hat; have p34 : 0 ≤ (x7_1 : Int) := Xo; have q34 : x7_1 < (l0.length : Int) := Xo; obtain ⟨ad34, A239_4, c239_4, e34, hx34_0, hx34_1, hx34_2, hx34_3, hx34_4, hl239_4, hi239_4⟩ := at_T43 (Kd.V_reads' O_0.out).2.2 x7_1 p34 q34; obtain rfl : ad32 = ad34 := (by injection e34); obtain ⟨ce239, hce239, hMe239, hcc239⟩ := Kd.V_get O_0.out z43 x7_1 p34 (by first | exact q34 | exact Xo | (have e_ := (Kd.V_reads' O_0.out).1; omega)); obtain ⟨ua239_4, uc239_4, rfl, ul239_4, ge239_4⟩ := k43_openF hMe239; have hv239_4 := hcc239 4 _ rfl; rw [add_field _ _ 4 (by omega)] at hv239_4; replace hv239_4 := Option.some.inj (hv239_4.symm.trans hx34_4); injection hv239_4 with hva_ hvn_ hvc_; rw [hva_] at ge239_4; rw [hvc_] at ul239_4; have HL239_4 := Am (show Kd.V (Kd.int .i64) 3 _ w.heap.size _ _ ((rd_T43 l0 x7_1).f4) from Kd.V_mk ul239_4 ge239_4); clear hva_ hvn_ hvc_ ge239_4 ul239_4; clear hcc239 hce239; have HR34_4 := Am hi239_4; have HC34_4 := Am hl239_4; clear hi239_4 hl239_4; replace p34 := eq_true p34; replace q34 := eq_true q34) | ((with_reducible refine gate_builtin (b := .append) (xs := #[.tmp 31, .tmp 36]) rfl ?_); at_builtin; refine Kd.N_append k43 (w0 := w) w.heap.size rfl (.tmp 31) (.tmp 36) 27 43 (.agg #[(.int .i64 0), (.int .i64 0), (.int .i64 0), (.string ⟨#[]⟩), (.slice none 0 0)]) 64 rfl Try.underlying27 info43 rfl (by decide) (by omega) v237 y30 (⟨(rd_T43 l0 x7_1).f0, (rd_T43 l0 x7_1).f1, (rd_T43 l0 x7_1).f2, (rd_T43 l0 x7_1).f3, (rd_T43 l0 x7_1).f4⟩ : S43) [.int .i64 ((rd_T43 l0 x7_1).f0), .int .i64 ((rd_T43 l0 x7_1).f1), .int .i64 ((rd_T43 l0 x7_1).f2), .string ((rd_T43 l0 x7_1).f3), .slice A239_4 ((rd_T43 l0 x7_1).f4).length c239_4] (fun k_ => ((P0_ k_ ∨ P1_4_ k_) ∨ w.heap.size ≤ k_) ∧ k_ ≠ gb25) (fun k_ => ((fun k_ => ((P0_ k_ ∨ P1_4_ k_) ∨ w.heap.size ≤ k_) ∧ k_ ≠ gb25)) k_ ∧ some k_ ≠ (v237 : Value).ownBlock) rfl rfl ?aP (fun _ hk => hk) ?aF ?aO ?aB ?aS ?aL ?_; (case aP => exact (k43_mkF _ _ (⟨(rd_T43 l0 x7_1).f0, (rd_T43 l0 x7_1).f1, (rd_T43 l0 x7_1).f2, (rd_T43 l0 x7_1).f3, (rd_T43 l0 x7_1).f4⟩ : S43) (Kd.V_reads' (Kd.V_mono (ok' := (fun k_ => ((fun k_ => ((P0_ k_ ∨ P1_4_ k_) ∨ w.heap.size ≤ k_) ∧ k_ ≠ gb25)) k_ ∧ some k_ ≠ (v237 : Value).ownBlock)) (HL239_4.out) (fun k_ hk => ⟨⟨hk.1.1, hk.1.2⟩, hk.2⟩))).2.1 (Kd.V_F (by (with_reducible repeat (first | apply Kd.V_alloc | apply Kd.V_drewN | apply Kd.V_drew)); exact (Kd.V_mono (ok' := (fun k_ => ((fun k_ => ((P0_ k_ ∨ P1_4_ k_) ∨ w.heap.size ≤ k_) ∧ k_ ≠ gb25)) k_ ∧ some k_ ≠ (v237 : Value).ownBlock)) (HL239_4.out) (fun k_ hk => ⟨⟨hk.1.1, hk.1.2⟩, hk.2⟩)))))); (case aB => exact Xi); (case aF => exact (fun k_ hk => ⟨(.inr (Nat.le_trans (below_size Xi) hk)), Kd.freshB (g := gb25) (o := .cells #[.int .i64 a1_0, .int .i64 a1_1, .int .i64 a1_2, .string a1_3, .slice A1_4 l1_4.length c1_4] 43 (0, 0)) (Xq' B25) k_ hk⟩)); (case aO => exact (Xq HO33)); (case aS => exact (below_size Xi)); (case aL => have := LMc14.out; omega); intro v241 w17 ho hb hg hat; rw [← Ny31.out] at ho; replace O_0 := Am (Kd.V_afterv (ok := (fun k_ => ((P0_ k_ ∨ P1_4_ k_) ∨ w.heap.size ≤ k_) ∧ k_ ≠ gb25)) (by (with_reducible repeat (first | apply Kd.V_alloc | apply Kd.V_drewN | apply Kd.V_drew)); exact O_0.out) hg hat); replace O_228004 := Am (Kd.V_afterv (ok := (fun k_ => ((P0_ k_ ∨ P1_4_ k_) ∨ w.heap.size ≤ k_) ∧ k_ ≠ gb25)) (by (with_reducible repeat (first | apply Kd.V_alloc | apply Kd.V_drewN | apply Kd.V_drew)); exact O_228004.out) hg hat); replace B25 := Am (blk_grown (g := gb25) (o := .cells #[.int .i64 a1_0, .int .i64 a1_1, .int .i64 a1_2, .string a1_3, .slice A1_4 l1_4.length c1_4] 43 (0, 0)) (Xq' B25) hg (Kd.N_away HO33.out (fun _ hk => hk.2))); replace HL235_4 := Am (Kd.V_afterv (ok := (fun k_ => ((P0_ k_ ∨ P1_4_ k_) ∨ w.heap.size ≤ k_) ∧ k_ ≠ gb25)) (by (with_reducible repeat (first | apply Kd.V_alloc | apply Kd.V_drewN | apply Kd.V_drew)); exact HL235_4.out) hg hat); replace HL239_4 := Am (Kd.V_afterv (ok := (fun k_ => ((P0_ k_ ∨ P1_4_ k_) ∨ w.heap.size ≤ k_) ∧ k_ ≠ gb25)) (by (with_reducible repeat (first | apply Kd.V_alloc | apply Kd.V_drewN | apply Kd.V_drew)); exact HL239_4.out) hg hat); replace HB := Am (hb); have HO35 := Am (ho); clear HO33; clear ho hb hg hat)))
   go_roundg k1
   case measure => have := HK1.out; omega
   case rel => exact ⟨(y31), (true), (wrap64 (x7_1 + 1)), Xr, Xr, H', Xk1, ⟨by (with_reducible repeat (first | apply Kd.V_alloc | apply Kd.V_drewN | apply Kd.V_drew)); exact Kd.V_mono O_0.out (fun _ hk => ⟨hk.1.1, ⟨hk.2, hk.1.2⟩⟩)⟩, (Xp' HO35), ⟨by (with_reducible repeat (first | apply Kd.V_alloc | apply Kd.V_drewN | apply Kd.V_drew)); exact Kd.V_mono O_228004.out (fun _ hk => ⟨hk.1.1, ⟨hk.2, hk.1.2⟩⟩)⟩, (Xp B25), ⟨Xi⟩⟩
  have c12b0 : decide (a1_0 < ((rd_T43 l0 x7_1).f0)) = false := decide_eq_false c12
  clear c12
  obtain ⟨c18, H⟩ := Xif H
  have LMc18 := Am c18
  clear c18
  obtain ⟨y36, hy36⟩ : ∃ y_ : List (S43), y_ = (x5_1 ++ [(⟨(rd_T43 l0 x7_1).f0, (rd_T43 l0 x7_1).f1, (rd_T43 l0 x7_1).f2, (rd_T43 l0 x7_1).f3, (rd_T43 l0 x7_1).f4⟩ : S43)]) := ⟨_, rfl⟩
  replace H : (spec_l02Put.l0 k1 l0 y36 false (wrap64 (x7_1 + 1)) a1_0 a1_1 a1_2 a1_3 l1_4) = some r := by first | (rw [hy36]; with_reducible exact H) | (have H2_ := (Option.bind_some _ _).symm.trans H; rw [hy36]; with_reducible exact H2_) | (have H2_ := (Option.bind_some _ _).symm.trans H; with_reducible exact H2_) | with_reducible exact H | (rw [hy36]; exact H) | exact H
  have Ny36 := Am hy36
  clear hy36
  have H' := Am H
  clear H
  have p32 : 0 ≤ (x7_1 : Int) := Xo
  have q32 : x7_1 < (l0.length : Int) := Xo
  obtain ⟨ad32, A235_4, c235_4, e32, hx32_0, hx32_1, hx32_2, hx32_3, hx32_4, hl235_4, hi235_4⟩ := at_T43 (Kd.V_reads' O_0.out).2.2 x7_1 p32 q32
  cases e32
  obtain ⟨ce235, hce235, hMe235, hcc235⟩ := Kd.V_get O_0.out z43 x7_1 p32 (by first | exact q32 | exact Xo | (have e_ := (Kd.V_reads' O_0.out).1; omega))
  obtain ⟨ua235_4, uc235_4, rfl, ul235_4, ge235_4⟩ := k43_openF hMe235
  have hv235_4 := hcc235 4 _ rfl
  rw [add_field _ _ 4 (by omega)] at hv235_4
  replace hv235_4 := Option.some.inj (hv235_4.symm.trans hx32_4)
  injection hv235_4 with hva_ hvn_ hvc_
  rw [hva_] at ge235_4
  rw [hvc_] at ul235_4
  have HL235_4 := Am (show Kd.V (Kd.int .i64) 3 _ w.heap.size _ _ ((rd_T43 l0 x7_1).f4) from Kd.V_mk ul235_4 ge235_4)
  clear hva_ hvn_ hvc_ ge235_4 ul235_4
  clear hcc235 hce235
  have HR32_4 := Am hi235_4
  have HC32_4 := Am hl235_4
  clear hi235_4 hl235_4
  replace p32 := eq_true p32
  replace q32 := eq_true q32
  obtain ⟨Z19_0, Z19_1, Z19_2, Z19_3, Z19_4⟩ := Xc5 B25
  have p37 : 0 ≤ (x7_1 : Int) := Xo
  have q37 : x7_1 < (l0.length : Int) := Xo
  obtain ⟨ad37, A243_4, c243_4, e37, hx37_0, hx37_1, hx37_2, hx37_3, hx37_4, hl243_4, hi243_4⟩ := at_T43 (Kd.V_reads' O_0.out).2.2 x7_1 p37 q37
  obtain rfl : ad32 = ad37 := (by injection e37)
  obtain ⟨ce243, hce243, hMe243, hcc243⟩ := Kd.V_get O_0.out z43 x7_1 p37 (by first | exact q37 | exact Xo | (have e_ := (Kd.V_reads' O_0.out).1; omega))
  obtain ⟨ua243_4, uc243_4, rfl, ul243_4, ge243_4⟩ := k43_openF hMe243
  have hv243_4 := hcc243 4 _ rfl
  rw [add_field _ _ 4 (by omega)] at hv243_4
  replace hv243_4 := Option.some.inj (hv243_4.symm.trans hx37_4)
  injection hv243_4 with hva_ hvn_ hvc_
  rw [hva_] at ge243_4
  rw [hvc_] at ul243_4
  have HL243_4 := Am (show Kd.V (Kd.int .i64) 3 _ w.heap.size _ _ ((rd_T43 l0 x7_1).f4) from Kd.V_mk ul243_4 ge243_4)
  clear hva_ hvn_ hvc_ ge243_4 ul243_4
  clear hcc243 hce243
  have HR37_4 := Am hi243_4
  have HC37_4 := Am hl243_4
  clear hi243_4 hl243_4
  replace p37 := eq_true p37
  replace q37 := eq_true q37
  have ea_ := Option.some.inj (hx32_4.symm.trans hx37_4)
  injection ea_ with ea_ en_ ec_
  subst ea_
  subst ec_
  clear en_
  go_wp2_with (first | ((with_reducible refine gate_builtin (b := .append) (xs := #[.tmp 31, .tmp 36]) rfl ?_); at_builtin; refine Kd.N_append k43 (w0 := w) w.heap.size rfl (.tmp 31) (.tmp 36) 27 43 (.agg #[(.int .i64 0), (.int .i64 0), (.int .i64 0), (.string ⟨#[]⟩), (.slice none 0 0)]) 64 rfl Try.underlying27 info43 rfl (by decide) (by omega) u5 x5_1 (⟨(rd_T43 l0 x7_1).f0, (rd_T43 l0 x7_1).f1, (rd_T43 l0 x7_1).f2, (rd_T43 l0 x7_1).f3, (rd_T43 l0 x7_1).f4⟩ : S43) [.int .i64 ((rd_T43 l0 x7_1).f0), .int .i64 ((rd_T43 l0 x7_1).f1), .int .i64 ((rd_T43 l0 x7_1).f2), .string ((rd_T43 l0 x7_1).f3), .slice A235_4 ((rd_T43 l0 x7_1).f4).length c235_4] (fun k_ => ((P0_ k_ ∨ P1_4_ k_) ∨ w.heap.size ≤ k_) ∧ k_ ≠ gb25) (fun k_ => ((fun k_ => ((P0_ k_ ∨ P1_4_ k_) ∨ w.heap.size ≤ k_) ∧ k_ ≠ gb25)) k_ ∧ some k_ ≠ (u5 : Value).ownBlock) rfl rfl ?aP (fun _ hk => hk) ?aF ?aO ?aB ?aS ?aL ?_; (case aP => exact (k43_mkF _ _ (⟨(rd_T43 l0 x7_1).f0, (rd_T43 l0 x7_1).f1, (rd_T43 l0 x7_1).f2, (rd_T43 l0 x7_1).f3, (rd_T43 l0 x7_1).f4⟩ : S43) (Kd.V_reads' (Kd.V_mono (ok' := (fun k_ => ((fun k_ => ((P0_ k_ ∨ P1_4_ k_) ∨ w.heap.size ≤ k_) ∧ k_ ≠ gb25)) k_ ∧ some k_ ≠ (u5 : Value).ownBlock)) (HL243_4.out) (fun k_ hk => ⟨⟨hk.1, hk.2.2⟩, hk.2.1⟩))).2.1 (Kd.V_F (by (with_reducible repeat (first | apply Kd.V_alloc | apply Kd.V_drewN | apply Kd.V_drew)); exact (Kd.V_mono (ok' := (fun k_ => ((fun k_ => ((P0_ k_ ∨ P1_4_ k_) ∨ w.heap.size ≤ k_) ∧ k_ ≠ gb25)) k_ ∧ some k_ ≠ (u5 : Value).ownBlock)) (HL243_4.out) (fun k_ hk => ⟨⟨hk.1, hk.2.2⟩, hk.2.1⟩)))))); (case aB => exact Xi); (case aF => exact (fun k_ hk => ⟨(.inr (Nat.le_trans (below_size Xi) hk)), Kd.freshB (g := gb25) (o := .cells #[.int .i64 a1_0, .int .i64 a1_1, .int .i64 a1_2, .string a1_3, .slice A1_4 l1_4.length c1_4] 43 (0, 0)) (Xq' B25) k_ hk⟩)); (case aO => exact (Xq O_5)); (case aS => exact (below_size Xi)); (case aL => have := LMc18.out; omega); intro v245 w20 ho hb hg hat; rw [← Ny36.out] at ho; replace O_0 := Am (Kd.V_afterv (ok := (fun k_ => ((P0_ k_ ∨ P1_4_ k_) ∨ w.heap.size ≤ k_) ∧ k_ ≠ gb25)) (by (with_reducible repeat (first | apply Kd.V_alloc | apply Kd.V_drewN | apply Kd.V_drew)); exact Kd.V_mono O_0.out (fun _ hk => ⟨⟨hk.1, hk.2.2⟩, hk.2.1⟩)) hg hat); replace O_228004 := Am (Kd.V_afterv (ok := (fun k_ => ((P0_ k_ ∨ P1_4_ k_) ∨ w.heap.size ≤ k_) ∧ k_ ≠ gb25)) (by (with_reducible repeat (first | apply Kd.V_alloc | apply Kd.V_drewN | apply Kd.V_drew)); exact Kd.V_mono O_228004.out (fun _ hk => ⟨⟨hk.1, hk.2.2⟩, hk.2.1⟩)) hg hat); replace B25 := Am (blk_grown (g := gb25) (o := .cells #[.int .i64 a1_0, .int .i64 a1_1, .int .i64 a1_2, .string a1_3, .slice A1_4 l1_4.length c1_4] 43 (0, 0)) (Xq' B25) hg (Kd.N_away O_5.out (fun _ hk => hk.2))); replace HL235_4 := Am (Kd.V_afterv (ok := (fun k_ => ((P0_ k_ ∨ P1_4_ k_) ∨ w.heap.size ≤ k_) ∧ k_ ≠ gb25)) (by (with_reducible repeat (first | apply Kd.V_alloc | apply Kd.V_drewN | apply Kd.V_drew)); exact Kd.V_mono HL235_4.out (fun _ hk => ⟨⟨hk.1, hk.2.2⟩, hk.2.1⟩)) hg hat); replace HL243_4 := Am (Kd.V_afterv (ok := (fun k_ => ((P0_ k_ ∨ P1_4_ k_) ∨ w.heap.size ≤ k_) ∧ k_ ≠ gb25)) (by (with_reducible repeat (first | apply Kd.V_alloc | apply Kd.V_drewN | apply Kd.V_drew)); exact Kd.V_mono HL243_4.out (fun _ hk => ⟨⟨hk.1, hk.2.2⟩, hk.2.1⟩)) hg hat); replace HB := Am (hb); have HO38 := Am (ho); clear O_5; clear ho hb hg hat))
  repeat (go_quiet (first | ((with_reducible refine gate_builtin (b := .append) (xs := #[.tmp 31, .tmp 36]) rfl ?_); at_builtin; refine Kd.N_append k43 (w0 := w) w.heap.size rfl (.tmp 31) (.tmp 36) 27 43 (.agg #[(.int .i64 0), (.int .i64 0), (.int .i64 0), (.string ⟨#[]⟩), (.slice none 0 0)]) 64 rfl Try.underlying27 info43 rfl (by decide) (by omega) u5 x5_1 (⟨(rd_T43 l0 x7_1).f0, (rd_T43 l0 x7_1).f1, (rd_T43 l0 x7_1).f2, (rd_T43 l0 x7_1).f3, (rd_T43 l0 x7_1).f4⟩ : S43) [.int .i64 ((rd_T43 l0 x7_1).f0), .int .i64 ((rd_T43 l0 x7_1).f1), .int .i64 ((rd_T43 l0 x7_1).f2), .string ((rd_T43 l0 x7_1).f3), .slice A235_4 ((rd_T43 l0 x7_1).f4).length c235_4] (fun k_ => ((P0_ k_ ∨ P1_4_ k_) ∨ w.heap.size ≤ k_) ∧ k_ ≠ gb25) (fun k_ => ((fun k_ => ((P0_ k_ ∨ P1_4_ k_) ∨ w.heap.size ≤ k_) ∧ k_ ≠ gb25)) k_ ∧ some k_ ≠ (u5 : Value).ownBlock) rfl rfl ?aP (fun _ hk => hk) ?aF ?aO ?aB ?aS ?aL ?_; (case aP => exact (k43_mkF _ _ (⟨(rd_T43 l0 x7_1).f0, (rd_T43 l0 x7_1).f1, (rd_T43 l0 x7_1).f2, (rd_T43 l0 x7_1).f3, (rd_T43 l0 x7_1).f4⟩ : S43) (Kd.V_reads' (Kd.V_mono (ok' := (fun k_ => ((fun k_ => ((P0_ k_ ∨ P1_4_ k_) ∨ w.heap.size ≤ k_) ∧ k_ ≠ gb25)) k_ ∧ some k_ ≠ (u5 : Value).ownBlock)) (HL243_4.out) (fun k_ hk => ⟨⟨hk.1, hk.2.2⟩, hk.2.1⟩))).2.1 (Kd.V_F (by (with_reducible repeat (first | apply Kd.V_alloc | apply Kd.V_drewN | apply Kd.V_drew)); exact (Kd.V_mono (ok' := (fun k_ => ((fun k_ => ((P0_ k_ ∨ P1_4_ k_) ∨ w.heap.size ≤ k_) ∧ k_ ≠ gb25)) k_ ∧ some k_ ≠ (u5 : Value).ownBlock)) (HL243_4.out) (fun k_ hk => ⟨⟨hk.1, hk.2.2⟩, hk.2.1⟩)))))); (case aB => exact Xi); (case aF => exact (fun k_ hk => ⟨(.inr (Nat.le_trans (below_size Xi) hk)), Kd.freshB (g := gb25) (o := .cells #[.int .i64 a1_0, .int .i64 a1_1, .int .i64 a1_2, .string a1_3, .slice A1_4 l1_4.length c1_4] 43 (0, 0)) (Xq' B25) k_ hk⟩)); (case aO => exact (Xq O_5)); (case aS => exact (below_size Xi)); (case aL => have := LMc18.out; omega); intro v245 w20 ho hb hg hat; rw [← Ny36.out] at ho; replace O_0 := Am (Kd.V_afterv (ok := (fun k_ => ((P0_ k_ ∨ P1_4_ k_) ∨ w.heap.size ≤ k_) ∧ k_ ≠ gb25)) (by (with_reducible repeat (first | apply Kd.V_alloc | apply Kd.V_drewN | apply Kd.V_drew)); exact Kd.V_mono O_0.out (fun _ hk => ⟨⟨hk.1, hk.2.2⟩, hk.2.1⟩)) hg hat); replace O_228004 := Am (Kd.V_afterv (ok := (fun k_ => ((P0_ k_ ∨ P1_4_ k_) ∨ w.heap.size ≤ k_) ∧ k_ ≠ gb25)) (by (with_reducible repeat (first | apply Kd.V_alloc | apply Kd.V_drewN | apply Kd.V_drew)); exact Kd.V_mono O_228004.out (fun _ hk => ⟨⟨hk.1, hk.2.2⟩, hk.2.1⟩)) hg hat); replace B25 := Am (blk_grown (g := gb25) (o := .cells #[.int .i64 a1_0, .int .i64 a1_1, .int .i64 a1_2, .string a1_3, .slice A1_4 l1_4.length c1_4] 43 (0, 0)) (Xq' B25) hg (Kd.N_away O_5.out (fun _ hk => hk.2))); replace HL235_4 := Am (Kd.V_afterv (ok := (fun k_ => ((P0_ k_ ∨ P1_4_ k_) ∨ w.heap.size ≤ k_) ∧ k_ ≠ gb25)) (by (with_reducible repeat (first | apply Kd.V_alloc | apply Kd.V_drewN | apply Kd.V_drew)); exact Kd.V_mono HL235_4.out (fun _ hk => ⟨⟨hk.1, hk.2.2⟩, hk.2.1⟩)) hg hat); replace HL243_4 := Am (Kd.V_afterv (ok := (fun k_ => ((P0_ k_ ∨ P1_4_ k_) ∨ w.heap.size ≤ k_) ∧ k_ ≠ gb25)) (by (with_reducible repeat (first | apply Kd.V_alloc | apply Kd.V_drewN | apply Kd.V_drew)); exact Kd.V_mono HL243_4.out (fun _ hk => ⟨⟨hk.1, hk.2.2⟩, hk.2.1⟩)) hg hat); replace HB := Am (hb); have HO38 := Am (ho); clear O_5; clear ho hb hg hat)); try go_wp2_with (first | ((with_reducible refine gate_builtin (b := .append) (xs := #[.tmp 31, .tmp 36]) rfl ?_); at_builtin; refine Kd.N_append k43 (w0 := w) w.heap.size rfl (.tmp 31) (.tmp 36) 27 43 (.agg #[(.int .i64 0), (.int .i64 0), (.int .i64 0), (.string ⟨#[]⟩), (.slice none 0 0)]) 64 rfl Try.underlying27 info43 rfl (by decide) (by omega) u5 x5_1 (⟨(rd_T43 l0 x7_1).f0, (rd_T43 l0 x7_1).f1, (rd_T43 l0 x7_1).f2, (rd_T43 l0 x7_1).f3, (rd_T43 l0 x7_1).f4⟩ : S43) [.int .i64 ((rd_T43 l0 x7_1).f0), .int .i64 ((rd_T43 l0 x7_1).f1), .int .i64 ((rd_T43 l0 x7_1).f2), .string ((rd_T43 l0 x7_1).f3), .slice A235_4 ((rd_T43 l0 x7_1).f4).length c235_4] (fun k_ => ((P0_ k_ ∨ P1_4_ k_) ∨ w.heap.size ≤ k_) ∧ k_ ≠ gb25) (fun k_ => ((fun k_ => ((P0_ k_ ∨ P1_4_ k_) ∨ w.heap.size ≤ k_) ∧ k_ ≠ gb25)) k_ ∧ some k_ ≠ (u5 : Value).ownBlock) rfl rfl ?aP (fun _ hk => hk) ?aF ?aO ?aB ?aS ?aL ?_; (case aP => exact (k43_mkF _ _ (⟨(rd_T43 l0 x7_1).f0, (rd_T43 l0 x7_1).f1, (rd_T43 l0 x7_1).f2, (rd_T43 l0 x7_1).f3, (rd_T43 l0 x7_1).f4⟩ : S43) (Kd.V_reads' (Kd.V_mono (ok' := (fun k_ => ((fun k_ => ((P0_ k_ ∨ P1_4_ k_) ∨ w.heap.size ≤ k_) ∧ k_ ≠ gb25)) k_ ∧ some k_ ≠ (u5 : Value).ownBlock)) (HL243_4.out) (fun k_ hk => ⟨⟨hk.1, hk.2.2⟩, hk.2.1⟩))).2.1 (Kd.V_F (by (with_reducible repeat (first | apply Kd.V_alloc | apply Kd.V_drewN | apply Kd.V_drew)); exact (Kd.V_mono (ok' := (fun k_ => ((fun k_ => ((P0_ k_ ∨ P1_4_ k_) ∨ w.heap.size ≤ k_) ∧ k_ ≠ gb25)) k_ ∧ some k_ ≠ (u5 : Value).ownBlock)) (HL243_4.out) (fun k_ hk => ⟨⟨hk.1, hk.2.2⟩, hk.2.1⟩)))))); (case aB => exact Xi); (case aF => exact (fun k_ hk => ⟨(.inr (Nat.le_trans (below_size Xi) hk)), Kd.freshB (g := gb25) (o := .cells #[.int .i64 a1_0, .int .i64 a1_1, .int .i64 a1_2, .string a1_3, .slice A1_4 l1_4.length c1_4] 43 (0, 0)) (Xq' B25) k_ hk⟩)); (case aO => exact (Xq O_5)); (case aS => exact (below_size Xi)); (case aL => have := LMc18.out; omega); intro v245 w20 ho hb hg hat; rw [← Ny36.out] at ho; replace O_0 := Am (Kd.V_afterv (ok := (fun k_ => ((P0_ k_ ∨ P1_4_ k_) ∨ w.heap.size ≤ k_) ∧ k_ ≠ gb25)) (by (with_reducible repeat (first | apply Kd.V_alloc | apply Kd.V_drewN | apply Kd.V_drew)); exact Kd.V_mono O_0.out (fun _ hk => ⟨⟨hk.1, hk.2.2⟩, hk.2.1⟩)) hg hat); replace O_228004 := Am (Kd.V_afterv (ok := (fun k_ => ((P0_ k_ ∨ P1_4_ k_) ∨ w.heap.size ≤ k_) ∧ k_ ≠ gb25)) (by (with_reducible repeat (first | apply Kd.V_alloc | apply Kd.V_drewN | apply Kd.V_drew)); exact Kd.V_mono O_228004.out (fun _ hk => ⟨⟨hk.1, hk.2.2⟩, hk.2.1⟩)) hg hat); replace B25 := Am (blk_grown (g := gb25) (o := .cells #[.int .i64 a1_0, .int .i64 a1_1, .int .i64 a1_2, .string a1_3, .slice A1_4 l1_4.length c1_4] 43 (0, 0)) (Xq' B25) hg (Kd.N_away O_5.out (fun _ hk => hk.2))); replace HL235_4 := Am (Kd.V_afterv (ok := (fun k_ => ((P0_ k_ ∨ P1_4_ k_) ∨ w.heap.size ≤ k_) ∧ k_ ≠ gb25)) (by (with_reducible repeat (first | apply Kd.V_alloc | apply Kd.V_drewN | apply Kd.V_drew)); exact Kd.V_mono HL235_4.out (fun _ hk => ⟨⟨hk.1, hk.2.2⟩, hk.2.1⟩)) hg hat); replace HL243_4 := Am (Kd.V_afterv (ok := (fun k_ => ((P0_ k_ ∨ P1_4_ k_) ∨ w.heap.size ≤ k_) ∧ k_ ≠ gb25)) (by (with_reducible repeat (first | apply Kd.V_alloc | apply Kd.V_drewN | apply Kd.V_drew)); exact Kd.V_mono HL243_4.out (fun _ hk => ⟨⟨hk.1, hk.2.2⟩, hk.2.1⟩)) hg hat); replace HB := Am (hb); have HO38 := Am (ho); clear O_5; clear ho hb hg hat)))
  go_roundg k1
  case measure => have := HK1.out; omega
  case rel => exact ⟨(y36), (false), (wrap64 (x7_1 + 1)), Xr, Xr, H', Xk1, ⟨by (with_reducible repeat (first | apply Kd.V_alloc | apply Kd.V_drewN | apply Kd.V_drew)); exact Kd.V_mono O_0.out (fun _ hk => ⟨hk.1.1, ⟨hk.2, hk.1.2⟩⟩)⟩, (Xp' HO38), ⟨by (with_reducible repeat (first | apply Kd.V_alloc | apply Kd.V_drewN | apply Kd.V_drew)); exact Kd.V_mono O_228004.out (fun _ hk => ⟨hk.1.1, ⟨hk.2, hk.1.2⟩⟩)⟩, (Xp B25), ⟨Xi⟩⟩
 by_cases c21 : x6_1 = true
 ·subst c21
  try rw [if_pos rfl] at H
  obtain rfl := Xsi H
  go_wp2
  repeat (go_quiet (fail); try go_wp2)
  go_ret
  exact ⟨_, Xe, by (with_reducible repeat (first | apply Kd.N_alloc | apply Kd.N_drewN | apply Kd.N_drew)); exact Kd.N_mono O_5.out (fun _ hk => hk.1), Xi⟩
 replace c21 := Xbf c21
 subst c21
 try rw [if_neg Xft] at H
 obtain ⟨c22, H⟩ | ⟨c22, H⟩ := Xiu H
 ·have LMc22 := Am c22
  clear c22
  obtain ⟨y39, hy39⟩ : ∃ y_ : List (S43), y_ = (x5_1 ++ [(⟨a1_0, a1_1, a1_2, a1_3, l1_4⟩ : S43)]) := ⟨_, rfl⟩
  replace H : (some y39) = some r := by first | (rw [hy39]; with_reducible exact H) | (have H2_ := (Option.bind_some _ _).symm.trans H; rw [hy39]; with_reducible exact H2_) | (have H2_ := (Option.bind_some _ _).symm.trans H; with_reducible exact H2_) | with_reducible exact H | (rw [hy39]; exact H) | exact H
  have Ny39 := Am hy39
  clear hy39
  obtain rfl := Xsi H
  obtain ⟨Z23_0, Z23_1, Z23_2, Z23_3, Z23_4⟩ := Xc5 B25
  go_wp2_with (first | ((with_reducible refine gate_builtin (b := .append) (xs := #[.tmp 40, .tmp 42]) rfl ?_); at_builtin; refine Kd.N_append k43 (w0 := w) w.heap.size rfl (.tmp 40) (.tmp 42) 27 43 (.agg #[(.int .i64 0), (.int .i64 0), (.int .i64 0), (.string ⟨#[]⟩), (.slice none 0 0)]) 64 rfl Try.underlying27 info43 rfl (by decide) (by omega) u5 x5_1 (⟨a1_0, a1_1, a1_2, a1_3, l1_4⟩ : S43) [.int .i64 a1_0, .int .i64 a1_1, .int .i64 a1_2, .string a1_3, .slice A1_4 l1_4.length c1_4] (fun k_ => ((P0_ k_ ∨ P1_4_ k_) ∨ w.heap.size ≤ k_) ∧ k_ ≠ gb25) (fun k_ => ((fun k_ => ((P0_ k_ ∨ P1_4_ k_) ∨ w.heap.size ≤ k_) ∧ k_ ≠ gb25)) k_ ∧ some k_ ≠ (u5 : Value).ownBlock) rfl rfl ?aP (fun _ hk => hk) ?aF ?aO ?aB ?aS ?aL ?_; (case aP => exact (k43_mkF _ _ (⟨a1_0, a1_1, a1_2, a1_3, l1_4⟩ : S43) (Kd.V_reads' (Kd.V_mono (ok' := (fun k_ => ((fun k_ => ((P0_ k_ ∨ P1_4_ k_) ∨ w.heap.size ≤ k_) ∧ k_ ≠ gb25)) k_ ∧ some k_ ≠ (u5 : Value).ownBlock)) (O_228004.out) (fun k_ hk => ⟨⟨hk.1, hk.2.2⟩, hk.2.1⟩))).2.1 (Kd.V_F (by (with_reducible repeat (first | apply Kd.V_alloc | apply Kd.V_drewN | apply Kd.V_drew)); exact (Kd.V_mono (ok' := (fun k_ => ((fun k_ => ((P0_ k_ ∨ P1_4_ k_) ∨ w.heap.size ≤ k_) ∧ k_ ≠ gb25)) k_ ∧ some k_ ≠ (u5 : Value).ownBlock)) (O_228004.out) (fun k_ hk => ⟨⟨hk.1, hk.2.2⟩, hk.2.1⟩)))))); (case aB => exact Xi); (case aF => exact (fun k_ hk => ⟨(.inr (Nat.le_trans (below_size Xi) hk)), Kd.freshB (g := gb25) (o := .cells #[.int .i64 a1_0, .int .i64 a1_1, .int .i64 a1_2, .string a1_3, .slice A1_4 l1_4.length c1_4] 43 (0, 0)) (Xq' B25) k_ hk⟩)); (case aO => exact (Xq O_5)); (case aS => exact (below_size Xi)); (case aL => have := LMc22.out; omega); intro v248 w24 ho hb hg hat; rw [← Ny39.out] at ho; replace O_0 := Am (Kd.V_afterv (ok := (fun k_ => ((P0_ k_ ∨ P1_4_ k_) ∨ w.heap.size ≤ k_) ∧ k_ ≠ gb25)) (by (with_reducible repeat (first | apply Kd.V_alloc | apply Kd.V_drewN | apply Kd.V_drew)); exact Kd.V_mono O_0.out (fun _ hk => ⟨⟨hk.1, hk.2.2⟩, hk.2.1⟩)) hg hat); replace O_228004 := Am (Kd.V_afterv (ok := (fun k_ => ((P0_ k_ ∨ P1_4_ k_) ∨ w.heap.size ≤ k_) ∧ k_ ≠ gb25)) (by (with_reducible repeat (first | apply Kd.V_alloc | apply Kd.V_drewN | apply Kd.V_drew)); exact Kd.V_mono O_228004.out (fun _ hk => ⟨⟨hk.1, hk.2.2⟩, hk.2.1⟩)) hg hat); replace B25 := Am (blk_grown (g := gb25) (o := .cells #[.int .i64 a1_0, .int .i64 a1_1, .int .i64 a1_2, .string a1_3, .slice A1_4 l1_4.length c1_4] 43 (0, 0)) (Xq' B25) hg (Kd.N_away O_5.out (fun _ hk => hk.2))); replace HB := Am (hb); have HO40 := Am (ho); clear O_5; clear ho hb hg hat))
  repeat (go_quiet (first | ((with_reducible refine gate_builtin (b := .append) (xs := #[.tmp 40, .tmp 42]) rfl ?_); at_builtin; refine Kd.N_append k43 (w0 := w) w.heap.size rfl (.tmp 40) (.tmp 42) 27 43 (.agg #[(.int .i64 0), (.int .i64 0), (.int .i64 0), (.string ⟨#[]⟩), (.slice none 0 0)]) 64 rfl Try.underlying27 info43 rfl (by decide) (by omega) u5 x5_1 (⟨a1_0, a1_1, a1_2, a1_3, l1_4⟩ : S43) [.int .i64 a1_0, .int .i64 a1_1, .int .i64 a1_2, .string a1_3, .slice A1_4 l1_4.length c1_4] (fun k_ => ((P0_ k_ ∨ P1_4_ k_) ∨ w.heap.size ≤ k_) ∧ k_ ≠ gb25) (fun k_ => ((fun k_ => ((P0_ k_ ∨ P1_4_ k_) ∨ w.heap.size ≤ k_) ∧ k_ ≠ gb25)) k_ ∧ some k_ ≠ (u5 : Value).ownBlock) rfl rfl ?aP (fun _ hk => hk) ?aF ?aO ?aB ?aS ?aL ?_; (case aP => exact (k43_mkF _ _ (⟨a1_0, a1_1, a1_2, a1_3, l1_4⟩ : S43) (Kd.V_reads' (Kd.V_mono (ok' := (fun k_ => ((fun k_ => ((P0_ k_ ∨ P1_4_ k_) ∨ w.heap.size ≤ k_) ∧ k_ ≠ gb25)) k_ ∧ some k_ ≠ (u5 : Value).ownBlock)) (O_228004.out) (fun k_ hk => ⟨⟨hk.1, hk.2.2⟩, hk.2.1⟩))).2.1 (Kd.V_F (by (with_reducible repeat (first | apply Kd.V_alloc | apply Kd.V_drewN | apply Kd.V_drew)); exact (Kd.V_mono (ok' := (fun k_ => ((fun k_ => ((P0_ k_ ∨ P1_4_ k_) ∨ w.heap.size ≤ k_) ∧ k_ ≠ gb25)) k_ ∧ some k_ ≠ (u5 : Value).ownBlock)) (O_228004.out) (fun k_ hk => ⟨⟨hk.1, hk.2.2⟩, hk.2.1⟩)))))); (case aB => exact Xi); (case aF => exact (fun k_ hk => ⟨(.inr (Nat.le_trans (below_size Xi) hk)), Kd.freshB (g := gb25) (o := .cells #[.int .i64 a1_0, .int .i64 a1_1, .int .i64 a1_2, .string a1_3, .slice A1_4 l1_4.length c1_4] 43 (0, 0)) (Xq' B25) k_ hk⟩)); (case aO => exact (Xq O_5)); (case aS => exact (below_size Xi)); (case aL => have := LMc22.out; omega); intro v248 w24 ho hb hg hat; rw [← Ny39.out] at ho; replace O_0 := Am (Kd.V_afterv (ok := (fun k_ => ((P0_ k_ ∨ P1_4_ k_) ∨ w.heap.size ≤ k_) ∧ k_ ≠ gb25)) (by (with_reducible repeat (first | apply Kd.V_alloc | apply Kd.V_drewN | apply Kd.V_drew)); exact Kd.V_mono O_0.out (fun _ hk => ⟨⟨hk.1, hk.2.2⟩, hk.2.1⟩)) hg hat); replace O_228004 := Am (Kd.V_afterv (ok := (fun k_ => ((P0_ k_ ∨ P1_4_ k_) ∨ w.heap.size ≤ k_) ∧ k_ ≠ gb25)) (by (with_reducible repeat (first | apply Kd.V_alloc | apply Kd.V_drewN | apply Kd.V_drew)); exact Kd.V_mono O_228004.out (fun _ hk => ⟨⟨hk.1, hk.2.2⟩, hk.2.1⟩)) hg hat); replace B25 := Am (blk_grown (g := gb25) (o := .cells #[.int .i64 a1_0, .int .i64 a1_1, .int .i64 a1_2, .string a1_3, .slice A1_4 l1_4.length c1_4] 43 (0, 0)) (Xq' B25) hg (Kd.N_away O_5.out (fun _ hk => hk.2))); replace HB := Am (hb); have HO40 := Am (ho); clear O_5; clear ho hb hg hat)); try go_wp2_with (first | ((with_reducible refine gate_builtin (b := .append) (xs := #[.tmp 40, .tmp 42]) rfl ?_); at_builtin; refine Kd.N_append k43 (w0 := w) w.heap.size rfl (.tmp 40) (.tmp 42) 27 43 (.agg #[(.int .i64 0), (.int .i64 0), (.int .i64 0), (.string ⟨#[]⟩), (.slice none 0 0)]) 64 rfl Try.underlying27 info43 rfl (by decide) (by omega) u5 x5_1 (⟨a1_0, a1_1, a1_2, a1_3, l1_4⟩ : S43) [.int .i64 a1_0, .int .i64 a1_1, .int .i64 a1_2, .string a1_3, .slice A1_4 l1_4.length c1_4] (fun k_ => ((P0_ k_ ∨ P1_4_ k_) ∨ w.heap.size ≤ k_) ∧ k_ ≠ gb25) (fun k_ => ((fun k_ => ((P0_ k_ ∨ P1_4_ k_) ∨ w.heap.size ≤ k_) ∧ k_ ≠ gb25)) k_ ∧ some k_ ≠ (u5 : Value).ownBlock) rfl rfl ?aP (fun _ hk => hk) ?aF ?aO ?aB ?aS ?aL ?_; (case aP => exact (k43_mkF _ _ (⟨a1_0, a1_1, a1_2, a1_3, l1_4⟩ : S43) (Kd.V_reads' (Kd.V_mono (ok' := (fun k_ => ((fun k_ => ((P0_ k_ ∨ P1_4_ k_) ∨ w.heap.size ≤ k_) ∧ k_ ≠ gb25)) k_ ∧ some k_ ≠ (u5 : Value).ownBlock)) (O_228004.out) (fun k_ hk => ⟨⟨hk.1, hk.2.2⟩, hk.2.1⟩))).2.1 (Kd.V_F (by (with_reducible repeat (first | apply Kd.V_alloc | apply Kd.V_drewN | apply Kd.V_drew)); exact (Kd.V_mono (ok' := (fun k_ => ((fun k_ => ((P0_ k_ ∨ P1_4_ k_) ∨ w.heap.size ≤ k_) ∧ k_ ≠ gb25)) k_ ∧ some k_ ≠ (u5 : Value).ownBlock)) (O_228004.out) (fun k_ hk => ⟨⟨hk.1, hk.2.2⟩, hk.2.1⟩)))))); (case aB => exact Xi); (case aF => exact (fun k_ hk => ⟨(.inr (Nat.le_trans (below_size Xi) hk)), Kd.freshB (g := gb25) (o := .cells #[.int .i64 a1_0, .int .i64 a1_1, .int .i64 a1_2, .string a1_3, .slice A1_4 l1_4.length c1_4] 43 (0, 0)) (Xq' B25) k_ hk⟩)); (case aO => exact (Xq O_5)); (case aS => exact (below_size Xi)); (case aL => have := LMc22.out; omega); intro v248 w24 ho hb hg hat; rw [← Ny39.out] at ho; replace O_0 := Am (Kd.V_afterv (ok := (fun k_ => ((P0_ k_ ∨ P1_4_ k_) ∨ w.heap.size ≤ k_) ∧ k_ ≠ gb25)) (by (with_reducible repeat (first | apply Kd.V_alloc | apply Kd.V_drewN | apply Kd.V_drew)); exact Kd.V_mono O_0.out (fun _ hk => ⟨⟨hk.1, hk.2.2⟩, hk.2.1⟩)) hg hat); replace O_228004 := Am (Kd.V_afterv (ok := (fun k_ => ((P0_ k_ ∨ P1_4_ k_) ∨ w.heap.size ≤ k_) ∧ k_ ≠ gb25)) (by (with_reducible repeat (first | apply Kd.V_alloc | apply Kd.V_drewN | apply Kd.V_drew)); exact Kd.V_mono O_228004.out (fun _ hk => ⟨⟨hk.1, hk.2.2⟩, hk.2.1⟩)) hg hat); replace B25 := Am (blk_grown (g := gb25) (o := .cells #[.int .i64 a1_0, .int .i64 a1_1, .int .i64 a1_2, .string a1_3, .slice A1_4 l1_4.length c1_4] 43 (0, 0)) (Xq' B25) hg (Kd.N_away O_5.out (fun _ hk => hk.2))); replace HB := Am (hb); have HO40 := Am (ho); clear O_5; clear ho hb hg hat)))
  go_ret
  exact ⟨_, Xe, by (with_reducible repeat (first | apply Kd.N_alloc | apply Kd.N_drewN | apply Kd.N_drew)); exact Kd.N_mono HO40.out (fun _ hk => hk.1), Xi⟩
 exact absurd H (by simp)
mutual
def spec_l02Splice.l0 : Nat → List Int → Int → Int → Int → List (S43) → Int → Int → List (S43) → Int → Int → List (S43) → Option (Int × Int × (List (S43)))
 | 0, _, _, _, _, _, _, _, _, _, _, _ => none
 | k + 1, x5, x7, x251000, x251001, x251002, x252000, x252001, x252002, x260000, x260001, x260002 => if x7 < (x251002.length : Int) then (if 0 ≤ x7 then ((spec_l02Has.f k x5 ((rd_T43 x251002 x7).f0)).bind fun t10 => (if t10 = true then (spec_l02Splice.l0 k x5 (wrap64 (x7 + 1)) x251000 x251001 x251002 x252000 x252001 x252002 x260000 x260001 x260002) else ((spec_l02OwnNode.f ((rd_T43 x251002 x7).f0) ((rd_T43 x251002 x7).f1) ((rd_T43 x251002 x7).f2) ((rd_T43 x251002 x7).f3) ((rd_T43 x251002 x7).f4)).bind fun bt263 => (if x260002.length < 2199023255552 then (spec_l02Splice.l0 k x5 (wrap64 (x7 + 1)) x251000 x251001 x251002 x252000 x252001 x252002 x260000 x260001 (x260002 ++ [(⟨bt263.1, bt263.2.1, bt263.2.2.1, bt263.2.2.2.1, bt263.2.2.2.2⟩ : S43)])) else (none))))) else (none)) else ((spec_l02Order.f k x252000 x252001 x252002 x252000).bind fun t11 => (spec_l02Splice.l1 k x5 (([] : List Int)) (([] : List Int)) t11 0 x252000 x252001 x252002 x260000 x260001 x260002))
def spec_l02Splice.l1 : Nat → List Int → List Int → List Int → List Int → Int → Int → Int → List (S43) → Int → Int → List (S43) → Option (Int × Int × (List (S43)))
 | 0, _, _, _, _, _, _, _, _, _, _, _ => none
 | k + 1, x5, x8, x9, x10, x11, x252000, x252001, x252002, x260000, x260001, x260002 => if x11 < (x10.length : Int) then (if 0 ≤ x11 then (if x8.length < 17592186044416 then ((some (x8 ++ [rd x10 x11] : List Int)).bind fun y12 => ((spec_l02Has.f k x5 (rd x10 x11)).bind fun t13 => (if t13 = true then (if x9.length < 17592186044416 then (spec_l02Splice.l1 k x5 y12 (x9 ++ [rd x10 x11]) x10 (wrap64 (x11 + 1)) x252000 x252001 x252002 x260000 x260001 x260002) else (none)) else (if x9.length < 17592186044416 then (spec_l02Splice.l1 k x5 y12 (x9 ++ [x260001]) x10 (wrap64 (x11 + 1)) x252000 x252001 x252002 x260000 (wrap64 (x260001 + 1)) x260002) else (none))))) else (none)) else (none)) else (spec_l02Splice.l2 k x8 x9 x10 0 x252000 x252001 x252002 x260000 x260001 x260002)
def spec_l02Splice.l2 : Nat → List Int → List Int → List Int → Int → Int → Int → List (S43) → Int → Int → List (S43) → Option (Int × Int × (List (S43)))
 | 0, _, _, _, _, _, _, _, _, _, _ => none
 | k + 1, x8, x9, x10, x12, x252000, x252001, x252002, x260000, x260001, x260002 => if x12 < (x10.length : Int) then (if 0 ≤ x12 then ((spec_l02At.f k x252000 x252001 x252002 (rd x10 x12)).bind fun t11 => (if 0 ≤ t11 then (if t11 < (x252002.length : Int) then ((spec_l02OwnNode.f ((rd_T43 x252002 t11).f0) ((rd_T43 x252002 t11).f1) ((rd_T43 x252002 t11).f2) ((rd_T43 x252002 t11).f3) ((rd_T43 x252002 t11).f4)).bind fun bt298 => (if x12 < (x9.length : Int) then (spec_l02Splice.l3 k x8 x9 x10 x12 0 x252000 x252001 x252002 x260000 x260001 x260002 (rd x9 x12) bt298.2.1 bt298.2.2.1 bt298.2.2.2.1 bt298.2.2.2.2) else (none))) else (none)) else (none))) else (none)) else (some (x260000, x260001, x260002))
def spec_l02Splice.l3 : Nat → List Int → List Int → List Int → Int → Int → Int → Int → List (S43) → Int → Int → List (S43) → Int → Int → Int → ByteArray → List Int → Option (Int × Int × (List (S43)))
 | 0, _, _, _, _, _, _, _, _, _, _, _, _, _, _, _, _ => none
 | k + 1, x8, x9, x10, x12, x14, x252000, x252001, x252002, x260000, x260001, x260002, x306000, x306001, x306002, x306003, x306004 => if x14 < (x306004.length : Int) then (if 0 ≤ x14 then ((spec_l02Index.f k x8 (rd x306004 x14)).bind fun t11 => (if 0 ≤ t11 then (if t11 < (x9.length : Int) then (spec_l02Splice.l3 k x8 x9 x10 x12 (wrap64 (x14 + 1)) x252000 x252001 x252002 x260000 x260001 x260002 x306000 x306001 x306002 x306003 (x306004.set (x14 : Int).toNat (rd x9 t11))) else (none)) else (none))) else (none)) else ((spec_l02Put.f k x260002 x306000 x306001 x306002 x306003 x306004).bind fun t13 => (spec_l02Splice.l2 k x8 x9 x10 (wrap64 (x12 + 1)) x252000 x252001 x252002 x260000 x260001 t13))
end
def spec_l02Splice.f (k : Nat) (a0_0 : Int) (a0_1 : Int) (l0_2 : List (S43)) (a1_0 : Int) (a1_1 : Int) (l1_2 : List (S43)) : Option (Int × Int × (List (S43))) := (spec_l02Order.f k a0_0 a0_1 l0_2 a1_0).bind fun t10 => (spec_l02Splice.l0 k t10 0 a0_0 a0_1 l0_2 a1_0 a1_1 l1_2 a0_0 a0_1 (([] : List (S43))))
def spec_l02Splice.T7 : Bool × List (List Nat × List Nat) := (true, [([], []), ([0], [0]), ([], []), ([2], [2]), ([], []), ([3, 4], [3, 4]), ([5], [5]), ([6], [6]), ([7], [7]), ([1, 8, 7], [1, 8]), ([0, 1, 2, 3, 4, 5, 6, 7, 8, 9], []), ([10, 9, 9, 0, 1, 2, 3, 4, 5, 6, 7, 8, 9], [9, 10])])
def spec_l02Splice.B7 : List Nat := [0, 1, 0, 4, 0, 28, 60, 124, 252, 511, 1023, 2047]
theorem spec_l02Splice.tab7 : rtab .any (opsOf Try.f95 7) = spec_l02Splice.T7 := by kernel_rfl
theorem spec_l02Splice.bits7 : waitsOk spec_l02Splice.T7.2 spec_l02Splice.B7 = true := by kernel_rfl
def spec_l02Splice.T22 : Bool × List (List Nat × List Nat) := (true, [([], []), ([0], [0]), ([], []), ([], []), ([], []), ([3, 4], [3, 4]), ([5], [5]), ([2, 6], [2, 6]), ([1, 7], [1, 7]), ([8], [8]), ([9, 7], [9]), ([], []), ([11, 10, 10, 0, 1, 2, 3, 4, 5, 6, 7, 8, 9, 10, 11], [10, 11])])
def spec_l02Splice.B22 : List Nat := [0, 1, 0, 0, 0, 24, 56, 124, 255, 511, 1023, 0, 4095]
theorem spec_l02Splice.tab22 : rtab .any (opsOf Try.f95 22) = spec_l02Splice.T22 := by kernel_rfl
theorem spec_l02Splice.bits22 : waitsOk spec_l02Splice.T22.2 spec_l02Splice.B22 = true := by kernel_rfl
def spec_l02Splice.T27 : Bool × List (List Nat × List Nat) := (true, [([], []), ([0], [0]), ([], []), ([], []), ([], []), ([], []), ([5], [5]), ([], []), ([6, 7], [6, 7]), ([8], [8]), ([4, 9], [4, 9]), ([3, 10], [3, 10]), ([11], [11]), ([1, 2, 0, 1, 2, 3, 4, 5, 6, 7, 8, 9, 10, 11, 12], [1, 2]), ([13, 12, 10, 0, 1, 2, 3, 4, 5, 6, 7, 8, 9, 10, 11, 12], [12, 13])])
def spec_l02Splice.B27 : List Nat := [0, 1, 0, 0, 0, 0, 32, 0, 224, 480, 1008, 2040, 4088, 8191, 16383]
theorem spec_l02Splice.tab27 : rtab .any (opsOf Try.f95 27) = spec_l02Splice.T27 := by kernel_rfl
theorem spec_l02Splice.bits27 : waitsOk spec_l02Splice.T27.2 spec_l02Splice.B27 = true := by kernel_rfl
theorem spec_l02Splice.calls (k : Nat) (a0_0 : Int) (a0_1 : Int) (A0_2 : Option Addr) (c0_2 : Nat) (l0_2 : List (S43)) (a1_0 : Int) (a1_1 : Int) (A1_2 : Option Addr) (c1_2 : Nat) (l1_2 : List (S43)) (r1 : Int) (r2 : Int) (r3 : List (S43)) (w : World) (hr0_2 : Kd.C k43 w A0_2 l0_2.length l0_2) (hc0_2 : l0_2.length ≤ c0_2) (hr1_2 : Kd.C k43 w A1_2 l1_2.length l1_2) (hc1_2 : l1_2.length ≤ c1_2) (h : spec_l02Splice.f k a0_0 a0_1 l0_2 a1_0 a1_1 l1_2 = some (r1, r2, r3)) :
  Calls Try.prog 95 #[.agg #[.int .i64 a0_0, .int .i64 a0_1, .slice A0_2 l0_2.length c0_2], .agg #[.int .i64 a1_0, .int .i64 a1_1, .slice A1_2 l1_2.length c1_2]] w fun e w' => ∃ v2_ : Value, e = .returned (.agg #[.int .i64 r1, .int .i64 r2, v2_]) ∧ Kd.N k43 43 w' w.heap.size (fun k_ => (w.heap.size ≤ k_)) v2_ r3 ∧ Below w.heap.size w w' := by
 have hu29 := Try.underlying29
 have hu43 := Try.underlying43
 have HR0_2 := Am hr0_2
 have HC0_2 := Am hc0_2
 clear hr0_2 hc0_2
 have HR1_2 := Am hr1_2
 have HC1_2 := Am hc1_2
 clear hr1_2 hc1_2
 have HB := Am (Below.refl w.heap.size w)
 have H : ((spec_l02Order.f k a0_0 a0_1 l0_2 a1_0).bind fun t253 => (spec_l02Splice.l0 k t253 0 a0_0 a0_1 l0_2 a1_0 a1_1 l1_2 a0_0 a0_1 (([] : List (S43))))) = some (r1, r2, r3) := h
 clear h
 obtain ⟨t253, A3, H⟩ := Xbi H
 try dsimp only at H
 obtain ⟨y256, hy256⟩ : ∃ y_ : List (S43), y_ = (([] : List (S43))) := ⟨_, rfl⟩
 replace H : (spec_l02Splice.l0 k t253 0 a0_0 a0_1 l0_2 a1_0 a1_1 l1_2 a0_0 a0_1 y256) = some (r1, r2, r3) := by first | (rw [hy256]; with_reducible exact H) | (have H2_ := (Option.bind_some _ _).symm.trans H; rw [hy256]; with_reducible exact H2_) | (have H2_ := (Option.bind_some _ _).symm.trans H; with_reducible exact H2_) | with_reducible exact H | (rw [hy256]; exact H) | exact H
 have Ny256 := Am hy256
 clear hy256
 have H' := Am H
 clear H
 go_enter Try.func95, Try.ntmps95
 go_wp2_with (first | ((with_reducible refine gate_dst (N := 2) rfl ?_); refine Xbx 2 #[.int .i64 a0_0, .int .i64 a0_1, .slice A0_2 l0_2.length c0_2] 29 ?_; intro gb250 hg w4 B250 GE250 hb; replace HB := Xhb hb; clear hb hg) | ((with_reducible refine gate_dst (N := 3) rfl ?_); refine Xbx 3 #[.int .i64 a1_0, .int .i64 a1_1, .slice A1_2 l1_2.length c1_2] 29 ?_; intro gb251 hg w5 B251 GE251 hb; replace HB := Xhb hb; have NB250_251 := Xnb hg B250; have NB251_250 := Xns NB250_251; replace B250 := Xbb B250 hb; clear hb hg) | ((with_reducible refine gate_dst (N := 4) rfl ?_); refine Xbx 4 #[.int .i64 0, .int .i64 0, .slice none 0 0] 29 ?_; intro gb252 hg w6 B252 GE252 hb; replace HB := Xhb hb; have NB250_252 := Xnb hg B250; have NB252_250 := Xns NB250_252; replace B250 := Xbb B250 hb; have NB251_252 := Xnb hg B251; have NB252_251 := Xns NB251_252; replace B251 := Xbb B251 hb; clear hb hg; have hnb7 := NB250_251.out; have hnc7 := NB251_250.out; have hnb8 := NB250_252.out; have hnc8 := NB252_250.out; obtain ⟨Z9_0, Z9_1, Z9_2⟩ := Xc3 B250; obtain ⟨F9_0, F9_1, F9_2⟩ := Xf3 B250; have hnb10 := NB251_252.out; have hnc10 := NB252_251.out; obtain ⟨Z11_0, Z11_1, Z11_2⟩ := Xc3 B251; obtain ⟨F11_0, F11_1, F11_2⟩ := Xf3 B251) | ((with_reducible refine gate_callee (f := 65) rfl ?_); refine Xgo 18 Try.func65 #[.agg #[.int .i64 a0_0, .int .i64 a0_1, .slice A0_2 l0_2.length c0_2], .int .i64 a1_0] ?_; (with_reducible refine (spec_l02Order.calls k a0_0 a0_1 _ _ l0_2 a1_0 t253 _ ?s1 ?s2 A3.out).mono ?_); (case s1 => exact Xc HR0_2); (case s2 => exact HC0_2.out); rintro e w12 ⟨v254, rfl, ho0, hb⟩; refine ⟨_, rfl, ?_⟩; have HO255 := Am (Kd.R_lower (Kd.R_newM (M := fun k_ => (w.heap.size ≤ k_)) ho0 (below_size Xi) (fun k_ h_ => h_)) (below_size Xi)); replace B250 := Xbb B250 hb; replace B251 := Xbb B251 hb; replace B252 := Xbb B252 hb; replace HB := Xhb hb; clear hb; (try clear ho0); obtain ⟨Z13_0, Z13_1, Z13_2⟩ := Xc3 B250; obtain ⟨F13_0, F13_1, F13_2⟩ := Xf3 B250) | ((with_reducible refine gate_dst (N := 23) rfl ?_); refine Kd.N_lit k43 _ 43 ?hg (N' := 23) ?hd (xs := ([] : List (S43))) (inner := []) (ok := (fun k_ => (w.heap.size ≤ k_) ∧ some k_ ≠ (v254 : Value).ownBlock ∧ k_ ≠ gb250 ∧ k_ ≠ gb251 ∧ k_ ≠ gb252)) (okp := (fun k_ => (w.heap.size ≤ k_) ∧ some k_ ≠ (v254 : Value).ownBlock ∧ k_ ≠ gb250 ∧ k_ ≠ gb251 ∧ k_ ≠ gb252)) ?hr ?hp (fun _ hk => hk) ((show ∀ k_, w12.heap.size ≤ k_ → (fun k_ => (w.heap.size ≤ k_) ∧ some k_ ≠ (v254 : Value).ownBlock ∧ k_ ≠ gb250 ∧ k_ ≠ gb251 ∧ k_ ≠ gb252) k_ from fun k_ hk => ⟨(Nat.le_trans (below_size Xi) hk), Kd.fresh' (Kd.R_lt (Xq HO255)) k_ hk, Kd.freshB (g := gb250) (o := .cells #[.int .i64 a0_0, .int .i64 a0_1, .slice A0_2 l0_2.length c0_2] 29 (0, 0)) (Xq' B250) k_ hk, Kd.freshB (g := gb251) (o := .cells #[.int .i64 a1_0, .int .i64 a1_1, .slice A1_2 l1_2.length c1_2] 29 (0, 0)) (Xq' B251) k_ hk, Kd.freshB (g := gb252) (o := .cells #[.int .i64 0, .int .i64 0, .slice none 0 0] 29 (0, 0)) (Xq' B252) k_ hk⟩) _ (Nat.le_refl _)) (Below.refl _ _) (Nat.le_refl _) (by simp) ?_; (case hd => rfl); (case hg => rfl); (case hr => first | (go_simp; done) | (go_simp; rfl)); (case hp => exact (Reps.none _ _)); intro v257 w14 ho15 hb hg_ hnew_; clear hg_ hnew_; (first | rw [← Ny256.out] at ho15 | (simp only [Int.reduceToNat] at ho15; rw [← Ny256.out] at ho15)); replace HO255 := Am (Kd.R_below (Xq HO255) hb); have HO258 := Am (Kd.N_lower ho15 (below_size Xi)); replace B250 := Xbb B250 hb; replace B251 := Xbb B251 hb; replace B252 := Xbb B252 hb; replace HB := Xhb hb; clear hb ho15; obtain ⟨Ao16, co16, eo16⟩ := Kd.N_slice HO258.out; subst eo16) | ((with_reducible refine gate_dst (N := 6) rfl ?_); refine Xbox 6 #[.int .i64 0, .int .i64 0, .slice none 0 0] 29 ?_; intro gb259 hg w17 hbox hb; replace HO255 := Am (Kd.R_below (Xq HO255) hb); replace HO258 := Am (Kd.N_below (Kd.N_elderB (Xq HO258) gb259 (Nat.le_of_eq hg.symm)) hb); have B259 := Am (hbox); have GE259 := Xge hg Xi; replace HB := Xhb hb; have NB250_259 := Xnb hg B250; have NB259_250 := Xns NB250_259; replace B250 := Xbb B250 hb; have NB251_259 := Xnb hg B251; have NB259_251 := Xns NB251_259; replace B251 := Xbb B251 hb; have NB252_259 := Xnb hg B252; have NB259_252 := Xns NB252_259; replace B252 := Xbb B252 hb; clear hb hbox hg; have hnb18 := NB259_250.out; have hnc18 := NB250_259.out; have hnb19 := NB259_251.out; have hnc19 := NB251_259.out; have hnb20 := NB259_252.out; have hnc20 := NB252_259.out; obtain ⟨Z21_0, Z21_1, Z21_2⟩ := Xc3 B259; obtain ⟨F21_0, F21_1, F21_2⟩ := Xf3 B259) | ((with_reducible refine gate_store (t := 29) (p := 6) rfl ?_); refine store_event (t := 29) (p := 6) (v := ?vo_w22) (w1 := (((w17.setCell ⟨gb259, 0, none⟩ (.int .i64 a0_0)).setCell ⟨gb259, 1, none⟩ (.int .i64 a0_1)).setCell ⟨gb259, 2, none⟩ (.slice Ao16 y256.length co16))) ?hg ?ho ?hn ?hr ?_; (case ho => rfl); (case hg => rfl); (case hn => rfl); (case hr => first | (go_simp; done) | (go_simp; rfl)); intro w22 hw; have n0_ : Aside0 (Kd.R (Kd.int .i64) 3 w22 w.heap.size (fun k_ => (w.heap.size ≤ k_)) v254 t253) := ⟨(by rw [hw]; exact (by (with_reducible repeat (first | apply Kd.R_alloc | apply Kd.R_drewN | apply Kd.R_drew)); exact Kd.R_mono (Kd.R_far (p := ⟨gb259, 2, none⟩) (Kd.R_far (p := ⟨gb259, 1, none⟩) (Kd.R_far (p := ⟨gb259, 0, none⟩) (Kd.R_types HO255.out B259.out (by decide)) (fun _ hk => hk.2) (.int .i64 a0_0)) (fun _ hk => hk.2) (.int .i64 a0_1)) (fun _ hk => hk.2) (.slice Ao16 y256.length co16)) (fun _ hk => hk.1.1)))⟩; have n1_ : Aside0 (Kd.N k43 43 w22 w.heap.size (fun k_ => (w.heap.size ≤ k_) ∧ some k_ ≠ (v254 : Value).ownBlock ∧ k_ ≠ gb250 ∧ k_ ≠ gb251 ∧ k_ ≠ gb252 ∧ k_ ≠ gb259) (.slice Ao16 y256.length co16) y256) := ⟨(by rw [hw]; exact (by (with_reducible repeat (first | apply Kd.N_alloc | apply Kd.N_drewN | apply Kd.N_drew)); exact Kd.N_mono (Kd.N_far (p := ⟨gb259, 2, none⟩) (Kd.N_far (p := ⟨gb259, 1, none⟩) (Kd.N_far (p := ⟨gb259, 0, none⟩) (Kd.N_mono HO258.out (fun k_ hk => (⟨hk, hk.2⟩ : _ ∧ k_ ≠ gb259))) (fun _ hk => hk.2) (.int .i64 a0_0)) (fun _ hk => hk.2) (.int .i64 a0_1)) (fun _ hk => hk.2) (.slice Ao16 y256.length co16)) (fun _ hk => ⟨hk.1.1.1, ⟨hk.1.1.2.1, ⟨hk.1.1.2.2.1, ⟨hk.1.1.2.2.2.1, ⟨hk.1.1.2.2.2.2, hk.1.2⟩⟩⟩⟩⟩)))⟩; have n2_ : Aside0 (w22.heap[gb250]? = some (.cells #[.int .i64 a0_0, .int .i64 a0_1, .slice A0_2 l0_2.length c0_2] 29 (0, 0))) := ⟨(by rw [hw]; exact (by refine Xu ?_; refine blk_far ?_ NB250_259.out _; refine Xu ?_; refine blk_far ?_ NB250_259.out _; refine Xu ?_; refine blk_far ?_ NB250_259.out _; refine Xu ?_; exact B250.out))⟩; have n3_ : Aside0 (w22.heap[gb251]? = some (.cells #[.int .i64 a1_0, .int .i64 a1_1, .slice A1_2 l1_2.length c1_2] 29 (0, 0))) := ⟨(by rw [hw]; exact (by refine Xu ?_; refine blk_far ?_ NB251_259.out _; refine Xu ?_; refine blk_far ?_ NB251_259.out _; refine Xu ?_; refine blk_far ?_ NB251_259.out _; refine Xu ?_; exact B251.out))⟩; have n4_ : Aside0 (w22.heap[gb252]? = some (.cells #[.int .i64 0, .int .i64 0, .slice none 0 0] 29 (0, 0))) := ⟨(by rw [hw]; exact (by refine Xu ?_; refine blk_far ?_ NB252_259.out _; refine Xu ?_; refine blk_far ?_ NB252_259.out _; refine Xu ?_; refine blk_far ?_ NB252_259.out _; refine Xu ?_; exact B252.out))⟩; have n5_ : Aside0 (w22.heap[gb259]? = some (.cells #[.int .i64 a0_0, .int .i64 a0_1, .slice Ao16 y256.length co16] 29 (0, 0))) := ⟨(by rw [hw]; exact (by refine Xu ?_; refine blk_put (cs := #[.int .i64 a0_0, .int .i64 a0_1, .slice none 0 0]) ?_ 2 _ rfl; refine Xu ?_; refine blk_put (cs := #[.int .i64 a0_0, .int .i64 0, .slice none 0 0]) ?_ 1 _ rfl; refine Xu ?_; refine blk_put (cs := #[.int .i64 0, .int .i64 0, .slice none 0 0]) ?_ 0 _ rfl; refine Xu ?_; exact B259.out))⟩; have n6_ : Aside0 (Below w.heap.size w w22) := ⟨(by rw [hw]; exact Xi)⟩; clear hw; clear HO255; clear HO258; clear B250; clear B251; clear B252; clear B259; clear HB; have HO255 := n0_; have HO258 := n1_; have B250 := n2_; have B251 := n3_; have B252 := n4_; have B259 := n5_; have HB := n6_; clear n0_ n1_ n2_ n3_ n4_ n5_ n6_))
 go_loopg [7] k (fun kq v7 w' => ∃ (x7_1 : Int) (x260002_1 : List (S43)) (u260002 : Value), v7 = .int .i64 x7_1 ∧ Aside0 (spec_l02Splice.l0 kq t253 x7_1 a0_0 a0_1 l0_2 a1_0 a1_1 l1_2 a0_0 a0_1 x260002_1 = some (r1, r2, r3)) ∧ Aside0 (kq ≤ k) ∧ Aside0 (Kd.R (Kd.int .i64) 3 w' w.heap.size (fun k_ => (w.heap.size ≤ k_)) v254 t253) ∧ Aside0 (Kd.N k43 43 w' w.heap.size (fun k_ => (w.heap.size ≤ k_) ∧ some k_ ≠ (v254 : Value).ownBlock ∧ k_ ≠ gb250 ∧ k_ ≠ gb251 ∧ k_ ≠ gb252 ∧ k_ ≠ gb259) u260002 x260002_1) ∧ Aside0 (w'.heap[gb250]? = some (.cells #[.int .i64 a0_0, .int .i64 a0_1, (.slice A0_2 l0_2.length c0_2)] 29 (0, 0))) ∧ Aside0 (w'.heap[gb251]? = some (.cells #[.int .i64 a1_0, .int .i64 a1_1, (.slice A1_2 l1_2.length c1_2)] 29 (0, 0))) ∧ Aside0 (w'.heap[gb252]? = some (.cells #[.int .i64 0, .int .i64 0, (.slice none 0 0)] 29 (0, 0))) ∧ Aside0 (w'.heap[gb259]? = some (.cells #[.int .i64 a0_0, .int .i64 a0_1, u260002] 29 (0, 0))) ∧ Aside0 (Below w.heap.size w w'))
 case atStart => exact ⟨(0), (y256), (.slice Ao16 y256.length co16), Xr, H', Xkr, (Xp' HO255), (Xp' HO258), (Xp B250), (Xp B251), (Xp B252), (Xp B259), ⟨Xi⟩⟩
 clear H'
 (try clear Z11_0); (try clear Z11_1); (try clear Z11_2); (try clear Z13_0); (try clear Z13_1); (try clear Z13_2); (try clear Z21_0); (try clear Z21_1); (try clear Z21_2); (try clear Z9_0); (try clear Z9_1); (try clear Z9_2); (try clear F11_0); (try clear F11_1); (try clear F11_2); (try clear F13_0); (try clear F13_1); (try clear F13_2); (try clear F21_0); (try clear F21_1); (try clear F21_2); (try clear F9_0); (try clear F9_1); (try clear F9_2)
 obtain ⟨x7_1, x260002_1, u260002, rfl, HA, HK1, O_5, O_260002, B250, B251, B252, B259, HB⟩ := hrel
 cases gk with | zero => cases HA.out | succ k1 => ?_
 have H := HA.out
 clear HA
 simp only [spec_l02Splice.l0] at H
 obtain ⟨c23b0, H⟩ | ⟨c23b0, H⟩ := Xit H
 ·obtain ⟨c24b0, H⟩ := Xid H
  obtain ⟨t261, A25, H⟩ := Xbi H
  try dsimp only at H
  have HC26 := Am H
  clear H
  have hnb27 := NB250_251.out
  have hnc27 := NB251_250.out
  have hnb28 := NB250_252.out
  have hnc28 := NB252_250.out
  have hnb29 := NB250_259.out
  have hnc29 := NB259_250.out
  obtain ⟨Z30_0, Z30_1, Z30_2⟩ := Xc3 B250
  obtain ⟨F30_0, F30_1, F30_2⟩ := Xf3 B250
  obtain ⟨ad260, A260_4, c260_4, e260, p260, q260, hx260_0, hx260_1, hx260_2, hx260_3, hx260_4, HC260_4, HR260_4⟩ := at_B43 HR0_2 x7_1 Xa Xa HB
  cases e260
  obtain ⟨Ao31, co31, eo31⟩ := Kd.R_slice O_5.out
  subst eo31
  go_upto_if 40 with ((with_reducible refine gate_callee (f := 102) rfl ?_); refine Xgo 39 Try.func102 #[.slice Ao31 t253.length co31, .int .i64 ((rd_T43 l0_2 x7_1).f0)] ?_; (with_reducible refine (spec_l02Has.calls k1 _ _ t253 ((rd_T43 l0_2 x7_1).f0) t261 _ ?s1 ?s2 A25.out).mono ?_); (case s1 => exact Xcd (Kd.R_reads' O_5.out).2.2); (case s2 => exact (Kd.R_reads' O_5.out).2.1); rintro e w' ⟨rfl, ⟨nd, rfl⟩⟩; refine ⟨_, rfl, ?_⟩)
  (try (rw [drewN_self wr]; generalize hq_ : World.drewN wr _ = wr; have n0_ : Aside0 (Kd.N k43 43 wr w.heap.size (fun k_ => (w.heap.size ≤ k_) ∧ some k_ ≠ (.slice Ao31 t253.length co31 : Value).ownBlock ∧ k_ ≠ gb250 ∧ k_ ≠ gb251 ∧ k_ ≠ gb252 ∧ k_ ≠ gb259) u260002 x260002_1) := ⟨by rw [← hq_]; exact (Xq O_260002)⟩; have n1_ : Aside0 (Kd.R (Kd.int .i64) 3 wr w.heap.size (fun k_ => (w.heap.size ≤ k_)) (.slice Ao31 t253.length co31) t253) := ⟨by rw [← hq_]; exact (Xq O_5)⟩; have n2_ : Aside0 (wr.heap[gb250]? = some (.cells #[.int .i64 a0_0, .int .i64 a0_1, .slice (some ad260) l0_2.length c0_2] 29 (0, 0))) := ⟨by rw [← hq_]; exact (Xq' B250)⟩; have n3_ : Aside0 (wr.heap[gb251]? = some (.cells #[.int .i64 a1_0, .int .i64 a1_1, .slice A1_2 l1_2.length c1_2] 29 (0, 0))) := ⟨by rw [← hq_]; exact (Xq' B251)⟩; have n4_ : Aside0 (wr.heap[gb252]? = some (.cells #[.int .i64 0, .int .i64 0, .slice none 0 0] 29 (0, 0))) := ⟨by rw [← hq_]; exact (Xq' B252)⟩; have n5_ : Aside0 (wr.heap[gb259]? = some (.cells #[.int .i64 a0_0, .int .i64 a0_1, u260002] 29 (0, 0))) := ⟨by rw [← hq_]; exact (Xq' B259)⟩; have n6_ : Aside0 (Below w.heap.size w wr) := ⟨by rw [← hq_]; exact Xi⟩; clear O_260002 O_5 B250 B251 B252 B259 HB hq_; have O_260002 := n0_; have O_5 := n1_; have B250 := n2_; have B251 := n3_; have B252 := n4_; have B259 := n5_; have HB := n6_; clear n0_ n1_ n2_ n3_ n4_ n5_ n6_))
  have H := HC26.out
  clear HC26
  by_cases c32 : t261 = true
  ·subst c32
   try rw [if_pos rfl] at H
   have H' := Am H
   clear H
   go_wp2
   go_roundg k1
   case measure => have := HK1.out; omega
   case rel => exact ⟨(wrap64 (x7_1 + 1)), (x260002_1), (u260002), Xr, H', Xk1, (Xp' O_5), (Xp' O_260002), (Xp B250), (Xp B251), (Xp B252), (Xp B259), ⟨Xi⟩⟩
  replace c32 := Xbf c32
  subst c32
  try rw [if_neg Xft] at H
  replace H := Option.bind_eq_some_iff.mp H
  obtain ⟨⟨t263, t264, t265, t266, t267⟩, A330, H⟩ := H
  try dsimp only at H
  have A33 := Am A330
  clear A330
  obtain ⟨c34, H⟩ := Xif H
  have LMc34 := Am c34
  clear c34
  obtain ⟨y270, hy270⟩ : ∃ y_ : List (S43), y_ = (x260002_1 ++ [(⟨t263, t264, t265, t266, t267⟩ : S43)]) := ⟨_, rfl⟩
  replace H : (spec_l02Splice.l0 k1 t253 (wrap64 (x7_1 + 1)) a0_0 a0_1 l0_2 a1_0 a1_1 l1_2 a0_0 a0_1 y270) = some (r1, r2, r3) := by first | (rw [hy270]; with_reducible exact H) | (have H2_ := (Option.bind_some _ _).symm.trans H; rw [hy270]; with_reducible exact H2_) | (have H2_ := (Option.bind_some _ _).symm.trans H; with_reducible exact H2_) | with_reducible exact H | (rw [hy270]; exact H) | exact H
  have Ny270 := Am hy270
  clear hy270
  have H' := Am H
  clear H
  try go_wp2_with (fail)
  replace O_5 := Am (Kd.R_drew O_5.out)
  replace O_260002 := Am (Kd.N_drew O_260002.out)
  replace B250 := Xbd B250
  replace B251 := Xbd B251
  replace B252 := Xbd B252
  replace B259 := Xbd B259
  replace HB := Xhd HB
  have p262 : 0 ≤ (x7_1 : Int) := Xo
  have q262 : x7_1 < (l0_2.length : Int) := Xo
  obtain ⟨ad262, A262_4, c262_4, e262, hx262_0, hx262_1, hx262_2, hx262_3, hx262_4, hl262_4, hi262_4⟩ := at_T43 HR0_2.out x7_1 p262 q262
  have hw262_4 := hx262_4
  have hw262_3 := hx262_3
  have hw262_2 := hx262_2
  have hw262_1 := hx262_1
  have hw262_0 := hx262_0
  obtain rfl : ad260 = ad262 := (by injection e262)
  replace hx262_0 := Xm HB hx262_0
  replace hx262_1 := Xm HB hx262_1
  replace hx262_2 := Xm HB hx262_2
  replace hx262_3 := Xm HB hx262_3
  replace hx262_4 := Xm HB hx262_4
  have HR262_4 := Am hi262_4
  have HC262_4 := Am hl262_4
  clear hi262_4 hl262_4
  replace p262 := eq_true p262
  replace q262 := eq_true q262
  refine start_ (n := 12) (S := fun w' => w'.cell? ⟨gb259, 0, none⟩ = some (.int .i64 a0_0) ∧ w'.cell? ⟨gb259, 1, none⟩ = some (.int .i64 a0_1) ∧ w'.cell? ⟨gb259, 2, none⟩ = some (u260002) ∧ w'.cell? ⟨gb250, 0, none⟩ = some (.int .i64 a0_0) ∧ w'.cell? ⟨gb250, 1, none⟩ = some (.int .i64 a0_1) ∧ w'.cell? ⟨gb250, 2, none⟩ = some (.slice (some ad260) l0_2.length c0_2) ∧ w'.cell? (ad260.add ((x7_1).toNat * 5)) = some (.int .i64 ((rd_T43 l0_2 x7_1).f0)) ∧ w'.cell? ⟨(ad260.add ((x7_1).toNat * 5)).block, (ad260.add ((x7_1).toNat * 5)).off + 1, none⟩ = some (.int .i64 ((rd_T43 l0_2 x7_1).f1)) ∧ w'.cell? ⟨(ad260.add ((x7_1).toNat * 5)).block, (ad260.add ((x7_1).toNat * 5)).off + 2, none⟩ = some (.int .i64 ((rd_T43 l0_2 x7_1).f2)) ∧ w'.cell? ⟨(ad260.add ((x7_1).toNat * 5)).block, (ad260.add ((x7_1).toNat * 5)).off + 3, none⟩ = some (.string ((rd_T43 l0_2 x7_1).f3)) ∧ w'.cell? ⟨(ad260.add ((x7_1).toNat * 5)).block, (ad260.add ((x7_1).toNat * 5)).off + 4, none⟩ = some (.slice A262_4 ((rd_T43 l0_2 x7_1).f4).length c262_4)) (ds := [11]) #[false, false, false, false, false, false, false, false, false, false, false, false] (by kernel_rfl) rfl rfl ⟨Xk B259 0, Xk B259 1, Xk B259 2, Xk B250 0, Xk B250 1, Xk B250 2, Xn hw262_0, Xn hw262_1, Xn hw262_2, Xn hw262_3, Xn hw262_4⟩ (fun hHeld => ?_); refine with_tabW spec_l02Splice.tab7 spec_l02Splice.bits7 (fun HT_ HW_ => ?_)
  generalize wr.drew = w35 at O_5 O_260002 B250 B251 B252 B259 HB HR262_4 hx262_0 hx262_1 hx262_2 hx262_3 hx262_4 hHeld ⊢
  refine Pu 0 41 12 1 ?_
  refine Pu 2 43 12 5 ?_
  refine Pu 4 45 12 21 ?_
  refine Ta 1 42 12 23 ?_
  refine Ta 3 44 12 31 ?_
  refine Pu 5 46 12 63 ?_
  refine Ta 6 47 12 127 ?_
  refine On 7 48 12 255 (fun K hK => ?_)
  refine Gs Try.func73 #[.agg #[.int .i64 ((rd_T43 l0_2 x7_1).f0), .int .i64 ((rd_T43 l0_2 x7_1).f1), .int .i64 ((rd_T43 l0_2 x7_1).f2), .string ((rd_T43 l0_2 x7_1).f3), .slice A262_4 ((rd_T43 l0_2 x7_1).f4).length c262_4]] ?_
  with_reducible refine (spec_l02OwnNode.calls ((rd_T43 l0_2 x7_1).f0) ((rd_T43 l0_2 x7_1).f1) ((rd_T43 l0_2 x7_1).f2) ((rd_T43 l0_2 x7_1).f3) _ _ ((rd_T43 l0_2 x7_1).f4) t263 t264 t265 t266 t267 _ ?s1 ?s2 A33.out).mono ?_
  (case s1 => exact Xc HR262_4)
  (case s2 => exact HC262_4.out)
  rintro e w36 ⟨v268, rfl, ho0, hb⟩
  refine ⟨_, rfl, ?_⟩
  replace O_260002 := Am (Kd.N_elder' (Xq O_260002) (Kd.R_base ho0) hb)
  have HO269 := Am (Kd.R_lower (Kd.R_new' (Kd.R_newM (M := fun k_ => (w.heap.size ≤ k_)) ho0 (below_size Xi) (fun k_ h_ => h_)) (Kd.R_lt (Xq O_5))) (below_size Xi))
  replace O_5 := Am (Kd.R_elder' (Xq O_5) (Kd.R_base ho0) hb)
  replace B250 := Xbb B250 hb
  replace B251 := Xbb B251 hb
  replace B252 := Xbb B252 hb
  replace B259 := Xbb B259 hb
  replace HB := Xhb hb
  try clear hb
  try clear hb2
  try clear hk
  try clear hi
  try clear ho0
  obtain ⟨Ao38, co38, eo38⟩ := Kd.R_slice HO269.out
  (first | subst eo38 | (injection eo38 with f1_ f2_ f3_; have f4_ := f1_.symm; have f5_ := f3_.symm; clear f1_ f2_ f3_; subst f4_; subst f5_))
  refine hK.out _ _ ⟨Xk B259 0, Xk B259 1, Xk B259 2, Xk B250 0, Xk B250 1, Xk B250 2, Xn hw262_0, Xn hw262_1, Xn hw262_2, Xn hw262_3, Xn hw262_4⟩ (fun hHeld => ?_)
  clear hK K
  refine Xno ?_
  refine On 8 49 12 511 (fun K hK => ?_)
  refine value_ (w1 := ?_) (v := ?_) (by rfl) rfl ?_ ?_
  rotate_left 2
  ·go_simp
   constructor
   ·rfl
   rfl
  refine hK.out _ _ ⟨(blk_cell (blk_alloc B259.out _) 0).trans rfl, (blk_cell (blk_alloc B259.out _) 1).trans rfl, (blk_cell (blk_alloc B259.out _) 2).trans rfl, (blk_cell (blk_alloc B250.out _) 0).trans rfl, (blk_cell (blk_alloc B250.out _) 1).trans rfl, (blk_cell (blk_alloc B250.out _) 2).trans rfl, (World.cell?_alloc_lt _ _ _ (World.block_lt_of_cell? _ _ (Xn hw262_0))).trans (Xn hw262_0), (World.cell?_alloc_lt _ _ _ (World.block_lt_of_cell? _ _ (Xn hw262_1))).trans (Xn hw262_1), (World.cell?_alloc_lt _ _ _ (World.block_lt_of_cell? _ _ (Xn hw262_2))).trans (Xn hw262_2), (World.cell?_alloc_lt _ _ _ (World.block_lt_of_cell? _ _ (Xn hw262_3))).trans (Xn hw262_3), (World.cell?_alloc_lt _ _ _ (World.block_lt_of_cell? _ _ (Xn hw262_4))).trans (Xn hw262_4)⟩ (fun hHeld => ?_)
  clear hK K
  refine Xno ?_
  refine On 9 50 12 1023 (fun K hK => ?_)
  refine Kd.N_append_step k43 (w0 := w) w.heap.size (by rfl) (.tmp 42) (.tmp 49) 27 43 (.agg #[(.int .i64 0), (.int .i64 0), (.int .i64 0), (.string ⟨#[]⟩), (.slice none 0 0)]) 64 rfl Try.underlying27 info43 rfl (by decide) (by omega) u260002 x260002_1 (⟨t263, t264, t265, t266, t267⟩ : S43) [.int .i64 t263, .int .i64 t264, .int .i64 t265, .string t266, .slice Ao38 t267.length co38] (fun k_ => (w.heap.size ≤ k_) ∧ some k_ ≠ (.slice Ao31 t253.length co31 : Value).ownBlock ∧ k_ ≠ gb250 ∧ k_ ≠ gb251 ∧ k_ ≠ gb252 ∧ k_ ≠ gb259) (fun k_ => ((fun k_ => (w.heap.size ≤ k_) ∧ some k_ ≠ (.slice Ao31 t253.length co31 : Value).ownBlock ∧ k_ ≠ gb250 ∧ k_ ≠ gb251 ∧ k_ ≠ gb252 ∧ k_ ≠ gb259)) k_ ∧ some k_ ≠ (u260002 : Value).ownBlock) rfl rfl ?aP (fun _ hk => hk) ?aF ?aO ?aB ?aS ?aL ?_
  (case aP => exact (k43_mkF _ _ (⟨t263, t264, t265, t266, t267⟩ : S43) (Kd.R_reads' (Kd.R_mono (ok' := (fun k_ => ((fun k_ => (w.heap.size ≤ k_) ∧ some k_ ≠ (.slice Ao31 t253.length co31 : Value).ownBlock ∧ k_ ≠ gb250 ∧ k_ ≠ gb251 ∧ k_ ≠ gb252 ∧ k_ ≠ gb259)) k_ ∧ some k_ ≠ (u260002 : Value).ownBlock)) (Kd.R_types (Kd.R_types (Kd.R_types (Kd.R_types (Kd.R_apart' (HO269.out) (Kd.N_typed O_260002.out) (by decide)) B250.out (by decide)) B251.out (by decide)) B252.out (by decide)) B259.out (by decide)) (fun k_ hk => ⟨⟨hk.1.1.1.1.1.1.1, ⟨hk.1.1.1.1.1.2, ⟨hk.1.1.1.2, ⟨hk.1.1.2, ⟨hk.1.2, hk.2⟩⟩⟩⟩⟩, hk.1.1.1.1.2⟩))).2.1 (Kd.R_F (by (with_reducible repeat (first | apply Kd.R_alloc | apply Kd.R_drewN | apply Kd.R_drew)); exact (Kd.R_mono (ok' := (fun k_ => ((fun k_ => (w.heap.size ≤ k_) ∧ some k_ ≠ (.slice Ao31 t253.length co31 : Value).ownBlock ∧ k_ ≠ gb250 ∧ k_ ≠ gb251 ∧ k_ ≠ gb252 ∧ k_ ≠ gb259)) k_ ∧ some k_ ≠ (u260002 : Value).ownBlock)) (Kd.R_types (Kd.R_types (Kd.R_types (Kd.R_types (Kd.R_apart' (HO269.out) (Kd.N_typed O_260002.out) (by decide)) B250.out (by decide)) B251.out (by decide)) B252.out (by decide)) B259.out (by decide)) (fun k_ hk => ⟨⟨hk.1.1.1.1.1.1.1, ⟨hk.1.1.1.1.1.2, ⟨hk.1.1.1.2, ⟨hk.1.1.2, ⟨hk.1.2, hk.2⟩⟩⟩⟩⟩, hk.1.1.1.1.2⟩))))))
  (case aB => exact Xi)
  (case aF => exact (fun k_ hk => ⟨(Nat.le_trans (below_size Xi) hk), Kd.fresh' (Kd.R_lt (Xq O_5)) k_ hk, Kd.freshB (g := gb250) (o := .cells #[.int .i64 a0_0, .int .i64 a0_1, .slice (some ad260) l0_2.length c0_2] 29 (0, 0)) (Xq' B250) k_ hk, Kd.freshB (g := gb251) (o := .cells #[.int .i64 a1_0, .int .i64 a1_1, .slice A1_2 l1_2.length c1_2] 29 (0, 0)) (Xq' B251) k_ hk, Kd.freshB (g := gb252) (o := .cells #[.int .i64 0, .int .i64 0, .slice none 0 0] 29 (0, 0)) (Xq' B252) k_ hk, Kd.freshB (g := gb259) (o := .cells #[.int .i64 a0_0, .int .i64 a0_1, u260002] 29 (0, 0)) (Xq' B259) k_ hk⟩))
  (case aO => exact (by (with_reducible repeat (first | apply Kd.N_alloc | apply Kd.N_drewN | apply Kd.N_drew)); exact Kd.N_mono O_260002.out (fun _ hk => ⟨hk.1.1, ⟨hk.1.2.1, ⟨hk.1.2.2.1, ⟨hk.1.2.2.2.1, ⟨hk.1.2.2.2.2.1, hk.1.2.2.2.2.2⟩⟩⟩⟩⟩)))
  (case aS => exact (below_size Xi))
  (case aL => have := LMc34.out; omega)
  intro v271 w37 ho hb hg hat
  rw [← Ny270.out] at ho
  replace O_5 := Am (Kd.R_over' (Xq O_5) (Kd.N_typed (Xq O_260002)) (by decide) hg)
  replace B250 := Am (blk_grown (g := gb250) (o := .cells #[.int .i64 a0_0, .int .i64 a0_1, .slice (some ad260) l0_2.length c0_2] 29 (0, 0)) (Xq' B250) hg (Kd.N_ne O_260002.out B250.out (by decide)))
  replace B251 := Am (blk_grown (g := gb251) (o := .cells #[.int .i64 a1_0, .int .i64 a1_1, .slice A1_2 l1_2.length c1_2] 29 (0, 0)) (Xq' B251) hg (Kd.N_ne O_260002.out B251.out (by decide)))
  replace B252 := Am (blk_grown (g := gb252) (o := .cells #[.int .i64 0, .int .i64 0, .slice none 0 0] 29 (0, 0)) (Xq' B252) hg (Kd.N_ne O_260002.out B252.out (by decide)))
  replace B259 := Am (blk_grown (g := gb259) (o := .cells #[.int .i64 a0_0, .int .i64 a0_1, u260002] 29 (0, 0)) (Xq' B259) hg (Kd.N_ne O_260002.out B259.out (by decide)))
  replace HB := Am (hb)
  have HO272 := Am (ho)
  clear O_260002
  clear HO269
  clear ho hb hg hat
  obtain ⟨Ao39, co39, eo39⟩ := Kd.N_slice HO272.out
  (first | subst eo39 | (injection eo39 with f1_ f2_ f3_; have f4_ := f1_.symm; have f5_ := f3_.symm; clear f1_ f2_ f3_; subst f4_; subst f5_))
  refine hK.out _ _ ⟨Xk B259 0, Xk B259 1, Xk B259 2, Xk B250 0, Xk B250 1, Xk B250 2, Xn hw262_0, Xn hw262_1, Xn hw262_2, Xn hw262_3, Xn hw262_4⟩ (fun hHeld => ?_)
  clear hK K
  refine Xno ?_
  refine Pu 10 51 12 2047 ?_
  refine last_ (i := 11) (N := none) #[true, true, true, true, true, true, true, true, true, true, true, true] rfl rfl (one_of HT_.out (by kernel_rfl)) (by decide) (fun K hK => ?_)
  have hs40 : w37.cell? ⟨gb259, 2, none⟩ = some (u260002) := Xk B259 2
  have hfs40 := blk_frozen B259.out 2
  have hns40_0 := NB250_259.out
  have hns40_1 := NB251_259.out
  have hns40_2 := NB252_259.out
  have hms40_0 := NB259_250.out
  have hms40_1 := NB259_251.out
  have hms40_2 := NB259_252.out
  refine skip_ (w1 := ?_) (by rfl) rfl ?_ ?_
  rotate_left
  ·go_simp
   rfl
  refine hK.out _ _ ?_
  clear hK K
  refine Dn ?_
  try go_wp2_with (fail)
  go_roundg k1
  case measure => have := HK1.out; omega
  case rel => exact ⟨(wrap64 (x7_1 + 1)), (y270), (.slice Ao39 y270.length co39), Xr, H', Xk1, ⟨by (with_reducible repeat (first | apply Kd.R_alloc | apply Kd.R_drewN | apply Kd.R_drew)); exact Kd.R_mono (Kd.R_far (p := ⟨gb259, 2, none⟩) (Kd.R_types O_5.out B259.out (by decide)) (fun _ hk => hk.2) (.slice Ao39 y270.length co39)) (fun _ hk => hk.1.1)⟩, ⟨by (with_reducible repeat (first | apply Kd.N_alloc | apply Kd.N_drewN | apply Kd.N_drew)); exact Kd.N_mono (Kd.N_far (p := ⟨gb259, 2, none⟩) (Kd.N_mono HO272.out (fun k_ hk => (⟨hk, hk.2.2.2.2.2⟩ : _ ∧ k_ ≠ gb259))) (fun _ hk => hk.2) (.slice Ao39 y270.length co39)) (fun _ hk => ⟨hk.1.1, ⟨hk.1.2.1, ⟨hk.1.2.2.1, ⟨hk.1.2.2.2.1, ⟨hk.1.2.2.2.2.1, hk.1.2.2.2.2.2⟩⟩⟩⟩⟩)⟩, ⟨by refine Xu ?_; refine blk_far ?_ NB250_259.out _; refine Xu ?_; exact B250.out⟩, ⟨by refine Xu ?_; refine blk_far ?_ NB251_259.out _; refine Xu ?_; exact B251.out⟩, ⟨by refine Xu ?_; refine blk_far ?_ NB252_259.out _; refine Xu ?_; exact B252.out⟩, ⟨by refine Xu ?_; refine blk_put (cs := #[.int .i64 a0_0, .int .i64 a0_1, u260002]) ?_ 2 _ rfl; refine Xu ?_; exact B259.out⟩, ⟨Xi⟩⟩
 obtain ⟨y273, hy273⟩ : ∃ y_ : List Int, y_ = (([] : List Int)) := ⟨_, rfl⟩
 replace H : ((spec_l02Order.f k1 a1_0 a1_1 l1_2 a1_0).bind fun t279 => (spec_l02Splice.l1 k1 t253 y273 (([] : List Int)) t279 0 a1_0 a1_1 l1_2 a0_0 a0_1 x260002_1)) = some (r1, r2, r3) := by first | (rw [hy273]; with_reducible exact H) | (have H2_ := (Option.bind_some _ _).symm.trans H; rw [hy273]; with_reducible exact H2_) | (have H2_ := (Option.bind_some _ _).symm.trans H; with_reducible exact H2_) | with_reducible exact H | (rw [hy273]; exact H) | exact H
 have Ny273 := Am hy273
 clear hy273
 obtain ⟨y276, hy276⟩ : ∃ y_ : List Int, y_ = (([] : List Int)) := ⟨_, rfl⟩
 replace H : ((spec_l02Order.f k1 a1_0 a1_1 l1_2 a1_0).bind fun t279 => (spec_l02Splice.l1 k1 t253 y273 y276 t279 0 a1_0 a1_1 l1_2 a0_0 a0_1 x260002_1)) = some (r1, r2, r3) := by first | (rw [hy276]; with_reducible exact H) | (have H2_ := (Option.bind_some _ _).symm.trans H; rw [hy276]; with_reducible exact H2_) | (have H2_ := (Option.bind_some _ _).symm.trans H; with_reducible exact H2_) | with_reducible exact H | (rw [hy276]; exact H) | exact H
 have Ny276 := Am hy276
 clear hy276
 obtain ⟨t279, A41, H⟩ := Xbi H
 try dsimp only at H
 have H' := Am H
 clear H
 have hnb42 := NB250_251.out
 have hnc42 := NB251_250.out
 have hnb43 := NB250_252.out
 have hnc43 := NB252_250.out
 have hnb44 := NB250_259.out
 have hnc44 := NB259_250.out
 obtain ⟨Z45_0, Z45_1, Z45_2⟩ := Xc3 B250
 obtain ⟨F45_0, F45_1, F45_2⟩ := Xf3 B250
 go_wp2_with (first | ((with_reducible refine gate_dst (N := 52) rfl ?_); refine Kd.R_lit (Kd.int .i64) _ 3 ?hg (N := 52) ?hd (xs := ([] : List Int)) (inner := []) (ok := fun _ => True) (okp := fun _ => True) ?hr ?hp (fun _ hk => hk) trivial (Below.refl _ _) (Nat.le_refl _) (by simp) ?_; (case hd => rfl); (case hg => rfl); (case hr => first | (go_simp; done) | (go_simp; rfl)); (case hp => exact (Reps.none _ _)); intro v274 w46 ho47 hb hg_ hnew_; clear hg_ hnew_; (first | rw [← Ny273.out] at ho47 | (simp only [Int.reduceToNat] at ho47; rw [← Ny273.out] at ho47)); replace O_260002 := Am (Kd.N_elder' (Xq O_260002) (Kd.R_base ho47) hb); have HO275 := Am (Kd.R_lower (Kd.R_new' (Kd.R_newM (M := fun k_ => (w.heap.size ≤ k_)) ho47 (below_size Xi) (fun k_ h_ => h_)) (Kd.R_lt (Xq O_5))) (below_size Xi)); replace O_5 := Am (Kd.R_elder' (Xq O_5) (Kd.R_base ho47) hb); replace B250 := Xbb B250 hb; replace B251 := Xbb B251 hb; replace B252 := Xbb B252 hb; replace B259 := Xbb B259 hb; replace HB := Xhb hb; clear hb ho47) | ((with_reducible refine gate_dst (N := 53) rfl ?_); refine Kd.R_lit (Kd.int .i64) _ 3 ?hg (N := 53) ?hd (xs := ([] : List Int)) (inner := []) (ok := fun _ => True) (okp := fun _ => True) ?hr ?hp (fun _ hk => hk) trivial (Below.refl _ _) (Nat.le_refl _) (by simp) ?_; (case hd => rfl); (case hg => rfl); (case hr => first | (go_simp; done) | (go_simp; rfl)); (case hp => exact (Reps.none _ _)); intro v277 w48 ho49 hb hg_ hnew_; clear hg_ hnew_; (first | rw [← Ny276.out] at ho49 | (simp only [Int.reduceToNat] at ho49; rw [← Ny276.out] at ho49)); replace O_260002 := Am (Kd.N_elder' (Xq O_260002) (Kd.R_base ho49) hb); have HO278 := Am (Kd.R_lower (Kd.R_new' (Kd.R_new' (Kd.R_newM (M := fun k_ => (w.heap.size ≤ k_)) ho49 (below_size Xi) (fun k_ h_ => h_)) (Kd.R_lt (Xq O_5))) (Kd.R_lt (Xq HO275))) (below_size Xi)); replace O_5 := Am (Kd.R_elder' (Xq O_5) (Kd.R_base ho49) hb); replace HO275 := Am (Kd.R_elder' (Xq HO275) (Kd.R_base ho49) hb); replace B250 := Xbb B250 hb; replace B251 := Xbb B251 hb; replace B252 := Xbb B252 hb; replace B259 := Xbb B259 hb; replace HB := Xhb hb; clear hb ho49; have hnb50 := NB251_252.out; have hnc50 := NB252_251.out; have hnb51 := NB251_259.out; have hnc51 := NB259_251.out; obtain ⟨Z52_0, Z52_1, Z52_2⟩ := Xc3 B251; obtain ⟨F52_0, F52_1, F52_2⟩ := Xf3 B251) | ((with_reducible refine gate_callee (f := 65) rfl ?_); refine Xgo 57 Try.func65 #[.agg #[.int .i64 a1_0, .int .i64 a1_1, .slice A1_2 l1_2.length c1_2], .int .i64 a1_0] ?_; (with_reducible refine (spec_l02Order.calls k1 a1_0 a1_1 _ _ l1_2 a1_0 t279 _ ?s1 ?s2 A41.out).mono ?_); (case s1 => exact Xc HR1_2); (case s2 => exact HC1_2.out); rintro e w53 ⟨v280, rfl, ho0, hb⟩; refine ⟨_, rfl, ?_⟩; replace O_260002 := Am (Kd.N_elder' (Xq O_260002) (Kd.R_base ho0) hb); have HO281 := Am (Kd.R_lower (Kd.R_new' (Kd.R_new' (Kd.R_new' (Kd.R_newM (M := fun k_ => (w.heap.size ≤ k_)) ho0 (below_size Xi) (fun k_ h_ => h_)) (Kd.R_lt (Xq O_5))) (Kd.R_lt (Xq HO275))) (Kd.R_lt (Xq HO278))) (below_size Xi)); replace O_5 := Am (Kd.R_elder' (Xq O_5) (Kd.R_base ho0) hb); replace HO275 := Am (Kd.R_elder' (Xq HO275) (Kd.R_base ho0) hb); replace HO278 := Am (Kd.R_elder' (Xq HO278) (Kd.R_base ho0) hb); replace B250 := Xbb B250 hb; replace B251 := Xbb B251 hb; replace B252 := Xbb B252 hb; replace B259 := Xbb B259 hb; replace HB := Xhb hb; clear hb; (try clear ho0)))
 go_loopg [8, 9, 11] k1 (fun kq v8 v9 v11 w' => ∃ (x8_2 : List Int) (x9_2 : List Int) (x11_2 : Int) (x260001_2 : Int), v11 = .int .i64 x11_2 ∧ Aside0 (spec_l02Splice.l1 kq t253 x8_2 x9_2 t279 x11_2 a1_0 a1_1 l1_2 a0_0 x260001_2 x260002_1 = some (r1, r2, r3)) ∧ Aside0 (kq ≤ k1) ∧ Aside0 (Kd.R (Kd.int .i64) 3 w' w.heap.size (fun k_ => (w.heap.size ≤ k_) ∧ some k_ ≠ (v8 : Value).ownBlock ∧ some k_ ≠ (v9 : Value).ownBlock ∧ some k_ ≠ (v280 : Value).ownBlock) v254 t253) ∧ Aside0 (Kd.R (Kd.int .i64) 3 w' w.heap.size (fun k_ => (w.heap.size ≤ k_) ∧ some k_ ≠ (v254 : Value).ownBlock ∧ some k_ ≠ (v9 : Value).ownBlock ∧ some k_ ≠ (v280 : Value).ownBlock) v8 x8_2) ∧ Aside0 (Kd.R (Kd.int .i64) 3 w' w.heap.size (fun k_ => (w.heap.size ≤ k_) ∧ some k_ ≠ (v254 : Value).ownBlock ∧ some k_ ≠ (v8 : Value).ownBlock ∧ some k_ ≠ (v280 : Value).ownBlock) v9 x9_2) ∧ Aside0 (Kd.R (Kd.int .i64) 3 w' w.heap.size (fun k_ => (w.heap.size ≤ k_) ∧ some k_ ≠ (v254 : Value).ownBlock ∧ some k_ ≠ (v8 : Value).ownBlock ∧ some k_ ≠ (v9 : Value).ownBlock) v280 t279) ∧ Aside0 (Kd.N k43 43 w' w.heap.size (fun k_ => (w.heap.size ≤ k_) ∧ some k_ ≠ (v254 : Value).ownBlock ∧ some k_ ≠ (v8 : Value).ownBlock ∧ some k_ ≠ (v9 : Value).ownBlock ∧ some k_ ≠ (v280 : Value).ownBlock ∧ k_ ≠ gb250 ∧ k_ ≠ gb251 ∧ k_ ≠ gb252 ∧ k_ ≠ gb259) u260002 x260002_1) ∧ Aside0 (w'.heap[gb250]? = some (.cells #[.int .i64 a0_0, .int .i64 a0_1, (.slice A0_2 l0_2.length c0_2)] 29 (0, 0))) ∧ Aside0 (w'.heap[gb251]? = some (.cells #[.int .i64 a1_0, .int .i64 a1_1, (.slice A1_2 l1_2.length c1_2)] 29 (0, 0))) ∧ Aside0 (w'.heap[gb252]? = some (.cells #[.int .i64 0, .int .i64 0, (.slice none 0 0)] 29 (0, 0))) ∧ Aside0 (w'.heap[gb259]? = some (.cells #[.int .i64 a0_0, .int .i64 x260001_2, u260002] 29 (0, 0))) ∧ Aside0 (Below w.heap.size w w'))
 case atStart => exact ⟨(y273), (y276), (0), (a0_1), Xr, H', Xkr, ⟨by (with_reducible repeat (first | apply Kd.R_alloc | apply Kd.R_drewN | apply Kd.R_drew)); exact Kd.R_mono O_5.out (fun _ hk => ⟨hk.1.1.1, ⟨hk.1.1.2, ⟨hk.1.2, hk.2⟩⟩⟩)⟩, ⟨by (with_reducible repeat (first | apply Kd.R_alloc | apply Kd.R_drewN | apply Kd.R_drew)); exact Kd.R_mono HO275.out (fun _ hk => ⟨hk.1.1.1.1, ⟨hk.1.1.2, ⟨hk.1.2, hk.2⟩⟩⟩)⟩, ⟨by (with_reducible repeat (first | apply Kd.R_alloc | apply Kd.R_drewN | apply Kd.R_drew)); exact Kd.R_mono HO278.out (fun _ hk => ⟨hk.1.1.1.1, ⟨hk.1.1.2, ⟨hk.1.2, hk.2⟩⟩⟩)⟩, ⟨by (with_reducible repeat (first | apply Kd.R_alloc | apply Kd.R_drewN | apply Kd.R_drew)); exact Kd.R_mono HO281.out (fun _ hk => ⟨hk.1.1.1.1, ⟨hk.1.1.2, ⟨hk.1.2, hk.2⟩⟩⟩)⟩, ⟨by (with_reducible repeat (first | apply Kd.N_alloc | apply Kd.N_drewN | apply Kd.N_drew)); exact Kd.N_mono O_260002.out (fun _ hk => ⟨hk.1.1.1.1, ⟨hk.1.1.1.2.1, ⟨hk.1.1.2, ⟨hk.1.2, ⟨hk.2, ⟨hk.1.1.1.2.2.1, ⟨hk.1.1.1.2.2.2.1, ⟨hk.1.1.1.2.2.2.2.1, hk.1.1.1.2.2.2.2.2⟩⟩⟩⟩⟩⟩⟩⟩)⟩, (Xp B250), (Xp B251), (Xp B252), (Xp B259), ⟨Xi⟩⟩
 clear H'
 (try clear c23); (try clear c23b0); (try clear Z11_0); (try clear Z11_1); (try clear Z11_2); (try clear Z13_0); (try clear Z13_1); (try clear Z13_2); (try clear Z21_0); (try clear Z21_1); (try clear Z21_2); (try clear Z45_0); (try clear Z45_1); (try clear Z45_2); (try clear Z52_0); (try clear Z52_1); (try clear Z52_2); (try clear Z9_0); (try clear Z9_1); (try clear Z9_2); (try clear F11_0); (try clear F11_1); (try clear F11_2); (try clear F13_0); (try clear F13_1); (try clear F13_2); (try clear F21_0); (try clear F21_1); (try clear F21_2); (try clear F45_0); (try clear F45_1); (try clear F45_2); (try clear F52_0); (try clear F52_1); (try clear F52_2); (try clear F9_0); (try clear F9_1); (try clear F9_2)
 obtain ⟨x8_2, x9_2, x11_2, x260001_2, rfl, HA, HK2, O_5, O_8, O_9, O_10, O_260002, B250, B251, B252, B259, HB⟩ := hrel
 cases gk with | zero => cases HA.out | succ k2 => ?_
 have H := HA.out
 clear HA
 simp only [spec_l02Splice.l1] at H
 obtain ⟨c54b0, H⟩ | ⟨c54b0, H⟩ := Xit H
 ·obtain ⟨c55b0, H⟩ := Xid H
  obtain ⟨c56, H⟩ := Xif H
  have LMc56 := Am c56
  clear c56
  obtain ⟨y283, hy283⟩ : ∃ y_ : List Int, y_ = (x8_2 ++ [rd t279 x11_2]) := ⟨_, rfl⟩
  replace H : ((spec_l02Has.f k2 t253 (rd t279 x11_2)).bind fun t287 => (if t287 = true then (if x9_2.length < 17592186044416 then (spec_l02Splice.l1 k2 t253 y283 (x9_2 ++ [rd t279 x11_2]) t279 (wrap64 (x11_2 + 1)) a1_0 a1_1 l1_2 a0_0 x260001_2 x260002_1) else (none)) else (if x9_2.length < 17592186044416 then (spec_l02Splice.l1 k2 t253 y283 (x9_2 ++ [x260001_2]) t279 (wrap64 (x11_2 + 1)) a1_0 a1_1 l1_2 a0_0 (wrap64 (x260001_2 + 1)) x260002_1) else (none)))) = some (r1, r2, r3) := by first | (rw [hy283]; with_reducible exact H) | (have H2_ := (Option.bind_some _ _).symm.trans H; rw [hy283]; with_reducible exact H2_) | (have H2_ := (Option.bind_some _ _).symm.trans H; with_reducible exact H2_) | with_reducible exact H | (rw [hy283]; exact H) | exact H
  have Ny283 := Am hy283
  clear hy283
  obtain ⟨t287, A57, H⟩ := Xbi H
  try dsimp only at H
  have HC58 := Am H
  clear H
  obtain ⟨Ao59, co59, eo59⟩ := Kd.R_slice O_10.out
  subst eo59
  have p282 : 0 ≤ (x11_2 : Int) := Xo
  have q282 : x11_2 < (t279.length : Int) := Xo
  obtain ⟨ad282, e282, hx282_0⟩ := Kd.at_int (Kd.R_reads' O_10.out).2.2 x11_2 p282 q282
  cases e282
  replace p282 := eq_true p282
  replace q282 := eq_true q282
  go_upto_if 76 with (first | ((with_reducible refine gate_builtin (b := .append) (xs := #[.tmp 64, .tmp 69]) rfl ?_); at_builtin; refine Kd.R_append (Kd.int .i64) (w0 := w) w.heap.size rfl (.tmp 64) (.tmp 69) 37 3 (.int .i64 0) 8 rfl Try.underlying37 info3 rfl (by decide) (by omega) u8 x8_2 (rd t279 x11_2) [.int .i64 (rd t279 x11_2)] (fun k_ => (w.heap.size ≤ k_) ∧ some k_ ≠ (v254 : Value).ownBlock ∧ some k_ ≠ (u9 : Value).ownBlock ∧ some k_ ≠ (.slice (some ad282) t279.length co59 : Value).ownBlock) (fun _ => False) rfl rfl ?aP (fun _ hk => hk.elim) ?aF ?aO ?aB ?aS ?aL ?_; (case aP => exact rfl); (case aB => exact Xi); (case aF => exact (fun k_ hk => ⟨(Nat.le_trans (below_size Xi) hk), Kd.fresh' (Kd.R_lt (Xq O_5)) k_ hk, Kd.fresh' (Kd.R_lt (Xq O_9)) k_ hk, Kd.fresh' (Kd.R_lt (Xq O_10)) k_ hk⟩)); (case aO => exact (Xq O_8)); (case aS => exact (below_size Xi)); (case aL => have := LMc56.out; omega); intro v284 w60 ho hb hg hat; rw [← Ny283.out] at ho; replace O_5 := Am (Kd.R_after (ok := (fun k_ => (w.heap.size ≤ k_) ∧ some k_ ≠ (u9 : Value).ownBlock ∧ some k_ ≠ (.slice (some ad282) t279.length co59 : Value).ownBlock)) (by (with_reducible repeat (first | apply Kd.R_alloc | apply Kd.R_drewN | apply Kd.R_drew)); exact Kd.R_mono O_5.out (fun _ hk => ⟨⟨hk.1, ⟨hk.2.2.1, hk.2.2.2⟩⟩, hk.2.1⟩)) hg hat); replace O_9 := Am (Kd.R_after (ok := (fun k_ => (w.heap.size ≤ k_) ∧ some k_ ≠ (v254 : Value).ownBlock ∧ some k_ ≠ (.slice (some ad282) t279.length co59 : Value).ownBlock)) (by (with_reducible repeat (first | apply Kd.R_alloc | apply Kd.R_drewN | apply Kd.R_drew)); exact Kd.R_mono O_9.out (fun _ hk => ⟨⟨hk.1, ⟨hk.2.1, hk.2.2.2⟩⟩, hk.2.2.1⟩)) hg hat); replace O_10 := Am (Kd.R_after (ok := (fun k_ => (w.heap.size ≤ k_) ∧ some k_ ≠ (v254 : Value).ownBlock ∧ some k_ ≠ (u9 : Value).ownBlock)) (by (with_reducible repeat (first | apply Kd.R_alloc | apply Kd.R_drewN | apply Kd.R_drew)); exact Kd.R_mono O_10.out (fun _ hk => ⟨⟨hk.1, ⟨hk.2.1, hk.2.2.2⟩⟩, hk.2.2.1⟩)) hg hat); replace O_260002 := Am (Kd.N_afterv (ok := (fun k_ => (w.heap.size ≤ k_) ∧ some k_ ≠ (v254 : Value).ownBlock ∧ some k_ ≠ (u9 : Value).ownBlock ∧ some k_ ≠ (.slice (some ad282) t279.length co59 : Value).ownBlock ∧ k_ ≠ gb250 ∧ k_ ≠ gb251 ∧ k_ ≠ gb252 ∧ k_ ≠ gb259)) (by (with_reducible repeat (first | apply Kd.N_alloc | apply Kd.N_drewN | apply Kd.N_drew)); exact Kd.N_mono O_260002.out (fun _ hk => ⟨⟨hk.1, ⟨hk.2.1, ⟨hk.2.2.2.1, ⟨hk.2.2.2.2.1, ⟨hk.2.2.2.2.2.1, ⟨hk.2.2.2.2.2.2.1, ⟨hk.2.2.2.2.2.2.2.1, hk.2.2.2.2.2.2.2.2⟩⟩⟩⟩⟩⟩⟩, hk.2.2.1⟩)) hg hat); replace B250 := Am (blk_grown (g := gb250) (o := .cells #[.int .i64 a0_0, .int .i64 a0_1, .slice A0_2 l0_2.length c0_2] 29 (0, 0)) (Xq' B250) hg (Kd.R_ne O_8.out B250.out (by decide))); replace B251 := Am (blk_grown (g := gb251) (o := .cells #[.int .i64 a1_0, .int .i64 a1_1, .slice A1_2 l1_2.length c1_2] 29 (0, 0)) (Xq' B251) hg (Kd.R_ne O_8.out B251.out (by decide))); replace B252 := Am (blk_grown (g := gb252) (o := .cells #[.int .i64 0, .int .i64 0, .slice none 0 0] 29 (0, 0)) (Xq' B252) hg (Kd.R_ne O_8.out B252.out (by decide))); replace B259 := Am (blk_grown (g := gb259) (o := .cells #[.int .i64 a0_0, .int .i64 x260001_2, u260002] 29 (0, 0)) (Xq' B259) hg (Kd.R_ne O_8.out B259.out (by decide))); replace HB := Am (hb); have HO285 := Am (ho); clear O_8; clear ho hb hg hat; have p286 : 0 ≤ (x11_2 : Int) := Xo; have q286 : x11_2 < (t279.length : Int) := Xo; obtain ⟨ad286, e286, hx286_0⟩ := Kd.at_int (Kd.R_reads' O_10.out).2.2 x11_2 p286 q286; obtain rfl : ad282 = ad286 := (by injection e286); replace p286 := eq_true p286; replace q286 := eq_true q286; obtain ⟨Ao61, co61, eo61⟩ := Kd.R_slice O_5.out; subst eo61) | ((with_reducible refine gate_callee (f := 102) rfl ?_); refine Xgo 76 Try.func102 #[.slice Ao61 t253.length co61, .int .i64 (rd t279 x11_2)] ?_; (with_reducible refine (spec_l02Has.calls k2 _ _ t253 (rd t279 x11_2) t287 _ ?s1 ?s2 A57.out).mono ?_); (case s1 => exact Xcd (Kd.R_reads' O_5.out).2.2); (case s2 => exact (Kd.R_reads' O_5.out).2.1); rintro e w' ⟨rfl, ⟨nd, rfl⟩⟩; refine ⟨_, rfl, ?_⟩))
  (try (rw [drewN_self w60]; generalize hq_ : World.drewN w60 _ = w60; have n0_ : Aside0 (Kd.R (Kd.int .i64) 3 w60 w.heap.size (fun k_ => (w.heap.size ≤ k_) ∧ some k_ ≠ (.slice Ao61 t253.length co61 : Value).ownBlock ∧ some k_ ≠ (u9 : Value).ownBlock ∧ some k_ ≠ (.slice (some ad282) t279.length co59 : Value).ownBlock) v284 y283) := ⟨by rw [← hq_]; exact (Xq HO285)⟩; have n1_ : Aside0 (Kd.R (Kd.int .i64) 3 w60 w.heap.size (fun k_ => (w.heap.size ≤ k_) ∧ some k_ ≠ (.slice Ao61 t253.length co61 : Value).ownBlock ∧ some k_ ≠ (u9 : Value).ownBlock ∧ some k_ ≠ (v284 : Value).ownBlock) (.slice (some ad282) t279.length co59) t279) := ⟨by rw [← hq_]; exact (by (with_reducible repeat (first | apply Kd.R_alloc | apply Kd.R_drewN | apply Kd.R_drew)); exact Kd.R_mono O_10.out (fun _ hk => ⟨hk.1.1, ⟨hk.1.2.1, ⟨hk.1.2.2, hk.2⟩⟩⟩))⟩; have n2_ : Aside0 (Kd.N k43 43 w60 w.heap.size (fun k_ => (w.heap.size ≤ k_) ∧ some k_ ≠ (.slice Ao61 t253.length co61 : Value).ownBlock ∧ some k_ ≠ (u9 : Value).ownBlock ∧ some k_ ≠ (.slice (some ad282) t279.length co59 : Value).ownBlock ∧ some k_ ≠ (v284 : Value).ownBlock ∧ k_ ≠ gb250 ∧ k_ ≠ gb251 ∧ k_ ≠ gb252 ∧ k_ ≠ gb259) u260002 x260002_1) := ⟨by rw [← hq_]; exact (by (with_reducible repeat (first | apply Kd.N_alloc | apply Kd.N_drewN | apply Kd.N_drew)); exact Kd.N_mono O_260002.out (fun _ hk => ⟨hk.1.1, ⟨hk.1.2.1, ⟨hk.1.2.2.1, ⟨hk.1.2.2.2.1, ⟨hk.2, ⟨hk.1.2.2.2.2.1, ⟨hk.1.2.2.2.2.2.1, ⟨hk.1.2.2.2.2.2.2.1, hk.1.2.2.2.2.2.2.2⟩⟩⟩⟩⟩⟩⟩⟩))⟩; have n3_ : Aside0 (Kd.R (Kd.int .i64) 3 w60 w.heap.size (fun k_ => (w.heap.size ≤ k_) ∧ some k_ ≠ (u9 : Value).ownBlock ∧ some k_ ≠ (.slice (some ad282) t279.length co59 : Value).ownBlock ∧ some k_ ≠ (v284 : Value).ownBlock) (.slice Ao61 t253.length co61) t253) := ⟨by rw [← hq_]; exact (by (with_reducible repeat (first | apply Kd.R_alloc | apply Kd.R_drewN | apply Kd.R_drew)); exact Kd.R_mono O_5.out (fun _ hk => ⟨hk.1.1, ⟨hk.1.2.1, ⟨hk.1.2.2, hk.2⟩⟩⟩))⟩; have n4_ : Aside0 (Kd.R (Kd.int .i64) 3 w60 w.heap.size (fun k_ => (w.heap.size ≤ k_) ∧ some k_ ≠ (.slice Ao61 t253.length co61 : Value).ownBlock ∧ some k_ ≠ (.slice (some ad282) t279.length co59 : Value).ownBlock ∧ some k_ ≠ (v284 : Value).ownBlock) u9 x9_2) := ⟨by rw [← hq_]; exact (by (with_reducible repeat (first | apply Kd.R_alloc | apply Kd.R_drewN | apply Kd.R_drew)); exact Kd.R_mono O_9.out (fun _ hk => ⟨hk.1.1, ⟨hk.1.2.1, ⟨hk.1.2.2, hk.2⟩⟩⟩))⟩; have n5_ : Aside0 (w60.heap[gb250]? = some (.cells #[.int .i64 a0_0, .int .i64 a0_1, .slice A0_2 l0_2.length c0_2] 29 (0, 0))) := ⟨by rw [← hq_]; exact (Xq' B250)⟩; have n6_ : Aside0 (w60.heap[gb251]? = some (.cells #[.int .i64 a1_0, .int .i64 a1_1, .slice A1_2 l1_2.length c1_2] 29 (0, 0))) := ⟨by rw [← hq_]; exact (Xq' B251)⟩; have n7_ : Aside0 (w60.heap[gb252]? = some (.cells #[.int .i64 0, .int .i64 0, .slice none 0 0] 29 (0, 0))) := ⟨by rw [← hq_]; exact (Xq' B252)⟩; have n8_ : Aside0 (w60.heap[gb259]? = some (.cells #[.int .i64 a0_0, .int .i64 x260001_2, u260002] 29 (0, 0))) := ⟨by rw [← hq_]; exact (Xq' B259)⟩; have n9_ : Aside0 (Below w.heap.size w w60) := ⟨by rw [← hq_]; exact Xi⟩; clear HO285 O_10 O_260002 O_5 O_9 B250 B251 B252 B259 HB hq_; have HO285 := n0_; have O_10 := n1_; have O_260002 := n2_; have O_5 := n3_; have O_9 := n4_; have B250 := n5_; have B251 := n6_; have B252 := n7_; have B259 := n8_; have HB := n9_; clear n0_ n1_ n2_ n3_ n4_ n5_ n6_ n7_ n8_ n9_))
  have H := HC58.out
  clear HC58
  by_cases c62 : t287 = true
  ·subst c62
   try rw [if_pos rfl] at H
   obtain ⟨c63, H⟩ := Xif H
   have LMc63 := Am c63
   clear c63
   obtain ⟨y289, hy289⟩ : ∃ y_ : List Int, y_ = (x9_2 ++ [rd t279 x11_2]) := ⟨_, rfl⟩
   replace H : (spec_l02Splice.l1 k2 t253 y283 y289 t279 (wrap64 (x11_2 + 1)) a1_0 a1_1 l1_2 a0_0 x260001_2 x260002_1) = some (r1, r2, r3) := by first | (rw [hy289]; with_reducible exact H) | (have H2_ := (Option.bind_some _ _).symm.trans H; rw [hy289]; with_reducible exact H2_) | (have H2_ := (Option.bind_some _ _).symm.trans H; with_reducible exact H2_) | with_reducible exact H | (rw [hy289]; exact H) | exact H
   have Ny289 := Am hy289
   clear hy289
   have H' := Am H
   clear H
   have p288 : 0 ≤ (x11_2 : Int) := Xo
   have q288 : x11_2 < (t279.length : Int) := Xo
   obtain ⟨ad288, e288, hx288_0⟩ := Kd.at_int (Kd.R_reads' O_10.out).2.2 x11_2 p288 q288
   obtain rfl : ad282 = ad288 := (by injection e288)
   replace p288 := eq_true p288
   replace q288 := eq_true q288
   go_wp2_with (first | ((with_reducible refine gate_builtin (b := .append) (xs := #[.tmp 77, .tmp 82]) rfl ?_); at_builtin; refine Kd.R_append (Kd.int .i64) (w0 := w) w.heap.size rfl (.tmp 77) (.tmp 82) 37 3 (.int .i64 0) 8 rfl Try.underlying37 info3 rfl (by decide) (by omega) u9 x9_2 (rd t279 x11_2) [.int .i64 (rd t279 x11_2)] (fun k_ => (w.heap.size ≤ k_) ∧ some k_ ≠ (.slice Ao61 t253.length co61 : Value).ownBlock ∧ some k_ ≠ (.slice (some ad282) t279.length co59 : Value).ownBlock ∧ some k_ ≠ (v284 : Value).ownBlock) (fun _ => False) rfl rfl ?aP (fun _ hk => hk.elim) ?aF ?aO ?aB ?aS ?aL ?_; (case aP => exact rfl); (case aB => exact Xi); (case aF => exact (fun k_ hk => ⟨(Nat.le_trans (below_size Xi) hk), Kd.fresh' (Kd.R_lt (Xq O_5)) k_ hk, Kd.fresh' (Kd.R_lt (Xq O_10)) k_ hk, Kd.fresh' (Kd.R_lt (Xq HO285)) k_ hk⟩)); (case aO => exact (Xq O_9)); (case aS => exact (below_size Xi)); (case aL => have := LMc63.out; omega); intro v290 w64 ho hb hg hat; rw [← Ny289.out] at ho; replace O_5 := Am (Kd.R_after (ok := (fun k_ => (w.heap.size ≤ k_) ∧ some k_ ≠ (.slice (some ad282) t279.length co59 : Value).ownBlock ∧ some k_ ≠ (v284 : Value).ownBlock)) (by (with_reducible repeat (first | apply Kd.R_alloc | apply Kd.R_drewN | apply Kd.R_drew)); exact Kd.R_mono O_5.out (fun _ hk => ⟨⟨hk.1, ⟨hk.2.2.1, hk.2.2.2⟩⟩, hk.2.1⟩)) hg hat); replace O_10 := Am (Kd.R_after (ok := (fun k_ => (w.heap.size ≤ k_) ∧ some k_ ≠ (.slice Ao61 t253.length co61 : Value).ownBlock ∧ some k_ ≠ (v284 : Value).ownBlock)) (by (with_reducible repeat (first | apply Kd.R_alloc | apply Kd.R_drewN | apply Kd.R_drew)); exact Kd.R_mono O_10.out (fun _ hk => ⟨⟨hk.1, ⟨hk.2.1, hk.2.2.2⟩⟩, hk.2.2.1⟩)) hg hat); replace O_260002 := Am (Kd.N_afterv (ok := (fun k_ => (w.heap.size ≤ k_) ∧ some k_ ≠ (.slice Ao61 t253.length co61 : Value).ownBlock ∧ some k_ ≠ (.slice (some ad282) t279.length co59 : Value).ownBlock ∧ some k_ ≠ (v284 : Value).ownBlock ∧ k_ ≠ gb250 ∧ k_ ≠ gb251 ∧ k_ ≠ gb252 ∧ k_ ≠ gb259)) (by (with_reducible repeat (first | apply Kd.N_alloc | apply Kd.N_drewN | apply Kd.N_drew)); exact Kd.N_mono O_260002.out (fun _ hk => ⟨⟨hk.1, ⟨hk.2.1, ⟨hk.2.2.2.1, ⟨hk.2.2.2.2.1, ⟨hk.2.2.2.2.2.1, ⟨hk.2.2.2.2.2.2.1, ⟨hk.2.2.2.2.2.2.2.1, hk.2.2.2.2.2.2.2.2⟩⟩⟩⟩⟩⟩⟩, hk.2.2.1⟩)) hg hat); replace B250 := Am (blk_grown (g := gb250) (o := .cells #[.int .i64 a0_0, .int .i64 a0_1, .slice A0_2 l0_2.length c0_2] 29 (0, 0)) (Xq' B250) hg (Kd.R_ne O_9.out B250.out (by decide))); replace B251 := Am (blk_grown (g := gb251) (o := .cells #[.int .i64 a1_0, .int .i64 a1_1, .slice A1_2 l1_2.length c1_2] 29 (0, 0)) (Xq' B251) hg (Kd.R_ne O_9.out B251.out (by decide))); replace B252 := Am (blk_grown (g := gb252) (o := .cells #[.int .i64 0, .int .i64 0, .slice none 0 0] 29 (0, 0)) (Xq' B252) hg (Kd.R_ne O_9.out B252.out (by decide))); replace B259 := Am (blk_grown (g := gb259) (o := .cells #[.int .i64 a0_0, .int .i64 x260001_2, u260002] 29 (0, 0)) (Xq' B259) hg (Kd.R_ne O_9.out B259.out (by decide))); replace HO285 := Am (Kd.R_after (ok := (fun k_ => (w.heap.size ≤ k_) ∧ some k_ ≠ (.slice Ao61 t253.length co61 : Value).ownBlock ∧ some k_ ≠ (.slice (some ad282) t279.length co59 : Value).ownBlock)) (by (with_reducible repeat (first | apply Kd.R_alloc | apply Kd.R_drewN | apply Kd.R_drew)); exact Kd.R_mono HO285.out (fun _ hk => ⟨⟨hk.1, ⟨hk.2.1, hk.2.2.2⟩⟩, hk.2.2.1⟩)) hg hat); replace HB := Am (hb); have HO291 := Am (ho); clear O_9; clear ho hb hg hat))
   go_roundg k2
   case measure => have := HK1.out; have := HK2.out; omega
   case rel => exact ⟨(y283), (y289), (wrap64 (x11_2 + 1)), (x260001_2), Xr, H', ⟨by have := HK1.out; have := HK2.out; omega⟩, ⟨by (with_reducible repeat (first | apply Kd.R_alloc | apply Kd.R_drewN | apply Kd.R_drew)); exact Kd.R_mono O_5.out (fun _ hk => ⟨hk.1.1, ⟨hk.1.2.2, ⟨hk.2, hk.1.2.1⟩⟩⟩)⟩, ⟨by (with_reducible repeat (first | apply Kd.R_alloc | apply Kd.R_drewN | apply Kd.R_drew)); exact Kd.R_mono HO285.out (fun _ hk => ⟨hk.1.1, ⟨hk.1.2.1, ⟨hk.2, hk.1.2.2⟩⟩⟩)⟩, ⟨by (with_reducible repeat (first | apply Kd.R_alloc | apply Kd.R_drewN | apply Kd.R_drew)); exact Kd.R_mono HO291.out (fun _ hk => ⟨hk.1, ⟨hk.2.1, ⟨hk.2.2.2, hk.2.2.1⟩⟩⟩)⟩, ⟨by (with_reducible repeat (first | apply Kd.R_alloc | apply Kd.R_drewN | apply Kd.R_drew)); exact Kd.R_mono O_10.out (fun _ hk => ⟨hk.1.1, ⟨hk.1.2.1, ⟨hk.1.2.2, hk.2⟩⟩⟩)⟩, ⟨by (with_reducible repeat (first | apply Kd.N_alloc | apply Kd.N_drewN | apply Kd.N_drew)); exact Kd.N_mono O_260002.out (fun _ hk => ⟨hk.1.1, ⟨hk.1.2.1, ⟨hk.1.2.2.2.1, ⟨hk.2, ⟨hk.1.2.2.1, ⟨hk.1.2.2.2.2.1, ⟨hk.1.2.2.2.2.2.1, ⟨hk.1.2.2.2.2.2.2.1, hk.1.2.2.2.2.2.2.2⟩⟩⟩⟩⟩⟩⟩⟩)⟩, (Xp B250), (Xp B251), (Xp B252), (Xp B259), ⟨Xi⟩⟩
  replace c62 := Xbf c62
  subst c62
  try rw [if_neg Xft] at H
  obtain ⟨c65, H⟩ := Xif H
  have LMc65 := Am c65
  clear c65
  obtain ⟨y292, hy292⟩ : ∃ y_ : List Int, y_ = (x9_2 ++ [x260001_2]) := ⟨_, rfl⟩
  replace H : (spec_l02Splice.l1 k2 t253 y283 y292 t279 (wrap64 (x11_2 + 1)) a1_0 a1_1 l1_2 a0_0 (wrap64 (x260001_2 + 1)) x260002_1) = some (r1, r2, r3) := by first | (rw [hy292]; with_reducible exact H) | (have H2_ := (Option.bind_some _ _).symm.trans H; rw [hy292]; with_reducible exact H2_) | (have H2_ := (Option.bind_some _ _).symm.trans H; with_reducible exact H2_) | with_reducible exact H | (rw [hy292]; exact H) | exact H
  have Ny292 := Am hy292
  clear hy292
  have H' := Am H
  clear H
  have hnb66 := NB259_250.out
  have hnc66 := NB250_259.out
  have hnb67 := NB259_251.out
  have hnc67 := NB251_259.out
  have hnb68 := NB259_252.out
  have hnc68 := NB252_259.out
  obtain ⟨Z69_0, Z69_1, Z69_2⟩ := Xc3 B259
  obtain ⟨F69_0, F69_1, F69_2⟩ := Xf3 B259
  go_wp2_with (first | ((with_reducible refine gate_builtin (b := .append) (xs := #[.tmp 84, .tmp 87]) rfl ?_); at_builtin; refine Kd.R_append (Kd.int .i64) (w0 := w) w.heap.size rfl (.tmp 84) (.tmp 87) 37 3 (.int .i64 0) 8 rfl Try.underlying37 info3 rfl (by decide) (by omega) u9 x9_2 x260001_2 [.int .i64 x260001_2] (fun k_ => (w.heap.size ≤ k_) ∧ some k_ ≠ (.slice Ao61 t253.length co61 : Value).ownBlock ∧ some k_ ≠ (.slice (some ad282) t279.length co59 : Value).ownBlock ∧ some k_ ≠ (v284 : Value).ownBlock) (fun _ => False) rfl rfl ?aP (fun _ hk => hk.elim) ?aF ?aO ?aB ?aS ?aL ?_; (case aP => exact rfl); (case aB => exact Xi); (case aF => exact (fun k_ hk => ⟨(Nat.le_trans (below_size Xi) hk), Kd.fresh' (Kd.R_lt (Xq O_5)) k_ hk, Kd.fresh' (Kd.R_lt (Xq O_10)) k_ hk, Kd.fresh' (Kd.R_lt (Xq HO285)) k_ hk⟩)); (case aO => exact (Xq O_9)); (case aS => exact (below_size Xi)); (case aL => have := LMc65.out; omega); intro v293 w70 ho hb hg hat; rw [← Ny292.out] at ho; replace O_5 := Am (Kd.R_after (ok := (fun k_ => (w.heap.size ≤ k_) ∧ some k_ ≠ (.slice (some ad282) t279.length co59 : Value).ownBlock ∧ some k_ ≠ (v284 : Value).ownBlock)) (by (with_reducible repeat (first | apply Kd.R_alloc | apply Kd.R_drewN | apply Kd.R_drew)); exact Kd.R_mono O_5.out (fun _ hk => ⟨⟨hk.1, ⟨hk.2.2.1, hk.2.2.2⟩⟩, hk.2.1⟩)) hg hat); replace O_10 := Am (Kd.R_after (ok := (fun k_ => (w.heap.size ≤ k_) ∧ some k_ ≠ (.slice Ao61 t253.length co61 : Value).ownBlock ∧ some k_ ≠ (v284 : Value).ownBlock)) (by (with_reducible repeat (first | apply Kd.R_alloc | apply Kd.R_drewN | apply Kd.R_drew)); exact Kd.R_mono O_10.out (fun _ hk => ⟨⟨hk.1, ⟨hk.2.1, hk.2.2.2⟩⟩, hk.2.2.1⟩)) hg hat); replace O_260002 := Am (Kd.N_afterv (ok := (fun k_ => (w.heap.size ≤ k_) ∧ some k_ ≠ (.slice Ao61 t253.length co61 : Value).ownBlock ∧ some k_ ≠ (.slice (some ad282) t279.length co59 : Value).ownBlock ∧ some k_ ≠ (v284 : Value).ownBlock ∧ k_ ≠ gb250 ∧ k_ ≠ gb251 ∧ k_ ≠ gb252 ∧ k_ ≠ gb259)) (by (with_reducible repeat (first | apply Kd.N_alloc | apply Kd.N_drewN | apply Kd.N_drew)); exact Kd.N_mono O_260002.out (fun _ hk => ⟨⟨hk.1, ⟨hk.2.1, ⟨hk.2.2.2.1, ⟨hk.2.2.2.2.1, ⟨hk.2.2.2.2.2.1, ⟨hk.2.2.2.2.2.2.1, ⟨hk.2.2.2.2.2.2.2.1, hk.2.2.2.2.2.2.2.2⟩⟩⟩⟩⟩⟩⟩, hk.2.2.1⟩)) hg hat); replace B250 := Am (blk_grown (g := gb250) (o := .cells #[.int .i64 a0_0, .int .i64 a0_1, .slice A0_2 l0_2.length c0_2] 29 (0, 0)) (Xq' B250) hg (Kd.R_ne O_9.out B250.out (by decide))); replace B251 := Am (blk_grown (g := gb251) (o := .cells #[.int .i64 a1_0, .int .i64 a1_1, .slice A1_2 l1_2.length c1_2] 29 (0, 0)) (Xq' B251) hg (Kd.R_ne O_9.out B251.out (by decide))); replace B252 := Am (blk_grown (g := gb252) (o := .cells #[.int .i64 0, .int .i64 0, .slice none 0 0] 29 (0, 0)) (Xq' B252) hg (Kd.R_ne O_9.out B252.out (by decide))); replace B259 := Am (blk_grown (g := gb259) (o := .cells #[.int .i64 a0_0, .int .i64 x260001_2, u260002] 29 (0, 0)) (Xq' B259) hg (Kd.R_ne O_9.out B259.out (by decide))); replace HO285 := Am (Kd.R_after (ok := (fun k_ => (w.heap.size ≤ k_) ∧ some k_ ≠ (.slice Ao61 t253.length co61 : Value).ownBlock ∧ some k_ ≠ (.slice (some ad282) t279.length co59 : Value).ownBlock)) (by (with_reducible repeat (first | apply Kd.R_alloc | apply Kd.R_drewN | apply Kd.R_drew)); exact Kd.R_mono HO285.out (fun _ hk => ⟨⟨hk.1, ⟨hk.2.1, hk.2.2.2⟩⟩, hk.2.2.1⟩)) hg hat); replace HB := Am (hb); have HO294 := Am (ho); clear O_9; clear ho hb hg hat; obtain ⟨Z71_0, Z71_1, Z71_2⟩ := Xc3 B259; obtain ⟨F71_0, F71_1, F71_2⟩ := Xf3 B259))
  go_roundg k2
  case measure => have := HK1.out; have := HK2.out; omega
  case rel => exact ⟨(y283), (y292), (wrap64 (x11_2 + 1)), (wrap64 (x260001_2 + 1)), Xr, H', ⟨by have := HK1.out; have := HK2.out; omega⟩, ⟨by (with_reducible repeat (first | apply Kd.R_alloc | apply Kd.R_drewN | apply Kd.R_drew)); exact Kd.R_mono (Kd.R_far (p := ⟨gb259, 1, none⟩) (Kd.R_types O_5.out B259.out (by decide)) (fun _ hk => hk.2) (.int .i64 (wrap64 (x260001_2 + 1)))) (fun _ hk => ⟨hk.1.1.1, ⟨hk.1.1.2.2, ⟨hk.1.2, hk.1.1.2.1⟩⟩⟩)⟩, ⟨by (with_reducible repeat (first | apply Kd.R_alloc | apply Kd.R_drewN | apply Kd.R_drew)); exact Kd.R_mono (Kd.R_far (p := ⟨gb259, 1, none⟩) (Kd.R_types HO285.out B259.out (by decide)) (fun _ hk => hk.2) (.int .i64 (wrap64 (x260001_2 + 1)))) (fun _ hk => ⟨hk.1.1.1, ⟨hk.1.1.2.1, ⟨hk.1.2, hk.1.1.2.2⟩⟩⟩)⟩, ⟨by (with_reducible repeat (first | apply Kd.R_alloc | apply Kd.R_drewN | apply Kd.R_drew)); exact Kd.R_mono (Kd.R_far (p := ⟨gb259, 1, none⟩) (Kd.R_types HO294.out B259.out (by decide)) (fun _ hk => hk.2) (.int .i64 (wrap64 (x260001_2 + 1)))) (fun _ hk => ⟨hk.1.1, ⟨hk.1.2.1, ⟨hk.1.2.2.2, hk.1.2.2.1⟩⟩⟩)⟩, ⟨by (with_reducible repeat (first | apply Kd.R_alloc | apply Kd.R_drewN | apply Kd.R_drew)); exact Kd.R_mono (Kd.R_far (p := ⟨gb259, 1, none⟩) (Kd.R_types O_10.out B259.out (by decide)) (fun _ hk => hk.2) (.int .i64 (wrap64 (x260001_2 + 1)))) (fun _ hk => ⟨hk.1.1.1, ⟨hk.1.1.2.1, ⟨hk.1.1.2.2, hk.1.2⟩⟩⟩)⟩, ⟨by (with_reducible repeat (first | apply Kd.N_alloc | apply Kd.N_drewN | apply Kd.N_drew)); exact Kd.N_mono (Kd.N_far (p := ⟨gb259, 1, none⟩) (Kd.N_mono O_260002.out (fun k_ hk => (⟨hk, hk.1.2.2.2.2.2.2.2⟩ : _ ∧ k_ ≠ gb259))) (fun _ hk => hk.2) (.int .i64 (wrap64 (x260001_2 + 1)))) (fun _ hk => ⟨hk.1.1.1, ⟨hk.1.1.2.1, ⟨hk.1.1.2.2.2.1, ⟨hk.1.2, ⟨hk.1.1.2.2.1, ⟨hk.1.1.2.2.2.2.1, ⟨hk.1.1.2.2.2.2.2.1, ⟨hk.1.1.2.2.2.2.2.2.1, hk.1.1.2.2.2.2.2.2.2⟩⟩⟩⟩⟩⟩⟩⟩)⟩, ⟨by refine Xu ?_; refine blk_far ?_ NB250_259.out _; refine Xu ?_; exact B250.out⟩, ⟨by refine Xu ?_; refine blk_far ?_ NB251_259.out _; refine Xu ?_; exact B251.out⟩, ⟨by refine Xu ?_; refine blk_far ?_ NB252_259.out _; refine Xu ?_; exact B252.out⟩, ⟨by refine Xu ?_; refine blk_put (cs := #[.int .i64 a0_0, .int .i64 x260001_2, u260002]) ?_ 1 _ rfl; refine Xu ?_; exact B259.out⟩, ⟨Xi⟩⟩
 have H' := Am H
 clear H
 obtain ⟨Ao72, co72, eo72⟩ := Kd.R_slice O_10.out
 subst eo72
 go_wp2
 go_loopg [12] k2 (fun kq v12 w' => ∃ (x8_3 : List Int) (x9_3 : List Int) (x10_3 : List Int) (x12_3 : Int) (x260002_3 : List (S43)) (u260002 : Value), v12 = .int .i64 x12_3 ∧ Aside0 (spec_l02Splice.l2 kq x8_3 x9_3 x10_3 x12_3 a1_0 a1_1 l1_2 a0_0 x260001_2 x260002_3 = some (r1, r2, r3)) ∧ Aside0 (kq ≤ k2) ∧ Aside0 (Kd.R (Kd.int .i64) 3 w' w.heap.size (fun k_ => (w.heap.size ≤ k_) ∧ some k_ ≠ (u9 : Value).ownBlock ∧ some k_ ≠ ((.slice Ao72 t279.length co72) : Value).ownBlock) u8 x8_3) ∧ Aside0 (Kd.R (Kd.int .i64) 3 w' w.heap.size (fun k_ => (w.heap.size ≤ k_) ∧ some k_ ≠ (u8 : Value).ownBlock ∧ some k_ ≠ ((.slice Ao72 t279.length co72) : Value).ownBlock) u9 x9_3) ∧ Aside0 (Kd.R (Kd.int .i64) 3 w' w.heap.size (fun k_ => (w.heap.size ≤ k_) ∧ some k_ ≠ (u8 : Value).ownBlock ∧ some k_ ≠ (u9 : Value).ownBlock) (.slice Ao72 t279.length co72) x10_3) ∧ Aside0 (Kd.N k43 43 w' w.heap.size (fun k_ => (w.heap.size ≤ k_) ∧ some k_ ≠ (u8 : Value).ownBlock ∧ some k_ ≠ (u9 : Value).ownBlock ∧ some k_ ≠ ((.slice Ao72 t279.length co72) : Value).ownBlock ∧ k_ ≠ gb250 ∧ k_ ≠ gb251 ∧ k_ ≠ gb252 ∧ k_ ≠ gb259) u260002 x260002_3) ∧ Aside0 (w'.heap[gb250]? = some (.cells #[.int .i64 a0_0, .int .i64 a0_1, (.slice A0_2 l0_2.length c0_2)] 29 (0, 0))) ∧ Aside0 (w'.heap[gb251]? = some (.cells #[.int .i64 a1_0, .int .i64 a1_1, (.slice A1_2 l1_2.length c1_2)] 29 (0, 0))) ∧ Aside0 (w'.heap[gb252]? = some (.cells #[.int .i64 0, .int .i64 0, (.slice none 0 0)] 29 (0, 0))) ∧ Aside0 (w'.heap[gb259]? = some (.cells #[.int .i64 a0_0, .int .i64 x260001_2, u260002] 29 (0, 0))) ∧ Aside0 (Below w.heap.size w w'))
 case atStart => exact ⟨(x8_2), (x9_2), (t279), (0), (x260002_1), (u260002), Xr, H', Xkr, ⟨by (with_reducible repeat (first | apply Kd.R_alloc | apply Kd.R_drewN | apply Kd.R_drew)); exact Kd.R_mono O_8.out (fun _ hk => ⟨hk.1, ⟨hk.2.2.1, hk.2.2.2⟩⟩)⟩, ⟨by (with_reducible repeat (first | apply Kd.R_alloc | apply Kd.R_drewN | apply Kd.R_drew)); exact Kd.R_mono O_9.out (fun _ hk => ⟨hk.1, ⟨hk.2.2.1, hk.2.2.2⟩⟩)⟩, ⟨by (with_reducible repeat (first | apply Kd.R_alloc | apply Kd.R_drewN | apply Kd.R_drew)); exact Kd.R_mono O_10.out (fun _ hk => ⟨hk.1, ⟨hk.2.2.1, hk.2.2.2⟩⟩)⟩, ⟨by (with_reducible repeat (first | apply Kd.N_alloc | apply Kd.N_drewN | apply Kd.N_drew)); exact Kd.N_mono O_260002.out (fun _ hk => ⟨hk.1, ⟨hk.2.2.1, ⟨hk.2.2.2.1, ⟨hk.2.2.2.2.1, ⟨hk.2.2.2.2.2.1, ⟨hk.2.2.2.2.2.2.1, ⟨hk.2.2.2.2.2.2.2.1, hk.2.2.2.2.2.2.2.2⟩⟩⟩⟩⟩⟩⟩)⟩, (Xp B250), (Xp B251), (Xp B252), (Xp B259), ⟨Xi⟩⟩
 clear H'
 (try clear c23); (try clear c23b0); (try clear c54); (try clear c54b0); (try clear Z11_0); (try clear Z11_1); (try clear Z11_2); (try clear Z13_0); (try clear Z13_1); (try clear Z13_2); (try clear Z21_0); (try clear Z21_1); (try clear Z21_2); (try clear Z45_0); (try clear Z45_1); (try clear Z45_2); (try clear Z52_0); (try clear Z52_1); (try clear Z52_2); (try clear Z9_0); (try clear Z9_1); (try clear Z9_2); (try clear F11_0); (try clear F11_1); (try clear F11_2); (try clear F13_0); (try clear F13_1); (try clear F13_2); (try clear F21_0); (try clear F21_1); (try clear F21_2); (try clear F45_0); (try clear F45_1); (try clear F45_2); (try clear F52_0); (try clear F52_1); (try clear F52_2); (try clear F9_0); (try clear F9_1); (try clear F9_2)
 obtain ⟨x8_3, x9_3, x10_3, x12_3, x260002_3, u260002, rfl, HA, HK3, O_8, O_9, O_10, O_260002, B250, B251, B252, B259, HB⟩ := hrel
 have hl10_3 := (Kd.R_reads' O_10.out).1
 rw [hl10_3] at O_10
 (try simp only [hl10_3])
 (try simp only [hl10_3] at B250)
 (try simp only [hl10_3] at B251)
 (try simp only [hl10_3] at B252)
 (try simp only [hl10_3] at B259)
 (try simp only [hl10_3] at O_8)
 (try simp only [hl10_3] at O_9)
 (try simp only [hl10_3] at O_260002)
 cases gk with | zero => cases HA.out | succ k3 => ?_
 have H := HA.out
 clear HA
 simp only [spec_l02Splice.l2] at H
 obtain ⟨c73b0, H⟩ | ⟨c73b0, H⟩ := Xit H
 ·obtain ⟨c74b0, H⟩ := Xid H
  obtain ⟨t296, A75, H⟩ := Xbi H
  try dsimp only at H
  obtain ⟨c76b0, H⟩ := Xid H
  obtain ⟨c77b0, H⟩ := Xid H
  replace H := Option.bind_eq_some_iff.mp H
  obtain ⟨⟨t298, t299, t300, t301, t302⟩, A780, H⟩ := H
  try dsimp only at H
  have A78 := Am A780
  clear A780
  obtain ⟨c79b0, H⟩ := Xid H
  have H' := Am H
  clear H
  try go_wp2_with (fail)
  replace O_8 := Am (Kd.R_drew O_8.out)
  replace O_9 := Am (Kd.R_drew O_9.out)
  replace O_10 := Am (Kd.R_drew O_10.out)
  replace O_260002 := Am (Kd.N_drew O_260002.out)
  replace B250 := Xbd B250
  replace B251 := Xbd B251
  replace B252 := Xbd B252
  replace B259 := Xbd B259
  replace HB := Xhd HB
  have p295 : 0 ≤ (x12_3 : Int) := Xo
  have q295 : x12_3 < (x10_3.length : Int) := Xo
  obtain ⟨ad295, e295, hx295_0⟩ := Kd.at_int (Kd.R_reads' O_10.out).2.2 x12_3 p295 q295
  cases e295
  replace p295 := eq_true p295
  replace q295 := eq_true q295
  have p297 : 0 ≤ (t296 : Int) := Xo
  have q297 : t296 < (l1_2.length : Int) := Xo
  obtain ⟨ad297, A297_4, c297_4, e297, hx297_0, hx297_1, hx297_2, hx297_3, hx297_4, hl297_4, hi297_4⟩ := at_T43 HR1_2.out t296 p297 q297
  have hw297_4 := hx297_4
  have hw297_3 := hx297_3
  have hw297_2 := hx297_2
  have hw297_1 := hx297_1
  have hw297_0 := hx297_0
  cases e297
  replace hx297_0 := Xm HB hx297_0
  replace hx297_1 := Xm HB hx297_1
  replace hx297_2 := Xm HB hx297_2
  replace hx297_3 := Xm HB hx297_3
  replace hx297_4 := Xm HB hx297_4
  have HR297_4 := Am hi297_4
  have HC297_4 := Am hl297_4
  clear hi297_4 hl297_4
  replace p297 := eq_true p297
  replace q297 := eq_true q297
  refine Sx 13 (fun w' => w'.cell? ⟨gb251, 0, none⟩ = some (.int .i64 a1_0) ∧ w'.cell? ⟨gb251, 1, none⟩ = some (.int .i64 a1_1) ∧ w'.cell? ⟨gb251, 2, none⟩ = some (.slice (some ad297) l1_2.length c1_2) ∧ w'.cell? (ad295.add (x12_3).toNat) = some (.int .i64 (rd x10_3 x12_3)) ∧ w'.cell? (ad297.add ((t296).toNat * 5)) = some (.int .i64 ((rd_T43 l1_2 t296).f0)) ∧ w'.cell? ⟨(ad297.add ((t296).toNat * 5)).block, (ad297.add ((t296).toNat * 5)).off + 1, none⟩ = some (.int .i64 ((rd_T43 l1_2 t296).f1)) ∧ w'.cell? ⟨(ad297.add ((t296).toNat * 5)).block, (ad297.add ((t296).toNat * 5)).off + 2, none⟩ = some (.int .i64 ((rd_T43 l1_2 t296).f2)) ∧ w'.cell? ⟨(ad297.add ((t296).toNat * 5)).block, (ad297.add ((t296).toNat * 5)).off + 3, none⟩ = some (.string ((rd_T43 l1_2 t296).f3)) ∧ w'.cell? ⟨(ad297.add ((t296).toNat * 5)).block, (ad297.add ((t296).toNat * 5)).off + 4, none⟩ = some (.slice A297_4 ((rd_T43 l1_2 t296).f4).length c297_4)) ⟨Xk B251 0, Xk B251 1, Xk B251 2, hx295_0, Xn hw297_0, Xn hw297_1, Xn hw297_2, Xn hw297_3, Xn hw297_4⟩ (fun hHeld => ?_); refine with_tabW spec_l02Splice.tab22 spec_l02Splice.bits22 (fun HT_ HW_ => ?_)
  generalize wr.drew = w80 at O_8 O_9 O_10 O_260002 B250 B251 B252 B259 HB HR297_4 hx295_0 hx297_0 hx297_1 hx297_2 hx297_3 hx297_4 hHeld ⊢
  refine Pu 0 99 13 1 ?_
  refine Pu 3 102 13 9 ?_
  refine Pu 4 103 13 25 ?_
  refine Pu 5 104 13 57 ?_
  refine Ta 1 100 13 59 ?_
  refine Ta 2 101 13 63 ?_
  refine Ta 6 105 13 127 ?_
  refine join_ (σ := Value × Nat) 1 #[true, true, true, true, true, true, true, true, true, true, true, true, false] (fun s_ => [(106, .int .i64 t296), (109, .agg #[.int .i64 t298, .int .i64 t299, .int .i64 t300, .string t301, s_.1]), (13, .pointer (some ⟨s_.2, 0, none⟩)), (107, .pointer (some (ad297.add ((t296).toNat * 5)))), (108, .agg #[.int .i64 ((rd_T43 l1_2 t296).f0), .int .i64 ((rd_T43 l1_2 t296).f1), .int .i64 ((rd_T43 l1_2 t296).f2), .string ((rd_T43 l1_2 t296).f3), .slice A297_4 ((rd_T43 l1_2 t296).f4).length c297_4])]) (fun s_ w' => (w'.cell? ⟨gb251, 0, none⟩ = some (.int .i64 a1_0) ∧ w'.cell? ⟨gb251, 1, none⟩ = some (.int .i64 a1_1) ∧ w'.cell? ⟨gb251, 2, none⟩ = some (.slice (some ad297) l1_2.length c1_2) ∧ w'.cell? (ad295.add (x12_3).toNat) = some (.int .i64 (rd x10_3 x12_3)) ∧ w'.cell? (ad297.add ((t296).toNat * 5)) = some (.int .i64 ((rd_T43 l1_2 t296).f0)) ∧ w'.cell? ⟨(ad297.add ((t296).toNat * 5)).block, (ad297.add ((t296).toNat * 5)).off + 1, none⟩ = some (.int .i64 ((rd_T43 l1_2 t296).f1)) ∧ w'.cell? ⟨(ad297.add ((t296).toNat * 5)).block, (ad297.add ((t296).toNat * 5)).off + 2, none⟩ = some (.int .i64 ((rd_T43 l1_2 t296).f2)) ∧ w'.cell? ⟨(ad297.add ((t296).toNat * 5)).block, (ad297.add ((t296).toNat * 5)).off + 3, none⟩ = some (.string ((rd_T43 l1_2 t296).f3)) ∧ w'.cell? ⟨(ad297.add ((t296).toNat * 5)).block, (ad297.add ((t296).toNat * 5)).off + 4, none⟩ = some (.slice A297_4 ((rd_T43 l1_2 t296).f4).length c297_4)) ∧ (Kd.R (Kd.int .i64) 3 w' w.heap.size (fun k_ => (w.heap.size ≤ k_) ∧ some k_ ≠ (.slice (some ad295) x10_3.length co72 : Value).ownBlock ∧ some k_ ≠ (u8 : Value).ownBlock ∧ some k_ ≠ (u9 : Value).ownBlock) s_.1 t302) ∧ (Kd.R (Kd.int .i64) 3 w' w.heap.size (fun k_ => (w.heap.size ≤ k_) ∧ some k_ ≠ (s_.1 : Value).ownBlock ∧ some k_ ≠ (u8 : Value).ownBlock ∧ some k_ ≠ (u9 : Value).ownBlock) (.slice (some ad295) x10_3.length co72) x10_3) ∧ (Kd.N k43 43 w' w.heap.size (fun k_ => (w.heap.size ≤ k_) ∧ some k_ ≠ (s_.1 : Value).ownBlock ∧ some k_ ≠ (.slice (some ad295) x10_3.length co72 : Value).ownBlock ∧ some k_ ≠ (u8 : Value).ownBlock ∧ some k_ ≠ (u9 : Value).ownBlock ∧ k_ ≠ gb250 ∧ k_ ≠ gb251 ∧ k_ ≠ gb252 ∧ k_ ≠ gb259 ∧ k_ ≠ s_.2) u260002 x260002_3) ∧ (Kd.R (Kd.int .i64) 3 w' w.heap.size (fun k_ => (w.heap.size ≤ k_) ∧ some k_ ≠ (s_.1 : Value).ownBlock ∧ some k_ ≠ (.slice (some ad295) x10_3.length co72 : Value).ownBlock ∧ some k_ ≠ (u9 : Value).ownBlock) u8 x8_3) ∧ (Kd.R (Kd.int .i64) 3 w' w.heap.size (fun k_ => (w.heap.size ≤ k_) ∧ some k_ ≠ (s_.1 : Value).ownBlock ∧ some k_ ≠ (.slice (some ad295) x10_3.length co72 : Value).ownBlock ∧ some k_ ≠ (u8 : Value).ownBlock) u9 x9_3) ∧ (w'.heap[gb250]? = some (.cells #[.int .i64 a0_0, .int .i64 a0_1, .slice A0_2 l0_2.length c0_2] 29 (0, 0))) ∧ (w'.heap[gb251]? = some (.cells #[.int .i64 a1_0, .int .i64 a1_1, .slice (some ad297) l1_2.length c1_2] 29 (0, 0))) ∧ (w'.heap[gb252]? = some (.cells #[.int .i64 0, .int .i64 0, .slice none 0 0] 29 (0, 0))) ∧ (w'.heap[gb259]? = some (.cells #[.int .i64 a0_0, .int .i64 x260001_2, u260002] 29 (0, 0))) ∧ (w'.heap[s_.2]? = some (.cells #[.int .i64 0, .int .i64 0, .int .i64 0, .string (⟨#[]⟩ : ByteArray), .slice none 0 0] 43 (0, 0))) ∧ (w.heap.size ≤ s_.2) ∧ (w.heap.size ≤ s_.2) ∧ (gb250 ≠ s_.2) ∧ (s_.2 ≠ gb250) ∧ (gb251 ≠ s_.2) ∧ (s_.2 ≠ gb251) ∧ (gb252 ≠ s_.2) ∧ (s_.2 ≠ gb252) ∧ (gb259 ≠ s_.2) ∧ (s_.2 ≠ gb259) ∧ (Below w.heap.size w w')) ?_ ?_
  rotate_left
  ·intro hCont
   refine two_ (i := 7) (j := 11) (Ni := some 106) (Nj := some 13) #[true, true, true, true, true, true, true, true, false, false, false, false, false] #[true, true, true, true, true, true, true, false, false, false, false, true, false] rfl rfl rfl rfl (two_of HT_.out (by kernel_rfl)) (by decide) (by decide) (fun K hK => ?_) (fun K hK => ?_)
   ·skip
    refine Gs Try.func74 #[.agg #[.int .i64 a1_0, .int .i64 a1_1, .slice (some ad297) l1_2.length c1_2], .int .i64 (rd x10_3 x12_3)] ?_
    with_reducible refine (spec_l02At.calls k3 a1_0 a1_1 _ _ l1_2 (rd x10_3 x12_3) t296 _ ?s1 ?s2 A75.out).mono ?_
    (case s1 => exact Xc HR1_2)
    (case s2 => exact HC1_2.out)
    rintro e w81 ⟨rfl, hb⟩
    have HS3_ := (hb.cell (World.block_lt_of_cell? _ _ (hHeld.2.2.2.1))).trans (hHeld.2.2.2.1)
    refine ⟨_, rfl, ?_⟩
    replace O_8 := Am (Kd.R_below (Xq O_8) hb)
    replace O_9 := Am (Kd.R_below (Xq O_9) hb)
    replace O_10 := Am (Kd.R_below (Xq O_10) hb)
    replace O_260002 := Am (Kd.N_below (Xq O_260002) hb)
    replace B250 := Xbb B250 hb
    replace B251 := Xbb B251 hb
    replace B252 := Xbb B252 hb
    replace B259 := Xbb B259 hb
    replace HB := Xhb hb
    try clear hb
    try clear hb2
    try clear hk
    try clear hi
    refine hK.out _ _ ⟨Xk B251 0, Xk B251 1, Xk B251 2, HS3_, Xn hw297_0, Xn hw297_1, Xn hw297_2, Xn hw297_3, Xn hw297_4⟩ (fun hHeld => ?_)
    clear hK K
    refine Xno ?_
    refine Pu 8 107 13 511 ?_
    refine Ta 9 108 13 1023 ?_
    refine two_ (i := 10) (j := 11) (Ni := some 109) (Nj := some 13) #[true, true, true, true, true, true, true, true, true, true, true, false, false] #[true, true, true, true, true, true, true, true, true, true, false, true, false] rfl rfl rfl rfl (two_of HT_.out (by kernel_rfl)) (by decide) (by decide) (fun K hK => ?_) (fun K hK => ?_)
    ·skip
     refine Gs Try.func73 #[.agg #[.int .i64 ((rd_T43 l1_2 t296).f0), .int .i64 ((rd_T43 l1_2 t296).f1), .int .i64 ((rd_T43 l1_2 t296).f2), .string ((rd_T43 l1_2 t296).f3), .slice A297_4 ((rd_T43 l1_2 t296).f4).length c297_4]] ?_
     with_reducible refine (spec_l02OwnNode.calls ((rd_T43 l1_2 t296).f0) ((rd_T43 l1_2 t296).f1) ((rd_T43 l1_2 t296).f2) ((rd_T43 l1_2 t296).f3) _ _ ((rd_T43 l1_2 t296).f4) t298 t299 t300 t301 t302 _ ?s1 ?s2 A78.out).mono ?_
     (case s1 => exact Xc HR297_4)
     (case s2 => exact HC297_4.out)
     rintro e w82 ⟨v303, rfl, ho0, hb⟩
     have HS3_ := (hb.cell (World.block_lt_of_cell? _ _ (hHeld.2.2.2.1))).trans (hHeld.2.2.2.1)
     refine ⟨_, rfl, ?_⟩
     replace O_260002 := Am (Kd.N_elder' (Xq O_260002) (Kd.R_base ho0) hb)
     have HO304 := Am (Kd.R_lower (Kd.R_new' (Kd.R_new' (Kd.R_new' (Kd.R_newM (M := fun k_ => (w.heap.size ≤ k_)) ho0 (below_size Xi) (fun k_ h_ => h_)) (Kd.R_lt (Xq O_8))) (Kd.R_lt (Xq O_9))) (Kd.R_lt (Xq O_10))) (below_size Xi))
     replace O_8 := Am (Kd.R_elder' (Xq O_8) (Kd.R_base ho0) hb)
     replace O_9 := Am (Kd.R_elder' (Xq O_9) (Kd.R_base ho0) hb)
     replace O_10 := Am (Kd.R_elder' (Xq O_10) (Kd.R_base ho0) hb)
     replace B250 := Xbb B250 hb
     replace B251 := Xbb B251 hb
     replace B252 := Xbb B252 hb
     replace B259 := Xbb B259 hb
     replace HB := Xhb hb
     try clear hb
     try clear hb2
     try clear hk
     try clear hi
     try clear ho0
     refine hK.out _ _ ⟨Xk B251 0, Xk B251 1, Xk B251 2, HS3_, Xn hw297_0, Xn hw297_1, Xn hw297_2, Xn hw297_3, Xn hw297_4⟩ (fun hHeld => ?_)
     clear hK K
     refine Xno ?_
     refine On 11 13 13 4095 (fun K hK => ?_)
     refine box_step ?hg (N := 13) ?hd (cs := #[.int .i64 0, .int .i64 0, .int .i64 0, .string (⟨#[]⟩ : ByteArray), .slice none 0 0]) (t := 43) ?hr ?_; (case hd => rfl); (case hg => rfl); (case hr => first | (go_simp; done) | (go_simp; rfl))
     intro gb305 hg w83 hbox hb
     have HS3_ := (hb.cell (World.block_lt_of_cell? _ _ (hHeld.2.2.2.1))).trans (hHeld.2.2.2.1)
     replace O_8 := Am (Kd.R_below (Xq O_8) hb)
     replace O_9 := Am (Kd.R_below (Xq O_9) hb)
     replace O_10 := Am (Kd.R_below (Xq O_10) hb)
     replace O_260002 := Am (Kd.N_below (Kd.N_elderB (Xq O_260002) gb305 (Nat.le_of_eq hg.symm)) hb)
     replace HO304 := Am (Kd.R_below (Xq HO304) hb)
     have B305 := Am (hbox)
     have GW305 := Am ((by rw [hg]; exact (below_size Xi) : w.heap.size ≤ gb305))
     have GE305 := Am ((by rw [hg]; exact (below_size Xi) : w.heap.size ≤ gb305))
     replace HB := Xhb hb
     have NB250_305 := Am ((by rw [hg]; exact Nat.ne_of_lt (blk_lt (g := gb250) (o := .cells #[.int .i64 a0_0, .int .i64 a0_1, .slice A0_2 l0_2.length c0_2] 29 (0, 0)) (Xq' B250)) : gb250 ≠ gb305))
     have NB305_250 := Am ((by rw [hg]; exact Nat.ne_of_gt (blk_lt (g := gb250) (o := .cells #[.int .i64 a0_0, .int .i64 a0_1, .slice A0_2 l0_2.length c0_2] 29 (0, 0)) (Xq' B250)) : gb305 ≠ gb250))
     replace B250 := Xbb B250 hb
     have NB251_305 := Am ((by rw [hg]; exact Nat.ne_of_lt (blk_lt (g := gb251) (o := .cells #[.int .i64 a1_0, .int .i64 a1_1, .slice (some ad297) l1_2.length c1_2] 29 (0, 0)) (Xq' B251)) : gb251 ≠ gb305))
     have NB305_251 := Am ((by rw [hg]; exact Nat.ne_of_gt (blk_lt (g := gb251) (o := .cells #[.int .i64 a1_0, .int .i64 a1_1, .slice (some ad297) l1_2.length c1_2] 29 (0, 0)) (Xq' B251)) : gb305 ≠ gb251))
     replace B251 := Xbb B251 hb
     have NB252_305 := Am ((by rw [hg]; exact Nat.ne_of_lt (blk_lt (g := gb252) (o := .cells #[.int .i64 0, .int .i64 0, .slice none 0 0] 29 (0, 0)) (Xq' B252)) : gb252 ≠ gb305))
     have NB305_252 := Am ((by rw [hg]; exact Nat.ne_of_gt (blk_lt (g := gb252) (o := .cells #[.int .i64 0, .int .i64 0, .slice none 0 0] 29 (0, 0)) (Xq' B252)) : gb305 ≠ gb252))
     replace B252 := Xbb B252 hb
     have NB259_305 := Am ((by rw [hg]; exact Nat.ne_of_lt (blk_lt (g := gb259) (o := .cells #[.int .i64 a0_0, .int .i64 x260001_2, u260002] 29 (0, 0)) (Xq' B259)) : gb259 ≠ gb305))
     have NB305_259 := Am ((by rw [hg]; exact Nat.ne_of_gt (blk_lt (g := gb259) (o := .cells #[.int .i64 a0_0, .int .i64 x260001_2, u260002] 29 (0, 0)) (Xq' B259)) : gb305 ≠ gb259))
     replace B259 := Xbb B259 hb
     clear hb hbox hg
     refine hK.out _ _ ⟨Xk B251 0, Xk B251 1, Xk B251 2, HS3_, Xn hw297_0, Xn hw297_1, Xn hw297_2, Xn hw297_3, Xn hw297_4⟩ (fun hHeld => ?_)
     clear hK K
     refine Xno ?_
     exact norm_ (by simp only [putAll, Act.put, List.setIfInBounds_toArray, List.set_cons_zero, List.set_cons_succ]) (hCont (v303, gb305) _ ⟨hHeld, (by (with_reducible repeat (first | apply Kd.R_alloc | apply Kd.R_drewN | apply Kd.R_drew)); exact Kd.R_mono HO304.out (fun _ hk => ⟨hk.1.1.1.1, ⟨hk.2, ⟨hk.1.1.2, hk.1.2⟩⟩⟩)), (by (with_reducible repeat (first | apply Kd.R_alloc | apply Kd.R_drewN | apply Kd.R_drew)); exact Kd.R_mono O_10.out (fun _ hk => ⟨hk.1.1, ⟨hk.2, ⟨hk.1.2.1, hk.1.2.2⟩⟩⟩)), (by (with_reducible repeat (first | apply Kd.N_alloc | apply Kd.N_drewN | apply Kd.N_drew)); exact Kd.N_mono O_260002.out (fun _ hk => ⟨hk.1.1.1, ⟨hk.1.2, ⟨hk.1.1.2.2.2.1, ⟨hk.1.1.2.1, ⟨hk.1.1.2.2.1, ⟨hk.1.1.2.2.2.2.1, ⟨hk.1.1.2.2.2.2.2.1, ⟨hk.1.1.2.2.2.2.2.2.1, ⟨hk.1.1.2.2.2.2.2.2.2, hk.2⟩⟩⟩⟩⟩⟩⟩⟩⟩)), (by (with_reducible repeat (first | apply Kd.R_alloc | apply Kd.R_drewN | apply Kd.R_drew)); exact Kd.R_mono O_8.out (fun _ hk => ⟨hk.1.1, ⟨hk.2, ⟨hk.1.2.2, hk.1.2.1⟩⟩⟩)), (by (with_reducible repeat (first | apply Kd.R_alloc | apply Kd.R_drewN | apply Kd.R_drew)); exact Kd.R_mono O_9.out (fun _ hk => ⟨hk.1.1, ⟨hk.2, ⟨hk.1.2.2, hk.1.2.1⟩⟩⟩)), (Xq' B250), (Xq' B251), (Xq' B252), (Xq' B259), (Xq' B305), GW305.out, GE305.out, NB250_305.out, NB305_250.out, NB251_305.out, NB305_251.out, NB252_305.out, NB305_252.out, NB259_305.out, NB305_259.out, Xi⟩)
    skip
    refine box_step ?hg (N := 13) ?hd (cs := #[.int .i64 0, .int .i64 0, .int .i64 0, .string (⟨#[]⟩ : ByteArray), .slice none 0 0]) (t := 43) ?hr ?_; (case hd => rfl); (case hg => rfl); (case hr => first | (go_simp; done) | (go_simp; rfl))
    intro gb305 hg w82 hbox hb
    have HS3_ := (hb.cell (World.block_lt_of_cell? _ _ (hHeld.2.2.2.1))).trans (hHeld.2.2.2.1)
    replace O_8 := Am (Kd.R_below (Xq O_8) hb)
    replace O_9 := Am (Kd.R_below (Xq O_9) hb)
    replace O_10 := Am (Kd.R_below (Xq O_10) hb)
    replace O_260002 := Am (Kd.N_below (Kd.N_elderB (Xq O_260002) gb305 (Nat.le_of_eq hg.symm)) hb)
    have B305 := Am (hbox)
    have GW305 := Am ((by rw [hg]; exact (below_size Xi) : w.heap.size ≤ gb305))
    have GE305 := Am ((by rw [hg]; exact (below_size Xi) : w.heap.size ≤ gb305))
    replace HB := Xhb hb
    have NB250_305 := Am ((by rw [hg]; exact Nat.ne_of_lt (blk_lt (g := gb250) (o := .cells #[.int .i64 a0_0, .int .i64 a0_1, .slice A0_2 l0_2.length c0_2] 29 (0, 0)) (Xq' B250)) : gb250 ≠ gb305))
    have NB305_250 := Am ((by rw [hg]; exact Nat.ne_of_gt (blk_lt (g := gb250) (o := .cells #[.int .i64 a0_0, .int .i64 a0_1, .slice A0_2 l0_2.length c0_2] 29 (0, 0)) (Xq' B250)) : gb305 ≠ gb250))
    replace B250 := Xbb B250 hb
    have NB251_305 := Am ((by rw [hg]; exact Nat.ne_of_lt (blk_lt (g := gb251) (o := .cells #[.int .i64 a1_0, .int .i64 a1_1, .slice (some ad297) l1_2.length c1_2] 29 (0, 0)) (Xq' B251)) : gb251 ≠ gb305))
    have NB305_251 := Am ((by rw [hg]; exact Nat.ne_of_gt (blk_lt (g := gb251) (o := .cells #[.int .i64 a1_0, .int .i64 a1_1, .slice (some ad297) l1_2.length c1_2] 29 (0, 0)) (Xq' B251)) : gb305 ≠ gb251))
    replace B251 := Xbb B251 hb
    have NB252_305 := Am ((by rw [hg]; exact Nat.ne_of_lt (blk_lt (g := gb252) (o := .cells #[.int .i64 0, .int .i64 0, .slice none 0 0] 29 (0, 0)) (Xq' B252)) : gb252 ≠ gb305))
    have NB305_252 := Am ((by rw [hg]; exact Nat.ne_of_gt (blk_lt (g := gb252) (o := .cells #[.int .i64 0, .int .i64 0, .slice none 0 0] 29 (0, 0)) (Xq' B252)) : gb305 ≠ gb252))
    replace B252 := Xbb B252 hb
    have NB259_305 := Am ((by rw [hg]; exact Nat.ne_of_lt (blk_lt (g := gb259) (o := .cells #[.int .i64 a0_0, .int .i64 x260001_2, u260002] 29 (0, 0)) (Xq' B259)) : gb259 ≠ gb305))
    have NB305_259 := Am ((by rw [hg]; exact Nat.ne_of_gt (blk_lt (g := gb259) (o := .cells #[.int .i64 a0_0, .int .i64 x260001_2, u260002] 29 (0, 0)) (Xq' B259)) : gb305 ≠ gb259))
    replace B259 := Xbb B259 hb
    clear hb hbox hg
    refine hK.out _ _ ⟨Xk B251 0, Xk B251 1, Xk B251 2, HS3_, Xn hw297_0, Xn hw297_1, Xn hw297_2, Xn hw297_3, Xn hw297_4⟩ (fun hHeld => ?_)
    clear hK K
    refine Xno ?_
    refine On 10 109 13 4095 (fun K hK => ?_)
    refine Gs Try.func73 #[.agg #[.int .i64 ((rd_T43 l1_2 t296).f0), .int .i64 ((rd_T43 l1_2 t296).f1), .int .i64 ((rd_T43 l1_2 t296).f2), .string ((rd_T43 l1_2 t296).f3), .slice A297_4 ((rd_T43 l1_2 t296).f4).length c297_4]] ?_
    with_reducible refine (spec_l02OwnNode.calls ((rd_T43 l1_2 t296).f0) ((rd_T43 l1_2 t296).f1) ((rd_T43 l1_2 t296).f2) ((rd_T43 l1_2 t296).f3) _ _ ((rd_T43 l1_2 t296).f4) t298 t299 t300 t301 t302 _ ?s1 ?s2 A78.out).mono ?_
    (case s1 => exact Xc HR297_4)
    (case s2 => exact HC297_4.out)
    rintro e w83 ⟨v303, rfl, ho0, hb⟩
    have HS3_ := (hb.cell (World.block_lt_of_cell? _ _ (hHeld.2.2.2.1))).trans (hHeld.2.2.2.1)
    refine ⟨_, rfl, ?_⟩
    replace O_260002 := Am (Kd.N_elder' (Xq O_260002) (Kd.R_base ho0) hb)
    have HO304 := Am (Kd.R_lower (Kd.R_new' (Kd.R_new' (Kd.R_new' (Kd.R_newM (M := fun k_ => (w.heap.size ≤ k_)) ho0 (below_size Xi) (fun k_ h_ => h_)) (Kd.R_lt (Xq O_8))) (Kd.R_lt (Xq O_9))) (Kd.R_lt (Xq O_10))) (below_size Xi))
    replace O_8 := Am (Kd.R_elder' (Xq O_8) (Kd.R_base ho0) hb)
    replace O_9 := Am (Kd.R_elder' (Xq O_9) (Kd.R_base ho0) hb)
    replace O_10 := Am (Kd.R_elder' (Xq O_10) (Kd.R_base ho0) hb)
    replace B250 := Xbb B250 hb
    replace B251 := Xbb B251 hb
    replace B252 := Xbb B252 hb
    replace B259 := Xbb B259 hb
    replace B305 := Xbb B305 hb
    replace HB := Xhb hb
    try clear hb
    try clear hb2
    try clear hk
    try clear hi
    try clear ho0
    refine hK.out _ _ ⟨Xk B251 0, Xk B251 1, Xk B251 2, HS3_, Xn hw297_0, Xn hw297_1, Xn hw297_2, Xn hw297_3, Xn hw297_4⟩ (fun hHeld => ?_)
    clear hK K
    refine Xno ?_
    exact norm_ (by simp only [putAll, Act.put, List.setIfInBounds_toArray, List.set_cons_zero, List.set_cons_succ]) (hCont (v303, gb305) _ ⟨hHeld, (by (with_reducible repeat (first | apply Kd.R_alloc | apply Kd.R_drewN | apply Kd.R_drew)); exact Kd.R_mono HO304.out (fun _ hk => ⟨hk.1.1.1.1, ⟨hk.2, ⟨hk.1.1.2, hk.1.2⟩⟩⟩)), (by (with_reducible repeat (first | apply Kd.R_alloc | apply Kd.R_drewN | apply Kd.R_drew)); exact Kd.R_mono O_10.out (fun _ hk => ⟨hk.1.1, ⟨hk.2, ⟨hk.1.2.1, hk.1.2.2⟩⟩⟩)), (by (with_reducible repeat (first | apply Kd.N_alloc | apply Kd.N_drewN | apply Kd.N_drew)); exact Kd.N_mono O_260002.out (fun _ hk => ⟨hk.1.1.1, ⟨hk.2, ⟨hk.1.1.2.2.2.1, ⟨hk.1.1.2.1, ⟨hk.1.1.2.2.1, ⟨hk.1.1.2.2.2.2.1, ⟨hk.1.1.2.2.2.2.2.1, ⟨hk.1.1.2.2.2.2.2.2.1, ⟨hk.1.1.2.2.2.2.2.2.2, hk.1.2⟩⟩⟩⟩⟩⟩⟩⟩⟩)), (by (with_reducible repeat (first | apply Kd.R_alloc | apply Kd.R_drewN | apply Kd.R_drew)); exact Kd.R_mono O_8.out (fun _ hk => ⟨hk.1.1, ⟨hk.2, ⟨hk.1.2.2, hk.1.2.1⟩⟩⟩)), (by (with_reducible repeat (first | apply Kd.R_alloc | apply Kd.R_drewN | apply Kd.R_drew)); exact Kd.R_mono O_9.out (fun _ hk => ⟨hk.1.1, ⟨hk.2, ⟨hk.1.2.2, hk.1.2.1⟩⟩⟩)), (Xq' B250), (Xq' B251), (Xq' B252), (Xq' B259), (Xq' B305), GW305.out, GE305.out, NB250_305.out, NB305_250.out, NB251_305.out, NB305_251.out, NB252_305.out, NB305_252.out, NB259_305.out, NB305_259.out, Xi⟩)
   skip
   refine box_step ?hg (N := 13) ?hd (cs := #[.int .i64 0, .int .i64 0, .int .i64 0, .string (⟨#[]⟩ : ByteArray), .slice none 0 0]) (t := 43) ?hr ?_; (case hd => rfl); (case hg => rfl); (case hr => first | (go_simp; done) | (go_simp; rfl))
   intro gb305 hg w81 hbox hb
   have HS3_ := (hb.cell (World.block_lt_of_cell? _ _ (hHeld.2.2.2.1))).trans (hHeld.2.2.2.1)
   replace O_8 := Am (Kd.R_below (Xq O_8) hb)
   replace O_9 := Am (Kd.R_below (Xq O_9) hb)
   replace O_10 := Am (Kd.R_below (Xq O_10) hb)
   replace O_260002 := Am (Kd.N_below (Kd.N_elderB (Xq O_260002) gb305 (Nat.le_of_eq hg.symm)) hb)
   have B305 := Am (hbox)
   have GW305 := Am ((by rw [hg]; exact (below_size Xi) : w.heap.size ≤ gb305))
   have GE305 := Am ((by rw [hg]; exact (below_size Xi) : w.heap.size ≤ gb305))
   replace HB := Xhb hb
   have NB250_305 := Am ((by rw [hg]; exact Nat.ne_of_lt (blk_lt (g := gb250) (o := .cells #[.int .i64 a0_0, .int .i64 a0_1, .slice A0_2 l0_2.length c0_2] 29 (0, 0)) (Xq' B250)) : gb250 ≠ gb305))
   have NB305_250 := Am ((by rw [hg]; exact Nat.ne_of_gt (blk_lt (g := gb250) (o := .cells #[.int .i64 a0_0, .int .i64 a0_1, .slice A0_2 l0_2.length c0_2] 29 (0, 0)) (Xq' B250)) : gb305 ≠ gb250))
   replace B250 := Xbb B250 hb
   have NB251_305 := Am ((by rw [hg]; exact Nat.ne_of_lt (blk_lt (g := gb251) (o := .cells #[.int .i64 a1_0, .int .i64 a1_1, .slice (some ad297) l1_2.length c1_2] 29 (0, 0)) (Xq' B251)) : gb251 ≠ gb305))
   have NB305_251 := Am ((by rw [hg]; exact Nat.ne_of_gt (blk_lt (g := gb251) (o := .cells #[.int .i64 a1_0, .int .i64 a1_1, .slice (some ad297) l1_2.length c1_2] 29 (0, 0)) (Xq' B251)) : gb305 ≠ gb251))
   replace B251 := Xbb B251 hb
   have NB252_305 := Am ((by rw [hg]; exact Nat.ne_of_lt (blk_lt (g := gb252) (o := .cells #[.int .i64 0, .int .i64 0, .slice none 0 0] 29 (0, 0)) (Xq' B252)) : gb252 ≠ gb305))
   have NB305_252 := Am ((by rw [hg]; exact Nat.ne_of_gt (blk_lt (g := gb252) (o := .cells #[.int .i64 0, .int .i64 0, .slice none 0 0] 29 (0, 0)) (Xq' B252)) : gb305 ≠ gb252))
   replace B252 := Xbb B252 hb
   have NB259_305 := Am ((by rw [hg]; exact Nat.ne_of_lt (blk_lt (g := gb259) (o := .cells #[.int .i64 a0_0, .int .i64 x260001_2, u260002] 29 (0, 0)) (Xq' B259)) : gb259 ≠ gb305))
   have NB305_259 := Am ((by rw [hg]; exact Nat.ne_of_gt (blk_lt (g := gb259) (o := .cells #[.int .i64 a0_0, .int .i64 x260001_2, u260002] 29 (0, 0)) (Xq' B259)) : gb305 ≠ gb259))
   replace B259 := Xbb B259 hb
   clear hb hbox hg
   refine hK.out _ _ ⟨Xk B251 0, Xk B251 1, Xk B251 2, HS3_, Xn hw297_0, Xn hw297_1, Xn hw297_2, Xn hw297_3, Xn hw297_4⟩ (fun hHeld => ?_)
   clear hK K
   refine Xno ?_
   refine On 7 106 13 2303 (fun K hK => ?_)
   refine Gs Try.func74 #[.agg #[.int .i64 a1_0, .int .i64 a1_1, .slice (some ad297) l1_2.length c1_2], .int .i64 (rd x10_3 x12_3)] ?_
   with_reducible refine (spec_l02At.calls k3 a1_0 a1_1 _ _ l1_2 (rd x10_3 x12_3) t296 _ ?s1 ?s2 A75.out).mono ?_
   (case s1 => exact Xc HR1_2)
   (case s2 => exact HC1_2.out)
   rintro e w82 ⟨rfl, hb⟩
   have HS3_ := (hb.cell (World.block_lt_of_cell? _ _ (hHeld.2.2.2.1))).trans (hHeld.2.2.2.1)
   refine ⟨_, rfl, ?_⟩
   replace O_8 := Am (Kd.R_below (Xq O_8) hb)
   replace O_9 := Am (Kd.R_below (Xq O_9) hb)
   replace O_10 := Am (Kd.R_below (Xq O_10) hb)
   replace O_260002 := Am (Kd.N_below (Xq O_260002) hb)
   replace B250 := Xbb B250 hb
   replace B251 := Xbb B251 hb
   replace B252 := Xbb B252 hb
   replace B259 := Xbb B259 hb
   replace B305 := Xbb B305 hb
   replace HB := Xhb hb
   try clear hb
   try clear hb2
   try clear hk
   try clear hi
   refine hK.out _ _ ⟨Xk B251 0, Xk B251 1, Xk B251 2, HS3_, Xn hw297_0, Xn hw297_1, Xn hw297_2, Xn hw297_3, Xn hw297_4⟩ (fun hHeld => ?_)
   clear hK K
   refine Xno ?_
   refine Pu 8 107 13 2559 ?_
   refine Ta 9 108 13 3071 ?_
   refine On 10 109 13 4095 (fun K hK => ?_)
   refine Gs Try.func73 #[.agg #[.int .i64 ((rd_T43 l1_2 t296).f0), .int .i64 ((rd_T43 l1_2 t296).f1), .int .i64 ((rd_T43 l1_2 t296).f2), .string ((rd_T43 l1_2 t296).f3), .slice A297_4 ((rd_T43 l1_2 t296).f4).length c297_4]] ?_
   with_reducible refine (spec_l02OwnNode.calls ((rd_T43 l1_2 t296).f0) ((rd_T43 l1_2 t296).f1) ((rd_T43 l1_2 t296).f2) ((rd_T43 l1_2 t296).f3) _ _ ((rd_T43 l1_2 t296).f4) t298 t299 t300 t301 t302 _ ?s1 ?s2 A78.out).mono ?_
   (case s1 => exact Xc HR297_4)
   (case s2 => exact HC297_4.out)
   rintro e w83 ⟨v303, rfl, ho0, hb⟩
   have HS3_ := (hb.cell (World.block_lt_of_cell? _ _ (hHeld.2.2.2.1))).trans (hHeld.2.2.2.1)
   refine ⟨_, rfl, ?_⟩
   replace O_260002 := Am (Kd.N_elder' (Xq O_260002) (Kd.R_base ho0) hb)
   have HO304 := Am (Kd.R_lower (Kd.R_new' (Kd.R_new' (Kd.R_new' (Kd.R_newM (M := fun k_ => (w.heap.size ≤ k_)) ho0 (below_size Xi) (fun k_ h_ => h_)) (Kd.R_lt (Xq O_8))) (Kd.R_lt (Xq O_9))) (Kd.R_lt (Xq O_10))) (below_size Xi))
   replace O_8 := Am (Kd.R_elder' (Xq O_8) (Kd.R_base ho0) hb)
   replace O_9 := Am (Kd.R_elder' (Xq O_9) (Kd.R_base ho0) hb)
   replace O_10 := Am (Kd.R_elder' (Xq O_10) (Kd.R_base ho0) hb)
   replace B250 := Xbb B250 hb
   replace B251 := Xbb B251 hb
   replace B252 := Xbb B252 hb
   replace B259 := Xbb B259 hb
   replace B305 := Xbb B305 hb
   replace HB := Xhb hb
   try clear hb
   try clear hb2
   try clear hk
   try clear hi
   try clear ho0
   refine hK.out _ _ ⟨Xk B251 0, Xk B251 1, Xk B251 2, HS3_, Xn hw297_0, Xn hw297_1, Xn hw297_2, Xn hw297_3, Xn hw297_4⟩ (fun hHeld => ?_)
   clear hK K
   refine Xno ?_
   exact norm_ (by simp only [putAll, Act.put, List.setIfInBounds_toArray, List.set_cons_zero, List.set_cons_succ]) (hCont (v303, gb305) _ ⟨hHeld, (by (with_reducible repeat (first | apply Kd.R_alloc | apply Kd.R_drewN | apply Kd.R_drew)); exact Kd.R_mono HO304.out (fun _ hk => ⟨hk.1.1.1.1, ⟨hk.2, ⟨hk.1.1.2, hk.1.2⟩⟩⟩)), (by (with_reducible repeat (first | apply Kd.R_alloc | apply Kd.R_drewN | apply Kd.R_drew)); exact Kd.R_mono O_10.out (fun _ hk => ⟨hk.1.1, ⟨hk.2, ⟨hk.1.2.1, hk.1.2.2⟩⟩⟩)), (by (with_reducible repeat (first | apply Kd.N_alloc | apply Kd.N_drewN | apply Kd.N_drew)); exact Kd.N_mono O_260002.out (fun _ hk => ⟨hk.1.1.1, ⟨hk.2, ⟨hk.1.1.2.2.2.1, ⟨hk.1.1.2.1, ⟨hk.1.1.2.2.1, ⟨hk.1.1.2.2.2.2.1, ⟨hk.1.1.2.2.2.2.2.1, ⟨hk.1.1.2.2.2.2.2.2.1, ⟨hk.1.1.2.2.2.2.2.2.2, hk.1.2⟩⟩⟩⟩⟩⟩⟩⟩⟩)), (by (with_reducible repeat (first | apply Kd.R_alloc | apply Kd.R_drewN | apply Kd.R_drew)); exact Kd.R_mono O_8.out (fun _ hk => ⟨hk.1.1, ⟨hk.2, ⟨hk.1.2.2, hk.1.2.1⟩⟩⟩)), (by (with_reducible repeat (first | apply Kd.R_alloc | apply Kd.R_drewN | apply Kd.R_drew)); exact Kd.R_mono O_9.out (fun _ hk => ⟨hk.1.1, ⟨hk.2, ⟨hk.1.2.2, hk.1.2.1⟩⟩⟩)), (Xq' B250), (Xq' B251), (Xq' B252), (Xq' B259), (Xq' B305), GW305.out, GE305.out, NB250_305.out, NB305_250.out, NB251_305.out, NB305_251.out, NB252_305.out, NB305_252.out, NB259_305.out, NB305_259.out, Xi⟩)
  rintro ⟨v303, gb305⟩ w84 ⟨hS_, h0_, h1_, h2_, h3_, h4_, h5_, h6_, h7_, h8_, h9_, h10_, h11_, h12_, h13_, h14_, h15_, h16_, h17_, h18_, h19_, h20_⟩
  have n0_ : Aside0 (Kd.R (Kd.int .i64) 3 w84 w.heap.size (fun k_ => (w.heap.size ≤ k_) ∧ some k_ ≠ (.slice (some ad295) x10_3.length co72 : Value).ownBlock ∧ some k_ ≠ (u8 : Value).ownBlock ∧ some k_ ≠ (u9 : Value).ownBlock) v303 t302) := ⟨h0_⟩
  have n1_ : Aside0 (Kd.R (Kd.int .i64) 3 w84 w.heap.size (fun k_ => (w.heap.size ≤ k_) ∧ some k_ ≠ (v303 : Value).ownBlock ∧ some k_ ≠ (u8 : Value).ownBlock ∧ some k_ ≠ (u9 : Value).ownBlock) (.slice (some ad295) x10_3.length co72) x10_3) := ⟨h1_⟩
  have n2_ : Aside0 (Kd.N k43 43 w84 w.heap.size (fun k_ => (w.heap.size ≤ k_) ∧ some k_ ≠ (v303 : Value).ownBlock ∧ some k_ ≠ (.slice (some ad295) x10_3.length co72 : Value).ownBlock ∧ some k_ ≠ (u8 : Value).ownBlock ∧ some k_ ≠ (u9 : Value).ownBlock ∧ k_ ≠ gb250 ∧ k_ ≠ gb251 ∧ k_ ≠ gb252 ∧ k_ ≠ gb259 ∧ k_ ≠ gb305) u260002 x260002_3) := ⟨h2_⟩
  have n3_ : Aside0 (Kd.R (Kd.int .i64) 3 w84 w.heap.size (fun k_ => (w.heap.size ≤ k_) ∧ some k_ ≠ (v303 : Value).ownBlock ∧ some k_ ≠ (.slice (some ad295) x10_3.length co72 : Value).ownBlock ∧ some k_ ≠ (u9 : Value).ownBlock) u8 x8_3) := ⟨h3_⟩
  have n4_ : Aside0 (Kd.R (Kd.int .i64) 3 w84 w.heap.size (fun k_ => (w.heap.size ≤ k_) ∧ some k_ ≠ (v303 : Value).ownBlock ∧ some k_ ≠ (.slice (some ad295) x10_3.length co72 : Value).ownBlock ∧ some k_ ≠ (u8 : Value).ownBlock) u9 x9_3) := ⟨h4_⟩
  have n5_ : Aside0 (w84.heap[gb250]? = some (.cells #[.int .i64 a0_0, .int .i64 a0_1, .slice A0_2 l0_2.length c0_2] 29 (0, 0))) := ⟨h5_⟩
  have n6_ : Aside0 (w84.heap[gb251]? = some (.cells #[.int .i64 a1_0, .int .i64 a1_1, .slice (some ad297) l1_2.length c1_2] 29 (0, 0))) := ⟨h6_⟩
  have n7_ : Aside0 (w84.heap[gb252]? = some (.cells #[.int .i64 0, .int .i64 0, .slice none 0 0] 29 (0, 0))) := ⟨h7_⟩
  have n8_ : Aside0 (w84.heap[gb259]? = some (.cells #[.int .i64 a0_0, .int .i64 x260001_2, u260002] 29 (0, 0))) := ⟨h8_⟩
  have n9_ : Aside0 (w84.heap[gb305]? = some (.cells #[.int .i64 0, .int .i64 0, .int .i64 0, .string (⟨#[]⟩ : ByteArray), .slice none 0 0] 43 (0, 0))) := ⟨h9_⟩
  have n10_ : Aside0 (w.heap.size ≤ gb305) := ⟨h10_⟩
  have n11_ : Aside0 (w.heap.size ≤ gb305) := ⟨h11_⟩
  have n12_ : Aside0 (gb250 ≠ gb305) := ⟨h12_⟩
  have n13_ : Aside0 (gb305 ≠ gb250) := ⟨h13_⟩
  have n14_ : Aside0 (gb251 ≠ gb305) := ⟨h14_⟩
  have n15_ : Aside0 (gb305 ≠ gb251) := ⟨h15_⟩
  have n16_ : Aside0 (gb252 ≠ gb305) := ⟨h16_⟩
  have n17_ : Aside0 (gb305 ≠ gb252) := ⟨h17_⟩
  have n18_ : Aside0 (gb259 ≠ gb305) := ⟨h18_⟩
  have n19_ : Aside0 (gb305 ≠ gb259) := ⟨h19_⟩
  have n20_ : Aside0 (Below w.heap.size w w84) := ⟨h20_⟩
  clear O_8
  clear O_9
  clear O_10
  clear O_260002
  clear B250
  clear B251
  clear B252
  clear B259
  clear HB
  clear h0_ h1_ h2_ h3_ h4_ h5_ h6_ h7_ h8_ h9_ h10_ h11_ h12_ h13_ h14_ h15_ h16_ h17_ h18_ h19_ h20_
  have HO304 := n0_
  have O_10 := n1_
  have O_260002 := n2_
  have O_8 := n3_
  have O_9 := n4_
  have B250 := n5_
  have B251 := n6_
  have B252 := n7_
  have B259 := n8_
  have B305 := n9_
  have GW305 := n10_
  have GE305 := n11_
  have NB250_305 := n12_
  have NB305_250 := n13_
  have NB251_305 := n14_
  have NB305_251 := n15_
  have NB252_305 := n16_
  have NB305_252 := n17_
  have NB259_305 := n18_
  have NB305_259 := n19_
  have HB := n20_
  clear n0_ n1_ n2_ n3_ n4_ n5_ n6_ n7_ n8_ n9_ n10_ n11_ n12_ n13_ n14_ n15_ n16_ n17_ n18_ n19_ n20_
  have hHeld : w84.cell? ⟨gb251, 0, none⟩ = some (.int .i64 a1_0) ∧ w84.cell? ⟨gb251, 1, none⟩ = some (.int .i64 a1_1) ∧ w84.cell? ⟨gb251, 2, none⟩ = some (.slice (some ad297) l1_2.length c1_2) ∧ w84.cell? (ad295.add (x12_3).toNat) = some (.int .i64 (rd x10_3 x12_3)) ∧ w84.cell? (ad297.add ((t296).toNat * 5)) = some (.int .i64 ((rd_T43 l1_2 t296).f0)) ∧ w84.cell? ⟨(ad297.add ((t296).toNat * 5)).block, (ad297.add ((t296).toNat * 5)).off + 1, none⟩ = some (.int .i64 ((rd_T43 l1_2 t296).f1)) ∧ w84.cell? ⟨(ad297.add ((t296).toNat * 5)).block, (ad297.add ((t296).toNat * 5)).off + 2, none⟩ = some (.int .i64 ((rd_T43 l1_2 t296).f2)) ∧ w84.cell? ⟨(ad297.add ((t296).toNat * 5)).block, (ad297.add ((t296).toNat * 5)).off + 3, none⟩ = some (.string ((rd_T43 l1_2 t296).f3)) ∧ w84.cell? ⟨(ad297.add ((t296).toNat * 5)).block, (ad297.add ((t296).toNat * 5)).off + 4, none⟩ = some (.slice A297_4 ((rd_T43 l1_2 t296).f4).length c297_4) := hS_
  obtain ⟨Ao89, co89, eo89⟩ := Kd.R_slice HO304.out
  (first | subst eo89 | (injection eo89 with f1_ f2_ f3_; have f4_ := f1_.symm; have f5_ := f3_.symm; clear f1_ f2_ f3_; subst f4_; subst f5_))
  refine norm_ (a' := ?_) ?_ ?_
  rotate_left
  ·simp only [putAll, Act.put, List.setIfInBounds_toArray, List.set_cons_zero, List.set_cons_succ]
   rfl
  refine one_ (i := 12) (N := none) (XW.bs 13 8191) rfl rfl (one_of HT_.out (by kernel_rfl)) (by decide) (fun K hK => ?_)
  have hs85 : w84.cell? ⟨gb305, 0, none⟩ = some (.int .i64 0) := Xk B305 0
  have hfs85 := blk_frozen B305.out 0
  have hns85_0 := NB250_305.out
  have hns85_1 := NB251_305.out
  have hns85_2 := NB252_305.out
  have hns85_3 := NB259_305.out
  have hms85_0 := NB305_250.out
  have hms85_1 := NB305_251.out
  have hms85_2 := NB305_252.out
  have hms85_3 := NB305_259.out
  have hs86 : w84.cell? ⟨gb305, 1, none⟩ = some (.int .i64 0) := Xk B305 1
  have hfs86 := blk_frozen B305.out 1
  have hns86_0 := NB250_305.out
  have hns86_1 := NB251_305.out
  have hns86_2 := NB252_305.out
  have hns86_3 := NB259_305.out
  have hms86_0 := NB305_250.out
  have hms86_1 := NB305_251.out
  have hms86_2 := NB305_252.out
  have hms86_3 := NB305_259.out
  have hs87 : w84.cell? ⟨gb305, 2, none⟩ = some (.int .i64 0) := Xk B305 2
  have hfs87 := blk_frozen B305.out 2
  have hns87_0 := NB250_305.out
  have hns87_1 := NB251_305.out
  have hns87_2 := NB252_305.out
  have hns87_3 := NB259_305.out
  have hms87_0 := NB305_250.out
  have hms87_1 := NB305_251.out
  have hms87_2 := NB305_252.out
  have hms87_3 := NB305_259.out
  have hs88 : w84.cell? ⟨gb305, 3, none⟩ = some (.string (⟨#[]⟩ : ByteArray)) := Xk B305 3
  have hfs88 := blk_frozen B305.out 3
  have hns88_0 := NB250_305.out
  have hns88_1 := NB251_305.out
  have hns88_2 := NB252_305.out
  have hns88_3 := NB259_305.out
  have hms88_0 := NB305_250.out
  have hms88_1 := NB305_251.out
  have hms88_2 := NB305_252.out
  have hms88_3 := NB305_259.out
  have hs90 : w84.cell? ⟨gb305, 4, none⟩ = some (.slice none 0 0) := Xk B305 4
  have hfs90 := blk_frozen B305.out 4
  have hns90_0 := NB250_305.out
  have hns90_1 := NB251_305.out
  have hns90_2 := NB252_305.out
  have hns90_3 := NB259_305.out
  have hms90_0 := NB305_250.out
  have hms90_1 := NB305_251.out
  have hms90_2 := NB305_252.out
  have hms90_3 := NB305_259.out
  refine skip_ (w1 := ?_) (by rfl) rfl ?_ ?_
  rotate_left
  ·go_simp
   rfl
  refine hK.out _ _ ⟨((cell_far (p := ⟨gb305, _, none⟩) NB251_305.out _).trans (((cell_far (p := ⟨gb305, _, none⟩) NB251_305.out _).trans (((cell_far (p := ⟨gb305, _, none⟩) NB251_305.out _).trans (((cell_far (p := ⟨gb305, _, none⟩) NB251_305.out _).trans (((cell_far (p := ⟨gb305, _, none⟩) NB251_305.out _).trans (hHeld.1)))))))))), ((cell_far (p := ⟨gb305, _, none⟩) NB251_305.out _).trans (((cell_far (p := ⟨gb305, _, none⟩) NB251_305.out _).trans (((cell_far (p := ⟨gb305, _, none⟩) NB251_305.out _).trans (((cell_far (p := ⟨gb305, _, none⟩) NB251_305.out _).trans (((cell_far (p := ⟨gb305, _, none⟩) NB251_305.out _).trans (hHeld.2.1)))))))))), ((cell_far (p := ⟨gb305, _, none⟩) NB251_305.out _).trans (((cell_far (p := ⟨gb305, _, none⟩) NB251_305.out _).trans (((cell_far (p := ⟨gb305, _, none⟩) NB251_305.out _).trans (((cell_far (p := ⟨gb305, _, none⟩) NB251_305.out _).trans (((cell_far (p := ⟨gb305, _, none⟩) NB251_305.out _).trans (hHeld.2.2.1)))))))))), ((cell_far (p := ⟨gb305, _, none⟩) (by first | exact Kd.own_blk (Kd.R_ne O_10.out B305.out (by decide)) | (rw [add_block]; exact Kd.own_blk (Kd.R_ne O_10.out B305.out (by decide))) | (show (Addr.add _ _).block ≠ _; rw [add_block]; exact Kd.own_blk (Kd.R_ne O_10.out B305.out (by decide))) | (dsimp only; exact Kd.own_blk (Kd.R_ne O_10.out B305.out (by decide)))) _).trans (((cell_far (p := ⟨gb305, _, none⟩) (by first | exact Kd.own_blk (Kd.R_ne O_10.out B305.out (by decide)) | (rw [add_block]; exact Kd.own_blk (Kd.R_ne O_10.out B305.out (by decide))) | (show (Addr.add _ _).block ≠ _; rw [add_block]; exact Kd.own_blk (Kd.R_ne O_10.out B305.out (by decide))) | (dsimp only; exact Kd.own_blk (Kd.R_ne O_10.out B305.out (by decide)))) _).trans (((cell_far (p := ⟨gb305, _, none⟩) (by first | exact Kd.own_blk (Kd.R_ne O_10.out B305.out (by decide)) | (rw [add_block]; exact Kd.own_blk (Kd.R_ne O_10.out B305.out (by decide))) | (show (Addr.add _ _).block ≠ _; rw [add_block]; exact Kd.own_blk (Kd.R_ne O_10.out B305.out (by decide))) | (dsimp only; exact Kd.own_blk (Kd.R_ne O_10.out B305.out (by decide)))) _).trans (((cell_far (p := ⟨gb305, _, none⟩) (by first | exact Kd.own_blk (Kd.R_ne O_10.out B305.out (by decide)) | (rw [add_block]; exact Kd.own_blk (Kd.R_ne O_10.out B305.out (by decide))) | (show (Addr.add _ _).block ≠ _; rw [add_block]; exact Kd.own_blk (Kd.R_ne O_10.out B305.out (by decide))) | (dsimp only; exact Kd.own_blk (Kd.R_ne O_10.out B305.out (by decide)))) _).trans (((cell_far (p := ⟨gb305, _, none⟩) (by first | exact Kd.own_blk (Kd.R_ne O_10.out B305.out (by decide)) | (rw [add_block]; exact Kd.own_blk (Kd.R_ne O_10.out B305.out (by decide))) | (show (Addr.add _ _).block ≠ _; rw [add_block]; exact Kd.own_blk (Kd.R_ne O_10.out B305.out (by decide))) | (dsimp only; exact Kd.own_blk (Kd.R_ne O_10.out B305.out (by decide)))) _).trans (hHeld.2.2.2.1)))))))))), ((cell_far (p := ⟨gb305, _, none⟩) (by first | exact Nat.ne_of_lt (Nat.lt_of_lt_of_le (by have := World.block_lt_of_cell? _ _ hw297_0; first | rwa [add_block] at this | exact this) GW305.out) | (rw [add_block]; exact Nat.ne_of_lt (Nat.lt_of_lt_of_le (by have := World.block_lt_of_cell? _ _ hw297_0; first | rwa [add_block] at this | exact this) GW305.out)) | (show (Addr.add _ _).block ≠ _; rw [add_block]; exact Nat.ne_of_lt (Nat.lt_of_lt_of_le (by have := World.block_lt_of_cell? _ _ hw297_0; first | rwa [add_block] at this | exact this) GW305.out)) | (dsimp only; exact Nat.ne_of_lt (Nat.lt_of_lt_of_le (by have := World.block_lt_of_cell? _ _ hw297_0; first | rwa [add_block] at this | exact this) GW305.out))) _).trans (((cell_far (p := ⟨gb305, _, none⟩) (by first | exact Nat.ne_of_lt (Nat.lt_of_lt_of_le (by have := World.block_lt_of_cell? _ _ hw297_0; first | rwa [add_block] at this | exact this) GW305.out) | (rw [add_block]; exact Nat.ne_of_lt (Nat.lt_of_lt_of_le (by have := World.block_lt_of_cell? _ _ hw297_0; first | rwa [add_block] at this | exact this) GW305.out)) | (show (Addr.add _ _).block ≠ _; rw [add_block]; exact Nat.ne_of_lt (Nat.lt_of_lt_of_le (by have := World.block_lt_of_cell? _ _ hw297_0; first | rwa [add_block] at this | exact this) GW305.out)) | (dsimp only; exact Nat.ne_of_lt (Nat.lt_of_lt_of_le (by have := World.block_lt_of_cell? _ _ hw297_0; first | rwa [add_block] at this | exact this) GW305.out))) _).trans (((cell_far (p := ⟨gb305, _, none⟩) (by first | exact Nat.ne_of_lt (Nat.lt_of_lt_of_le (by have := World.block_lt_of_cell? _ _ hw297_0; first | rwa [add_block] at this | exact this) GW305.out) | (rw [add_block]; exact Nat.ne_of_lt (Nat.lt_of_lt_of_le (by have := World.block_lt_of_cell? _ _ hw297_0; first | rwa [add_block] at this | exact this) GW305.out)) | (show (Addr.add _ _).block ≠ _; rw [add_block]; exact Nat.ne_of_lt (Nat.lt_of_lt_of_le (by have := World.block_lt_of_cell? _ _ hw297_0; first | rwa [add_block] at this | exact this) GW305.out)) | (dsimp only; exact Nat.ne_of_lt (Nat.lt_of_lt_of_le (by have := World.block_lt_of_cell? _ _ hw297_0; first | rwa [add_block] at this | exact this) GW305.out))) _).trans (((cell_far (p := ⟨gb305, _, none⟩) (by first | exact Nat.ne_of_lt (Nat.lt_of_lt_of_le (by have := World.block_lt_of_cell? _ _ hw297_0; first | rwa [add_block] at this | exact this) GW305.out) | (rw [add_block]; exact Nat.ne_of_lt (Nat.lt_of_lt_of_le (by have := World.block_lt_of_cell? _ _ hw297_0; first | rwa [add_block] at this | exact this) GW305.out)) | (show (Addr.add _ _).block ≠ _; rw [add_block]; exact Nat.ne_of_lt (Nat.lt_of_lt_of_le (by have := World.block_lt_of_cell? _ _ hw297_0; first | rwa [add_block] at this | exact this) GW305.out)) | (dsimp only; exact Nat.ne_of_lt (Nat.lt_of_lt_of_le (by have := World.block_lt_of_cell? _ _ hw297_0; first | rwa [add_block] at this | exact this) GW305.out))) _).trans (((cell_far (p := ⟨gb305, _, none⟩) (by first | exact Nat.ne_of_lt (Nat.lt_of_lt_of_le (by have := World.block_lt_of_cell? _ _ hw297_0; first | rwa [add_block] at this | exact this) GW305.out) | (rw [add_block]; exact Nat.ne_of_lt (Nat.lt_of_lt_of_le (by have := World.block_lt_of_cell? _ _ hw297_0; first | rwa [add_block] at this | exact this) GW305.out)) | (show (Addr.add _ _).block ≠ _; rw [add_block]; exact Nat.ne_of_lt (Nat.lt_of_lt_of_le (by have := World.block_lt_of_cell? _ _ hw297_0; first | rwa [add_block] at this | exact this) GW305.out)) | (dsimp only; exact Nat.ne_of_lt (Nat.lt_of_lt_of_le (by have := World.block_lt_of_cell? _ _ hw297_0; first | rwa [add_block] at this | exact this) GW305.out))) _).trans (hHeld.2.2.2.2.1)))))))))), ((cell_far (p := ⟨gb305, _, none⟩) (by first | exact Nat.ne_of_lt (Nat.lt_of_lt_of_le (by have := World.block_lt_of_cell? _ _ hw297_1; first | rwa [add_block] at this | exact this) GW305.out) | (rw [add_block]; exact Nat.ne_of_lt (Nat.lt_of_lt_of_le (by have := World.block_lt_of_cell? _ _ hw297_1; first | rwa [add_block] at this | exact this) GW305.out)) | (show (Addr.add _ _).block ≠ _; rw [add_block]; exact Nat.ne_of_lt (Nat.lt_of_lt_of_le (by have := World.block_lt_of_cell? _ _ hw297_1; first | rwa [add_block] at this | exact this) GW305.out)) | (dsimp only; exact Nat.ne_of_lt (Nat.lt_of_lt_of_le (by have := World.block_lt_of_cell? _ _ hw297_1; first | rwa [add_block] at this | exact this) GW305.out))) _).trans (((cell_far (p := ⟨gb305, _, none⟩) (by first | exact Nat.ne_of_lt (Nat.lt_of_lt_of_le (by have := World.block_lt_of_cell? _ _ hw297_1; first | rwa [add_block] at this | exact this) GW305.out) | (rw [add_block]; exact Nat.ne_of_lt (Nat.lt_of_lt_of_le (by have := World.block_lt_of_cell? _ _ hw297_1; first | rwa [add_block] at this | exact this) GW305.out)) | (show (Addr.add _ _).block ≠ _; rw [add_block]; exact Nat.ne_of_lt (Nat.lt_of_lt_of_le (by have := World.block_lt_of_cell? _ _ hw297_1; first | rwa [add_block] at this | exact this) GW305.out)) | (dsimp only; exact Nat.ne_of_lt (Nat.lt_of_lt_of_le (by have := World.block_lt_of_cell? _ _ hw297_1; first | rwa [add_block] at this | exact this) GW305.out))) _).trans (((cell_far (p := ⟨gb305, _, none⟩) (by first | exact Nat.ne_of_lt (Nat.lt_of_lt_of_le (by have := World.block_lt_of_cell? _ _ hw297_1; first | rwa [add_block] at this | exact this) GW305.out) | (rw [add_block]; exact Nat.ne_of_lt (Nat.lt_of_lt_of_le (by have := World.block_lt_of_cell? _ _ hw297_1; first | rwa [add_block] at this | exact this) GW305.out)) | (show (Addr.add _ _).block ≠ _; rw [add_block]; exact Nat.ne_of_lt (Nat.lt_of_lt_of_le (by have := World.block_lt_of_cell? _ _ hw297_1; first | rwa [add_block] at this | exact this) GW305.out)) | (dsimp only; exact Nat.ne_of_lt (Nat.lt_of_lt_of_le (by have := World.block_lt_of_cell? _ _ hw297_1; first | rwa [add_block] at this | exact this) GW305.out))) _).trans (((cell_far (p := ⟨gb305, _, none⟩) (by first | exact Nat.ne_of_lt (Nat.lt_of_lt_of_le (by have := World.block_lt_of_cell? _ _ hw297_1; first | rwa [add_block] at this | exact this) GW305.out) | (rw [add_block]; exact Nat.ne_of_lt (Nat.lt_of_lt_of_le (by have := World.block_lt_of_cell? _ _ hw297_1; first | rwa [add_block] at this | exact this) GW305.out)) | (show (Addr.add _ _).block ≠ _; rw [add_block]; exact Nat.ne_of_lt (Nat.lt_of_lt_of_le (by have := World.block_lt_of_cell? _ _ hw297_1; first | rwa [add_block] at this | exact this) GW305.out)) | (dsimp only; exact Nat.ne_of_lt (Nat.lt_of_lt_of_le (by have := World.block_lt_of_cell? _ _ hw297_1; first | rwa [add_block] at this | exact this) GW305.out))) _).trans (((cell_far (p := ⟨gb305, _, none⟩) (by first | exact Nat.ne_of_lt (Nat.lt_of_lt_of_le (by have := World.block_lt_of_cell? _ _ hw297_1; first | rwa [add_block] at this | exact this) GW305.out) | (rw [add_block]; exact Nat.ne_of_lt (Nat.lt_of_lt_of_le (by have := World.block_lt_of_cell? _ _ hw297_1; first | rwa [add_block] at this | exact this) GW305.out)) | (show (Addr.add _ _).block ≠ _; rw [add_block]; exact Nat.ne_of_lt (Nat.lt_of_lt_of_le (by have := World.block_lt_of_cell? _ _ hw297_1; first | rwa [add_block] at this | exact this) GW305.out)) | (dsimp only; exact Nat.ne_of_lt (Nat.lt_of_lt_of_le (by have := World.block_lt_of_cell? _ _ hw297_1; first | rwa [add_block] at this | exact this) GW305.out))) _).trans (hHeld.2.2.2.2.2.1)))))))))), ((cell_far (p := ⟨gb305, _, none⟩) (by first | exact Nat.ne_of_lt (Nat.lt_of_lt_of_le (by have := World.block_lt_of_cell? _ _ hw297_2; first | rwa [add_block] at this | exact this) GW305.out) | (rw [add_block]; exact Nat.ne_of_lt (Nat.lt_of_lt_of_le (by have := World.block_lt_of_cell? _ _ hw297_2; first | rwa [add_block] at this | exact this) GW305.out)) | (show (Addr.add _ _).block ≠ _; rw [add_block]; exact Nat.ne_of_lt (Nat.lt_of_lt_of_le (by have := World.block_lt_of_cell? _ _ hw297_2; first | rwa [add_block] at this | exact this) GW305.out)) | (dsimp only; exact Nat.ne_of_lt (Nat.lt_of_lt_of_le (by have := World.block_lt_of_cell? _ _ hw297_2; first | rwa [add_block] at this | exact this) GW305.out))) _).trans (((cell_far (p := ⟨gb305, _, none⟩) (by first | exact Nat.ne_of_lt (Nat.lt_of_lt_of_le (by have := World.block_lt_of_cell? _ _ hw297_2; first | rwa [add_block] at this | exact this) GW305.out) | (rw [add_block]; exact Nat.ne_of_lt (Nat.lt_of_lt_of_le (by have := World.block_lt_of_cell? _ _ hw297_2; first | rwa [add_block] at this | exact this) GW305.out)) | (show (Addr.add _ _).block ≠ _; rw [add_block]; exact Nat.ne_of_lt (Nat.lt_of_lt_of_le (by have := World.block_lt_of_cell? _ _ hw297_2; first | rwa [add_block] at this | exact this) GW305.out)) | (dsimp only; exact Nat.ne_of_lt (Nat.lt_of_lt_of_le (by have := World.block_lt_of_cell? _ _ hw297_2; first | rwa [add_block] at this | exact this) GW305.out))) _).trans (((cell_far (p := ⟨gb305, _, none⟩) (by first | exact Nat.ne_of_lt (Nat.lt_of_lt_of_le (by have := World.block_lt_of_cell? _ _ hw297_2; first | rwa [add_block] at this | exact this) GW305.out) | (rw [add_block]; exact Nat.ne_of_lt (Nat.lt_of_lt_of_le (by have := World.block_lt_of_cell? _ _ hw297_2; first | rwa [add_block] at this | exact this) GW305.out)) | (show (Addr.add _ _).block ≠ _; rw [add_block]; exact Nat.ne_of_lt (Nat.lt_of_lt_of_le (by have := World.block_lt_of_cell? _ _ hw297_2; first | rwa [add_block] at this | exact this) GW305.out)) | (dsimp only; exact Nat.ne_of_lt (Nat.lt_of_lt_of_le (by have := World.block_lt_of_cell? _ _ hw297_2; first | rwa [add_block] at this | exact this) GW305.out))) _).trans (((cell_far (p := ⟨gb305, _, none⟩) (by first | exact Nat.ne_of_lt (Nat.lt_of_lt_of_le (by have := World.block_lt_of_cell? _ _ hw297_2; first | rwa [add_block] at this | exact this) GW305.out) | (rw [add_block]; exact Nat.ne_of_lt (Nat.lt_of_lt_of_le (by have := World.block_lt_of_cell? _ _ hw297_2; first | rwa [add_block] at this | exact this) GW305.out)) | (show (Addr.add _ _).block ≠ _; rw [add_block]; exact Nat.ne_of_lt (Nat.lt_of_lt_of_le (by have := World.block_lt_of_cell? _ _ hw297_2; first | rwa [add_block] at this | exact this) GW305.out)) | (dsimp only; exact Nat.ne_of_lt (Nat.lt_of_lt_of_le (by have := World.block_lt_of_cell? _ _ hw297_2; first | rwa [add_block] at this | exact this) GW305.out))) _).trans (((cell_far (p := ⟨gb305, _, none⟩) (by first | exact Nat.ne_of_lt (Nat.lt_of_lt_of_le (by have := World.block_lt_of_cell? _ _ hw297_2; first | rwa [add_block] at this | exact this) GW305.out) | (rw [add_block]; exact Nat.ne_of_lt (Nat.lt_of_lt_of_le (by have := World.block_lt_of_cell? _ _ hw297_2; first | rwa [add_block] at this | exact this) GW305.out)) | (show (Addr.add _ _).block ≠ _; rw [add_block]; exact Nat.ne_of_lt (Nat.lt_of_lt_of_le (by have := World.block_lt_of_cell? _ _ hw297_2; first | rwa [add_block] at this | exact this) GW305.out)) | (dsimp only; exact Nat.ne_of_lt (Nat.lt_of_lt_of_le (by have := World.block_lt_of_cell? _ _ hw297_2; first | rwa [add_block] at this | exact this) GW305.out))) _).trans (hHeld.2.2.2.2.2.2.1)))))))))), ((cell_far (p := ⟨gb305, _, none⟩) (by first | exact Nat.ne_of_lt (Nat.lt_of_lt_of_le (by have := World.block_lt_of_cell? _ _ hw297_3; first | rwa [add_block] at this | exact this) GW305.out) | (rw [add_block]; exact Nat.ne_of_lt (Nat.lt_of_lt_of_le (by have := World.block_lt_of_cell? _ _ hw297_3; first | rwa [add_block] at this | exact this) GW305.out)) | (show (Addr.add _ _).block ≠ _; rw [add_block]; exact Nat.ne_of_lt (Nat.lt_of_lt_of_le (by have := World.block_lt_of_cell? _ _ hw297_3; first | rwa [add_block] at this | exact this) GW305.out)) | (dsimp only; exact Nat.ne_of_lt (Nat.lt_of_lt_of_le (by have := World.block_lt_of_cell? _ _ hw297_3; first | rwa [add_block] at this | exact this) GW305.out))) _).trans (((cell_far (p := ⟨gb305, _, none⟩) (by first | exact Nat.ne_of_lt (Nat.lt_of_lt_of_le (by have := World.block_lt_of_cell? _ _ hw297_3; first | rwa [add_block] at this | exact this) GW305.out) | (rw [add_block]; exact Nat.ne_of_lt (Nat.lt_of_lt_of_le (by have := World.block_lt_of_cell? _ _ hw297_3; first | rwa [add_block] at this | exact this) GW305.out)) | (show (Addr.add _ _).block ≠ _; rw [add_block]; exact Nat.ne_of_lt (Nat.lt_of_lt_of_le (by have := World.block_lt_of_cell? _ _ hw297_3; first | rwa [add_block] at this | exact this) GW305.out)) | (dsimp only; exact Nat.ne_of_lt (Nat.lt_of_lt_of_le (by have := World.block_lt_of_cell? _ _ hw297_3; first | rwa [add_block] at this | exact this) GW305.out))) _).trans (((cell_far (p := ⟨gb305, _, none⟩) (by first | exact Nat.ne_of_lt (Nat.lt_of_lt_of_le (by have := World.block_lt_of_cell? _ _ hw297_3; first | rwa [add_block] at this | exact this) GW305.out) | (rw [add_block]; exact Nat.ne_of_lt (Nat.lt_of_lt_of_le (by have := World.block_lt_of_cell? _ _ hw297_3; first | rwa [add_block] at this | exact this) GW305.out)) | (show (Addr.add _ _).block ≠ _; rw [add_block]; exact Nat.ne_of_lt (Nat.lt_of_lt_of_le (by have := World.block_lt_of_cell? _ _ hw297_3; first | rwa [add_block] at this | exact this) GW305.out)) | (dsimp only; exact Nat.ne_of_lt (Nat.lt_of_lt_of_le (by have := World.block_lt_of_cell? _ _ hw297_3; first | rwa [add_block] at this | exact this) GW305.out))) _).trans (((cell_far (p := ⟨gb305, _, none⟩) (by first | exact Nat.ne_of_lt (Nat.lt_of_lt_of_le (by have := World.block_lt_of_cell? _ _ hw297_3; first | rwa [add_block] at this | exact this) GW305.out) | (rw [add_block]; exact Nat.ne_of_lt (Nat.lt_of_lt_of_le (by have := World.block_lt_of_cell? _ _ hw297_3; first | rwa [add_block] at this | exact this) GW305.out)) | (show (Addr.add _ _).block ≠ _; rw [add_block]; exact Nat.ne_of_lt (Nat.lt_of_lt_of_le (by have := World.block_lt_of_cell? _ _ hw297_3; first | rwa [add_block] at this | exact this) GW305.out)) | (dsimp only; exact Nat.ne_of_lt (Nat.lt_of_lt_of_le (by have := World.block_lt_of_cell? _ _ hw297_3; first | rwa [add_block] at this | exact this) GW305.out))) _).trans (((cell_far (p := ⟨gb305, _, none⟩) (by first | exact Nat.ne_of_lt (Nat.lt_of_lt_of_le (by have := World.block_lt_of_cell? _ _ hw297_3; first | rwa [add_block] at this | exact this) GW305.out) | (rw [add_block]; exact Nat.ne_of_lt (Nat.lt_of_lt_of_le (by have := World.block_lt_of_cell? _ _ hw297_3; first | rwa [add_block] at this | exact this) GW305.out)) | (show (Addr.add _ _).block ≠ _; rw [add_block]; exact Nat.ne_of_lt (Nat.lt_of_lt_of_le (by have := World.block_lt_of_cell? _ _ hw297_3; first | rwa [add_block] at this | exact this) GW305.out)) | (dsimp only; exact Nat.ne_of_lt (Nat.lt_of_lt_of_le (by have := World.block_lt_of_cell? _ _ hw297_3; first | rwa [add_block] at this | exact this) GW305.out))) _).trans (hHeld.2.2.2.2.2.2.2.1)))))))))), ((cell_far (p := ⟨gb305, _, none⟩) (by first | exact Nat.ne_of_lt (Nat.lt_of_lt_of_le (by have := World.block_lt_of_cell? _ _ hw297_4; first | rwa [add_block] at this | exact this) GW305.out) | (rw [add_block]; exact Nat.ne_of_lt (Nat.lt_of_lt_of_le (by have := World.block_lt_of_cell? _ _ hw297_4; first | rwa [add_block] at this | exact this) GW305.out)) | (show (Addr.add _ _).block ≠ _; rw [add_block]; exact Nat.ne_of_lt (Nat.lt_of_lt_of_le (by have := World.block_lt_of_cell? _ _ hw297_4; first | rwa [add_block] at this | exact this) GW305.out)) | (dsimp only; exact Nat.ne_of_lt (Nat.lt_of_lt_of_le (by have := World.block_lt_of_cell? _ _ hw297_4; first | rwa [add_block] at this | exact this) GW305.out))) _).trans (((cell_far (p := ⟨gb305, _, none⟩) (by first | exact Nat.ne_of_lt (Nat.lt_of_lt_of_le (by have := World.block_lt_of_cell? _ _ hw297_4; first | rwa [add_block] at this | exact this) GW305.out) | (rw [add_block]; exact Nat.ne_of_lt (Nat.lt_of_lt_of_le (by have := World.block_lt_of_cell? _ _ hw297_4; first | rwa [add_block] at this | exact this) GW305.out)) | (show (Addr.add _ _).block ≠ _; rw [add_block]; exact Nat.ne_of_lt (Nat.lt_of_lt_of_le (by have := World.block_lt_of_cell? _ _ hw297_4; first | rwa [add_block] at this | exact this) GW305.out)) | (dsimp only; exact Nat.ne_of_lt (Nat.lt_of_lt_of_le (by have := World.block_lt_of_cell? _ _ hw297_4; first | rwa [add_block] at this | exact this) GW305.out))) _).trans (((cell_far (p := ⟨gb305, _, none⟩) (by first | exact Nat.ne_of_lt (Nat.lt_of_lt_of_le (by have := World.block_lt_of_cell? _ _ hw297_4; first | rwa [add_block] at this | exact this) GW305.out) | (rw [add_block]; exact Nat.ne_of_lt (Nat.lt_of_lt_of_le (by have := World.block_lt_of_cell? _ _ hw297_4; first | rwa [add_block] at this | exact this) GW305.out)) | (show (Addr.add _ _).block ≠ _; rw [add_block]; exact Nat.ne_of_lt (Nat.lt_of_lt_of_le (by have := World.block_lt_of_cell? _ _ hw297_4; first | rwa [add_block] at this | exact this) GW305.out)) | (dsimp only; exact Nat.ne_of_lt (Nat.lt_of_lt_of_le (by have := World.block_lt_of_cell? _ _ hw297_4; first | rwa [add_block] at this | exact this) GW305.out))) _).trans (((cell_far (p := ⟨gb305, _, none⟩) (by first | exact Nat.ne_of_lt (Nat.lt_of_lt_of_le (by have := World.block_lt_of_cell? _ _ hw297_4; first | rwa [add_block] at this | exact this) GW305.out) | (rw [add_block]; exact Nat.ne_of_lt (Nat.lt_of_lt_of_le (by have := World.block_lt_of_cell? _ _ hw297_4; first | rwa [add_block] at this | exact this) GW305.out)) | (show (Addr.add _ _).block ≠ _; rw [add_block]; exact Nat.ne_of_lt (Nat.lt_of_lt_of_le (by have := World.block_lt_of_cell? _ _ hw297_4; first | rwa [add_block] at this | exact this) GW305.out)) | (dsimp only; exact Nat.ne_of_lt (Nat.lt_of_lt_of_le (by have := World.block_lt_of_cell? _ _ hw297_4; first | rwa [add_block] at this | exact this) GW305.out))) _).trans (((cell_far (p := ⟨gb305, _, none⟩) (by first | exact Nat.ne_of_lt (Nat.lt_of_lt_of_le (by have := World.block_lt_of_cell? _ _ hw297_4; first | rwa [add_block] at this | exact this) GW305.out) | (rw [add_block]; exact Nat.ne_of_lt (Nat.lt_of_lt_of_le (by have := World.block_lt_of_cell? _ _ hw297_4; first | rwa [add_block] at this | exact this) GW305.out)) | (show (Addr.add _ _).block ≠ _; rw [add_block]; exact Nat.ne_of_lt (Nat.lt_of_lt_of_le (by have := World.block_lt_of_cell? _ _ hw297_4; first | rwa [add_block] at this | exact this) GW305.out)) | (dsimp only; exact Nat.ne_of_lt (Nat.lt_of_lt_of_le (by have := World.block_lt_of_cell? _ _ hw297_4; first | rwa [add_block] at this | exact this) GW305.out))) _).trans (hHeld.2.2.2.2.2.2.2.2))))))))))⟩ (fun hHeld => ?_)
  clear hK K
  refine Dn ?_
  obtain ⟨Ao91, co91, eo91⟩ := Kd.R_slice O_9.out
  subst eo91
  have p306 : 0 ≤ (x12_3 : Int) := Xo
  have q306 : x12_3 < (x9_3.length : Int) := Xo
  obtain ⟨ad306, e306, hx306_0⟩ := Kd.at_int (Kd.R_reads' O_9.out).2.2 x12_3 p306 q306
  cases e306
  have hn306_0 : ad306.block ≠ gb305 := Kd.own_blk (Kd.R_ne O_9.out B305.out (by decide))
  have hn306_1 : ad306.block ≠ gb305 := Kd.own_blk (Kd.R_ne O_9.out B305.out (by decide))
  have hn306_2 : ad306.block ≠ gb305 := Kd.own_blk (Kd.R_ne O_9.out B305.out (by decide))
  have hn306_3 : ad306.block ≠ gb305 := Kd.own_blk (Kd.R_ne O_9.out B305.out (by decide))
  have hn306_4 : ad306.block ≠ gb305 := Kd.own_blk (Kd.R_ne O_9.out B305.out (by decide))
  replace hx306_0 := (cell_far (p := ⟨gb305, 0, none⟩) (by first | (rw [add_block]; exact hn306_0) | (show (Addr.add _ _).block ≠ _; rw [add_block]; exact hn306_0) | exact hn306_0) (.int .i64 t298)).trans hx306_0
  replace hx306_0 := (cell_far (p := ⟨gb305, 1, none⟩) (by first | (rw [add_block]; exact hn306_1) | (show (Addr.add _ _).block ≠ _; rw [add_block]; exact hn306_1) | exact hn306_1) (.int .i64 t299)).trans hx306_0
  replace hx306_0 := (cell_far (p := ⟨gb305, 2, none⟩) (by first | (rw [add_block]; exact hn306_2) | (show (Addr.add _ _).block ≠ _; rw [add_block]; exact hn306_2) | exact hn306_2) (.int .i64 t300)).trans hx306_0
  replace hx306_0 := (cell_far (p := ⟨gb305, 3, none⟩) (by first | (rw [add_block]; exact hn306_3) | (show (Addr.add _ _).block ≠ _; rw [add_block]; exact hn306_3) | exact hn306_3) (.string t301)).trans hx306_0
  replace hx306_0 := (cell_far (p := ⟨gb305, 4, none⟩) (by first | (rw [add_block]; exact hn306_4) | (show (Addr.add _ _).block ≠ _; rw [add_block]; exact hn306_4) | exact hn306_4) (.slice Ao89 t302.length co89)).trans hx306_0
  clear hn306_0
  clear hn306_1
  clear hn306_2
  clear hn306_3
  clear hn306_4
  replace p306 := eq_true p306
  replace q306 := eq_true q306
  have hnb92 := NB305_250.out
  have hnc92 := NB250_305.out
  have hnb93 := NB305_251.out
  have hnc93 := NB251_305.out
  have hnb94 := NB305_252.out
  have hnc94 := NB252_305.out
  have hnb95 := NB305_259.out
  have hnc95 := NB259_305.out
  obtain ⟨Z96_0, Z96_1, Z96_2, Z96_3, Z96_4⟩ := Xc5 B305
  obtain ⟨F96_0, F96_1, F96_2, F96_3, F96_4⟩ := Xf5 B305
  try go_wp2_with (fail)
  go_loopg [14] k3 (fun kq v14 w' => ∃ (x8_4 : List Int) (x9_4 : List Int) (x10_4 : List Int) (x14_4 : Int) (x306004_4 : List Int) (u306004 : Value), v14 = .int .i64 x14_4 ∧ Aside0 (spec_l02Splice.l3 kq x8_4 x9_4 x10_4 x12_3 x14_4 a1_0 a1_1 l1_2 a0_0 x260001_2 x260002_3 (rd x9_3 x12_3) t299 t300 t301 x306004_4 = some (r1, r2, r3)) ∧ Aside0 (kq ≤ k3) ∧ Aside0 (Kd.R (Kd.int .i64) 3 w' w.heap.size (fun k_ => (w.heap.size ≤ k_) ∧ some k_ ≠ ((.slice (some ad306) x9_3.length co91) : Value).ownBlock ∧ some k_ ≠ ((.slice (some ad295) x10_3.length co72) : Value).ownBlock ∧ some k_ ≠ (u306004 : Value).ownBlock) u8 x8_4) ∧ Aside0 (Kd.R (Kd.int .i64) 3 w' w.heap.size (fun k_ => (w.heap.size ≤ k_) ∧ some k_ ≠ (u8 : Value).ownBlock ∧ some k_ ≠ ((.slice (some ad295) x10_3.length co72) : Value).ownBlock ∧ some k_ ≠ (u306004 : Value).ownBlock) (.slice (some ad306) x9_3.length co91) x9_4) ∧ Aside0 (Kd.R (Kd.int .i64) 3 w' w.heap.size (fun k_ => (w.heap.size ≤ k_) ∧ some k_ ≠ (u8 : Value).ownBlock ∧ some k_ ≠ ((.slice (some ad306) x9_3.length co91) : Value).ownBlock ∧ some k_ ≠ (u306004 : Value).ownBlock) (.slice (some ad295) x10_3.length co72) x10_4) ∧ Aside0 (Kd.N k43 43 w' w.heap.size (fun k_ => (w.heap.size ≤ k_) ∧ some k_ ≠ (u8 : Value).ownBlock ∧ some k_ ≠ ((.slice (some ad306) x9_3.length co91) : Value).ownBlock ∧ some k_ ≠ ((.slice (some ad295) x10_3.length co72) : Value).ownBlock ∧ some k_ ≠ (u306004 : Value).ownBlock ∧ k_ ≠ gb250 ∧ k_ ≠ gb251 ∧ k_ ≠ gb252 ∧ k_ ≠ gb259 ∧ k_ ≠ gb305) u260002 x260002_3) ∧ Aside0 (Kd.R (Kd.int .i64) 3 w' w.heap.size (fun k_ => (w.heap.size ≤ k_) ∧ some k_ ≠ (u8 : Value).ownBlock ∧ some k_ ≠ ((.slice (some ad306) x9_3.length co91) : Value).ownBlock ∧ some k_ ≠ ((.slice (some ad295) x10_3.length co72) : Value).ownBlock) u306004 x306004_4) ∧ Aside0 (w'.heap[gb250]? = some (.cells #[.int .i64 a0_0, .int .i64 a0_1, (.slice A0_2 l0_2.length c0_2)] 29 (0, 0))) ∧ Aside0 (w'.heap[gb251]? = some (.cells #[.int .i64 a1_0, .int .i64 a1_1, (.slice (some ad297) l1_2.length c1_2)] 29 (0, 0))) ∧ Aside0 (w'.heap[gb252]? = some (.cells #[.int .i64 0, .int .i64 0, (.slice none 0 0)] 29 (0, 0))) ∧ Aside0 (w'.heap[gb259]? = some (.cells #[.int .i64 a0_0, .int .i64 x260001_2, u260002] 29 (0, 0))) ∧ Aside0 (w'.heap[gb305]? = some (.cells #[.int .i64 (rd x9_3 x12_3), .int .i64 t299, .int .i64 t300, .string t301, u306004] 43 (0, 0))) ∧ Aside0 (Below w.heap.size w w'))
  case atStart => exact ⟨(x8_3), (x9_3), (x10_3), (0), (t302), (.slice Ao89 t302.length co89), Xr, H', Xkr, ⟨by (try simp only [hl10_3]); (with_reducible repeat (first | apply Kd.R_alloc | apply Kd.R_drewN | apply Kd.R_drew)); exact Kd.R_mono (Kd.R_far (p := ⟨gb305, 0, none⟩) (Kd.R_far (p := ⟨gb305, 4, none⟩) (Kd.R_far (p := ⟨gb305, 3, none⟩) (Kd.R_far (p := ⟨gb305, 2, none⟩) (Kd.R_far (p := ⟨gb305, 1, none⟩) (Kd.R_far (p := ⟨gb305, 0, none⟩) (Kd.R_types O_8.out B305.out (by decide)) (fun _ hk => hk.2) (.int .i64 t298)) (fun _ hk => hk.2) (.int .i64 t299)) (fun _ hk => hk.2) (.int .i64 t300)) (fun _ hk => hk.2) (.string t301)) (fun _ hk => hk.2) (.slice Ao89 t302.length co89)) (fun _ hk => hk.2) (.int .i64 (rd x9_3 x12_3))) (fun _ hk => ⟨hk.1.1, ⟨hk.1.2.2.2, ⟨hk.1.2.2.1, hk.1.2.1⟩⟩⟩)⟩, ⟨by (try simp only [hl10_3]); (with_reducible repeat (first | apply Kd.R_alloc | apply Kd.R_drewN | apply Kd.R_drew)); exact Kd.R_mono (Kd.R_far (p := ⟨gb305, 0, none⟩) (Kd.R_far (p := ⟨gb305, 4, none⟩) (Kd.R_far (p := ⟨gb305, 3, none⟩) (Kd.R_far (p := ⟨gb305, 2, none⟩) (Kd.R_far (p := ⟨gb305, 1, none⟩) (Kd.R_far (p := ⟨gb305, 0, none⟩) (Kd.R_types O_9.out B305.out (by decide)) (fun _ hk => hk.2) (.int .i64 t298)) (fun _ hk => hk.2) (.int .i64 t299)) (fun _ hk => hk.2) (.int .i64 t300)) (fun _ hk => hk.2) (.string t301)) (fun _ hk => hk.2) (.slice Ao89 t302.length co89)) (fun _ hk => hk.2) (.int .i64 (rd x9_3 x12_3))) (fun _ hk => ⟨hk.1.1, ⟨hk.1.2.2.2, ⟨hk.1.2.2.1, hk.1.2.1⟩⟩⟩)⟩, ⟨by (try simp only [hl10_3]); (with_reducible repeat (first | apply Kd.R_alloc | apply Kd.R_drewN | apply Kd.R_drew)); exact Kd.R_mono (Kd.R_far (p := ⟨gb305, 0, none⟩) (Kd.R_far (p := ⟨gb305, 4, none⟩) (Kd.R_far (p := ⟨gb305, 3, none⟩) (Kd.R_far (p := ⟨gb305, 2, none⟩) (Kd.R_far (p := ⟨gb305, 1, none⟩) (Kd.R_far (p := ⟨gb305, 0, none⟩) (Kd.R_types O_10.out B305.out (by decide)) (fun _ hk => hk.2) (.int .i64 t298)) (fun _ hk => hk.2) (.int .i64 t299)) (fun _ hk => hk.2) (.int .i64 t300)) (fun _ hk => hk.2) (.string t301)) (fun _ hk => hk.2) (.slice Ao89 t302.length co89)) (fun _ hk => hk.2) (.int .i64 (rd x9_3 x12_3))) (fun _ hk => ⟨hk.1.1, ⟨hk.1.2.2.1, ⟨hk.1.2.2.2, hk.1.2.1⟩⟩⟩)⟩, ⟨by (try simp only [hl10_3]); (with_reducible repeat (first | apply Kd.N_alloc | apply Kd.N_drewN | apply Kd.N_drew)); exact Kd.N_mono (Kd.N_far (p := ⟨gb305, 0, none⟩) (Kd.N_far (p := ⟨gb305, 4, none⟩) (Kd.N_far (p := ⟨gb305, 3, none⟩) (Kd.N_far (p := ⟨gb305, 2, none⟩) (Kd.N_far (p := ⟨gb305, 1, none⟩) (Kd.N_far (p := ⟨gb305, 0, none⟩) (Kd.N_mono O_260002.out (fun k_ hk => (⟨hk, hk.2.2.2.2.2.2.2.2.2⟩ : _ ∧ k_ ≠ gb305))) (fun _ hk => hk.2) (.int .i64 t298)) (fun _ hk => hk.2) (.int .i64 t299)) (fun _ hk => hk.2) (.int .i64 t300)) (fun _ hk => hk.2) (.string t301)) (fun _ hk => hk.2) (.slice Ao89 t302.length co89)) (fun _ hk => hk.2) (.int .i64 (rd x9_3 x12_3))) (fun _ hk => ⟨hk.1.1, ⟨hk.1.2.2.2.1, ⟨hk.1.2.2.2.2.1, ⟨hk.1.2.2.1, ⟨hk.1.2.1, ⟨hk.1.2.2.2.2.2.1, ⟨hk.1.2.2.2.2.2.2.1, ⟨hk.1.2.2.2.2.2.2.2.1, ⟨hk.1.2.2.2.2.2.2.2.2.1, hk.1.2.2.2.2.2.2.2.2.2⟩⟩⟩⟩⟩⟩⟩⟩⟩)⟩, ⟨by (try simp only [hl10_3]); (with_reducible repeat (first | apply Kd.R_alloc | apply Kd.R_drewN | apply Kd.R_drew)); exact Kd.R_mono (Kd.R_far (p := ⟨gb305, 0, none⟩) (Kd.R_far (p := ⟨gb305, 4, none⟩) (Kd.R_far (p := ⟨gb305, 3, none⟩) (Kd.R_far (p := ⟨gb305, 2, none⟩) (Kd.R_far (p := ⟨gb305, 1, none⟩) (Kd.R_far (p := ⟨gb305, 0, none⟩) (Kd.R_types HO304.out B305.out (by decide)) (fun _ hk => hk.2) (.int .i64 t298)) (fun _ hk => hk.2) (.int .i64 t299)) (fun _ hk => hk.2) (.int .i64 t300)) (fun _ hk => hk.2) (.string t301)) (fun _ hk => hk.2) (.slice Ao89 t302.length co89)) (fun _ hk => hk.2) (.int .i64 (rd x9_3 x12_3))) (fun _ hk => ⟨hk.1.1, ⟨hk.1.2.2.1, ⟨hk.1.2.2.2, hk.1.2.1⟩⟩⟩)⟩, ⟨by (try simp only [hl10_3]); refine Xu ?_; refine blk_far ?_ NB250_305.out _; refine Xu ?_; refine blk_far ?_ NB250_305.out _; refine Xu ?_; refine blk_far ?_ NB250_305.out _; refine Xu ?_; refine blk_far ?_ NB250_305.out _; refine Xu ?_; refine blk_far ?_ NB250_305.out _; refine Xu ?_; refine blk_far ?_ NB250_305.out _; refine Xu ?_; exact B250.out⟩, ⟨by (try simp only [hl10_3]); refine Xu ?_; refine blk_far ?_ NB251_305.out _; refine Xu ?_; refine blk_far ?_ NB251_305.out _; refine Xu ?_; refine blk_far ?_ NB251_305.out _; refine Xu ?_; refine blk_far ?_ NB251_305.out _; refine Xu ?_; refine blk_far ?_ NB251_305.out _; refine Xu ?_; refine blk_far ?_ NB251_305.out _; refine Xu ?_; exact B251.out⟩, ⟨by (try simp only [hl10_3]); refine Xu ?_; refine blk_far ?_ NB252_305.out _; refine Xu ?_; refine blk_far ?_ NB252_305.out _; refine Xu ?_; refine blk_far ?_ NB252_305.out _; refine Xu ?_; refine blk_far ?_ NB252_305.out _; refine Xu ?_; refine blk_far ?_ NB252_305.out _; refine Xu ?_; refine blk_far ?_ NB252_305.out _; refine Xu ?_; exact B252.out⟩, ⟨by (try simp only [hl10_3]); refine Xu ?_; refine blk_far ?_ NB259_305.out _; refine Xu ?_; refine blk_far ?_ NB259_305.out _; refine Xu ?_; refine blk_far ?_ NB259_305.out _; refine Xu ?_; refine blk_far ?_ NB259_305.out _; refine Xu ?_; refine blk_far ?_ NB259_305.out _; refine Xu ?_; refine blk_far ?_ NB259_305.out _; refine Xu ?_; exact B259.out⟩, ⟨by (try simp only [hl10_3]); refine Xu ?_; refine blk_put (cs := #[.int .i64 t298, .int .i64 t299, .int .i64 t300, .string t301, .slice Ao89 t302.length co89]) ?_ 0 _ rfl; refine Xu ?_; refine blk_put (cs := #[.int .i64 t298, .int .i64 t299, .int .i64 t300, .string t301, .slice none 0 0]) ?_ 4 _ rfl; refine Xu ?_; refine blk_put (cs := #[.int .i64 t298, .int .i64 t299, .int .i64 t300, .string (⟨#[]⟩ : ByteArray), .slice none 0 0]) ?_ 3 _ rfl; refine Xu ?_; refine blk_put (cs := #[.int .i64 t298, .int .i64 t299, .int .i64 0, .string (⟨#[]⟩ : ByteArray), .slice none 0 0]) ?_ 2 _ rfl; refine Xu ?_; refine blk_put (cs := #[.int .i64 t298, .int .i64 0, .int .i64 0, .string (⟨#[]⟩ : ByteArray), .slice none 0 0]) ?_ 1 _ rfl; refine Xu ?_; refine blk_put (cs := #[.int .i64 0, .int .i64 0, .int .i64 0, .string (⟨#[]⟩ : ByteArray), .slice none 0 0]) ?_ 0 _ rfl; refine Xu ?_; exact B305.out⟩, ⟨Xi⟩⟩
  clear H'
  (try clear c73); (try clear c73b0); (try clear c74); (try clear c74b0); (try clear c76); (try clear c76b0); (try clear c77); (try clear c77b0); (try clear c79); (try clear c79b0); (try clear Z96_0); (try clear Z96_1); (try clear Z96_2); (try clear Z96_3); (try clear Z96_4); (try clear F96_0); (try clear F96_1); (try clear F96_2); (try clear F96_3); (try clear F96_4); (try clear hx295_0); (try clear hx297_0); (try clear hx297_1); (try clear hx297_2); (try clear hx297_3); (try clear hx297_4); (try clear hx306_0); (try clear p295); (try clear p297); (try clear p306); (try clear q295); (try clear q297); (try clear q306)
  obtain ⟨x8_4, x9_4, x10_4, x14_4, x306004_4, u306004, rfl, HA, HK4, O_8, O_9, O_10, O_260002, O_306004, B250, B251, B252, B259, B305, HB⟩ := hrel
  have hl9_4 := (Kd.R_reads' O_9.out).1
  rw [hl9_4] at O_9
  (try simp only [hl9_4])
  (try simp only [hl9_4] at B250)
  (try simp only [hl9_4] at B251)
  (try simp only [hl9_4] at B252)
  (try simp only [hl9_4] at B259)
  (try simp only [hl9_4] at B305)
  (try simp only [hl9_4] at O_8)
  (try simp only [hl9_4] at O_10)
  (try simp only [hl9_4] at O_260002)
  (try simp only [hl9_4] at O_306004)
  have hl10_4 := (Kd.R_reads' O_10.out).1
  rw [hl10_4] at O_10
  (try simp only [hl10_4])
  (try simp only [hl10_4] at B250)
  (try simp only [hl10_4] at B251)
  (try simp only [hl10_4] at B252)
  (try simp only [hl10_4] at B259)
  (try simp only [hl10_4] at B305)
  (try simp only [hl10_4] at O_8)
  (try simp only [hl10_4] at O_9)
  (try simp only [hl10_4] at O_260002)
  (try simp only [hl10_4] at O_306004)
  cases gk with | zero => cases HA.out | succ k4 => ?_
  have H := HA.out
  clear HA
  simp only [spec_l02Splice.l3] at H
  obtain ⟨c97b0, H⟩ | ⟨c97b0, H⟩ := Xit H
  ·obtain ⟨c98b0, H⟩ := Xid H
   obtain ⟨t308, A99, H⟩ := Xbi H
   try dsimp only at H
   obtain ⟨c100b0, H⟩ := Xid H
   obtain ⟨c101b0, H⟩ := Xid H
   obtain ⟨y310, hy310⟩ : ∃ y_ : List Int, y_ = (x306004_4.set (x14_4 : Int).toNat (rd x9_4 t308)) := ⟨_, rfl⟩
   replace H : (spec_l02Splice.l3 k4 x8_4 x9_4 x10_4 x12_3 (wrap64 (x14_4 + 1)) a1_0 a1_1 l1_2 a0_0 x260001_2 x260002_3 (rd x9_3 x12_3) t299 t300 t301 y310) = some (r1, r2, r3) := by first | (rw [hy310]; with_reducible exact H) | (have H2_ := (Option.bind_some _ _).symm.trans H; rw [hy310]; with_reducible exact H2_) | (have H2_ := (Option.bind_some _ _).symm.trans H; with_reducible exact H2_) | with_reducible exact H | (rw [hy310]; exact H) | exact H
   have Ny310 := Am hy310
   clear hy310
   have H' := Am H
   clear H
   have hnb103 := NB305_250.out
   have hnc103 := NB250_305.out
   have hnb104 := NB305_251.out
   have hnc104 := NB251_305.out
   have hnb105 := NB305_252.out
   have hnc105 := NB252_305.out
   have hnb106 := NB305_259.out
   have hnc106 := NB259_305.out
   obtain ⟨Z107_0, Z107_1, Z107_2, Z107_3, Z107_4⟩ := Xc5 B305
   obtain ⟨F107_0, F107_1, F107_2, F107_3, F107_4⟩ := Xf5 B305
   obtain ⟨Ao108, co108, eo108⟩ := Kd.R_slice O_306004.out
   subst eo108
   try go_wp2_with (fail)
   replace O_8 := Am (Kd.R_drew O_8.out)
   replace O_9 := Am (Kd.R_drew O_9.out)
   replace O_10 := Am (Kd.R_drew O_10.out)
   replace O_260002 := Am (Kd.N_drew O_260002.out)
   replace O_306004 := Am (Kd.R_drew O_306004.out)
   replace B250 := Xbd B250
   replace B251 := Xbd B251
   replace B252 := Xbd B252
   replace B259 := Xbd B259
   replace B305 := Xbd B305
   replace HB := Xhd HB
   have p307 : 0 ≤ (x14_4 : Int) := Xo
   have q307 : x14_4 < (x306004_4.length : Int) := Xo
   obtain ⟨ad307, e307, hx307_0⟩ := Kd.at_int (Kd.R_reads' O_306004.out).2.2 x14_4 p307 q307
   cases e307
   replace p307 := eq_true p307
   replace q307 := eq_true q307
   obtain ⟨Ao110, co110, eo110⟩ := Kd.R_slice O_8.out
   (first | subst eo110 | (injection eo110 with f1_ f2_ f3_; have f4_ := f1_.symm; have f5_ := f3_.symm; clear f1_ f2_ f3_; subst f4_; subst f5_))
   have p309 : 0 ≤ (t308 : Int) := Xo
   have q309 : t308 < (x9_4.length : Int) := Xo
   obtain ⟨ad309, e309, hx309_0⟩ := Kd.at_int (Kd.R_reads' O_9.out).2.2 t308 p309 q309
   obtain rfl : ad306 = ad309 := (by injection e309)
   replace p309 := eq_true p309
   replace q309 := eq_true q309
   refine start_ (n := 15) (S := fun w' => w'.cell? ⟨gb305, 0, none⟩ = some (.int .i64 (rd x9_3 x12_3)) ∧ w'.cell? ⟨gb305, 1, none⟩ = some (.int .i64 t299) ∧ w'.cell? ⟨gb305, 2, none⟩ = some (.int .i64 t300) ∧ w'.cell? ⟨gb305, 3, none⟩ = some (.string t301) ∧ w'.cell? ⟨gb305, 4, none⟩ = some (.slice (some ad307) x306004_4.length co108) ∧ w'.cell? (ad307.add (x14_4).toNat) = some (.int .i64 (rd x306004_4 x14_4)) ∧ w'.cell? (ad306.add (t308).toNat) = some (.int .i64 (rd x9_4 t308))) (ds := [14]) #[false, false, false, false, false, false, false, false, false, false, false, false, false, false, false] (by kernel_rfl) rfl rfl ⟨Xk B305 0, Xk B305 1, Xk B305 2, Xk B305 3, Xk B305 4, hx307_0, hx309_0⟩ (fun hHeld => ?_); refine with_tabW spec_l02Splice.tab27 spec_l02Splice.bits27 (fun HT_ HW_ => ?_)
   generalize wr.drew = w109 at O_8 O_9 O_10 O_260002 O_306004 B250 B251 B252 B259 B305 HB hx307_0 hx309_0 hHeld ⊢
   refine Pu 0 122 15 1 ?_
   refine Pu 2 124 15 5 ?_
   refine Pu 3 125 15 13 ?_
   refine Pu 4 126 15 29 ?_
   refine Pu 5 127 15 61 ?_
   refine Pu 7 129 15 189 ?_
   refine Ta 1 123 15 191 ?_
   refine Ta 6 128 15 255 ?_
   refine Pu 8 130 15 511 ?_
   refine Ta 9 131 15 1023 ?_
   refine On 10 132 15 2047 (fun K hK => ?_)
   refine Gs Try.func124 #[.slice Ao110 x8_4.length co110, .int .i64 (rd x306004_4 x14_4)] ?_
   with_reducible refine (spec_l02Index.calls k4 _ _ x8_4 (rd x306004_4 x14_4) t308 _ ?s1 ?s2 A99.out).mono ?_
   (case s1 => exact Xcd (Kd.R_reads' O_8.out).2.2)
   (case s2 => exact (Kd.R_reads' O_8.out).2.1)
   rintro e w' ⟨rfl, ⟨nd, rfl⟩⟩
   refine ⟨_, rfl, ?_⟩
   have p102 : 0 ≤ (x14_4 : Int) := Xo
   have q102 : (x14_4 : Int) < ((x306004_4.length : Int) : Int) := Xo
   obtain ⟨go102, co102, eo102, gb102, gl102, cl102, HG102⟩ := Kd.R_form O_306004.out (by omega)
   (first | cases eo102 | (injection eo102 with ea_ en_ ec_; (first | subst ea_ | (injection ea_ with ea_; subst ea_)); subst ec_; clear en_))
   have GB102 := Am gb102
   have GG102 := Am HG102
   clear gb102 gl102 HG102
   (first | simp only [add_plain] at hx307_0 | skip)
   obtain ⟨hx102_0, hf102_0⟩ := Kd.R_celln 0 O_306004.out (x14_4 : Int) p102 q102
   replace p102 := eq_true p102
   replace q102 := eq_true q102
   have HP111 := Kd.R_putn O_306004.out (x14_4 : Int) (rd x9_4 t308)
   rw [← Ny310.out] at HP111
   have HQ111 := Am HP111
   clear HP111
   refine hK.out _ _ ⟨Xk B305 0, Xk B305 1, Xk B305 2, Xk B305 3, Xk B305 4, hHeld.2.2.2.2.2.1, hHeld.2.2.2.2.2.2⟩ (fun hHeld => ?_)
   clear hK K
   refine Xno ?_
   refine Pu 11 133 15 4095 ?_
   refine Ta 12 134 15 8191 ?_
   refine Pu 13 135 15 16383 ?_
   refine last_ (i := 14) (N := none) #[true, true, true, true, true, true, true, true, true, true, true, true, true, true, true] rfl rfl (one_of HT_.out (by kernel_rfl)) (by decide) (fun K hK => ?_)
   refine skip_ (w1 := ?_) (by rfl) rfl ?_ ?_
   rotate_left
   ·go_simp
    rfl
   refine hK.out _ _ ?_
   clear hK K
   refine Dn ?_
   try go_wp2_with (fail)
   (try simp only [← hl9_4, ← hl10_4])
   go_roundg k4
   case measure => have := HK1.out; have := HK2.out; have := HK3.out; have := HK4.out; omega
   case rel => exact ⟨(x8_4), (x9_4), (x10_4), (wrap64 (x14_4 + 1)), (y310), (.slice (some ⟨go102, 0, none⟩) x306004_4.length co108), Xr, H', ⟨by have := HK1.out; have := HK2.out; have := HK3.out; have := HK4.out; omega⟩, ⟨by (try simp only [hl10_3]); (try simp only [hl9_4]); (try simp only [hl10_4]); (with_reducible repeat (first | apply Kd.R_alloc | apply Kd.R_drewN | apply Kd.R_drew)); exact Kd.R_mono (Kd.R_far (p := ⟨go102, (x14_4 : Int).toNat, none⟩) (Kd.R_mono O_8.out (fun k_ hk => (⟨hk, fun e_ => hk.2.2.2 (by rw [e_]; rfl)⟩ : _ ∧ k_ ≠ go102))) (fun _ hk => hk.2) (.int .i64 (rd x9_4 t308))) (fun _ hk => ⟨hk.1.1, ⟨hk.1.2.1, ⟨hk.1.2.2.1, hk.1.2.2.2⟩⟩⟩)⟩, ⟨by (try simp only [hl10_3]); (try simp only [hl9_4]); (try simp only [hl10_4]); (with_reducible repeat (first | apply Kd.R_alloc | apply Kd.R_drewN | apply Kd.R_drew)); exact Kd.R_mono (Kd.R_far (p := ⟨go102, (x14_4 : Int).toNat, none⟩) (Kd.R_mono O_9.out (fun k_ hk => (⟨hk, fun e_ => hk.2.2.2 (by rw [e_]; rfl)⟩ : _ ∧ k_ ≠ go102))) (fun _ hk => hk.2) (.int .i64 (rd x9_4 t308))) (fun _ hk => ⟨hk.1.1, ⟨hk.1.2.1, ⟨hk.1.2.2.1, hk.1.2.2.2⟩⟩⟩)⟩, ⟨by (try simp only [hl10_3]); (try simp only [hl9_4]); (try simp only [hl10_4]); (with_reducible repeat (first | apply Kd.R_alloc | apply Kd.R_drewN | apply Kd.R_drew)); exact Kd.R_mono (Kd.R_far (p := ⟨go102, (x14_4 : Int).toNat, none⟩) (Kd.R_mono O_10.out (fun k_ hk => (⟨hk, fun e_ => hk.2.2.2 (by rw [e_]; rfl)⟩ : _ ∧ k_ ≠ go102))) (fun _ hk => hk.2) (.int .i64 (rd x9_4 t308))) (fun _ hk => ⟨hk.1.1, ⟨hk.1.2.1, ⟨hk.1.2.2.1, hk.1.2.2.2⟩⟩⟩)⟩, ⟨by (try simp only [hl10_3]); (try simp only [hl9_4]); (try simp only [hl10_4]); (with_reducible repeat (first | apply Kd.N_alloc | apply Kd.N_drewN | apply Kd.N_drew)); exact Kd.N_mono (Kd.N_far (p := ⟨go102, (x14_4 : Int).toNat, none⟩) (Kd.N_mono O_260002.out (fun k_ hk => (⟨hk, fun e_ => hk.2.2.2.2.1 (by rw [e_]; rfl)⟩ : _ ∧ k_ ≠ go102))) (fun _ hk => hk.2) (.int .i64 (rd x9_4 t308))) (fun _ hk => ⟨hk.1.1, ⟨hk.1.2.1, ⟨hk.1.2.2.1, ⟨hk.1.2.2.2.1, ⟨hk.1.2.2.2.2.1, ⟨hk.1.2.2.2.2.2.1, ⟨hk.1.2.2.2.2.2.2.1, ⟨hk.1.2.2.2.2.2.2.2.1, ⟨hk.1.2.2.2.2.2.2.2.2.1, hk.1.2.2.2.2.2.2.2.2.2⟩⟩⟩⟩⟩⟩⟩⟩⟩)⟩, ⟨by (try simp only [hl10_3]); (try simp only [hl9_4]); (try simp only [hl10_4]); (with_reducible repeat (first | apply Kd.R_alloc | apply Kd.R_drewN | apply Kd.R_drew)); exact HQ111.out⟩, ⟨by (try simp only [hl10_3]); (try simp only [hl9_4]); (try simp only [hl10_4]); refine Xu ?_; refine blk_far ?_ (by have h_ := Kd.R_ne O_306004.out B250.out (by decide); intro e_; exact h_ (by rw [e_]; rfl)) _; refine Xu ?_; exact B250.out⟩, ⟨by (try simp only [hl10_3]); (try simp only [hl9_4]); (try simp only [hl10_4]); refine Xu ?_; refine blk_far ?_ (by have h_ := Kd.R_ne O_306004.out B251.out (by decide); intro e_; exact h_ (by rw [e_]; rfl)) _; refine Xu ?_; exact B251.out⟩, ⟨by (try simp only [hl10_3]); (try simp only [hl9_4]); (try simp only [hl10_4]); refine Xu ?_; refine blk_far ?_ (by have h_ := Kd.R_ne O_306004.out B252.out (by decide); intro e_; exact h_ (by rw [e_]; rfl)) _; refine Xu ?_; exact B252.out⟩, ⟨by (try simp only [hl10_3]); (try simp only [hl9_4]); (try simp only [hl10_4]); refine Xu ?_; refine blk_far ?_ (by have h_ := Kd.R_ne O_306004.out B259.out (by decide); intro e_; exact h_ (by rw [e_]; rfl)) _; refine Xu ?_; exact B259.out⟩, ⟨by (try simp only [hl10_3]); (try simp only [hl9_4]); (try simp only [hl10_4]); refine Xu ?_; refine blk_far ?_ (by have h_ := Kd.R_ne O_306004.out B305.out (by decide); intro e_; exact h_ (by rw [e_]; rfl)) _; refine Xu ?_; exact B305.out⟩, ⟨by repeat first | (with_reducible first | exact HB.out | apply below_alloc | apply XW.bN | apply XW.bD | refine below_set ?_ GB102.out | refine below_set ?_ GE250.out | refine below_set ?_ GE251.out | refine below_set ?_ GE252.out | refine below_set ?_ GE259.out | refine below_set ?_ GE305.out) | exact HB.out⟩⟩
  obtain ⟨t311, A112, H⟩ := Xbi H
  try dsimp only at H
  have H' := Am H
  clear H
  have hnb113 := NB305_250.out
  have hnc113 := NB250_305.out
  have hnb114 := NB305_251.out
  have hnc114 := NB251_305.out
  have hnb115 := NB305_252.out
  have hnc115 := NB252_305.out
  have hnb116 := NB305_259.out
  have hnc116 := NB259_305.out
  obtain ⟨Z117_0, Z117_1, Z117_2, Z117_3, Z117_4⟩ := Xc5 B305
  obtain ⟨F117_0, F117_1, F117_2, F117_3, F117_4⟩ := Xf5 B305
  obtain ⟨Ao118, co118, eo118⟩ := Kd.R_slice O_306004.out
  subst eo118
  have hnb119 := NB259_250.out
  have hnc119 := NB250_259.out
  have hnb120 := NB259_251.out
  have hnc120 := NB251_259.out
  have hnb121 := NB259_252.out
  have hnc121 := NB252_259.out
  obtain ⟨Z122_0, Z122_1, Z122_2⟩ := Xc3 B259
  obtain ⟨F122_0, F122_1, F122_2⟩ := Xf3 B259
  obtain ⟨Ao123, co123, eo123⟩ := Kd.N_slice O_260002.out
  subst eo123
  go_wp2_with (first | ((with_reducible refine gate_callee (f := 125) rfl ?_); refine Xgo 139 Try.func125 #[.slice Ao123 x260002_3.length co123, .agg #[.int .i64 (rd x9_3 x12_3), .int .i64 t299, .int .i64 t300, .string t301, .slice Ao118 x306004_4.length co118]] ?_; (with_reducible refine (spec_l02Put.calls k4 (fun k_ => ((w.heap.size ≤ k_) ∧ (some k_ ≠ (u8 : Value).ownBlock ∧ (some k_ ≠ (.slice (some ad306) x9_4.length co91 : Value).ownBlock ∧ (some k_ ≠ (.slice (some ad295) x10_4.length co72 : Value).ownBlock ∧ (some k_ ≠ (.slice Ao118 x306004_4.length co118 : Value).ownBlock ∧ (k_ ≠ gb250 ∧ (k_ ≠ gb251 ∧ (k_ ≠ gb252 ∧ (k_ ≠ gb259 ∧ k_ ≠ gb305)))))))))) _ _ x260002_3 (rd x9_3 x12_3) t299 t300 t301 (fun k_ => some k_ = (.slice Ao118 x306004_4.length co118 : Value).ownBlock) _ _ x306004_4 t311 _ ?s1 ?s2 A112.out).mono ?_); (case s1 => exact Kd.N_V (O_260002.out)); (case s2 => exact Kd.R_V (Kd.R_tight rfl (Kd.R_types (Kd.R_types (Kd.R_types (Kd.R_types (Kd.R_types (Kd.R_apart' (O_306004.out) (Kd.N_typed O_260002.out) (by decide)) B250.out (by decide)) B251.out (by decide)) B252.out (by decide)) B259.out (by decide)) B305.out (by decide)))); rintro e w124 ⟨v312, rfl, ho0, hb⟩; refine ⟨_, rfl, ?_⟩; have HO313 := Am (Kd.N_lower (Kd.N_mono (ok' := fun k_ => (w.heap.size ≤ k_) ∧ some k_ ≠ (u8 : Value).ownBlock ∧ some k_ ≠ (.slice (some ad306) x9_4.length co91 : Value).ownBlock ∧ some k_ ≠ (.slice (some ad295) x10_4.length co72 : Value).ownBlock ∧ k_ ≠ gb250 ∧ k_ ≠ gb251 ∧ k_ ≠ gb252 ∧ k_ ≠ gb259 ∧ k_ ≠ gb305) ho0 (fun k_ hk_ => ⟨Or.elim hk_ (fun hs_ => Or.elim hs_ (fun hs_ => hs_.1) (fun hs_ => ((Kd.R_types (Kd.R_types (Kd.R_types (Kd.R_types (Kd.R_types (Kd.R_apart' (O_306004.out) (Kd.N_typed O_260002.out) (by decide)) B250.out (by decide)) B251.out (by decide)) B252.out (by decide)) B259.out (by decide)) B305.out (by decide)).1 k_ hs_.symm).1.1.1.1.1.1.1)) (fun hn_ => (Nat.le_trans (below_size Xi) hn_)), Or.elim hk_ (fun hs_ => Or.elim hs_ (fun hs_ => hs_.2.1) (fun hs_ => ((Kd.R_types (Kd.R_types (Kd.R_types (Kd.R_types (Kd.R_types (Kd.R_apart' (O_306004.out) (Kd.N_typed O_260002.out) (by decide)) B250.out (by decide)) B251.out (by decide)) B252.out (by decide)) B259.out (by decide)) B305.out (by decide)).1 k_ hs_.symm).1.1.1.1.1.1.2.1)) (fun hn_ => (Kd.fresh' (Kd.R_lt (Xq O_8)) k_ hn_)), Or.elim hk_ (fun hs_ => Or.elim hs_ (fun hs_ => hs_.2.2.1) (fun hs_ => ((Kd.R_types (Kd.R_types (Kd.R_types (Kd.R_types (Kd.R_types (Kd.R_apart' (O_306004.out) (Kd.N_typed O_260002.out) (by decide)) B250.out (by decide)) B251.out (by decide)) B252.out (by decide)) B259.out (by decide)) B305.out (by decide)).1 k_ hs_.symm).1.1.1.1.1.1.2.2.1)) (fun hn_ => (Kd.fresh' (Kd.R_lt (Xq O_9)) k_ hn_)), Or.elim hk_ (fun hs_ => Or.elim hs_ (fun hs_ => hs_.2.2.2.1) (fun hs_ => ((Kd.R_types (Kd.R_types (Kd.R_types (Kd.R_types (Kd.R_types (Kd.R_apart' (O_306004.out) (Kd.N_typed O_260002.out) (by decide)) B250.out (by decide)) B251.out (by decide)) B252.out (by decide)) B259.out (by decide)) B305.out (by decide)).1 k_ hs_.symm).1.1.1.1.1.1.2.2.2)) (fun hn_ => (Kd.fresh' (Kd.R_lt (Xq O_10)) k_ hn_)), Or.elim hk_ (fun hs_ => Or.elim hs_ (fun hs_ => hs_.2.2.2.2.2.1) (fun hs_ => ((Kd.R_types (Kd.R_types (Kd.R_types (Kd.R_types (Kd.R_types (Kd.R_apart' (O_306004.out) (Kd.N_typed O_260002.out) (by decide)) B250.out (by decide)) B251.out (by decide)) B252.out (by decide)) B259.out (by decide)) B305.out (by decide)).1 k_ hs_.symm).1.1.1.1.2)) (fun hn_ => (Kd.freshB (g := gb250) (o := .cells #[.int .i64 a0_0, .int .i64 a0_1, .slice A0_2 l0_2.length c0_2] 29 (0, 0)) (Xq' B250) k_ hn_)), Or.elim hk_ (fun hs_ => Or.elim hs_ (fun hs_ => hs_.2.2.2.2.2.2.1) (fun hs_ => ((Kd.R_types (Kd.R_types (Kd.R_types (Kd.R_types (Kd.R_types (Kd.R_apart' (O_306004.out) (Kd.N_typed O_260002.out) (by decide)) B250.out (by decide)) B251.out (by decide)) B252.out (by decide)) B259.out (by decide)) B305.out (by decide)).1 k_ hs_.symm).1.1.1.2)) (fun hn_ => (Kd.freshB (g := gb251) (o := .cells #[.int .i64 a1_0, .int .i64 a1_1, .slice (some ad297) l1_2.length c1_2] 29 (0, 0)) (Xq' B251) k_ hn_)), Or.elim hk_ (fun hs_ => Or.elim hs_ (fun hs_ => hs_.2.2.2.2.2.2.2.1) (fun hs_ => ((Kd.R_types (Kd.R_types (Kd.R_types (Kd.R_types (Kd.R_types (Kd.R_apart' (O_306004.out) (Kd.N_typed O_260002.out) (by decide)) B250.out (by decide)) B251.out (by decide)) B252.out (by decide)) B259.out (by decide)) B305.out (by decide)).1 k_ hs_.symm).1.1.2)) (fun hn_ => (Kd.freshB (g := gb252) (o := .cells #[.int .i64 0, .int .i64 0, .slice none 0 0] 29 (0, 0)) (Xq' B252) k_ hn_)), Or.elim hk_ (fun hs_ => Or.elim hs_ (fun hs_ => hs_.2.2.2.2.2.2.2.2.1) (fun hs_ => ((Kd.R_types (Kd.R_types (Kd.R_types (Kd.R_types (Kd.R_types (Kd.R_apart' (O_306004.out) (Kd.N_typed O_260002.out) (by decide)) B250.out (by decide)) B251.out (by decide)) B252.out (by decide)) B259.out (by decide)) B305.out (by decide)).1 k_ hs_.symm).1.2)) (fun hn_ => (Kd.freshB (g := gb259) (o := .cells #[.int .i64 a0_0, .int .i64 x260001_2, .slice Ao123 x260002_3.length co123] 29 (0, 0)) (Xq' B259) k_ hn_)), Or.elim hk_ (fun hs_ => Or.elim hs_ (fun hs_ => hs_.2.2.2.2.2.2.2.2.2) (fun hs_ => ((Kd.R_types (Kd.R_types (Kd.R_types (Kd.R_types (Kd.R_types (Kd.R_apart' (O_306004.out) (Kd.N_typed O_260002.out) (by decide)) B250.out (by decide)) B251.out (by decide)) B252.out (by decide)) B259.out (by decide)) B305.out (by decide)).1 k_ hs_.symm).2)) (fun hn_ => (Kd.freshB (g := gb305) (o := .cells #[.int .i64 (rd x9_3 x12_3), .int .i64 t299, .int .i64 t300, .string t301, .slice Ao118 x306004_4.length co118] 43 (0, 0)) (Xq' B305) k_ hn_))⟩)) (below_size Xi)); replace O_8 := Am (Kd.R_below (Xq O_8) hb); replace O_9 := Am (Kd.R_below (Xq O_9) hb); replace O_10 := Am (Kd.R_below (Xq O_10) hb); replace O_260002 := Am (Kd.N_elder' (Xq O_260002) (Kd.N_base ho0) hb); replace O_306004 := Am (Kd.R_below (Xq O_306004) hb); replace B250 := Xbb B250 hb; replace B251 := Xbb B251 hb; replace B252 := Xbb B252 hb; replace B259 := Xbb B259 hb; replace B305 := Xbb B305 hb; replace HB := Xhb hb; clear hb; (try clear ho0); obtain ⟨Ao125, co125, eo125⟩ := Kd.N_slice HO313.out; subst eo125; obtain ⟨Z126_0, Z126_1, Z126_2⟩ := Xc3 B259; obtain ⟨F126_0, F126_1, F126_2⟩ := Xf3 B259))
  (try simp only [← hl10_3, ← hl9_4, ← hl10_4])
  go_roundg k4
  case measure => have := HK1.out; have := HK2.out; have := HK3.out; have := HK4.out; omega
  case rel => exact ⟨(x8_4), (x9_4), (x10_4), (wrap64 (x12_3 + 1)), (t311), (.slice Ao125 t311.length co125), Xr, H', ⟨by have := HK1.out; have := HK2.out; have := HK3.out; have := HK4.out; omega⟩, ⟨by (try simp only [hl10_3]); (try simp only [hl9_4]); (try simp only [hl10_4]); (with_reducible repeat (first | apply Kd.R_alloc | apply Kd.R_drewN | apply Kd.R_drew)); exact Kd.R_mono (Kd.R_far (p := ⟨gb259, 2, none⟩) (Kd.R_types O_8.out B259.out (by decide)) (fun _ hk => hk.2) (.slice Ao125 t311.length co125)) (fun _ hk => ⟨hk.1.1, ⟨hk.1.2.1, hk.1.2.2.1⟩⟩)⟩, ⟨by (try simp only [hl10_3]); (try simp only [hl9_4]); (try simp only [hl10_4]); (with_reducible repeat (first | apply Kd.R_alloc | apply Kd.R_drewN | apply Kd.R_drew)); exact Kd.R_mono (Kd.R_far (p := ⟨gb259, 2, none⟩) (Kd.R_types O_9.out B259.out (by decide)) (fun _ hk => hk.2) (.slice Ao125 t311.length co125)) (fun _ hk => ⟨hk.1.1, ⟨hk.1.2.1, hk.1.2.2.1⟩⟩)⟩, ⟨by (try simp only [hl10_3]); (try simp only [hl9_4]); (try simp only [hl10_4]); (with_reducible repeat (first | apply Kd.R_alloc | apply Kd.R_drewN | apply Kd.R_drew)); exact Kd.R_mono (Kd.R_far (p := ⟨gb259, 2, none⟩) (Kd.R_types O_10.out B259.out (by decide)) (fun _ hk => hk.2) (.slice Ao125 t311.length co125)) (fun _ hk => ⟨hk.1.1, ⟨hk.1.2.1, hk.1.2.2.1⟩⟩)⟩, ⟨by (try simp only [hl10_3]); (try simp only [hl9_4]); (try simp only [hl10_4]); (with_reducible repeat (first | apply Kd.N_alloc | apply Kd.N_drewN | apply Kd.N_drew)); exact Kd.N_mono (Kd.N_far (p := ⟨gb259, 2, none⟩) (Kd.N_mono HO313.out (fun k_ hk => (⟨hk, hk.2.2.2.2.2.2.2.1⟩ : _ ∧ k_ ≠ gb259))) (fun _ hk => hk.2) (.slice Ao125 t311.length co125)) (fun _ hk => ⟨hk.1.1, ⟨hk.1.2.1, ⟨hk.1.2.2.1, ⟨hk.1.2.2.2.1, ⟨hk.1.2.2.2.2.1, ⟨hk.1.2.2.2.2.2.1, ⟨hk.1.2.2.2.2.2.2.1, hk.1.2.2.2.2.2.2.2.1⟩⟩⟩⟩⟩⟩⟩)⟩, ⟨by (try simp only [hl10_3]); (try simp only [hl9_4]); (try simp only [hl10_4]); refine Xu ?_; refine blk_far ?_ NB250_259.out _; refine Xu ?_; exact B250.out⟩, ⟨by (try simp only [hl10_3]); (try simp only [hl9_4]); (try simp only [hl10_4]); refine Xu ?_; refine blk_far ?_ NB251_259.out _; refine Xu ?_; exact B251.out⟩, ⟨by (try simp only [hl10_3]); (try simp only [hl9_4]); (try simp only [hl10_4]); refine Xu ?_; refine blk_far ?_ NB252_259.out _; refine Xu ?_; exact B252.out⟩, ⟨by (try simp only [hl10_3]); (try simp only [hl9_4]); (try simp only [hl10_4]); refine Xu ?_; refine blk_put (cs := #[.int .i64 a0_0, .int .i64 x260001_2, .slice Ao123 x260002_3.length co123]) ?_ 2 _ rfl; refine Xu ?_; exact B259.out⟩, ⟨Xi⟩⟩
 simp only [Option.some.injEq, Prod.mk.injEq] at H
 obtain ⟨rfl, rfl, rfl⟩ := H
 have hnb127 := NB259_250.out
 have hnc127 := NB250_259.out
 have hnb128 := NB259_251.out
 have hnc128 := NB251_259.out
 have hnb129 := NB259_252.out
 have hnc129 := NB252_259.out
 obtain ⟨Z130_0, Z130_1, Z130_2⟩ := Xc3 B259
 obtain ⟨F130_0, F130_1, F130_2⟩ := Xf3 B259
 have hnb131 := NB252_250.out
 have hnc131 := NB250_252.out
 have hnb132 := NB252_251.out
 have hnc132 := NB251_252.out
 obtain ⟨Z133_0, Z133_1, Z133_2⟩ := Xc3 B252
 obtain ⟨F133_0, F133_1, F133_2⟩ := Xf3 B252
 obtain ⟨Ao134, co134, eo134⟩ := Kd.N_slice O_260002.out
 subst eo134
 go_wp2_with (first | ((with_reducible refine gate_store (t := 29) (p := 4) rfl ?_); refine store_event (t := 29) (p := 4) (v := ?vo_w135) (w1 := (((wr.setCell ⟨gb252, 0, none⟩ (.int .i64 a0_0)).setCell ⟨gb252, 1, none⟩ (.int .i64 x260001_2)).setCell ⟨gb252, 2, none⟩ (.slice Ao134 x260002_3.length co134))) ?hg ?ho ?hn ?hr ?_; (case ho => rfl); (case hg => rfl); (case hn => rfl); (case hr => first | (go_simp; done) | (go_simp; rfl)); intro w135 hw; have n0_ : Aside0 (Kd.R (Kd.int .i64) 3 w135 w.heap.size (fun k_ => (w.heap.size ≤ k_) ∧ some k_ ≠ (u9 : Value).ownBlock ∧ some k_ ≠ (.slice Ao72 x10_3.length co72 : Value).ownBlock) u8 x8_3) := ⟨(by rw [hw]; exact (by (with_reducible repeat (first | apply Kd.R_alloc | apply Kd.R_drewN | apply Kd.R_drew)); exact Kd.R_mono (Kd.R_far (p := ⟨gb252, 2, none⟩) (Kd.R_far (p := ⟨gb252, 1, none⟩) (Kd.R_far (p := ⟨gb252, 0, none⟩) (Kd.R_types O_8.out B252.out (by decide)) (fun _ hk => hk.2) (.int .i64 a0_0)) (fun _ hk => hk.2) (.int .i64 x260001_2)) (fun _ hk => hk.2) (.slice Ao134 x260002_3.length co134)) (fun _ hk => ⟨hk.1.1, ⟨hk.1.2.1, hk.1.2.2⟩⟩)))⟩; have n1_ : Aside0 (Kd.R (Kd.int .i64) 3 w135 w.heap.size (fun k_ => (w.heap.size ≤ k_) ∧ some k_ ≠ (u8 : Value).ownBlock ∧ some k_ ≠ (.slice Ao72 x10_3.length co72 : Value).ownBlock) u9 x9_3) := ⟨(by rw [hw]; exact (by (with_reducible repeat (first | apply Kd.R_alloc | apply Kd.R_drewN | apply Kd.R_drew)); exact Kd.R_mono (Kd.R_far (p := ⟨gb252, 2, none⟩) (Kd.R_far (p := ⟨gb252, 1, none⟩) (Kd.R_far (p := ⟨gb252, 0, none⟩) (Kd.R_types O_9.out B252.out (by decide)) (fun _ hk => hk.2) (.int .i64 a0_0)) (fun _ hk => hk.2) (.int .i64 x260001_2)) (fun _ hk => hk.2) (.slice Ao134 x260002_3.length co134)) (fun _ hk => ⟨hk.1.1, ⟨hk.1.2.1, hk.1.2.2⟩⟩)))⟩; have n2_ : Aside0 (Kd.R (Kd.int .i64) 3 w135 w.heap.size (fun k_ => (w.heap.size ≤ k_) ∧ some k_ ≠ (u8 : Value).ownBlock ∧ some k_ ≠ (u9 : Value).ownBlock) (.slice Ao72 x10_3.length co72) x10_3) := ⟨(by rw [hw]; exact (by (with_reducible repeat (first | apply Kd.R_alloc | apply Kd.R_drewN | apply Kd.R_drew)); exact Kd.R_mono (Kd.R_far (p := ⟨gb252, 2, none⟩) (Kd.R_far (p := ⟨gb252, 1, none⟩) (Kd.R_far (p := ⟨gb252, 0, none⟩) (Kd.R_types O_10.out B252.out (by decide)) (fun _ hk => hk.2) (.int .i64 a0_0)) (fun _ hk => hk.2) (.int .i64 x260001_2)) (fun _ hk => hk.2) (.slice Ao134 x260002_3.length co134)) (fun _ hk => ⟨hk.1.1, ⟨hk.1.2.1, hk.1.2.2⟩⟩)))⟩; have n3_ : Aside0 (Kd.N k43 43 w135 w.heap.size (fun k_ => (w.heap.size ≤ k_) ∧ some k_ ≠ (u8 : Value).ownBlock ∧ some k_ ≠ (u9 : Value).ownBlock ∧ some k_ ≠ (.slice Ao72 x10_3.length co72 : Value).ownBlock ∧ k_ ≠ gb250 ∧ k_ ≠ gb251 ∧ k_ ≠ gb252 ∧ k_ ≠ gb259) (.slice Ao134 x260002_3.length co134) x260002_3) := ⟨(by rw [hw]; exact (by (with_reducible repeat (first | apply Kd.N_alloc | apply Kd.N_drewN | apply Kd.N_drew)); exact Kd.N_mono (Kd.N_far (p := ⟨gb252, 2, none⟩) (Kd.N_far (p := ⟨gb252, 1, none⟩) (Kd.N_far (p := ⟨gb252, 0, none⟩) (Kd.N_mono O_260002.out (fun k_ hk => (⟨hk, hk.2.2.2.2.2.2.1⟩ : _ ∧ k_ ≠ gb252))) (fun _ hk => hk.2) (.int .i64 a0_0)) (fun _ hk => hk.2) (.int .i64 x260001_2)) (fun _ hk => hk.2) (.slice Ao134 x260002_3.length co134)) (fun _ hk => ⟨hk.1.1, ⟨hk.1.2.1, ⟨hk.1.2.2.1, ⟨hk.1.2.2.2.1, ⟨hk.1.2.2.2.2.1, ⟨hk.1.2.2.2.2.2.1, ⟨hk.1.2.2.2.2.2.2.1, hk.1.2.2.2.2.2.2.2⟩⟩⟩⟩⟩⟩⟩)))⟩; have n4_ : Aside0 (w135.heap[gb250]? = some (.cells #[.int .i64 a0_0, .int .i64 a0_1, .slice A0_2 l0_2.length c0_2] 29 (0, 0))) := ⟨(by rw [hw]; exact (by refine Xu ?_; refine blk_far ?_ NB250_252.out _; refine Xu ?_; refine blk_far ?_ NB250_252.out _; refine Xu ?_; refine blk_far ?_ NB250_252.out _; refine Xu ?_; exact B250.out))⟩; have n5_ : Aside0 (w135.heap[gb251]? = some (.cells #[.int .i64 a1_0, .int .i64 a1_1, .slice A1_2 l1_2.length c1_2] 29 (0, 0))) := ⟨(by rw [hw]; exact (by refine Xu ?_; refine blk_far ?_ NB251_252.out _; refine Xu ?_; refine blk_far ?_ NB251_252.out _; refine Xu ?_; refine blk_far ?_ NB251_252.out _; refine Xu ?_; exact B251.out))⟩; have n6_ : Aside0 (w135.heap[gb252]? = some (.cells #[.int .i64 a0_0, .int .i64 x260001_2, .slice Ao134 x260002_3.length co134] 29 (0, 0))) := ⟨(by rw [hw]; exact (by refine Xu ?_; refine blk_put (cs := #[.int .i64 a0_0, .int .i64 x260001_2, .slice none 0 0]) ?_ 2 _ rfl; refine Xu ?_; refine blk_put (cs := #[.int .i64 a0_0, .int .i64 0, .slice none 0 0]) ?_ 1 _ rfl; refine Xu ?_; refine blk_put (cs := #[.int .i64 0, .int .i64 0, .slice none 0 0]) ?_ 0 _ rfl; refine Xu ?_; exact B252.out))⟩; have n7_ : Aside0 (w135.heap[gb259]? = some (.cells #[.int .i64 a0_0, .int .i64 x260001_2, .slice Ao134 x260002_3.length co134] 29 (0, 0))) := ⟨(by rw [hw]; exact (by refine Xu ?_; refine blk_far ?_ NB259_252.out _; refine Xu ?_; refine blk_far ?_ NB259_252.out _; refine Xu ?_; refine blk_far ?_ NB259_252.out _; refine Xu ?_; exact B259.out))⟩; have n8_ : Aside0 (Below w.heap.size w w135) := ⟨(by rw [hw]; exact Xi)⟩; clear hw; clear O_8; clear O_9; clear O_10; clear O_260002; clear B250; clear B251; clear B252; clear B259; clear HB; have O_8 := n0_; have O_9 := n1_; have O_10 := n2_; have O_260002 := n3_; have B250 := n4_; have B251 := n5_; have B252 := n6_; have B259 := n7_; have HB := n8_; clear n0_ n1_ n2_ n3_ n4_ n5_ n6_ n7_ n8_))
 refine bodyPost_ret (results_cell_row rfl _ _ gb252 29 #[.int .i64 a0_0, .int .i64 x260001_2, .slice Ao134 x260002_3.length co134] (0, 0) _ rfl (Xq' B252) Try.underlying29 rfl (by kernel_rfl)) rfl ?_
 exact ⟨_, Xe, by (with_reducible repeat (first | apply Kd.N_alloc | apply Kd.N_drewN | apply Kd.N_drew)); exact Kd.N_mono O_260002.out (fun _ hk => hk.1), Xi⟩
end Go.Proofs.Ytpdhccdmbdbdpaa.XA
