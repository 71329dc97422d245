/- Words and contracts of this claim. Conditions: each theorem's own premises. -/
import Derived.Test.YtahhgjkgfbppeaaGreatZ1
import Derived.Test.YtahhgjkgfbppeaaGreatZ7
namespace Go.Proofs.YtahhgjkgfbppeaaGreat.XA
open Go.RowKit Go.Proofs.YtahhgjkgfbppeaaGreatW.PrintWords Go.Proofs.YtahhgjkgfbppeaaGreatW.PrintLast Go.Proofs.YtahhgjkgfbppeaaGreatW.PrintMore XW
attribute [local go_sem] max2_int min2_int max_two min_two max_three min_three max_four min_four   -- for this text's walks alone
set_option linter.unusedVariables false
set_option linter.unusedSimpArgs false
set_option maxHeartbeats 8000000
set_option maxRecDepth 100000
def slices_DeleteFunc_int_int_at_impl_Doc_circle_1.l0 : Nat → List Int → Int → Int → Int → Int → Int → List (S113) → List (S39) → List (S39) → Option (List Int)
 | 0, _, _, _, _, _, _, _, _, _ => none
 | k + 1, x0, x5, x6, x28000, x56000, x56001, x56002, x57000, x57001 => if x6 < (x0.length : Int) then (if 0 ≤ x6 then ((impl_Doc_circle_1.f k (rd x0 x6) x56000 x56001 x56002 x57000 x57001 x28000).bind fun t10 => (if t10 = true then (slices_DeleteFunc_int_int_at_impl_Doc_circle_1.l0 k x0 x5 (wrap64 (x6 + 1)) x28000 x56000 x56001 x56002 x57000 x57001) else (if 0 ≤ x5 then (if x5 < (x0.length : Int) then (slices_DeleteFunc_int_int_at_impl_Doc_circle_1.l0 k (x0.set (x5 : Int).toNat (rd x0 x6)) (wrap64 (x5 + 1)) (wrap64 (x6 + 1)) x28000 x56000 x56001 x56002 x57000 x57001) else (none)) else (none)))) else (none)) else (if 0 ≤ x5 then (if x5 ≤ (x0.length : Int) then (some ((x0.take (x5 : Int).toNat ++ List.replicate (x0.length - (x5 : Int).toNat) 0).take (x5 : Int).toNat)) else (none)) else (none))
def slices_DeleteFunc_int_int_at_impl_Doc_circle_1.f (k : Nat) (l0 : List Int) (a1_0_0 : Int) (a1_0_1 : Int) (l1_0_2 : List (S113)) (l1_1_0 : List (S39)) (l1_1_1 : List (S39)) (a1_2_0 : Int) : Option (List Int) := (slices_IndexFunc_int_int_at_impl_Doc_circle_1.f k l0 a1_0_0 a1_0_1 l1_0_2 l1_1_0 l1_1_1 a1_2_0).bind fun t10 => (if t10 = (-1) then (some l0) else (slices_DeleteFunc_int_int_at_impl_Doc_circle_1.l0 k l0 t10 (wrap64 (t10 + 1)) a1_2_0 a1_0_0 a1_0_1 l1_0_2 l1_1_0 l1_1_1))
theorem slices_DeleteFunc_int_int_at_impl_Doc_circle_1.calls (k : Nat) (P0_ : Nat → Prop) (u9000_ : Value) (l0 : List Int) (g1_0_ : Nat) (q1_0_ : Nat) (g1_1_ : Nat) (q1_1_ : Nat) (g1_2_ : Nat) (a1_0_0 : Int) (a1_0_1 : Int) (A1_0_2 : Option Addr) (c1_0_2 : Nat) (l1_0_2 : List (S113)) (A1_1_0 : Option Addr) (c1_1_0 : Nat) (l1_1_0 : List (S39)) (A1_1_1 : Option Addr) (c1_1_1 : Nat) (l1_1_1 : List (S39)) (a1_2_0 : Int) (r : List Int) (w0 w : World) (hB : Below w0.heap.size w0 w) (ho0 : Kd.R (Kd.int .i64) 3 w w0.heap.size P0_ u9000_ l0) (hq1_0_ : w.heap[q1_0_]? = some (.cells #[.int .i64 a1_0_0, .int .i64 a1_0_1, .slice A1_0_2 l1_0_2.length c1_0_2] 35 (0, 0))) (hg1_0_ : w.heap[g1_0_]? = some (.cells #[.pointer (some ⟨q1_0_, 0, none⟩)] 115 (0, 0))) (hq1_1_ : w.heap[q1_1_]? = some (.cells #[.slice A1_1_0 l1_1_0.length c1_1_0, .slice A1_1_1 l1_1_1.length c1_1_1] 53 (0, 0))) (hg1_1_ : w.heap[g1_1_]? = some (.cells #[.pointer (some ⟨q1_1_, 0, none⟩)] 88 (0, 0))) (hg1_2_ : w.heap[g1_2_]? = some (.cells #[.int .i64 a1_2_0] 3 (0, 0))) (hng1_2_ : ¬ (fun k_ => P0_ k_) g1_2_) (hr1_0_2 : ∀ W_, Kept w W_ (fun k_ => P0_ k_) → Kd.C k113 W_ A1_0_2 l1_0_2.length l1_0_2) (hc1_0_2 : l1_0_2.length ≤ c1_0_2) (hr1_1_0 : ∀ W_, Kept w W_ (fun k_ => P0_ k_) → Kd.C k39 W_ A1_1_0 l1_1_0.length l1_1_0) (hc1_1_0 : l1_1_0.length ≤ c1_1_0) (hr1_1_1 : ∀ W_, Kept w W_ (fun k_ => P0_ k_) → Kd.C k39 W_ A1_1_1 l1_1_1.length l1_1_1) (hc1_1_1 : l1_1_1.length ≤ c1_1_1) (h : slices_DeleteFunc_int_int_at_impl_Doc_circle_1.f k l0 a1_0_0 a1_0_1 l1_0_2 l1_1_0 l1_1_1 a1_2_0 = some r) :
  Calls Tryz.prog 93 #[u9000_, .func (.func 115) #[] #[.pointer (some ⟨g1_0_, 0, none⟩), .pointer (some ⟨g1_1_, 0, none⟩), .pointer (some ⟨g1_2_, 0, none⟩)]] w fun e w' => ∃ v0_ : Value, e = .returned (v0_) ∧ Kd.R (Kd.int .i64) 3 w' w0.heap.size (fun k_ => (P0_ k_ ∨ w.heap.size ≤ k_)) v0_ r ∧ Below w0.heap.size w0 w' ∧ Kept w w' (fun k_ => P0_ k_) := by
 have HO0 := Am (show Kd.R (Kd.int .i64) 3 w w0.heap.size (fun k_ => (P0_ k_ ∨ w.heap.size ≤ k_) ∧ k_ ≠ g1_2_) u9000_ l0 from Kd.R_mono ho0 (fun k_ hk => ⟨(.inl hk), fun e_ => hng1_2_ (by rw [← e_]; exact hk)⟩))
 have HR1_0_2 := Am hr1_0_2
 have HC1_0_2 := Am hc1_0_2
 clear hr1_0_2 hc1_0_2
 have HR1_1_0 := Am hr1_1_0
 have HC1_1_0 := Am hc1_1_0
 clear hr1_1_0 hc1_1_0
 have HR1_1_1 := Am hr1_1_1
 have HC1_1_1 := Am hc1_1_1
 clear hr1_1_1 hc1_1_1
 have B55 := Am hq1_0_
 clear hq1_0_
 have B25 := Am hg1_0_
 clear hg1_0_
 have B56 := Am hq1_1_
 clear hq1_1_
 have B26 := Am hg1_1_
 clear hg1_1_
 have B27 := Am hg1_2_
 clear hg1_2_
 have HK := Am (Kept.refl w (fun k_ => P0_ k_))
 have HW0 := Am hB.size
 have HB := Am hB
 clear hB
 have H : ((slices_IndexFunc_int_int_at_impl_Doc_circle_1.f k l0 a1_0_0 a1_0_1 l1_0_2 l1_1_0 l1_1_1 a1_2_0).bind fun t28 => (if t28 = (-1) then (some l0) else (slices_DeleteFunc_int_int_at_impl_Doc_circle_1.l0 k l0 t28 (wrap64 (t28 + 1)) a1_2_0 a1_0_0 a1_0_1 l1_0_2 l1_1_0 l1_1_1))) = some r := h
 clear h
 obtain ⟨t28, A3, H⟩ := Xbi H
 try dsimp only at H
 have HC4 := Am H
 clear H
 obtain ⟨Ao5, co5, eo5⟩ := Kd.R_slice HO0.out
 subst eo5
 go_enter Tryz.func93, Tryz.ntmps93
 go_upto_if 12 with ((with_reducible refine gate_callee (f := 148) rfl ?_); refine Xgo 10 Tryz.func148 #[.slice Ao5 l0.length co5, .func (.func 115) #[] #[.pointer (some ⟨g1_0_, 0, none⟩), .pointer (some ⟨g1_1_, 0, none⟩), .pointer (some ⟨g1_2_, 0, none⟩)]] ?_; (with_reducible refine (slices_IndexFunc_int_int_at_impl_Doc_circle_1.calls k _ _ l0 g1_0_ q1_0_ g1_1_ q1_1_ g1_2_ a1_0_0 a1_0_1 A1_0_2 c1_0_2 l1_0_2 A1_1_0 c1_1_0 l1_1_0 A1_1_1 c1_1_1 l1_1_1 a1_2_0 t28 _ ?s1 ?s2 ?s3 ?s4 ?s5 ?s6 ?s7 ?s8 ?s9 ?s10 ?s11 ?s12 ?s13 A3.out).mono ?_); (case s1 => exact Xcd (Kd.R_reads' HO0.out).2.2); (case s2 => exact (Kd.R_reads' HO0.out).2.1); (case s3 => exact B55.out); (case s4 => exact B25.out); (case s5 => exact B56.out); (case s6 => exact B26.out); (case s7 => exact B27.out); (case s8 => exact Kd.C_kept_now HR1_0_2.out (by repeat first | (with_reducible first | exact HK.out | apply Kept.drewN | apply Kept.drew | refine Kept.setCell ?_ (.inr GW55.out) _ | refine Kept.setCell ?_ (.inr GW25.out) _ | refine Kept.setCell ?_ (.inr GW56.out) _ | refine Kept.setCell ?_ (.inr GW26.out) _ | refine Kept.setCell ?_ (.inr GW27.out) _) | exact HK.out)); (case s9 => exact HC1_0_2.out); (case s10 => exact Kd.C_kept_now HR1_1_0.out (by repeat first | (with_reducible first | exact HK.out | apply Kept.drewN | apply Kept.drew | refine Kept.setCell ?_ (.inr GW55.out) _ | refine Kept.setCell ?_ (.inr GW25.out) _ | refine Kept.setCell ?_ (.inr GW56.out) _ | refine Kept.setCell ?_ (.inr GW26.out) _ | refine Kept.setCell ?_ (.inr GW27.out) _) | exact HK.out)); (case s11 => exact HC1_1_0.out); (case s12 => exact Kd.C_kept_now HR1_1_1.out (by repeat first | (with_reducible first | exact HK.out | apply Kept.drewN | apply Kept.drew | refine Kept.setCell ?_ (.inr GW55.out) _ | refine Kept.setCell ?_ (.inr GW25.out) _ | refine Kept.setCell ?_ (.inr GW56.out) _ | refine Kept.setCell ?_ (.inr GW26.out) _ | refine Kept.setCell ?_ (.inr GW27.out) _) | exact HK.out)); (case s13 => exact HC1_1_1.out); rintro e w6 ⟨rfl, hb⟩; refine ⟨_, rfl, ?_⟩; replace HO0 := Am (Kd.R_below (Xq HO0) hb); replace B55 := Xbb B55 hb; replace B25 := Xbb B25 hb; replace B56 := Xbb B56 hb; replace B26 := Xbb B26 hb; replace B27 := Xbb B27 hb; replace HK := Am (Kept.below (S := (fun k_ => P0_ k_)) (by repeat first | (with_reducible first | exact HK.out | apply Kept.drewN | apply Kept.drew | refine Kept.setCell ?_ (.inr GW55.out) _ | refine Kept.setCell ?_ (.inr GW25.out) _ | refine Kept.setCell ?_ (.inr GW56.out) _ | refine Kept.setCell ?_ (.inr GW26.out) _ | refine Kept.setCell ?_ (.inr GW27.out) _) | exact HK.out) hb); replace HB := Xhb hb; clear hb)
 have H := HC4.out
 clear HC4
 obtain ⟨c7, H⟩ | ⟨c7, H⟩ := Xiu H
 ·have c7b0 : (t28 == (-1)) = true := beq_iff_eq.mpr c7
  have c7b1 : (t28 != (-1)) = false := bne_eq_false_iff_eq.mpr c7
  clear c7
  (first | rw [c7b0] | (simp only [i64_w, i32_w]; rw [c7b0]) | skip)
  obtain rfl := Xsi H
  go_wp2
  go_ret
  exact ⟨_, Xe, by (with_reducible repeat (first | apply Kd.R_alloc | apply Kd.R_drewN | apply Kd.R_drew)); exact Kd.R_mono HO0.out (fun _ hk => hk.1), Xi, by repeat first | (with_reducible first | exact HK.out | apply Kept.drewN | apply Kept.drew | refine Kept.setCell ?_ (.inr GW55.out) _ | refine Kept.setCell ?_ (.inr GW25.out) _ | refine Kept.setCell ?_ (.inr GW56.out) _ | refine Kept.setCell ?_ (.inr GW26.out) _ | refine Kept.setCell ?_ (.inr GW27.out) _) | exact HK.out⟩
 have c7b0 : (t28 == (-1)) = false := beq_eq_false_iff_ne.mpr c7
 have c7b1 : (t28 != (-1)) = true := bne_iff_ne.mpr c7
 (first | rw [c7b0] | (simp only [i64_w, i32_w]; rw [c7b0]) | skip)
 have H' := Am H
 clear H
 go_wp2
 go_loopg [5, 6] k (fun kq v5 v6 w' => ∃ (x0_1 : List Int) (x5_1 : Int) (x6_1 : Int), v5 = .int .i64 x5_1 ∧ v6 = .int .i64 x6_1 ∧ Aside0 (slices_DeleteFunc_int_int_at_impl_Doc_circle_1.l0 kq x0_1 x5_1 x6_1 a1_2_0 a1_0_0 a1_0_1 l1_0_2 l1_1_0 l1_1_1 = some r) ∧ Aside0 (kq ≤ k) ∧ Aside0 (Kd.R (Kd.int .i64) 3 w' w0.heap.size (fun k_ => (P0_ k_ ∨ w.heap.size ≤ k_) ∧ k_ ≠ g1_2_) (.slice Ao5 l0.length co5) x0_1) ∧ Aside0 (w'.heap[q1_0_]? = some (.cells #[.int .i64 a1_0_0, .int .i64 a1_0_1, (.slice A1_0_2 l1_0_2.length c1_0_2)] 35 (0, 0))) ∧ Aside0 (w'.heap[g1_0_]? = some (.cells #[.pointer (some ⟨q1_0_, 0, none⟩)] 115 (0, 0))) ∧ Aside0 (w'.heap[q1_1_]? = some (.cells #[(.slice A1_1_0 l1_1_0.length c1_1_0), (.slice A1_1_1 l1_1_1.length c1_1_1)] 53 (0, 0))) ∧ Aside0 (w'.heap[g1_1_]? = some (.cells #[.pointer (some ⟨q1_1_, 0, none⟩)] 88 (0, 0))) ∧ Aside0 (w'.heap[g1_2_]? = some (.cells #[.int .i64 a1_2_0] 3 (0, 0))) ∧ Aside0 (Kept w w' (fun k_ => P0_ k_)) ∧ Aside0 (Below w0.heap.size w0 w'))
 case atStart => exact ⟨(l0), (t28), (wrap64 (t28 + 1)), Xr, Xr, H', Xkr, (Xp' HO0), B55, B25, B56, B26, B27, ⟨by repeat first | (with_reducible first | exact HK.out | apply Kept.drewN | apply Kept.drew | refine Kept.setCell ?_ (.inr GW55.out) _ | refine Kept.setCell ?_ (.inr GW25.out) _ | refine Kept.setCell ?_ (.inr GW56.out) _ | refine Kept.setCell ?_ (.inr GW26.out) _ | refine Kept.setCell ?_ (.inr GW27.out) _) | exact HK.out⟩, ⟨Xi⟩⟩
 clear H'
 (try clear c7); (try clear c7b0); (try clear c7b1)
 obtain ⟨x0_1, x5_1, x6_1, rfl, rfl, HA, HK1, O_0, B55, B25, B56, B26, B27, HK, HB⟩ := hrel
 have hl0_1 := (Kd.R_reads' O_0.out).1
 rw [hl0_1] at O_0
 (try simp only [hl0_1])
 (try simp only [hl0_1] at B55)
 (try simp only [hl0_1] at B25)
 (try simp only [hl0_1] at B56)
 (try simp only [hl0_1] at B26)
 (try simp only [hl0_1] at B27)
 cases gk with | zero => cases HA.out | succ k1 => ?_
 have H := HA.out
 clear HA
 simp only [slices_DeleteFunc_int_int_at_impl_Doc_circle_1.l0] at H
 obtain ⟨c8b0, H⟩ | ⟨c8b0, H⟩ := Xit H
 ·obtain ⟨c9b0, H⟩ := Xid H
  obtain ⟨t29, A10, H⟩ := Xbi H
  try dsimp only at H
  have HC11 := Am H
  clear H
  have p30 : 0 ≤ (x6_1 : Int) := Xo
  have q30 : x6_1 < (x0_1.length : Int) := Xo
  obtain ⟨ad30, e30, hx30_0⟩ := Kd.at_int (Kd.R_reads' O_0.out).2.2 x6_1 p30 q30
  cases e30
  replace p30 := eq_true p30
  replace q30 := eq_true q30
  go_upto_if 29 with (go_at_call 115; (with_reducible refine (impl_Doc_circle_1.calls k1 (rd x0_1 x6_1) g1_0_ q1_0_ a1_0_0 a1_0_1 A1_0_2 c1_0_2 l1_0_2 g1_1_ q1_1_ A1_1_0 c1_1_0 l1_1_0 A1_1_1 c1_1_1 l1_1_1 g1_2_ a1_2_0 t29 _ ?s1 ?s2 ?s3 ?s4 ?s5 ?s6 ?s7 ?s8 ?s9 ?s10 ?s11 A10.out).mono ?_); (case s1 => exact B55.out); (case s2 => exact B25.out); (case s3 => exact Kd.C_kept_now HR1_0_2.out (by repeat first | (with_reducible first | exact HK.out | apply Kept.drewN | apply Kept.drew | refine Kept.setCell ?_ (.inr GW55.out) _ | refine Kept.setCell ?_ (.inr GW25.out) _ | refine Kept.setCell ?_ (.inr GW56.out) _ | refine Kept.setCell ?_ (.inr GW26.out) _ | refine Kept.setCell ?_ (.inr GW27.out) _) | exact HK.out)); (case s4 => exact HC1_0_2.out); (case s5 => exact B56.out); (case s6 => exact B26.out); (case s7 => exact Kd.C_kept_now HR1_1_0.out (by repeat first | (with_reducible first | exact HK.out | apply Kept.drewN | apply Kept.drew | refine Kept.setCell ?_ (.inr GW55.out) _ | refine Kept.setCell ?_ (.inr GW25.out) _ | refine Kept.setCell ?_ (.inr GW56.out) _ | refine Kept.setCell ?_ (.inr GW26.out) _ | refine Kept.setCell ?_ (.inr GW27.out) _) | exact HK.out)); (case s8 => exact HC1_1_0.out); (case s9 => exact Kd.C_kept_now HR1_1_1.out (by repeat first | (with_reducible first | exact HK.out | apply Kept.drewN | apply Kept.drew | refine Kept.setCell ?_ (.inr GW55.out) _ | refine Kept.setCell ?_ (.inr GW25.out) _ | refine Kept.setCell ?_ (.inr GW56.out) _ | refine Kept.setCell ?_ (.inr GW26.out) _ | refine Kept.setCell ?_ (.inr GW27.out) _) | exact HK.out)); (case s10 => exact HC1_1_1.out); (case s11 => exact B27.out); rintro e w12 ⟨rfl, hb⟩; replace O_0 := Am (Kd.R_below (Xq O_0) hb); replace B55 := Xbb B55 hb; replace B25 := Xbb B25 hb; replace B56 := Xbb B56 hb; replace B26 := Xbb B26 hb; replace B27 := Xbb B27 hb; replace HK := Am (Kept.below (S := (fun k_ => P0_ k_)) (by repeat first | (with_reducible first | exact HK.out | apply Kept.drewN | apply Kept.drew | refine Kept.setCell ?_ (.inr GW55.out) _ | refine Kept.setCell ?_ (.inr GW25.out) _ | refine Kept.setCell ?_ (.inr GW56.out) _ | refine Kept.setCell ?_ (.inr GW26.out) _ | refine Kept.setCell ?_ (.inr GW27.out) _) | exact HK.out) hb); replace HB := Xhb hb; clear hb)
  have H := HC11.out
  clear HC11
  by_cases c13 : t29 = true
  ·subst c13
   try rw [if_pos rfl] at H
   have H' := Am H
   clear H
   go_wp2
   (try simp only [← hl0_1])
   go_roundg k1
   case measure => have := HK1.out; omega
   case rel => exact ⟨(x0_1), (x5_1), (wrap64 (x6_1 + 1)), Xr, Xr, H', Xk1, ⟨by (try simp only [hl0_1]); (with_reducible repeat (first | apply Kd.R_alloc | apply Kd.R_drewN | apply Kd.R_drew)); exact O_0.out⟩, ⟨by (try simp only [hl0_1]); exact B55.out⟩, ⟨by (try simp only [hl0_1]); exact B25.out⟩, ⟨by (try simp only [hl0_1]); exact B56.out⟩, ⟨by (try simp only [hl0_1]); exact B26.out⟩, ⟨by (try simp only [hl0_1]); exact B27.out⟩, ⟨by repeat first | (with_reducible first | exact HK.out | apply Kept.drewN | apply Kept.drew | refine Kept.setCell ?_ (.inr GW55.out) _ | refine Kept.setCell ?_ (.inr GW25.out) _ | refine Kept.setCell ?_ (.inr GW56.out) _ | refine Kept.setCell ?_ (.inr GW26.out) _ | refine Kept.setCell ?_ (.inr GW27.out) _) | exact HK.out⟩, ⟨Xi⟩⟩
  replace c13 := Xbf c13
  subst c13
  try rw [if_neg Xft] at H
  obtain ⟨c14b0, H⟩ := Xid H
  (first | rw [c14b0] | (simp only [i64_w, i32_w]; rw [c14b0]) | skip)
  obtain ⟨c15b0, H⟩ := Xid H
  obtain ⟨y31, hy31⟩ : ∃ y_ : List Int, y_ = (x0_1.set (x5_1 : Int).toNat (rd x0_1 x6_1)) := ⟨_, rfl⟩
  replace H : (slices_DeleteFunc_int_int_at_impl_Doc_circle_1.l0 k1 y31 (wrap64 (x5_1 + 1)) (wrap64 (x6_1 + 1)) a1_2_0 a1_0_0 a1_0_1 l1_0_2 l1_1_0 l1_1_1) = some r := by first | (rw [hy31]; with_reducible exact H) | (have H2_ := (Option.bind_some _ _).symm.trans H; rw [hy31]; with_reducible exact H2_) | (have H2_ := (Option.bind_some _ _).symm.trans H; with_reducible exact H2_) | with_reducible exact H | (rw [hy31]; exact H) | exact H
  have Ny31 := Am hy31
  clear hy31
  have H' := Am H
  clear H
  have p16 : 0 ≤ (x5_1 : Int) := Xo
  have q16 : (x5_1 : Int) < ((x0_1.length : Int) : Int) := Xo
  obtain ⟨go16, co16, eo16, gb16, gl16, cl16, HG16⟩ := Kd.R_form O_0.out (by omega)
  (first | cases eo16 | (injection eo16 with ea_ en_ ec_; (first | subst ea_ | (injection ea_ with ea_; subst ea_)); subst ec_; clear en_))
  have GB16 := Am gb16
  have GG16 := Am HG16
  clear gb16 gl16 HG16
  have HMgo16 := Am (show (P0_ go16 ∨ w.heap.size ≤ go16) from (O_0.out.1 _ rfl).1)
  (first | simp only [add_plain] at hx30_0 | skip)
  obtain ⟨hx16_0, hf16_0⟩ := Kd.R_celln 0 O_0.out (x5_1 : Int) p16 q16
  replace p16 := eq_true p16
  replace q16 := eq_true q16
  have HP17 := Kd.R_putg O_0.out (x5_1 : Int) (rd x0_1 x6_1)
  go_wp2_with (first | ((with_reducible refine gate_store (t := 3) (p := 33) rfl ?_); refine store_event (t := 3) (p := 33) (v := ?vo_w18) (w1 := (w12.setCell ⟨go16, (x5_1 : Int).toNat, none⟩ (.int .i64 (rd x0_1 x6_1)))) ?hg ?ho ?hn ?hr ?_; (case ho => rfl); (case hg => rfl); (case hn => rfl); (case hr => first | (go_simp; done) | (go_simp; rfl)); intro w18 hw; have hg : w12.grownBy w18 (some go16) := (by rw [hw]; exact HP17.2); have hp_ : Kd.R (Kd.int .i64) 3 w18 w0.heap.size (fun k_ => (P0_ k_ ∨ w.heap.size ≤ k_) ∧ k_ ≠ g1_2_) (.slice (some ⟨go16, 0, none⟩) x0_1.length co5) y31 := (by rw [hw, Ny31.out]; exact HP17.1); clear HP17; replace B55 := Am (blk_grown (g := q1_0_) (o := .cells #[.int .i64 a1_0_0, .int .i64 a1_0_1, .slice A1_0_2 l1_0_2.length c1_0_2] 35 (0, 0)) B55.out hg (Kd.R_ne O_0.out B55.out (by decide))); replace B25 := Am (blk_grown (g := g1_0_) (o := .cells #[.pointer (some ⟨q1_0_, 0, none⟩)] 115 (0, 0)) B25.out hg (Kd.R_ne O_0.out B25.out (by decide))); replace B56 := Am (blk_grown (g := q1_1_) (o := .cells #[.slice A1_1_0 l1_1_0.length c1_1_0, .slice A1_1_1 l1_1_1.length c1_1_1] 53 (0, 0)) B56.out hg (Kd.R_ne O_0.out B56.out (by decide))); replace B26 := Am (blk_grown (g := g1_1_) (o := .cells #[.pointer (some ⟨q1_1_, 0, none⟩)] 88 (0, 0)) B26.out hg (Kd.R_ne O_0.out B26.out (by decide))); replace B27 := Am (blk_grown (g := g1_2_) (o := .cells #[.int .i64 a1_2_0] 3 (0, 0)) B27.out hg (Kd.R_away O_0.out (fun _ hk => hk.2))); replace HB := Am ((by rw [hw]; exact below_set (HB.out) GB16.out : Below w0.heap.size w0 w18)); replace HK := Am (Kept.of_grown (S := (fun k_ => P0_ k_)) hg (by repeat first | (with_reducible first | exact HK.out | apply Kept.drewN | apply Kept.drew | refine Kept.setCell ?_ (.inr GW55.out) _ | refine Kept.setCell ?_ (.inr GW25.out) _ | refine Kept.setCell ?_ (.inr GW56.out) _ | refine Kept.setCell ?_ (.inr GW26.out) _ | refine Kept.setCell ?_ (.inr GW27.out) _) | exact HK.out) (fun k_ e_ => (O_0.out.1 k_ e_).1)); replace O_0 := Am (hp_); clear hg hw hp_))
  (try simp only [← hl0_1])
  go_roundg k1
  case measure => have := HK1.out; omega
  case rel => exact ⟨(y31), (wrap64 (x5_1 + 1)), (wrap64 (x6_1 + 1)), Xr, Xr, H', Xk1, ⟨by (try simp only [hl0_1]); (with_reducible repeat (first | apply Kd.R_alloc | apply Kd.R_drewN | apply Kd.R_drew)); exact O_0.out⟩, ⟨by (try simp only [hl0_1]); exact B55.out⟩, ⟨by (try simp only [hl0_1]); exact B25.out⟩, ⟨by (try simp only [hl0_1]); exact B56.out⟩, ⟨by (try simp only [hl0_1]); exact B26.out⟩, ⟨by (try simp only [hl0_1]); exact B27.out⟩, ⟨by repeat first | (with_reducible first | exact HK.out | apply Kept.drewN | apply Kept.drew | refine Kept.setCell ?_ (.inr GW55.out) _ | refine Kept.setCell ?_ (.inr GW25.out) _ | refine Kept.setCell ?_ (.inr GW56.out) _ | refine Kept.setCell ?_ (.inr GW26.out) _ | refine Kept.setCell ?_ (.inr GW27.out) _) | exact HK.out⟩, ⟨Xi⟩⟩
 obtain ⟨c19, H⟩ | ⟨c19, H⟩ := Xiu H
 ·have c19b0 := eq_true c19
  have c19b1 : decide (0 ≤ x5_1) = true := decide_eq_true c19
  clear c19
  obtain ⟨c20, H⟩ := Xif H
  have c20b0 := eq_true c20
  have c20b1 : decide (x5_1 ≤ (x0_1.length : Int)) = true := decide_eq_true c20
  clear c20
  obtain ⟨y33, hy33⟩ : ∃ y_ : List Int, y_ = (x0_1.drop (x5_1 : Int).toNat) := ⟨_, rfl⟩
  replace H : (some ((x0_1.take (x5_1 : Int).toNat ++ List.replicate (x0_1.length - (x5_1 : Int).toNat) 0).take (x5_1 : Int).toNat)) = some r := by first | (rw [hy33]; with_reducible exact H) | (have H2_ := (Option.bind_some _ _).symm.trans H; rw [hy33]; with_reducible exact H2_) | (have H2_ := (Option.bind_some _ _).symm.trans H; with_reducible exact H2_) | with_reducible exact H | (rw [hy33]; exact H) | exact H
  have Ny33 := Am hy33
  clear hy33
  obtain ⟨y34, hy34⟩ : ∃ y_ : List Int, y_ = (x0_1.take (x5_1 : Int).toNat ++ List.replicate (x0_1.length - (x5_1 : Int).toNat) 0) := ⟨_, rfl⟩
  replace H : (some (y34.take (x5_1 : Int).toNat)) = some r := by first | (rw [hy34]; with_reducible exact H) | (have H2_ := (Option.bind_some _ _).symm.trans H; rw [hy34]; with_reducible exact H2_) | (have H2_ := (Option.bind_some _ _).symm.trans H; with_reducible exact H2_) | with_reducible exact H | (rw [hy34]; exact H) | exact H
  have Ny34 := Am hy34
  clear hy34
  have c21b0 := eq_true (Xo : x5_1 ≤ (x0_1.length : Int))
  obtain ⟨y35, hy35⟩ : ∃ y_ : List Int, y_ = (y34.take (x5_1 : Int).toNat) := ⟨_, rfl⟩
  replace H : (some y35) = some r := by first | (rw [hy35]; with_reducible exact H) | (have H2_ := (Option.bind_some _ _).symm.trans H; rw [hy35]; with_reducible exact H2_) | (have H2_ := (Option.bind_some _ _).symm.trans H; with_reducible exact H2_) | with_reducible exact H | (rw [hy35]; exact H) | exact H
  have Ny35 := Am hy35
  clear hy35
  obtain rfl := Xsi H
  have q22 : (x5_1 : Int) ≤ ((x0_1.length : Int) : Int) := Xo
  obtain ⟨i022, hi022, _, hsz22, _⟩ := info_parts info3
  have hroom22 : x0_1.length ≤ co5 := (Kd.R_reads' O_0.out).2.1
  have hC22 : Kd.C (Kd.int .i64) _ Ao5 x0_1.length x0_1 := (Kd.R_reads' O_0.out).2.2
  have q36 : (0 : Int) ≤ (x5_1 : Int) := Xo
  have hcut22 := cut_from (P := Tryz.prog) 30 3 .i64 Tryz.underlying30 hi022 1 hsz22 Ao5 x0_1.length co5 x5_1 q36 q22
  have hr22 := Kd.C_drop (m := (x5_1 : Int).toNat) (c := co5) hC22 (by omega) hroom22
  obtain ⟨A22, hA22⟩ : ∃ A1, A1 = (if co5 = (x5_1 : Int).toNat then Ao5 else (Ao5 : Option Addr).map (·.add ((x5_1 : Int).toNat * 1))) := ⟨_, rfl⟩
  obtain ⟨c22, hc22⟩ : ∃ c1, c1 = co5 - (x5_1 : Int).toNat := ⟨_, rfl⟩
  have hy22 : y33.length = x0_1.length - (x5_1 : Int).toNat := (by rw [Ny33.out, List.length_drop] <;> omega)
  rw [show (x0_1).drop (x5_1 : Int).toNat = y33 from Ny33.out.symm] at hr22
  replace hr22 : Kd.C (Kd.int .i64) _ A22 y33.length y33 := (by rw [hA22]; exact hr22)
  rw [← hy22, ← hA22, ← hc22] at hcut22
  have HR37 := Am hr22
  have HC37 := Am (show y33.length ≤ c22 from by rw [hy22, hc22]; exact Nat.sub_le_sub_right hroom22 _)
  clear hr22 hC22 hroom22 hi022 hsz22 hc22
  have KY22 := Am hy22
  have KA22 := Am hA22
  clear hy22 hA22
  have KL22 := Am (show (x5_1 : Int).toNat ≤ x0_1.length from by omega)
  replace q22 := eq_true q22
  go_wp2_with (first | ((with_reducible refine gate_builtin (b := .clear) (xs := #[.tmp 38]) rfl ?_); refine XW.R_clear (Kd.int .i64) (w0 := w0) w0.heap.size rfl (.tmp 38) 30 3 rfl Tryz.underlying30 (.int .i64 0) 8 info3 rfl (by decide) 0 (fun _ => rfl) (A0 := Ao5) (n := x0_1.length) (c := co5) (N := (x5_1 : Int).toNat) rfl ?hA ?hm (Xq O_0) ?hN Xi (below_size Xi) ?_; (case hA => exact KA22.out); (case hm => exact KY22.out); (case hN => exact KL22.out); intro w23 ho hb hg; rw [← Ny34.out] at ho; replace B55 := Am (blk_grown (g := q1_0_) (o := .cells #[.int .i64 a1_0_0, .int .i64 a1_0_1, .slice A1_0_2 l1_0_2.length c1_0_2] 35 (0, 0)) B55.out hg (Kd.R_ne O_0.out B55.out (by decide))); replace B25 := Am (blk_grown (g := g1_0_) (o := .cells #[.pointer (some ⟨q1_0_, 0, none⟩)] 115 (0, 0)) B25.out hg (Kd.R_ne O_0.out B25.out (by decide))); replace B56 := Am (blk_grown (g := q1_1_) (o := .cells #[.slice A1_1_0 l1_1_0.length c1_1_0, .slice A1_1_1 l1_1_1.length c1_1_1] 53 (0, 0)) B56.out hg (Kd.R_ne O_0.out B56.out (by decide))); replace B26 := Am (blk_grown (g := g1_1_) (o := .cells #[.pointer (some ⟨q1_1_, 0, none⟩)] 88 (0, 0)) B26.out hg (Kd.R_ne O_0.out B26.out (by decide))); replace B27 := Am (blk_grown (g := g1_2_) (o := .cells #[.int .i64 a1_2_0] 3 (0, 0)) B27.out hg (Kd.R_away O_0.out (fun _ hk => hk.2))); replace HB := Am (hb); replace HK := Am (Kept.of_grown (S := (fun k_ => P0_ k_)) hg (by repeat first | (with_reducible first | exact HK.out | apply Kept.drewN | apply Kept.drew | refine Kept.setCell ?_ (.inr GW55.out) _ | refine Kept.setCell ?_ (.inr GW25.out) _ | refine Kept.setCell ?_ (.inr GW56.out) _ | refine Kept.setCell ?_ (.inr GW26.out) _ | refine Kept.setCell ?_ (.inr GW27.out) _) | exact HK.out) (fun k_ e_ => (O_0.out.1 k_ e_).1)); replace O_0 := Am (ho); clear ho hb hg; have q24 : (x5_1 : Int) ≤ ((x0_1.length : Int) : Int) := Xo; obtain ⟨i024, hi024, _, hsz24, _⟩ := info_parts info3; have hcut24 := cut_to (P := Tryz.prog) 30 3 .i64 Tryz.underlying30 hi024 Ao5 x0_1.length co5 x5_1 (Xo) q24 (Kd.R_reads' O_0.out).2.1; have hr24 := Kd.R_take (m := (x5_1 : Int).toNat) O_0.out (by have hlx_ := (Kd.R_reads' O_0.out).1; omega); have hy24 : y35.length = (x5_1 : Int).toNat := (by have hlx_ := (Kd.R_reads' O_0.out).1; rw [Ny35.out, List.length_take]; omega); rw [← Ny35.out] at hr24; rw [← hy24] at hr24 hcut24; clear hy24 hi024 hsz24 O_0; have HO38 := Am hr24; clear hr24; replace q24 := eq_true q24))
  go_ret
  exact ⟨_, Xe, by (with_reducible repeat (first | apply Kd.R_alloc | apply Kd.R_drewN | apply Kd.R_drew)); exact Kd.R_mono HO38.out (fun _ hk => hk.1), Xi, by repeat first | (with_reducible first | exact HK.out | apply Kept.drewN | apply Kept.drew | refine Kept.setCell ?_ (.inr GW55.out) _ | refine Kept.setCell ?_ (.inr GW25.out) _ | refine Kept.setCell ?_ (.inr GW56.out) _ | refine Kept.setCell ?_ (.inr GW26.out) _ | refine Kept.setCell ?_ (.inr GW27.out) _) | exact HK.out⟩
 exact absurd H (by simp)
def impl_Doc_circle.f (k : Nat) (a0_0 : Int) (a0_1 : Int) (l0_2 : List (S113)) (l1_0 : List (S39)) (l1_1 : List (S39)) (a2 : Int) : Option (List Int) := (impl_Doc_reached.f k a0_0 a0_1 l0_2 l1_0 l1_1 a2).bind fun t10 => ((slices_DeleteFunc_int_int_at_impl_Doc_circle_1.f k t10 a0_0 a0_1 l0_2 l1_0 l1_1 a2).bind fun t11 => (some t11))
theorem impl_Doc_circle.calls (k : Nat) (g0_ : Nat) (a0_0 : Int) (a0_1 : Int) (A0_2 : Option Addr) (c0_2 : Nat) (l0_2 : List (S113)) (g1_ : Nat) (A1_0 : Option Addr) (c1_0 : Nat) (l1_0 : List (S39)) (A1_1 : Option Addr) (c1_1 : Nat) (l1_1 : List (S39)) (a2 : Int) (r : List Int) (w : World) (hg0_ : w.heap[g0_]? = some (.cells #[.int .i64 a0_0, .int .i64 a0_1, .slice A0_2 l0_2.length c0_2] 35 (0, 0))) (hr0_2 : Kd.C k113 w A0_2 l0_2.length l0_2) (hc0_2 : l0_2.length ≤ c0_2) (hg1_ : w.heap[g1_]? = some (.cells #[.slice A1_0 l1_0.length c1_0, .slice A1_1 l1_1.length c1_1] 53 (0, 0))) (hr1_0 : Kd.C k39 w A1_0 l1_0.length l1_0) (hc1_0 : l1_0.length ≤ c1_0) (hr1_1 : Kd.C k39 w A1_1 l1_1.length l1_1) (hc1_1 : l1_1.length ≤ c1_1) (h : impl_Doc_circle.f k a0_0 a0_1 l0_2 l1_0 l1_1 a2 = some r) :
  Calls Tryz.prog 61 #[.pointer (some ⟨g0_, 0, none⟩), .pointer (some ⟨g1_, 0, none⟩), .int .i64 a2] w fun e w' => ∃ v0_ : Value, e = .returned (v0_) ∧ Kd.R (Kd.int .i64) 3 w' w.heap.size (fun _ => True) v0_ r ∧ Below w.heap.size w w' := by
 have HR0_2 := Am hr0_2
 have HC0_2 := Am hc0_2
 clear hr0_2 hc0_2
 have HR1_0 := Am hr1_0
 have HC1_0 := Am hc1_0
 clear hr1_0 hc1_0
 have HR1_1 := Am hr1_1
 have HC1_1 := Am hc1_1
 clear hr1_1 hc1_1
 have B0 := Am hg0_
 clear hg0_
 have B1 := Am hg1_
 clear hg1_
 have HB := Am (Below.refl w.heap.size w)
 have H : ((impl_Doc_reached.f k a0_0 a0_1 l0_2 l1_0 l1_1 a2).bind fun t24 => ((slices_DeleteFunc_int_int_at_impl_Doc_circle_1.f k t24 a0_0 a0_1 l0_2 l1_0 l1_1 a2).bind fun t25 => (some t25))) = some r := h
 clear h
 obtain ⟨t24, A4, H⟩ := Xbi H
 try dsimp only at H
 obtain ⟨t25, A5, H⟩ := Xbi H
 try dsimp only at H
 obtain rfl := Xsi H
 go_enter Tryz.func61, Tryz.ntmps61
 go_wp2_with (first | ((with_reducible refine gate_dst (N := 3) rfl ?_); refine Xbx 3 #[.pointer (some ⟨g0_, 0, none⟩)] 115 ?_; intro gb26 hg w6 B26 GE26 hb; replace HB := Xhb hb; have NB0_26 := Xnb hg B0; have NB26_0 := Xns NB0_26; replace B0 := Xbb B0 hb; have NB1_26 := Xnb hg B1; have NB26_1 := Xns NB1_26; replace B1 := Xbb B1 hb; clear hb hg) | ((with_reducible refine gate_dst (N := 4) rfl ?_); refine Xbx 4 #[.pointer (some ⟨g1_, 0, none⟩)] 88 ?_; intro gb27 hg w7 B27 GE27 hb; replace HB := Xhb hb; have NB0_27 := Xnb hg B0; have NB27_0 := Xns NB0_27; replace B0 := Xbb B0 hb; have NB1_27 := Xnb hg B1; have NB27_1 := Xns NB1_27; replace B1 := Xbb B1 hb; have NB26_27 := Xnb hg B26; have NB27_26 := Xns NB26_27; replace B26 := Xbb B26 hb; clear hb hg) | ((with_reducible refine gate_dst (N := 5) rfl ?_); refine Xbx 5 #[.int .i64 a2] 3 ?_; intro gb28 hg w8 B28 GE28 hb; replace HB := Xhb hb; have NB0_28 := Xnb hg B0; have NB28_0 := Xns NB0_28; replace B0 := Xbb B0 hb; have NB1_28 := Xnb hg B1; have NB28_1 := Xns NB1_28; replace B1 := Xbb B1 hb; have NB26_28 := Xnb hg B26; have NB28_26 := Xns NB26_28; replace B26 := Xbb B26 hb; have NB27_28 := Xnb hg B27; have NB28_27 := Xns NB27_28; replace B27 := Xbb B27 hb; clear hb hg; have hnb9 := NB26_0.out; have hnc9 := NB0_26.out; have hnb10 := NB26_1.out; have hnc10 := NB1_26.out; have hnb11 := NB26_27.out; have hnc11 := NB27_26.out; have hnb12 := NB26_28.out; have hnc12 := NB28_26.out; have Z13_0 := (blk_cell B26.out 0).trans XW.i0; have hnb14 := NB27_0.out; have hnc14 := NB0_27.out; have hnb15 := NB27_1.out; have hnc15 := NB1_27.out; have hnb16 := NB27_28.out; have hnc16 := NB28_27.out; have Z17_0 := (blk_cell B27.out 0).trans XW.i0; have hnb18 := NB28_0.out; have hnc18 := NB0_28.out; have hnb19 := NB28_1.out; have hnc19 := NB1_28.out; have Z20_0 := (blk_cell B28.out 0).trans XW.i0) | ((with_reducible refine gate_callee (f := 114) rfl ?_); refine Xgo 10 Tryz.func114 #[.pointer (some ⟨g0_, 0, none⟩), .pointer (some ⟨g1_, 0, none⟩), .int .i64 a2] ?_; (with_reducible refine (impl_Doc_reached.calls k g0_ a0_0 a0_1 A0_2 c0_2 l0_2 g1_ A1_0 c1_0 l1_0 A1_1 c1_1 l1_1 a2 t24 _ ?s1 ?s2 ?s3 ?s4 ?s5 ?s6 ?s7 ?s8 A4.out).mono ?_); (case s1 => exact B0.out); (case s2 => exact Xc HR0_2); (case s3 => exact HC0_2.out); (case s4 => exact B1.out); (case s5 => exact Xc HR1_0); (case s6 => exact HC1_0.out); (case s7 => exact Xc HR1_1); (case s8 => exact HC1_1.out); rintro e w21 ⟨v736, rfl, ho0, hb⟩; refine ⟨_, rfl, ?_⟩; have HO29 := Am (Kd.R_lower (Kd.R_newB ho0 (g := gb28) (o := .cells #[.int .i64 a2] 3 (0, 0)) B28.out) (below_size Xi)); replace B0 := Xbb B0 hb; replace B1 := Xbb B1 hb; replace B26 := Xbb B26 hb; replace B27 := Xbb B27 hb; replace B28 := Xbb B28 hb; replace HB := Xhb hb; clear hb; (try clear ho0); obtain ⟨Ao22, co22, eo22⟩ := Kd.R_slice HO29.out; subst eo22) | ((with_reducible refine gate_callee (f := 93) rfl ?_); refine Xgo 12 Tryz.func93 #[.slice Ao22 t24.length co22, .func (.func 115) #[] #[.pointer (some ⟨gb26, 0, none⟩), .pointer (some ⟨gb27, 0, none⟩), .pointer (some ⟨gb28, 0, none⟩)]] ?_; (with_reducible refine (slices_DeleteFunc_int_int_at_impl_Doc_circle_1.calls k (fun k_ => some k_ = (.slice Ao22 t24.length co22 : Value).ownBlock) (.slice Ao22 t24.length co22) t24 gb26 g0_ gb27 g1_ gb28 a0_0 a0_1 A0_2 c0_2 l0_2 A1_0 c1_0 l1_0 A1_1 c1_1 l1_1 a2 t25 w _ ?s1 ?s2 ?s3 ?s4 ?s5 ?s6 ?s7 ?s8 ?s9 ?s10 ?s11 ?s12 ?s13 ?s14 A5.out).mono ?_); (case s1 => exact Xi); (case s2 => exact Kd.R_tight rfl HO29.out); (case s3 => exact B0.out); (case s4 => exact B26.out); (case s5 => exact B1.out); (case s6 => exact B27.out); (case s7 => exact B28.out); (case s8 => exact fun hs_ => (Kd.R_away HO29.out (fun _ hk => hk.2)) hs_); (case s9 => exact Kd.C_kept_came k113_heap HR0_2.out Xi (fun k_ hs_ => (fun e_ => Kd.R_base HO29.out k_ e_.symm) hs_)); (case s10 => exact HC0_2.out); (case s11 => exact Kd.C_kept_came k39_heap HR1_0.out Xi (fun k_ hs_ => (fun e_ => Kd.R_base HO29.out k_ e_.symm) hs_)); (case s12 => exact HC1_0.out); (case s13 => exact Kd.C_kept_came k39_heap HR1_1.out Xi (fun k_ hs_ => (fun e_ => Kd.R_base HO29.out k_ e_.symm) hs_)); (case s14 => exact HC1_1.out); rintro e w23 ⟨v739, rfl, ho0, hb, hkp⟩; refine ⟨_, rfl, ?_⟩; replace B0 := Am (blk_kept B0.out hkp (fun hs_ => (fun e_ => (Kd.R_ne HO29.out B0.out (by decide)) e_) hs_)); replace B1 := Am (blk_kept B1.out hkp (fun hs_ => (fun e_ => (Kd.R_ne HO29.out B1.out (by decide)) e_) hs_)); replace B26 := Am (blk_kept B26.out hkp (fun hs_ => (fun e_ => (Kd.R_ne HO29.out B26.out (by decide)) e_) hs_)); replace B27 := Am (blk_kept B27.out hkp (fun hs_ => (fun e_ => (Kd.R_ne HO29.out B27.out (by decide)) e_) hs_)); have HO30 := Am (Kd.R_mono (ok' := fun k_ => k_ ≠ gb28) ho0 (fun k_ hk_ => Or.elim hk_ (fun hs_ => fun e_ => (Kd.R_away HO29.out (fun _ hk => hk.2)) (by rw [← e_]; exact hs_)) (fun hn_ => (Kd.freshB (g := gb28) (o := .cells #[.int .i64 a2] 3 (0, 0)) B28.out k_ hn_)))); replace B28 := Am (blk_kept B28.out hkp (fun hs_ => (fun e_ => (Kd.R_away HO29.out (fun _ hk => hk.2)) e_) hs_)); replace HB := Am (hb); clear HO29; (try clear hb); (try clear hkp); (try clear ho0)))
 go_ret
 exact ⟨_, Xe, by (with_reducible repeat (first | apply Kd.R_alloc | apply Kd.R_drewN | apply Kd.R_drew)); exact Kd.R_mono HO30.out (fun _ hk => trivial), Xi⟩
def impl_CircleOf.f (k : Nat) (a0_0 : Int) (a0_1 : Int) (l0_2 : List (S113)) (l1_0 : List (S39)) (l1_1 : List (S39)) (a2 : Int) : Option (List Int × Int) := (impl_tableCode.f k a0_0 a0_1 l0_2 l1_0 l1_1 a2).bind fun t10 => (if t10 = 0 then ((impl_Doc_circle.f k a0_0 a0_1 l0_2 l1_0 l1_1 a2).bind fun t11 => (some (t11, 0))) else (some (([] : List Int), t10)))
theorem impl_CircleOf.calls (k : Nat) (a0_0 : Int) (a0_1 : Int) (A0_2 : Option Addr) (c0_2 : Nat) (l0_2 : List (S113)) (A1_0 : Option Addr) (c1_0 : Nat) (l1_0 : List (S39)) (A1_1 : Option Addr) (c1_1 : Nat) (l1_1 : List (S39)) (a2 : Int) (r1 : List Int) (r2 : Int) (w : World) (hr0_2 : Kd.C k113 w A0_2 l0_2.length l0_2) (hc0_2 : l0_2.length ≤ c0_2) (hr1_0 : Kd.C k39 w A1_0 l1_0.length l1_0) (hc1_0 : l1_0.length ≤ c1_0) (hr1_1 : Kd.C k39 w A1_1 l1_1.length l1_1) (hc1_1 : l1_1.length ≤ c1_1) (h : impl_CircleOf.f k a0_0 a0_1 l0_2 l1_0 l1_1 a2 = some (r1, r2)) :
  Calls Tryz.prog 28 #[.agg #[.int .i64 a0_0, .int .i64 a0_1, .slice A0_2 l0_2.length c0_2], .agg #[.slice A1_0 l1_0.length c1_0, .slice A1_1 l1_1.length c1_1], .int .i64 a2] w fun e w' => ∃ v0_ : Value, e = .returned (.tuple #[v0_, .int .i64 r2]) ∧ Kd.R (Kd.int .i64) 3 w' w.heap.size (fun _ => True) v0_ r1 ∧ Below w.heap.size w w' := by
 have hu35 := Tryz.underlying35
 have hu53 := Tryz.underlying53
 have HR0_2 := Am hr0_2
 have HC0_2 := Am hc0_2
 clear hr0_2 hc0_2
 have HR1_0 := Am hr1_0
 have HC1_0 := Am hc1_0
 clear hr1_0 hc1_0
 have HR1_1 := Am hr1_1
 have HC1_1 := Am hc1_1
 clear hr1_1 hc1_1
 have HB := Am (Below.refl w.heap.size w)
 have H : ((impl_tableCode.f k a0_0 a0_1 l0_2 l1_0 l1_1 a2).bind fun t15 => (if t15 = 0 then ((impl_Doc_circle.f k a0_0 a0_1 l0_2 l1_0 l1_1 a2).bind fun t16 => (some (t16, 0))) else (some (([] : List Int), t15)))) = some (r1, r2) := h
 clear h
 obtain ⟨t15, A4, H⟩ := Xbi H
 try dsimp only at H
 have HC5 := Am H
 clear H
 go_enter Tryz.func28, Tryz.ntmps28
 go_upto_if 14 with (first | ((with_reducible refine gate_dst (N := 3) rfl ?_); refine Xbx 3 #[.int .i64 a0_0, .int .i64 a0_1, .slice A0_2 l0_2.length c0_2] 35 ?_; intro gb17 hg w6 B17 GE17 hb; replace HB := Xhb hb; clear hb hg) | ((with_reducible refine gate_dst (N := 4) rfl ?_); refine Xbx 4 #[.slice A1_0 l1_0.length c1_0, .slice A1_1 l1_1.length c1_1] 53 ?_; intro gb18 hg w7 B18 GE18 hb; replace HB := Xhb hb; have NB17_18 := Xnb hg B17; have NB18_17 := Xns NB17_18; replace B17 := Xbb B17 hb; clear hb hg; have hnb8 := NB17_18.out; have hnc8 := NB18_17.out; obtain ⟨Z9_0, Z9_1, Z9_2⟩ := Xc3 B17; obtain ⟨Z10_0, Z10_1⟩ := Xc2 B18) | ((with_reducible refine gate_callee (f := 57) rfl ?_); refine Xgo 12 Tryz.func57 #[.agg #[.int .i64 a0_0, .int .i64 a0_1, .slice A0_2 l0_2.length c0_2], .agg #[.slice A1_0 l1_0.length c1_0, .slice A1_1 l1_1.length c1_1], .int .i64 a2] ?_; (with_reducible refine (impl_tableCode.calls k a0_0 a0_1 _ _ l0_2 _ _ l1_0 _ _ l1_1 a2 t15 _ ?s1 ?s2 ?s3 ?s4 ?s5 ?s6 A4.out).mono ?_); (case s1 => exact Xc HR0_2); (case s2 => exact HC0_2.out); (case s3 => exact Xc HR1_0); (case s4 => exact HC1_0.out); (case s5 => exact Xc HR1_1); (case s6 => exact HC1_1.out); rintro e w11 ⟨rfl, hb⟩; refine ⟨_, rfl, ?_⟩; replace B17 := Xbb B17 hb; replace B18 := Xbb B18 hb; replace HB := Xhb hb; clear hb))
 have H := HC5.out
 clear HC5
 obtain ⟨c12, H⟩ | ⟨c12, H⟩ := Xiu H
 ·have c12b0 : (t15 == 0) = true := beq_iff_eq.mpr c12
  have c12b1 : (t15 != 0) = false := bne_eq_false_iff_eq.mpr c12
  clear c12
  (first | rw [c12b0] | (simp only [i64_w, i32_w]; rw [c12b0]) | skip)
  obtain ⟨t16, A13, H⟩ := Xbi H
  try dsimp only at H
  simp only [Option.some.injEq, Prod.mk.injEq] at H
  obtain ⟨rfl, rfl⟩ := H
  go_wp2_with (first | ((with_reducible refine gate_callee (f := 61) rfl ?_); refine Xgo 17 Tryz.func61 #[.pointer (some ⟨gb17, 0, none⟩), .pointer (some ⟨gb18, 0, none⟩), .int .i64 a2] ?_; (with_reducible refine (impl_Doc_circle.calls k gb17 a0_0 a0_1 A0_2 c0_2 l0_2 gb18 A1_0 c1_0 l1_0 A1_1 c1_1 l1_1 a2 t16 _ ?s1 ?s2 ?s3 ?s4 ?s5 ?s6 ?s7 ?s8 A13.out).mono ?_); (case s1 => exact B17.out); (case s2 => exact Xc HR0_2); (case s3 => exact HC0_2.out); (case s4 => exact B18.out); (case s5 => exact Xc HR1_0); (case s6 => exact HC1_0.out); (case s7 => exact Xc HR1_1); (case s8 => exact HC1_1.out); rintro e w14 ⟨v745, rfl, ho0, hb⟩; refine ⟨_, rfl, ?_⟩; have HO19 := Am (Kd.R_lower ho0 (below_size Xi)); replace B17 := Xbb B17 hb; replace B18 := Xbb B18 hb; replace HB := Xhb hb; clear hb; (try clear ho0)))
  go_ret2
  exact ⟨_, Xe, Xq HO19, Xi⟩
 have c12b0 : (t15 == 0) = false := beq_eq_false_iff_ne.mpr c12
 have c12b1 : (t15 != 0) = true := bne_iff_ne.mpr c12
 (first | rw [c12b0] | (simp only [i64_w, i32_w]; rw [c12b0]) | skip)
 simp only [Option.some.injEq, Prod.mk.injEq] at H
 obtain ⟨rfl, rfl⟩ := H
 go_wp2
 go_ret2
 exact ⟨_, Xe, by first | exact Kd.R_nil _ _ _ _ _ | exact Kd.N_nil _ _ _ _ _ | exact Kd.V_nil _ _ _ _ _ | exact Kd.Q_nil _ _ _ _ _ | exact Kd.S_nil _ _ _ _ _, Xi⟩
end Go.Proofs.YtahhgjkgfbppeaaGreat.XA
