/- Contracts of the program's functions: each Go function that is named below comes to what its Lean function says. Written by xprint.py (a program of this session's, over the kit's print). Conditions: each contract's own premises. -/
import Derived.Test.YtfemohapampkiaaYSameDoc0
import Derived.Test.YtfemohapampkiaaYSameDoc1
import Derived.Test.YtfemohapampkiaaYSameDoc3
import Derived.Test.YtfemohapampkiaaYSameDoc7
import Derived.Test.YtfemohapampkiaaYSameDoc11
namespace Go.Proofs.Ytfemohapampkiaa.XA
open Go.RowKit Go.Proofs.YtfemohapampkiaaW.PrintWords Go.Proofs.YtfemohapampkiaaW.PrintLast Go.Proofs.YtfemohapampkiaaW.PrintMore
attribute [local go_sem] max2_int min2_int max_two min_two max_three min_three max_four min_four   -- for this text's walks alone
set_option linter.unusedVariables false
set_option linter.unusedSimpArgs false

/-! ### laws_FnExactSameDoc: function 4 -/
def laws_FnExactSameDoc.f (k : Nat) (a0_0 : Int) (a0_1 : Int) (l0_2 : List (S138)) (a1_0 : Int) (a1_1 : Int) (l1_2 : List (S138)) : Option (Bool) := (laws_szDoc.f k a0_0 a0_1 l0_2 1048576).bind fun t279 => (if t279 < 0 then (some true) else ((laws_szDoc.f k a1_0 a1_1 l1_2 t279).bind fun t280 => (if t280 < 0 then (some true) else ((laws_toDoc.f k a0_0 a0_1 l0_2).bind fun bt281 => ((laws_toDoc.f k a1_0 a1_1 l1_2).bind fun bt286 => ((spec_SameDoc.f k bt281.1 bt281.2.1 bt281.2.2 bt286.1 bt286.2.1 bt286.2.2).bind fun t291 => ((laws_toDoc.f k a0_0 a0_1 l0_2).bind fun bt292 => ((laws_toDoc.f k a1_0 a1_1 l1_2).bind fun bt298 => ((impl_SameDoc.f k bt292.1 bt292.2.1 bt292.2.2 bt298.1 bt298.2.1 bt298.2.2).bind fun t304 => (if (t304 != t291) = true then (some false) else ((laws_toDoc.f k a0_0 a0_1 l0_2).bind fun bt305 => ((laws_eqDoc.f k bt292.1 bt292.2.1 bt292.2.2 bt305.1 bt305.2.1 bt305.2.2).bind fun t310 => (if t310 = true then ((laws_toDoc.f k a1_0 a1_1 l1_2).bind fun bt311 => ((laws_eqDoc.f k bt298.1 bt298.2.1 bt298.2.2 bt311.1 bt311.2.1 bt311.2.2).bind fun t316 => (if t316 = true then (some true) else (some false)))) else (some false))))))))))))))
theorem laws_FnExactSameDoc.mono : ∀ a0 a1 a2 a3 a4 a5 k, LeO (laws_FnExactSameDoc.f k a0 a1 a2 a3 a4 a5) (laws_FnExactSameDoc.f (k + 1) a0 a1 a2 a3 a4 a5) := by
 intro a0 a1 a2 a3 a4 a5 k
 unfold laws_FnExactSameDoc.f
 repeat' first
   | (with_reducible exact impl_SameDoc.mono _ _ _ _ _ _ _)
   | (with_reducible exact laws_eqDoc.mono _ _ _ _ _ _ _)
   | (with_reducible exact laws_szDoc.mono _ _ _ _ _)
   | (with_reducible exact laws_toDoc.mono _ _ _ _)
   | (with_reducible exact spec_SameDoc.mono _ _ _ _ _ _ _)
   | (with_reducible exact LeO.refl _)
   | (with_reducible exact LeO.none _)
   | (with_reducible refine LeO.ite ?_ ?_)
   | (with_reducible refine LeO.bind ?_ (fun _ => ?_))
   | exact impl_SameDoc.mono _ _ _ _ _ _ _
   | exact laws_eqDoc.mono _ _ _ _ _ _ _
   | exact laws_szDoc.mono _ _ _ _ _
   | exact laws_toDoc.mono _ _ _ _
   | exact spec_SameDoc.mono _ _ _ _ _ _ _
   | exact LeO.none _
   | refine LeO.ite ?_ ?_
   | refine LeO.bind ?_ (fun _ => ?_)
set_option maxHeartbeats 8000000 in
set_option maxRecDepth 100000 in
theorem laws_FnExactSameDoc.calls (k : Nat) (a0_0 : Int) (a0_1 : Int) (A0_2 : Option Addr) (c0_2 : Nat) (l0_2 : List (S138)) (a1_0 : Int) (a1_1 : Int) (A1_2 : Option Addr) (c1_2 : Nat) (l1_2 : List (S138)) (r : Bool) (w : World) (hr0_2 : Kd.C k138 w A0_2 l0_2.length l0_2) (hc0_2 : l0_2.length ≤ c0_2) (hr1_2 : Kd.C k138 w A1_2 l1_2.length l1_2) (hc1_2 : l1_2.length ≤ c1_2) (hr_ : r = true) (h : laws_FnExactSameDoc.f k a0_0 a0_1 l0_2 a1_0 a1_1 l1_2 = some r) :
  Calls Try.prog 4 #[.agg #[.int .i64 a0_0, .int .i64 a0_1, .slice A0_2 l0_2.length c0_2], .agg #[.int .i64 a1_0, .int .i64 a1_1, .slice A1_2 l1_2.length c1_2]] w fun e w' => e = .returned (.bool r) ∧ Below w.heap.size w w' := by
 subst hr_
 have hu24 := Try.underlying24
 have hu29 := Try.underlying29
 have HR0_2 := Aside0.mk hr0_2
 have HC0_2 := Aside0.mk hc0_2
 clear hr0_2 hc0_2
 have HR1_2 := Aside0.mk hr1_2
 have HC1_2 := Aside0.mk hc1_2
 clear hr1_2 hc1_2
 have HB := Aside0.mk (Below.refl w.heap.size w)
 have H : ((laws_szDoc.f k a0_0 a0_1 l0_2 1048576).bind fun t279 => (if t279 < 0 then (some true) else ((laws_szDoc.f k a1_0 a1_1 l1_2 t279).bind fun t280 => (if t280 < 0 then (some true) else ((laws_toDoc.f k a0_0 a0_1 l0_2).bind fun bt281 => ((laws_toDoc.f k a1_0 a1_1 l1_2).bind fun bt286 => ((spec_SameDoc.f k bt281.1 bt281.2.1 bt281.2.2 bt286.1 bt286.2.1 bt286.2.2).bind fun t291 => ((laws_toDoc.f k a0_0 a0_1 l0_2).bind fun bt292 => ((laws_toDoc.f k a1_0 a1_1 l1_2).bind fun bt298 => ((impl_SameDoc.f k bt292.1 bt292.2.1 bt292.2.2 bt298.1 bt298.2.1 bt298.2.2).bind fun t304 => (if (t304 != t291) = true then (some false) else ((laws_toDoc.f k a0_0 a0_1 l0_2).bind fun bt305 => ((laws_eqDoc.f k bt292.1 bt292.2.1 bt292.2.2 bt305.1 bt305.2.1 bt305.2.2).bind fun t310 => (if t310 = true then ((laws_toDoc.f k a1_0 a1_1 l1_2).bind fun bt311 => ((laws_eqDoc.f k bt298.1 bt298.2.1 bt298.2.2 bt311.1 bt311.2.1 bt311.2.2).bind fun t316 => (if t316 = true then (some true) else (some false)))) else (some false))))))))))))))) = some true := h
 clear h
 replace H := Option.bind_eq_some_iff.mp H
 obtain ⟨t279, A30, H⟩ := H
 replace H : (if t279 < 0 then (some true) else ((laws_szDoc.f k a1_0 a1_1 l1_2 t279).bind fun t280 => (if t280 < 0 then (some true) else ((laws_toDoc.f k a0_0 a0_1 l0_2).bind fun bt281 => ((laws_toDoc.f k a1_0 a1_1 l1_2).bind fun bt286 => ((spec_SameDoc.f k bt281.1 bt281.2.1 bt281.2.2 bt286.1 bt286.2.1 bt286.2.2).bind fun t291 => ((laws_toDoc.f k a0_0 a0_1 l0_2).bind fun bt292 => ((laws_toDoc.f k a1_0 a1_1 l1_2).bind fun bt298 => ((impl_SameDoc.f k bt292.1 bt292.2.1 bt292.2.2 bt298.1 bt298.2.1 bt298.2.2).bind fun t304 => (if (t304 != t291) = true then (some false) else ((laws_toDoc.f k a0_0 a0_1 l0_2).bind fun bt305 => ((laws_eqDoc.f k bt292.1 bt292.2.1 bt292.2.2 bt305.1 bt305.2.1 bt305.2.2).bind fun t310 => (if t310 = true then ((laws_toDoc.f k a1_0 a1_1 l1_2).bind fun bt311 => ((laws_eqDoc.f k bt298.1 bt298.2.1 bt298.2.2 bt311.1 bt311.2.1 bt311.2.2).bind fun t316 => (if t316 = true then (some true) else (some false)))) else (some false)))))))))))))) = some true := H
 have A3 := Aside0.mk A30
 clear A30
 have HC4 := Aside0.mk H
 clear H
 go_enter Try.func4, Try.ntmps4
 go_upto_if 14 with (first | ((with_reducible refine gate_dst (N := 2) rfl ?_); refine box_event ?hg (N := 2) ?hd (cs := #[.int .i64 a0_0, .int .i64 a0_1, .slice A0_2 l0_2.length c0_2]) (t := 24) ?hr ?_; (case hd => rfl); (case hg => rfl); (case hr => first | (go_simp; done) | (go_simp; rfl)); intro gb277 hg w5 hbox hb; have n0_ := Aside0.mk (below_step (by repeat first | (with_reducible first | exact HB.out | apply XW.bN | apply XW.bD) | exact HB.out) hb); have n1_ := Aside0.mk (hbox); have n2_ := Aside0.mk ((by rw [hg]; exact (below_size (by repeat first | (with_reducible first | exact HB.out | apply XW.bN | apply XW.bD) | exact HB.out)) : w.heap.size ≤ gb277)); have n3_ := Aside0.mk ((by rw [hg]; exact (below_size (by repeat first | (with_reducible first | exact HB.out | apply XW.bN | apply XW.bD) | exact HB.out)) : w.heap.size ≤ gb277)); clear HB; have HB := n0_; have BK277 := n1_; have GW277 := n2_; have GE277 := n3_; clear n0_ n1_ n2_ n3_; clear hb hbox hg) | ((with_reducible refine gate_dst (N := 3) rfl ?_); refine box_event ?hg (N := 3) ?hd (cs := #[.int .i64 a1_0, .int .i64 a1_1, .slice A1_2 l1_2.length c1_2]) (t := 24) ?hr ?_; (case hd => rfl); (case hg => rfl); (case hr => first | (go_simp; done) | (go_simp; rfl)); intro gb278 hg w6 hbox hb; have n0_ := Aside0.mk (blk_below (g := gb277) (o := .cells #[.int .i64 a0_0, .int .i64 a0_1, .slice A0_2 l0_2.length c0_2] 24 (0, 0)) (by exact BK277.out) hb); have n1_ := Aside0.mk (below_step (by repeat first | (with_reducible first | exact HB.out | apply XW.bN | apply XW.bD) | exact HB.out) hb); have n2_ := Aside0.mk (hbox); have n3_ := Aside0.mk ((by rw [hg]; exact (below_size (by repeat first | (with_reducible first | exact HB.out | apply XW.bN | apply XW.bD) | exact HB.out)) : w.heap.size ≤ gb278)); have n4_ := Aside0.mk ((by rw [hg]; exact (below_size (by repeat first | (with_reducible first | exact HB.out | apply XW.bN | apply XW.bD) | exact HB.out)) : w.heap.size ≤ gb278)); have n5_ := Aside0.mk ((by rw [hg]; exact Nat.ne_of_lt (blk_lt (g := gb277) (o := .cells #[.int .i64 a0_0, .int .i64 a0_1, .slice A0_2 l0_2.length c0_2] 24 (0, 0)) (by exact BK277.out)) : gb277 ≠ gb278)); have n6_ := Aside0.mk ((by rw [hg]; exact Nat.ne_of_gt (blk_lt (g := gb277) (o := .cells #[.int .i64 a0_0, .int .i64 a0_1, .slice A0_2 l0_2.length c0_2] 24 (0, 0)) (by exact BK277.out)) : gb278 ≠ gb277)); clear BK277; clear HB; have BK277 := n0_; have HB := n1_; have BK278 := n2_; have GW278 := n3_; have GE278 := n4_; have NB277_278 := n5_; have NB278_277 := n6_; clear n0_ n1_ n2_ n3_ n4_ n5_ n6_; clear hb hbox hg; have hnb7 := NB277_278.out; have hnc7 := NB278_277.out; have hcz8_0 : w6.cell? ⟨gb277, 0, none⟩ = some (.int .i64 a0_0) := (blk_cell BK277.out 0).trans rfl; have hcz8_1 : w6.cell? ⟨gb277, 1, none⟩ = some (.int .i64 a0_1) := (blk_cell BK277.out 1).trans rfl; have hcz8_2 : w6.cell? ⟨gb277, 2, none⟩ = some (.slice A0_2 l0_2.length c0_2) := (blk_cell BK277.out 2).trans rfl; have hfz8_0 := blk_frozen BK277.out 0; have hfz8_1 := blk_frozen BK277.out 1; have hfz8_2 := blk_frozen BK277.out 2) | ((with_reducible refine gate_callee (f := 13) rfl ?_); refine goesL_ (some 12) rfl rfl Try.func13 (by kernel_rfl) rfl #[.agg #[.int .i64 a0_0, .int .i64 a0_1, .slice A0_2 l0_2.length c0_2], .int .i64 1048576] rfl (by (try simp only [List.map_toArray, List.map_cons, List.map_nil]); first | done | rfl | (simp only [List.length_drop, List.length_take]; rfl)) ?_; (with_reducible refine (laws_szDoc.calls k a0_0 a0_1 _ _ l0_2 1048576 t279 _ ?side1 ?side2 A3.out).mono ?_); (case side1 => repeat (first | exact (Kd.C_below HR0_2.out HB.out) | (with_reducible first | refine Kd.C_alloc ?_ _ | refine Kd.C_drewN ?_ _ | refine Kd.C_drew ?_))); (case side2 => exact HC0_2.out); rintro e w9 ⟨rfl, hb⟩; refine ⟨_, rfl, ?_⟩; have n0_ := Aside0.mk (blk_below (g := gb277) (o := .cells #[.int .i64 a0_0, .int .i64 a0_1, .slice A0_2 l0_2.length c0_2] 24 (0, 0)) (by exact BK277.out) hb); have n1_ := Aside0.mk (blk_below (g := gb278) (o := .cells #[.int .i64 a1_0, .int .i64 a1_1, .slice A1_2 l1_2.length c1_2] 24 (0, 0)) (by exact BK278.out) hb); have n2_ := Aside0.mk (below_step (by repeat first | (with_reducible first | exact HB.out | apply XW.bN | apply XW.bD) | exact HB.out) hb); clear BK277; clear BK278; clear HB; have BK277 := n0_; have BK278 := n1_; have HB := n2_; clear n0_ n1_ n2_; (try clear hb); (try clear hb2); (try clear hk); (try clear hi)))
 have H := HC4.out
 clear HC4
 by_cases c10 : t279 < 0
 ·rw [if_pos c10] at H
  have c10b0 : decide (t279 < 0) = true := decide_eq_true c10
  clear c10
  (first | rw [c10b0] | (simp only [i64_w, i32_w]; rw [c10b0]) | skip)
  go_wp2
  go_ret
  exact ⟨by first | rfl | (simp [errW_none, errW_some] <;> rfl) | (simp [*, errW_none, errW_some] <;> rfl), by repeat first | (with_reducible first | exact HB.out | apply XW.bN | apply XW.bD) | exact HB.out⟩
 ·rw [if_neg c10] at H
  have c10b0 : decide (t279 < 0) = false := decide_eq_false c10
  clear c10
  (first | rw [c10b0] | (simp only [i64_w, i32_w]; rw [c10b0]) | skip)
  replace H := Option.bind_eq_some_iff.mp H
  obtain ⟨t280, A110, H⟩ := H
  replace H : (if t280 < 0 then (some true) else ((laws_toDoc.f k a0_0 a0_1 l0_2).bind fun bt281 => ((laws_toDoc.f k a1_0 a1_1 l1_2).bind fun bt286 => ((spec_SameDoc.f k bt281.1 bt281.2.1 bt281.2.2 bt286.1 bt286.2.1 bt286.2.2).bind fun t291 => ((laws_toDoc.f k a0_0 a0_1 l0_2).bind fun bt292 => ((laws_toDoc.f k a1_0 a1_1 l1_2).bind fun bt298 => ((impl_SameDoc.f k bt292.1 bt292.2.1 bt292.2.2 bt298.1 bt298.2.1 bt298.2.2).bind fun t304 => (if (t304 != t291) = true then (some false) else ((laws_toDoc.f k a0_0 a0_1 l0_2).bind fun bt305 => ((laws_eqDoc.f k bt292.1 bt292.2.1 bt292.2.2 bt305.1 bt305.2.1 bt305.2.2).bind fun t310 => (if t310 = true then ((laws_toDoc.f k a1_0 a1_1 l1_2).bind fun bt311 => ((laws_eqDoc.f k bt298.1 bt298.2.1 bt298.2.2 bt311.1 bt311.2.1 bt311.2.2).bind fun t316 => (if t316 = true then (some true) else (some false)))) else (some false)))))))))))) = some true := H
  have A11 := Aside0.mk A110
  clear A110
  have HC12 := Aside0.mk H
  clear H
  have hnb13 := NB278_277.out
  have hnc13 := NB277_278.out
  have hcz14_0 : w9.cell? ⟨gb278, 0, none⟩ = some (.int .i64 a1_0) := (blk_cell BK278.out 0).trans rfl
  have hcz14_1 : w9.cell? ⟨gb278, 1, none⟩ = some (.int .i64 a1_1) := (blk_cell BK278.out 1).trans rfl
  have hcz14_2 : w9.cell? ⟨gb278, 2, none⟩ = some (.slice A1_2 l1_2.length c1_2) := (blk_cell BK278.out 2).trans rfl
  have hfz14_0 := blk_frozen BK278.out 0
  have hfz14_1 := blk_frozen BK278.out 1
  have hfz14_2 := blk_frozen BK278.out 2
  go_upto_if 19 with (first | ((with_reducible refine gate_callee (f := 13) rfl ?_); refine goesL_ (some 17) rfl rfl Try.func13 (by kernel_rfl) rfl #[.agg #[.int .i64 a1_0, .int .i64 a1_1, .slice A1_2 l1_2.length c1_2], .int .i64 t279] rfl (by (try simp only [List.map_toArray, List.map_cons, List.map_nil]); first | done | rfl | (simp only [List.length_drop, List.length_take]; rfl)) ?_; (with_reducible refine (laws_szDoc.calls k a1_0 a1_1 _ _ l1_2 t279 t280 _ ?side1 ?side2 A11.out).mono ?_); (case side1 => repeat (first | exact (Kd.C_below HR1_2.out HB.out) | (with_reducible first | refine Kd.C_alloc ?_ _ | refine Kd.C_drewN ?_ _ | refine Kd.C_drew ?_))); (case side2 => exact HC1_2.out); rintro e w15 ⟨rfl, hb⟩; refine ⟨_, rfl, ?_⟩; have n0_ := Aside0.mk (blk_below (g := gb277) (o := .cells #[.int .i64 a0_0, .int .i64 a0_1, .slice A0_2 l0_2.length c0_2] 24 (0, 0)) (by exact BK277.out) hb); have n1_ := Aside0.mk (blk_below (g := gb278) (o := .cells #[.int .i64 a1_0, .int .i64 a1_1, .slice A1_2 l1_2.length c1_2] 24 (0, 0)) (by exact BK278.out) hb); have n2_ := Aside0.mk (below_step (by repeat first | (with_reducible first | exact HB.out | apply XW.bN | apply XW.bD) | exact HB.out) hb); clear BK277; clear BK278; clear HB; have BK277 := n0_; have BK278 := n1_; have HB := n2_; clear n0_ n1_ n2_; (try clear hb); (try clear hb2); (try clear hk); (try clear hi)))
  have H := HC12.out
  clear HC12
  by_cases c16 : t280 < 0
  ·rw [if_pos c16] at H
   have c16b0 : decide (t280 < 0) = true := decide_eq_true c16
   clear c16
   (first | rw [c16b0] | (simp only [i64_w, i32_w]; rw [c16b0]) | skip)
   go_wp2
   go_ret
   exact ⟨by first | rfl | (simp [errW_none, errW_some] <;> rfl) | (simp [*, errW_none, errW_some] <;> rfl), by repeat first | (with_reducible first | exact HB.out | apply XW.bN | apply XW.bD) | exact HB.out⟩
  ·rw [if_neg c16] at H
   have c16b0 : decide (t280 < 0) = false := decide_eq_false c16
   clear c16
   (first | rw [c16b0] | (simp only [i64_w, i32_w]; rw [c16b0]) | skip)
   replace H := Option.bind_eq_some_iff.mp H
   obtain ⟨⟨t281, t282, t283⟩, A170, H⟩ := H
   replace H : ((laws_toDoc.f k a1_0 a1_1 l1_2).bind fun bt286 => ((spec_SameDoc.f k t281 t282 t283 bt286.1 bt286.2.1 bt286.2.2).bind fun t291 => ((laws_toDoc.f k a0_0 a0_1 l0_2).bind fun bt292 => ((laws_toDoc.f k a1_0 a1_1 l1_2).bind fun bt298 => ((impl_SameDoc.f k bt292.1 bt292.2.1 bt292.2.2 bt298.1 bt298.2.1 bt298.2.2).bind fun t304 => (if (t304 != t291) = true then (some false) else ((laws_toDoc.f k a0_0 a0_1 l0_2).bind fun bt305 => ((laws_eqDoc.f k bt292.1 bt292.2.1 bt292.2.2 bt305.1 bt305.2.1 bt305.2.2).bind fun t310 => (if t310 = true then ((laws_toDoc.f k a1_0 a1_1 l1_2).bind fun bt311 => ((laws_eqDoc.f k bt298.1 bt298.2.1 bt298.2.2 bt311.1 bt311.2.1 bt311.2.2).bind fun t316 => (if t316 = true then (some true) else (some false)))) else (some false)))))))))) = some true := H
   have A17 := Aside0.mk A170
   clear A170
   replace H := Option.bind_eq_some_iff.mp H
   obtain ⟨⟨t286, t287, t288⟩, A180, H⟩ := H
   replace H : ((spec_SameDoc.f k t281 t282 t283 t286 t287 t288).bind fun t291 => ((laws_toDoc.f k a0_0 a0_1 l0_2).bind fun bt292 => ((laws_toDoc.f k a1_0 a1_1 l1_2).bind fun bt298 => ((impl_SameDoc.f k bt292.1 bt292.2.1 bt292.2.2 bt298.1 bt298.2.1 bt298.2.2).bind fun t304 => (if (t304 != t291) = true then (some false) else ((laws_toDoc.f k a0_0 a0_1 l0_2).bind fun bt305 => ((laws_eqDoc.f k bt292.1 bt292.2.1 bt292.2.2 bt305.1 bt305.2.1 bt305.2.2).bind fun t310 => (if t310 = true then ((laws_toDoc.f k a1_0 a1_1 l1_2).bind fun bt311 => ((laws_eqDoc.f k bt298.1 bt298.2.1 bt298.2.2 bt311.1 bt311.2.1 bt311.2.2).bind fun t316 => (if t316 = true then (some true) else (some false)))) else (some false))))))))) = some true := H
   have A18 := Aside0.mk A180
   clear A180
   replace H := Option.bind_eq_some_iff.mp H
   obtain ⟨t291, A190, H⟩ := H
   replace H : ((laws_toDoc.f k a0_0 a0_1 l0_2).bind fun bt292 => ((laws_toDoc.f k a1_0 a1_1 l1_2).bind fun bt298 => ((impl_SameDoc.f k bt292.1 bt292.2.1 bt292.2.2 bt298.1 bt298.2.1 bt298.2.2).bind fun t304 => (if (t304 != t291) = true then (some false) else ((laws_toDoc.f k a0_0 a0_1 l0_2).bind fun bt305 => ((laws_eqDoc.f k bt292.1 bt292.2.1 bt292.2.2 bt305.1 bt305.2.1 bt305.2.2).bind fun t310 => (if t310 = true then ((laws_toDoc.f k a1_0 a1_1 l1_2).bind fun bt311 => ((laws_eqDoc.f k bt298.1 bt298.2.1 bt298.2.2 bt311.1 bt311.2.1 bt311.2.2).bind fun t316 => (if t316 = true then (some true) else (some false)))) else (some false)))))))) = some true := H
   have A19 := Aside0.mk A190
   clear A190
   replace H := Option.bind_eq_some_iff.mp H
   obtain ⟨⟨t292, t293, t294⟩, A200, H⟩ := H
   replace H : ((laws_toDoc.f k a1_0 a1_1 l1_2).bind fun bt298 => ((impl_SameDoc.f k t292 t293 t294 bt298.1 bt298.2.1 bt298.2.2).bind fun t304 => (if (t304 != t291) = true then (some false) else ((laws_toDoc.f k a0_0 a0_1 l0_2).bind fun bt305 => ((laws_eqDoc.f k t292 t293 t294 bt305.1 bt305.2.1 bt305.2.2).bind fun t310 => (if t310 = true then ((laws_toDoc.f k a1_0 a1_1 l1_2).bind fun bt311 => ((laws_eqDoc.f k bt298.1 bt298.2.1 bt298.2.2 bt311.1 bt311.2.1 bt311.2.2).bind fun t316 => (if t316 = true then (some true) else (some false)))) else (some false))))))) = some true := H
   have A20 := Aside0.mk A200
   clear A200
   replace H := Option.bind_eq_some_iff.mp H
   obtain ⟨⟨t298, t299, t300⟩, A210, H⟩ := H
   replace H : ((impl_SameDoc.f k t292 t293 t294 t298 t299 t300).bind fun t304 => (if (t304 != t291) = true then (some false) else ((laws_toDoc.f k a0_0 a0_1 l0_2).bind fun bt305 => ((laws_eqDoc.f k t292 t293 t294 bt305.1 bt305.2.1 bt305.2.2).bind fun t310 => (if t310 = true then ((laws_toDoc.f k a1_0 a1_1 l1_2).bind fun bt311 => ((laws_eqDoc.f k t298 t299 t300 bt311.1 bt311.2.1 bt311.2.2).bind fun t316 => (if t316 = true then (some true) else (some false)))) else (some false)))))) = some true := H
   have A21 := Aside0.mk A210
   clear A210
   replace H := Option.bind_eq_some_iff.mp H
   obtain ⟨t304, A220, H⟩ := H
   replace H : (if (t304 != t291) = true then (some false) else ((laws_toDoc.f k a0_0 a0_1 l0_2).bind fun bt305 => ((laws_eqDoc.f k t292 t293 t294 bt305.1 bt305.2.1 bt305.2.2).bind fun t310 => (if t310 = true then ((laws_toDoc.f k a1_0 a1_1 l1_2).bind fun bt311 => ((laws_eqDoc.f k t298 t299 t300 bt311.1 bt311.2.1 bt311.2.2).bind fun t316 => (if t316 = true then (some true) else (some false)))) else (some false))))) = some true := H
   have A22 := Aside0.mk A220
   clear A220
   have HC23 := Aside0.mk H
   clear H
   try go_wp2_with (fail)
   have n0_ := Aside0.mk (blk_drew BK277.out)
   have n1_ := Aside0.mk (blk_drew BK278.out)
   have n2_ := Aside0.mk (below_drew1 HB.out)
   clear BK277
   clear BK278
   clear HB
   have BK277 := n0_
   have BK278 := n1_
   have HB := n2_
   clear n0_ n1_ n2_
   refine start_ (n := 6) (S := fun w' => w'.cell? ⟨gb277, 0, none⟩ = some (.int .i64 a0_0) ∧ w'.cell? ⟨gb277, 1, none⟩ = some (.int .i64 a0_1) ∧ w'.cell? ⟨gb277, 2, none⟩ = some (.slice A0_2 l0_2.length c0_2) ∧ w'.cell? ⟨gb278, 0, none⟩ = some (.int .i64 a1_0) ∧ w'.cell? ⟨gb278, 1, none⟩ = some (.int .i64 a1_1) ∧ w'.cell? ⟨gb278, 2, none⟩ = some (.slice A1_2 l1_2.length c1_2)) (ds := []) #[false, false, false, false, false, false] (by kernel_rfl) rfl rfl ⟨(blk_cell BK277.out 0).trans rfl, (blk_cell BK277.out 1).trans rfl, (blk_cell BK277.out 2).trans rfl, (blk_cell BK278.out 0).trans rfl, (blk_cell BK278.out 1).trans rfl, (blk_cell BK278.out 2).trans rfl⟩ (fun hHeld => ?_)
   generalize w15.drew = w24 at BK277 BK278 HB hHeld ⊢
   refine take_ (i := 0) (N := some 20) (v := ?_) (a' := ?_) (XW.bs 6 1) rfl rfl (by kernel_rfl) (fun _ _ _ h => h) (Or.inl ⟨by rfl, ?_⟩) hHeld ?_ ?_
   rotate_left
   ·rintro w' ⟨s0, s1, s2, s3, s4, s5⟩
    go_simp
    with_reducible rfl
   rotate_left
   ·simp only [XW.q0, XW.q1, XW.q2, i64_w, i32_w]
    rfl
   refine take_ (i := 2) (N := some 22) (v := ?_) (a' := ?_) (XW.bs 6 5) rfl rfl (by kernel_rfl) (fun _ _ _ h => h) (Or.inl ⟨by rfl, ?_⟩) hHeld ?_ ?_
   rotate_left
   ·rintro w' ⟨s0, s1, s2, s3, s4, s5⟩
    go_simp
    with_reducible rfl
   rotate_left
   ·simp only [XW.q0, XW.q1, XW.q2, i64_w, i32_w]
    rfl
   refine one_ (i := 1) (N := some 21) (XW.bs 6 7) rfl rfl (by kernel_rfl) (by decide) (fun K hK => ?_)
   refine goes_ Try.func15 (by kernel_rfl) rfl #[.agg #[.int .i64 a0_0, .int .i64 a0_1, .slice A0_2 l0_2.length c0_2]] (by rfl) rfl rfl (by (try simp only [List.map_toArray, List.map_cons, List.map_nil]); first | done | rfl | (simp only [List.length_drop, List.length_take]; rfl)) ?_
   with_reducible refine (laws_toDoc.calls k a0_0 a0_1 _ _ l0_2 t281 t282 t283 _ ?side1 ?side2 A17.out).mono ?_
   (case side1 => repeat (first | exact (Kd.C_below HR0_2.out HB.out) | (with_reducible first | refine Kd.C_alloc ?_ _ | refine Kd.C_drewN ?_ _ | refine Kd.C_drew ?_)))
   (case side2 => exact HC0_2.out)
   rintro e w25 ⟨v284, rfl, ho0, hb⟩
   refine ⟨_, rfl, ?_⟩
   have n0_ := Aside0.mk (Kd.S_lower ho0 (below_size (by repeat first | (with_reducible first | exact HB.out | apply XW.bN | apply XW.bD) | exact HB.out)))
   have n1_ := Aside0.mk (blk_below (g := gb277) (o := .cells #[.int .i64 a0_0, .int .i64 a0_1, .slice A0_2 l0_2.length c0_2] 24 (0, 0)) (by exact BK277.out) hb)
   have n2_ := Aside0.mk (blk_below (g := gb278) (o := .cells #[.int .i64 a1_0, .int .i64 a1_1, .slice A1_2 l1_2.length c1_2] 24 (0, 0)) (by exact BK278.out) hb)
   have n3_ := Aside0.mk (below_step (by repeat first | (with_reducible first | exact HB.out | apply XW.bN | apply XW.bD) | exact HB.out) hb)
   clear BK277
   clear BK278
   clear HB
   have HO285 := n0_
   have BK277 := n1_
   have BK278 := n2_
   have HB := n3_
   clear n0_ n1_ n2_ n3_
   (try clear hb)
   (try clear hb2)
   (try clear hk)
   (try clear hi)
   (try clear ho0)
   refine hK.out _ _ ⟨(blk_cell BK277.out 0).trans rfl, (blk_cell BK277.out 1).trans rfl, (blk_cell BK277.out 2).trans rfl, (blk_cell BK278.out 0).trans rfl, (blk_cell BK278.out 1).trans rfl, (blk_cell BK278.out 2).trans rfl⟩ (fun hHeld => ?_)
   clear hK K
   refine norm_ (a' := ?_) ?_ ?_
   rotate_left
   ·show Act.put _ (some 21) _ = _
    simp only [XW.q0, XW.q1, XW.q2, i64_w, i32_w]
    rfl
   refine one_ (i := 3) (N := some 23) (XW.bs 6 15) rfl rfl (by kernel_rfl) (by decide) (fun K hK => ?_)
   refine goes_ Try.func15 (by kernel_rfl) rfl #[.agg #[.int .i64 a1_0, .int .i64 a1_1, .slice A1_2 l1_2.length c1_2]] (by rfl) rfl rfl (by (try simp only [List.map_toArray, List.map_cons, List.map_nil]); first | done | rfl | (simp only [List.length_drop, List.length_take]; rfl)) ?_
   with_reducible refine (laws_toDoc.calls k a1_0 a1_1 _ _ l1_2 t286 t287 t288 _ ?side1 ?side2 A18.out).mono ?_
   (case side1 => repeat (first | exact (Kd.C_below HR1_2.out HB.out) | (with_reducible first | refine Kd.C_alloc ?_ _ | refine Kd.C_drewN ?_ _ | refine Kd.C_drew ?_)))
   (case side2 => exact HC1_2.out)
   rintro e w26 ⟨v289, rfl, ho0, hb⟩
   refine ⟨_, rfl, ?_⟩
   have n0_ := Aside0.mk (Kd.S_elder' (by (with_reducible repeat (first | apply Kd.S_alloc | apply Kd.S_drewN | apply Kd.S_drew)); exact HO285.out) (Kd.S_base ho0) hb)
   have n1_ := Aside0.mk (Kd.S_lower (Kd.S_new' ho0 (Kd.S_lt (by (with_reducible repeat (first | apply Kd.S_alloc | apply Kd.S_drewN | apply Kd.S_drew)); exact HO285.out))) (below_size (by repeat first | (with_reducible first | exact HB.out | apply XW.bN | apply XW.bD) | exact HB.out)))
   have n2_ := Aside0.mk (blk_below (g := gb277) (o := .cells #[.int .i64 a0_0, .int .i64 a0_1, .slice A0_2 l0_2.length c0_2] 24 (0, 0)) (by exact BK277.out) hb)
   have n3_ := Aside0.mk (blk_below (g := gb278) (o := .cells #[.int .i64 a1_0, .int .i64 a1_1, .slice A1_2 l1_2.length c1_2] 24 (0, 0)) (by exact BK278.out) hb)
   have n4_ := Aside0.mk (below_step (by repeat first | (with_reducible first | exact HB.out | apply XW.bN | apply XW.bD) | exact HB.out) hb)
   clear HO285
   clear BK277
   clear BK278
   clear HB
   have HO285 := n0_
   have HO290 := n1_
   have BK277 := n2_
   have BK278 := n3_
   have HB := n4_
   clear n0_ n1_ n2_ n3_ n4_
   (try clear hb)
   (try clear hb2)
   (try clear hk)
   (try clear hi)
   (try clear ho0)
   obtain ⟨Ao27, co27, eo27⟩ := Kd.S_slice HO285.out
   (first | subst eo27 | (injection eo27 with f1_ f2_ f3_; have f4_ := f1_.symm; have f5_ := f3_.symm; clear f1_ f2_ f3_; subst f4_; subst f5_))
   obtain ⟨Ao28, co28, eo28⟩ := Kd.S_slice HO290.out
   (first | subst eo28 | (injection eo28 with f1_ f2_ f3_; have f4_ := f1_.symm; have f5_ := f3_.symm; clear f1_ f2_ f3_; subst f4_; subst f5_))
   refine hK.out _ _ ⟨(blk_cell BK277.out 0).trans rfl, (blk_cell BK277.out 1).trans rfl, (blk_cell BK277.out 2).trans rfl, (blk_cell BK278.out 0).trans rfl, (blk_cell BK278.out 1).trans rfl, (blk_cell BK278.out 2).trans rfl⟩ (fun hHeld => ?_)
   clear hK K
   refine norm_ (a' := ?_) ?_ ?_
   rotate_left
   ·show Act.put _ (some 23) _ = _
    simp only [XW.q0, XW.q1, XW.q2, i64_w, i32_w]
    rfl
   refine one_ (i := 4) (N := some 24) (XW.bs 6 31) rfl rfl (by kernel_rfl) (by decide) (fun K hK => ?_)
   refine goes_ Try.func18 (by kernel_rfl) rfl #[.agg #[.int .i64 t281, .int .i64 t282, .slice Ao27 t283.length co27], .agg #[.int .i64 t286, .int .i64 t287, .slice Ao28 t288.length co28]] (by rfl) rfl rfl (by (try simp only [List.map_toArray, List.map_cons, List.map_nil]); first | done | rfl | (simp only [List.length_drop, List.length_take]; rfl)) ?_
   with_reducible refine (spec_SameDoc.calls k t281 t282 _ _ t283 t286 t287 _ _ t288 t291 _ ?side1 ?side2 ?side3 ?side4 A19.out).mono ?_
   (case side1 => repeat (first | exact (Kd.S_reads' HO285.out).2.2 | (with_reducible first | refine Kd.C_alloc ?_ _ | refine Kd.C_drewN ?_ _ | refine Kd.C_drew ?_)))
   (case side2 => exact (Kd.S_reads' HO285.out).2.1)
   (case side3 => repeat (first | exact (Kd.S_reads' HO290.out).2.2 | (with_reducible first | refine Kd.C_alloc ?_ _ | refine Kd.C_drewN ?_ _ | refine Kd.C_drew ?_)))
   (case side4 => exact (Kd.S_reads' HO290.out).2.1)
   rintro e w29 ⟨rfl, hb⟩
   refine ⟨_, rfl, ?_⟩
   have n0_ := Aside0.mk (Kd.S_below (by (with_reducible repeat (first | apply Kd.S_alloc | apply Kd.S_drewN | apply Kd.S_drew)); exact HO285.out) hb)
   have n1_ := Aside0.mk (Kd.S_below (by (with_reducible repeat (first | apply Kd.S_alloc | apply Kd.S_drewN | apply Kd.S_drew)); exact HO290.out) hb)
   have n2_ := Aside0.mk (blk_below (g := gb277) (o := .cells #[.int .i64 a0_0, .int .i64 a0_1, .slice A0_2 l0_2.length c0_2] 24 (0, 0)) (by exact BK277.out) hb)
   have n3_ := Aside0.mk (blk_below (g := gb278) (o := .cells #[.int .i64 a1_0, .int .i64 a1_1, .slice A1_2 l1_2.length c1_2] 24 (0, 0)) (by exact BK278.out) hb)
   have n4_ := Aside0.mk (below_step (by repeat first | (with_reducible first | exact HB.out | apply XW.bN | apply XW.bD) | exact HB.out) hb)
   clear HO285
   clear HO290
   clear BK277
   clear BK278
   clear HB
   have HO285 := n0_
   have HO290 := n1_
   have BK277 := n2_
   have BK278 := n3_
   have HB := n4_
   clear n0_ n1_ n2_ n3_ n4_
   (try clear hb)
   (try clear hb2)
   (try clear hk)
   (try clear hi)
   refine hK.out _ _ ⟨(blk_cell BK277.out 0).trans rfl, (blk_cell BK277.out 1).trans rfl, (blk_cell BK277.out 2).trans rfl, (blk_cell BK278.out 0).trans rfl, (blk_cell BK278.out 1).trans rfl, (blk_cell BK278.out 2).trans rfl⟩ (fun hHeld => ?_)
   clear hK K
   refine norm_ (a' := ?_) ?_ ?_
   rotate_left
   ·show Act.put _ (some 24) _ = _
    simp only [XW.q0, XW.q1, XW.q2, i64_w, i32_w]
    rfl
   refine pure_ (i := 5) (N := some 6) (v := ?_) (a' := ?_) (XW.bs 6 63) rfl rfl (by kernel_rfl) (fun _ _ _ h => h) (Or.inl ⟨by rfl, ?_⟩) ?_ ?_
   rotate_left
   ·intro w'
    go_simp
    with_reducible rfl
   rotate_left
   ·simp only [XW.q0, XW.q1, XW.q2, i64_w, i32_w]
    rfl
   refine done_ (by kernel_rfl) ?_
   have hnb30 := NB277_278.out
   have hnc30 := NB278_277.out
   have hcz31_0 : w29.cell? ⟨gb277, 0, none⟩ = some (.int .i64 a0_0) := (blk_cell BK277.out 0).trans rfl
   have hcz31_1 : w29.cell? ⟨gb277, 1, none⟩ = some (.int .i64 a0_1) := (blk_cell BK277.out 1).trans rfl
   have hcz31_2 : w29.cell? ⟨gb277, 2, none⟩ = some (.slice A0_2 l0_2.length c0_2) := (blk_cell BK277.out 2).trans rfl
   have hfz31_0 := blk_frozen BK277.out 0
   have hfz31_1 := blk_frozen BK277.out 1
   have hfz31_2 := blk_frozen BK277.out 2
   go_upto_if 34 with (first | ((with_reducible refine gate_callee (f := 15) rfl ?_); refine goesL_ (some 26) rfl rfl Try.func15 (by kernel_rfl) rfl #[.agg #[.int .i64 a0_0, .int .i64 a0_1, .slice A0_2 l0_2.length c0_2]] rfl (by (try simp only [List.map_toArray, List.map_cons, List.map_nil]); first | done | rfl | (simp only [List.length_drop, List.length_take]; rfl)) ?_; (with_reducible refine (laws_toDoc.calls k a0_0 a0_1 _ _ l0_2 t292 t293 t294 _ ?side1 ?side2 A20.out).mono ?_); (case side1 => repeat (first | exact (Kd.C_below HR0_2.out HB.out) | (with_reducible first | refine Kd.C_alloc ?_ _ | refine Kd.C_drewN ?_ _ | refine Kd.C_drew ?_))); (case side2 => exact HC0_2.out); rintro e w32 ⟨v295, rfl, ho0, hb⟩; refine ⟨_, rfl, ?_⟩; have n0_ := Aside0.mk (Kd.S_elder' (by (with_reducible repeat (first | apply Kd.S_alloc | apply Kd.S_drewN | apply Kd.S_drew)); exact HO285.out) (Kd.S_base ho0) hb); have n1_ := Aside0.mk (Kd.S_elder' (by (with_reducible repeat (first | apply Kd.S_alloc | apply Kd.S_drewN | apply Kd.S_drew)); exact HO290.out) (Kd.S_base ho0) hb); have n2_ := Aside0.mk (Kd.S_lower (Kd.S_new' (Kd.S_new' ho0 (Kd.S_lt (by (with_reducible repeat (first | apply Kd.S_alloc | apply Kd.S_drewN | apply Kd.S_drew)); exact HO285.out))) (Kd.S_lt (by (with_reducible repeat (first | apply Kd.S_alloc | apply Kd.S_drewN | apply Kd.S_drew)); exact HO290.out))) (below_size (by repeat first | (with_reducible first | exact HB.out | apply XW.bN | apply XW.bD) | exact HB.out))); have n3_ := Aside0.mk (blk_below (g := gb277) (o := .cells #[.int .i64 a0_0, .int .i64 a0_1, .slice A0_2 l0_2.length c0_2] 24 (0, 0)) (by exact BK277.out) hb); have n4_ := Aside0.mk (blk_below (g := gb278) (o := .cells #[.int .i64 a1_0, .int .i64 a1_1, .slice A1_2 l1_2.length c1_2] 24 (0, 0)) (by exact BK278.out) hb); have n5_ := Aside0.mk (below_step (by repeat first | (with_reducible first | exact HB.out | apply XW.bN | apply XW.bD) | exact HB.out) hb); clear HO285; clear HO290; clear BK277; clear BK278; clear HB; have HO285 := n0_; have HO290 := n1_; have HO296 := n2_; have BK277 := n3_; have BK278 := n4_; have HB := n5_; clear n0_ n1_ n2_ n3_ n4_ n5_; (try clear hb); (try clear hb2); (try clear hk); (try clear hi); (try clear ho0)) | ((with_reducible refine gate_dst (N := 7) rfl ?_); refine box_event ?hg (N := 7) ?hd (cs := #[.int .i64 0, .int .i64 0, .slice none 0 0]) (t := 29) ?hr ?_; (case hd => rfl); (case hg => rfl); (case hr => first | (go_simp; done) | (go_simp; rfl)); intro gb297 hg w33 hbox hb; have n0_ := Aside0.mk (Kd.S_below (by (with_reducible repeat (first | apply Kd.S_alloc | apply Kd.S_drewN | apply Kd.S_drew)); exact HO285.out) hb); have n1_ := Aside0.mk (Kd.S_below (by (with_reducible repeat (first | apply Kd.S_alloc | apply Kd.S_drewN | apply Kd.S_drew)); exact HO290.out) hb); have n2_ := Aside0.mk (Kd.S_below (by (with_reducible repeat (first | apply Kd.S_alloc | apply Kd.S_drewN | apply Kd.S_drew)); exact HO296.out) hb); have n3_ := Aside0.mk (blk_below (g := gb277) (o := .cells #[.int .i64 a0_0, .int .i64 a0_1, .slice A0_2 l0_2.length c0_2] 24 (0, 0)) (by exact BK277.out) hb); have n4_ := Aside0.mk (blk_below (g := gb278) (o := .cells #[.int .i64 a1_0, .int .i64 a1_1, .slice A1_2 l1_2.length c1_2] 24 (0, 0)) (by exact BK278.out) hb); have n5_ := Aside0.mk (below_step (by repeat first | (with_reducible first | exact HB.out | apply XW.bN | apply XW.bD) | exact HB.out) hb); have n6_ := Aside0.mk (hbox); have n7_ := Aside0.mk ((by rw [hg]; exact (below_size (by repeat first | (with_reducible first | exact HB.out | apply XW.bN | apply XW.bD) | exact HB.out)) : w.heap.size ≤ gb297)); have n8_ := Aside0.mk ((by rw [hg]; exact (below_size (by repeat first | (with_reducible first | exact HB.out | apply XW.bN | apply XW.bD) | exact HB.out)) : w.heap.size ≤ gb297)); have n9_ := Aside0.mk ((by rw [hg]; exact Nat.ne_of_lt (blk_lt (g := gb277) (o := .cells #[.int .i64 a0_0, .int .i64 a0_1, .slice A0_2 l0_2.length c0_2] 24 (0, 0)) (by exact BK277.out)) : gb277 ≠ gb297)); have n10_ := Aside0.mk ((by rw [hg]; exact Nat.ne_of_gt (blk_lt (g := gb277) (o := .cells #[.int .i64 a0_0, .int .i64 a0_1, .slice A0_2 l0_2.length c0_2] 24 (0, 0)) (by exact BK277.out)) : gb297 ≠ gb277)); have n11_ := Aside0.mk ((by rw [hg]; exact Nat.ne_of_lt (blk_lt (g := gb278) (o := .cells #[.int .i64 a1_0, .int .i64 a1_1, .slice A1_2 l1_2.length c1_2] 24 (0, 0)) (by exact BK278.out)) : gb278 ≠ gb297)); have n12_ := Aside0.mk ((by rw [hg]; exact Nat.ne_of_gt (blk_lt (g := gb278) (o := .cells #[.int .i64 a1_0, .int .i64 a1_1, .slice A1_2 l1_2.length c1_2] 24 (0, 0)) (by exact BK278.out)) : gb297 ≠ gb278)); clear HO285; clear HO290; clear HO296; clear BK277; clear BK278; clear HB; have HO285 := n0_; have HO290 := n1_; have HO296 := n2_; have BK277 := n3_; have BK278 := n4_; have HB := n5_; have BK297 := n6_; have GW297 := n7_; have GE297 := n8_; have NB277_297 := n9_; have NB297_277 := n10_; have NB278_297 := n11_; have NB297_278 := n12_; clear n0_ n1_ n2_ n3_ n4_ n5_ n6_ n7_ n8_ n9_ n10_ n11_ n12_; clear hb hbox hg; have hnb34 := NB297_277.out; have hnc34 := NB277_297.out; have hnb35 := NB297_278.out; have hnc35 := NB278_297.out; have hcz36_0 : w33.cell? ⟨gb297, 0, none⟩ = some (.int .i64 0) := (blk_cell BK297.out 0).trans rfl; have hcz36_1 : w33.cell? ⟨gb297, 1, none⟩ = some (.int .i64 0) := (blk_cell BK297.out 1).trans rfl; have hcz36_2 : w33.cell? ⟨gb297, 2, none⟩ = some (.slice none 0 0) := (blk_cell BK297.out 2).trans rfl; have hfz36_0 := blk_frozen BK297.out 0; have hfz36_1 := blk_frozen BK297.out 1; have hfz36_2 := blk_frozen BK297.out 2; obtain ⟨Ao37, co37, eo37⟩ := Kd.S_slice HO296.out; subst eo37) | ((with_reducible refine gate_store (t := 29) (p := 7) rfl ?_); refine store_event (t := 29) (p := 7) (v := ?vo_w38) (w1 := (((w33.setCell ⟨gb297, 0, none⟩ (.int .i64 t292)).setCell ⟨gb297, 1, none⟩ (.int .i64 t293)).setCell ⟨gb297, 2, none⟩ (.slice Ao37 t294.length co37))) ?hg ?ho ?hn ?hr ?_; (case ho => rfl); (case hg => rfl); (case hn => rfl); (case hr => first | (go_simp; done) | (go_simp; rfl)); intro w38 hw; have n0_ : Aside0 (Kd.S k88 88 w38 w.heap.size (fun k_ => some k_ ≠ (.slice Ao28 t288.length co28 : Value).ownBlock ∧ some k_ ≠ (.slice Ao37 t294.length co37 : Value).ownBlock) (.slice Ao27 t283.length co27) t283) := ⟨(by rw [hw]; exact (by (with_reducible repeat (first | apply Kd.S_alloc | apply Kd.S_drewN | apply Kd.S_drew)); exact Kd.S_mono (Kd.S_far (p := ⟨gb297, 2, none⟩) (Kd.S_far (p := ⟨gb297, 1, none⟩) (Kd.S_far (p := ⟨gb297, 0, none⟩) (Kd.S_types HO285.out BK297.out (by decide)) (fun _ hk => hk.2) (.int .i64 t292)) (fun _ hk => hk.2) (.int .i64 t293)) (fun _ hk => hk.2) (.slice Ao37 t294.length co37)) (fun _ hk => ⟨hk.1.1.2, hk.1.2⟩)))⟩; have n1_ : Aside0 (Kd.S k88 88 w38 w.heap.size (fun k_ => some k_ ≠ (.slice Ao27 t283.length co27 : Value).ownBlock ∧ some k_ ≠ (.slice Ao37 t294.length co37 : Value).ownBlock) (.slice Ao28 t288.length co28) t288) := ⟨(by rw [hw]; exact (by (with_reducible repeat (first | apply Kd.S_alloc | apply Kd.S_drewN | apply Kd.S_drew)); exact Kd.S_mono (Kd.S_far (p := ⟨gb297, 2, none⟩) (Kd.S_far (p := ⟨gb297, 1, none⟩) (Kd.S_far (p := ⟨gb297, 0, none⟩) (Kd.S_types HO290.out BK297.out (by decide)) (fun _ hk => hk.2) (.int .i64 t292)) (fun _ hk => hk.2) (.int .i64 t293)) (fun _ hk => hk.2) (.slice Ao37 t294.length co37)) (fun _ hk => ⟨hk.1.1.2, hk.1.2⟩)))⟩; have n2_ : Aside0 (Kd.S k88 88 w38 w.heap.size (fun k_ => some k_ ≠ (.slice Ao27 t283.length co27 : Value).ownBlock ∧ some k_ ≠ (.slice Ao28 t288.length co28 : Value).ownBlock) (.slice Ao37 t294.length co37) t294) := ⟨(by rw [hw]; exact (by (with_reducible repeat (first | apply Kd.S_alloc | apply Kd.S_drewN | apply Kd.S_drew)); exact Kd.S_mono (Kd.S_far (p := ⟨gb297, 2, none⟩) (Kd.S_far (p := ⟨gb297, 1, none⟩) (Kd.S_far (p := ⟨gb297, 0, none⟩) (Kd.S_types HO296.out BK297.out (by decide)) (fun _ hk => hk.2) (.int .i64 t292)) (fun _ hk => hk.2) (.int .i64 t293)) (fun _ hk => hk.2) (.slice Ao37 t294.length co37)) (fun _ hk => ⟨hk.1.1.2, hk.1.2⟩)))⟩; have n3_ : Aside0 (w38.heap[gb277]? = some (.cells #[.int .i64 a0_0, .int .i64 a0_1, .slice A0_2 l0_2.length c0_2] 24 (0, 0))) := ⟨(by rw [hw]; exact (by (with_reducible repeat (first | refine blk_drewN ?_ _ | refine blk_drew ?_ | refine blk_alloc ?_ _)); refine blk_far ?_ NB277_297.out _; (with_reducible repeat (first | refine blk_drewN ?_ _ | refine blk_drew ?_ | refine blk_alloc ?_ _)); refine blk_far ?_ NB277_297.out _; (with_reducible repeat (first | refine blk_drewN ?_ _ | refine blk_drew ?_ | refine blk_alloc ?_ _)); refine blk_far ?_ NB277_297.out _; (with_reducible repeat (first | refine blk_drewN ?_ _ | refine blk_drew ?_ | refine blk_alloc ?_ _)); exact BK277.out))⟩; have n4_ : Aside0 (w38.heap[gb278]? = some (.cells #[.int .i64 a1_0, .int .i64 a1_1, .slice A1_2 l1_2.length c1_2] 24 (0, 0))) := ⟨(by rw [hw]; exact (by (with_reducible repeat (first | refine blk_drewN ?_ _ | refine blk_drew ?_ | refine blk_alloc ?_ _)); refine blk_far ?_ NB278_297.out _; (with_reducible repeat (first | refine blk_drewN ?_ _ | refine blk_drew ?_ | refine blk_alloc ?_ _)); refine blk_far ?_ NB278_297.out _; (with_reducible repeat (first | refine blk_drewN ?_ _ | refine blk_drew ?_ | refine blk_alloc ?_ _)); refine blk_far ?_ NB278_297.out _; (with_reducible repeat (first | refine blk_drewN ?_ _ | refine blk_drew ?_ | refine blk_alloc ?_ _)); exact BK278.out))⟩; have n5_ : Aside0 (w38.heap[gb297]? = some (.cells #[.int .i64 t292, .int .i64 t293, .slice Ao37 t294.length co37] 29 (0, 0))) := ⟨(by rw [hw]; exact (by (with_reducible repeat (first | refine blk_drewN ?_ _ | refine blk_drew ?_ | refine blk_alloc ?_ _)); refine blk_put (cs := #[.int .i64 t292, .int .i64 t293, .slice none 0 0]) ?_ 2 _ rfl; (with_reducible repeat (first | refine blk_drewN ?_ _ | refine blk_drew ?_ | refine blk_alloc ?_ _)); refine blk_put (cs := #[.int .i64 t292, .int .i64 0, .slice none 0 0]) ?_ 1 _ rfl; (with_reducible repeat (first | refine blk_drewN ?_ _ | refine blk_drew ?_ | refine blk_alloc ?_ _)); refine blk_put (cs := #[.int .i64 0, .int .i64 0, .slice none 0 0]) ?_ 0 _ rfl; (with_reducible repeat (first | refine blk_drewN ?_ _ | refine blk_drew ?_ | refine blk_alloc ?_ _)); exact BK297.out))⟩; have n6_ : Aside0 (Below w.heap.size w w38) := ⟨(by rw [hw]; exact (by repeat first | (with_reducible first | exact HB.out | apply XW.bN | apply XW.bD | refine below_set ?_ GE277.out | refine below_set ?_ GE278.out | refine below_set ?_ GE297.out) | exact HB.out))⟩; clear hw; clear HO285; clear HO290; clear HO296; clear BK277; clear BK278; clear BK297; clear HB; have HO285 := n0_; have HO290 := n1_; have HO296 := n2_; have BK277 := n3_; have BK278 := n4_; have BK297 := n5_; have HB := n6_; clear n0_ n1_ n2_ n3_ n4_ n5_ n6_; have hcz39_0 : w38.cell? ⟨gb278, 0, none⟩ = some (.int .i64 a1_0) := (blk_cell BK278.out 0).trans rfl; have hcz39_1 : w38.cell? ⟨gb278, 1, none⟩ = some (.int .i64 a1_1) := (blk_cell BK278.out 1).trans rfl; have hcz39_2 : w38.cell? ⟨gb278, 2, none⟩ = some (.slice A1_2 l1_2.length c1_2) := (blk_cell BK278.out 2).trans rfl; have hfz39_0 := blk_frozen BK278.out 0; have hfz39_1 := blk_frozen BK278.out 1; have hfz39_2 := blk_frozen BK278.out 2) | ((with_reducible refine gate_callee (f := 15) rfl ?_); refine goesL_ (some 28) rfl rfl Try.func15 (by kernel_rfl) rfl #[.agg #[.int .i64 a1_0, .int .i64 a1_1, .slice A1_2 l1_2.length c1_2]] rfl (by (try simp only [List.map_toArray, List.map_cons, List.map_nil]); first | done | rfl | (simp only [List.length_drop, List.length_take]; rfl)) ?_; (with_reducible refine (laws_toDoc.calls k a1_0 a1_1 _ _ l1_2 t298 t299 t300 _ ?side1 ?side2 A21.out).mono ?_); (case side1 => repeat (first | exact (Kd.C_below HR1_2.out HB.out) | (with_reducible first | refine Kd.C_alloc ?_ _ | refine Kd.C_drewN ?_ _ | refine Kd.C_drew ?_))); (case side2 => exact HC1_2.out); rintro e w40 ⟨v301, rfl, ho0, hb⟩; refine ⟨_, rfl, ?_⟩; have n0_ := Aside0.mk (Kd.S_elder' (by (with_reducible repeat (first | apply Kd.S_alloc | apply Kd.S_drewN | apply Kd.S_drew)); exact HO285.out) (Kd.S_base ho0) hb); have n1_ := Aside0.mk (Kd.S_elder' (by (with_reducible repeat (first | apply Kd.S_alloc | apply Kd.S_drewN | apply Kd.S_drew)); exact HO290.out) (Kd.S_base ho0) hb); have n2_ := Aside0.mk (Kd.S_elder' (by (with_reducible repeat (first | apply Kd.S_alloc | apply Kd.S_drewN | apply Kd.S_drew)); exact HO296.out) (Kd.S_base ho0) hb); have n3_ := Aside0.mk (Kd.S_lower (Kd.S_new' (Kd.S_new' (Kd.S_new' ho0 (Kd.S_lt (by (with_reducible repeat (first | apply Kd.S_alloc | apply Kd.S_drewN | apply Kd.S_drew)); exact HO285.out))) (Kd.S_lt (by (with_reducible repeat (first | apply Kd.S_alloc | apply Kd.S_drewN | apply Kd.S_drew)); exact HO290.out))) (Kd.S_lt (by (with_reducible repeat (first | apply Kd.S_alloc | apply Kd.S_drewN | apply Kd.S_drew)); exact HO296.out))) (below_size (by repeat first | (with_reducible first | exact HB.out | apply XW.bN | apply XW.bD) | exact HB.out))); have n4_ := Aside0.mk (blk_below (g := gb277) (o := .cells #[.int .i64 a0_0, .int .i64 a0_1, .slice A0_2 l0_2.length c0_2] 24 (0, 0)) (by exact BK277.out) hb); have n5_ := Aside0.mk (blk_below (g := gb278) (o := .cells #[.int .i64 a1_0, .int .i64 a1_1, .slice A1_2 l1_2.length c1_2] 24 (0, 0)) (by exact BK278.out) hb); have n6_ := Aside0.mk (blk_below (g := gb297) (o := .cells #[.int .i64 t292, .int .i64 t293, .slice Ao37 t294.length co37] 29 (0, 0)) (by exact BK297.out) hb); have n7_ := Aside0.mk (below_step (by repeat first | (with_reducible first | exact HB.out | apply XW.bN | apply XW.bD) | exact HB.out) hb); clear HO285; clear HO290; clear HO296; clear BK277; clear BK278; clear BK297; clear HB; have HO285 := n0_; have HO290 := n1_; have HO296 := n2_; have HO302 := n3_; have BK277 := n4_; have BK278 := n5_; have BK297 := n6_; have HB := n7_; clear n0_ n1_ n2_ n3_ n4_ n5_ n6_ n7_; (try clear hb); (try clear hb2); (try clear hk); (try clear hi); (try clear ho0)) | ((with_reducible refine gate_dst (N := 8) rfl ?_); refine box_event ?hg (N := 8) ?hd (cs := #[.int .i64 0, .int .i64 0, .slice none 0 0]) (t := 29) ?hr ?_; (case hd => rfl); (case hg => rfl); (case hr => first | (go_simp; done) | (go_simp; rfl)); intro gb303 hg w41 hbox hb; have n0_ := Aside0.mk (Kd.S_below (by (with_reducible repeat (first | apply Kd.S_alloc | apply Kd.S_drewN | apply Kd.S_drew)); exact HO285.out) hb); have n1_ := Aside0.mk (Kd.S_below (by (with_reducible repeat (first | apply Kd.S_alloc | apply Kd.S_drewN | apply Kd.S_drew)); exact HO290.out) hb); have n2_ := Aside0.mk (Kd.S_below (by (with_reducible repeat (first | apply Kd.S_alloc | apply Kd.S_drewN | apply Kd.S_drew)); exact HO296.out) hb); have n3_ := Aside0.mk (Kd.S_below (by (with_reducible repeat (first | apply Kd.S_alloc | apply Kd.S_drewN | apply Kd.S_drew)); exact HO302.out) hb); have n4_ := Aside0.mk (blk_below (g := gb277) (o := .cells #[.int .i64 a0_0, .int .i64 a0_1, .slice A0_2 l0_2.length c0_2] 24 (0, 0)) (by exact BK277.out) hb); have n5_ := Aside0.mk (blk_below (g := gb278) (o := .cells #[.int .i64 a1_0, .int .i64 a1_1, .slice A1_2 l1_2.length c1_2] 24 (0, 0)) (by exact BK278.out) hb); have n6_ := Aside0.mk (blk_below (g := gb297) (o := .cells #[.int .i64 t292, .int .i64 t293, .slice Ao37 t294.length co37] 29 (0, 0)) (by exact BK297.out) hb); have n7_ := Aside0.mk (below_step (by repeat first | (with_reducible first | exact HB.out | apply XW.bN | apply XW.bD) | exact HB.out) hb); have n8_ := Aside0.mk (hbox); have n9_ := Aside0.mk ((by rw [hg]; exact (below_size (by repeat first | (with_reducible first | exact HB.out | apply XW.bN | apply XW.bD) | exact HB.out)) : w.heap.size ≤ gb303)); have n10_ := Aside0.mk ((by rw [hg]; exact (below_size (by repeat first | (with_reducible first | exact HB.out | apply XW.bN | apply XW.bD) | exact HB.out)) : w.heap.size ≤ gb303)); have n11_ := Aside0.mk ((by rw [hg]; exact Nat.ne_of_lt (blk_lt (g := gb277) (o := .cells #[.int .i64 a0_0, .int .i64 a0_1, .slice A0_2 l0_2.length c0_2] 24 (0, 0)) (by exact BK277.out)) : gb277 ≠ gb303)); have n12_ := Aside0.mk ((by rw [hg]; exact Nat.ne_of_gt (blk_lt (g := gb277) (o := .cells #[.int .i64 a0_0, .int .i64 a0_1, .slice A0_2 l0_2.length c0_2] 24 (0, 0)) (by exact BK277.out)) : gb303 ≠ gb277)); have n13_ := Aside0.mk ((by rw [hg]; exact Nat.ne_of_lt (blk_lt (g := gb278) (o := .cells #[.int .i64 a1_0, .int .i64 a1_1, .slice A1_2 l1_2.length c1_2] 24 (0, 0)) (by exact BK278.out)) : gb278 ≠ gb303)); have n14_ := Aside0.mk ((by rw [hg]; exact Nat.ne_of_gt (blk_lt (g := gb278) (o := .cells #[.int .i64 a1_0, .int .i64 a1_1, .slice A1_2 l1_2.length c1_2] 24 (0, 0)) (by exact BK278.out)) : gb303 ≠ gb278)); have n15_ := Aside0.mk ((by rw [hg]; exact Nat.ne_of_lt (blk_lt (g := gb297) (o := .cells #[.int .i64 t292, .int .i64 t293, .slice Ao37 t294.length co37] 29 (0, 0)) (by exact BK297.out)) : gb297 ≠ gb303)); have n16_ := Aside0.mk ((by rw [hg]; exact Nat.ne_of_gt (blk_lt (g := gb297) (o := .cells #[.int .i64 t292, .int .i64 t293, .slice Ao37 t294.length co37] 29 (0, 0)) (by exact BK297.out)) : gb303 ≠ gb297)); clear HO285; clear HO290; clear HO296; clear HO302; clear BK277; clear BK278; clear BK297; clear HB; have HO285 := n0_; have HO290 := n1_; have HO296 := n2_; have HO302 := n3_; have BK277 := n4_; have BK278 := n5_; have BK297 := n6_; have HB := n7_; have BK303 := n8_; have GW303 := n9_; have GE303 := n10_; have NB277_303 := n11_; have NB303_277 := n12_; have NB278_303 := n13_; have NB303_278 := n14_; have NB297_303 := n15_; have NB303_297 := n16_; clear n0_ n1_ n2_ n3_ n4_ n5_ n6_ n7_ n8_ n9_ n10_ n11_ n12_ n13_ n14_ n15_ n16_; clear hb hbox hg; have hnb42 := NB303_277.out; have hnc42 := NB277_303.out; have hnb43 := NB303_278.out; have hnc43 := NB278_303.out; have hnb44 := NB303_297.out; have hnc44 := NB297_303.out; have hcz45_0 : w41.cell? ⟨gb303, 0, none⟩ = some (.int .i64 0) := (blk_cell BK303.out 0).trans rfl; have hcz45_1 : w41.cell? ⟨gb303, 1, none⟩ = some (.int .i64 0) := (blk_cell BK303.out 1).trans rfl; have hcz45_2 : w41.cell? ⟨gb303, 2, none⟩ = some (.slice none 0 0) := (blk_cell BK303.out 2).trans rfl; have hfz45_0 := blk_frozen BK303.out 0; have hfz45_1 := blk_frozen BK303.out 1; have hfz45_2 := blk_frozen BK303.out 2; obtain ⟨Ao46, co46, eo46⟩ := Kd.S_slice HO302.out; subst eo46) | ((with_reducible refine gate_store (t := 29) (p := 8) rfl ?_); refine store_event (t := 29) (p := 8) (v := ?vo_w47) (w1 := (((w41.setCell ⟨gb303, 0, none⟩ (.int .i64 t298)).setCell ⟨gb303, 1, none⟩ (.int .i64 t299)).setCell ⟨gb303, 2, none⟩ (.slice Ao46 t300.length co46))) ?hg ?ho ?hn ?hr ?_; (case ho => rfl); (case hg => rfl); (case hn => rfl); (case hr => first | (go_simp; done) | (go_simp; rfl)); intro w47 hw; have n0_ : Aside0 (Kd.S k88 88 w47 w.heap.size (fun k_ => some k_ ≠ (.slice Ao28 t288.length co28 : Value).ownBlock ∧ some k_ ≠ (.slice Ao37 t294.length co37 : Value).ownBlock ∧ some k_ ≠ (.slice Ao46 t300.length co46 : Value).ownBlock) (.slice Ao27 t283.length co27) t283) := ⟨(by rw [hw]; exact (by (with_reducible repeat (first | apply Kd.S_alloc | apply Kd.S_drewN | apply Kd.S_drew)); exact Kd.S_mono (Kd.S_far (p := ⟨gb303, 2, none⟩) (Kd.S_far (p := ⟨gb303, 1, none⟩) (Kd.S_far (p := ⟨gb303, 0, none⟩) (Kd.S_types HO285.out BK303.out (by decide)) (fun _ hk => hk.2) (.int .i64 t298)) (fun _ hk => hk.2) (.int .i64 t299)) (fun _ hk => hk.2) (.slice Ao46 t300.length co46)) (fun _ hk => ⟨hk.1.1.1, ⟨hk.1.1.2, hk.1.2⟩⟩)))⟩; have n1_ : Aside0 (Kd.S k88 88 w47 w.heap.size (fun k_ => some k_ ≠ (.slice Ao27 t283.length co27 : Value).ownBlock ∧ some k_ ≠ (.slice Ao37 t294.length co37 : Value).ownBlock ∧ some k_ ≠ (.slice Ao46 t300.length co46 : Value).ownBlock) (.slice Ao28 t288.length co28) t288) := ⟨(by rw [hw]; exact (by (with_reducible repeat (first | apply Kd.S_alloc | apply Kd.S_drewN | apply Kd.S_drew)); exact Kd.S_mono (Kd.S_far (p := ⟨gb303, 2, none⟩) (Kd.S_far (p := ⟨gb303, 1, none⟩) (Kd.S_far (p := ⟨gb303, 0, none⟩) (Kd.S_types HO290.out BK303.out (by decide)) (fun _ hk => hk.2) (.int .i64 t298)) (fun _ hk => hk.2) (.int .i64 t299)) (fun _ hk => hk.2) (.slice Ao46 t300.length co46)) (fun _ hk => ⟨hk.1.1.1, ⟨hk.1.1.2, hk.1.2⟩⟩)))⟩; have n2_ : Aside0 (Kd.S k88 88 w47 w.heap.size (fun k_ => some k_ ≠ (.slice Ao27 t283.length co27 : Value).ownBlock ∧ some k_ ≠ (.slice Ao28 t288.length co28 : Value).ownBlock ∧ some k_ ≠ (.slice Ao46 t300.length co46 : Value).ownBlock) (.slice Ao37 t294.length co37) t294) := ⟨(by rw [hw]; exact (by (with_reducible repeat (first | apply Kd.S_alloc | apply Kd.S_drewN | apply Kd.S_drew)); exact Kd.S_mono (Kd.S_far (p := ⟨gb303, 2, none⟩) (Kd.S_far (p := ⟨gb303, 1, none⟩) (Kd.S_far (p := ⟨gb303, 0, none⟩) (Kd.S_types HO296.out BK303.out (by decide)) (fun _ hk => hk.2) (.int .i64 t298)) (fun _ hk => hk.2) (.int .i64 t299)) (fun _ hk => hk.2) (.slice Ao46 t300.length co46)) (fun _ hk => ⟨hk.1.1.1, ⟨hk.1.1.2, hk.1.2⟩⟩)))⟩; have n3_ : Aside0 (Kd.S k88 88 w47 w.heap.size (fun k_ => some k_ ≠ (.slice Ao27 t283.length co27 : Value).ownBlock ∧ some k_ ≠ (.slice Ao28 t288.length co28 : Value).ownBlock ∧ some k_ ≠ (.slice Ao37 t294.length co37 : Value).ownBlock) (.slice Ao46 t300.length co46) t300) := ⟨(by rw [hw]; exact (by (with_reducible repeat (first | apply Kd.S_alloc | apply Kd.S_drewN | apply Kd.S_drew)); exact Kd.S_mono (Kd.S_far (p := ⟨gb303, 2, none⟩) (Kd.S_far (p := ⟨gb303, 1, none⟩) (Kd.S_far (p := ⟨gb303, 0, none⟩) (Kd.S_types HO302.out BK303.out (by decide)) (fun _ hk => hk.2) (.int .i64 t298)) (fun _ hk => hk.2) (.int .i64 t299)) (fun _ hk => hk.2) (.slice Ao46 t300.length co46)) (fun _ hk => ⟨hk.1.1.1.2, ⟨hk.1.1.2, hk.1.2⟩⟩)))⟩; have n4_ : Aside0 (w47.heap[gb277]? = some (.cells #[.int .i64 a0_0, .int .i64 a0_1, .slice A0_2 l0_2.length c0_2] 24 (0, 0))) := ⟨(by rw [hw]; exact (by (with_reducible repeat (first | refine blk_drewN ?_ _ | refine blk_drew ?_ | refine blk_alloc ?_ _)); refine blk_far ?_ NB277_303.out _; (with_reducible repeat (first | refine blk_drewN ?_ _ | refine blk_drew ?_ | refine blk_alloc ?_ _)); refine blk_far ?_ NB277_303.out _; (with_reducible repeat (first | refine blk_drewN ?_ _ | refine blk_drew ?_ | refine blk_alloc ?_ _)); refine blk_far ?_ NB277_303.out _; (with_reducible repeat (first | refine blk_drewN ?_ _ | refine blk_drew ?_ | refine blk_alloc ?_ _)); exact BK277.out))⟩; have n5_ : Aside0 (w47.heap[gb278]? = some (.cells #[.int .i64 a1_0, .int .i64 a1_1, .slice A1_2 l1_2.length c1_2] 24 (0, 0))) := ⟨(by rw [hw]; exact (by (with_reducible repeat (first | refine blk_drewN ?_ _ | refine blk_drew ?_ | refine blk_alloc ?_ _)); refine blk_far ?_ NB278_303.out _; (with_reducible repeat (first | refine blk_drewN ?_ _ | refine blk_drew ?_ | refine blk_alloc ?_ _)); refine blk_far ?_ NB278_303.out _; (with_reducible repeat (first | refine blk_drewN ?_ _ | refine blk_drew ?_ | refine blk_alloc ?_ _)); refine blk_far ?_ NB278_303.out _; (with_reducible repeat (first | refine blk_drewN ?_ _ | refine blk_drew ?_ | refine blk_alloc ?_ _)); exact BK278.out))⟩; have n6_ : Aside0 (w47.heap[gb297]? = some (.cells #[.int .i64 t292, .int .i64 t293, .slice Ao37 t294.length co37] 29 (0, 0))) := ⟨(by rw [hw]; exact (by (with_reducible repeat (first | refine blk_drewN ?_ _ | refine blk_drew ?_ | refine blk_alloc ?_ _)); refine blk_far ?_ NB297_303.out _; (with_reducible repeat (first | refine blk_drewN ?_ _ | refine blk_drew ?_ | refine blk_alloc ?_ _)); refine blk_far ?_ NB297_303.out _; (with_reducible repeat (first | refine blk_drewN ?_ _ | refine blk_drew ?_ | refine blk_alloc ?_ _)); refine blk_far ?_ NB297_303.out _; (with_reducible repeat (first | refine blk_drewN ?_ _ | refine blk_drew ?_ | refine blk_alloc ?_ _)); exact BK297.out))⟩; have n7_ : Aside0 (w47.heap[gb303]? = some (.cells #[.int .i64 t298, .int .i64 t299, .slice Ao46 t300.length co46] 29 (0, 0))) := ⟨(by rw [hw]; exact (by (with_reducible repeat (first | refine blk_drewN ?_ _ | refine blk_drew ?_ | refine blk_alloc ?_ _)); refine blk_put (cs := #[.int .i64 t298, .int .i64 t299, .slice none 0 0]) ?_ 2 _ rfl; (with_reducible repeat (first | refine blk_drewN ?_ _ | refine blk_drew ?_ | refine blk_alloc ?_ _)); refine blk_put (cs := #[.int .i64 t298, .int .i64 0, .slice none 0 0]) ?_ 1 _ rfl; (with_reducible repeat (first | refine blk_drewN ?_ _ | refine blk_drew ?_ | refine blk_alloc ?_ _)); refine blk_put (cs := #[.int .i64 0, .int .i64 0, .slice none 0 0]) ?_ 0 _ rfl; (with_reducible repeat (first | refine blk_drewN ?_ _ | refine blk_drew ?_ | refine blk_alloc ?_ _)); exact BK303.out))⟩; have n8_ : Aside0 (Below w.heap.size w w47) := ⟨(by rw [hw]; exact (by repeat first | (with_reducible first | exact HB.out | apply XW.bN | apply XW.bD | refine below_set ?_ GE277.out | refine below_set ?_ GE278.out | refine below_set ?_ GE297.out | refine below_set ?_ GE303.out) | exact HB.out))⟩; clear hw; clear HO285; clear HO290; clear HO296; clear HO302; clear BK277; clear BK278; clear BK297; clear BK303; clear HB; have HO285 := n0_; have HO290 := n1_; have HO296 := n2_; have HO302 := n3_; have BK277 := n4_; have BK278 := n5_; have BK297 := n6_; have BK303 := n7_; have HB := n8_; clear n0_ n1_ n2_ n3_ n4_ n5_ n6_ n7_ n8_; have hcz48_0 : w47.cell? ⟨gb297, 0, none⟩ = some (.int .i64 t292) := (blk_cell BK297.out 0).trans rfl; have hcz48_1 : w47.cell? ⟨gb297, 1, none⟩ = some (.int .i64 t293) := (blk_cell BK297.out 1).trans rfl; have hcz48_2 : w47.cell? ⟨gb297, 2, none⟩ = some (.slice Ao37 t294.length co37) := (blk_cell BK297.out 2).trans rfl; have hfz48_0 := blk_frozen BK297.out 0; have hfz48_1 := blk_frozen BK297.out 1; have hfz48_2 := blk_frozen BK297.out 2; have hcz49_0 : w47.cell? ⟨gb303, 0, none⟩ = some (.int .i64 t298) := (blk_cell BK303.out 0).trans rfl; have hcz49_1 : w47.cell? ⟨gb303, 1, none⟩ = some (.int .i64 t299) := (blk_cell BK303.out 1).trans rfl; have hcz49_2 : w47.cell? ⟨gb303, 2, none⟩ = some (.slice Ao46 t300.length co46) := (blk_cell BK303.out 2).trans rfl; have hfz49_0 := blk_frozen BK303.out 0; have hfz49_1 := blk_frozen BK303.out 1; have hfz49_2 := blk_frozen BK303.out 2) | ((with_reducible refine gate_callee (f := 19) rfl ?_); refine goesL_ (some 31) rfl rfl Try.func19 (by kernel_rfl) rfl #[.agg #[.int .i64 t292, .int .i64 t293, .slice Ao37 t294.length co37], .agg #[.int .i64 t298, .int .i64 t299, .slice Ao46 t300.length co46]] rfl (by (try simp only [List.map_toArray, List.map_cons, List.map_nil]); first | done | rfl | (simp only [List.length_drop, List.length_take]; rfl)) ?_; (with_reducible refine (impl_SameDoc.calls k t292 t293 _ _ t294 t298 t299 _ _ t300 t304 _ ?side1 ?side2 ?side3 ?side4 A22.out).mono ?_); (case side1 => repeat (first | exact (Kd.S_reads' HO296.out).2.2 | (with_reducible first | refine Kd.C_alloc ?_ _ | refine Kd.C_drewN ?_ _ | refine Kd.C_drew ?_))); (case side2 => exact (Kd.S_reads' HO296.out).2.1); (case side3 => repeat (first | exact (Kd.S_reads' HO302.out).2.2 | (with_reducible first | refine Kd.C_alloc ?_ _ | refine Kd.C_drewN ?_ _ | refine Kd.C_drew ?_))); (case side4 => exact (Kd.S_reads' HO302.out).2.1); rintro e w50 ⟨rfl, hb⟩; refine ⟨_, rfl, ?_⟩; have n0_ := Aside0.mk (Kd.S_below (by (with_reducible repeat (first | apply Kd.S_alloc | apply Kd.S_drewN | apply Kd.S_drew)); exact HO285.out) hb); have n1_ := Aside0.mk (Kd.S_below (by (with_reducible repeat (first | apply Kd.S_alloc | apply Kd.S_drewN | apply Kd.S_drew)); exact HO290.out) hb); have n2_ := Aside0.mk (Kd.S_below (by (with_reducible repeat (first | apply Kd.S_alloc | apply Kd.S_drewN | apply Kd.S_drew)); exact HO296.out) hb); have n3_ := Aside0.mk (Kd.S_below (by (with_reducible repeat (first | apply Kd.S_alloc | apply Kd.S_drewN | apply Kd.S_drew)); exact HO302.out) hb); have n4_ := Aside0.mk (blk_below (g := gb277) (o := .cells #[.int .i64 a0_0, .int .i64 a0_1, .slice A0_2 l0_2.length c0_2] 24 (0, 0)) (by exact BK277.out) hb); have n5_ := Aside0.mk (blk_below (g := gb278) (o := .cells #[.int .i64 a1_0, .int .i64 a1_1, .slice A1_2 l1_2.length c1_2] 24 (0, 0)) (by exact BK278.out) hb); have n6_ := Aside0.mk (blk_below (g := gb297) (o := .cells #[.int .i64 t292, .int .i64 t293, .slice Ao37 t294.length co37] 29 (0, 0)) (by exact BK297.out) hb); have n7_ := Aside0.mk (blk_below (g := gb303) (o := .cells #[.int .i64 t298, .int .i64 t299, .slice Ao46 t300.length co46] 29 (0, 0)) (by exact BK303.out) hb); have n8_ := Aside0.mk (below_step (by repeat first | (with_reducible first | exact HB.out | apply XW.bN | apply XW.bD) | exact HB.out) hb); clear HO285; clear HO290; clear HO296; clear HO302; clear BK277; clear BK278; clear BK297; clear BK303; clear HB; have HO285 := n0_; have HO290 := n1_; have HO296 := n2_; have HO302 := n3_; have BK277 := n4_; have BK278 := n5_; have BK297 := n6_; have BK303 := n7_; have HB := n8_; clear n0_ n1_ n2_ n3_ n4_ n5_ n6_ n7_ n8_; (try clear hb); (try clear hb2); (try clear hk); (try clear hi)))
   have H := HC23.out
   clear HC23
   by_cases c51 : (t304 != t291) = true
   ·rw [if_pos c51] at H
    have c51b0 : (t304 != t291) = true := c51
    (try (have c51b1 : decide (t304 = t291) = false := by simpa using c51))
    (try (have c51b2 : (t304 == t291) = false := by simpa using c51))
    (try (have c51b3 : ¬ (t304 = t291) := by simpa using c51))
    (try (have c51b4 : ((!t304) == t291) = true := by revert c51; cases t304 <;> cases t291 <;> simp))
    clear c51
    (first | rw [c51b0] | (simp only [i64_w, i32_w]; rw [c51b0]) | simp only [c51b2, Bool.not_true, Bool.not_false] | skip)
    cases H
   ·rw [if_neg c51] at H
    have c51b0 : (t304 != t291) = false := by simpa using c51
    (try (have c51b1 : decide (t304 = t291) = true := by simpa using c51))
    (try (have c51b2 : (t304 == t291) = true := by simpa using c51))
    (try (have c51b3 : ((!t304) == t291) = false := by revert c51; cases t304 <;> cases t291 <;> simp))
    clear c51
    (first | rw [c51b0] | (simp only [i64_w, i32_w]; rw [c51b0]) | simp only [c51b2, Bool.not_true, Bool.not_false] | skip)
    replace H := Option.bind_eq_some_iff.mp H
    obtain ⟨⟨t305, t306, t307⟩, A520, H⟩ := H
    replace H : ((laws_eqDoc.f k t292 t293 t294 t305 t306 t307).bind fun t310 => (if t310 = true then ((laws_toDoc.f k a1_0 a1_1 l1_2).bind fun bt311 => ((laws_eqDoc.f k t298 t299 t300 bt311.1 bt311.2.1 bt311.2.2).bind fun t316 => (if t316 = true then (some true) else (some false)))) else (some false))) = some true := H
    have A52 := Aside0.mk A520
    clear A520
    replace H := Option.bind_eq_some_iff.mp H
    obtain ⟨t310, A530, H⟩ := H
    replace H : (if t310 = true then ((laws_toDoc.f k a1_0 a1_1 l1_2).bind fun bt311 => ((laws_eqDoc.f k t298 t299 t300 bt311.1 bt311.2.1 bt311.2.2).bind fun t316 => (if t316 = true then (some true) else (some false)))) else (some false)) = some true := H
    have A53 := Aside0.mk A530
    clear A530
    have HC54 := Aside0.mk H
    clear H
    try go_wp2_with (fail)
    have n0_ := Aside0.mk (Kd.S_drew HO285.out)
    have n1_ := Aside0.mk (Kd.S_drew HO290.out)
    have n2_ := Aside0.mk (Kd.S_drew HO296.out)
    have n3_ := Aside0.mk (Kd.S_drew HO302.out)
    have n4_ := Aside0.mk (blk_drew BK277.out)
    have n5_ := Aside0.mk (blk_drew BK278.out)
    have n6_ := Aside0.mk (blk_drew BK297.out)
    have n7_ := Aside0.mk (blk_drew BK303.out)
    have n8_ := Aside0.mk (below_drew1 HB.out)
    clear HO285
    clear HO290
    clear HO296
    clear HO302
    clear BK277
    clear BK278
    clear BK297
    clear BK303
    clear HB
    have HO285 := n0_
    have HO290 := n1_
    have HO296 := n2_
    have HO302 := n3_
    have BK277 := n4_
    have BK278 := n5_
    have BK297 := n6_
    have BK303 := n7_
    have HB := n8_
    clear n0_ n1_ n2_ n3_ n4_ n5_ n6_ n7_ n8_
    refine start_ (n := 5) (S := fun w' => w'.cell? ⟨gb297, 0, none⟩ = some (.int .i64 t292) ∧ w'.cell? ⟨gb297, 1, none⟩ = some (.int .i64 t293) ∧ w'.cell? ⟨gb297, 2, none⟩ = some (.slice Ao37 t294.length co37) ∧ w'.cell? ⟨gb277, 0, none⟩ = some (.int .i64 a0_0) ∧ w'.cell? ⟨gb277, 1, none⟩ = some (.int .i64 a0_1) ∧ w'.cell? ⟨gb277, 2, none⟩ = some (.slice A0_2 l0_2.length c0_2)) (ds := []) #[false, false, false, false, false] (by kernel_rfl) rfl rfl ⟨(blk_cell BK297.out 0).trans rfl, (blk_cell BK297.out 1).trans rfl, (blk_cell BK297.out 2).trans rfl, (blk_cell BK277.out 0).trans rfl, (blk_cell BK277.out 1).trans rfl, (blk_cell BK277.out 2).trans rfl⟩ (fun hHeld => ?_)
    generalize w50.drew = w55 at HO285 HO290 HO296 HO302 BK277 BK278 BK297 BK303 HB hHeld ⊢
    refine take_ (i := 0) (N := some 35) (v := ?_) (a' := ?_) #[true, false, false, false, false] rfl rfl (by kernel_rfl) (fun _ _ _ h => h) (Or.inl ⟨by rfl, ?_⟩) hHeld ?_ ?_
    rotate_left
    ·rintro w' ⟨s0, s1, s2, s3, s4, s5⟩
     go_simp
     with_reducible rfl
    rotate_left
    ·simp only [XW.q0, XW.q1, XW.q2, i64_w, i32_w]
     rfl
    refine take_ (i := 1) (N := some 36) (v := ?_) (a' := ?_) #[true, true, false, false, false] rfl rfl (by kernel_rfl) (fun _ _ _ h => h) (Or.inl ⟨by rfl, ?_⟩) hHeld ?_ ?_
    rotate_left
    ·rintro w' ⟨s0, s1, s2, s3, s4, s5⟩
     go_simp
     with_reducible rfl
    rotate_left
    ·simp only [XW.q0, XW.q1, XW.q2, i64_w, i32_w]
     rfl
    refine one_ (i := 2) (N := some 37) #[true, true, true, false, false] rfl rfl (by kernel_rfl) (by decide) (fun K hK => ?_)
    refine goes_ Try.func15 (by kernel_rfl) rfl #[.agg #[.int .i64 a0_0, .int .i64 a0_1, .slice A0_2 l0_2.length c0_2]] (by rfl) rfl rfl (by (try simp only [List.map_toArray, List.map_cons, List.map_nil]); first | done | rfl | (simp only [List.length_drop, List.length_take]; rfl)) ?_
    with_reducible refine (laws_toDoc.calls k a0_0 a0_1 _ _ l0_2 t305 t306 t307 _ ?side1 ?side2 A52.out).mono ?_
    (case side1 => repeat (first | exact (Kd.C_below HR0_2.out HB.out) | (with_reducible first | refine Kd.C_alloc ?_ _ | refine Kd.C_drewN ?_ _ | refine Kd.C_drew ?_)))
    (case side2 => exact HC0_2.out)
    rintro e w56 ⟨v308, rfl, ho0, hb⟩
    refine ⟨_, rfl, ?_⟩
    have n0_ := Aside0.mk (Kd.S_elder' (by (with_reducible repeat (first | apply Kd.S_alloc | apply Kd.S_drewN | apply Kd.S_drew)); exact HO285.out) (Kd.S_base ho0) hb)
    have n1_ := Aside0.mk (Kd.S_elder' (by (with_reducible repeat (first | apply Kd.S_alloc | apply Kd.S_drewN | apply Kd.S_drew)); exact HO290.out) (Kd.S_base ho0) hb)
    have n2_ := Aside0.mk (Kd.S_elder' (by (with_reducible repeat (first | apply Kd.S_alloc | apply Kd.S_drewN | apply Kd.S_drew)); exact HO296.out) (Kd.S_base ho0) hb)
    have n3_ := Aside0.mk (Kd.S_elder' (by (with_reducible repeat (first | apply Kd.S_alloc | apply Kd.S_drewN | apply Kd.S_drew)); exact HO302.out) (Kd.S_base ho0) hb)
    have n4_ := Aside0.mk (Kd.S_lower (Kd.S_new' (Kd.S_new' (Kd.S_new' (Kd.S_new' ho0 (Kd.S_lt (by (with_reducible repeat (first | apply Kd.S_alloc | apply Kd.S_drewN | apply Kd.S_drew)); exact HO285.out))) (Kd.S_lt (by (with_reducible repeat (first | apply Kd.S_alloc | apply Kd.S_drewN | apply Kd.S_drew)); exact HO290.out))) (Kd.S_lt (by (with_reducible repeat (first | apply Kd.S_alloc | apply Kd.S_drewN | apply Kd.S_drew)); exact HO296.out))) (Kd.S_lt (by (with_reducible repeat (first | apply Kd.S_alloc | apply Kd.S_drewN | apply Kd.S_drew)); exact HO302.out))) (below_size (by repeat first | (with_reducible first | exact HB.out | apply XW.bN | apply XW.bD) | exact HB.out)))
    have n5_ := Aside0.mk (blk_below (g := gb277) (o := .cells #[.int .i64 a0_0, .int .i64 a0_1, .slice A0_2 l0_2.length c0_2] 24 (0, 0)) (by exact BK277.out) hb)
    have n6_ := Aside0.mk (blk_below (g := gb278) (o := .cells #[.int .i64 a1_0, .int .i64 a1_1, .slice A1_2 l1_2.length c1_2] 24 (0, 0)) (by exact BK278.out) hb)
    have n7_ := Aside0.mk (blk_below (g := gb297) (o := .cells #[.int .i64 t292, .int .i64 t293, .slice Ao37 t294.length co37] 29 (0, 0)) (by exact BK297.out) hb)
    have n8_ := Aside0.mk (blk_below (g := gb303) (o := .cells #[.int .i64 t298, .int .i64 t299, .slice Ao46 t300.length co46] 29 (0, 0)) (by exact BK303.out) hb)
    have n9_ := Aside0.mk (below_step (by repeat first | (with_reducible first | exact HB.out | apply XW.bN | apply XW.bD) | exact HB.out) hb)
    clear HO285
    clear HO290
    clear HO296
    clear HO302
    clear BK277
    clear BK278
    clear BK297
    clear BK303
    clear HB
    have HO285 := n0_
    have HO290 := n1_
    have HO296 := n2_
    have HO302 := n3_
    have HO309 := n4_
    have BK277 := n5_
    have BK278 := n6_
    have BK297 := n7_
    have BK303 := n8_
    have HB := n9_
    clear n0_ n1_ n2_ n3_ n4_ n5_ n6_ n7_ n8_ n9_
    (try clear hb)
    (try clear hb2)
    (try clear hk)
    (try clear hi)
    (try clear ho0)
    obtain ⟨Ao57, co57, eo57⟩ := Kd.S_slice HO309.out
    (first | subst eo57 | (injection eo57 with f1_ f2_ f3_; have f4_ := f1_.symm; have f5_ := f3_.symm; clear f1_ f2_ f3_; subst f4_; subst f5_))
    refine hK.out _ _ ⟨(blk_cell BK297.out 0).trans rfl, (blk_cell BK297.out 1).trans rfl, (blk_cell BK297.out 2).trans rfl, (blk_cell BK277.out 0).trans rfl, (blk_cell BK277.out 1).trans rfl, (blk_cell BK277.out 2).trans rfl⟩ (fun hHeld => ?_)
    clear hK K
    refine norm_ (a' := ?_) ?_ ?_
    rotate_left
    ·show Act.put _ (some 37) _ = _
     simp only [XW.q0, XW.q1, XW.q2, i64_w, i32_w]
     rfl
    refine one_ (i := 3) (N := some 38) #[true, true, true, true, false] rfl rfl (by kernel_rfl) (by decide) (fun K hK => ?_)
    refine goes_ Try.func17 (by kernel_rfl) rfl #[.agg #[.int .i64 t292, .int .i64 t293, .slice Ao37 t294.length co37], .agg #[.int .i64 t305, .int .i64 t306, .slice Ao57 t307.length co57]] (by rfl) rfl rfl (by (try simp only [List.map_toArray, List.map_cons, List.map_nil]); first | done | rfl | (simp only [List.length_drop, List.length_take]; rfl)) ?_
    with_reducible refine (laws_eqDoc.calls k t292 t293 _ _ t294 t305 t306 _ _ t307 t310 _ ?side1 ?side2 ?side3 ?side4 A53.out).mono ?_
    (case side1 => repeat (first | exact (Kd.S_reads' HO296.out).2.2 | (with_reducible first | refine Kd.C_alloc ?_ _ | refine Kd.C_drewN ?_ _ | refine Kd.C_drew ?_)))
    (case side2 => exact (Kd.S_reads' HO296.out).2.1)
    (case side3 => repeat (first | exact (Kd.S_reads' HO309.out).2.2 | (with_reducible first | refine Kd.C_alloc ?_ _ | refine Kd.C_drewN ?_ _ | refine Kd.C_drew ?_)))
    (case side4 => exact (Kd.S_reads' HO309.out).2.1)
    rintro e w58 ⟨rfl, hb⟩
    refine ⟨_, rfl, ?_⟩
    have n0_ := Aside0.mk (Kd.S_below (by (with_reducible repeat (first | apply Kd.S_alloc | apply Kd.S_drewN | apply Kd.S_drew)); exact HO285.out) hb)
    have n1_ := Aside0.mk (Kd.S_below (by (with_reducible repeat (first | apply Kd.S_alloc | apply Kd.S_drewN | apply Kd.S_drew)); exact HO290.out) hb)
    have n2_ := Aside0.mk (Kd.S_below (by (with_reducible repeat (first | apply Kd.S_alloc | apply Kd.S_drewN | apply Kd.S_drew)); exact HO296.out) hb)
    have n3_ := Aside0.mk (Kd.S_below (by (with_reducible repeat (first | apply Kd.S_alloc | apply Kd.S_drewN | apply Kd.S_drew)); exact HO302.out) hb)
    have n4_ := Aside0.mk (Kd.S_below (by (with_reducible repeat (first | apply Kd.S_alloc | apply Kd.S_drewN | apply Kd.S_drew)); exact HO309.out) hb)
    have n5_ := Aside0.mk (blk_below (g := gb277) (o := .cells #[.int .i64 a0_0, .int .i64 a0_1, .slice A0_2 l0_2.length c0_2] 24 (0, 0)) (by exact BK277.out) hb)
    have n6_ := Aside0.mk (blk_below (g := gb278) (o := .cells #[.int .i64 a1_0, .int .i64 a1_1, .slice A1_2 l1_2.length c1_2] 24 (0, 0)) (by exact BK278.out) hb)
    have n7_ := Aside0.mk (blk_below (g := gb297) (o := .cells #[.int .i64 t292, .int .i64 t293, .slice Ao37 t294.length co37] 29 (0, 0)) (by exact BK297.out) hb)
    have n8_ := Aside0.mk (blk_below (g := gb303) (o := .cells #[.int .i64 t298, .int .i64 t299, .slice Ao46 t300.length co46] 29 (0, 0)) (by exact BK303.out) hb)
    have n9_ := Aside0.mk (below_step (by repeat first | (with_reducible first | exact HB.out | apply XW.bN | apply XW.bD) | exact HB.out) hb)
    clear HO285
    clear HO290
    clear HO296
    clear HO302
    clear HO309
    clear BK277
    clear BK278
    clear BK297
    clear BK303
    clear HB
    have HO285 := n0_
    have HO290 := n1_
    have HO296 := n2_
    have HO302 := n3_
    have HO309 := n4_
    have BK277 := n5_
    have BK278 := n6_
    have BK297 := n7_
    have BK303 := n8_
    have HB := n9_
    clear n0_ n1_ n2_ n3_ n4_ n5_ n6_ n7_ n8_ n9_
    (try clear hb)
    (try clear hb2)
    (try clear hk)
    (try clear hi)
    refine hK.out _ _ ⟨(blk_cell BK297.out 0).trans rfl, (blk_cell BK297.out 1).trans rfl, (blk_cell BK297.out 2).trans rfl, (blk_cell BK277.out 0).trans rfl, (blk_cell BK277.out 1).trans rfl, (blk_cell BK277.out 2).trans rfl⟩ (fun hHeld => ?_)
    clear hK K
    refine norm_ (a' := ?_) ?_ ?_
    rotate_left
    ·show Act.put _ (some 38) _ = _
     simp only [XW.q0, XW.q1, XW.q2, i64_w, i32_w]
     rfl
    refine pure_ (i := 4) (N := some 39) (v := ?_) (a' := ?_) #[true, true, true, true, true] rfl rfl (by kernel_rfl) (fun _ _ _ h => h) (Or.inl ⟨by rfl, ?_⟩) ?_ ?_
    rotate_left
    ·intro w'
     go_simp
     with_reducible rfl
    rotate_left
    ·simp only [XW.q0, XW.q1, XW.q2, i64_w, i32_w]
     rfl
    refine done_ (by kernel_rfl) ?_
    go_upto_if 39 with (fail)
    have H := HC54.out
    clear HC54
    by_cases c59 : t310 = true
    ·subst c59
     have H1 : ((laws_toDoc.f k a1_0 a1_1 l1_2).bind fun bt311 => ((laws_eqDoc.f k t298 t299 t300 bt311.1 bt311.2.1 bt311.2.2).bind fun t316 => (if t316 = true then (some true) else (some false)))) = some true := by first | (rw [if_pos rfl] at H; exact H) | rfl
     clear H
     have H := H1
     clear H1
     replace H := Option.bind_eq_some_iff.mp H
     obtain ⟨⟨t311, t312, t313⟩, A600, H⟩ := H
     replace H : ((laws_eqDoc.f k t298 t299 t300 t311 t312 t313).bind fun t316 => (if t316 = true then (some true) else (some false))) = some true := H
     have A60 := Aside0.mk A600
     clear A600
     replace H := Option.bind_eq_some_iff.mp H
     obtain ⟨t316, A610, H⟩ := H
     replace H : (if t316 = true then (some true) else (some false)) = some true := H
     have A61 := Aside0.mk A610
     clear A610
     have HC62 := Aside0.mk H
     clear H
     try go_wp2_with (fail)
     have n0_ := Aside0.mk (Kd.S_drew HO285.out)
     have n1_ := Aside0.mk (Kd.S_drew HO290.out)
     have n2_ := Aside0.mk (Kd.S_drew HO296.out)
     have n3_ := Aside0.mk (Kd.S_drew HO302.out)
     have n4_ := Aside0.mk (Kd.S_drew HO309.out)
     have n5_ := Aside0.mk (blk_drew BK277.out)
     have n6_ := Aside0.mk (blk_drew BK278.out)
     have n7_ := Aside0.mk (blk_drew BK297.out)
     have n8_ := Aside0.mk (blk_drew BK303.out)
     have n9_ := Aside0.mk (below_drew1 HB.out)
     clear HO285
     clear HO290
     clear HO296
     clear HO302
     clear HO309
     clear BK277
     clear BK278
     clear BK297
     clear BK303
     clear HB
     have HO285 := n0_
     have HO290 := n1_
     have HO296 := n2_
     have HO302 := n3_
     have HO309 := n4_
     have BK277 := n5_
     have BK278 := n6_
     have BK297 := n7_
     have BK303 := n8_
     have HB := n9_
     clear n0_ n1_ n2_ n3_ n4_ n5_ n6_ n7_ n8_ n9_
     refine start_ (n := 5) (S := fun w' => w'.cell? ⟨gb303, 0, none⟩ = some (.int .i64 t298) ∧ w'.cell? ⟨gb303, 1, none⟩ = some (.int .i64 t299) ∧ w'.cell? ⟨gb303, 2, none⟩ = some (.slice Ao46 t300.length co46) ∧ w'.cell? ⟨gb278, 0, none⟩ = some (.int .i64 a1_0) ∧ w'.cell? ⟨gb278, 1, none⟩ = some (.int .i64 a1_1) ∧ w'.cell? ⟨gb278, 2, none⟩ = some (.slice A1_2 l1_2.length c1_2)) (ds := []) #[false, false, false, false, false] (by kernel_rfl) rfl rfl ⟨(blk_cell BK303.out 0).trans rfl, (blk_cell BK303.out 1).trans rfl, (blk_cell BK303.out 2).trans rfl, (blk_cell BK278.out 0).trans rfl, (blk_cell BK278.out 1).trans rfl, (blk_cell BK278.out 2).trans rfl⟩ (fun hHeld => ?_)
     generalize w58.drew = w63 at HO285 HO290 HO296 HO302 HO309 BK277 BK278 BK297 BK303 HB hHeld ⊢
     refine take_ (i := 0) (N := some 40) (v := ?_) (a' := ?_) #[true, false, false, false, false] rfl rfl (by kernel_rfl) (fun _ _ _ h => h) (Or.inl ⟨by rfl, ?_⟩) hHeld ?_ ?_
     rotate_left
     ·rintro w' ⟨s0, s1, s2, s3, s4, s5⟩
      go_simp
      with_reducible rfl
     rotate_left
     ·simp only [XW.q0, XW.q1, XW.q2, i64_w, i32_w]
      rfl
     refine take_ (i := 1) (N := some 41) (v := ?_) (a' := ?_) #[true, true, false, false, false] rfl rfl (by kernel_rfl) (fun _ _ _ h => h) (Or.inl ⟨by rfl, ?_⟩) hHeld ?_ ?_
     rotate_left
     ·rintro w' ⟨s0, s1, s2, s3, s4, s5⟩
      go_simp
      with_reducible rfl
     rotate_left
     ·simp only [XW.q0, XW.q1, XW.q2, i64_w, i32_w]
      rfl
     refine one_ (i := 2) (N := some 42) #[true, true, true, false, false] rfl rfl (by kernel_rfl) (by decide) (fun K hK => ?_)
     refine goes_ Try.func15 (by kernel_rfl) rfl #[.agg #[.int .i64 a1_0, .int .i64 a1_1, .slice A1_2 l1_2.length c1_2]] (by rfl) rfl rfl (by (try simp only [List.map_toArray, List.map_cons, List.map_nil]); first | done | rfl | (simp only [List.length_drop, List.length_take]; rfl)) ?_
     with_reducible refine (laws_toDoc.calls k a1_0 a1_1 _ _ l1_2 t311 t312 t313 _ ?side1 ?side2 A60.out).mono ?_
     (case side1 => repeat (first | exact (Kd.C_below HR1_2.out HB.out) | (with_reducible first | refine Kd.C_alloc ?_ _ | refine Kd.C_drewN ?_ _ | refine Kd.C_drew ?_)))
     (case side2 => exact HC1_2.out)
     rintro e w64 ⟨v314, rfl, ho0, hb⟩
     refine ⟨_, rfl, ?_⟩
     have n0_ := Aside0.mk (Kd.S_elder' (by (with_reducible repeat (first | apply Kd.S_alloc | apply Kd.S_drewN | apply Kd.S_drew)); exact HO285.out) (Kd.S_base ho0) hb)
     have n1_ := Aside0.mk (Kd.S_elder' (by (with_reducible repeat (first | apply Kd.S_alloc | apply Kd.S_drewN | apply Kd.S_drew)); exact HO290.out) (Kd.S_base ho0) hb)
     have n2_ := Aside0.mk (Kd.S_elder' (by (with_reducible repeat (first | apply Kd.S_alloc | apply Kd.S_drewN | apply Kd.S_drew)); exact HO296.out) (Kd.S_base ho0) hb)
     have n3_ := Aside0.mk (Kd.S_elder' (by (with_reducible repeat (first | apply Kd.S_alloc | apply Kd.S_drewN | apply Kd.S_drew)); exact HO302.out) (Kd.S_base ho0) hb)
     have n4_ := Aside0.mk (Kd.S_elder' (by (with_reducible repeat (first | apply Kd.S_alloc | apply Kd.S_drewN | apply Kd.S_drew)); exact HO309.out) (Kd.S_base ho0) hb)
     have n5_ := Aside0.mk (Kd.S_lower (Kd.S_new' (Kd.S_new' (Kd.S_new' (Kd.S_new' (Kd.S_new' ho0 (Kd.S_lt (by (with_reducible repeat (first | apply Kd.S_alloc | apply Kd.S_drewN | apply Kd.S_drew)); exact HO285.out))) (Kd.S_lt (by (with_reducible repeat (first | apply Kd.S_alloc | apply Kd.S_drewN | apply Kd.S_drew)); exact HO290.out))) (Kd.S_lt (by (with_reducible repeat (first | apply Kd.S_alloc | apply Kd.S_drewN | apply Kd.S_drew)); exact HO296.out))) (Kd.S_lt (by (with_reducible repeat (first | apply Kd.S_alloc | apply Kd.S_drewN | apply Kd.S_drew)); exact HO302.out))) (Kd.S_lt (by (with_reducible repeat (first | apply Kd.S_alloc | apply Kd.S_drewN | apply Kd.S_drew)); exact HO309.out))) (below_size (by repeat first | (with_reducible first | exact HB.out | apply XW.bN | apply XW.bD) | exact HB.out)))
     have n6_ := Aside0.mk (blk_below (g := gb277) (o := .cells #[.int .i64 a0_0, .int .i64 a0_1, .slice A0_2 l0_2.length c0_2] 24 (0, 0)) (by exact BK277.out) hb)
     have n7_ := Aside0.mk (blk_below (g := gb278) (o := .cells #[.int .i64 a1_0, .int .i64 a1_1, .slice A1_2 l1_2.length c1_2] 24 (0, 0)) (by exact BK278.out) hb)
     have n8_ := Aside0.mk (blk_below (g := gb297) (o := .cells #[.int .i64 t292, .int .i64 t293, .slice Ao37 t294.length co37] 29 (0, 0)) (by exact BK297.out) hb)
     have n9_ := Aside0.mk (blk_below (g := gb303) (o := .cells #[.int .i64 t298, .int .i64 t299, .slice Ao46 t300.length co46] 29 (0, 0)) (by exact BK303.out) hb)
     have n10_ := Aside0.mk (below_step (by repeat first | (with_reducible first | exact HB.out | apply XW.bN | apply XW.bD) | exact HB.out) hb)
     clear HO285
     clear HO290
     clear HO296
     clear HO302
     clear HO309
     clear BK277
     clear BK278
     clear BK297
     clear BK303
     clear HB
     have HO285 := n0_
     have HO290 := n1_
     have HO296 := n2_
     have HO302 := n3_
     have HO309 := n4_
     have HO315 := n5_
     have BK277 := n6_
     have BK278 := n7_
     have BK297 := n8_
     have BK303 := n9_
     have HB := n10_
     clear n0_ n1_ n2_ n3_ n4_ n5_ n6_ n7_ n8_ n9_ n10_
     (try clear hb)
     (try clear hb2)
     (try clear hk)
     (try clear hi)
     (try clear ho0)
     obtain ⟨Ao65, co65, eo65⟩ := Kd.S_slice HO315.out
     (first | subst eo65 | (injection eo65 with f1_ f2_ f3_; have f4_ := f1_.symm; have f5_ := f3_.symm; clear f1_ f2_ f3_; subst f4_; subst f5_))
     refine hK.out _ _ ⟨(blk_cell BK303.out 0).trans rfl, (blk_cell BK303.out 1).trans rfl, (blk_cell BK303.out 2).trans rfl, (blk_cell BK278.out 0).trans rfl, (blk_cell BK278.out 1).trans rfl, (blk_cell BK278.out 2).trans rfl⟩ (fun hHeld => ?_)
     clear hK K
     refine norm_ (a' := ?_) ?_ ?_
     rotate_left
     ·show Act.put _ (some 42) _ = _
      simp only [XW.q0, XW.q1, XW.q2, i64_w, i32_w]
      rfl
     refine one_ (i := 3) (N := some 43) #[true, true, true, true, false] rfl rfl (by kernel_rfl) (by decide) (fun K hK => ?_)
     refine goes_ Try.func17 (by kernel_rfl) rfl #[.agg #[.int .i64 t298, .int .i64 t299, .slice Ao46 t300.length co46], .agg #[.int .i64 t311, .int .i64 t312, .slice Ao65 t313.length co65]] (by rfl) rfl rfl (by (try simp only [List.map_toArray, List.map_cons, List.map_nil]); first | done | rfl | (simp only [List.length_drop, List.length_take]; rfl)) ?_
     with_reducible refine (laws_eqDoc.calls k t298 t299 _ _ t300 t311 t312 _ _ t313 t316 _ ?side1 ?side2 ?side3 ?side4 A61.out).mono ?_
     (case side1 => repeat (first | exact (Kd.S_reads' HO302.out).2.2 | (with_reducible first | refine Kd.C_alloc ?_ _ | refine Kd.C_drewN ?_ _ | refine Kd.C_drew ?_)))
     (case side2 => exact (Kd.S_reads' HO302.out).2.1)
     (case side3 => repeat (first | exact (Kd.S_reads' HO315.out).2.2 | (with_reducible first | refine Kd.C_alloc ?_ _ | refine Kd.C_drewN ?_ _ | refine Kd.C_drew ?_)))
     (case side4 => exact (Kd.S_reads' HO315.out).2.1)
     rintro e w66 ⟨rfl, hb⟩
     refine ⟨_, rfl, ?_⟩
     have n0_ := Aside0.mk (Kd.S_below (by (with_reducible repeat (first | apply Kd.S_alloc | apply Kd.S_drewN | apply Kd.S_drew)); exact HO285.out) hb)
     have n1_ := Aside0.mk (Kd.S_below (by (with_reducible repeat (first | apply Kd.S_alloc | apply Kd.S_drewN | apply Kd.S_drew)); exact HO290.out) hb)
     have n2_ := Aside0.mk (Kd.S_below (by (with_reducible repeat (first | apply Kd.S_alloc | apply Kd.S_drewN | apply Kd.S_drew)); exact HO296.out) hb)
     have n3_ := Aside0.mk (Kd.S_below (by (with_reducible repeat (first | apply Kd.S_alloc | apply Kd.S_drewN | apply Kd.S_drew)); exact HO302.out) hb)
     have n4_ := Aside0.mk (Kd.S_below (by (with_reducible repeat (first | apply Kd.S_alloc | apply Kd.S_drewN | apply Kd.S_drew)); exact HO309.out) hb)
     have n5_ := Aside0.mk (Kd.S_below (by (with_reducible repeat (first | apply Kd.S_alloc | apply Kd.S_drewN | apply Kd.S_drew)); exact HO315.out) hb)
     have n6_ := Aside0.mk (blk_below (g := gb277) (o := .cells #[.int .i64 a0_0, .int .i64 a0_1, .slice A0_2 l0_2.length c0_2] 24 (0, 0)) (by exact BK277.out) hb)
     have n7_ := Aside0.mk (blk_below (g := gb278) (o := .cells #[.int .i64 a1_0, .int .i64 a1_1, .slice A1_2 l1_2.length c1_2] 24 (0, 0)) (by exact BK278.out) hb)
     have n8_ := Aside0.mk (blk_below (g := gb297) (o := .cells #[.int .i64 t292, .int .i64 t293, .slice Ao37 t294.length co37] 29 (0, 0)) (by exact BK297.out) hb)
     have n9_ := Aside0.mk (blk_below (g := gb303) (o := .cells #[.int .i64 t298, .int .i64 t299, .slice Ao46 t300.length co46] 29 (0, 0)) (by exact BK303.out) hb)
     have n10_ := Aside0.mk (below_step (by repeat first | (with_reducible first | exact HB.out | apply XW.bN | apply XW.bD) | exact HB.out) hb)
     clear HO285
     clear HO290
     clear HO296
     clear HO302
     clear HO309
     clear HO315
     clear BK277
     clear BK278
     clear BK297
     clear BK303
     clear HB
     have HO285 := n0_
     have HO290 := n1_
     have HO296 := n2_
     have HO302 := n3_
     have HO309 := n4_
     have HO315 := n5_
     have BK277 := n6_
     have BK278 := n7_
     have BK297 := n8_
     have BK303 := n9_
     have HB := n10_
     clear n0_ n1_ n2_ n3_ n4_ n5_ n6_ n7_ n8_ n9_ n10_
     (try clear hb)
     (try clear hb2)
     (try clear hk)
     (try clear hi)
     refine hK.out _ _ ⟨(blk_cell BK303.out 0).trans rfl, (blk_cell BK303.out 1).trans rfl, (blk_cell BK303.out 2).trans rfl, (blk_cell BK278.out 0).trans rfl, (blk_cell BK278.out 1).trans rfl, (blk_cell BK278.out 2).trans rfl⟩ (fun hHeld => ?_)
     clear hK K
     refine norm_ (a' := ?_) ?_ ?_
     rotate_left
     ·show Act.put _ (some 43) _ = _
      simp only [XW.q0, XW.q1, XW.q2, i64_w, i32_w]
      rfl
     refine pure_ (i := 4) (N := some 44) (v := ?_) (a' := ?_) #[true, true, true, true, true] rfl rfl (by kernel_rfl) (fun _ _ _ h => h) (Or.inl ⟨by rfl, ?_⟩) ?_ ?_
     rotate_left
     ·intro w'
      go_simp
      with_reducible rfl
     rotate_left
     ·simp only [XW.q0, XW.q1, XW.q2, i64_w, i32_w]
      rfl
     refine done_ (by kernel_rfl) ?_
     go_upto_if 44 with (fail)
     have H := HC62.out
     clear HC62
     by_cases c67 : t316 = true
     ·subst c67
      have H1 : (some true) = some true := by first | (rw [if_pos rfl] at H; exact H) | rfl
      clear H
      have H := H1
      clear H1
      go_wp2
      go_ret
      exact ⟨by first | rfl | (simp [errW_none, errW_some] <;> rfl) | (simp [*, errW_none, errW_some] <;> rfl), by repeat first | (with_reducible first | exact HB.out | apply XW.bN | apply XW.bD) | exact HB.out⟩
     ·replace c67 := Bool.eq_false_iff.mpr c67
      subst c67
      have H1 : (some false) = some true := by first | (rw [if_neg (show ¬ (false = true) by decide)] at H; exact H) | rfl
      clear H
      have H := H1
      clear H1
      cases H
    ·replace c59 := Bool.eq_false_iff.mpr c59
     subst c59
     have H1 : (some false) = some true := by first | (rw [if_neg (show ¬ (false = true) by decide)] at H; exact H) | rfl
     clear H
     have H := H1
     clear H1
     cases H

end Go.Proofs.Ytfemohapampkiaa.XA
