/- The law FnExactFirstKids, walked: what has to come to what, and that the law then says true. Written by hlaw.py (a program of this session's). Conditions: the premises. -/
import Derived.Test.YthkbgbkglgmpoaaYFirstKids1
import Derived.Test.YthkbgbkglgmpoaaYFirstKids2
import Derived.Test.YthkbgbkglgmpoaaYFirstKids3
import Derived.Test.YthkbgbkglgmpoaaYFirstKids4
import Derived.Test.YthkbgbkglgmpoaaYFirstKids5
import Derived.Test.YthkbgbkglgmpoaaYFirstKidsMarkMachine
import Derived.Test.YthkbgbkglgmpoaaHL
namespace Go.Proofs.Ythkbgbkglgmpoaa.XA
open Go.RowKit Go.Proofs.YthkbgbkglgmpoaaW.PrintWords Go.Proofs.YthkbgbkglgmpoaaW.PrintLast Go.Proofs.YthkbgbkglgmpoaaW.PrintMore
set_option linter.unusedVariables false
set_option linter.unusedSimpArgs false
def laws_FnExactFirstKids.P (k : Nat) (l0_0 : List (List Int)) (l0_1 : List Bool) : Prop := ∃ v0 : Int, laws_szMachine.f k l0_0 l0_1 1048576 = some v0 ∧ (v0 < 0 ∨ 0 ≤ v0 ∧ ∃ (x0 : List (List Int)) (x1 : List Bool) (r0 : List Int) (r1 : Int) (n0 : Int) (n1 : List (List Int)) (n2 : List Bool) (n3 : Int) (n4 : List Int), laws_toMachine.f k l0_0 l0_1 = some (x0, x1) ∧ spec_FirstKids.f k x0 x1 = some (r0, r1) ∧ impl_FirstKids.f k x0 x1 = some (r0, r1) ∧ laws_eqIntS.f k r0 r0 = some true ∧ laws_eqMachine.f k x0 x1 x0 x1 = some true ∧ laws_markMachine.f k x0 x1 1 = some (n0, n1, n2) ∧ laws_markIntS.f k r0 1 = some (n3, n4) ∧ laws_heldIntS.f k n4 1 = some n3 ∧ 0 ≤ n0 ∧ 0 ≤ n3)
set_option maxHeartbeats 8000000 in
set_option maxRecDepth 100000 in
theorem laws_FnExactFirstKids.calls (k : Nat) (A0_0 : Option Addr) (c0_0 : Nat) (l0_0 : List (List Int)) (A0_1 : Option Addr) (c0_1 : Nat) (l0_1 : List Bool) (r : Bool) (w : World) (hr_ : r = true) (hr0_0 : Kd.C (Kd.slice 3 (Kd.int .i64)) w A0_0 l0_0.length l0_0) (hc0_0 : l0_0.length ≤ c0_0) (hr0_1 : Kd.C Kd.bool w A0_1 l0_1.length l0_1) (hc0_1 : l0_1.length ≤ c0_1) (h : laws_FnExactFirstKids.P k l0_0 l0_1) :
    Calls Try.prog 4 #[.agg #[.slice A0_0 l0_0.length c0_0, .slice A0_1 l0_1.length c0_1]] w fun e w' => e = .returned (.bool r) ∧ Below w.heap.size w w' := by
  subst hr_
  unfold laws_FnExactFirstKids.P at h
  have HB := Aside0.mk (Below.refl w.heap.size w)
  obtain ⟨z0, hz0⟩ : ∃ z_, z_ = w.heap.size := ⟨_, rfl⟩
  have HZ := Aside0.mk (Nat.le_of_eq hz0)
  have HZ0 := Aside0.mk (Nat.le_of_eq hz0.symm)
  clear hz0
  have HC0_0 := Aside0.mk hr0_0
  clear hr0_0
  have HC0_1 := Aside0.mk hr0_1
  clear hr0_1
  obtain ⟨v0, he_, h⟩ := h
  have HE0 := Aside0.mk he_
  clear he_
  rcases h with hv0 | ⟨hv0, h⟩
  · skip
    go_enter Try.func4, Try.ntmps4
    go_wp2_with (first
      | ((with_reducible refine gate_dst (N := 1) rfl ?_); refine XW.Xbox 1 #[.slice A0_0 l0_0.length c0_0, .slice A0_1 l0_1.length c0_1] 37 ?_; intro g1 hg w1 hbox hb; obtain ⟨z1, hz1⟩ : ∃ z_, z_ = w1.heap.size := ⟨_, rfl⟩; have Oz1 := Aside0.mk (show z0 ≤ z1 from by have h1_ := HZ.out; have h2_ := hb.size; omega); have HG1 := Aside0.mk (show z0 ≤ g1 ∧ g1 < z1 from by have h1_ := HZ.out; have h2_ := blk_lt hbox; omega); have BK1 := Aside0.mk hbox; replace HB := Aside0.mk (below_step HB.out hb); replace HZ := Aside0.mk (Nat.le_of_eq hz1); clear hb hbox hg hz1; obtain ⟨hx1_0, hx1_1⟩ := XW.Xc2 BK1)
      | ((with_reducible refine gate_callee (f := 17) rfl ?_); refine XW.Xgo 16 Try.func17 #[.agg #[.slice A0_0 l0_0.length c0_0, .slice A0_1 l0_1.length c0_1], .int .i64 1048576] ?_; (with_reducible refine (laws_szMachine.calls k A0_0 c0_0 l0_0 A0_1 c0_1 l0_1 1048576 v0 _ (XW.Xc HC0_0) hc0_0 (XW.Xc HC0_1) hc0_1 HE0.out).mono ?_); rintro e w2 ⟨rfl, hb⟩; refine ⟨_, rfl, ?_⟩; replace BK1 := Aside0.mk (blk_below BK1.out hb); replace HB := Aside0.mk (below_step HB.out hb); replace HZ := Aside0.mk (Nat.le_trans HZ.out hb.size); clear hb; (try clear hx1_0 hx1_1); obtain ⟨hx1_0, hx1_1⟩ := XW.Xc2 BK1))
    go_ret
    exact ⟨by first | rfl | (simp; done) | (simp [*]; done), HB.out⟩
  · skip
    obtain ⟨x0, x1, r0, r1, n0, n1, n2, n3, n4, q0_, q1_, q2_, q3_, q4_, q5_, q6_, q7_, q8_, q9_⟩ := h
    have HE1 := Aside0.mk q0_
    clear q0_
    have HE2 := Aside0.mk q1_
    clear q1_
    have HE3 := Aside0.mk q2_
    clear q2_
    have HE4 := Aside0.mk q3_
    clear q3_
    have HE5 := Aside0.mk q4_
    clear q4_
    have HE6 := Aside0.mk q5_
    clear q5_
    have HE7 := Aside0.mk q6_
    clear q6_
    have HE8 := Aside0.mk q7_
    clear q7_
    go_enter Try.func4, Try.ntmps4
    go_upto_region 10 with (first
      | ((with_reducible refine gate_dst (N := 1) rfl ?_); refine XW.Xbox 1 #[.slice A0_0 l0_0.length c0_0, .slice A0_1 l0_1.length c0_1] 37 ?_; intro g1 hg w1 hbox hb; obtain ⟨z1, hz1⟩ : ∃ z_, z_ = w1.heap.size := ⟨_, rfl⟩; have Oz1 := Aside0.mk (show z0 ≤ z1 from by have h1_ := HZ.out; have h2_ := hb.size; omega); have HG1 := Aside0.mk (show z0 ≤ g1 ∧ g1 < z1 from by have h1_ := HZ.out; have h2_ := blk_lt hbox; omega); have BK1 := Aside0.mk hbox; replace HB := Aside0.mk (below_step HB.out hb); replace HZ := Aside0.mk (Nat.le_of_eq hz1); clear hb hbox hg hz1; obtain ⟨hx1_0, hx1_1⟩ := XW.Xc2 BK1)
      | ((with_reducible refine gate_callee (f := 17) rfl ?_); refine XW.Xgo 16 Try.func17 #[.agg #[.slice A0_0 l0_0.length c0_0, .slice A0_1 l0_1.length c0_1], .int .i64 1048576] ?_; (with_reducible refine (laws_szMachine.calls k A0_0 c0_0 l0_0 A0_1 c0_1 l0_1 1048576 v0 _ (XW.Xc HC0_0) hc0_0 (XW.Xc HC0_1) hc0_1 HE0.out).mono ?_); rintro e w2 ⟨rfl, hb⟩; refine ⟨_, rfl, ?_⟩; replace BK1 := Aside0.mk (blk_below BK1.out hb); replace HB := Aside0.mk (below_step HB.out hb); replace HZ := Aside0.mk (Nat.le_trans HZ.out hb.size); clear hb; (try clear hx1_0 hx1_1); obtain ⟨hx1_0, hx1_1⟩ := XW.Xc2 BK1)
      | ((with_reducible refine gate_callee (f := 19) rfl ?_); refine XW.Xgo 21 Try.func19 #[.agg #[.slice A0_0 l0_0.length c0_0, .slice A0_1 l0_1.length c0_1]] ?_; (with_reducible refine (laws_toMachine.calls k A0_0 c0_0 l0_0 A0_1 c0_1 l0_1 x0 x1 _ (XW.Xc HC0_0) hc0_0 (XW.Xc HC0_1) hc0_1 HE1.out).mono ?_); rintro e w3 ⟨v3_0, v3_1, rfl, hf0, hf1, hb⟩; refine ⟨_, rfl, ?_⟩; replace BK1 := Aside0.mk (blk_below BK1.out hb); obtain ⟨z2, hz2⟩ : ∃ z_, z_ = w3.heap.size := ⟨_, rfl⟩; have Oz2 := Aside0.mk (show z1 ≤ z2 from by have h1_ := HZ.out; have h2_ := hb.size; omega); have F3_0 := Aside0.mk (HL.S_new hf0 HZ.out (below_size HB.out) hz2); have F3_1 := Aside0.mk (HL.R_new hf1 HZ.out (below_size HB.out) hz2); replace HB := Aside0.mk (below_step HB.out hb); replace HZ := Aside0.mk (Nat.le_of_eq hz2); clear hb; clear hf0 hf1 hz2; obtain ⟨A3_0, c3_0, e_⟩ := Kd.S_slice F3_0.out; subst e_; obtain ⟨A3_1, c3_1, e_⟩ := Kd.R_slice F3_1.out; subst e_; (try clear hx1_0 hx1_1); obtain ⟨hx1_0, hx1_1⟩ := XW.Xc2 BK1)
      | ((with_reducible refine gate_callee (f := 18) rfl ?_); refine XW.Xgo 22 Try.func18 #[.agg #[.slice A3_0 x0.length c3_0, .slice A3_1 x1.length c3_1]] ?_; (with_reducible refine (spec_FirstKids.calls k A3_0 c3_0 x0 A3_1 c3_1 x1 r0 r1 _ (Kd.S_reads' F3_0.out).2.2 (Kd.S_reads' F3_0.out).2.1 (Kd.R_reads' F3_1.out).2.2 (Kd.R_reads' F3_1.out).2.1 HE2.out).mono ?_); rintro e w4 ⟨v4_0, rfl, hf0, hb⟩; refine ⟨_, rfl, ?_⟩; replace BK1 := Aside0.mk (blk_below BK1.out hb); obtain ⟨z3, hz3⟩ : ∃ z_, z_ = w4.heap.size := ⟨_, rfl⟩; have Oz3 := Aside0.mk (show z2 ≤ z3 from by have h1_ := HZ.out; have h2_ := hb.size; omega); have F4_0 := Aside0.mk (HL.R_new hf0 HZ.out (below_size HB.out) hz3); replace HB := Aside0.mk (below_step HB.out hb); replace HZ := Aside0.mk (Nat.le_of_eq hz3); clear hb; clear hf0 hz3; obtain ⟨A4_0, c4_0, e_⟩ := Kd.R_slice F4_0.out; subst e_; clear F3_0 F3_1; (try clear hx1_0 hx1_1); obtain ⟨hx1_0, hx1_1⟩ := XW.Xc2 BK1)
      | ((with_reducible refine gate_callee (f := 19) rfl ?_); refine XW.Xgo 26 Try.func19 #[.agg #[.slice A0_0 l0_0.length c0_0, .slice A0_1 l0_1.length c0_1]] ?_; (with_reducible refine (laws_toMachine.calls k A0_0 c0_0 l0_0 A0_1 c0_1 l0_1 x0 x1 _ (XW.Xc HC0_0) hc0_0 (XW.Xc HC0_1) hc0_1 HE1.out).mono ?_); rintro e w5 ⟨v5_0, v5_1, rfl, hf0, hf1, hb⟩; refine ⟨_, rfl, ?_⟩; replace F4_0 := Aside0.mk (Kd.R_below F4_0.out hb); replace BK1 := Aside0.mk (blk_below BK1.out hb); obtain ⟨z4, hz4⟩ : ∃ z_, z_ = w5.heap.size := ⟨_, rfl⟩; have Oz4 := Aside0.mk (show z3 ≤ z4 from by have h1_ := HZ.out; have h2_ := hb.size; omega); have F5_0 := Aside0.mk (HL.S_new hf0 HZ.out (below_size HB.out) hz4); have F5_1 := Aside0.mk (HL.R_new hf1 HZ.out (below_size HB.out) hz4); replace HB := Aside0.mk (below_step HB.out hb); replace HZ := Aside0.mk (Nat.le_of_eq hz4); clear hb; clear hf0 hf1 hz4; obtain ⟨A5_0, c5_0, e_⟩ := Kd.S_slice F5_0.out; subst e_; obtain ⟨A5_1, c5_1, e_⟩ := Kd.R_slice F5_1.out; subst e_; (try clear hx1_0 hx1_1); obtain ⟨hx1_0, hx1_1⟩ := XW.Xc2 BK1)
      | ((with_reducible refine gate_dst (N := 6) rfl ?_); refine XW.Xbox 6 #[.slice none 0 0, .slice none 0 0] 27 ?_; intro g6 hg w6 hbox hb; replace F4_0 := Aside0.mk (Kd.R_below F4_0.out hb); replace F5_0 := Aside0.mk (Kd.S_below F5_0.out hb); replace F5_1 := Aside0.mk (Kd.R_below F5_1.out hb); replace BK1 := Aside0.mk (blk_below BK1.out hb); obtain ⟨z5, hz5⟩ : ∃ z_, z_ = w6.heap.size := ⟨_, rfl⟩; have Oz5 := Aside0.mk (show z4 ≤ z5 from by have h1_ := HZ.out; have h2_ := hb.size; omega); have HG6 := Aside0.mk (show z4 ≤ g6 ∧ g6 < z5 from by have h1_ := HZ.out; have h2_ := blk_lt hbox; omega); have BK6 := Aside0.mk hbox; replace HB := Aside0.mk (below_step HB.out hb); replace HZ := Aside0.mk (Nat.le_of_eq hz5); clear hb hbox hg hz5; (try clear hx1_0 hx1_1); obtain ⟨hx1_0, hx1_1⟩ := XW.Xc2 BK1; obtain ⟨hx6_0, hx6_1⟩ := XW.Xc2 BK6; obtain ⟨hz6_0, hz6_1⟩ := XW.Xf2 BK6)
      | ((with_reducible refine gate_store (t := 27) (p := 6) rfl ?_); refine store_event (t := 27) (p := 6) (v := ?vo_w7) (w1 := w6.setCells g6 0 [.slice A5_0 x0.length c5_0, .slice A5_1 x1.length c5_1]) ?hg ?ho ?hn ?hr ?_; (case ho => rfl); (case hg => rfl); (case hn => rfl); (case hr => first | (go_simp; done) | (go_simp; rfl)); intro w7 hw; obtain ⟨hbk, hk, hbl⟩ := HL.filled2 hw BK6.out; replace F4_0 := Aside0.mk (Kd.R_kept F4_0.out hk (fun k_ h1_ hs_ => by have a2_ := HG6.out; have oz1_ := Oz1.out; have oz2_ := Oz2.out; have oz3_ := Oz3.out; have oz4_ := Oz4.out; have oz5_ := Oz5.out; omega)); replace F5_0 := Aside0.mk (Kd.S_kept F5_0.out hk (fun k_ h1_ hs_ => by have a2_ := HG6.out; have oz1_ := Oz1.out; have oz2_ := Oz2.out; have oz3_ := Oz3.out; have oz4_ := Oz4.out; have oz5_ := Oz5.out; omega)); replace F5_1 := Aside0.mk (Kd.R_kept F5_1.out hk (fun k_ h1_ hs_ => by have a2_ := HG6.out; have oz1_ := Oz1.out; have oz2_ := Oz2.out; have oz3_ := Oz3.out; have oz4_ := Oz4.out; have oz5_ := Oz5.out; omega)); replace BK1 := Aside0.mk (blk_kept BK1.out hk (fun hs_ => by have e_ : g1 = g6 := hs_; have a1_ := HG1.out; have a2_ := HG6.out; have oz1_ := Oz1.out; have oz2_ := Oz2.out; have oz3_ := Oz3.out; have oz4_ := Oz4.out; have oz5_ := Oz5.out; omega)); replace BK6 := Aside0.mk hbk; replace HB := Aside0.mk (hbl w HB.out (by have a1_ := HG6.out; have a2_ := HZ0.out; have oz1_ := Oz1.out; have oz2_ := Oz2.out; have oz3_ := Oz3.out; have oz4_ := Oz4.out; have oz5_ := Oz5.out; omega)); replace HZ := Aside0.mk (Nat.le_trans HZ.out hk.1); clear hbk hk hbl hw hx6_0 hx6_1 hz6_0 hz6_1; (try clear hx1_0 hx1_1); (try clear hx6_0 hx6_1); obtain ⟨hx1_0, hx1_1⟩ := XW.Xc2 BK1; obtain ⟨hx6_0, hx6_1⟩ := XW.Xc2 BK6)
      | ((with_reducible refine gate_callee (f := 20) rfl ?_); refine XW.Xgo 29 Try.func20 #[.agg #[.slice A5_0 x0.length c5_0, .slice A5_1 x1.length c5_1]] ?_; (with_reducible refine (impl_FirstKids.calls k A5_0 c5_0 x0 A5_1 c5_1 x1 r0 r1 _ (Kd.S_reads' F5_0.out).2.2 (Kd.S_reads' F5_0.out).2.1 (Kd.R_reads' F5_1.out).2.2 (Kd.R_reads' F5_1.out).2.1 HE3.out).mono ?_); rintro e w8 ⟨v8_0, rfl, hf0, hb⟩; refine ⟨_, rfl, ?_⟩; replace F4_0 := Aside0.mk (Kd.R_below F4_0.out hb); replace F5_0 := Aside0.mk (Kd.S_below F5_0.out hb); replace F5_1 := Aside0.mk (Kd.R_below F5_1.out hb); replace BK1 := Aside0.mk (blk_below BK1.out hb); replace BK6 := Aside0.mk (blk_below BK6.out hb); obtain ⟨z6, hz6⟩ : ∃ z_, z_ = w8.heap.size := ⟨_, rfl⟩; have Oz6 := Aside0.mk (show z5 ≤ z6 from by have h1_ := HZ.out; have h2_ := hb.size; omega); have F8_0 := Aside0.mk (HL.R_new hf0 HZ.out (below_size HB.out) hz6); replace HB := Aside0.mk (below_step HB.out hb); replace HZ := Aside0.mk (Nat.le_of_eq hz6); clear hb; clear hf0 hz6; obtain ⟨A8_0, c8_0, e_⟩ := Kd.R_slice F8_0.out; subst e_; (try clear hx1_0 hx1_1); (try clear hx6_0 hx6_1); obtain ⟨hx1_0, hx1_1⟩ := XW.Xc2 BK1; obtain ⟨hx6_0, hx6_1⟩ := XW.Xc2 BK6)
      | ((with_reducible refine gate_callee (f := 21) rfl ?_); refine XW.Xgo 34 Try.func21 #[.slice A8_0 r0.length c8_0, .slice A4_0 r0.length c4_0] ?_; (with_reducible refine (laws_eqIntS.calls k A8_0 c8_0 r0 A4_0 c4_0 r0 true _ (Kd.R_reads' F8_0.out).2.2 (Kd.R_reads' F8_0.out).2.1 (Kd.R_reads' F4_0.out).2.2 (Kd.R_reads' F4_0.out).2.1 HE4.out).mono ?_); rintro e w9 ⟨rfl, hd_⟩; refine ⟨_, rfl, ?_⟩; have hb := hd_.below; clear hd_; replace F4_0 := Aside0.mk (Kd.R_below F4_0.out hb); replace F5_0 := Aside0.mk (Kd.S_below F5_0.out hb); replace F5_1 := Aside0.mk (Kd.R_below F5_1.out hb); replace F8_0 := Aside0.mk (Kd.R_below F8_0.out hb); replace BK1 := Aside0.mk (blk_below BK1.out hb); replace BK6 := Aside0.mk (blk_below BK6.out hb); replace HB := Aside0.mk (below_step HB.out hb); replace HZ := Aside0.mk (Nat.le_trans HZ.out hb.size); clear hb; (try clear hx1_0 hx1_1); (try clear hx6_0 hx6_1); obtain ⟨hx1_0, hx1_1⟩ := XW.Xc2 BK1; obtain ⟨hx6_0, hx6_1⟩ := XW.Xc2 BK6))
    replace F4_0 := Aside0.mk (Kd.R_drew F4_0.out)
    replace F5_0 := Aside0.mk (Kd.S_drew F5_0.out)
    replace F5_1 := Aside0.mk (Kd.R_drew F5_1.out)
    replace F8_0 := Aside0.mk (Kd.R_drew F8_0.out)
    replace BK1 := Aside0.mk (blk_drew BK1.out)
    replace BK6 := Aside0.mk (blk_drew BK6.out)
    (try clear hx1_0 hx1_1)
    (try clear hx6_0 hx6_1)
    replace HZ := Aside0.mk (show z6 ≤ w9.drew.heap.size from HZ.out)
    replace HB := Aside0.mk (below_drew1 HB.out)
    refine start_ (n := 5) (S := fun w' => w'.cell? ⟨g1, 0, none⟩ = some (.slice A0_0 l0_0.length c0_0) ∧ w'.cell? ⟨g1, 1, none⟩ = some (.slice A0_1 l0_1.length c0_1) ∧ w'.cell? ⟨g6, 0, none⟩ = some (.slice A5_0 x0.length c5_0) ∧ w'.cell? ⟨g6, 1, none⟩ = some (.slice A5_1 x1.length c5_1)) (ds := []) #[false, false, false, false, false] (by kernel_rfl) rfl rfl ⟨(blk_cell BK1.out 0).trans rfl, (blk_cell BK1.out 1).trans rfl, (blk_cell BK6.out 0).trans rfl, (blk_cell BK6.out 1).trans rfl⟩ (fun hHeld => ?_)
    generalize w9.drew = w10 at F4_0 F5_0 F5_1 F8_0 BK1 BK6 HB HZ hHeld ⊢
    refine take_ (i := 0) (N := some 41) (v := ?_) (a' := ?_) #[true, false, false, false, false] rfl rfl (by kernel_rfl) (fun _ _ _ h => h) (Or.inl ⟨by rfl, ?_⟩) hHeld ?_ ?_
    rotate_left
    · rintro w' ⟨s0_, s1_, s2_, s3_⟩
      go_simp
      with_reducible rfl
    rotate_left
    · simp only [XW.q0, XW.q1, XW.q2, i64_w, i32_w]
      rfl
    refine take_ (i := 1) (N := some 42) (v := ?_) (a' := ?_) #[true, true, false, false, false] rfl rfl (by kernel_rfl) (fun _ _ _ h => h) (Or.inl ⟨by rfl, ?_⟩) hHeld ?_ ?_
    rotate_left
    · rintro w' ⟨s0_, s1_, s2_, s3_⟩
      go_simp
      with_reducible rfl
    rotate_left
    · simp only [XW.q0, XW.q1, XW.q2, i64_w, i32_w]
      rfl
    refine one_ (i := 2) (N := some 43) #[true, true, true, false, false] rfl rfl (by kernel_rfl) (by decide) (fun K hK => ?_)
    refine goes_ Try.func19 (by kernel_rfl) rfl #[.agg #[.slice A0_0 l0_0.length c0_0, .slice A0_1 l0_1.length c0_1]] (by rfl) rfl rfl (by (try simp only [List.map_toArray, List.map_cons, List.map_nil]); first | done | rfl | (simp only [List.length_drop, List.length_take]; rfl)) ?_
    (with_reducible refine (laws_toMachine.calls k A0_0 c0_0 l0_0 A0_1 c0_1 l0_1 x0 x1 _ (XW.Xc HC0_0) hc0_0 (XW.Xc HC0_1) hc0_1 HE1.out).mono ?_)
    rintro e w11 ⟨v11_0, v11_1, rfl, hf0, hf1, hb⟩
    refine ⟨_, rfl, ?_⟩
    replace F4_0 := Aside0.mk (Kd.R_below F4_0.out hb)
    replace F5_0 := Aside0.mk (Kd.S_below F5_0.out hb)
    replace F5_1 := Aside0.mk (Kd.R_below F5_1.out hb)
    replace F8_0 := Aside0.mk (Kd.R_below F8_0.out hb)
    replace BK1 := Aside0.mk (blk_below BK1.out hb)
    replace BK6 := Aside0.mk (blk_below BK6.out hb)
    obtain ⟨z7, hz7⟩ : ∃ z_, z_ = w11.heap.size := ⟨_, rfl⟩
    have Oz7 := Aside0.mk (show z6 ≤ z7 from by have h1_ := HZ.out; have h2_ := hb.size; omega)
    have F11_0 := Aside0.mk (HL.S_new hf0 HZ.out (below_size HB.out) hz7)
    have F11_1 := Aside0.mk (HL.R_new hf1 HZ.out (below_size HB.out) hz7)
    replace HB := Aside0.mk (below_step HB.out hb)
    replace HZ := Aside0.mk (Nat.le_of_eq hz7)
    clear hb
    clear hf0 hf1 hz7
    obtain ⟨A11_0, c11_0, e_⟩ := Kd.S_slice F11_0.out
    subst e_
    obtain ⟨A11_1, c11_1, e_⟩ := Kd.R_slice F11_1.out
    subst e_
    (try clear hx1_0 hx1_1)
    (try clear hx6_0 hx6_1)
    obtain ⟨hx1_0, hx1_1⟩ := XW.Xc2 BK1
    obtain ⟨hx6_0, hx6_1⟩ := XW.Xc2 BK6
    refine hK.out _ _ ⟨hx1_0, hx1_1, hx6_0, hx6_1⟩ (fun hHeld => ?_)
    clear hK K
    refine XW.Xno ?_
    refine one_ (i := 3) (N := some 44) #[true, true, true, true, false] rfl rfl (by kernel_rfl) (by decide) (fun K hK => ?_)
    refine goes_ Try.func12 (by kernel_rfl) rfl #[.agg #[.slice A5_0 x0.length c5_0, .slice A5_1 x1.length c5_1], .agg #[.slice A11_0 x0.length c11_0, .slice A11_1 x1.length c11_1]] (by rfl) rfl rfl (by (try simp only [List.map_toArray, List.map_cons, List.map_nil]); first | done | rfl | (simp only [List.length_drop, List.length_take]; rfl)) ?_
    (with_reducible refine (laws_eqMachine.calls k A5_0 c5_0 x0 A5_1 c5_1 x1 A11_0 c11_0 x0 A11_1 c11_1 x1 true _ (Kd.S_reads' F5_0.out).2.2 (Kd.S_reads' F5_0.out).2.1 (Kd.R_reads' F5_1.out).2.2 (Kd.R_reads' F5_1.out).2.1 (Kd.S_reads' F11_0.out).2.2 (Kd.S_reads' F11_0.out).2.1 (Kd.R_reads' F11_1.out).2.2 (Kd.R_reads' F11_1.out).2.1 HE5.out).mono ?_)
    rintro e w12 ⟨rfl, hb⟩
    refine ⟨_, rfl, ?_⟩
    replace F4_0 := Aside0.mk (Kd.R_below F4_0.out hb)
    replace F5_0 := Aside0.mk (Kd.S_below F5_0.out hb)
    replace F5_1 := Aside0.mk (Kd.R_below F5_1.out hb)
    replace F8_0 := Aside0.mk (Kd.R_below F8_0.out hb)
    replace BK1 := Aside0.mk (blk_below BK1.out hb)
    replace BK6 := Aside0.mk (blk_below BK6.out hb)
    replace HB := Aside0.mk (below_step HB.out hb)
    replace HZ := Aside0.mk (Nat.le_trans HZ.out hb.size)
    clear hb
    clear F11_0 F11_1
    (try clear hx1_0 hx1_1)
    (try clear hx6_0 hx6_1)
    obtain ⟨hx1_0, hx1_1⟩ := XW.Xc2 BK1
    obtain ⟨hx6_0, hx6_1⟩ := XW.Xc2 BK6
    refine hK.out _ _ ⟨hx1_0, hx1_1, hx6_0, hx6_1⟩ (fun hHeld => ?_)
    clear hK K
    refine XW.Xno ?_
    refine pure_ (i := 4) (N := some 45) (v := ?_) (a' := ?_) #[true, true, true, true, true] rfl rfl (by kernel_rfl) (fun _ _ _ h => h) (Or.inl ⟨by rfl, ?_⟩) ?_ ?_
    rotate_left
    · intro w'
      go_simp
      with_reducible rfl
    rotate_left
    · simp only [XW.q0, XW.q1, XW.q2, i64_w, i32_w]
      rfl
    refine done_ (by kernel_rfl) ?_
    go_wp2_with (first
      | ((with_reducible refine gate_callee (f := 15) rfl ?_); refine XW.Xgo 48 Try.func15 #[.agg #[.slice A5_0 x0.length c5_0, .slice A5_1 x1.length c5_1], .int .i64 1] ?_; (with_reducible refine (laws_markMachine.calls k (fun k_ => (z3 ≤ k_ ∧ k_ < z4) ∧ some k_ ≠ (.slice A5_1 x1.length c5_1 : Value).ownBlock) _ x0 (fun k_ => some k_ = (.slice A5_1 x1.length c5_1 : Value).ownBlock ∧ (z3 ≤ k_ ∧ k_ < z4)) _ x1 1 n0 n1 n2 w _ HB.out (Kd.S_apart' F5_0.out (Kd.R_typed F5_1.out) (by decide)) (fun k_ h1_ h2_ => by first | exact absurd h2_.1 h1_.2 | exact absurd h1_.1 h2_.2) (Kd.R_tight2 rfl F5_1.out) (fun k_ h1_ h2_ => by first | exact absurd h2_.1 h1_.2 | exact absurd h1_.1 h2_.2) HE6.out).mono ?_); rintro e w13 ⟨rfl, hf0, hf1, hb, hk⟩; refine ⟨_, rfl, ?_⟩; replace F4_0 := Aside0.mk (Kd.R_kept F4_0.out hk (fun k_ h1_ hs_ => by have a2_ : z3 ≤ k_ ∧ k_ < z4 := (by first | exact hs_ | exact hs_.1 | exact Or.elim hs_ (fun q_ => q_.1) (fun q_ => q_.2) | exact Or.elim hs_ (fun q_ => q_.2) (fun q_ => q_.1)); have oz1_ := Oz1.out; have oz2_ := Oz2.out; have oz3_ := Oz3.out; have oz4_ := Oz4.out; have oz5_ := Oz5.out; have oz6_ := Oz6.out; have oz7_ := Oz7.out; omega)); replace F8_0 := Aside0.mk (Kd.R_kept F8_0.out hk (fun k_ h1_ hs_ => by have a2_ : z3 ≤ k_ ∧ k_ < z4 := (by first | exact hs_ | exact hs_.1 | exact Or.elim hs_ (fun q_ => q_.1) (fun q_ => q_.2) | exact Or.elim hs_ (fun q_ => q_.2) (fun q_ => q_.1)); have oz1_ := Oz1.out; have oz2_ := Oz2.out; have oz3_ := Oz3.out; have oz4_ := Oz4.out; have oz5_ := Oz5.out; have oz6_ := Oz6.out; have oz7_ := Oz7.out; omega)); replace BK1 := Aside0.mk (blk_kept BK1.out hk (fun hs_ => by have h1_ := HG1.out; obtain ⟨k_, e_⟩ : ∃ k_, k_ = g1 := ⟨_, rfl⟩; rw [← e_] at h1_ hs_; have a2_ : z3 ≤ k_ ∧ k_ < z4 := (by first | exact hs_ | exact hs_.1 | exact Or.elim hs_ (fun q_ => q_.1) (fun q_ => q_.2) | exact Or.elim hs_ (fun q_ => q_.2) (fun q_ => q_.1)); have oz1_ := Oz1.out; have oz2_ := Oz2.out; have oz3_ := Oz3.out; have oz4_ := Oz4.out; have oz5_ := Oz5.out; have oz6_ := Oz6.out; have oz7_ := Oz7.out; omega)); replace BK6 := Aside0.mk (blk_kept BK6.out hk (fun hs_ => by have h1_ := HG6.out; obtain ⟨k_, e_⟩ : ∃ k_, k_ = g6 := ⟨_, rfl⟩; rw [← e_] at h1_ hs_; have a2_ : z3 ≤ k_ ∧ k_ < z4 := (by first | exact hs_ | exact hs_.1 | exact Or.elim hs_ (fun q_ => q_.1) (fun q_ => q_.2) | exact Or.elim hs_ (fun q_ => q_.2) (fun q_ => q_.1)); have oz1_ := Oz1.out; have oz2_ := Oz2.out; have oz3_ := Oz3.out; have oz4_ := Oz4.out; have oz5_ := Oz5.out; have oz6_ := Oz6.out; have oz7_ := Oz7.out; omega)); replace F5_0 := Aside0.mk (Kd.S_mono hf0 (fun _ h_ => h_.1)); replace F5_1 := Aside0.mk (Kd.R_reok rfl hf1 (fun k_ e_ => F5_1.out.1 k_ e_)); replace HB := Aside0.mk hb; replace HZ := Aside0.mk (Nat.le_trans HZ.out hk.1); clear hb hk hf0 hf1; clear F5_0 F5_1; (try clear hx1_0 hx1_1); (try clear hx6_0 hx6_1); obtain ⟨hx1_0, hx1_1⟩ := XW.Xc2 BK1; obtain ⟨hx6_0, hx6_1⟩ := XW.Xc2 BK6)
      | (go_at_call 21; (with_reducible refine (laws_eqIntS.calls k A8_0 c8_0 r0 A4_0 c4_0 r0 true _ (Kd.R_reads' F8_0.out).2.2 (Kd.R_reads' F8_0.out).2.1 (Kd.R_reads' F4_0.out).2.2 (Kd.R_reads' F4_0.out).2.1 HE4.out).mono ?_); rintro e w14 ⟨rfl, hd_⟩; have hb := hd_.below; clear hd_; replace F4_0 := Aside0.mk (Kd.R_below F4_0.out hb); replace F8_0 := Aside0.mk (Kd.R_below F8_0.out hb); replace BK1 := Aside0.mk (blk_below BK1.out hb); replace BK6 := Aside0.mk (blk_below BK6.out hb); replace HB := Aside0.mk (below_step HB.out hb); replace HZ := Aside0.mk (Nat.le_trans HZ.out hb.size); clear hb; (try clear hx1_0 hx1_1); (try clear hx6_0 hx6_1); obtain ⟨hx1_0, hx1_1⟩ := XW.Xc2 BK1; obtain ⟨hx6_0, hx6_1⟩ := XW.Xc2 BK6)
      | ((with_reducible refine gate_callee (f := 22) rfl ?_); refine XW.Xgo 64 Try.func22 #[.slice A8_0 r0.length c8_0, .int .i64 1] ?_; (with_reducible refine (laws_markIntS.calls k (fun k_ => z5 ≤ k_ ∧ k_ < z6) _ r0 1 n3 n4 w _ HB.out F8_0.out HE7.out).mono ?_); rintro e w15 ⟨rfl, hf0, hb, hk⟩; refine ⟨_, rfl, ?_⟩; replace F4_0 := Aside0.mk (Kd.R_kept F4_0.out hk (fun k_ h1_ hs_ => by have a2_ : z5 ≤ k_ ∧ k_ < z6 := (by first | exact hs_ | exact hs_.1 | exact Or.elim hs_ (fun q_ => q_.1) (fun q_ => q_.2) | exact Or.elim hs_ (fun q_ => q_.2) (fun q_ => q_.1)); have oz1_ := Oz1.out; have oz2_ := Oz2.out; have oz3_ := Oz3.out; have oz4_ := Oz4.out; have oz5_ := Oz5.out; have oz6_ := Oz6.out; have oz7_ := Oz7.out; omega)); replace BK1 := Aside0.mk (blk_kept BK1.out hk (fun hs_ => by have h1_ := HG1.out; obtain ⟨k_, e_⟩ : ∃ k_, k_ = g1 := ⟨_, rfl⟩; rw [← e_] at h1_ hs_; have a2_ : z5 ≤ k_ ∧ k_ < z6 := (by first | exact hs_ | exact hs_.1 | exact Or.elim hs_ (fun q_ => q_.1) (fun q_ => q_.2) | exact Or.elim hs_ (fun q_ => q_.2) (fun q_ => q_.1)); have oz1_ := Oz1.out; have oz2_ := Oz2.out; have oz3_ := Oz3.out; have oz4_ := Oz4.out; have oz5_ := Oz5.out; have oz6_ := Oz6.out; have oz7_ := Oz7.out; omega)); replace BK6 := Aside0.mk (blk_kept BK6.out hk (fun hs_ => by have h1_ := HG6.out; obtain ⟨k_, e_⟩ : ∃ k_, k_ = g6 := ⟨_, rfl⟩; rw [← e_] at h1_ hs_; have a2_ : z5 ≤ k_ ∧ k_ < z6 := (by first | exact hs_ | exact hs_.1 | exact Or.elim hs_ (fun q_ => q_.1) (fun q_ => q_.2) | exact Or.elim hs_ (fun q_ => q_.2) (fun q_ => q_.1)); have oz1_ := Oz1.out; have oz2_ := Oz2.out; have oz3_ := Oz3.out; have oz4_ := Oz4.out; have oz5_ := Oz5.out; have oz6_ := Oz6.out; have oz7_ := Oz7.out; omega)); replace F8_0 := Aside0.mk (Kd.R_reok rfl hf0 (fun k_ e_ => F8_0.out.1 k_ e_)); replace HB := Aside0.mk hb; replace HZ := Aside0.mk (Nat.le_trans HZ.out hk.1); clear hb hk hf0; (try clear hx1_0 hx1_1); (try clear hx6_0 hx6_1); obtain ⟨hx1_0, hx1_1⟩ := XW.Xc2 BK1; obtain ⟨hx6_0, hx6_1⟩ := XW.Xc2 BK6)
      | ((with_reducible refine gate_callee (f := 23) rfl ?_); refine XW.Xgo 67 Try.func23 #[.slice A8_0 n4.length c8_0, .int .i64 1] ?_ (hargs := by (try simp only [List.map_toArray, List.map_cons, List.map_nil]); first | (rw [show n4.length = r0.length from (Kd.R_reads' F8_0.out).1.symm]; done) | (rw [show n4.length = r0.length from (Kd.R_reads' F8_0.out).1.symm]; rfl)); (with_reducible refine (laws_heldIntS.calls k A8_0 c8_0 n4 1 n3 _ (Kd.R_reads' F8_0.out).2.2 (by rw [show n4.length = r0.length from (Kd.R_reads' F8_0.out).1.symm]; exact (Kd.R_reads' F8_0.out).2.1) HE8.out).mono ?_); rintro e w16 ⟨rfl, hd_⟩; refine ⟨_, rfl, ?_⟩; have hb := hd_.below; clear hd_; replace F4_0 := Aside0.mk (Kd.R_below F4_0.out hb); replace F8_0 := Aside0.mk (Kd.R_below F8_0.out hb); replace BK1 := Aside0.mk (blk_below BK1.out hb); replace BK6 := Aside0.mk (blk_below BK6.out hb); replace HB := Aside0.mk (below_step HB.out hb); replace HZ := Aside0.mk (Nat.le_trans HZ.out hb.size); clear hb; (try clear hx1_0 hx1_1); (try clear hx6_0 hx6_1); obtain ⟨hx1_0, hx1_1⟩ := XW.Xc2 BK1; obtain ⟨hx6_0, hx6_1⟩ := XW.Xc2 BK6)
      | ((with_reducible refine gate_callee (f := 19) rfl ?_); refine XW.Xgo 75 Try.func19 #[.agg #[.slice A0_0 l0_0.length c0_0, .slice A0_1 l0_1.length c0_1]] ?_; (with_reducible refine (laws_toMachine.calls k A0_0 c0_0 l0_0 A0_1 c0_1 l0_1 x0 x1 _ (XW.Xc HC0_0) hc0_0 (XW.Xc HC0_1) hc0_1 HE1.out).mono ?_); rintro e w17 ⟨v17_0, v17_1, rfl, hf0, hf1, hb⟩; refine ⟨_, rfl, ?_⟩; replace F4_0 := Aside0.mk (Kd.R_below F4_0.out hb); replace F8_0 := Aside0.mk (Kd.R_below F8_0.out hb); replace BK1 := Aside0.mk (blk_below BK1.out hb); replace BK6 := Aside0.mk (blk_below BK6.out hb); obtain ⟨z8, hz8⟩ : ∃ z_, z_ = w17.heap.size := ⟨_, rfl⟩; have Oz8 := Aside0.mk (show z7 ≤ z8 from by have h1_ := HZ.out; have h2_ := hb.size; omega); have F17_0 := Aside0.mk (HL.S_new hf0 HZ.out (below_size HB.out) hz8); have F17_1 := Aside0.mk (HL.R_new hf1 HZ.out (below_size HB.out) hz8); replace HB := Aside0.mk (below_step HB.out hb); replace HZ := Aside0.mk (Nat.le_of_eq hz8); clear hb; clear hf0 hf1 hz8; obtain ⟨A17_0, c17_0, e_⟩ := Kd.S_slice F17_0.out; subst e_; obtain ⟨A17_1, c17_1, e_⟩ := Kd.R_slice F17_1.out; subst e_; (try clear hx1_0 hx1_1); (try clear hx6_0 hx6_1); obtain ⟨hx1_0, hx1_1⟩ := XW.Xc2 BK1; obtain ⟨hx6_0, hx6_1⟩ := XW.Xc2 BK6)
      | ((with_reducible refine gate_callee (f := 20) rfl ?_); refine XW.Xgo 76 Try.func20 #[.agg #[.slice A17_0 x0.length c17_0, .slice A17_1 x1.length c17_1]] ?_; (with_reducible refine (impl_FirstKids.calls k A17_0 c17_0 x0 A17_1 c17_1 x1 r0 r1 _ (Kd.S_reads' F17_0.out).2.2 (Kd.S_reads' F17_0.out).2.1 (Kd.R_reads' F17_1.out).2.2 (Kd.R_reads' F17_1.out).2.1 HE3.out).mono ?_); rintro e w18 ⟨v18_0, rfl, hf0, hb⟩; refine ⟨_, rfl, ?_⟩; replace F4_0 := Aside0.mk (Kd.R_below F4_0.out hb); replace F8_0 := Aside0.mk (Kd.R_below F8_0.out hb); replace BK1 := Aside0.mk (blk_below BK1.out hb); replace BK6 := Aside0.mk (blk_below BK6.out hb); obtain ⟨z9, hz9⟩ : ∃ z_, z_ = w18.heap.size := ⟨_, rfl⟩; have Oz9 := Aside0.mk (show z8 ≤ z9 from by have h1_ := HZ.out; have h2_ := hb.size; omega); have F18_0 := Aside0.mk (HL.R_new hf0 HZ.out (below_size HB.out) hz9); replace HB := Aside0.mk (below_step HB.out hb); replace HZ := Aside0.mk (Nat.le_of_eq hz9); clear hb; clear hf0 hz9; obtain ⟨A18_0, c18_0, e_⟩ := Kd.R_slice F18_0.out; subst e_; clear F17_0 F17_1; (try clear hx1_0 hx1_1); (try clear hx6_0 hx6_1); obtain ⟨hx1_0, hx1_1⟩ := XW.Xc2 BK1; obtain ⟨hx6_0, hx6_1⟩ := XW.Xc2 BK6)
      | ((with_reducible refine gate_callee (f := 21) rfl ?_); refine XW.Xgo 81 Try.func21 #[.slice A18_0 r0.length c18_0, .slice A4_0 r0.length c4_0] ?_; (with_reducible refine (laws_eqIntS.calls k A18_0 c18_0 r0 A4_0 c4_0 r0 true _ (Kd.R_reads' F18_0.out).2.2 (Kd.R_reads' F18_0.out).2.1 (Kd.R_reads' F4_0.out).2.2 (Kd.R_reads' F4_0.out).2.1 HE4.out).mono ?_); rintro e w19 ⟨rfl, hd_⟩; refine ⟨_, rfl, ?_⟩; have hb := hd_.below; clear hd_; replace F8_0 := Aside0.mk (Kd.R_below F8_0.out hb); replace BK1 := Aside0.mk (blk_below BK1.out hb); replace BK6 := Aside0.mk (blk_below BK6.out hb); replace HB := Aside0.mk (below_step HB.out hb); replace HZ := Aside0.mk (Nat.le_trans HZ.out hb.size); clear hb; clear F4_0 F18_0; (try clear hx1_0 hx1_1); (try clear hx6_0 hx6_1); obtain ⟨hx1_0, hx1_1⟩ := XW.Xc2 BK1; obtain ⟨hx6_0, hx6_1⟩ := XW.Xc2 BK6)
      | ((with_reducible refine gate_callee (f := 23) rfl ?_); refine XW.Xgo 90 Try.func23 #[.slice A8_0 n4.length c8_0, .int .i64 1] ?_ (hargs := by (try simp only [List.map_toArray, List.map_cons, List.map_nil]); first | (rw [show n4.length = r0.length from (Kd.R_reads' F8_0.out).1.symm]; done) | (rw [show n4.length = r0.length from (Kd.R_reads' F8_0.out).1.symm]; rfl)); (with_reducible refine (laws_heldIntS.calls k A8_0 c8_0 n4 1 n3 _ (Kd.R_reads' F8_0.out).2.2 (by rw [show n4.length = r0.length from (Kd.R_reads' F8_0.out).1.symm]; exact (Kd.R_reads' F8_0.out).2.1) HE8.out).mono ?_); rintro e w20 ⟨rfl, hd_⟩; refine ⟨_, rfl, ?_⟩; have hb := hd_.below; clear hd_; replace BK1 := Aside0.mk (blk_below BK1.out hb); replace BK6 := Aside0.mk (blk_below BK6.out hb); replace HB := Aside0.mk (below_step HB.out hb); replace HZ := Aside0.mk (Nat.le_trans HZ.out hb.size); clear hb; clear F8_0; (try clear hx1_0 hx1_1); (try clear hx6_0 hx6_1); obtain ⟨hx1_0, hx1_1⟩ := XW.Xc2 BK1; obtain ⟨hx6_0, hx6_1⟩ := XW.Xc2 BK6))
    go_ret
    exact ⟨by first | rfl | (simp; done) | (simp [*]; done), HB.out⟩
end Go.Proofs.Ythkbgbkglgmpoaa.XA
