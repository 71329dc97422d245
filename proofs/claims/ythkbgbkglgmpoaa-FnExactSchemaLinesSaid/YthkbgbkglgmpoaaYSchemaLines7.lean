/- Contracts of the program's functions: each Go function that is named below comes to what its Lean function says. Written by xprint.py (a program of this session's, over the kit's print). Conditions: each contract's own premises. -/
import Derived.Test.YthkbgbkglgmpoaaYSchemaLines0
import Derived.Test.YthkbgbkglgmpoaaYSchemaLines4
import Derived.Test.YthkbgbkglgmpoaaYSchemaLines6
import Derived.Test.YthkbgbkglgmpoaaYSchemaLinesJoin
namespace Go.Proofs.Ythkbgbkglgmpoaa.XA
open Go.RowKit Go.Proofs.YthkbgbkglgmpoaaW.PrintWords Go.Proofs.YthkbgbkglgmpoaaW.PrintLast Go.Proofs.YthkbgbkglgmpoaaW.PrintMore XW
attribute [local go_sem] max2_int min2_int max_two min_two max_three min_three max_four min_four   -- for this text's walks alone
set_option linter.unusedVariables false
set_option linter.unusedSimpArgs false

/-! ### impl_schemaLines: function 70 -/
mutual
def impl_schemaLines.l0 : Nat → List (S97) → List ByteArray → List (S97) → Int → Int → Option (List ByteArray)
 | 0, _, _, _, _, _ => none
 | k + 1, x0, x3, x12, x13, x14 => if x14 < x13 then (if 0 ≤ x14 then (if x14 < (x12.length : Int) then (if ((rd_T97 x12 x14).f0).size + 1 ≤ 9223372036854775807 then (if (rd_T97 x12 x14).f1 = true then (if (((rd_T97 x12 x14).f0) ++ (⟨#[58]⟩ : ByteArray)).size + 5 ≤ 9223372036854775807 then (impl_schemaLines.l1 k x0 x3 ((((rd_T97 x12 x14).f0) ++ (⟨#[58]⟩ : ByteArray)) ++ (⟨#[32, 116, 101, 120, 116]⟩ : ByteArray)) x12 x13 x14 ((rd_T97 x12 x14).f2) (((rd_T97 x12 x14).f2).length : Int) 0) else (none)) else (impl_schemaLines.l1 k x0 x3 (((rd_T97 x12 x14).f0) ++ (⟨#[58]⟩ : ByteArray)) x12 x13 x14 ((rd_T97 x12 x14).f2) (((rd_T97 x12 x14).f2).length : Int) 0)) else (none)) else (none)) else (none)) else (some x3)
def impl_schemaLines.l1 : Nat → List (S97) → List ByteArray → ByteArray → List (S97) → Int → Int → List (S78) → Int → Int → Option (List ByteArray)
 | 0, _, _, _, _, _, _, _, _, _ => none
 | k + 1, x0, x3, x6, x12, x13, x14, x26, x27, x28 => if x28 < x27 then (if 0 ≤ x28 then (if x28 < (x26.length : Int) then (impl_schemaLines.l2 k x0 x3 x6 ([] : List ByteArray) x12 x13 x14 x26 x27 x28 ((rd_T78 x26 x28).f0) (((rd_T78 x26 x28).f0).length : Int) 0 ((rd_T78 x26 x28).f0) ((rd_T78 x26 x28).f1)) else (none)) else (none)) else (if x3.length < 8796093022208 then (impl_schemaLines.l0 k x0 (x3 ++ [x6]) x12 x13 (wrap64 (x14 + 1))) else (none))
def impl_schemaLines.l2 : Nat → List (S97) → List ByteArray → ByteArray → List ByteArray → List (S97) → Int → Int → List (S78) → Int → Int → List Int → Int → Int → List Int → Int → Option (List ByteArray)
 | 0, _, _, _, _, _, _, _, _, _, _, _, _, _, _, _ => none
 | k + 1, x0, x3, x6, x9, x12, x13, x14, x26, x27, x28, x33, x34, x35, x222000, x222001 => if x35 < x34 then (if 0 ≤ x35 then (if x35 < (x33.length : Int) then (if 0 ≤ (wrap64 ((rd x33 x35) - 1)) then (if (wrap64 ((rd x33 x35) - 1)) < (x0.length : Int) then (if x9.length < 8796093022208 then (impl_schemaLines.l2 k x0 x3 x6 (x9 ++ [(rd_T97 x0 (wrap64 ((rd x33 x35) - 1))).f0]) x12 x13 x14 x26 x27 x28 x33 x34 (wrap64 (x35 + 1)) x222000 x222001) else (none)) else (none)) else (none)) else (none)) else (none)) else ((strings_Join.f x9 (⟨#[124]⟩ : ByteArray)).bind fun t227 => (if 1 + t227.size ≤ 9223372036854775807 then (if x6.size + ((⟨#[32]⟩ : ByteArray) ++ t227).size ≤ 9223372036854775807 then (if x222001 = 0 then (impl_schemaLines.l1 k x0 x3 (x6 ++ ((⟨#[32]⟩ : ByteArray) ++ t227)) x12 x13 x14 x26 x27 (wrap64 (x28 + 1))) else (if 0 ≤ x222001 then (if x222001 ≤ (wrap64 (x222001 + 1)) then (if (wrap64 (x222001 + 1)) ≤ 4 then (if (x6 ++ ((⟨#[32]⟩ : ByteArray) ++ t227)).size + ((⟨#[32, 63, 42, 43]⟩ : ByteArray).extract (x222001 : Int).toNat ((wrap64 (x222001 + 1)) : Int).toNat).size ≤ 9223372036854775807 then (impl_schemaLines.l1 k x0 x3 ((x6 ++ ((⟨#[32]⟩ : ByteArray) ++ t227)) ++ ((⟨#[32, 63, 42, 43]⟩ : ByteArray).extract (x222001 : Int).toNat ((wrap64 (x222001 + 1)) : Int).toNat)) x12 x13 x14 x26 x27 (wrap64 (x28 + 1))) else (none)) else (none)) else (none)) else (none))) else (none)) else (none)))
end
def impl_schemaLines.f (k : Nat) (l0 : List (S97)) : Option (List ByteArray) := impl_schemaLines.l0 k l0 ([] : List ByteArray) l0 (l0.length : Int) 0
set_option maxHeartbeats 8000000 in
set_option maxRecDepth 100000 in
theorem impl_schemaLines.calls (k : Nat) (A0 : Option Addr) (c0 : Nat) (l0 : List (S97)) (r : List ByteArray) (w : World) (hr0 : Kd.C k97 w A0 l0.length l0) (hc0 : l0.length ≤ c0) (h : impl_schemaLines.f k l0 = some r) :
  Calls Try.prog 70 #[.slice A0 l0.length c0] w fun e w' => ∃ v0_ : Value, e = .returned (v0_) ∧ Kd.R Kd.string 9 w' w.heap.size (fun _ => True) v0_ r ∧ Below w.heap.size w w' := by
 have hu97 := Try.underlying97
 have hu78 := Try.underlying78
 have HR0 := Aside0.mk hr0
 have HC0 := Aside0.mk hc0
 clear hr0 hc0
 have HB := Aside0.mk (Below.refl w.heap.size w)
 have H : (impl_schemaLines.l0 k l0 ([] : List ByteArray) l0 (l0.length : Int) 0) = some r := h
 clear h
 have H' := Aside0.mk H
 clear H
 go_enter Try.func70, Try.ntmps70
 go_wp2
 go_loopg [3, 14] k (fun kq v3 v14 w' => ∃ (x3_1 : List ByteArray) (x14_1 : Int), v14 = .int .i64 x14_1 ∧ Aside0 (impl_schemaLines.l0 kq l0 x3_1 l0 (l0.length : Int) x14_1 = some r) ∧ Aside0 (kq ≤ k) ∧ Aside0 (Kd.R Kd.string 9 w' w.heap.size (fun _ => True) v3 x3_1) ∧ Aside0 (Below w.heap.size w w'))
 case atStart => exact ⟨(([] : List ByteArray)), (0), Xr, H', Xkr, ⟨by first | exact Kd.R_nil _ _ _ _ _ | exact Kd.N_nil _ _ _ _ _ | exact Kd.V_nil _ _ _ _ _ | exact Kd.Q_nil _ _ _ _ _ | exact Kd.S_nil _ _ _ _ _⟩, ⟨Xi⟩⟩
 case round =>
  clear H'
  obtain ⟨x3_1, x14_1, rfl, HA, HK1, HO_3, HB⟩ := hrel
  cases gk with
  | zero => cases HA.out
  | succ k1 =>
   have H := HA.out
   clear HA
   simp only [impl_schemaLines.l0] at H
   obtain ⟨c2b0, H⟩ | ⟨c2b0, H⟩ := Xit H
   ·obtain ⟨c3b0, H⟩ := Xid H
    obtain ⟨c4b0, H⟩ := Xid H
    obtain ⟨c5, H⟩ := Xif H
    have c5b0 := eq_true c5
    have c5b1 : decide (((rd_T97 l0 x14_1).f0).size + 1 ≤ 9223372036854775807) = true := decide_eq_true c5
    try have c5b2 : (9223372036854775807 < ((rd_T97 l0 x14_1).f0).size + 1) = False := eq_false (Nat.not_lt.2 c5)
    have HC6 := Aside0.mk H
    clear H
    obtain ⟨ad218, A218_2, c218_2, e218, p218, q218, hx218_0, hx218_1, hx218_2, HC218_2, HR218_2⟩ := at_B97 HR0 x14_1 Xa Xa HB
    cases e218
    go_upto_if 22 with (first | ((with_reducible refine gate_dst (N := 5) rfl ?_); refine Xbox 5 #[.string (⟨#[]⟩ : ByteArray), .bool false, .slice none 0 0] 97 ?_; intro gb219 hg w7 hbox hb; replace HO_3 := Aside0.mk (Kd.R_below (Xq HO_3) hb); have BK219 := Aside0.mk (hbox); have GE219 := Xge hg Xi; replace HB := Aside0.mk (below_step Xi hb); clear hb hbox hg; obtain ⟨hcz8_0, hcz8_1, hcz8_2⟩ := Xc3 BK219; obtain ⟨hfz8_0, hfz8_1, hfz8_2⟩ := Xf3 BK219) | ((with_reducible refine gate_store (t := 97) (p := 5) rfl ?_); refine store_event (t := 97) (p := 5) (v := ?vo_w9) (w1 := (((w7.setCell ⟨gb219, 0, none⟩ (.string ((rd_T97 l0 x14_1).f0))).setCell ⟨gb219, 1, none⟩ (.bool ((rd_T97 l0 x14_1).f1))).setCell ⟨gb219, 2, none⟩ (.slice A218_2 ((rd_T97 l0 x14_1).f2).length c218_2))) ?hg ?ho ?hn ?hr ?_; (case ho => rfl); (case hg => rfl); (case hn => rfl); (case hr => first | (go_simp; done) | (go_simp; rfl)); intro w9 hw; have n0_ : Aside0 (Kd.R Kd.string 9 w9 w.heap.size (fun _ => True) u3 x3_1) := ⟨(by rw [hw]; exact (by (with_reducible repeat (first | apply Kd.R_alloc | apply Kd.R_drewN | apply Kd.R_drew)); exact Kd.R_mono (Kd.R_far (p := ⟨gb219, 2, none⟩) (Kd.R_far (p := ⟨gb219, 1, none⟩) (Kd.R_far (p := ⟨gb219, 0, none⟩) (Kd.R_types HO_3.out BK219.out (by decide)) (fun _ hk => hk.2) (.string ((rd_T97 l0 x14_1).f0))) (fun _ hk => hk.2) (.bool ((rd_T97 l0 x14_1).f1))) (fun _ hk => hk.2) (.slice A218_2 ((rd_T97 l0 x14_1).f2).length c218_2)) (fun _ hk => trivial)))⟩; have n1_ : Aside0 (w9.heap[gb219]? = some (.cells #[.string ((rd_T97 l0 x14_1).f0), .bool ((rd_T97 l0 x14_1).f1), .slice A218_2 ((rd_T97 l0 x14_1).f2).length c218_2] 97 (0, 0))) := ⟨(by rw [hw]; exact (by (with_reducible repeat (first | refine blk_drewN ?_ _ | refine blk_drew ?_ | refine blk_alloc ?_ _)); refine blk_put (cs := #[.string ((rd_T97 l0 x14_1).f0), .bool ((rd_T97 l0 x14_1).f1), .slice none 0 0]) ?_ 2 _ rfl; (with_reducible repeat (first | refine blk_drewN ?_ _ | refine blk_drew ?_ | refine blk_alloc ?_ _)); refine blk_put (cs := #[.string ((rd_T97 l0 x14_1).f0), .bool false, .slice none 0 0]) ?_ 1 _ rfl; (with_reducible repeat (first | refine blk_drewN ?_ _ | refine blk_drew ?_ | refine blk_alloc ?_ _)); refine blk_put (cs := #[.string (⟨#[]⟩ : ByteArray), .bool false, .slice none 0 0]) ?_ 0 _ rfl; (with_reducible repeat (first | refine blk_drewN ?_ _ | refine blk_drew ?_ | refine blk_alloc ?_ _)); exact BK219.out))⟩; have n2_ : Aside0 (Below w.heap.size w w9) := ⟨(by rw [hw]; exact Xi)⟩; clear hw; clear HO_3; clear BK219; clear HB; have HO_3 := n0_; have BK219 := n1_; have HB := n2_; clear n0_ n1_ n2_; obtain ⟨hcz10_0, hcz10_1, hcz10_2⟩ := Xc3 BK219; obtain ⟨hfz10_0, hfz10_1, hfz10_2⟩ := Xf3 BK219))
    have H := HC6.out
    clear HC6
    obtain ⟨bq11, hbq11⟩ : ∃ b_ : Bool, b_ = ((rd_T97 l0 x14_1).f1) := ⟨_, rfl⟩
    replace H : (if bq11 = true then (if (((rd_T97 l0 x14_1).f0) ++ (⟨#[58]⟩ : ByteArray)).size + 5 ≤ 9223372036854775807 then (impl_schemaLines.l1 k1 l0 x3_1 ((((rd_T97 l0 x14_1).f0) ++ (⟨#[58]⟩ : ByteArray)) ++ (⟨#[32, 116, 101, 120, 116]⟩ : ByteArray)) l0 (l0.length : Int) x14_1 ((rd_T97 l0 x14_1).f2) (((rd_T97 l0 x14_1).f2).length : Int) 0) else (none)) else (impl_schemaLines.l1 k1 l0 x3_1 (((rd_T97 l0 x14_1).f0) ++ (⟨#[58]⟩ : ByteArray)) l0 (l0.length : Int) x14_1 ((rd_T97 l0 x14_1).f2) (((rd_T97 l0 x14_1).f2).length : Int) 0)) = some r := by rw [← hbq11] at H; exact H
    have Nbq11 := Aside0.mk hbq11
    clear hbq11
    (try rw [← Nbq11.out] at BK219)
    (try rw [← Nbq11.out])
    by_cases c12 : bq11 = true
    ·subst c12
     (first | rw [if_pos rfl] at H | skip)
     obtain ⟨c13, H⟩ := Xif H
     have c13b0 := eq_true c13
     have c13b1 : decide ((((rd_T97 l0 x14_1).f0) ++ (⟨#[58]⟩ : ByteArray)).size + 5 ≤ 9223372036854775807) = true := decide_eq_true c13
     try have c13b2 : (9223372036854775807 < (((rd_T97 l0 x14_1).f0) ++ (⟨#[58]⟩ : ByteArray)).size + 5) = False := eq_false (Nat.not_lt.2 c13)
     try have c13b3 : (9223372036854775807 < ((rd_T97 l0 x14_1).f0).size + 1 + 5) = False := eq_false (Nat.not_lt.2 (by have h_ := c13; simp only [ByteArray.size_append] at h_; exact h_))
     have H' := Aside0.mk H
     clear H
     obtain ⟨hcz14_0, hcz14_1, hcz14_2⟩ := Xc3 BK219
     obtain ⟨hfz14_0, hfz14_1, hfz14_2⟩ := Xf3 BK219
     go_wp2
     go_loopg [6, 28] k1 (fun kq v6 v28 w' => ∃ (x6_2 : ByteArray) (x28_2 : Int), v6 = .string x6_2 ∧ v28 = .int .i64 x28_2 ∧ Aside0 (impl_schemaLines.l1 kq l0 x3_1 x6_2 l0 (l0.length : Int) x14_1 ((rd_T97 l0 x14_1).f2) (((rd_T97 l0 x14_1).f2).length : Int) x28_2 = some r) ∧ Aside0 (kq ≤ k1) ∧ Aside0 (Kd.R Kd.string 9 w' w.heap.size (fun _ => True) u3 x3_1) ∧ Aside0 (w'.heap[gb219]? = some (.cells #[.string ((rd_T97 l0 x14_1).f0), .bool true, (.slice A218_2 ((rd_T97 l0 x14_1).f2).length c218_2)] 97 (0, 0))) ∧ Aside0 (Below w.heap.size w w'))
     case atStart => exact ⟨((((rd_T97 l0 x14_1).f0) ++ (⟨#[58]⟩ : ByteArray)) ++ (⟨#[32, 116, 101, 120, 116]⟩ : ByteArray)), (0), Xr, Xr, H', Xkr, (Xp' HO_3), (Xp BK219), ⟨Xi⟩⟩
     case round =>
      clear H'
      (try clear c2); (try clear c2b0); (try clear c3); (try clear c3b0); (try clear c4); (try clear c4b0); (try clear c5); (try clear c5b0); (try clear c5b1); (try clear c5b2); (try clear c12); (try clear c13); (try clear c13b0); (try clear c13b1); (try clear c13b2); (try clear hcz10_0); (try clear hcz10_1); (try clear hcz10_2); (try clear hcz14_0); (try clear hcz14_1); (try clear hcz14_2); (try clear hcz8_0); (try clear hcz8_1); (try clear hcz8_2); (try clear hfz10_0); (try clear hfz10_1); (try clear hfz10_2); (try clear hfz14_0); (try clear hfz14_1); (try clear hfz14_2); (try clear hfz8_0); (try clear hfz8_1); (try clear hfz8_2); (try clear hx218_0); (try clear hx218_1); (try clear hx218_2); (try clear p218); (try clear q218)
      obtain ⟨x6_2, x28_2, rfl, rfl, HA, HK2, HO_3, BK219, HB⟩ := hrel
      cases gk with
      | zero => cases HA.out
      | succ k2 =>
       have H := HA.out
       clear HA
       simp only [impl_schemaLines.l1] at H
       obtain ⟨c15b0, H⟩ | ⟨c15b0, H⟩ := Xit H
       ·obtain ⟨c16b0, H⟩ := Xid H
        obtain ⟨c17b0, H⟩ := Xid H
        have H' := Aside0.mk H
        clear H
        obtain ⟨ad220, A220_0, c220_0, e220, p220, q220, hx220_0, hx220_1, HC220_0, HR220_0⟩ := at_B78 HR218_2 x28_2 Xa Xa HB
        cases e220
        go_wp2_with (first | ((with_reducible refine gate_dst (N := 8) rfl ?_); refine Xbox 8 #[.slice none 0 0, .int .i64 0] 78 ?_; intro gb221 hg w18 hbox hb; replace HO_3 := Aside0.mk (Kd.R_below (Xq HO_3) hb); have BK221 := Aside0.mk (hbox); have GE221 := Xge hg Xi; have GW221 := GE221; replace HB := Aside0.mk (below_step Xi hb); have NB219_221 := Xnb hg BK219; have NB221_219 := Xns NB219_221; replace BK219 := Xbb BK219 hb; clear hb hbox hg; have hnb19 := NB221_219.out; have hnc19 := NB219_221.out; obtain ⟨hcz20_0, hcz20_1⟩ := Xc2 BK221; obtain ⟨hfz20_0, hfz20_1⟩ := Xf2 BK221))
        go_loopg [9, 35] k2 (fun kq v9 v35 w' => ∃ (x9_3 : List ByteArray) (x35_3 : Int), v35 = .int .i64 x35_3 ∧ Aside0 (impl_schemaLines.l2 kq l0 x3_1 x6_2 x9_3 l0 (l0.length : Int) x14_1 ((rd_T97 l0 x14_1).f2) (((rd_T97 l0 x14_1).f2).length : Int) x28_2 ((rd_T78 ((rd_T97 l0 x14_1).f2) x28_2).f0) (((rd_T78 ((rd_T97 l0 x14_1).f2) x28_2).f0).length : Int) x35_3 ((rd_T78 ((rd_T97 l0 x14_1).f2) x28_2).f0) ((rd_T78 ((rd_T97 l0 x14_1).f2) x28_2).f1) = some r) ∧ Aside0 (kq ≤ k2) ∧ Aside0 (Kd.R Kd.string 9 w' w.heap.size (fun k_ => some k_ ≠ (v9 : Value).ownBlock) u3 x3_1) ∧ Aside0 (Kd.R Kd.string 9 w' w.heap.size (fun k_ => some k_ ≠ (u3 : Value).ownBlock) v9 x9_3) ∧ Aside0 (w'.heap[gb219]? = some (.cells #[.string ((rd_T97 l0 x14_1).f0), .bool true, (.slice (some ad220) ((rd_T97 l0 x14_1).f2).length c218_2)] 97 (0, 0))) ∧ Aside0 (w'.heap[gb221]? = some (.cells #[(.slice A220_0 ((rd_T78 ((rd_T97 l0 x14_1).f2) x28_2).f0).length c220_0), .int .i64 ((rd_T78 ((rd_T97 l0 x14_1).f2) x28_2).f1)] 78 (0, 0))) ∧ Aside0 (Below w.heap.size w w'))
        case atStart => exact ⟨(([] : List ByteArray)), (0), Xr, H', Xkr, ⟨by (with_reducible repeat (first | apply Kd.R_alloc | apply Kd.R_drewN | apply Kd.R_drew)); exact Kd.R_mono (Kd.R_far (p := ⟨gb221, 1, none⟩) (Kd.R_far (p := ⟨gb221, 0, none⟩) (Kd.R_types HO_3.out BK221.out (by decide)) (fun _ hk => hk.2) (.slice A220_0 ((rd_T78 ((rd_T97 l0 x14_1).f2) x28_2).f0).length c220_0)) (fun _ hk => hk.2) (.int .i64 ((rd_T78 ((rd_T97 l0 x14_1).f2) x28_2).f1))) (fun _ hk => (by simp [Value.ownBlock]))⟩, ⟨by first | exact Kd.R_nil _ _ _ _ _ | exact Kd.N_nil _ _ _ _ _ | exact Kd.V_nil _ _ _ _ _ | exact Kd.Q_nil _ _ _ _ _ | exact Kd.S_nil _ _ _ _ _⟩, ⟨by (with_reducible repeat (first | refine blk_drewN ?_ _ | refine blk_drew ?_ | refine blk_alloc ?_ _)); refine blk_far ?_ NB219_221.out _; (with_reducible repeat (first | refine blk_drewN ?_ _ | refine blk_drew ?_ | refine blk_alloc ?_ _)); refine blk_far ?_ NB219_221.out _; (with_reducible repeat (first | refine blk_drewN ?_ _ | refine blk_drew ?_ | refine blk_alloc ?_ _)); exact BK219.out⟩, ⟨by (with_reducible repeat (first | refine blk_drewN ?_ _ | refine blk_drew ?_ | refine blk_alloc ?_ _)); refine blk_put (cs := #[.slice A220_0 ((rd_T78 ((rd_T97 l0 x14_1).f2) x28_2).f0).length c220_0, .int .i64 0]) ?_ 1 _ rfl; (with_reducible repeat (first | refine blk_drewN ?_ _ | refine blk_drew ?_ | refine blk_alloc ?_ _)); refine blk_put (cs := #[.slice none 0 0, .int .i64 0]) ?_ 0 _ rfl; (with_reducible repeat (first | refine blk_drewN ?_ _ | refine blk_drew ?_ | refine blk_alloc ?_ _)); exact BK221.out⟩, ⟨Xi⟩⟩
        case round =>
         clear H'
         (try clear c2); (try clear c2b0); (try clear c3); (try clear c3b0); (try clear c4); (try clear c4b0); (try clear c5); (try clear c5b0); (try clear c5b1); (try clear c5b2); (try clear c12); (try clear c13); (try clear c13b0); (try clear c13b1); (try clear c13b2); (try clear c15); (try clear c15b0); (try clear c16); (try clear c16b0); (try clear c17); (try clear c17b0); (try clear hcz10_0); (try clear hcz10_1); (try clear hcz10_2); (try clear hcz14_0); (try clear hcz14_1); (try clear hcz14_2); (try clear hcz20_0); (try clear hcz20_1); (try clear hcz8_0); (try clear hcz8_1); (try clear hcz8_2); (try clear hfz10_0); (try clear hfz10_1); (try clear hfz10_2); (try clear hfz14_0); (try clear hfz14_1); (try clear hfz14_2); (try clear hfz20_0); (try clear hfz20_1); (try clear hfz8_0); (try clear hfz8_1); (try clear hfz8_2); (try clear hx218_0); (try clear hx218_1); (try clear hx218_2); (try clear hx220_0); (try clear hx220_1); (try clear p218); (try clear p220); (try clear q218); (try clear q220)
         obtain ⟨x9_3, x35_3, rfl, HA, HK3, HO_3, HO_9, BK219, BK221, HB⟩ := hrel
         cases gk with
         | zero => cases HA.out
         | succ k3 =>
          have H := HA.out
          clear HA
          simp only [impl_schemaLines.l2] at H
          obtain ⟨c21b0, H⟩ | ⟨c21b0, H⟩ := Xit H
          ·obtain ⟨c22b0, H⟩ := Xid H
           obtain ⟨c23b0, H⟩ := Xid H
           obtain ⟨ji24, hji24⟩ : ∃ j_ : Int, (wrap64 ((rd ((rd_T78 ((rd_T97 l0 x14_1).f2) x28_2).f0) x35_3) - 1)) = j_ := ⟨_, rfl⟩
           replace H : (if 0 ≤ (ji24) then (if (ji24) < (l0.length : Int) then (if x9_3.length < 8796093022208 then (impl_schemaLines.l2 k3 l0 x3_1 x6_2 (x9_3 ++ [(rd_T97 l0 (ji24)).f0]) l0 (l0.length : Int) x14_1 ((rd_T97 l0 x14_1).f2) (((rd_T97 l0 x14_1).f2).length : Int) x28_2 ((rd_T78 ((rd_T97 l0 x14_1).f2) x28_2).f0) (((rd_T78 ((rd_T97 l0 x14_1).f2) x28_2).f0).length : Int) (wrap64 (x35_3 + 1)) ((rd_T78 ((rd_T97 l0 x14_1).f2) x28_2).f0) ((rd_T78 ((rd_T97 l0 x14_1).f2) x28_2).f1)) else (none)) else (none)) else (none)) = some r := by first | (rw [hji24] at H; exact H) | (simp only [hji24] at H ⊢; exact H)
           have hji24w : (IntKind.i64.wrap ((rd ((rd_T78 ((rd_T97 l0 x14_1).f2) x28_2).f0) x35_3) - 1)) = ji24 := (i64_w _).trans hji24
           obtain ⟨c25b0, H⟩ := Xid H
           obtain ⟨c26b0, H⟩ := Xid H
           obtain ⟨c27, H⟩ := Xif H
           have LMc27 := Aside0.mk c27
           clear c27
           obtain ⟨y224, hy224⟩ : ∃ y_ : List ByteArray, y_ = (x9_3 ++ [(rd_T97 l0 (ji24)).f0]) := ⟨_, rfl⟩
           replace H : (impl_schemaLines.l2 k3 l0 x3_1 x6_2 y224 l0 (l0.length : Int) x14_1 ((rd_T97 l0 x14_1).f2) (((rd_T97 l0 x14_1).f2).length : Int) x28_2 ((rd_T78 ((rd_T97 l0 x14_1).f2) x28_2).f0) (((rd_T78 ((rd_T97 l0 x14_1).f2) x28_2).f0).length : Int) (wrap64 (x35_3 + 1)) ((rd_T78 ((rd_T97 l0 x14_1).f2) x28_2).f0) ((rd_T78 ((rd_T97 l0 x14_1).f2) x28_2).f1)) = some r := by first | (rw [hy224]; with_reducible exact H) | (have H2_ := (Option.bind_some _ _).symm.trans H; rw [hy224]; with_reducible exact H2_) | (have H2_ := (Option.bind_some _ _).symm.trans H; with_reducible exact H2_) | with_reducible exact H | (rw [hy224]; exact H) | exact H
           have Ny224 := Aside0.mk hy224
           clear hy224
           have H' := Aside0.mk H
           clear H
           have p222 : 0 ≤ (x35_3 : Int) := of_decide_eq_true Xa
           have q222 : x35_3 < (((rd_T78 ((rd_T97 l0 x14_1).f2) x28_2).f0).length : Int) := of_decide_eq_true Xa
           obtain ⟨ad222, e222, hx222_0⟩ := Kd.at_int HR220_0.out x35_3 p222 q222
           cases e222
           replace hx222_0 := Xm HB hx222_0
           replace p222 := eq_true p222
           replace q222 := eq_true q222
           have p223 : 0 ≤ ((ji24) : Int) := of_decide_eq_true Xa
           have q223 : (ji24) < (l0.length : Int) := of_decide_eq_true Xa
           obtain ⟨ad223, A223_2, c223_2, e223, hx223_0, hx223_1, hx223_2, hl223_2, hi223_2⟩ := at_T97 HR0.out (ji24) p223 q223
           (try rw [← Nbq11.out] at hx223_1)
           obtain rfl : ad218 = ad223 := (by injection e223)
           replace hx223_0 := Xm HB hx223_0
           replace hx223_1 := Xm HB hx223_1
           replace hx223_2 := Xm HB hx223_2
           have HR223_2 := Aside0.mk hi223_2
           have HC223_2 := Aside0.mk hl223_2
           clear hi223_2 hl223_2
           replace p223 := eq_true p223
           replace q223 := eq_true q223
           go_wp2_with (first | ((with_reducible refine gate_builtin (b := .append) (xs := #[.tmp 39, .tmp 46]) rfl ?_); at_builtin; refine Kd.R_append Kd.string (w0 := w) w.heap.size rfl (.tmp 39) (.tmp 46) 48 9 (.string ⟨#[]⟩) 16 rfl Try.underlying48 info9 rfl (by decide) (by omega) u9 x9_3 ((rd_T97 l0 (ji24)).f0) [.string ((rd_T97 l0 (ji24)).f0)] (fun k_ => some k_ ≠ (u3 : Value).ownBlock) (fun _ => False) rfl rfl ?aP (fun _ hk => hk.elim) ?aF ?aO ?aB ?aS ?aL ?_; (case aP => exact rfl); (case aB => exact Xi); (case aF => exact (fun k_ hk => Kd.fresh' (Kd.R_lt (Xq HO_3)) k_ hk)); (case aO => exact (Xq HO_9)); (case aS => exact (below_size Xi)); (case aL => have := LMc27.out; omega); intro v225 w28 ho hb hg hat; rw [← Ny224.out] at ho; replace HO_3 := Aside0.mk (Kd.R_after (ok := (fun _ => True)) (by (with_reducible repeat (first | apply Kd.R_alloc | apply Kd.R_drewN | apply Kd.R_drew)); exact Kd.R_mono HO_3.out (fun _ hk => ⟨trivial, hk⟩)) hg hat); replace BK219 := Aside0.mk (blk_grown (g := gb219) (o := .cells #[.string ((rd_T97 l0 x14_1).f0), .bool true, .slice (some ad220) ((rd_T97 l0 x14_1).f2).length c218_2] 97 (0, 0)) (Xq' BK219) hg (Kd.R_ne HO_9.out BK219.out (by decide))); replace BK221 := Aside0.mk (blk_grown (g := gb221) (o := .cells #[.slice (some ad222) ((rd_T78 ((rd_T97 l0 x14_1).f2) x28_2).f0).length c220_0, .int .i64 ((rd_T78 ((rd_T97 l0 x14_1).f2) x28_2).f1)] 78 (0, 0)) (Xq' BK221) hg (Kd.R_ne HO_9.out BK221.out (by decide))); replace HB := Aside0.mk (hb); have HO226 := Aside0.mk (ho); clear HO_9; clear ho hb hg hat))
           go_roundg k3
           case measure => have := HK1.out; have := HK2.out; have := HK3.out; omega
           case rel => exact ⟨(y224), (wrap64 (x35_3 + 1)), Xr, H', ⟨by have := HK1.out; have := HK2.out; have := HK3.out; omega⟩, ⟨by (with_reducible repeat (first | apply Kd.R_alloc | apply Kd.R_drewN | apply Kd.R_drew)); exact Kd.R_mono HO_3.out (fun _ hk => hk.2)⟩, (Xp' HO226), (Xp BK219), (Xp BK221), ⟨Xi⟩⟩
          ·obtain ⟨t227, A29, H⟩ := Xbi H
           (try dsimp only at H)
           obtain ⟨c30, H⟩ := Xif H
           have c30b0 := eq_true c30
           have c30b1 : decide (1 + t227.size ≤ 9223372036854775807) = true := decide_eq_true c30
           try have c30b2 : (9223372036854775807 < 1 + t227.size) = False := eq_false (Nat.not_lt.2 c30)
           obtain ⟨c31, H⟩ := Xif H
           have c31b0 := eq_true c31
           have c31b1 : decide (x6_2.size + ((⟨#[32]⟩ : ByteArray) ++ t227).size ≤ 9223372036854775807) = true := decide_eq_true c31
           try have c31b2 : (9223372036854775807 < x6_2.size + ((⟨#[32]⟩ : ByteArray) ++ t227).size) = False := eq_false (Nat.not_lt.2 c31)
           try have c31b3 : (9223372036854775807 < x6_2.size + 1 + t227.size) = False := eq_false (Nat.not_lt.2 (by have h_ := c31; simp only [ByteArray.size_append] at h_; exact h_))
           have HC32 := Aside0.mk H
           clear H
           obtain ⟨Ao33, co33, eo33⟩ := Kd.R_slice HO_9.out
           subst eo33
           go_upto_if 56 with (first | ((with_reducible refine gate_callee (f := 117) rfl ?_); refine Xgo 51 Try.func117 #[.slice Ao33 x9_3.length co33, .string (⟨#[124]⟩ : ByteArray)] ?_; (with_reducible refine (strings_Join.calls _ _ x9_3 (⟨#[124]⟩ : ByteArray) t227 _ ?side1 ?side2 A29.out).mono ?_); (case side1 => repeat (first | exact (Kd.R_reads' HO_9.out).2.2 | (with_reducible first | refine Kd.C_alloc ?_ _ | refine Kd.C_drewN ?_ _ | refine Kd.C_drew ?_))); (case side2 => exact (Kd.R_reads' HO_9.out).2.1); rintro e w34 ⟨rfl, hb⟩; refine ⟨_, rfl, ?_⟩; replace HO_3 := Aside0.mk (Kd.R_below (Xq HO_3) hb); replace HO_9 := Aside0.mk (Kd.R_below (Xq HO_9) hb); replace BK219 := Xbb BK219 hb; replace BK221 := Xbb BK221 hb; replace HB := Aside0.mk (below_step Xi hb); clear hb; have hnb35 := NB221_219.out; have hnc35 := NB219_221.out; obtain ⟨hcz36_0, hcz36_1⟩ := Xc2 BK221; obtain ⟨hfz36_0, hfz36_1⟩ := Xf2 BK221))
           have H := HC32.out
           clear HC32
           obtain ⟨c37, H⟩ | ⟨c37, H⟩ := Xiu H
           ·have c37b0 : (((rd_T78 ((rd_T97 l0 x14_1).f2) x28_2).f1) == 0) = true := beq_iff_eq.mpr c37
            have c37b1 : (((rd_T78 ((rd_T97 l0 x14_1).f2) x28_2).f1) != 0) = false := bne_eq_false_iff_eq.mpr c37
            clear c37
            (first | rw [c37b0] | (simp only [i64_w, i32_w]; rw [c37b0]) | skip)
            have H' := Aside0.mk H
            clear H
            go_wp2
            go_roundg k3
            case measure => have := HK1.out; have := HK2.out; have := HK3.out; omega
            case rel => exact ⟨(x6_2 ++ ((⟨#[32]⟩ : ByteArray) ++ t227)), (wrap64 (x28_2 + 1)), Xr, Xr, H', ⟨by have := HK1.out; have := HK2.out; have := HK3.out; omega⟩, ⟨by (with_reducible repeat (first | apply Kd.R_alloc | apply Kd.R_drewN | apply Kd.R_drew)); exact Kd.R_mono HO_3.out (fun _ hk => trivial)⟩, (Xp BK219), ⟨Xi⟩⟩
           ·have c37b0 : (((rd_T78 ((rd_T97 l0 x14_1).f2) x28_2).f1) == 0) = false := beq_eq_false_iff_ne.mpr c37
            have c37b1 : (((rd_T78 ((rd_T97 l0 x14_1).f2) x28_2).f1) != 0) = true := bne_iff_ne.mpr c37
            (first | rw [c37b0] | (simp only [i64_w, i32_w]; rw [c37b0]) | skip)
            obtain ⟨c38, H⟩ := Xif H
            have c38b0 := eq_true c38
            have c38b1 : decide (0 ≤ ((rd_T78 ((rd_T97 l0 x14_1).f2) x28_2).f1)) = true := decide_eq_true c38
            clear c38
            obtain ⟨c39, H⟩ := Xif H
            have c39b0 := eq_true c39
            have c39b1 : decide (((rd_T78 ((rd_T97 l0 x14_1).f2) x28_2).f1) ≤ (wrap64 (((rd_T78 ((rd_T97 l0 x14_1).f2) x28_2).f1) + 1))) = true := decide_eq_true c39
            obtain ⟨c40, H⟩ := Xif H
            have c40b0 := eq_true c40
            have c40b1 : decide ((wrap64 (((rd_T78 ((rd_T97 l0 x14_1).f2) x28_2).f1) + 1)) ≤ 4) = true := decide_eq_true c40
            obtain ⟨c41, H⟩ := Xif H
            have c41b0 := eq_true c41
            have c41b1 : decide ((x6_2 ++ ((⟨#[32]⟩ : ByteArray) ++ t227)).size + ((⟨#[32, 63, 42, 43]⟩ : ByteArray).extract (((rd_T78 ((rd_T97 l0 x14_1).f2) x28_2).f1) : Int).toNat ((wrap64 (((rd_T78 ((rd_T97 l0 x14_1).f2) x28_2).f1) + 1)) : Int).toNat).size ≤ 9223372036854775807) = true := decide_eq_true c41
            try have c41b2 : (9223372036854775807 < (x6_2 ++ ((⟨#[32]⟩ : ByteArray) ++ t227)).size + ((⟨#[32, 63, 42, 43]⟩ : ByteArray).extract (((rd_T78 ((rd_T97 l0 x14_1).f2) x28_2).f1) : Int).toNat ((wrap64 (((rd_T78 ((rd_T97 l0 x14_1).f2) x28_2).f1) + 1)) : Int).toNat).size) = False := eq_false (Nat.not_lt.2 c41)
            try have c41b3 : (9223372036854775807 < x6_2.size + 1 + t227.size + ((⟨#[32, 63, 42, 43]⟩ : ByteArray).extract (((rd_T78 ((rd_T97 l0 x14_1).f2) x28_2).f1) : Int).toNat ((wrap64 (((rd_T78 ((rd_T97 l0 x14_1).f2) x28_2).f1) + 1)) : Int).toNat).size) = False := eq_false (Nat.not_lt.2 (by have h_ := c41; simp only [ByteArray.size_append] at h_; exact h_))
            have H' := Aside0.mk H
            clear H
            have hnb42 := NB221_219.out
            have hnc42 := NB219_221.out
            obtain ⟨hcz43_0, hcz43_1⟩ := Xc2 BK221
            obtain ⟨hfz43_0, hfz43_1⟩ := Xf2 BK221
            go_wp2
            go_roundg k3
            case measure => have := HK1.out; have := HK2.out; have := HK3.out; omega
            case rel => exact ⟨((x6_2 ++ ((⟨#[32]⟩ : ByteArray) ++ t227)) ++ ((⟨#[32, 63, 42, 43]⟩ : ByteArray).extract (((rd_T78 ((rd_T97 l0 x14_1).f2) x28_2).f1) : Int).toNat ((wrap64 (((rd_T78 ((rd_T97 l0 x14_1).f2) x28_2).f1) + 1)) : Int).toNat)), (wrap64 (x28_2 + 1)), Xr, Xr, H', ⟨by have := HK1.out; have := HK2.out; have := HK3.out; omega⟩, ⟨by (with_reducible repeat (first | apply Kd.R_alloc | apply Kd.R_drewN | apply Kd.R_drew)); exact Kd.R_mono HO_3.out (fun _ hk => trivial)⟩, (Xp BK219), ⟨Xi⟩⟩
       ·obtain ⟨c44, H⟩ := Xif H
        have LMc44 := Aside0.mk c44
        clear c44
        obtain ⟨y228, hy228⟩ : ∃ y_ : List ByteArray, y_ = (x3_1 ++ [x6_2]) := ⟨_, rfl⟩
        replace H : (impl_schemaLines.l0 k2 l0 y228 l0 (l0.length : Int) (wrap64 (x14_1 + 1))) = some r := by first | (rw [hy228]; with_reducible exact H) | (have H2_ := (Option.bind_some _ _).symm.trans H; rw [hy228]; with_reducible exact H2_) | (have H2_ := (Option.bind_some _ _).symm.trans H; with_reducible exact H2_) | with_reducible exact H | (rw [hy228]; exact H) | exact H
        have Ny228 := Aside0.mk hy228
        clear hy228
        have H' := Aside0.mk H
        clear H
        go_wp2_with (first | ((with_reducible refine gate_builtin (b := .append) (xs := #[.tmp 66, .tmp 68]) rfl ?_); at_builtin; refine Kd.R_append Kd.string (w0 := w) w.heap.size rfl (.tmp 66) (.tmp 68) 48 9 (.string ⟨#[]⟩) 16 rfl Try.underlying48 info9 rfl (by decide) (by omega) u3 x3_1 x6_2 [.string x6_2] (fun _ => True) (fun _ => False) rfl rfl ?aP (fun _ hk => hk.elim) ?aF ?aO ?aB ?aS ?aL ?_; (case aP => exact rfl); (case aB => exact Xi); (case aF => exact (fun _ _ => trivial)); (case aO => exact (Xq HO_3)); (case aS => exact (below_size Xi)); (case aL => have := LMc44.out; omega); intro v229 w45 ho hb hg hat; rw [← Ny228.out] at ho; replace BK219 := Aside0.mk (blk_grown (g := gb219) (o := .cells #[.string ((rd_T97 l0 x14_1).f0), .bool true, .slice A218_2 ((rd_T97 l0 x14_1).f2).length c218_2] 97 (0, 0)) (Xq' BK219) hg (Kd.R_ne HO_3.out BK219.out (by decide))); replace HB := Aside0.mk (hb); have HO230 := Aside0.mk (ho); clear HO_3; clear ho hb hg hat))
        go_roundg k2
        case measure => have := HK1.out; have := HK2.out; omega
        case rel => exact ⟨(y228), (wrap64 (x14_1 + 1)), Xr, H', ⟨by have := HK1.out; have := HK2.out; omega⟩, (Xp' HO230), ⟨Xi⟩⟩
    ·replace c12 := Bool.eq_false_iff.mpr c12
     subst c12
     (first | rw [if_neg (show ¬ (false = true) by decide)] at H | skip)
     have H' := Aside0.mk H
     clear H
     obtain ⟨hcz46_0, hcz46_1, hcz46_2⟩ := Xc3 BK219
     obtain ⟨hfz46_0, hfz46_1, hfz46_2⟩ := Xf3 BK219
     go_wp2
     go_loopg [6, 28] k1 (fun kq v6 v28 w' => ∃ (x6_2 : ByteArray) (x28_2 : Int), v6 = .string x6_2 ∧ v28 = .int .i64 x28_2 ∧ Aside0 (impl_schemaLines.l1 kq l0 x3_1 x6_2 l0 (l0.length : Int) x14_1 ((rd_T97 l0 x14_1).f2) (((rd_T97 l0 x14_1).f2).length : Int) x28_2 = some r) ∧ Aside0 (kq ≤ k1) ∧ Aside0 (Kd.R Kd.string 9 w' w.heap.size (fun _ => True) u3 x3_1) ∧ Aside0 (w'.heap[gb219]? = some (.cells #[.string ((rd_T97 l0 x14_1).f0), .bool false, (.slice A218_2 ((rd_T97 l0 x14_1).f2).length c218_2)] 97 (0, 0))) ∧ Aside0 (Below w.heap.size w w'))
     case atStart => exact ⟨(((rd_T97 l0 x14_1).f0) ++ (⟨#[58]⟩ : ByteArray)), (0), Xr, Xr, H', Xkr, (Xp' HO_3), (Xp BK219), ⟨Xi⟩⟩
     case round =>
      clear H'
      (try clear c2); (try clear c2b0); (try clear c3); (try clear c3b0); (try clear c4); (try clear c4b0); (try clear c5); (try clear c5b0); (try clear c5b1); (try clear c5b2); (try clear c12); (try clear hcz10_0); (try clear hcz10_1); (try clear hcz10_2); (try clear hcz46_0); (try clear hcz46_1); (try clear hcz46_2); (try clear hcz8_0); (try clear hcz8_1); (try clear hcz8_2); (try clear hfz10_0); (try clear hfz10_1); (try clear hfz10_2); (try clear hfz46_0); (try clear hfz46_1); (try clear hfz46_2); (try clear hfz8_0); (try clear hfz8_1); (try clear hfz8_2); (try clear hx218_0); (try clear hx218_1); (try clear hx218_2); (try clear p218); (try clear q218)
      obtain ⟨x6_2, x28_2, rfl, rfl, HA, HK2, HO_3, BK219, HB⟩ := hrel
      cases gk with
      | zero => cases HA.out
      | succ k2 =>
       have H := HA.out
       clear HA
       simp only [impl_schemaLines.l1] at H
       obtain ⟨c47b0, H⟩ | ⟨c47b0, H⟩ := Xit H
       ·obtain ⟨c48b0, H⟩ := Xid H
        obtain ⟨c49b0, H⟩ := Xid H
        have H' := Aside0.mk H
        clear H
        obtain ⟨ad220, A220_0, c220_0, e220, p220, q220, hx220_0, hx220_1, HC220_0, HR220_0⟩ := at_B78 HR218_2 x28_2 Xa Xa HB
        cases e220
        go_wp2_with (first | ((with_reducible refine gate_dst (N := 8) rfl ?_); refine Xbox 8 #[.slice none 0 0, .int .i64 0] 78 ?_; intro gb221 hg w50 hbox hb; replace HO_3 := Aside0.mk (Kd.R_below (Xq HO_3) hb); have BK221 := Aside0.mk (hbox); have GE221 := Xge hg Xi; have GW221 := GE221; replace HB := Aside0.mk (below_step Xi hb); have NB219_221 := Xnb hg BK219; have NB221_219 := Xns NB219_221; replace BK219 := Xbb BK219 hb; clear hb hbox hg; have hnb51 := NB221_219.out; have hnc51 := NB219_221.out; obtain ⟨hcz52_0, hcz52_1⟩ := Xc2 BK221; obtain ⟨hfz52_0, hfz52_1⟩ := Xf2 BK221))
        go_loopg [9, 35] k2 (fun kq v9 v35 w' => ∃ (x9_3 : List ByteArray) (x35_3 : Int), v35 = .int .i64 x35_3 ∧ Aside0 (impl_schemaLines.l2 kq l0 x3_1 x6_2 x9_3 l0 (l0.length : Int) x14_1 ((rd_T97 l0 x14_1).f2) (((rd_T97 l0 x14_1).f2).length : Int) x28_2 ((rd_T78 ((rd_T97 l0 x14_1).f2) x28_2).f0) (((rd_T78 ((rd_T97 l0 x14_1).f2) x28_2).f0).length : Int) x35_3 ((rd_T78 ((rd_T97 l0 x14_1).f2) x28_2).f0) ((rd_T78 ((rd_T97 l0 x14_1).f2) x28_2).f1) = some r) ∧ Aside0 (kq ≤ k2) ∧ Aside0 (Kd.R Kd.string 9 w' w.heap.size (fun k_ => some k_ ≠ (v9 : Value).ownBlock) u3 x3_1) ∧ Aside0 (Kd.R Kd.string 9 w' w.heap.size (fun k_ => some k_ ≠ (u3 : Value).ownBlock) v9 x9_3) ∧ Aside0 (w'.heap[gb219]? = some (.cells #[.string ((rd_T97 l0 x14_1).f0), .bool false, (.slice (some ad220) ((rd_T97 l0 x14_1).f2).length c218_2)] 97 (0, 0))) ∧ Aside0 (w'.heap[gb221]? = some (.cells #[(.slice A220_0 ((rd_T78 ((rd_T97 l0 x14_1).f2) x28_2).f0).length c220_0), .int .i64 ((rd_T78 ((rd_T97 l0 x14_1).f2) x28_2).f1)] 78 (0, 0))) ∧ Aside0 (Below w.heap.size w w'))
        case atStart => exact ⟨(([] : List ByteArray)), (0), Xr, H', Xkr, ⟨by (with_reducible repeat (first | apply Kd.R_alloc | apply Kd.R_drewN | apply Kd.R_drew)); exact Kd.R_mono (Kd.R_far (p := ⟨gb221, 1, none⟩) (Kd.R_far (p := ⟨gb221, 0, none⟩) (Kd.R_types HO_3.out BK221.out (by decide)) (fun _ hk => hk.2) (.slice A220_0 ((rd_T78 ((rd_T97 l0 x14_1).f2) x28_2).f0).length c220_0)) (fun _ hk => hk.2) (.int .i64 ((rd_T78 ((rd_T97 l0 x14_1).f2) x28_2).f1))) (fun _ hk => (by simp [Value.ownBlock]))⟩, ⟨by first | exact Kd.R_nil _ _ _ _ _ | exact Kd.N_nil _ _ _ _ _ | exact Kd.V_nil _ _ _ _ _ | exact Kd.Q_nil _ _ _ _ _ | exact Kd.S_nil _ _ _ _ _⟩, ⟨by (with_reducible repeat (first | refine blk_drewN ?_ _ | refine blk_drew ?_ | refine blk_alloc ?_ _)); refine blk_far ?_ NB219_221.out _; (with_reducible repeat (first | refine blk_drewN ?_ _ | refine blk_drew ?_ | refine blk_alloc ?_ _)); refine blk_far ?_ NB219_221.out _; (with_reducible repeat (first | refine blk_drewN ?_ _ | refine blk_drew ?_ | refine blk_alloc ?_ _)); exact BK219.out⟩, ⟨by (with_reducible repeat (first | refine blk_drewN ?_ _ | refine blk_drew ?_ | refine blk_alloc ?_ _)); refine blk_put (cs := #[.slice A220_0 ((rd_T78 ((rd_T97 l0 x14_1).f2) x28_2).f0).length c220_0, .int .i64 0]) ?_ 1 _ rfl; (with_reducible repeat (first | refine blk_drewN ?_ _ | refine blk_drew ?_ | refine blk_alloc ?_ _)); refine blk_put (cs := #[.slice none 0 0, .int .i64 0]) ?_ 0 _ rfl; (with_reducible repeat (first | refine blk_drewN ?_ _ | refine blk_drew ?_ | refine blk_alloc ?_ _)); exact BK221.out⟩, ⟨Xi⟩⟩
        case round =>
         clear H'
         (try clear c2); (try clear c2b0); (try clear c3); (try clear c3b0); (try clear c4); (try clear c4b0); (try clear c5); (try clear c5b0); (try clear c5b1); (try clear c5b2); (try clear c12); (try clear c47); (try clear c47b0); (try clear c48); (try clear c48b0); (try clear c49); (try clear c49b0); (try clear hcz10_0); (try clear hcz10_1); (try clear hcz10_2); (try clear hcz46_0); (try clear hcz46_1); (try clear hcz46_2); (try clear hcz52_0); (try clear hcz52_1); (try clear hcz8_0); (try clear hcz8_1); (try clear hcz8_2); (try clear hfz10_0); (try clear hfz10_1); (try clear hfz10_2); (try clear hfz46_0); (try clear hfz46_1); (try clear hfz46_2); (try clear hfz52_0); (try clear hfz52_1); (try clear hfz8_0); (try clear hfz8_1); (try clear hfz8_2); (try clear hx218_0); (try clear hx218_1); (try clear hx218_2); (try clear hx220_0); (try clear hx220_1); (try clear p218); (try clear p220); (try clear q218); (try clear q220)
         obtain ⟨x9_3, x35_3, rfl, HA, HK3, HO_3, HO_9, BK219, BK221, HB⟩ := hrel
         cases gk with
         | zero => cases HA.out
         | succ k3 =>
          have H := HA.out
          clear HA
          simp only [impl_schemaLines.l2] at H
          obtain ⟨c53b0, H⟩ | ⟨c53b0, H⟩ := Xit H
          ·obtain ⟨c54b0, H⟩ := Xid H
           obtain ⟨c55b0, H⟩ := Xid H
           obtain ⟨ji56, hji56⟩ : ∃ j_ : Int, (wrap64 ((rd ((rd_T78 ((rd_T97 l0 x14_1).f2) x28_2).f0) x35_3) - 1)) = j_ := ⟨_, rfl⟩
           replace H : (if 0 ≤ (ji56) then (if (ji56) < (l0.length : Int) then (if x9_3.length < 8796093022208 then (impl_schemaLines.l2 k3 l0 x3_1 x6_2 (x9_3 ++ [(rd_T97 l0 (ji56)).f0]) l0 (l0.length : Int) x14_1 ((rd_T97 l0 x14_1).f2) (((rd_T97 l0 x14_1).f2).length : Int) x28_2 ((rd_T78 ((rd_T97 l0 x14_1).f2) x28_2).f0) (((rd_T78 ((rd_T97 l0 x14_1).f2) x28_2).f0).length : Int) (wrap64 (x35_3 + 1)) ((rd_T78 ((rd_T97 l0 x14_1).f2) x28_2).f0) ((rd_T78 ((rd_T97 l0 x14_1).f2) x28_2).f1)) else (none)) else (none)) else (none)) = some r := by first | (rw [hji56] at H; exact H) | (simp only [hji56] at H ⊢; exact H)
           have hji56w : (IntKind.i64.wrap ((rd ((rd_T78 ((rd_T97 l0 x14_1).f2) x28_2).f0) x35_3) - 1)) = ji56 := (i64_w _).trans hji56
           obtain ⟨c57b0, H⟩ := Xid H
           obtain ⟨c58b0, H⟩ := Xid H
           obtain ⟨c59, H⟩ := Xif H
           have LMc59 := Aside0.mk c59
           clear c59
           obtain ⟨y224, hy224⟩ : ∃ y_ : List ByteArray, y_ = (x9_3 ++ [(rd_T97 l0 (ji56)).f0]) := ⟨_, rfl⟩
           replace H : (impl_schemaLines.l2 k3 l0 x3_1 x6_2 y224 l0 (l0.length : Int) x14_1 ((rd_T97 l0 x14_1).f2) (((rd_T97 l0 x14_1).f2).length : Int) x28_2 ((rd_T78 ((rd_T97 l0 x14_1).f2) x28_2).f0) (((rd_T78 ((rd_T97 l0 x14_1).f2) x28_2).f0).length : Int) (wrap64 (x35_3 + 1)) ((rd_T78 ((rd_T97 l0 x14_1).f2) x28_2).f0) ((rd_T78 ((rd_T97 l0 x14_1).f2) x28_2).f1)) = some r := by first | (rw [hy224]; with_reducible exact H) | (have H2_ := (Option.bind_some _ _).symm.trans H; rw [hy224]; with_reducible exact H2_) | (have H2_ := (Option.bind_some _ _).symm.trans H; with_reducible exact H2_) | with_reducible exact H | (rw [hy224]; exact H) | exact H
           have Ny224 := Aside0.mk hy224
           clear hy224
           have H' := Aside0.mk H
           clear H
           have p222 : 0 ≤ (x35_3 : Int) := of_decide_eq_true Xa
           have q222 : x35_3 < (((rd_T78 ((rd_T97 l0 x14_1).f2) x28_2).f0).length : Int) := of_decide_eq_true Xa
           obtain ⟨ad222, e222, hx222_0⟩ := Kd.at_int HR220_0.out x35_3 p222 q222
           cases e222
           replace hx222_0 := Xm HB hx222_0
           replace p222 := eq_true p222
           replace q222 := eq_true q222
           have p223 : 0 ≤ ((ji56) : Int) := of_decide_eq_true Xa
           have q223 : (ji56) < (l0.length : Int) := of_decide_eq_true Xa
           obtain ⟨ad223, A223_2, c223_2, e223, hx223_0, hx223_1, hx223_2, hl223_2, hi223_2⟩ := at_T97 HR0.out (ji56) p223 q223
           (try rw [← Nbq11.out] at hx223_1)
           obtain rfl : ad218 = ad223 := (by injection e223)
           replace hx223_0 := Xm HB hx223_0
           replace hx223_1 := Xm HB hx223_1
           replace hx223_2 := Xm HB hx223_2
           have HR223_2 := Aside0.mk hi223_2
           have HC223_2 := Aside0.mk hl223_2
           clear hi223_2 hl223_2
           replace p223 := eq_true p223
           replace q223 := eq_true q223
           go_wp2_with (first | ((with_reducible refine gate_builtin (b := .append) (xs := #[.tmp 39, .tmp 46]) rfl ?_); at_builtin; refine Kd.R_append Kd.string (w0 := w) w.heap.size rfl (.tmp 39) (.tmp 46) 48 9 (.string ⟨#[]⟩) 16 rfl Try.underlying48 info9 rfl (by decide) (by omega) u9 x9_3 ((rd_T97 l0 (ji56)).f0) [.string ((rd_T97 l0 (ji56)).f0)] (fun k_ => some k_ ≠ (u3 : Value).ownBlock) (fun _ => False) rfl rfl ?aP (fun _ hk => hk.elim) ?aF ?aO ?aB ?aS ?aL ?_; (case aP => exact rfl); (case aB => exact Xi); (case aF => exact (fun k_ hk => Kd.fresh' (Kd.R_lt (Xq HO_3)) k_ hk)); (case aO => exact (Xq HO_9)); (case aS => exact (below_size Xi)); (case aL => have := LMc59.out; omega); intro v225 w60 ho hb hg hat; rw [← Ny224.out] at ho; replace HO_3 := Aside0.mk (Kd.R_after (ok := (fun _ => True)) (by (with_reducible repeat (first | apply Kd.R_alloc | apply Kd.R_drewN | apply Kd.R_drew)); exact Kd.R_mono HO_3.out (fun _ hk => ⟨trivial, hk⟩)) hg hat); replace BK219 := Aside0.mk (blk_grown (g := gb219) (o := .cells #[.string ((rd_T97 l0 x14_1).f0), .bool false, .slice (some ad220) ((rd_T97 l0 x14_1).f2).length c218_2] 97 (0, 0)) (Xq' BK219) hg (Kd.R_ne HO_9.out BK219.out (by decide))); replace BK221 := Aside0.mk (blk_grown (g := gb221) (o := .cells #[.slice (some ad222) ((rd_T78 ((rd_T97 l0 x14_1).f2) x28_2).f0).length c220_0, .int .i64 ((rd_T78 ((rd_T97 l0 x14_1).f2) x28_2).f1)] 78 (0, 0)) (Xq' BK221) hg (Kd.R_ne HO_9.out BK221.out (by decide))); replace HB := Aside0.mk (hb); have HO226 := Aside0.mk (ho); clear HO_9; clear ho hb hg hat))
           go_roundg k3
           case measure => have := HK1.out; have := HK2.out; have := HK3.out; omega
           case rel => exact ⟨(y224), (wrap64 (x35_3 + 1)), Xr, H', ⟨by have := HK1.out; have := HK2.out; have := HK3.out; omega⟩, ⟨by (with_reducible repeat (first | apply Kd.R_alloc | apply Kd.R_drewN | apply Kd.R_drew)); exact Kd.R_mono HO_3.out (fun _ hk => hk.2)⟩, (Xp' HO226), (Xp BK219), (Xp BK221), ⟨Xi⟩⟩
          ·obtain ⟨t227, A61, H⟩ := Xbi H
           (try dsimp only at H)
           obtain ⟨c62, H⟩ := Xif H
           have c62b0 := eq_true c62
           have c62b1 : decide (1 + t227.size ≤ 9223372036854775807) = true := decide_eq_true c62
           try have c62b2 : (9223372036854775807 < 1 + t227.size) = False := eq_false (Nat.not_lt.2 c62)
           obtain ⟨c63, H⟩ := Xif H
           have c63b0 := eq_true c63
           have c63b1 : decide (x6_2.size + ((⟨#[32]⟩ : ByteArray) ++ t227).size ≤ 9223372036854775807) = true := decide_eq_true c63
           try have c63b2 : (9223372036854775807 < x6_2.size + ((⟨#[32]⟩ : ByteArray) ++ t227).size) = False := eq_false (Nat.not_lt.2 c63)
           try have c63b3 : (9223372036854775807 < x6_2.size + 1 + t227.size) = False := eq_false (Nat.not_lt.2 (by have h_ := c63; simp only [ByteArray.size_append] at h_; exact h_))
           have HC64 := Aside0.mk H
           clear H
           obtain ⟨Ao65, co65, eo65⟩ := Kd.R_slice HO_9.out
           subst eo65
           go_upto_if 56 with (first | ((with_reducible refine gate_callee (f := 117) rfl ?_); refine Xgo 51 Try.func117 #[.slice Ao65 x9_3.length co65, .string (⟨#[124]⟩ : ByteArray)] ?_; (with_reducible refine (strings_Join.calls _ _ x9_3 (⟨#[124]⟩ : ByteArray) t227 _ ?side1 ?side2 A61.out).mono ?_); (case side1 => repeat (first | exact (Kd.R_reads' HO_9.out).2.2 | (with_reducible first | refine Kd.C_alloc ?_ _ | refine Kd.C_drewN ?_ _ | refine Kd.C_drew ?_))); (case side2 => exact (Kd.R_reads' HO_9.out).2.1); rintro e w66 ⟨rfl, hb⟩; refine ⟨_, rfl, ?_⟩; replace HO_3 := Aside0.mk (Kd.R_below (Xq HO_3) hb); replace HO_9 := Aside0.mk (Kd.R_below (Xq HO_9) hb); replace BK219 := Xbb BK219 hb; replace BK221 := Xbb BK221 hb; replace HB := Aside0.mk (below_step Xi hb); clear hb; have hnb67 := NB221_219.out; have hnc67 := NB219_221.out; obtain ⟨hcz68_0, hcz68_1⟩ := Xc2 BK221; obtain ⟨hfz68_0, hfz68_1⟩ := Xf2 BK221))
           have H := HC64.out
           clear HC64
           obtain ⟨c69, H⟩ | ⟨c69, H⟩ := Xiu H
           ·have c69b0 : (((rd_T78 ((rd_T97 l0 x14_1).f2) x28_2).f1) == 0) = true := beq_iff_eq.mpr c69
            have c69b1 : (((rd_T78 ((rd_T97 l0 x14_1).f2) x28_2).f1) != 0) = false := bne_eq_false_iff_eq.mpr c69
            clear c69
            (first | rw [c69b0] | (simp only [i64_w, i32_w]; rw [c69b0]) | skip)
            have H' := Aside0.mk H
            clear H
            go_wp2
            go_roundg k3
            case measure => have := HK1.out; have := HK2.out; have := HK3.out; omega
            case rel => exact ⟨(x6_2 ++ ((⟨#[32]⟩ : ByteArray) ++ t227)), (wrap64 (x28_2 + 1)), Xr, Xr, H', ⟨by have := HK1.out; have := HK2.out; have := HK3.out; omega⟩, ⟨by (with_reducible repeat (first | apply Kd.R_alloc | apply Kd.R_drewN | apply Kd.R_drew)); exact Kd.R_mono HO_3.out (fun _ hk => trivial)⟩, (Xp BK219), ⟨Xi⟩⟩
           ·have c69b0 : (((rd_T78 ((rd_T97 l0 x14_1).f2) x28_2).f1) == 0) = false := beq_eq_false_iff_ne.mpr c69
            have c69b1 : (((rd_T78 ((rd_T97 l0 x14_1).f2) x28_2).f1) != 0) = true := bne_iff_ne.mpr c69
            (first | rw [c69b0] | (simp only [i64_w, i32_w]; rw [c69b0]) | skip)
            obtain ⟨c70, H⟩ := Xif H
            have c70b0 := eq_true c70
            have c70b1 : decide (0 ≤ ((rd_T78 ((rd_T97 l0 x14_1).f2) x28_2).f1)) = true := decide_eq_true c70
            clear c70
            obtain ⟨c71, H⟩ := Xif H
            have c71b0 := eq_true c71
            have c71b1 : decide (((rd_T78 ((rd_T97 l0 x14_1).f2) x28_2).f1) ≤ (wrap64 (((rd_T78 ((rd_T97 l0 x14_1).f2) x28_2).f1) + 1))) = true := decide_eq_true c71
            obtain ⟨c72, H⟩ := Xif H
            have c72b0 := eq_true c72
            have c72b1 : decide ((wrap64 (((rd_T78 ((rd_T97 l0 x14_1).f2) x28_2).f1) + 1)) ≤ 4) = true := decide_eq_true c72
            obtain ⟨c73, H⟩ := Xif H
            have c73b0 := eq_true c73
            have c73b1 : decide ((x6_2 ++ ((⟨#[32]⟩ : ByteArray) ++ t227)).size + ((⟨#[32, 63, 42, 43]⟩ : ByteArray).extract (((rd_T78 ((rd_T97 l0 x14_1).f2) x28_2).f1) : Int).toNat ((wrap64 (((rd_T78 ((rd_T97 l0 x14_1).f2) x28_2).f1) + 1)) : Int).toNat).size ≤ 9223372036854775807) = true := decide_eq_true c73
            try have c73b2 : (9223372036854775807 < (x6_2 ++ ((⟨#[32]⟩ : ByteArray) ++ t227)).size + ((⟨#[32, 63, 42, 43]⟩ : ByteArray).extract (((rd_T78 ((rd_T97 l0 x14_1).f2) x28_2).f1) : Int).toNat ((wrap64 (((rd_T78 ((rd_T97 l0 x14_1).f2) x28_2).f1) + 1)) : Int).toNat).size) = False := eq_false (Nat.not_lt.2 c73)
            try have c73b3 : (9223372036854775807 < x6_2.size + 1 + t227.size + ((⟨#[32, 63, 42, 43]⟩ : ByteArray).extract (((rd_T78 ((rd_T97 l0 x14_1).f2) x28_2).f1) : Int).toNat ((wrap64 (((rd_T78 ((rd_T97 l0 x14_1).f2) x28_2).f1) + 1)) : Int).toNat).size) = False := eq_false (Nat.not_lt.2 (by have h_ := c73; simp only [ByteArray.size_append] at h_; exact h_))
            have H' := Aside0.mk H
            clear H
            have hnb74 := NB221_219.out
            have hnc74 := NB219_221.out
            obtain ⟨hcz75_0, hcz75_1⟩ := Xc2 BK221
            obtain ⟨hfz75_0, hfz75_1⟩ := Xf2 BK221
            go_wp2
            go_roundg k3
            case measure => have := HK1.out; have := HK2.out; have := HK3.out; omega
            case rel => exact ⟨((x6_2 ++ ((⟨#[32]⟩ : ByteArray) ++ t227)) ++ ((⟨#[32, 63, 42, 43]⟩ : ByteArray).extract (((rd_T78 ((rd_T97 l0 x14_1).f2) x28_2).f1) : Int).toNat ((wrap64 (((rd_T78 ((rd_T97 l0 x14_1).f2) x28_2).f1) + 1)) : Int).toNat)), (wrap64 (x28_2 + 1)), Xr, Xr, H', ⟨by have := HK1.out; have := HK2.out; have := HK3.out; omega⟩, ⟨by (with_reducible repeat (first | apply Kd.R_alloc | apply Kd.R_drewN | apply Kd.R_drew)); exact Kd.R_mono HO_3.out (fun _ hk => trivial)⟩, (Xp BK219), ⟨Xi⟩⟩
       ·obtain ⟨c76, H⟩ := Xif H
        have LMc76 := Aside0.mk c76
        clear c76
        obtain ⟨y228, hy228⟩ : ∃ y_ : List ByteArray, y_ = (x3_1 ++ [x6_2]) := ⟨_, rfl⟩
        replace H : (impl_schemaLines.l0 k2 l0 y228 l0 (l0.length : Int) (wrap64 (x14_1 + 1))) = some r := by first | (rw [hy228]; with_reducible exact H) | (have H2_ := (Option.bind_some _ _).symm.trans H; rw [hy228]; with_reducible exact H2_) | (have H2_ := (Option.bind_some _ _).symm.trans H; with_reducible exact H2_) | with_reducible exact H | (rw [hy228]; exact H) | exact H
        have Ny228 := Aside0.mk hy228
        clear hy228
        have H' := Aside0.mk H
        clear H
        go_wp2_with (first | ((with_reducible refine gate_builtin (b := .append) (xs := #[.tmp 66, .tmp 68]) rfl ?_); at_builtin; refine Kd.R_append Kd.string (w0 := w) w.heap.size rfl (.tmp 66) (.tmp 68) 48 9 (.string ⟨#[]⟩) 16 rfl Try.underlying48 info9 rfl (by decide) (by omega) u3 x3_1 x6_2 [.string x6_2] (fun _ => True) (fun _ => False) rfl rfl ?aP (fun _ hk => hk.elim) ?aF ?aO ?aB ?aS ?aL ?_; (case aP => exact rfl); (case aB => exact Xi); (case aF => exact (fun _ _ => trivial)); (case aO => exact (Xq HO_3)); (case aS => exact (below_size Xi)); (case aL => have := LMc76.out; omega); intro v229 w77 ho hb hg hat; rw [← Ny228.out] at ho; replace BK219 := Aside0.mk (blk_grown (g := gb219) (o := .cells #[.string ((rd_T97 l0 x14_1).f0), .bool false, .slice A218_2 ((rd_T97 l0 x14_1).f2).length c218_2] 97 (0, 0)) (Xq' BK219) hg (Kd.R_ne HO_3.out BK219.out (by decide))); replace HB := Aside0.mk (hb); have HO230 := Aside0.mk (ho); clear HO_3; clear ho hb hg hat))
        go_roundg k2
        case measure => have := HK1.out; have := HK2.out; omega
        case rel => exact ⟨(y228), (wrap64 (x14_1 + 1)), Xr, H', ⟨by have := HK1.out; have := HK2.out; omega⟩, (Xp' HO230), ⟨Xi⟩⟩
   ·obtain rfl := Option.some.inj H
    go_wp2
    go_ret
    exact ⟨_, Xe, Xq HO_3, Xi⟩

/-! ### impl_SchemaLines: function 27 -/
def impl_SchemaLines.f (k : Nat) (l0 : List (S97)) : Option (List ByteArray × Int) := (impl_isLongList_impl_Rule.f l0).bind fun t231 => (if t231 = true then (some (([] : List ByteArray), 2)) else ((impl_SchemaOK.f k l0).bind fun t232 => (if t232 = true then ((impl_schemaLines.f k l0).bind fun t233 => (some (t233, 0))) else (some (([] : List ByteArray), 1)))))
set_option maxHeartbeats 8000000 in
set_option maxRecDepth 100000 in
theorem impl_SchemaLines.calls (k : Nat) (A0 : Option Addr) (c0 : Nat) (l0 : List (S97)) (r1 : List ByteArray) (r2 : Int) (w : World) (hr0 : Kd.C k97 w A0 l0.length l0) (hc0 : l0.length ≤ c0) (h : impl_SchemaLines.f k l0 = some (r1, r2)) :
  Calls Try.prog 27 #[.slice A0 l0.length c0] w fun e w' => ∃ v0_ : Value, e = .returned (.tuple #[v0_, .int .i64 r2]) ∧ Kd.R Kd.string 9 w' w.heap.size (fun _ => True) v0_ r1 ∧ Below w.heap.size w w' := by
 have HR0 := Aside0.mk hr0
 have HC0 := Aside0.mk hc0
 clear hr0 hc0
 have HB := Aside0.mk (Below.refl w.heap.size w)
 have H : ((impl_isLongList_impl_Rule.f l0).bind fun t231 => (if t231 = true then (some (([] : List ByteArray), 2)) else ((impl_SchemaOK.f k l0).bind fun t232 => (if t232 = true then ((impl_schemaLines.f k l0).bind fun t233 => (some (t233, 0))) else (some (([] : List ByteArray), 1)))))) = some (r1, r2) := h
 clear h
 obtain ⟨t231, A2, H⟩ := Xbi H
 (try dsimp only at H)
 have HC3 := Aside0.mk H
 clear H
 go_enter Try.func27, Try.ntmps27
 go_upto_if 4 with (first | ((with_reducible refine gate_callee (f := 68) rfl ?_); refine Xgo 6 Try.func68 #[.slice A0 l0.length c0] ?_; (with_reducible refine (impl_isLongList_impl_Rule.calls _ _ l0 t231 _ ?side1 ?side2 A2.out).mono ?_); (case side1 => repeat (first | exact HR0.out | (with_reducible first | refine Kd.C_alloc ?_ _ | refine Kd.C_drewN ?_ _ | refine Kd.C_drew ?_))); (case side2 => exact HC0.out); rintro e w' ⟨rfl, ⟨nd, rfl⟩⟩; refine ⟨_, rfl, ?_⟩))
 have H := HC3.out
 clear HC3
 by_cases c4 : t231 = true
 ·subst c4
  (first | rw [if_pos rfl] at H | skip)
  simp only [Option.some.injEq, Prod.mk.injEq] at H
  obtain ⟨rfl, rfl⟩ := H
  go_wp2
  go_ret2
  exact ⟨_, Xe, by first | exact Kd.R_nil _ _ _ _ _ | exact Kd.N_nil _ _ _ _ _ | exact Kd.V_nil _ _ _ _ _ | exact Kd.Q_nil _ _ _ _ _ | exact Kd.S_nil _ _ _ _ _, Xi⟩
 ·replace c4 := Bool.eq_false_iff.mpr c4
  subst c4
  (first | rw [if_neg (show ¬ (false = true) by decide)] at H | skip)
  obtain ⟨t232, A5, H⟩ := Xbi H
  (try dsimp only at H)
  have HC6 := Aside0.mk H
  clear H
  go_upto_if 7 with (first | ((with_reducible refine gate_callee (f := 69) rfl ?_); refine Xgo 9 Try.func69 #[.slice A0 l0.length c0] ?_; (with_reducible refine (impl_SchemaOK.calls k _ _ l0 t232 _ ?side1 ?side2 A5.out).mono ?_); (case side1 => exact Xc HR0); (case side2 => exact HC0.out); rintro e w7 ⟨rfl, hb⟩; refine ⟨_, rfl, ?_⟩; replace HB := Aside0.mk (below_step Xi hb); clear hb))
  have H := HC6.out
  clear HC6
  by_cases c8 : t232 = true
  ·subst c8
   (first | rw [if_pos rfl] at H | skip)
   obtain ⟨t233, A9, H⟩ := Xbi H
   (try dsimp only at H)
   simp only [Option.some.injEq, Prod.mk.injEq] at H
   obtain ⟨rfl, rfl⟩ := H
   go_wp2_with (first | ((with_reducible refine gate_callee (f := 70) rfl ?_); refine Xgo 12 Try.func70 #[.slice A0 l0.length c0] ?_; (with_reducible refine (impl_schemaLines.calls k _ _ l0 t233 _ ?side1 ?side2 A9.out).mono ?_); (case side1 => exact Xc HR0); (case side2 => exact HC0.out); rintro e w10 ⟨v234, rfl, ho0, hb⟩; refine ⟨_, rfl, ?_⟩; have HO235 := Aside0.mk (Kd.R_lower ho0 (below_size Xi)); replace HB := Aside0.mk (below_step Xi hb); clear hb; (try clear ho0)))
   go_ret2
   exact ⟨_, Xe, Xq HO235, Xi⟩
  ·replace c8 := Bool.eq_false_iff.mpr c8
   subst c8
   (first | rw [if_neg (show ¬ (false = true) by decide)] at H | skip)
   simp only [Option.some.injEq, Prod.mk.injEq] at H
   obtain ⟨rfl, rfl⟩ := H
   go_wp2
   go_ret2
   exact ⟨_, Xe, by first | exact Kd.R_nil _ _ _ _ _ | exact Kd.N_nil _ _ _ _ _ | exact Kd.V_nil _ _ _ _ _ | exact Kd.Q_nil _ _ _ _ _ | exact Kd.S_nil _ _ _ _ _, Xi⟩

end Go.Proofs.Ythkbgbkglgmpoaa.XA
