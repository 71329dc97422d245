/- Contracts of the program's functions: each Go function that is named below comes to what its Lean function says. Written by xprint.py (a program of this session's, over the kit's print). Conditions: each contract's own premises. -/
import Derived.Test.YtpdhccdmbdbdpaaYNodeAt0
import Derived.Test.YtpdhccdmbdbdpaaYNodeAt3
import Derived.Test.YtpdhccdmbdbdpaaYNodeAt4
import Derived.Test.YtpdhccdmbdbdpaaYNodeAtClone
import Derived.Test.YtpdhccdmbdbdpaaYNodeAtFind
namespace Go.Proofs.Ytpdhccdmbdbdpaa.XA
open Go.RowKit Go.Proofs.YtpdhccdmbdbdpaaW.PrintWords Go.Proofs.YtpdhccdmbdbdpaaW.PrintLast Go.Proofs.YtpdhccdmbdbdpaaW.PrintMore XW
attribute [local go_sem] max2_int min2_int max_two min_two max_three min_three max_four min_four   -- for this text's walks alone
set_option linter.unusedVariables false
set_option linter.unusedSimpArgs false

/-! ### impl_nodeCode: function 58 -/
def impl_nodeCode.f (k : Nat) (a0_0 : Int) (a0_1 : Int) (l0_2 : List (S43)) (a1 : Int) : Option (Int) := (impl_DocOK.f k a0_0 a0_1 l0_2).bind fun t193 => (if t193 = true then ((impl_Doc_has.f k a0_0 a0_1 l0_2 a1).bind fun t194 => (if t194 = true then (some 0) else (some 5))) else (some 1))
set_option maxHeartbeats 8000000 in
set_option maxRecDepth 100000 in
theorem impl_nodeCode.calls (k : Nat) (a0_0 : Int) (a0_1 : Int) (A0_2 : Option Addr) (c0_2 : Nat) (l0_2 : List (S43)) (a1 : Int) (r : Int) (w : World) (hr0_2 : Kd.C k43 w A0_2 l0_2.length l0_2) (hc0_2 : l0_2.length ≤ c0_2) (h : impl_nodeCode.f k a0_0 a0_1 l0_2 a1 = some r) :
  Calls Try.prog 58 #[.agg #[.int .i64 a0_0, .int .i64 a0_1, .slice A0_2 l0_2.length c0_2], .int .i64 a1] w fun e w' => e = .returned (.int .i64 r) ∧ Below w.heap.size w w' := by
 have hu29 := Try.underlying29
 have HR0_2 := Aside0.mk hr0_2
 have HC0_2 := Aside0.mk hc0_2
 clear hr0_2 hc0_2
 have HB := Aside0.mk (Below.refl w.heap.size w)
 have H : ((impl_DocOK.f k a0_0 a0_1 l0_2).bind fun t193 => (if t193 = true then ((impl_Doc_has.f k a0_0 a0_1 l0_2 a1).bind fun t194 => (if t194 = true then (some 0) else (some 5))) else (some 1))) = some r := h
 clear h
 obtain ⟨t193, A3, H⟩ := Xbi H
 (try dsimp only at H)
 have HC4 := Aside0.mk H
 clear H
 go_enter Try.func58, Try.ntmps58
 go_upto_if 5 with (first | ((with_reducible refine gate_dst (N := 2) rfl ?_); refine Xbox 2 #[.int .i64 a0_0, .int .i64 a0_1, .slice A0_2 l0_2.length c0_2] 29 ?_; intro gb192 hg w5 hbox hb; have BK192 := Aside0.mk (hbox); have GE192 := Xge hg Xi; replace HB := Aside0.mk (below_step Xi hb); clear hb hbox hg; obtain ⟨hcz6_0, hcz6_1, hcz6_2⟩ := Xc3 BK192) | ((with_reducible refine gate_callee (f := 24) rfl ?_); refine Xgo 7 Try.func24 #[.agg #[.int .i64 a0_0, .int .i64 a0_1, .slice A0_2 l0_2.length c0_2]] ?_; (with_reducible refine (impl_DocOK.calls k a0_0 a0_1 _ _ l0_2 t193 _ ?side1 ?side2 A3.out).mono ?_); (case side1 => exact Xc HR0_2); (case side2 => exact HC0_2.out); rintro e w7 ⟨rfl, hb⟩; refine ⟨_, rfl, ?_⟩; replace BK192 := Xbb BK192 hb; replace HB := Aside0.mk (below_step Xi hb); clear hb))
 have H := HC4.out
 clear HC4
 by_cases c8 : t193 = true
 ·subst c8
  (first | rw [if_pos rfl] at H | skip)
  obtain ⟨t194, A9, H⟩ := Xbi H
  (try dsimp only at H)
  have HC10 := Aside0.mk H
  clear H
  go_upto_if 9 with (first | ((with_reducible refine gate_callee (f := 67) rfl ?_); refine Xgo 11 Try.func67 #[.pointer (some ⟨gb192, 0, none⟩), .int .i64 a1] ?_; (with_reducible refine (impl_Doc_has.calls k gb192 a0_0 a0_1 A0_2 c0_2 l0_2 a1 t194 _ ?side1 ?side2 ?side3 A9.out).mono ?_); (case side1 => exact BK192.out); (case side2 => exact Xc HR0_2); (case side3 => exact HC0_2.out); rintro e w11 ⟨rfl, hb⟩; refine ⟨_, rfl, ?_⟩; replace BK192 := Xbb BK192 hb; replace HB := Aside0.mk (below_step Xi hb); clear hb))
  have H := HC10.out
  clear HC10
  by_cases c12 : t194 = true
  ·subst c12
   (first | rw [if_pos rfl] at H | skip)
   obtain rfl := Option.some.inj H
   go_wp2
   go_ret
   exact ⟨Xe, Xi⟩
  ·replace c12 := Bool.eq_false_iff.mpr c12
   subst c12
   (first | rw [if_neg (show ¬ (false = true) by decide)] at H | skip)
   obtain rfl := Option.some.inj H
   go_wp2
   go_ret
   exact ⟨Xe, Xi⟩
 ·replace c8 := Bool.eq_false_iff.mpr c8
  subst c8
  (first | rw [if_neg (show ¬ (false = true) by decide)] at H | skip)
  obtain rfl := Option.some.inj H
  go_wp2
  go_ret
  exact ⟨Xe, Xi⟩

/-! ### impl_Node_copied: function 71 -/
def impl_Node_copied.f (a0_0 : Int) (a0_1 : Int) (a0_2 : Int) (a0_3 : ByteArray) (l0_4 : List Int) : Option (Int × Int × Int × ByteArray × List Int) := (slices_Clone_int.f l0_4).bind fun t197 => (some (a0_0, a0_1, a0_2, a0_3, t197))
set_option maxHeartbeats 8000000 in
set_option maxRecDepth 100000 in
theorem impl_Node_copied.calls (a0_0 : Int) (a0_1 : Int) (a0_2 : Int) (a0_3 : ByteArray) (A0_4 : Option Addr) (c0_4 : Nat) (l0_4 : List Int) (r1 : Int) (r2 : Int) (r3 : Int) (r4 : ByteArray) (r5 : List Int) (w : World) (hr0_4 : Kd.C (Kd.int .i64) w A0_4 l0_4.length l0_4) (hc0_4 : l0_4.length ≤ c0_4) (h : impl_Node_copied.f a0_0 a0_1 a0_2 a0_3 l0_4 = some (r1, r2, r3, r4, r5)) :
  Calls Try.prog 71 #[.agg #[.int .i64 a0_0, .int .i64 a0_1, .int .i64 a0_2, .string a0_3, .slice A0_4 l0_4.length c0_4]] w fun e w' => ∃ v4_ : Value, e = .returned (.agg #[.int .i64 r1, .int .i64 r2, .int .i64 r3, .string r4, v4_]) ∧ Kd.R (Kd.int .i64) 3 w' w.heap.size (fun _ => True) v4_ r5 ∧ Below w.heap.size w w' := by
 have hu43 := Try.underlying43
 have HR0_4 := Aside0.mk hr0_4
 have HC0_4 := Aside0.mk hc0_4
 clear hr0_4 hc0_4
 have HB := Aside0.mk (Below.refl w.heap.size w)
 have H : ((slices_Clone_int.f l0_4).bind fun t197 => (some (a0_0, a0_1, a0_2, a0_3, t197))) = some (r1, r2, r3, r4, r5) := h
 clear h
 obtain ⟨t197, A2, H⟩ := Xbi H
 (try dsimp only at H)
 simp only [Option.some.injEq, Prod.mk.injEq] at H
 obtain ⟨rfl, rfl, rfl, rfl, rfl⟩ := H
 go_enter Try.func71, Try.ntmps71
 go_wp2_with (first | ((with_reducible refine gate_dst (N := 1) rfl ?_); refine Xbox 1 #[.int .i64 a0_0, .int .i64 a0_1, .int .i64 a0_2, .string a0_3, .slice A0_4 l0_4.length c0_4] 43 ?_; intro gb195 hg w3 hbox hb; have BK195 := Aside0.mk (hbox); have GE195 := Xge hg Xi; replace HB := Aside0.mk (below_step Xi hb); clear hb hbox hg) | ((with_reducible refine gate_dst (N := 2) rfl ?_); refine Xbox 2 #[.int .i64 0, .int .i64 0, .int .i64 0, .string (⟨#[]⟩ : ByteArray), .slice none 0 0] 43 ?_; intro gb196 hg w4 hbox hb; have BK196 := Aside0.mk (hbox); have GE196 := Xge hg Xi; replace HB := Aside0.mk (below_step Xi hb); have NB195_196 := Xnb hg BK195; have NB196_195 := Xns NB195_196; replace BK195 := Xbb BK195 hb; clear hb hbox hg; have hnb5 := NB195_196.out; have hnc5 := NB196_195.out; obtain ⟨hcz6_0, hcz6_1, hcz6_2, hcz6_3, hcz6_4⟩ := Xc5 BK195; obtain ⟨hfz6_0, hfz6_1, hfz6_2, hfz6_3, hfz6_4⟩ := Xf5 BK195) | ((with_reducible refine gate_callee (f := 111) rfl ?_); refine Xgo 5 Try.func111 #[.slice A0_4 l0_4.length c0_4] ?_; (with_reducible refine (slices_Clone_int.calls _ _ l0_4 t197 _ ?side1 ?side2 A2.out).mono ?_); (case side1 => exact Xc HR0_4); (case side2 => exact HC0_4.out); rintro e w7 ⟨v198, rfl, ho0, hb⟩; refine ⟨_, rfl, ?_⟩; have HO199 := Aside0.mk (Kd.R_lower ho0 (below_size Xi)); replace BK195 := Xbb BK195 hb; replace BK196 := Xbb BK196 hb; replace HB := Aside0.mk (below_step Xi hb); clear hb; (try clear ho0); obtain ⟨Ao8, co8, eo8⟩ := Kd.R_slice HO199.out; subst eo8; obtain ⟨hcz9_0, hcz9_1, hcz9_2, hcz9_3, hcz9_4⟩ := Xc5 BK195; obtain ⟨hfz9_0, hfz9_1, hfz9_2, hfz9_3, hfz9_4⟩ := Xf5 BK195; obtain ⟨hcz10_0, hcz10_1, hcz10_2, hcz10_3, hcz10_4⟩ := Xc5 BK196; obtain ⟨hfz10_0, hfz10_1, hfz10_2, hfz10_3, hfz10_4⟩ := Xf5 BK196) | ((with_reducible refine gate_store (t := 43) (p := 2) rfl ?_); refine store_event (t := 43) (p := 2) (v := ?vo_w11) (w1 := ((((((w7.setCell ⟨gb195, 4, none⟩ (.slice Ao8 t197.length co8)).setCell ⟨gb196, 0, none⟩ (.int .i64 a0_0)).setCell ⟨gb196, 1, none⟩ (.int .i64 a0_1)).setCell ⟨gb196, 2, none⟩ (.int .i64 a0_2)).setCell ⟨gb196, 3, none⟩ (.string a0_3)).setCell ⟨gb196, 4, none⟩ (.slice Ao8 t197.length co8))) ?hg ?ho ?hn ?hr ?_; (case ho => rfl); (case hg => rfl); (case hn => rfl); (case hr => first | (go_simp; done) | (go_simp; rfl)); intro w11 hw; have n0_ : Aside0 (Kd.R (Kd.int .i64) 3 w11 w.heap.size (fun _ => True) (.slice Ao8 t197.length co8) t197) := ⟨(by rw [hw]; exact (by (with_reducible repeat (first | apply Kd.R_alloc | apply Kd.R_drewN | apply Kd.R_drew)); exact Kd.R_mono (Kd.R_far (p := ⟨gb196, 4, none⟩) (Kd.R_far (p := ⟨gb196, 3, none⟩) (Kd.R_far (p := ⟨gb196, 2, none⟩) (Kd.R_far (p := ⟨gb196, 1, none⟩) (Kd.R_far (p := ⟨gb196, 0, none⟩) (Kd.R_far (p := ⟨gb195, 4, none⟩) (Kd.R_types (Kd.R_types HO199.out BK195.out (by decide)) BK196.out (by decide)) (fun _ hk => hk.1.2) (.slice Ao8 t197.length co8)) (fun _ hk => hk.2) (.int .i64 a0_0)) (fun _ hk => hk.2) (.int .i64 a0_1)) (fun _ hk => hk.2) (.int .i64 a0_2)) (fun _ hk => hk.2) (.string a0_3)) (fun _ hk => hk.2) (.slice Ao8 t197.length co8)) (fun _ hk => trivial)))⟩; have n1_ : Aside0 (w11.heap[gb195]? = some (.cells #[.int .i64 a0_0, .int .i64 a0_1, .int .i64 a0_2, .string a0_3, .slice Ao8 t197.length co8] 43 (0, 0))) := ⟨(by rw [hw]; exact (by (with_reducible repeat (first | refine blk_drewN ?_ _ | refine blk_drew ?_ | refine blk_alloc ?_ _)); refine blk_far ?_ NB195_196.out _; (with_reducible repeat (first | refine blk_drewN ?_ _ | refine blk_drew ?_ | refine blk_alloc ?_ _)); refine blk_far ?_ NB195_196.out _; (with_reducible repeat (first | refine blk_drewN ?_ _ | refine blk_drew ?_ | refine blk_alloc ?_ _)); refine blk_far ?_ NB195_196.out _; (with_reducible repeat (first | refine blk_drewN ?_ _ | refine blk_drew ?_ | refine blk_alloc ?_ _)); refine blk_far ?_ NB195_196.out _; (with_reducible repeat (first | refine blk_drewN ?_ _ | refine blk_drew ?_ | refine blk_alloc ?_ _)); refine blk_far ?_ NB195_196.out _; (with_reducible repeat (first | refine blk_drewN ?_ _ | refine blk_drew ?_ | refine blk_alloc ?_ _)); refine blk_put (cs := #[.int .i64 a0_0, .int .i64 a0_1, .int .i64 a0_2, .string a0_3, .slice A0_4 l0_4.length c0_4]) ?_ 4 _ rfl; (with_reducible repeat (first | refine blk_drewN ?_ _ | refine blk_drew ?_ | refine blk_alloc ?_ _)); exact BK195.out))⟩; have n2_ : Aside0 (w11.heap[gb196]? = some (.cells #[.int .i64 a0_0, .int .i64 a0_1, .int .i64 a0_2, .string a0_3, .slice Ao8 t197.length co8] 43 (0, 0))) := ⟨(by rw [hw]; exact (by (with_reducible repeat (first | refine blk_drewN ?_ _ | refine blk_drew ?_ | refine blk_alloc ?_ _)); refine blk_put (cs := #[.int .i64 a0_0, .int .i64 a0_1, .int .i64 a0_2, .string a0_3, .slice none 0 0]) ?_ 4 _ rfl; (with_reducible repeat (first | refine blk_drewN ?_ _ | refine blk_drew ?_ | refine blk_alloc ?_ _)); refine blk_put (cs := #[.int .i64 a0_0, .int .i64 a0_1, .int .i64 a0_2, .string (⟨#[]⟩ : ByteArray), .slice none 0 0]) ?_ 3 _ rfl; (with_reducible repeat (first | refine blk_drewN ?_ _ | refine blk_drew ?_ | refine blk_alloc ?_ _)); refine blk_put (cs := #[.int .i64 a0_0, .int .i64 a0_1, .int .i64 0, .string (⟨#[]⟩ : ByteArray), .slice none 0 0]) ?_ 2 _ rfl; (with_reducible repeat (first | refine blk_drewN ?_ _ | refine blk_drew ?_ | refine blk_alloc ?_ _)); refine blk_put (cs := #[.int .i64 a0_0, .int .i64 0, .int .i64 0, .string (⟨#[]⟩ : ByteArray), .slice none 0 0]) ?_ 1 _ rfl; (with_reducible repeat (first | refine blk_drewN ?_ _ | refine blk_drew ?_ | refine blk_alloc ?_ _)); refine blk_put (cs := #[.int .i64 0, .int .i64 0, .int .i64 0, .string (⟨#[]⟩ : ByteArray), .slice none 0 0]) ?_ 0 _ rfl; (with_reducible repeat (first | refine blk_drewN ?_ _ | refine blk_drew ?_ | refine blk_alloc ?_ _)); refine blk_far ?_ NB196_195.out _; (with_reducible repeat (first | refine blk_drewN ?_ _ | refine blk_drew ?_ | refine blk_alloc ?_ _)); exact BK196.out))⟩; have n3_ : Aside0 (Below w.heap.size w w11) := ⟨(by rw [hw]; exact Xi)⟩; clear hw; clear HO199; clear BK195; clear BK196; clear HB; have HO199 := n0_; have BK195 := n1_; have BK196 := n2_; have HB := n3_; clear n0_ n1_ n2_ n3_))
 refine bodyPost_ret (results_cell_row rfl _ _ gb196 43 #[.int .i64 a0_0, .int .i64 a0_1, .int .i64 a0_2, .string a0_3, .slice Ao8 t197.length co8] (0, 0) _ rfl BK196.out Try.underlying43 rfl (by kernel_rfl)) rfl ?_
 exact ⟨_, Xe, Xq HO199, Xi⟩

/-! ### impl_NodeAt: function 26 -/
def impl_NodeAt.f (k : Nat) (a0_0 : Int) (a0_1 : Int) (l0_2 : List (S43)) (a1 : Int) : Option (Int × Int × Int × ByteArray × List Int × Int) := (impl_nodeCode.f k a0_0 a0_1 l0_2 a1).bind fun t202 => (if t202 = 0 then ((impl_Doc_find.f k a0_0 a0_1 l0_2 a1).bind fun t203 => (if t203 < 0 then (none) else (if 0 ≤ t203 then (if t203 < (l0_2.length : Int) then ((impl_Node_copied.f ((rd_T43 l0_2 t203).f0) ((rd_T43 l0_2 t203).f1) ((rd_T43 l0_2 t203).f2) ((rd_T43 l0_2 t203).f3) ((rd_T43 l0_2 t203).f4)).bind fun bt205 => (some (bt205.1, bt205.2.1, bt205.2.2.1, bt205.2.2.2.1, bt205.2.2.2.2, 0))) else (none)) else (none)))) else (some (0, 0, 0, (⟨#[]⟩ : ByteArray), ([] : List Int), t202)))
set_option maxHeartbeats 8000000 in
set_option maxRecDepth 100000 in
theorem impl_NodeAt.calls (k : Nat) (a0_0 : Int) (a0_1 : Int) (A0_2 : Option Addr) (c0_2 : Nat) (l0_2 : List (S43)) (a1 : Int) (r1 : Int) (r2 : Int) (r3 : Int) (r4 : ByteArray) (r5 : List Int) (r6 : Int) (w : World) (hr0_2 : Kd.C k43 w A0_2 l0_2.length l0_2) (hc0_2 : l0_2.length ≤ c0_2) (h : impl_NodeAt.f k a0_0 a0_1 l0_2 a1 = some (r1, r2, r3, r4, r5, r6)) :
  Calls Try.prog 26 #[.agg #[.int .i64 a0_0, .int .i64 a0_1, .slice A0_2 l0_2.length c0_2], .int .i64 a1] w fun e w' => ∃ v4_ : Value, e = .returned (.tuple #[.agg #[.int .i64 r1, .int .i64 r2, .int .i64 r3, .string r4, v4_], .int .i64 r6]) ∧ Kd.R (Kd.int .i64) 3 w' w.heap.size (fun _ => True) v4_ r5 ∧ Below w.heap.size w w' := by
 have hu29 := Try.underlying29
 have hu43 := Try.underlying43
 have HR0_2 := Aside0.mk hr0_2
 have HC0_2 := Aside0.mk hc0_2
 clear hr0_2 hc0_2
 have HB := Aside0.mk (Below.refl w.heap.size w)
 have H : ((impl_nodeCode.f k a0_0 a0_1 l0_2 a1).bind fun t202 => (if t202 = 0 then ((impl_Doc_find.f k a0_0 a0_1 l0_2 a1).bind fun t203 => (if t203 < 0 then (none) else (if 0 ≤ t203 then (if t203 < (l0_2.length : Int) then ((impl_Node_copied.f ((rd_T43 l0_2 t203).f0) ((rd_T43 l0_2 t203).f1) ((rd_T43 l0_2 t203).f2) ((rd_T43 l0_2 t203).f3) ((rd_T43 l0_2 t203).f4)).bind fun bt205 => (some (bt205.1, bt205.2.1, bt205.2.2.1, bt205.2.2.2.1, bt205.2.2.2.2, 0))) else (none)) else (none)))) else (some (0, 0, 0, (⟨#[]⟩ : ByteArray), ([] : List Int), t202)))) = some (r1, r2, r3, r4, r5, r6) := h
 clear h
 obtain ⟨t202, A3, H⟩ := Xbi H
 (try dsimp only at H)
 have HC4 := Aside0.mk H
 clear H
 go_enter Try.func26, Try.ntmps26
 go_upto_if 11 with (first | ((with_reducible refine gate_dst (N := 2) rfl ?_); refine Xbox 2 #[.int .i64 a0_0, .int .i64 a0_1, .slice A0_2 l0_2.length c0_2] 29 ?_; intro gb200 hg w5 hbox hb; have BK200 := Aside0.mk (hbox); have GE200 := Xge hg Xi; replace HB := Aside0.mk (below_step Xi hb); clear hb hbox hg) | ((with_reducible refine gate_dst (N := 4) rfl ?_); refine Xbox 4 #[.int .i64 0, .int .i64 0, .int .i64 0, .string (⟨#[]⟩ : ByteArray), .slice none 0 0] 43 ?_; intro gb201 hg w6 hbox hb; have BK201 := Aside0.mk (hbox); have GE201 := Xge hg Xi; replace HB := Aside0.mk (below_step Xi hb); have NB200_201 := Xnb hg BK200; have NB201_200 := Xns NB200_201; replace BK200 := Xbb BK200 hb; clear hb hbox hg; have hnb7 := NB200_201.out; have hnc7 := NB201_200.out; obtain ⟨hcz8_0, hcz8_1, hcz8_2⟩ := Xc3 BK200; obtain ⟨hfz8_0, hfz8_1, hfz8_2⟩ := Xf3 BK200) | ((with_reducible refine gate_callee (f := 58) rfl ?_); refine Xgo 9 Try.func58 #[.agg #[.int .i64 a0_0, .int .i64 a0_1, .slice A0_2 l0_2.length c0_2], .int .i64 a1] ?_; (with_reducible refine (impl_nodeCode.calls k a0_0 a0_1 _ _ l0_2 a1 t202 _ ?side1 ?side2 A3.out).mono ?_); (case side1 => exact Xc HR0_2); (case side2 => exact HC0_2.out); rintro e w9 ⟨rfl, hb⟩; refine ⟨_, rfl, ?_⟩; replace BK200 := Xbb BK200 hb; replace BK201 := Xbb BK201 hb; replace HB := Aside0.mk (below_step Xi hb); clear hb))
 have H := HC4.out
 clear HC4
 obtain ⟨c10, H⟩ | ⟨c10, H⟩ := Xiu H
 ·have c10b0 : (t202 == 0) = true := beq_iff_eq.mpr c10
  have c10b1 : (t202 != 0) = false := bne_eq_false_iff_eq.mpr c10
  clear c10
  (first | rw [c10b0] | (simp only [i64_w, i32_w]; rw [c10b0]) | skip)
  obtain ⟨t203, A11, H⟩ := Xbi H
  (try dsimp only at H)
  obtain ⟨c12b0, H⟩ | ⟨c12b0, H⟩ := Xit H
  ·exact absurd H (by simp)
  ·obtain ⟨c13b0, H⟩ := Xid H
   obtain ⟨c14b0, H⟩ := Xid H
   replace H := Option.bind_eq_some_iff.mp H
   obtain ⟨⟨t205, t206, t207, t208, t209⟩, A150, H⟩ := H
   (try dsimp only at H)
   have A15 := Aside0.mk A150
   clear A150
   simp only [Option.some.injEq, Prod.mk.injEq] at H
   obtain ⟨rfl, rfl, rfl, rfl, rfl, rfl⟩ := H
   go_wp2_with (first | ((with_reducible refine gate_callee (f := 70) rfl ?_); refine Xgo 15 Try.func70 #[.pointer (some ⟨gb200, 0, none⟩), .int .i64 a1] ?_; (with_reducible refine (impl_Doc_find.calls k gb200 a0_0 a0_1 A0_2 c0_2 l0_2 a1 t203 _ ?side1 ?side2 ?side3 A11.out).mono ?_); (case side1 => exact BK200.out); (case side2 => exact Xc HR0_2); (case side3 => exact HC0_2.out); rintro e w16 ⟨pF, rfl, hpn, hps, hb⟩; refine ⟨_, rfl, ?_⟩; obtain ⟨adf17, hae, rfl⟩ := hps (Int.not_lt.mp (of_decide_eq_false Xa)); clear hpn; cases hae; replace BK200 := Xbb BK200 hb; replace BK201 := Xbb BK201 hb; replace HB := Aside0.mk (below_step Xi hb); clear hb; have p204 : 0 ≤ (t203 : Int) := of_decide_eq_true Xa; have q204 : t203 < (l0_2.length : Int) := of_decide_eq_true Xa; obtain ⟨ad204, A204_4, c204_4, e204, hx204_0, hx204_1, hx204_2, hx204_3, hx204_4, hl204_4, hi204_4⟩ := at_T43 HR0_2.out t203 p204 q204; obtain rfl : adf17 = ad204 := (by injection e204); replace hx204_0 := Xm HB hx204_0; replace hx204_1 := Xm HB hx204_1; replace hx204_2 := Xm HB hx204_2; replace hx204_3 := Xm HB hx204_3; replace hx204_4 := Xm HB hx204_4; have HR204_4 := Aside0.mk hi204_4; have HC204_4 := Aside0.mk hl204_4; clear hi204_4 hl204_4; replace p204 := eq_true p204; replace q204 := eq_true q204) | ((with_reducible refine gate_callee (f := 71) rfl ?_); refine Xgo 18 Try.func71 #[.agg #[.int .i64 ((rd_T43 l0_2 t203).f0), .int .i64 ((rd_T43 l0_2 t203).f1), .int .i64 ((rd_T43 l0_2 t203).f2), .string ((rd_T43 l0_2 t203).f3), .slice A204_4 ((rd_T43 l0_2 t203).f4).length c204_4]] ?_; (with_reducible refine (impl_Node_copied.calls ((rd_T43 l0_2 t203).f0) ((rd_T43 l0_2 t203).f1) ((rd_T43 l0_2 t203).f2) ((rd_T43 l0_2 t203).f3) _ _ ((rd_T43 l0_2 t203).f4) t205 t206 t207 t208 t209 _ ?side1 ?side2 A15.out).mono ?_); (case side1 => exact Xc HR204_4); (case side2 => exact HC204_4.out); rintro e w18 ⟨v210, rfl, ho0, hb⟩; refine ⟨_, rfl, ?_⟩; have HO211 := Aside0.mk (Kd.R_lower ho0 (below_size Xi)); replace BK200 := Xbb BK200 hb; replace BK201 := Xbb BK201 hb; replace HB := Aside0.mk (below_step Xi hb); clear hb; (try clear ho0); have hnb19 := NB201_200.out; have hnc19 := NB200_201.out; obtain ⟨hcz20_0, hcz20_1, hcz20_2, hcz20_3, hcz20_4⟩ := Xc5 BK201; obtain ⟨hfz20_0, hfz20_1, hfz20_2, hfz20_3, hfz20_4⟩ := Xf5 BK201; obtain ⟨Ao21, co21, eo21⟩ := Kd.R_slice HO211.out; subst eo21) | ((with_reducible refine gate_store (t := 43) (p := 4) rfl ?_); refine store_event (t := 43) (p := 4) (v := ?vo_w22) (w1 := (((((w18.setCell ⟨gb201, 0, none⟩ (.int .i64 t205)).setCell ⟨gb201, 1, none⟩ (.int .i64 t206)).setCell ⟨gb201, 2, none⟩ (.int .i64 t207)).setCell ⟨gb201, 3, none⟩ (.string t208)).setCell ⟨gb201, 4, none⟩ (.slice Ao21 t209.length co21))) ?hg ?ho ?hn ?hr ?_; (case ho => rfl); (case hg => rfl); (case hn => rfl); (case hr => first | (go_simp; done) | (go_simp; rfl)); intro w22 hw; have n0_ : Aside0 (Kd.R (Kd.int .i64) 3 w22 w.heap.size (fun _ => True) (.slice Ao21 t209.length co21) t209) := ⟨(by rw [hw]; exact (by (with_reducible repeat (first | apply Kd.R_alloc | apply Kd.R_drewN | apply Kd.R_drew)); exact Kd.R_mono (Kd.R_far (p := ⟨gb201, 4, none⟩) (Kd.R_far (p := ⟨gb201, 3, none⟩) (Kd.R_far (p := ⟨gb201, 2, none⟩) (Kd.R_far (p := ⟨gb201, 1, none⟩) (Kd.R_far (p := ⟨gb201, 0, none⟩) (Kd.R_types HO211.out BK201.out (by decide)) (fun _ hk => hk.2) (.int .i64 t205)) (fun _ hk => hk.2) (.int .i64 t206)) (fun _ hk => hk.2) (.int .i64 t207)) (fun _ hk => hk.2) (.string t208)) (fun _ hk => hk.2) (.slice Ao21 t209.length co21)) (fun _ hk => trivial)))⟩; have n1_ : Aside0 (w22.heap[gb200]? = some (.cells #[.int .i64 a0_0, .int .i64 a0_1, .slice (some adf17) l0_2.length c0_2] 29 (0, 0))) := ⟨(by rw [hw]; exact (by (with_reducible repeat (first | refine blk_drewN ?_ _ | refine blk_drew ?_ | refine blk_alloc ?_ _)); refine blk_far ?_ NB200_201.out _; (with_reducible repeat (first | refine blk_drewN ?_ _ | refine blk_drew ?_ | refine blk_alloc ?_ _)); refine blk_far ?_ NB200_201.out _; (with_reducible repeat (first | refine blk_drewN ?_ _ | refine blk_drew ?_ | refine blk_alloc ?_ _)); refine blk_far ?_ NB200_201.out _; (with_reducible repeat (first | refine blk_drewN ?_ _ | refine blk_drew ?_ | refine blk_alloc ?_ _)); refine blk_far ?_ NB200_201.out _; (with_reducible repeat (first | refine blk_drewN ?_ _ | refine blk_drew ?_ | refine blk_alloc ?_ _)); refine blk_far ?_ NB200_201.out _; (with_reducible repeat (first | refine blk_drewN ?_ _ | refine blk_drew ?_ | refine blk_alloc ?_ _)); exact BK200.out))⟩; have n2_ : Aside0 (w22.heap[gb201]? = some (.cells #[.int .i64 t205, .int .i64 t206, .int .i64 t207, .string t208, .slice Ao21 t209.length co21] 43 (0, 0))) := ⟨(by rw [hw]; exact (by (with_reducible repeat (first | refine blk_drewN ?_ _ | refine blk_drew ?_ | refine blk_alloc ?_ _)); refine blk_put (cs := #[.int .i64 t205, .int .i64 t206, .int .i64 t207, .string t208, .slice none 0 0]) ?_ 4 _ rfl; (with_reducible repeat (first | refine blk_drewN ?_ _ | refine blk_drew ?_ | refine blk_alloc ?_ _)); refine blk_put (cs := #[.int .i64 t205, .int .i64 t206, .int .i64 t207, .string (⟨#[]⟩ : ByteArray), .slice none 0 0]) ?_ 3 _ rfl; (with_reducible repeat (first | refine blk_drewN ?_ _ | refine blk_drew ?_ | refine blk_alloc ?_ _)); refine blk_put (cs := #[.int .i64 t205, .int .i64 t206, .int .i64 0, .string (⟨#[]⟩ : ByteArray), .slice none 0 0]) ?_ 2 _ rfl; (with_reducible repeat (first | refine blk_drewN ?_ _ | refine blk_drew ?_ | refine blk_alloc ?_ _)); refine blk_put (cs := #[.int .i64 t205, .int .i64 0, .int .i64 0, .string (⟨#[]⟩ : ByteArray), .slice none 0 0]) ?_ 1 _ rfl; (with_reducible repeat (first | refine blk_drewN ?_ _ | refine blk_drew ?_ | refine blk_alloc ?_ _)); refine blk_put (cs := #[.int .i64 0, .int .i64 0, .int .i64 0, .string (⟨#[]⟩ : ByteArray), .slice none 0 0]) ?_ 0 _ rfl; (with_reducible repeat (first | refine blk_drewN ?_ _ | refine blk_drew ?_ | refine blk_alloc ?_ _)); exact BK201.out))⟩; have n3_ : Aside0 (Below w.heap.size w w22) := ⟨(by rw [hw]; exact Xi)⟩; clear hw; clear HO211; clear BK200; clear BK201; clear HB; have HO211 := n0_; have BK200 := n1_; have BK201 := n2_; have HB := n3_; clear n0_ n1_ n2_ n3_))
   refine bodyPost_ret (results_ct rfl _ _ gb201 43 #[.int .i64 t205, .int .i64 t206, .int .i64 t207, .string t208, .slice Ao21 t209.length co21] (0, 0) _ rfl BK201.out Try.underlying43 rfl (by kernel_rfl)) rfl ?_
   exact ⟨_, Xe, Xq HO211, Xi⟩
 ·have c10b0 : (t202 == 0) = false := beq_eq_false_iff_ne.mpr c10
  have c10b1 : (t202 != 0) = true := bne_iff_ne.mpr c10
  (first | rw [c10b0] | (simp only [i64_w, i32_w]; rw [c10b0]) | skip)
  simp only [Option.some.injEq, Prod.mk.injEq] at H
  obtain ⟨rfl, rfl, rfl, rfl, rfl, rfl⟩ := H
  have hnb23 := NB201_200.out
  have hnc23 := NB200_201.out
  obtain ⟨hcz24_0, hcz24_1, hcz24_2, hcz24_3, hcz24_4⟩ := Xc5 BK201
  obtain ⟨hfz24_0, hfz24_1, hfz24_2, hfz24_3, hfz24_4⟩ := Xf5 BK201
  go_wp2_with (first | ((with_reducible refine gate_store (t := 43) (p := 4) rfl ?_); refine store_event (t := 43) (p := 4) (v := ?vo_w25) (w1 := (((((w9.setCell ⟨gb201, 0, none⟩ (.int .i64 0)).setCell ⟨gb201, 1, none⟩ (.int .i64 0)).setCell ⟨gb201, 2, none⟩ (.int .i64 0)).setCell ⟨gb201, 3, none⟩ (.string (⟨#[]⟩ : ByteArray))).setCell ⟨gb201, 4, none⟩ (.slice none 0 0))) ?hg ?ho ?hn ?hr ?_; (case ho => rfl); (case hg => rfl); (case hn => rfl); (case hr => first | (go_simp; done) | (go_simp; rfl)); intro w25 hw; have n0_ : Aside0 (w25.heap[gb200]? = some (.cells #[.int .i64 a0_0, .int .i64 a0_1, .slice A0_2 l0_2.length c0_2] 29 (0, 0))) := ⟨(by rw [hw]; exact (by (with_reducible repeat (first | refine blk_drewN ?_ _ | refine blk_drew ?_ | refine blk_alloc ?_ _)); refine blk_far ?_ NB200_201.out _; (with_reducible repeat (first | refine blk_drewN ?_ _ | refine blk_drew ?_ | refine blk_alloc ?_ _)); refine blk_far ?_ NB200_201.out _; (with_reducible repeat (first | refine blk_drewN ?_ _ | refine blk_drew ?_ | refine blk_alloc ?_ _)); refine blk_far ?_ NB200_201.out _; (with_reducible repeat (first | refine blk_drewN ?_ _ | refine blk_drew ?_ | refine blk_alloc ?_ _)); refine blk_far ?_ NB200_201.out _; (with_reducible repeat (first | refine blk_drewN ?_ _ | refine blk_drew ?_ | refine blk_alloc ?_ _)); refine blk_far ?_ NB200_201.out _; (with_reducible repeat (first | refine blk_drewN ?_ _ | refine blk_drew ?_ | refine blk_alloc ?_ _)); exact BK200.out))⟩; have n1_ : Aside0 (w25.heap[gb201]? = some (.cells #[.int .i64 0, .int .i64 0, .int .i64 0, .string (⟨#[]⟩ : ByteArray), .slice none 0 0] 43 (0, 0))) := ⟨(by rw [hw]; exact (by (with_reducible repeat (first | refine blk_drewN ?_ _ | refine blk_drew ?_ | refine blk_alloc ?_ _)); refine blk_put (cs := #[.int .i64 0, .int .i64 0, .int .i64 0, .string (⟨#[]⟩ : ByteArray), .slice none 0 0]) ?_ 4 _ rfl; (with_reducible repeat (first | refine blk_drewN ?_ _ | refine blk_drew ?_ | refine blk_alloc ?_ _)); refine blk_put (cs := #[.int .i64 0, .int .i64 0, .int .i64 0, .string (⟨#[]⟩ : ByteArray), .slice none 0 0]) ?_ 3 _ rfl; (with_reducible repeat (first | refine blk_drewN ?_ _ | refine blk_drew ?_ | refine blk_alloc ?_ _)); refine blk_put (cs := #[.int .i64 0, .int .i64 0, .int .i64 0, .string (⟨#[]⟩ : ByteArray), .slice none 0 0]) ?_ 2 _ rfl; (with_reducible repeat (first | refine blk_drewN ?_ _ | refine blk_drew ?_ | refine blk_alloc ?_ _)); refine blk_put (cs := #[.int .i64 0, .int .i64 0, .int .i64 0, .string (⟨#[]⟩ : ByteArray), .slice none 0 0]) ?_ 1 _ rfl; (with_reducible repeat (first | refine blk_drewN ?_ _ | refine blk_drew ?_ | refine blk_alloc ?_ _)); refine blk_put (cs := #[.int .i64 0, .int .i64 0, .int .i64 0, .string (⟨#[]⟩ : ByteArray), .slice none 0 0]) ?_ 0 _ rfl; (with_reducible repeat (first | refine blk_drewN ?_ _ | refine blk_drew ?_ | refine blk_alloc ?_ _)); exact BK201.out))⟩; have n2_ : Aside0 (Below w.heap.size w w25) := ⟨(by rw [hw]; exact Xi)⟩; clear hw; clear BK200; clear BK201; clear HB; have BK200 := n0_; have BK201 := n1_; have HB := n2_; clear n0_ n1_ n2_))
  refine bodyPost_ret (results_ct rfl _ _ gb201 43 #[.int .i64 0, .int .i64 0, .int .i64 0, .string (⟨#[]⟩ : ByteArray), .slice none 0 0] (0, 0) _ rfl BK201.out Try.underlying43 rfl (by kernel_rfl)) rfl ?_
  exact ⟨_, Xe, by first | exact Kd.R_nil _ _ _ _ _ | exact Kd.N_nil _ _ _ _ _ | exact Kd.V_nil _ _ _ _ _ | exact Kd.Q_nil _ _ _ _ _ | exact Kd.S_nil _ _ _ _ _, Xi⟩

/-! ### laws_markIntS: function 30 -/
def laws_markIntS.l0 : Nat → List Int → Int → Int → Option (Int × List Int)
 | 0, _, _, _ => none
 | k + 1, x0, x1, x5 => if x5 < (x0.length : Int) then (if 0 ≤ x5 then (laws_markIntS.l0 k (x0.set (x5 : Int).toNat x1) (wrap64 (x1 + 1)) (wrap64 (x5 + 1))) else (none)) else (some (x1, x0))
def laws_markIntS.f (k : Nat) (l0 : List Int) (a1 : Int) : Option (Int × List Int) := laws_markIntS.l0 k l0 a1 0
set_option maxHeartbeats 8000000 in
set_option maxRecDepth 100000 in
theorem laws_markIntS.calls (k : Nat) (P0_ : Nat → Prop) (u9000_ : Value) (l0 : List Int) (a1 : Int) (r1 : Int) (r2 : List Int) (w0 w : World) (hB : Below w0.heap.size w0 w) (ho0 : Kd.R (Kd.int .i64) 3 w w0.heap.size P0_ u9000_ l0) (h : laws_markIntS.f k l0 a1 = some (r1, r2)) :
  Calls Try.prog 30 #[u9000_, .int .i64 a1] w fun e w' => e = .returned (.int .i64 r1) ∧ Kd.R (Kd.int .i64) 3 w' w0.heap.size (fun k_ => (P0_ k_ ∨ w.heap.size ≤ k_)) u9000_ r2 ∧ Below w0.heap.size w0 w' ∧ Kept w w' (fun k_ => P0_ k_) := by
 have HO0 := Aside0.mk (show Kd.R (Kd.int .i64) 3 w w0.heap.size (fun k_ => (P0_ k_ ∨ w.heap.size ≤ k_)) u9000_ l0 from Kd.R_mono ho0 (fun k_ hk => (.inl hk)))
 have HK := Aside0.mk (Kept.refl w (fun k_ => P0_ k_))
 have HW0 := Aside0.mk hB.size
 have HB := Aside0.mk hB
 clear hB
 have H : (laws_markIntS.l0 k l0 a1 0) = some (r1, r2) := h
 clear h
 have H' := Aside0.mk H
 clear H
 go_enter Try.func30, Try.ntmps30
 go_wp2
 go_loopg [1, 5] k (fun kq v1 v5 w' => ∃ (x0_1 : List Int) (x1_1 : Int) (x5_1 : Int), v1 = .int .i64 x1_1 ∧ v5 = .int .i64 x5_1 ∧ Aside0 (laws_markIntS.l0 kq x0_1 x1_1 x5_1 = some (r1, r2)) ∧ Aside0 (kq ≤ k) ∧ Aside0 (Kd.R (Kd.int .i64) 3 w' w0.heap.size (fun k_ => (P0_ k_ ∨ w.heap.size ≤ k_)) u9000_ x0_1) ∧ Aside0 (Kept w w' (fun k_ => P0_ k_)) ∧ Aside0 (Below w0.heap.size w0 w'))
 case atStart => exact ⟨(l0), (a1), (0), Xr, Xr, H', Xkr, (Xp' HO0), ⟨by repeat first | (with_reducible first | exact HK.out | apply Kept.drewN | apply Kept.drew) | exact HK.out⟩, ⟨Xi⟩⟩
 case round =>
  clear H'
  obtain ⟨x0_1, x1_1, x5_1, rfl, rfl, HA, HK1, HO_0, HK, HB⟩ := hrel
  cases gk with
  | zero => cases HA.out
  | succ k1 =>
   have H := HA.out
   clear HA
   simp only [laws_markIntS.l0] at H
   obtain ⟨c3b0, H⟩ | ⟨c3b0, H⟩ := Xit H
   ·obtain ⟨c4b0, H⟩ := Xid H
    obtain ⟨y212, hy212⟩ : ∃ y_ : List Int, y_ = (x0_1.set (x5_1 : Int).toNat x1_1) := ⟨_, rfl⟩
    replace H : (laws_markIntS.l0 k1 y212 (wrap64 (x1_1 + 1)) (wrap64 (x5_1 + 1))) = some (r1, r2) := by first | (rw [hy212]; with_reducible exact H) | (have H2_ := (Option.bind_some _ _).symm.trans H; rw [hy212]; with_reducible exact H2_) | (have H2_ := (Option.bind_some _ _).symm.trans H; with_reducible exact H2_) | with_reducible exact H | (rw [hy212]; exact H) | exact H
    have Ny212 := Aside0.mk hy212
    clear hy212
    have H' := Aside0.mk H
    clear H
    obtain ⟨Ao6, co6, eo6⟩ := Kd.R_slice HO_0.out
    subst eo6
    have p5 : 0 ≤ (x5_1 : Int) := of_decide_eq_true Xa
    have q5 : (x5_1 : Int) < ((x0_1.length : Int) : Int) := of_decide_eq_true Xa
    obtain ⟨go5, co5, eo5, gb5, gl5, cl5, HG5⟩ := Kd.R_form HO_0.out (by omega)
    (first | cases eo5 | (injection eo5 with ea_ en_ ec_; (first | subst ea_ | (injection ea_ with ea_; subst ea_)); subst ec_; clear en_))
    have GB5 := Aside0.mk gb5
    have GG5 := Aside0.mk HG5
    clear gb5 gl5 HG5
    have HMgo5 := Aside0.mk (show (P0_ go5 ∨ w.heap.size ≤ go5) from (HO_0.out.1 _ rfl))
    obtain ⟨hx5_0, hf5_0⟩ := Kd.R_celln 0 HO_0.out (x5_1 : Int) p5 q5
    replace p5 := eq_true p5
    replace q5 := eq_true q5
    have HP7 := Kd.R_putg HO_0.out (x5_1 : Int) x1_1
    go_wp2_with (first | ((with_reducible refine gate_store (t := 3) (p := 15) rfl ?_); refine store_event (t := 3) (p := 15) (v := ?vo_w8) (w1 := (wr.setCell ⟨go5, (x5_1 : Int).toNat, none⟩ (.int .i64 x1_1))) ?hg ?ho ?hn ?hr ?_; (case ho => rfl); (case hg => rfl); (case hn => rfl); (case hr => first | (go_simp; done) | (go_simp; rfl)); intro w8 hw; have hg : wr.grownBy w8 (some go5) := (by rw [hw]; exact HP7.2); have hp_ : Kd.R (Kd.int .i64) 3 w8 w0.heap.size (fun k_ => (P0_ k_ ∨ w.heap.size ≤ k_)) (.slice (some ⟨go5, 0, none⟩) x0_1.length co6) y212 := (by rw [hw, Ny212.out]; exact HP7.1); clear HP7; replace HB := Aside0.mk ((by rw [hw]; exact below_set (HB.out) GB5.out : Below w0.heap.size w0 w8)); replace HK := Aside0.mk (Kept.of_grown (S := (fun k_ => P0_ k_)) hg (by repeat first | (with_reducible first | exact HK.out | apply Kept.drewN | apply Kept.drew) | exact HK.out) (fun k_ e_ => (HO_0.out.1 k_ e_))); replace HO_0 := Aside0.mk (hp_); clear hg hw hp_))
    go_roundg k1
    case measure => have := HK1.out; omega
    case rel => exact ⟨(y212), (wrap64 (x1_1 + 1)), (wrap64 (x5_1 + 1)), Xr, Xr, H', Xk1, (Xp' HO_0), ⟨by repeat first | (with_reducible first | exact HK.out | apply Kept.drewN | apply Kept.drew) | exact HK.out⟩, ⟨Xi⟩⟩
   ·simp only [Option.some.injEq, Prod.mk.injEq] at H
    obtain ⟨rfl, rfl⟩ := H
    obtain ⟨Ao9, co9, eo9⟩ := Kd.R_slice HO_0.out
    subst eo9
    go_wp2
    go_ret
    exact ⟨Xe, Xq HO_0, Xi, by repeat first | (with_reducible first | exact HK.out | apply Kept.drewN | apply Kept.drew) | exact HK.out⟩

/-! ### laws_markText: function 88 -/
def laws_markText.l0 : Nat → Int → ByteArray → Option (ByteArray)
 | 0, _, _ => none
 | k + 1, x0, x3 => if x0 > 0 then ((some (([(wrap64 (48 + (Int.tmod x0 10))) % 256] : List Int) : List Int)).bind fun y213 => (if (strOfNums y213).size + x3.size ≤ 9223372036854775807 then (laws_markText.l0 k (wrap64 (Int.tdiv x0 10)) ((strOfNums y213) ++ x3)) else (none))) else (if 1 + x3.size ≤ 9223372036854775807 then (some ((⟨#[109]⟩ : ByteArray) ++ x3)) else (none))
def laws_markText.f (k : Nat) (a0 : Int) : Option (ByteArray) := if a0 ≤ 0 then (some (⟨#[109, 48]⟩ : ByteArray)) else (laws_markText.l0 k a0 (⟨#[]⟩ : ByteArray))
set_option maxHeartbeats 8000000 in
set_option maxRecDepth 100000 in
theorem laws_markText.calls (k : Nat) (a0 : Int) (r : ByteArray) (w : World) (h : laws_markText.f k a0 = some r) :
  Calls Try.prog 88 #[.int .i64 a0] w fun e w' => e = .returned (.string r) ∧ Below w.heap.size w w' := by
 have HB := Aside0.mk (Below.refl w.heap.size w)
 have H : (if a0 ≤ 0 then (some (⟨#[109, 48]⟩ : ByteArray)) else (laws_markText.l0 k a0 (⟨#[]⟩ : ByteArray))) = some r := h
 clear h
 obtain ⟨c2b0, H⟩ | ⟨c2b0, H⟩ := Xit H
 ·obtain rfl := Option.some.inj H
  go_enter Try.func88, Try.ntmps88
  go_wp2
  go_ret
  exact ⟨Xe, Xi⟩
 ·have H' := Aside0.mk H
  clear H
  go_enter Try.func88, Try.ntmps88
  go_wp2
  go_loopg [0, 3] k (fun kq v0 v3 w' => ∃ (x0_1 : Int) (x3_1 : ByteArray), v0 = .int .i64 x0_1 ∧ v3 = .string x3_1 ∧ Aside0 (laws_markText.l0 kq x0_1 x3_1 = some r) ∧ Aside0 (kq ≤ k) ∧ Aside0 (Below w.heap.size w w'))
  case atStart => exact ⟨(a0), ((⟨#[]⟩ : ByteArray)), Xr, Xr, H', Xkr, ⟨Xi⟩⟩
  case round =>
   clear H'
   (try clear c2); (try clear c2b0)
   obtain ⟨x0_1, x3_1, rfl, rfl, HA, HK1, HB⟩ := hrel
   cases gk with
   | zero => cases HA.out
   | succ k1 =>
    have H := HA.out
    clear HA
    simp only [laws_markText.l0] at H
    obtain ⟨c3, H⟩ | ⟨c3, H⟩ := Xiu H
    ·have c3b0 : decide (0 < x0_1) = true := decide_eq_true c3
     clear c3
     obtain ⟨y213, hy213⟩ : ∃ y_ : List Int, y_ = (([(wrap64 (48 + (Int.tmod x0_1 10))) % 256] : List Int)) := ⟨_, rfl⟩
     replace H : (if (strOfNums y213).size + x3_1.size ≤ 9223372036854775807 then (laws_markText.l0 k1 (wrap64 (Int.tdiv x0_1 10)) ((strOfNums y213) ++ x3_1)) else (none)) = some r := by first | (rw [hy213]; with_reducible exact H) | (have H2_ := (Option.bind_some _ _).symm.trans H; rw [hy213]; with_reducible exact H2_) | (have H2_ := (Option.bind_some _ _).symm.trans H; with_reducible exact H2_) | with_reducible exact H | (rw [hy213]; exact H) | exact H
     have Ny213 := Aside0.mk hy213
     clear hy213
     obtain ⟨c4, H⟩ := Xif H
     have c4b0 := eq_true c4
     have c4b1 : decide ((strOfNums y213).size + x3_1.size ≤ 9223372036854775807) = true := decide_eq_true c4
     try have c4b2 : (9223372036854775807 < (strOfNums y213).size + x3_1.size) = False := eq_false (Nat.not_lt.2 c4)
     have H' := Aside0.mk H
     clear H
     go_wp2_with (first | ((with_reducible refine gate_dst (N := 12) rfl ?_); refine Kd.R_lit (Kd.int .u8) _ 5 ?hg (N := 12) ?hd (xs := ([(wrap64 (48 + (Int.tmod x0_1 10))) % 256] : List Int)) (inner := [.int .u8 ((wrap64 (48 + (Int.tmod x0_1 10))) % 256)]) (ok := fun _ => True) (okp := fun _ => True) ?hr ?hp (fun _ hk => hk) trivial (Below.refl _ _) (Nat.le_refl _) (by simp) ?_; (case hd => rfl); (case hg => rfl); (case hr => first | (go_simp; done) | (go_simp; rfl)); (case hp => exact (Reps.one (show Kd.M (Kd.int .u8) _ _ _ ((wrap64 (48 + (Int.tmod x0_1 10))) % 256) [.int .u8 ((wrap64 (48 + (Int.tmod x0_1 10))) % 256)] from rfl) (Reps.none _ _))); intro v214 w5 ho6 hb hg_ hnew_; clear hg_ hnew_; (first | rw [← Ny213.out] at ho6 | (simp only [Int.reduceToNat] at ho6; rw [← Ny213.out] at ho6)); have HO215 := Aside0.mk (Kd.R_lower ho6 (below_size Xi)); replace HB := Aside0.mk (below_step Xi hb); clear hb ho6; have hcv7 := own_string (P := Try.prog) Try.underlying35 Try.underlying5 Try.underlying9 (Kd.own_of_R HO215.out)))
     go_roundg k1
     case measure => have := HK1.out; omega
     case rel => exact ⟨(wrap64 (Int.tdiv x0_1 10)), ((strOfNums y213) ++ x3_1), Xr, Xr, H', Xk1, ⟨Xi⟩⟩
    ·have c3b0 : decide (0 < x0_1) = false := decide_eq_false c3
     clear c3
     obtain ⟨c8, H⟩ | ⟨c8, H⟩ := Xiu H
     ·have c8b0 := eq_true c8
      have c8b1 : decide (1 + x3_1.size ≤ 9223372036854775807) = true := decide_eq_true c8
      try have c8b2 : (9223372036854775807 < 1 + x3_1.size) = False := eq_false (Nat.not_lt.2 c8)
      obtain rfl := Option.some.inj H
      go_wp2
      go_ret
      exact ⟨Xe, Xi⟩
     ·exact absurd H (by simp)

-- NOT PRINTED: function 72 (laws_markNodeS)

/-! ### spec_l01In: function 84 -/
def spec_l01In.f (a0 : Int) (a1 : Int) (a2 : Int) : Option (Bool) := if a0 ≥ a1 then (some (decide (a0 ≤ a2))) else (some false)
set_option maxHeartbeats 8000000 in
set_option maxRecDepth 100000 in
theorem spec_l01In.calls (a0 : Int) (a1 : Int) (a2 : Int) (r : Bool) (w : World) (h : spec_l01In.f a0 a1 a2 = some r) :
  Calls Try.prog 84 #[.int .i64 a0, .int .i64 a1, .int .i64 a2] w fun e w' => e = .returned (.bool r) ∧ Drawn0 w w' := by
 have H : (if a0 ≥ a1 then (some (decide (a0 ≤ a2))) else (some false)) = some r := h
 clear h
 obtain ⟨c4, H⟩ | ⟨c4, H⟩ := Xiu H
 ·have c4b0 : decide (a1 ≤ a0) = true := decide_eq_true c4
  clear c4
  obtain rfl := Option.some.inj H
  go_enter Try.func84, Try.ntmps84
  go_wp2
  go_ret
  exact ⟨Xr, Xdr⟩
 ·have c4b0 : decide (a1 ≤ a0) = false := decide_eq_false c4
  clear c4
  obtain rfl := Option.some.inj H
  go_enter Try.func84, Try.ntmps84
  go_wp2
  go_ret
  exact ⟨Xr, Xdr⟩

/-! ### spec_l02At: function 74 -/
def spec_l02At.l0 : Nat → Int → Int → Int → Int → List (S43) → Option (Int)
 | 0, _, _, _, _, _ => none
 | k + 1, x1, x5, x217000, x217001, x217002 => if x5 < (x217002.length : Int) then (if 0 ≤ x5 then (if ((rd_T43 x217002 x5).f0) = x1 then (some x5) else (spec_l02At.l0 k x1 (wrap64 (x5 + 1)) x217000 x217001 x217002)) else (none)) else (some (-1))
def spec_l02At.f (k : Nat) (a0_0 : Int) (a0_1 : Int) (l0_2 : List (S43)) (a1 : Int) : Option (Int) := spec_l02At.l0 k a1 0 a0_0 a0_1 l0_2
set_option maxHeartbeats 8000000 in
set_option maxRecDepth 100000 in
theorem spec_l02At.calls (k : Nat) (a0_0 : Int) (a0_1 : Int) (A0_2 : Option Addr) (c0_2 : Nat) (l0_2 : List (S43)) (a1 : Int) (r : Int) (w : World) (hr0_2 : Kd.C k43 w A0_2 l0_2.length l0_2) (hc0_2 : l0_2.length ≤ c0_2) (h : spec_l02At.f k a0_0 a0_1 l0_2 a1 = some r) :
  Calls Try.prog 74 #[.agg #[.int .i64 a0_0, .int .i64 a0_1, .slice A0_2 l0_2.length c0_2], .int .i64 a1] w fun e w' => e = .returned (.int .i64 r) ∧ Below w.heap.size w w' := by
 have hu29 := Try.underlying29
 have HR0_2 := Aside0.mk hr0_2
 have HC0_2 := Aside0.mk hc0_2
 clear hr0_2 hc0_2
 have HB := Aside0.mk (Below.refl w.heap.size w)
 have H : (spec_l02At.l0 k a1 0 a0_0 a0_1 l0_2) = some r := h
 clear h
 have H' := Aside0.mk H
 clear H
 go_enter Try.func74, Try.ntmps74
 go_wp2_with (first | ((with_reducible refine gate_dst (N := 2) rfl ?_); refine Xbox 2 #[.int .i64 a0_0, .int .i64 a0_1, .slice A0_2 l0_2.length c0_2] 29 ?_; intro gb216 hg w3 hbox hb; have BK216 := Aside0.mk (hbox); have GE216 := Xge hg Xi; replace HB := Aside0.mk (below_step Xi hb); clear hb hbox hg))
 go_loopg [5] k (fun kq v5 w' => ∃ (x5_1 : Int), v5 = .int .i64 x5_1 ∧ Aside0 (spec_l02At.l0 kq a1 x5_1 a0_0 a0_1 l0_2 = some r) ∧ Aside0 (kq ≤ k) ∧ Aside0 (w'.heap[gb216]? = some (.cells #[.int .i64 a0_0, .int .i64 a0_1, (.slice A0_2 l0_2.length c0_2)] 29 (0, 0))) ∧ Aside0 (Below w.heap.size w w'))
 case atStart => exact ⟨(0), Xr, H', Xkr, BK216, ⟨Xi⟩⟩
 case round =>
  clear H'
  obtain ⟨x5_1, rfl, HA, HK1, BK216, HB⟩ := hrel
  cases gk with
  | zero => cases HA.out
  | succ k1 =>
   have H := HA.out
   clear HA
   simp only [spec_l02At.l0] at H
   obtain ⟨c4b0, H⟩ | ⟨c4b0, H⟩ := Xit H
   ·obtain ⟨c5b0, H⟩ := Xid H
    obtain ⟨c6, H⟩ | ⟨c6, H⟩ := Xiu H
    ·have c6b0 : (((rd_T43 l0_2 x5_1).f0) == a1) = true := beq_iff_eq.mpr c6
     have c6b1 : (((rd_T43 l0_2 x5_1).f0) != a1) = false := bne_eq_false_iff_eq.mpr c6
     clear c6
     obtain rfl := Option.some.inj H
     obtain ⟨hcz7_0, hcz7_1, hcz7_2⟩ := Xc3 BK216
     obtain ⟨ad217, A217_4, c217_4, e217, p217, q217, hx217_0, hx217_1, hx217_2, hx217_3, hx217_4, HC217_4, HR217_4⟩ := at_B43 HR0_2 x5_1 Xa Xa HB
     cases e217
     go_wp2
     go_ret
     exact ⟨Xe, Xi⟩
    ·have c6b0 : (((rd_T43 l0_2 x5_1).f0) == a1) = false := beq_eq_false_iff_ne.mpr c6
     have c6b1 : (((rd_T43 l0_2 x5_1).f0) != a1) = true := bne_iff_ne.mpr c6
     have H' := Aside0.mk H
     clear H
     obtain ⟨hcz8_0, hcz8_1, hcz8_2⟩ := Xc3 BK216
     obtain ⟨ad217, A217_4, c217_4, e217, p217, q217, hx217_0, hx217_1, hx217_2, hx217_3, hx217_4, HC217_4, HR217_4⟩ := at_B43 HR0_2 x5_1 Xa Xa HB
     cases e217
     go_wp2
     go_roundg k1
     case measure => have := HK1.out; omega
     case rel => exact ⟨(wrap64 (x5_1 + 1)), Xr, H', Xk1, BK216, ⟨Xi⟩⟩
   ·obtain rfl := Option.some.inj H
    obtain ⟨hcz9_0, hcz9_1, hcz9_2⟩ := Xc3 BK216
    go_wp2
    go_ret
    exact ⟨Xe, Xi⟩

end Go.Proofs.Ytpdhccdmbdbdpaa.XA
