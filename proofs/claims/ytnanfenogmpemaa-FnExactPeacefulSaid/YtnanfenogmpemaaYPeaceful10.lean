/- Contracts of the program's functions: each Go function that is named below comes to what its Lean function says. Written by xprint.py (a program of this session's, over the kit's print). Conditions: each contract's own premises. -/
import Derived.Test.YtnanfenogmpemaaYPeaceful0
import Derived.Test.YtnanfenogmpemaaYPeaceful9
namespace Go.Proofs.Ytnanfenogmpemaa.XA
open Go.RowKit Go.Proofs.YtnanfenogmpemaaW.PrintWords Go.Proofs.YtnanfenogmpemaaW.PrintLast Go.Proofs.YtnanfenogmpemaaW.PrintMore XW
attribute [local go_sem] max2_int min2_int max_two min_two max_three min_three max_four min_four   -- for this text's walks alone
set_option linter.unusedVariables false
set_option linter.unusedSimpArgs false

/-! ### impl_isSession: function 79 -/
def impl_isSession.f (a0 : Int) : Option (Bool) := (impl_within.f a0 1 999).bind fun t273 => (some t273)
set_option maxHeartbeats 8000000 in
set_option maxRecDepth 100000 in
theorem impl_isSession.calls (a0 : Int) (r : Bool) (w : World) (h : impl_isSession.f a0 = some r) :
  Calls Try.prog 79 #[.int .i64 a0] w fun e w' => e = .returned (.bool r) ∧ Drawn0 w w' := by
 have H : ((impl_within.f a0 1 999).bind fun t273 => (some t273)) = some r := h
 clear h
 obtain ⟨t273, A2, H⟩ := Xbi H
 (try dsimp only at H)
 obtain rfl := Option.some.inj H
 go_enter Try.func79, Try.ntmps79
 go_wp2_with (first | ((with_reducible refine gate_callee (f := 121) rfl ?_); refine Xgo 4 Try.func121 #[.int .i64 a0, .int .i64 1, .int .i64 999] ?_; (with_reducible refine (impl_within.calls a0 1 999 t273 _ A2.out).mono ?_); rintro e w' ⟨rfl, ⟨nd, rfl⟩⟩; refine ⟨_, rfl, ?_⟩))
 go_ret
 exact ⟨Xr, Xdr⟩

/-! ### impl_Doc_find_1: function 144 -/
def impl_Doc_find_1.f (a0_0 : Int) (a0_1 : Int) (a0_2 : Int) (a0_3 : ByteArray) (l0_4 : List Int) (a1 : Int) : Option (Int) := some (wrap64 (a0_0 - a1))
set_option maxHeartbeats 8000000 in
set_option maxRecDepth 100000 in
theorem impl_Doc_find_1.calls (a0_0 : Int) (a0_1 : Int) (a0_2 : Int) (a0_3 : ByteArray) (A0_4 : Option Addr) (c0_4 : Nat) (l0_4 : List Int) (a1 : Int) (r : Int) (w : World) (hr0_4 : Kd.C (Kd.int .i64) w A0_4 l0_4.length l0_4) (hc0_4 : l0_4.length ≤ c0_4) (h : impl_Doc_find_1.f a0_0 a0_1 a0_2 a0_3 l0_4 a1 = some r) :
  Calls Try.prog 144 #[.agg #[.int .i64 a0_0, .int .i64 a0_1, .int .i64 a0_2, .string a0_3, .slice A0_4 l0_4.length c0_4], .int .i64 a1] w fun e w' => e = .returned (.int .i64 r) ∧ Below w.heap.size w w' := by
 have hu92 := Try.underlying92
 have HR0_4 := Aside0.mk hr0_4
 have HC0_4 := Aside0.mk hc0_4
 clear hr0_4 hc0_4
 have HB := Aside0.mk (Below.refl w.heap.size w)
 have H : (some (wrap64 (a0_0 - a1))) = some r := h
 clear h
 obtain rfl := Option.some.inj H
 go_enter Try.func144, Try.ntmps144
 go_wp2_with (first | ((with_reducible refine gate_dst (N := 2) rfl ?_); refine Xbox 2 #[.int .i64 a0_0, .int .i64 a0_1, .int .i64 a0_2, .string a0_3, .slice A0_4 l0_4.length c0_4] 92 ?_; intro gb275 hg w3 hbox hb; have BK275 := Aside0.mk (hbox); have GE275 := Xge hg Xi; replace HB := Aside0.mk (below_step Xi hb); clear hb hbox hg; obtain ⟨hcz4_0, hcz4_1, hcz4_2, hcz4_3, hcz4_4⟩ := Xc5 BK275))
 go_ret
 exact ⟨Xe, Xi⟩

/-! ### slices_BinarySearchFunc_impl_Node_impl_Node_int_at_impl_Doc_find_1: function 143 -/
def slices_BinarySearchFunc_impl_Node_impl_Node_int_at_impl_Doc_find_1.l0 : Nat → List (S92) → Int → Int → Int → Int → Option (Int × Bool)
 | 0, _, _, _, _, _ => none
 | k + 1, x0, x1, x8, x9, x10 => if x9 < x10 then (if 0 ≤ (wrap64 ((IntKind.u64.wrap (wrap64 (x9 + x10))) / 2)) then (if (wrap64 ((IntKind.u64.wrap (wrap64 (x9 + x10))) / 2)) < (x0.length : Int) then ((impl_Doc_find_1.f ((rd_T92 x0 (wrap64 ((IntKind.u64.wrap (wrap64 (x9 + x10))) / 2))).f0) ((rd_T92 x0 (wrap64 ((IntKind.u64.wrap (wrap64 (x9 + x10))) / 2))).f1) ((rd_T92 x0 (wrap64 ((IntKind.u64.wrap (wrap64 (x9 + x10))) / 2))).f2) ((rd_T92 x0 (wrap64 ((IntKind.u64.wrap (wrap64 (x9 + x10))) / 2))).f3) ((rd_T92 x0 (wrap64 ((IntKind.u64.wrap (wrap64 (x9 + x10))) / 2))).f4) x1).bind fun t277 => (if t277 < 0 then (slices_BinarySearchFunc_impl_Node_impl_Node_int_at_impl_Doc_find_1.l0 k x0 x1 x8 (wrap64 ((wrap64 ((IntKind.u64.wrap (wrap64 (x9 + x10))) / 2)) + 1)) x10) else (slices_BinarySearchFunc_impl_Node_impl_Node_int_at_impl_Doc_find_1.l0 k x0 x1 x8 x9 (wrap64 ((IntKind.u64.wrap (wrap64 (x9 + x10))) / 2))))) else (none)) else (none)) else (if x9 < x8 then (if 0 ≤ x9 then (if x9 < (x0.length : Int) then ((impl_Doc_find_1.f ((rd_T92 x0 x9).f0) ((rd_T92 x0 x9).f1) ((rd_T92 x0 x9).f2) ((rd_T92 x0 x9).f3) ((rd_T92 x0 x9).f4) x1).bind fun t279 => (some (x9, (t279 == 0)))) else (none)) else (none)) else (some (x9, false)))
def slices_BinarySearchFunc_impl_Node_impl_Node_int_at_impl_Doc_find_1.f (k : Nat) (l0 : List (S92)) (a1 : Int)  : Option (Int × Bool) := slices_BinarySearchFunc_impl_Node_impl_Node_int_at_impl_Doc_find_1.l0 k l0 a1 (l0.length : Int) 0 (l0.length : Int)
set_option maxHeartbeats 8000000 in
set_option maxRecDepth 100000 in
theorem slices_BinarySearchFunc_impl_Node_impl_Node_int_at_impl_Doc_find_1.calls (k : Nat) (A0 : Option Addr) (c0 : Nat) (l0 : List (S92)) (a1 : Int)  (r1 : Int) (r2 : Bool) (w : World) (hr0 : Kd.C k92 w A0 l0.length l0) (hc0 : l0.length ≤ c0) (h : slices_BinarySearchFunc_impl_Node_impl_Node_int_at_impl_Doc_find_1.f k l0 a1 = some (r1, r2)) :
  Calls Try.prog 143 #[.slice A0 l0.length c0, .int .i64 a1, .func (.func 144) #[] #[]] w fun e w' => e = .returned (.tuple #[.int .i64 r1, .bool r2]) ∧ Below w.heap.size w w' := by
 have hu92 := Try.underlying92
 have HR0 := Aside0.mk hr0
 have HC0 := Aside0.mk hc0
 clear hr0 hc0
 have HB := Aside0.mk (Below.refl w.heap.size w)
 have H : (slices_BinarySearchFunc_impl_Node_impl_Node_int_at_impl_Doc_find_1.l0 k l0 a1 (l0.length : Int) 0 (l0.length : Int)) = some (r1, r2) := h
 clear h
 have H' := Aside0.mk H
 clear H
 go_enter Try.func143, Try.ntmps143
 go_wp2
 go_loopg [9, 10] k (fun kq v9 v10 w' => ∃ (x9_1 : Int) (x10_1 : Int), v9 = .int .i64 x9_1 ∧ v10 = .int .i64 x10_1 ∧ Aside0 (slices_BinarySearchFunc_impl_Node_impl_Node_int_at_impl_Doc_find_1.l0 kq l0 a1 (l0.length : Int) x9_1 x10_1 = some (r1, r2)) ∧ Aside0 (kq ≤ k) ∧ Aside0 (Below w.heap.size w w'))
 case atStart => exact ⟨(0), ((l0.length : Int)), Xr, Xr, H', Xkr, ⟨Xi⟩⟩
 case round =>
  clear H'
  obtain ⟨x9_1, x10_1, rfl, rfl, HA, HK1, HB⟩ := hrel
  cases gk with
  | zero => cases HA.out
  | succ k1 =>
   have H := HA.out
   clear HA
   simp only [slices_BinarySearchFunc_impl_Node_impl_Node_int_at_impl_Doc_find_1.l0] at H
   obtain ⟨c4b0, H⟩ | ⟨c4b0, H⟩ := Xit H
   ·obtain ⟨ji5, hji5⟩ : ∃ j_ : Int, (wrap64 ((IntKind.u64.wrap (wrap64 (x9_1 + x10_1))) / 2)) = j_ := ⟨_, rfl⟩
    replace H : (if 0 ≤ (ji5) then (if (ji5) < (l0.length : Int) then ((impl_Doc_find_1.f ((rd_T92 l0 (ji5)).f0) ((rd_T92 l0 (ji5)).f1) ((rd_T92 l0 (ji5)).f2) ((rd_T92 l0 (ji5)).f3) ((rd_T92 l0 (ji5)).f4) a1).bind fun t277 => (if t277 < 0 then (slices_BinarySearchFunc_impl_Node_impl_Node_int_at_impl_Doc_find_1.l0 k1 l0 a1 (l0.length : Int) (wrap64 ((ji5) + 1)) x10_1) else (slices_BinarySearchFunc_impl_Node_impl_Node_int_at_impl_Doc_find_1.l0 k1 l0 a1 (l0.length : Int) x9_1 ji5))) else (none)) else (none)) = some (r1, r2) := by first | (rw [hji5] at H; exact H) | (simp only [hji5] at H ⊢; exact H)
    have hji5w : (IntKind.i64.wrap ((IntKind.u64.wrap (wrap64 (x9_1 + x10_1))) / 2)) = ji5 := (i64_w _).trans hji5
    obtain ⟨c6b0, H⟩ := Xid H
    obtain ⟨c7b0, H⟩ := Xid H
    obtain ⟨t277, A8, H⟩ := Xbi H
    (try dsimp only at H)
    have HC9 := Aside0.mk H
    clear H
    obtain ⟨ad276, A276_4, c276_4, e276, p276, q276, hx276_0, hx276_1, hx276_2, hx276_3, hx276_4, HC276_4, HR276_4⟩ := at_B92 HR0 (ji5) Xa Xa HB
    cases e276
    go_upto_if 31 with (first | (go_at_call 144; (with_reducible refine (impl_Doc_find_1.calls ((rd_T92 l0 (ji5)).f0) ((rd_T92 l0 (ji5)).f1) ((rd_T92 l0 (ji5)).f2) ((rd_T92 l0 (ji5)).f3) _ _ ((rd_T92 l0 (ji5)).f4) a1 t277 _ ?side1 ?side2 A8.out).mono ?_); (case side1 => exact Xc HR276_4); (case side2 => exact HC276_4.out); rintro e w10 ⟨rfl, hb⟩; replace HB := Aside0.mk (below_step Xi hb); clear hb))
    have H := HC9.out
    clear HC9
    obtain ⟨c11b0, H⟩ | ⟨c11b0, H⟩ := Xit H
    ·(first | rw [c11b0] | (simp only [i64_w, i32_w]; rw [c11b0]) | skip)
     have H' := Aside0.mk H
     clear H
     go_wp2
     go_roundg k1
     case measure => have := HK1.out; omega
     case rel => exact ⟨(wrap64 ((ji5) + 1)), (x10_1), (by first | rfl | (simp; done) | (simp only [← hji5] <;> (first | rfl | simp)) | (simp [*]; done)), Xr, H', Xk1, ⟨Xi⟩⟩
    ·(first | rw [c11b0] | (simp only [i64_w, i32_w]; rw [c11b0]) | skip)
     have H' := Aside0.mk H
     clear H
     go_wp2
     go_roundg k1
     case measure => have := HK1.out; omega
     case rel => exact ⟨(x9_1), (ji5), Xr, (by first | rfl | (simp; done) | (simp only [← hji5] <;> (first | rfl | simp)) | (simp [*]; done)), H', Xk1, ⟨Xi⟩⟩
   ·obtain ⟨c12b0, H⟩ | ⟨c12b0, H⟩ := Xit H
    ·obtain ⟨c13b0, H⟩ := Xid H
     obtain ⟨c14b0, H⟩ := Xid H
     obtain ⟨t279, A15, H⟩ := Xbi H
     (try dsimp only at H)
     simp only [Option.some.injEq, Prod.mk.injEq] at H
     obtain ⟨rfl, rfl⟩ := H
     obtain ⟨ad278, A278_4, c278_4, e278, p278, q278, hx278_0, hx278_1, hx278_2, hx278_3, hx278_4, HC278_4, HR278_4⟩ := at_B92 HR0 x9_1 Xa Xa HB
     cases e278
     go_wp2_with (first | (go_at_call 144; (with_reducible refine (impl_Doc_find_1.calls ((rd_T92 l0 x9_1).f0) ((rd_T92 l0 x9_1).f1) ((rd_T92 l0 x9_1).f2) ((rd_T92 l0 x9_1).f3) _ _ ((rd_T92 l0 x9_1).f4) a1 t279 _ ?side1 ?side2 A15.out).mono ?_); (case side1 => exact Xc HR278_4); (case side2 => exact HC278_4.out); rintro e w16 ⟨rfl, hb⟩; replace HB := Aside0.mk (below_step Xi hb); clear hb))
     go_ret2
     exact ⟨Xe, Xi⟩
    ·simp only [Option.some.injEq, Prod.mk.injEq] at H
     obtain ⟨rfl, rfl⟩ := H
     go_wp2
     go_ret2
     exact ⟨Xe, Xi⟩

end Go.Proofs.Ytnanfenogmpemaa.XA
