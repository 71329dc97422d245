/- Contracts of the program's functions: each Go function that is named below comes to what its Lean function says. Written by xprint.py (a program of this session's, over the kit's print). Conditions: each contract's own premises. -/
import Derived.Test.YtocelbmpnjnnbaaYPutHold0
import Derived.Test.YtocelbmpnjnnbaaYPutHold8
namespace Go.Proofs.Ytocelbmpnjnnbaa.XA
open Go.RowKit Go.Proofs.YtocelbmpnjnnbaaW.PrintWords Go.Proofs.YtocelbmpnjnnbaaW.PrintLast Go.Proofs.YtocelbmpnjnnbaaW.PrintMore XW
attribute [local go_sem] max2_int min2_int max_two min_two max_three min_three max_four min_four   -- for this text's walks alone
set_option linter.unusedVariables false
set_option linter.unusedSimpArgs false

/-! ### slices_BinarySearchFunc_impl_Node_impl_Node_int_at_impl_Doc_find_1: function 143 -/
def slices_BinarySearchFunc_impl_Node_impl_Node_int_at_impl_Doc_find_1.l0 : Nat → List (S64) → Int → Int → Int → Int → Option (Int × Bool)
 | 0, _, _, _, _, _ => none
 | k + 1, x0, x1, x8, x9, x10 => if x9 < x10 then (if 0 ≤ (wrap64 ((IntKind.u64.wrap (wrap64 (x9 + x10))) / 2)) then (if (wrap64 ((IntKind.u64.wrap (wrap64 (x9 + x10))) / 2)) < (x0.length : Int) then ((impl_Doc_find_1.f ((rd_T64 x0 (wrap64 ((IntKind.u64.wrap (wrap64 (x9 + x10))) / 2))).f0) ((rd_T64 x0 (wrap64 ((IntKind.u64.wrap (wrap64 (x9 + x10))) / 2))).f1) ((rd_T64 x0 (wrap64 ((IntKind.u64.wrap (wrap64 (x9 + x10))) / 2))).f2) ((rd_T64 x0 (wrap64 ((IntKind.u64.wrap (wrap64 (x9 + x10))) / 2))).f3) ((rd_T64 x0 (wrap64 ((IntKind.u64.wrap (wrap64 (x9 + x10))) / 2))).f4) x1).bind fun t272 => (if t272 < 0 then (slices_BinarySearchFunc_impl_Node_impl_Node_int_at_impl_Doc_find_1.l0 k x0 x1 x8 (wrap64 ((wrap64 ((IntKind.u64.wrap (wrap64 (x9 + x10))) / 2)) + 1)) x10) else (slices_BinarySearchFunc_impl_Node_impl_Node_int_at_impl_Doc_find_1.l0 k x0 x1 x8 x9 (wrap64 ((IntKind.u64.wrap (wrap64 (x9 + x10))) / 2))))) else (none)) else (none)) else (if x9 < x8 then (if 0 ≤ x9 then (if x9 < (x0.length : Int) then ((impl_Doc_find_1.f ((rd_T64 x0 x9).f0) ((rd_T64 x0 x9).f1) ((rd_T64 x0 x9).f2) ((rd_T64 x0 x9).f3) ((rd_T64 x0 x9).f4) x1).bind fun t274 => (some (x9, (t274 == 0)))) else (none)) else (none)) else (some (x9, false)))
def slices_BinarySearchFunc_impl_Node_impl_Node_int_at_impl_Doc_find_1.f (k : Nat) (l0 : List (S64)) (a1 : Int)  : Option (Int × Bool) := slices_BinarySearchFunc_impl_Node_impl_Node_int_at_impl_Doc_find_1.l0 k l0 a1 (l0.length : Int) 0 (l0.length : Int)
set_option maxHeartbeats 8000000 in
set_option maxRecDepth 100000 in
theorem slices_BinarySearchFunc_impl_Node_impl_Node_int_at_impl_Doc_find_1.calls (k : Nat) (A0 : Option Addr) (c0 : Nat) (l0 : List (S64)) (a1 : Int)  (r1 : Int) (r2 : Bool) (w : World) (hr0 : Kd.C k64 w A0 l0.length l0) (hc0 : l0.length ≤ c0) (h : slices_BinarySearchFunc_impl_Node_impl_Node_int_at_impl_Doc_find_1.f k l0 a1 = some (r1, r2)) :
  Calls Try.prog 143 #[.slice A0 l0.length c0, .int .i64 a1, .func (.func 144) #[] #[]] w fun e w' => e = .returned (.tuple #[.int .i64 r1, .bool r2]) ∧ Below w.heap.size w w' := by
 have hu64 := Try.underlying64
 have HR0 := Aside0.mk hr0
 have HC0 := Aside0.mk hc0
 clear hr0 hc0
 have HB := Aside0.mk (Below.refl w.heap.size w)
 have H : (slices_BinarySearchFunc_impl_Node_impl_Node_int_at_impl_Doc_find_1.l0 k l0 a1 (l0.length : Int) 0 (l0.length : Int)) = some (r1, r2) := h
 clear h
 have H' := Aside0.mk H
 clear H
 go_enter Try.func143, Try.ntmps143
 go_wp2
 go_loopg [9, 10] k (fun kq v9 v10 w' => ∃ (x9_1 : Int) (x10_1 : Int), v9 = .int .i64 x9_1 ∧ v10 = .int .i64 x10_1 ∧ Aside0 (slices_BinarySearchFunc_impl_Node_impl_Node_int_at_impl_Doc_find_1.l0 kq l0 a1 (l0.length : Int) x9_1 x10_1 = some (r1, r2)) ∧ Aside0 (kq ≤ k) ∧ Aside0 (Below w.heap.size w w'))
 case atStart => exact ⟨(0), ((l0.length : Int)), Xr, Xr, H', Xkr, ⟨Xi⟩⟩
 case round =>
  clear H'
  obtain ⟨x9_1, x10_1, rfl, rfl, HA, HK1, HB⟩ := hrel
  cases gk with
  | zero => cases HA.out
  | succ k1 =>
   have H := HA.out
   clear HA
   simp only [slices_BinarySearchFunc_impl_Node_impl_Node_int_at_impl_Doc_find_1.l0] at H
   obtain ⟨c4b0, H⟩ | ⟨c4b0, H⟩ := Xit H
   ·obtain ⟨ji5, hji5⟩ : ∃ j_ : Int, (wrap64 ((IntKind.u64.wrap (wrap64 (x9_1 + x10_1))) / 2)) = j_ := ⟨_, rfl⟩
    replace H : (if 0 ≤ (ji5) then (if (ji5) < (l0.length : Int) then ((impl_Doc_find_1.f ((rd_T64 l0 (ji5)).f0) ((rd_T64 l0 (ji5)).f1) ((rd_T64 l0 (ji5)).f2) ((rd_T64 l0 (ji5)).f3) ((rd_T64 l0 (ji5)).f4) a1).bind fun t272 => (if t272 < 0 then (slices_BinarySearchFunc_impl_Node_impl_Node_int_at_impl_Doc_find_1.l0 k1 l0 a1 (l0.length : Int) (wrap64 ((ji5) + 1)) x10_1) else (slices_BinarySearchFunc_impl_Node_impl_Node_int_at_impl_Doc_find_1.l0 k1 l0 a1 (l0.length : Int) x9_1 ji5))) else (none)) else (none)) = some (r1, r2) := by first | (rw [hji5] at H; exact H) | (simp only [hji5] at H ⊢; exact H)
    have hji5w : (IntKind.i64.wrap ((IntKind.u64.wrap (wrap64 (x9_1 + x10_1))) / 2)) = ji5 := (i64_w _).trans hji5
    obtain ⟨c6b0, H⟩ := Xid H
    obtain ⟨c7b0, H⟩ := Xid H
    obtain ⟨t272, A8, H⟩ := Xbi H
    (try dsimp only at H)
    have HC9 := Aside0.mk H
    clear H
    obtain ⟨ad271, A271_4, c271_4, e271, p271, q271, hx271_0, hx271_1, hx271_2, hx271_3, hx271_4, HC271_4, HR271_4⟩ := at_B64 HR0 (ji5) Xa Xa HB
    cases e271
    go_upto_if 31 with (first | (go_at_call 144; (with_reducible refine (impl_Doc_find_1.calls ((rd_T64 l0 (ji5)).f0) ((rd_T64 l0 (ji5)).f1) ((rd_T64 l0 (ji5)).f2) ((rd_T64 l0 (ji5)).f3) _ _ ((rd_T64 l0 (ji5)).f4) a1 t272 _ ?side1 ?side2 A8.out).mono ?_); (case side1 => exact Xc HR271_4); (case side2 => exact HC271_4.out); rintro e w10 ⟨rfl, hb⟩; replace HB := Aside0.mk (below_step Xi hb); clear hb))
    have H := HC9.out
    clear HC9
    obtain ⟨c11b0, H⟩ | ⟨c11b0, H⟩ := Xit H
    ·(first | rw [c11b0] | (simp only [i64_w, i32_w]; rw [c11b0]) | skip)
     have H' := Aside0.mk H
     clear H
     go_wp2
     go_roundg k1
     case measure => have := HK1.out; omega
     case rel => exact ⟨(wrap64 ((ji5) + 1)), (x10_1), (by first | rfl | (simp; done) | (simp only [← hji5] <;> (first | rfl | simp)) | (simp [*]; done)), Xr, H', Xk1, ⟨Xi⟩⟩
    ·(first | rw [c11b0] | (simp only [i64_w, i32_w]; rw [c11b0]) | skip)
     have H' := Aside0.mk H
     clear H
     go_wp2
     go_roundg k1
     case measure => have := HK1.out; omega
     case rel => exact ⟨(x9_1), (ji5), Xr, (by first | rfl | (simp; done) | (simp only [← hji5] <;> (first | rfl | simp)) | (simp [*]; done)), H', Xk1, ⟨Xi⟩⟩
   ·obtain ⟨c12b0, H⟩ | ⟨c12b0, H⟩ := Xit H
    ·obtain ⟨c13b0, H⟩ := Xid H
     obtain ⟨c14b0, H⟩ := Xid H
     obtain ⟨t274, A15, H⟩ := Xbi H
     (try dsimp only at H)
     simp only [Option.some.injEq, Prod.mk.injEq] at H
     obtain ⟨rfl, rfl⟩ := H
     obtain ⟨ad273, A273_4, c273_4, e273, p273, q273, hx273_0, hx273_1, hx273_2, hx273_3, hx273_4, HC273_4, HR273_4⟩ := at_B64 HR0 x9_1 Xa Xa HB
     cases e273
     go_wp2_with (first | (go_at_call 144; (with_reducible refine (impl_Doc_find_1.calls ((rd_T64 l0 x9_1).f0) ((rd_T64 l0 x9_1).f1) ((rd_T64 l0 x9_1).f2) ((rd_T64 l0 x9_1).f3) _ _ ((rd_T64 l0 x9_1).f4) a1 t274 _ ?side1 ?side2 A15.out).mono ?_); (case side1 => exact Xc HR273_4); (case side2 => exact HC273_4.out); rintro e w16 ⟨rfl, hb⟩; replace HB := Aside0.mk (below_step Xi hb); clear hb))
     go_ret2
     exact ⟨Xe, Xi⟩
    ·simp only [Option.some.injEq, Prod.mk.injEq] at H
     obtain ⟨rfl, rfl⟩ := H
     go_wp2
     go_ret2
     exact ⟨Xe, Xi⟩

end Go.Proofs.Ytocelbmpnjnnbaa.XA
