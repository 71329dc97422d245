/- Contracts of the program's functions: each Go function that is named below comes to what its Lean function says. Written by xprint.py (a program of this session's, over the kit's print). Conditions: each contract's own premises. -/
import Derived.Test.YtocelbmpnjnnbaaYPutHold0
import Derived.Test.YtocelbmpnjnnbaaYPutHold10
import Derived.Test.YtocelbmpnjnnbaaYPutHold12
import Derived.Test.YtocelbmpnjnnbaaYPutHold13
namespace Go.Proofs.Ytocelbmpnjnnbaa.XA
open Go.RowKit Go.Proofs.YtocelbmpnjnnbaaW.PrintWords Go.Proofs.YtocelbmpnjnnbaaW.PrintLast Go.Proofs.YtocelbmpnjnnbaaW.PrintMore XW
attribute [local go_sem] max2_int min2_int max_two min_two max_three min_three max_four min_four   -- for this text's walks alone
set_option linter.unusedVariables false
set_option linter.unusedSimpArgs false

/-! ### impl_locksCode: function 107 -/
def impl_locksCode.f (k : Nat) (a0_0 : Int) (a0_1 : Int) (l0_2 : List (S64)) (l1 : List (S38)) (a2 : Int) (a3 : Int) : Option (Int) := (impl_isLongList_impl_Hold.f l1).bind fun t339 => (if t339 = true then (some 2) else ((impl_HoldsOK.f k a0_0 a0_1 l0_2 l1).bind fun t340 => (if t340 = true then ((impl_isSession.f a2).bind fun t341 => (if t341 = true then ((impl_Doc_has.f k a0_0 a0_1 l0_2 a3).bind fun t342 => (if t342 = true then (some 0) else (some 5))) else (some 4))) else (some 1))))
set_option maxHeartbeats 8000000 in
set_option maxRecDepth 100000 in
theorem impl_locksCode.calls (k : Nat) (a0_0 : Int) (a0_1 : Int) (A0_2 : Option Addr) (c0_2 : Nat) (l0_2 : List (S64)) (A1 : Option Addr) (c1 : Nat) (l1 : List (S38)) (a2 : Int) (a3 : Int) (r : Int) (w : World) (hr0_2 : Kd.C k64 w A0_2 l0_2.length l0_2) (hc0_2 : l0_2.length ≤ c0_2) (hr1 : Kd.C k38 w A1 l1.length l1) (hc1 : l1.length ≤ c1) (h : impl_locksCode.f k a0_0 a0_1 l0_2 l1 a2 a3 = some r) :
  Calls Try.prog 107 #[.agg #[.int .i64 a0_0, .int .i64 a0_1, .slice A0_2 l0_2.length c0_2], .slice A1 l1.length c1, .int .i64 a2, .int .i64 a3] w fun e w' => e = .returned (.int .i64 r) ∧ Below w.heap.size w w' := by
 have hu35 := Try.underlying35
 have HR0_2 := Aside0.mk hr0_2
 have HC0_2 := Aside0.mk hc0_2
 clear hr0_2 hc0_2
 have HR1 := Aside0.mk hr1
 have HC1 := Aside0.mk hc1
 clear hr1 hc1
 have HB := Aside0.mk (Below.refl w.heap.size w)
 have H : ((impl_isLongList_impl_Hold.f l1).bind fun t339 => (if t339 = true then (some 2) else ((impl_HoldsOK.f k a0_0 a0_1 l0_2 l1).bind fun t340 => (if t340 = true then ((impl_isSession.f a2).bind fun t341 => (if t341 = true then ((impl_Doc_has.f k a0_0 a0_1 l0_2 a3).bind fun t342 => (if t342 = true then (some 0) else (some 5))) else (some 4))) else (some 1))))) = some r := h
 clear h
 obtain ⟨t339, A5, H⟩ := Xbi H
 (try dsimp only at H)
 have HC6 := Aside0.mk H
 clear H
 go_enter Try.func107, Try.ntmps107
 go_upto_if 9 with (first | ((with_reducible refine gate_dst (N := 4) rfl ?_); refine Xbox 4 #[.int .i64 a0_0, .int .i64 a0_1, .slice A0_2 l0_2.length c0_2] 35 ?_; intro gb338 hg w7 hbox hb; have BK338 := Aside0.mk (hbox); have GE338 := Xge hg Xi; replace HB := Aside0.mk (below_step Xi hb); clear hb hbox hg) | ((with_reducible refine gate_callee (f := 171) rfl ?_); refine Xgo 11 Try.func171 #[.slice A1 l1.length c1] ?_; (with_reducible refine (impl_isLongList_impl_Hold.calls _ _ l1 t339 _ ?side1 ?side2 A5.out).mono ?_); (case side1 => exact Xc HR1); (case side2 => exact HC1.out); rintro e w' ⟨rfl, ⟨nd, rfl⟩⟩; refine ⟨_, rfl, ?_⟩))
 have H := HC6.out
 clear HC6
 by_cases c8 : t339 = true
 ·subst c8
  (first | rw [if_pos rfl] at H | skip)
  obtain rfl := Option.some.inj H
  go_wp2
  go_ret
  exact ⟨Xe, Xi⟩
 ·replace c8 := Bool.eq_false_iff.mpr c8
  subst c8
  (first | rw [if_neg (show ¬ (false = true) by decide)] at H | skip)
  obtain ⟨t340, A9, H⟩ := Xbi H
  (try dsimp only at H)
  have HC10 := Aside0.mk H
  clear H
  obtain ⟨hcz11_0, hcz11_1, hcz11_2⟩ := Xc3 BK338
  go_upto_if 12 with (first | ((with_reducible refine gate_callee (f := 172) rfl ?_); refine Xgo 15 Try.func172 #[.agg #[.int .i64 a0_0, .int .i64 a0_1, .slice A0_2 l0_2.length c0_2], .slice A1 l1.length c1] ?_; (with_reducible refine (impl_HoldsOK.calls k a0_0 a0_1 _ _ l0_2 _ _ l1 t340 _ ?side1 ?side2 ?side3 ?side4 A9.out).mono ?_); (case side1 => exact Xc HR0_2); (case side2 => exact HC0_2.out); (case side3 => exact Xc HR1); (case side4 => exact HC1.out); rintro e w12 ⟨rfl, hb⟩; refine ⟨_, rfl, ?_⟩; replace BK338 := Xbb BK338 hb; replace HB := Aside0.mk (below_step Xi hb); clear hb))
  have H := HC10.out
  clear HC10
  by_cases c13 : t340 = true
  ·subst c13
   (first | rw [if_pos rfl] at H | skip)
   obtain ⟨t341, A14, H⟩ := Xbi H
   (try dsimp only at H)
   have HC15 := Aside0.mk H
   clear H
   go_upto_if 17 with (first | ((with_reducible refine gate_callee (f := 173) rfl ?_); refine Xgo 19 Try.func173 #[.int .i64 a2] ?_; (with_reducible refine (impl_isSession.calls a2 t341 _ A14.out).mono ?_); rintro e w' ⟨rfl, ⟨nd, rfl⟩⟩; refine ⟨_, rfl, ?_⟩))
   have H := HC15.out
   clear HC15
   by_cases c16 : t341 = true
   ·subst c16
    (first | rw [if_pos rfl] at H | skip)
    obtain ⟨t342, A17, H⟩ := Xbi H
    (try dsimp only at H)
    have HC18 := Aside0.mk H
    clear H
    go_upto_if 21 with (first | ((with_reducible refine gate_callee (f := 83) rfl ?_); refine Xgo 23 Try.func83 #[.pointer (some ⟨gb338, 0, none⟩), .int .i64 a3] ?_; (with_reducible refine (impl_Doc_has.calls k gb338 a0_0 a0_1 A0_2 c0_2 l0_2 a3 t342 _ ?side1 ?side2 ?side3 A17.out).mono ?_); (case side1 => exact BK338.out); (case side2 => exact Xc HR0_2); (case side3 => exact HC0_2.out); rintro e w19 ⟨rfl, hb⟩; refine ⟨_, rfl, ?_⟩; replace BK338 := Xbb BK338 hb; replace HB := Aside0.mk (below_step Xi hb); clear hb))
    have H := HC18.out
    clear HC18
    by_cases c20 : t342 = true
    ·subst c20
     (first | rw [if_pos rfl] at H | skip)
     obtain rfl := Option.some.inj H
     go_wp2
     go_ret
     exact ⟨Xe, Xi⟩
    ·replace c20 := Bool.eq_false_iff.mpr c20
     subst c20
     (first | rw [if_neg (show ¬ (false = true) by decide)] at H | skip)
     obtain rfl := Option.some.inj H
     go_wp2
     go_ret
     exact ⟨Xe, Xi⟩
   ·replace c16 := Bool.eq_false_iff.mpr c16
    subst c16
    (first | rw [if_neg (show ¬ (false = true) by decide)] at H | skip)
    obtain rfl := Option.some.inj H
    go_wp2
    go_ret
    exact ⟨Xe, Xi⟩
  ·replace c13 := Bool.eq_false_iff.mpr c13
   subst c13
   (first | rw [if_neg (show ¬ (false = true) by decide)] at H | skip)
   obtain rfl := Option.some.inj H
   go_wp2
   go_ret
   exact ⟨Xe, Xi⟩

/-! ### impl_holdCode: function 56 -/
def impl_holdCode.f (k : Nat) (a0_0 : Int) (a0_1 : Int) (l0_2 : List (S64)) (l1 : List (S38)) (a2_0 : Int) (a2_1 : Int) (a2_2 : Int) : Option (Int) := (impl_locksCode.f k a0_0 a0_1 l0_2 l1 a2_0 a2_1).bind fun t345 => (if t345 = 0 then ((impl_isMode.f a2_2 1).bind fun t346 => (if t346 = true then (some 0) else (some 19))) else (some t345))
set_option maxHeartbeats 8000000 in
set_option maxRecDepth 100000 in
theorem impl_holdCode.calls (k : Nat) (a0_0 : Int) (a0_1 : Int) (A0_2 : Option Addr) (c0_2 : Nat) (l0_2 : List (S64)) (A1 : Option Addr) (c1 : Nat) (l1 : List (S38)) (a2_0 : Int) (a2_1 : Int) (a2_2 : Int) (r : Int) (w : World) (hr0_2 : Kd.C k64 w A0_2 l0_2.length l0_2) (hc0_2 : l0_2.length ≤ c0_2) (hr1 : Kd.C k38 w A1 l1.length l1) (hc1 : l1.length ≤ c1) (h : impl_holdCode.f k a0_0 a0_1 l0_2 l1 a2_0 a2_1 a2_2 = some r) :
  Calls Try.prog 56 #[.agg #[.int .i64 a0_0, .int .i64 a0_1, .slice A0_2 l0_2.length c0_2], .slice A1 l1.length c1, .agg #[.int .i64 a2_0, .int .i64 a2_1, .int .i64 a2_2]] w fun e w' => e = .returned (.int .i64 r) ∧ Below w.heap.size w w' := by
 have hu35 := Try.underlying35
 have hu38 := Try.underlying38
 have HR0_2 := Aside0.mk hr0_2
 have HC0_2 := Aside0.mk hc0_2
 clear hr0_2 hc0_2
 have HR1 := Aside0.mk hr1
 have HC1 := Aside0.mk hc1
 clear hr1 hc1
 have HB := Aside0.mk (Below.refl w.heap.size w)
 have H : ((impl_locksCode.f k a0_0 a0_1 l0_2 l1 a2_0 a2_1).bind fun t345 => (if t345 = 0 then ((impl_isMode.f a2_2 1).bind fun t346 => (if t346 = true then (some 0) else (some 19))) else (some t345))) = some r := h
 clear h
 obtain ⟨t345, A4, H⟩ := Xbi H
 (try dsimp only at H)
 have HC5 := Aside0.mk H
 clear H
 go_enter Try.func56, Try.ntmps56
 go_upto_if 16 with (first | ((with_reducible refine gate_dst (N := 3) rfl ?_); refine Xbox 3 #[.int .i64 a0_0, .int .i64 a0_1, .slice A0_2 l0_2.length c0_2] 35 ?_; intro gb343 hg w6 hbox hb; have BK343 := Aside0.mk (hbox); have GE343 := Xge hg Xi; replace HB := Aside0.mk (below_step Xi hb); clear hb hbox hg) | ((with_reducible refine gate_dst (N := 5) rfl ?_); refine Xbox 5 #[.int .i64 a2_0, .int .i64 a2_1, .int .i64 a2_2] 38 ?_; intro gb344 hg w7 hbox hb; have BK344 := Aside0.mk (hbox); have GE344 := Xge hg Xi; replace HB := Aside0.mk (below_step Xi hb); have NB343_344 := Xnb hg BK343; have NB344_343 := Xns NB343_344; replace BK343 := Xbb BK343 hb; clear hb hbox hg; have hnb8 := NB343_344.out; have hnc8 := NB344_343.out; obtain ⟨hcz9_0, hcz9_1, hcz9_2⟩ := Xc3 BK343; obtain ⟨hcz10_0, hcz10_1, hcz10_2⟩ := Xc3 BK344) | ((with_reducible refine gate_callee (f := 107) rfl ?_); refine Xgo 14 Try.func107 #[.agg #[.int .i64 a0_0, .int .i64 a0_1, .slice A0_2 l0_2.length c0_2], .slice A1 l1.length c1, .int .i64 a2_0, .int .i64 a2_1] ?_; (with_reducible refine (impl_locksCode.calls k a0_0 a0_1 _ _ l0_2 _ _ l1 a2_0 a2_1 t345 _ ?side1 ?side2 ?side3 ?side4 A4.out).mono ?_); (case side1 => exact Xc HR0_2); (case side2 => exact HC0_2.out); (case side3 => exact Xc HR1); (case side4 => exact HC1.out); rintro e w11 ⟨rfl, hb⟩; refine ⟨_, rfl, ?_⟩; replace BK343 := Xbb BK343 hb; replace BK344 := Xbb BK344 hb; replace HB := Aside0.mk (below_step Xi hb); clear hb))
 have H := HC5.out
 clear HC5
 obtain ⟨c12, H⟩ | ⟨c12, H⟩ := Xiu H
 ·have c12b0 : (t345 == 0) = true := beq_iff_eq.mpr c12
  have c12b1 : (t345 != 0) = false := bne_eq_false_iff_eq.mpr c12
  clear c12
  (first | rw [c12b0] | (simp only [i64_w, i32_w]; rw [c12b0]) | skip)
  obtain ⟨t346, A13, H⟩ := Xbi H
  (try dsimp only at H)
  have HC14 := Aside0.mk H
  clear H
  have hnb15 := NB344_343.out
  have hnc15 := NB343_344.out
  obtain ⟨hcz16_0, hcz16_1, hcz16_2⟩ := Xc3 BK344
  go_upto_if 21 with (first | ((with_reducible refine gate_callee (f := 118) rfl ?_); refine Xgo 20 Try.func118 #[.int .i64 a2_2, .int .i64 1] ?_; (with_reducible refine (impl_isMode.calls a2_2 1 t346 _ A13.out).mono ?_); rintro e w' ⟨rfl, ⟨nd, rfl⟩⟩; refine ⟨_, rfl, ?_⟩))
  have H := HC14.out
  clear HC14
  by_cases c17 : t346 = true
  ·subst c17
   (first | rw [if_pos rfl] at H | skip)
   obtain rfl := Option.some.inj H
   go_wp2
   go_ret
   exact ⟨Xe, Xi⟩
  ·replace c17 := Bool.eq_false_iff.mpr c17
   subst c17
   (first | rw [if_neg (show ¬ (false = true) by decide)] at H | skip)
   obtain rfl := Option.some.inj H
   go_wp2
   go_ret
   exact ⟨Xe, Xi⟩
 ·have c12b0 : (t345 == 0) = false := beq_eq_false_iff_ne.mpr c12
  have c12b1 : (t345 != 0) = true := bne_iff_ne.mpr c12
  (first | rw [c12b0] | (simp only [i64_w, i32_w]; rw [c12b0]) | skip)
  obtain rfl := Option.some.inj H
  go_wp2
  go_ret
  exact ⟨Xe, Xi⟩

/-! ### impl_joined: function 122 -/
def impl_joined.f (a0 : Int) (a1 : Int) : Option (Int) := if (mn a0 a1) = 2 then (if (mx a0 a1) = 3 then (some 4) else (some (mx a0 a1))) else (some (mx a0 a1))
set_option maxHeartbeats 8000000 in
set_option maxRecDepth 100000 in
theorem impl_joined.calls (a0 : Int) (a1 : Int) (r : Int) (w : World) (h : impl_joined.f a0 a1 = some r) :
  Calls Try.prog 122 #[.int .i64 a0, .int .i64 a1] w fun e w' => e = .returned (.int .i64 r) ∧ Below w.heap.size w w' := by
 have HB := Aside0.mk (Below.refl w.heap.size w)
 have H : (if (mn a0 a1) = 2 then (if (mx a0 a1) = 3 then (some 4) else (some (mx a0 a1))) else (some (mx a0 a1))) = some r := h
 clear h
 obtain ⟨ji3, hji3⟩ : ∃ j_ : Int, (mn a0 a1) = j_ := ⟨_, rfl⟩
 replace H : (if (ji3) = 2 then (if (mx a0 a1) = 3 then (some 4) else (some (mx a0 a1))) else (some (mx a0 a1))) = some r := by first | (rw [hji3] at H; exact H) | (simp only [hji3] at H ⊢; exact H)
 have hji3_ : (if a1 < a0 then a1 else a0) = ji3 := hji3
 obtain ⟨c4, H⟩ | ⟨c4, H⟩ := Xiu H
 ·have c4b0 : ((ji3) == 2) = true := beq_iff_eq.mpr c4
  have c4b1 : ((ji3) != 2) = false := bne_eq_false_iff_eq.mpr c4
  clear c4
  obtain ⟨ji5, hji5⟩ : ∃ j_ : Int, (mx a0 a1) = j_ := ⟨_, rfl⟩
  replace H : (if (ji5) = 3 then (some 4) else (some ji5)) = some r := by first | (rw [hji5] at H; exact H) | (simp only [hji5] at H ⊢; exact H)
  have hji5_ : (if a0 < a1 then a1 else a0) = ji5 := hji5
  obtain ⟨c6, H⟩ | ⟨c6, H⟩ := Xiu H
  ·have c6b0 : ((ji5) == 3) = true := beq_iff_eq.mpr c6
   have c6b1 : ((ji5) != 3) = false := bne_eq_false_iff_eq.mpr c6
   clear c6
   obtain rfl := Option.some.inj H
   go_enter Try.func122, Try.ntmps122
   go_wp2
   go_ret
   exact ⟨by first | rfl | (simp [errW_none, errW_some] <;> rfl) | (simp only [← hji3, ← hji5]; first | rfl | (simp [errW_none, errW_some] <;> rfl)) | (simp [*, errW_none, errW_some] <;> rfl), Xi⟩
  ·have c6b0 : ((ji5) == 3) = false := beq_eq_false_iff_ne.mpr c6
   have c6b1 : ((ji5) != 3) = true := bne_iff_ne.mpr c6
   obtain rfl := Option.some.inj H
   go_enter Try.func122, Try.ntmps122
   go_wp2
   go_ret
   exact ⟨by first | rfl | (simp [errW_none, errW_some] <;> rfl) | (simp only [← hji3, ← hji5]; first | rfl | (simp [errW_none, errW_some] <;> rfl)) | (simp [*, errW_none, errW_some] <;> rfl), Xi⟩
 ·have c4b0 : ((ji3) == 2) = false := beq_eq_false_iff_ne.mpr c4
  have c4b1 : ((ji3) != 2) = true := bne_iff_ne.mpr c4
  obtain ⟨ji7, hji7⟩ : ∃ j_ : Int, (mx a0 a1) = j_ := ⟨_, rfl⟩
  replace H : (some ji7) = some r := by first | (rw [hji7] at H; exact H) | (simp only [hji7] at H ⊢; exact H)
  have hji7_ : (if a0 < a1 then a1 else a0) = ji7 := hji7
  obtain rfl := Option.some.inj H
  go_enter Try.func122, Try.ntmps122
  go_wp2
  go_ret
  exact ⟨by first | rfl | (simp [errW_none, errW_some] <;> rfl) | (simp only [← hji3, ← hji7]; first | rfl | (simp [errW_none, errW_some] <;> rfl)) | (simp [*, errW_none, errW_some] <;> rfl), Xi⟩

end Go.Proofs.Ytocelbmpnjnnbaa.XA
