/- Contracts of the program's functions: each Go function that is named below comes to what its Lean function says. Written by xprint.py (a program of this session's, over the kit's print). Conditions: each contract's own premises. -/
import Derived.Test.YtomlmcimlojmoaaDoorYEditText0
import Derived.Test.YtomlmcimlojmoaaDoorYEditText3
namespace Go.Proofs.YtomlmcimlojmoaaDoor.XA
open Go.RowKit Go.Proofs.YtomlmcimlojmoaaDoorW.PrintWords Go.Proofs.YtomlmcimlojmoaaDoorW.PrintLast Go.Proofs.YtomlmcimlojmoaaDoorW.PrintMore XW
attribute [local go_sem] max2_int min2_int max_two min_two max_three min_three max_four min_four   -- for this text's walks alone
set_option linter.unusedVariables false
set_option linter.unusedSimpArgs false

/-! ### impl_EditOK: function 37 -/
def impl_EditOK.j0 : Nat → Int → Int → Int → Int → Bool → Int → Int → Int → Int → ByteArray → Option (Bool)
 | 0, _, _, _, _, _, _, _, _, _, _ => none
 | k + 1, x3, x4, x5, x6, x21, x157000, x157001, x157002, x157003, x157004 => if x21 = true then ((impl_within.f x157001 1 999999).bind fun t175 => (if t175 = true then ((impl_within.f x157002 x3 x4).bind fun t176 => (if t176 = true then ((impl_within.f x157003 0 x5).bind fun t177 => (if t177 = true then (some (decide ((x157004.size : Int) ≤ x6))) else (some false))) else (some false))) else (some false))) else (some false)
def impl_EditOK.f (k : Nat) (a0_0 : Int) (a0_1 : Int) (a0_2 : Int) (a0_3 : Int) (a0_4 : ByteArray) : Option (Bool) := if a0_0 = 1 then ((impl_within.f a0_1 1 999999).bind fun t157 => (if t157 = true then ((impl_within.f a0_2 1 8).bind fun t158 => (if t158 = true then ((impl_within.f a0_3 0 12).bind fun t159 => (if t159 = true then (some (decide ((a0_4.size : Int) ≤ 0))) else (some false))) else (some false))) else (some false))) else (if a0_0 = 3 then ((impl_within.f a0_1 1 999999).bind fun t160 => (if t160 = true then ((impl_within.f a0_2 0 0).bind fun t161 => (if t161 = true then ((impl_within.f a0_3 0 0).bind fun t162 => (if t162 = true then (some (decide ((a0_4.size : Int) ≤ 20))) else (some false))) else (some false))) else (some false))) else (if a0_0 = 4 then ((impl_within.f a0_1 1 999999).bind fun t163 => (if t163 = true then ((impl_within.f a0_2 0 99).bind fun t164 => (if t164 = true then ((impl_within.f a0_3 0 0).bind fun t165 => (if t165 = true then (some (decide ((a0_4.size : Int) ≤ 0))) else (some false))) else (some false))) else (some false))) else (if a0_0 = 5 then ((impl_within.f a0_1 1 999999).bind fun t166 => (if t166 = true then ((impl_within.f a0_2 1 999999).bind fun t167 => (if t167 = true then ((impl_within.f a0_3 0 12).bind fun t168 => (if t168 = true then (some (decide ((a0_4.size : Int) ≤ 0))) else (some false))) else (some false))) else (some false))) else (if a0_0 = 6 then ((impl_within.f a0_1 1 999999).bind fun t169 => (if t169 = true then ((impl_within.f a0_2 1 8).bind fun t170 => (if t170 = true then ((impl_within.f a0_3 0 0).bind fun t171 => (if t171 = true then (some (decide ((a0_4.size : Int) ≤ 0))) else (some false))) else (some false))) else (some false))) else (if a0_0 = 8 then ((impl_within.f a0_1 1 999999).bind fun t172 => (if t172 = true then ((impl_within.f a0_2 0 20).bind fun t173 => (if t173 = true then ((impl_within.f a0_3 0 0).bind fun t174 => (if t174 = true then (some (decide ((a0_4.size : Int) ≤ 0))) else (some false))) else (some false))) else (some false))) else (if a0_0 = 2 then (impl_EditOK.j0 k 0 0 0 0 (a0_0 == 2) a0_0 a0_1 a0_2 a0_3 a0_4) else (if a0_0 = 7 then (impl_EditOK.j0 k 0 0 0 0 (a0_0 == 7) a0_0 a0_1 a0_2 a0_3 a0_4) else (impl_EditOK.j0 k 0 0 0 0 (a0_0 == 9) a0_0 a0_1 a0_2 a0_3 a0_4))))))))
set_option maxHeartbeats 8000000 in
set_option maxRecDepth 100000 in
theorem impl_EditOK.calls (k : Nat) (a0_0 : Int) (a0_1 : Int) (a0_2 : Int) (a0_3 : Int) (a0_4 : ByteArray) (r : Bool) (w : World) (h : impl_EditOK.f k a0_0 a0_1 a0_2 a0_3 a0_4 = some r) :
  Calls Tryd.prog 37 #[.agg #[.int .i64 a0_0, .int .i64 a0_1, .int .i64 a0_2, .int .i64 a0_3, .string a0_4]] w fun e w' => e = .returned (.bool r) ∧ Below w.heap.size w w' := by
 have hu27 := Tryd.underlying27
 have HB := Aside0.mk (Below.refl w.heap.size w)
 have H : (if a0_0 = 1 then ((impl_within.f a0_1 1 999999).bind fun t157 => (if t157 = true then ((impl_within.f a0_2 1 8).bind fun t158 => (if t158 = true then ((impl_within.f a0_3 0 12).bind fun t159 => (if t159 = true then (some (decide ((a0_4.size : Int) ≤ 0))) else (some false))) else (some false))) else (some false))) else (if a0_0 = 3 then ((impl_within.f a0_1 1 999999).bind fun t160 => (if t160 = true then ((impl_within.f a0_2 0 0).bind fun t161 => (if t161 = true then ((impl_within.f a0_3 0 0).bind fun t162 => (if t162 = true then (some (decide ((a0_4.size : Int) ≤ 20))) else (some false))) else (some false))) else (some false))) else (if a0_0 = 4 then ((impl_within.f a0_1 1 999999).bind fun t163 => (if t163 = true then ((impl_within.f a0_2 0 99).bind fun t164 => (if t164 = true then ((impl_within.f a0_3 0 0).bind fun t165 => (if t165 = true then (some (decide ((a0_4.size : Int) ≤ 0))) else (some false))) else (some false))) else (some false))) else (if a0_0 = 5 then ((impl_within.f a0_1 1 999999).bind fun t166 => (if t166 = true then ((impl_within.f a0_2 1 999999).bind fun t167 => (if t167 = true then ((impl_within.f a0_3 0 12).bind fun t168 => (if t168 = true then (some (decide ((a0_4.size : Int) ≤ 0))) else (some false))) else (some false))) else (some false))) else (if a0_0 = 6 then ((impl_within.f a0_1 1 999999).bind fun t169 => (if t169 = true then ((impl_within.f a0_2 1 8).bind fun t170 => (if t170 = true then ((impl_within.f a0_3 0 0).bind fun t171 => (if t171 = true then (some (decide ((a0_4.size : Int) ≤ 0))) else (some false))) else (some false))) else (some false))) else (if a0_0 = 8 then ((impl_within.f a0_1 1 999999).bind fun t172 => (if t172 = true then ((impl_within.f a0_2 0 20).bind fun t173 => (if t173 = true then ((impl_within.f a0_3 0 0).bind fun t174 => (if t174 = true then (some (decide ((a0_4.size : Int) ≤ 0))) else (some false))) else (some false))) else (some false))) else (if a0_0 = 2 then (impl_EditOK.j0 k 0 0 0 0 (a0_0 == 2) a0_0 a0_1 a0_2 a0_3 a0_4) else (if a0_0 = 7 then (impl_EditOK.j0 k 0 0 0 0 (a0_0 == 7) a0_0 a0_1 a0_2 a0_3 a0_4) else (impl_EditOK.j0 k 0 0 0 0 (a0_0 == 9) a0_0 a0_1 a0_2 a0_3 a0_4))))))))) = some r := h
 clear h
 have HC2 := Aside0.mk H
 clear H
 go_enter Tryd.func37, Tryd.ntmps37
 go_upto_if 9 with (first | ((with_reducible refine gate_dst (N := 1) rfl ?_); (try (refine gate_guard (by rfl) ?_; dsimp only)); refine Xbox 1 #[.int .i64 a0_0, .int .i64 a0_1, .int .i64 a0_2, .int .i64 a0_3, .string a0_4] 27 ?_; intro gb156 hg w3 hbox hb; have BK156 := Aside0.mk (hbox); have GE156 := Xge hg Xi; replace HB := Aside0.mk (below_step Xi hb); clear hb hbox hg; obtain ⟨hcz4_0, hcz4_1, hcz4_2, hcz4_3, hcz4_4⟩ := Xc5 BK156))
 have H := HC2.out
 clear HC2
 obtain ⟨c5, H⟩ | ⟨c5, H⟩ := Xiu H
 ·have c5b0 : (a0_0 == 1) = true := beq_iff_eq.mpr c5
  have c5b1 : (a0_0 != 1) = false := bne_eq_false_iff_eq.mpr c5
  clear c5
  (first | rw [c5b0] | (simp only [i64_w, i32_w]; rw [c5b0]) | skip)
  obtain ⟨t157, A6, H⟩ := Xbi H
  (try dsimp only at H)
  by_cases c7 : t157 = true
  ·subst c7
   (first | rw [if_pos rfl] at H | skip)
   obtain ⟨t158, A8, H⟩ := Xbi H
   (try dsimp only at H)
   by_cases c9 : t158 = true
   ·subst c9
    (first | rw [if_pos rfl] at H | skip)
    obtain ⟨t159, A10, H⟩ := Xbi H
    (try dsimp only at H)
    by_cases c11 : t159 = true
    ·subst c11
     (first | rw [if_pos rfl] at H | skip)
     obtain rfl := Option.some.inj H
     obtain ⟨hcz12_0, hcz12_1, hcz12_2, hcz12_3, hcz12_4⟩ := Xc5 BK156
     go_wp2_with (first | ((with_reducible refine gate_callee (f := 57) rfl ?_); refine goesL_ (some 27) rfl rfl Tryd.func57 (by kernel_rfl) rfl #[.int .i64 a0_1, .int .i64 1, .int .i64 999999] rfl (by (try simp only [List.map_toArray, List.map_cons, List.map_nil]); first | done | rfl | (simp only [List.length_drop, List.length_take]; rfl)) ?_; (with_reducible refine (impl_within.calls a0_1 1 999999 true _ A6.out).mono ?_); rintro e w' ⟨rfl, ⟨nd, rfl⟩⟩; refine ⟨_, rfl, ?_⟩) | (go_at_call 57; (with_reducible refine (impl_within.calls a0_2 1 8 true _ A8.out).mono ?_); rintro e w' ⟨rfl, ⟨nd, rfl⟩⟩) | (go_at_call 57; (with_reducible refine (impl_within.calls a0_3 0 12 true _ A10.out).mono ?_); rintro e w' ⟨rfl, ⟨nd, rfl⟩⟩))
     go_ret
     exact ⟨Xe, Xi⟩
    ·replace c11 := Bool.eq_false_iff.mpr c11
     subst c11
     (first | rw [if_neg (show ¬ (false = true) by decide)] at H | skip)
     obtain rfl := Option.some.inj H
     obtain ⟨hcz13_0, hcz13_1, hcz13_2, hcz13_3, hcz13_4⟩ := Xc5 BK156
     go_wp2_with (first | ((with_reducible refine gate_callee (f := 57) rfl ?_); refine goesL_ (some 27) rfl rfl Tryd.func57 (by kernel_rfl) rfl #[.int .i64 a0_1, .int .i64 1, .int .i64 999999] rfl (by (try simp only [List.map_toArray, List.map_cons, List.map_nil]); first | done | rfl | (simp only [List.length_drop, List.length_take]; rfl)) ?_; (with_reducible refine (impl_within.calls a0_1 1 999999 true _ A6.out).mono ?_); rintro e w' ⟨rfl, ⟨nd, rfl⟩⟩; refine ⟨_, rfl, ?_⟩) | (go_at_call 57; (with_reducible refine (impl_within.calls a0_2 1 8 true _ A8.out).mono ?_); rintro e w' ⟨rfl, ⟨nd, rfl⟩⟩) | (go_at_call 57; (with_reducible refine (impl_within.calls a0_3 0 12 false _ A10.out).mono ?_); rintro e w' ⟨rfl, ⟨nd, rfl⟩⟩))
     go_ret
     exact ⟨Xe, Xi⟩
   ·replace c9 := Bool.eq_false_iff.mpr c9
    subst c9
    (first | rw [if_neg (show ¬ (false = true) by decide)] at H | skip)
    obtain rfl := Option.some.inj H
    obtain ⟨hcz14_0, hcz14_1, hcz14_2, hcz14_3, hcz14_4⟩ := Xc5 BK156
    go_wp2_with (first | ((with_reducible refine gate_callee (f := 57) rfl ?_); refine goesL_ (some 27) rfl rfl Tryd.func57 (by kernel_rfl) rfl #[.int .i64 a0_1, .int .i64 1, .int .i64 999999] rfl (by (try simp only [List.map_toArray, List.map_cons, List.map_nil]); first | done | rfl | (simp only [List.length_drop, List.length_take]; rfl)) ?_; (with_reducible refine (impl_within.calls a0_1 1 999999 true _ A6.out).mono ?_); rintro e w' ⟨rfl, ⟨nd, rfl⟩⟩; refine ⟨_, rfl, ?_⟩) | (go_at_call 57; (with_reducible refine (impl_within.calls a0_2 1 8 false _ A8.out).mono ?_); rintro e w' ⟨rfl, ⟨nd, rfl⟩⟩))
    go_ret
    exact ⟨Xe, Xi⟩
  ·replace c7 := Bool.eq_false_iff.mpr c7
   subst c7
   (first | rw [if_neg (show ¬ (false = true) by decide)] at H | skip)
   obtain rfl := Option.some.inj H
   obtain ⟨hcz15_0, hcz15_1, hcz15_2, hcz15_3, hcz15_4⟩ := Xc5 BK156
   go_wp2_with (first | ((with_reducible refine gate_callee (f := 57) rfl ?_); refine goesL_ (some 27) rfl rfl Tryd.func57 (by kernel_rfl) rfl #[.int .i64 a0_1, .int .i64 1, .int .i64 999999] rfl (by (try simp only [List.map_toArray, List.map_cons, List.map_nil]); first | done | rfl | (simp only [List.length_drop, List.length_take]; rfl)) ?_; (with_reducible refine (impl_within.calls a0_1 1 999999 false _ A6.out).mono ?_); rintro e w' ⟨rfl, ⟨nd, rfl⟩⟩; refine ⟨_, rfl, ?_⟩))
   go_ret
   exact ⟨Xe, Xi⟩
 ·have c5b0 : (a0_0 == 1) = false := beq_eq_false_iff_ne.mpr c5
  have c5b1 : (a0_0 != 1) = true := bne_iff_ne.mpr c5
  (first | rw [c5b0] | (simp only [i64_w, i32_w]; rw [c5b0]) | skip)
  obtain ⟨c16, H⟩ | ⟨c16, H⟩ := Xiu H
  ·have c16b0 : (a0_0 == 3) = true := beq_iff_eq.mpr c16
   have c16b1 : (a0_0 != 3) = false := bne_eq_false_iff_eq.mpr c16
   clear c16
   obtain ⟨t160, A17, H⟩ := Xbi H
   (try dsimp only at H)
   by_cases c18 : t160 = true
   ·subst c18
    (first | rw [if_pos rfl] at H | skip)
    obtain ⟨t161, A19, H⟩ := Xbi H
    (try dsimp only at H)
    by_cases c20 : t161 = true
    ·subst c20
     (first | rw [if_pos rfl] at H | skip)
     obtain ⟨t162, A21, H⟩ := Xbi H
     (try dsimp only at H)
     by_cases c22 : t162 = true
     ·subst c22
      (first | rw [if_pos rfl] at H | skip)
      obtain rfl := Option.some.inj H
      obtain ⟨hcz23_0, hcz23_1, hcz23_2, hcz23_3, hcz23_4⟩ := Xc5 BK156
      go_wp2_with (first | ((with_reducible refine gate_callee (f := 57) rfl ?_); refine goesL_ (some 27) rfl rfl Tryd.func57 (by kernel_rfl) rfl #[.int .i64 a0_1, .int .i64 1, .int .i64 999999] rfl (by (try simp only [List.map_toArray, List.map_cons, List.map_nil]); first | done | rfl | (simp only [List.length_drop, List.length_take]; rfl)) ?_; (with_reducible refine (impl_within.calls a0_1 1 999999 true _ A17.out).mono ?_); rintro e w' ⟨rfl, ⟨nd, rfl⟩⟩; refine ⟨_, rfl, ?_⟩) | (go_at_call 57; (with_reducible refine (impl_within.calls a0_2 0 0 true _ A19.out).mono ?_); rintro e w' ⟨rfl, ⟨nd, rfl⟩⟩) | (go_at_call 57; (with_reducible refine (impl_within.calls a0_3 0 0 true _ A21.out).mono ?_); rintro e w' ⟨rfl, ⟨nd, rfl⟩⟩))
      go_ret
      exact ⟨Xe, Xi⟩
     ·replace c22 := Bool.eq_false_iff.mpr c22
      subst c22
      (first | rw [if_neg (show ¬ (false = true) by decide)] at H | skip)
      obtain rfl := Option.some.inj H
      obtain ⟨hcz24_0, hcz24_1, hcz24_2, hcz24_3, hcz24_4⟩ := Xc5 BK156
      go_wp2_with (first | ((with_reducible refine gate_callee (f := 57) rfl ?_); refine goesL_ (some 27) rfl rfl Tryd.func57 (by kernel_rfl) rfl #[.int .i64 a0_1, .int .i64 1, .int .i64 999999] rfl (by (try simp only [List.map_toArray, List.map_cons, List.map_nil]); first | done | rfl | (simp only [List.length_drop, List.length_take]; rfl)) ?_; (with_reducible refine (impl_within.calls a0_1 1 999999 true _ A17.out).mono ?_); rintro e w' ⟨rfl, ⟨nd, rfl⟩⟩; refine ⟨_, rfl, ?_⟩) | (go_at_call 57; (with_reducible refine (impl_within.calls a0_2 0 0 true _ A19.out).mono ?_); rintro e w' ⟨rfl, ⟨nd, rfl⟩⟩) | (go_at_call 57; (with_reducible refine (impl_within.calls a0_3 0 0 false _ A21.out).mono ?_); rintro e w' ⟨rfl, ⟨nd, rfl⟩⟩))
      go_ret
      exact ⟨Xe, Xi⟩
    ·replace c20 := Bool.eq_false_iff.mpr c20
     subst c20
     (first | rw [if_neg (show ¬ (false = true) by decide)] at H | skip)
     obtain rfl := Option.some.inj H
     obtain ⟨hcz25_0, hcz25_1, hcz25_2, hcz25_3, hcz25_4⟩ := Xc5 BK156
     go_wp2_with (first | ((with_reducible refine gate_callee (f := 57) rfl ?_); refine goesL_ (some 27) rfl rfl Tryd.func57 (by kernel_rfl) rfl #[.int .i64 a0_1, .int .i64 1, .int .i64 999999] rfl (by (try simp only [List.map_toArray, List.map_cons, List.map_nil]); first | done | rfl | (simp only [List.length_drop, List.length_take]; rfl)) ?_; (with_reducible refine (impl_within.calls a0_1 1 999999 true _ A17.out).mono ?_); rintro e w' ⟨rfl, ⟨nd, rfl⟩⟩; refine ⟨_, rfl, ?_⟩) | (go_at_call 57; (with_reducible refine (impl_within.calls a0_2 0 0 false _ A19.out).mono ?_); rintro e w' ⟨rfl, ⟨nd, rfl⟩⟩))
     go_ret
     exact ⟨Xe, Xi⟩
   ·replace c18 := Bool.eq_false_iff.mpr c18
    subst c18
    (first | rw [if_neg (show ¬ (false = true) by decide)] at H | skip)
    obtain rfl := Option.some.inj H
    obtain ⟨hcz26_0, hcz26_1, hcz26_2, hcz26_3, hcz26_4⟩ := Xc5 BK156
    go_wp2_with (first | ((with_reducible refine gate_callee (f := 57) rfl ?_); refine goesL_ (some 27) rfl rfl Tryd.func57 (by kernel_rfl) rfl #[.int .i64 a0_1, .int .i64 1, .int .i64 999999] rfl (by (try simp only [List.map_toArray, List.map_cons, List.map_nil]); first | done | rfl | (simp only [List.length_drop, List.length_take]; rfl)) ?_; (with_reducible refine (impl_within.calls a0_1 1 999999 false _ A17.out).mono ?_); rintro e w' ⟨rfl, ⟨nd, rfl⟩⟩; refine ⟨_, rfl, ?_⟩))
    go_ret
    exact ⟨Xe, Xi⟩
  ·have c16b0 : (a0_0 == 3) = false := beq_eq_false_iff_ne.mpr c16
   have c16b1 : (a0_0 != 3) = true := bne_iff_ne.mpr c16
   obtain ⟨c27, H⟩ | ⟨c27, H⟩ := Xiu H
   ·have c27b0 : (a0_0 == 4) = true := beq_iff_eq.mpr c27
    have c27b1 : (a0_0 != 4) = false := bne_eq_false_iff_eq.mpr c27
    clear c27
    obtain ⟨t163, A28, H⟩ := Xbi H
    (try dsimp only at H)
    by_cases c29 : t163 = true
    ·subst c29
     (first | rw [if_pos rfl] at H | skip)
     obtain ⟨t164, A30, H⟩ := Xbi H
     (try dsimp only at H)
     by_cases c31 : t164 = true
     ·subst c31
      (first | rw [if_pos rfl] at H | skip)
      obtain ⟨t165, A32, H⟩ := Xbi H
      (try dsimp only at H)
      by_cases c33 : t165 = true
      ·subst c33
       (first | rw [if_pos rfl] at H | skip)
       obtain rfl := Option.some.inj H
       obtain ⟨hcz34_0, hcz34_1, hcz34_2, hcz34_3, hcz34_4⟩ := Xc5 BK156
       go_wp2_with (first | ((with_reducible refine gate_callee (f := 57) rfl ?_); refine goesL_ (some 27) rfl rfl Tryd.func57 (by kernel_rfl) rfl #[.int .i64 a0_1, .int .i64 1, .int .i64 999999] rfl (by (try simp only [List.map_toArray, List.map_cons, List.map_nil]); first | done | rfl | (simp only [List.length_drop, List.length_take]; rfl)) ?_; (with_reducible refine (impl_within.calls a0_1 1 999999 true _ A28.out).mono ?_); rintro e w' ⟨rfl, ⟨nd, rfl⟩⟩; refine ⟨_, rfl, ?_⟩) | (go_at_call 57; (with_reducible refine (impl_within.calls a0_2 0 99 true _ A30.out).mono ?_); rintro e w' ⟨rfl, ⟨nd, rfl⟩⟩) | (go_at_call 57; (with_reducible refine (impl_within.calls a0_3 0 0 true _ A32.out).mono ?_); rintro e w' ⟨rfl, ⟨nd, rfl⟩⟩))
       go_ret
       exact ⟨Xe, Xi⟩
      ·replace c33 := Bool.eq_false_iff.mpr c33
       subst c33
       (first | rw [if_neg (show ¬ (false = true) by decide)] at H | skip)
       obtain rfl := Option.some.inj H
       obtain ⟨hcz35_0, hcz35_1, hcz35_2, hcz35_3, hcz35_4⟩ := Xc5 BK156
       go_wp2_with (first | ((with_reducible refine gate_callee (f := 57) rfl ?_); refine goesL_ (some 27) rfl rfl Tryd.func57 (by kernel_rfl) rfl #[.int .i64 a0_1, .int .i64 1, .int .i64 999999] rfl (by (try simp only [List.map_toArray, List.map_cons, List.map_nil]); first | done | rfl | (simp only [List.length_drop, List.length_take]; rfl)) ?_; (with_reducible refine (impl_within.calls a0_1 1 999999 true _ A28.out).mono ?_); rintro e w' ⟨rfl, ⟨nd, rfl⟩⟩; refine ⟨_, rfl, ?_⟩) | (go_at_call 57; (with_reducible refine (impl_within.calls a0_2 0 99 true _ A30.out).mono ?_); rintro e w' ⟨rfl, ⟨nd, rfl⟩⟩) | (go_at_call 57; (with_reducible refine (impl_within.calls a0_3 0 0 false _ A32.out).mono ?_); rintro e w' ⟨rfl, ⟨nd, rfl⟩⟩))
       go_ret
       exact ⟨Xe, Xi⟩
     ·replace c31 := Bool.eq_false_iff.mpr c31
      subst c31
      (first | rw [if_neg (show ¬ (false = true) by decide)] at H | skip)
      obtain rfl := Option.some.inj H
      obtain ⟨hcz36_0, hcz36_1, hcz36_2, hcz36_3, hcz36_4⟩ := Xc5 BK156
      go_wp2_with (first | ((with_reducible refine gate_callee (f := 57) rfl ?_); refine goesL_ (some 27) rfl rfl Tryd.func57 (by kernel_rfl) rfl #[.int .i64 a0_1, .int .i64 1, .int .i64 999999] rfl (by (try simp only [List.map_toArray, List.map_cons, List.map_nil]); first | done | rfl | (simp only [List.length_drop, List.length_take]; rfl)) ?_; (with_reducible refine (impl_within.calls a0_1 1 999999 true _ A28.out).mono ?_); rintro e w' ⟨rfl, ⟨nd, rfl⟩⟩; refine ⟨_, rfl, ?_⟩) | (go_at_call 57; (with_reducible refine (impl_within.calls a0_2 0 99 false _ A30.out).mono ?_); rintro e w' ⟨rfl, ⟨nd, rfl⟩⟩))
      go_ret
      exact ⟨Xe, Xi⟩
    ·replace c29 := Bool.eq_false_iff.mpr c29
     subst c29
     (first | rw [if_neg (show ¬ (false = true) by decide)] at H | skip)
     obtain rfl := Option.some.inj H
     obtain ⟨hcz37_0, hcz37_1, hcz37_2, hcz37_3, hcz37_4⟩ := Xc5 BK156
     go_wp2_with (first | ((with_reducible refine gate_callee (f := 57) rfl ?_); refine goesL_ (some 27) rfl rfl Tryd.func57 (by kernel_rfl) rfl #[.int .i64 a0_1, .int .i64 1, .int .i64 999999] rfl (by (try simp only [List.map_toArray, List.map_cons, List.map_nil]); first | done | rfl | (simp only [List.length_drop, List.length_take]; rfl)) ?_; (with_reducible refine (impl_within.calls a0_1 1 999999 false _ A28.out).mono ?_); rintro e w' ⟨rfl, ⟨nd, rfl⟩⟩; refine ⟨_, rfl, ?_⟩))
     go_ret
     exact ⟨Xe, Xi⟩
   ·have c27b0 : (a0_0 == 4) = false := beq_eq_false_iff_ne.mpr c27
    have c27b1 : (a0_0 != 4) = true := bne_iff_ne.mpr c27
    obtain ⟨c38, H⟩ | ⟨c38, H⟩ := Xiu H
    ·have c38b0 : (a0_0 == 5) = true := beq_iff_eq.mpr c38
     have c38b1 : (a0_0 != 5) = false := bne_eq_false_iff_eq.mpr c38
     clear c38
     obtain ⟨t166, A39, H⟩ := Xbi H
     (try dsimp only at H)
     by_cases c40 : t166 = true
     ·subst c40
      (first | rw [if_pos rfl] at H | skip)
      obtain ⟨t167, A41, H⟩ := Xbi H
      (try dsimp only at H)
      by_cases c42 : t167 = true
      ·subst c42
       (first | rw [if_pos rfl] at H | skip)
       obtain ⟨t168, A43, H⟩ := Xbi H
       (try dsimp only at H)
       by_cases c44 : t168 = true
       ·subst c44
        (first | rw [if_pos rfl] at H | skip)
        obtain rfl := Option.some.inj H
        obtain ⟨hcz45_0, hcz45_1, hcz45_2, hcz45_3, hcz45_4⟩ := Xc5 BK156
        go_wp2_with (first | ((with_reducible refine gate_callee (f := 57) rfl ?_); refine goesL_ (some 27) rfl rfl Tryd.func57 (by kernel_rfl) rfl #[.int .i64 a0_1, .int .i64 1, .int .i64 999999] rfl (by (try simp only [List.map_toArray, List.map_cons, List.map_nil]); first | done | rfl | (simp only [List.length_drop, List.length_take]; rfl)) ?_; (with_reducible refine (impl_within.calls a0_1 1 999999 true _ A39.out).mono ?_); rintro e w' ⟨rfl, ⟨nd, rfl⟩⟩; refine ⟨_, rfl, ?_⟩) | (go_at_call 57; (with_reducible refine (impl_within.calls a0_2 1 999999 true _ A41.out).mono ?_); rintro e w' ⟨rfl, ⟨nd, rfl⟩⟩) | (go_at_call 57; (with_reducible refine (impl_within.calls a0_3 0 12 true _ A43.out).mono ?_); rintro e w' ⟨rfl, ⟨nd, rfl⟩⟩))
        go_ret
        exact ⟨Xe, Xi⟩
       ·replace c44 := Bool.eq_false_iff.mpr c44
        subst c44
        (first | rw [if_neg (show ¬ (false = true) by decide)] at H | skip)
        obtain rfl := Option.some.inj H
        obtain ⟨hcz46_0, hcz46_1, hcz46_2, hcz46_3, hcz46_4⟩ := Xc5 BK156
        go_wp2_with (first | ((with_reducible refine gate_callee (f := 57) rfl ?_); refine goesL_ (some 27) rfl rfl Tryd.func57 (by kernel_rfl) rfl #[.int .i64 a0_1, .int .i64 1, .int .i64 999999] rfl (by (try simp only [List.map_toArray, List.map_cons, List.map_nil]); first | done | rfl | (simp only [List.length_drop, List.length_take]; rfl)) ?_; (with_reducible refine (impl_within.calls a0_1 1 999999 true _ A39.out).mono ?_); rintro e w' ⟨rfl, ⟨nd, rfl⟩⟩; refine ⟨_, rfl, ?_⟩) | (go_at_call 57; (with_reducible refine (impl_within.calls a0_2 1 999999 true _ A41.out).mono ?_); rintro e w' ⟨rfl, ⟨nd, rfl⟩⟩) | (go_at_call 57; (with_reducible refine (impl_within.calls a0_3 0 12 false _ A43.out).mono ?_); rintro e w' ⟨rfl, ⟨nd, rfl⟩⟩))
        go_ret
        exact ⟨Xe, Xi⟩
      ·replace c42 := Bool.eq_false_iff.mpr c42
       subst c42
       (first | rw [if_neg (show ¬ (false = true) by decide)] at H | skip)
       obtain rfl := Option.some.inj H
       obtain ⟨hcz47_0, hcz47_1, hcz47_2, hcz47_3, hcz47_4⟩ := Xc5 BK156
       go_wp2_with (first | ((with_reducible refine gate_callee (f := 57) rfl ?_); refine goesL_ (some 27) rfl rfl Tryd.func57 (by kernel_rfl) rfl #[.int .i64 a0_1, .int .i64 1, .int .i64 999999] rfl (by (try simp only [List.map_toArray, List.map_cons, List.map_nil]); first | done | rfl | (simp only [List.length_drop, List.length_take]; rfl)) ?_; (with_reducible refine (impl_within.calls a0_1 1 999999 true _ A39.out).mono ?_); rintro e w' ⟨rfl, ⟨nd, rfl⟩⟩; refine ⟨_, rfl, ?_⟩) | (go_at_call 57; (with_reducible refine (impl_within.calls a0_2 1 999999 false _ A41.out).mono ?_); rintro e w' ⟨rfl, ⟨nd, rfl⟩⟩))
       go_ret
       exact ⟨Xe, Xi⟩
     ·replace c40 := Bool.eq_false_iff.mpr c40
      subst c40
      (first | rw [if_neg (show ¬ (false = true) by decide)] at H | skip)
      obtain rfl := Option.some.inj H
      obtain ⟨hcz48_0, hcz48_1, hcz48_2, hcz48_3, hcz48_4⟩ := Xc5 BK156
      go_wp2_with (first | ((with_reducible refine gate_callee (f := 57) rfl ?_); refine goesL_ (some 27) rfl rfl Tryd.func57 (by kernel_rfl) rfl #[.int .i64 a0_1, .int .i64 1, .int .i64 999999] rfl (by (try simp only [List.map_toArray, List.map_cons, List.map_nil]); first | done | rfl | (simp only [List.length_drop, List.length_take]; rfl)) ?_; (with_reducible refine (impl_within.calls a0_1 1 999999 false _ A39.out).mono ?_); rintro e w' ⟨rfl, ⟨nd, rfl⟩⟩; refine ⟨_, rfl, ?_⟩))
      go_ret
      exact ⟨Xe, Xi⟩
    ·have c38b0 : (a0_0 == 5) = false := beq_eq_false_iff_ne.mpr c38
     have c38b1 : (a0_0 != 5) = true := bne_iff_ne.mpr c38
     obtain ⟨c49, H⟩ | ⟨c49, H⟩ := Xiu H
     ·have c49b0 : (a0_0 == 6) = true := beq_iff_eq.mpr c49
      have c49b1 : (a0_0 != 6) = false := bne_eq_false_iff_eq.mpr c49
      clear c49
      obtain ⟨t169, A50, H⟩ := Xbi H
      (try dsimp only at H)
      by_cases c51 : t169 = true
      ·subst c51
       (first | rw [if_pos rfl] at H | skip)
       obtain ⟨t170, A52, H⟩ := Xbi H
       (try dsimp only at H)
       by_cases c53 : t170 = true
       ·subst c53
        (first | rw [if_pos rfl] at H | skip)
        obtain ⟨t171, A54, H⟩ := Xbi H
        (try dsimp only at H)
        by_cases c55 : t171 = true
        ·subst c55
         (first | rw [if_pos rfl] at H | skip)
         obtain rfl := Option.some.inj H
         obtain ⟨hcz56_0, hcz56_1, hcz56_2, hcz56_3, hcz56_4⟩ := Xc5 BK156
         go_wp2_with (first | ((with_reducible refine gate_callee (f := 57) rfl ?_); refine goesL_ (some 27) rfl rfl Tryd.func57 (by kernel_rfl) rfl #[.int .i64 a0_1, .int .i64 1, .int .i64 999999] rfl (by (try simp only [List.map_toArray, List.map_cons, List.map_nil]); first | done | rfl | (simp only [List.length_drop, List.length_take]; rfl)) ?_; (with_reducible refine (impl_within.calls a0_1 1 999999 true _ A50.out).mono ?_); rintro e w' ⟨rfl, ⟨nd, rfl⟩⟩; refine ⟨_, rfl, ?_⟩) | (go_at_call 57; (with_reducible refine (impl_within.calls a0_2 1 8 true _ A52.out).mono ?_); rintro e w' ⟨rfl, ⟨nd, rfl⟩⟩) | (go_at_call 57; (with_reducible refine (impl_within.calls a0_3 0 0 true _ A54.out).mono ?_); rintro e w' ⟨rfl, ⟨nd, rfl⟩⟩))
         go_ret
         exact ⟨Xe, Xi⟩
        ·replace c55 := Bool.eq_false_iff.mpr c55
         subst c55
         (first | rw [if_neg (show ¬ (false = true) by decide)] at H | skip)
         obtain rfl := Option.some.inj H
         obtain ⟨hcz57_0, hcz57_1, hcz57_2, hcz57_3, hcz57_4⟩ := Xc5 BK156
         go_wp2_with (first | ((with_reducible refine gate_callee (f := 57) rfl ?_); refine goesL_ (some 27) rfl rfl Tryd.func57 (by kernel_rfl) rfl #[.int .i64 a0_1, .int .i64 1, .int .i64 999999] rfl (by (try simp only [List.map_toArray, List.map_cons, List.map_nil]); first | done | rfl | (simp only [List.length_drop, List.length_take]; rfl)) ?_; (with_reducible refine (impl_within.calls a0_1 1 999999 true _ A50.out).mono ?_); rintro e w' ⟨rfl, ⟨nd, rfl⟩⟩; refine ⟨_, rfl, ?_⟩) | (go_at_call 57; (with_reducible refine (impl_within.calls a0_2 1 8 true _ A52.out).mono ?_); rintro e w' ⟨rfl, ⟨nd, rfl⟩⟩) | (go_at_call 57; (with_reducible refine (impl_within.calls a0_3 0 0 false _ A54.out).mono ?_); rintro e w' ⟨rfl, ⟨nd, rfl⟩⟩))
         go_ret
         exact ⟨Xe, Xi⟩
       ·replace c53 := Bool.eq_false_iff.mpr c53
        subst c53
        (first | rw [if_neg (show ¬ (false = true) by decide)] at H | skip)
        obtain rfl := Option.some.inj H
        obtain ⟨hcz58_0, hcz58_1, hcz58_2, hcz58_3, hcz58_4⟩ := Xc5 BK156
        go_wp2_with (first | ((with_reducible refine gate_callee (f := 57) rfl ?_); refine goesL_ (some 27) rfl rfl Tryd.func57 (by kernel_rfl) rfl #[.int .i64 a0_1, .int .i64 1, .int .i64 999999] rfl (by (try simp only [List.map_toArray, List.map_cons, List.map_nil]); first | done | rfl | (simp only [List.length_drop, List.length_take]; rfl)) ?_; (with_reducible refine (impl_within.calls a0_1 1 999999 true _ A50.out).mono ?_); rintro e w' ⟨rfl, ⟨nd, rfl⟩⟩; refine ⟨_, rfl, ?_⟩) | (go_at_call 57; (with_reducible refine (impl_within.calls a0_2 1 8 false _ A52.out).mono ?_); rintro e w' ⟨rfl, ⟨nd, rfl⟩⟩))
        go_ret
        exact ⟨Xe, Xi⟩
      ·replace c51 := Bool.eq_false_iff.mpr c51
       subst c51
       (first | rw [if_neg (show ¬ (false = true) by decide)] at H | skip)
       obtain rfl := Option.some.inj H
       obtain ⟨hcz59_0, hcz59_1, hcz59_2, hcz59_3, hcz59_4⟩ := Xc5 BK156
       go_wp2_with (first | ((with_reducible refine gate_callee (f := 57) rfl ?_); refine goesL_ (some 27) rfl rfl Tryd.func57 (by kernel_rfl) rfl #[.int .i64 a0_1, .int .i64 1, .int .i64 999999] rfl (by (try simp only [List.map_toArray, List.map_cons, List.map_nil]); first | done | rfl | (simp only [List.length_drop, List.length_take]; rfl)) ?_; (with_reducible refine (impl_within.calls a0_1 1 999999 false _ A50.out).mono ?_); rintro e w' ⟨rfl, ⟨nd, rfl⟩⟩; refine ⟨_, rfl, ?_⟩))
       go_ret
       exact ⟨Xe, Xi⟩
     ·have c49b0 : (a0_0 == 6) = false := beq_eq_false_iff_ne.mpr c49
      have c49b1 : (a0_0 != 6) = true := bne_iff_ne.mpr c49
      obtain ⟨c60, H⟩ | ⟨c60, H⟩ := Xiu H
      ·have c60b0 : (a0_0 == 8) = true := beq_iff_eq.mpr c60
       have c60b1 : (a0_0 != 8) = false := bne_eq_false_iff_eq.mpr c60
       clear c60
       obtain ⟨t172, A61, H⟩ := Xbi H
       (try dsimp only at H)
       by_cases c62 : t172 = true
       ·subst c62
        (first | rw [if_pos rfl] at H | skip)
        obtain ⟨t173, A63, H⟩ := Xbi H
        (try dsimp only at H)
        by_cases c64 : t173 = true
        ·subst c64
         (first | rw [if_pos rfl] at H | skip)
         obtain ⟨t174, A65, H⟩ := Xbi H
         (try dsimp only at H)
         by_cases c66 : t174 = true
         ·subst c66
          (first | rw [if_pos rfl] at H | skip)
          obtain rfl := Option.some.inj H
          obtain ⟨hcz67_0, hcz67_1, hcz67_2, hcz67_3, hcz67_4⟩ := Xc5 BK156
          go_wp2_with (first | ((with_reducible refine gate_callee (f := 57) rfl ?_); refine goesL_ (some 27) rfl rfl Tryd.func57 (by kernel_rfl) rfl #[.int .i64 a0_1, .int .i64 1, .int .i64 999999] rfl (by (try simp only [List.map_toArray, List.map_cons, List.map_nil]); first | done | rfl | (simp only [List.length_drop, List.length_take]; rfl)) ?_; (with_reducible refine (impl_within.calls a0_1 1 999999 true _ A61.out).mono ?_); rintro e w' ⟨rfl, ⟨nd, rfl⟩⟩; refine ⟨_, rfl, ?_⟩) | (go_at_call 57; (with_reducible refine (impl_within.calls a0_2 0 20 true _ A63.out).mono ?_); rintro e w' ⟨rfl, ⟨nd, rfl⟩⟩) | (go_at_call 57; (with_reducible refine (impl_within.calls a0_3 0 0 true _ A65.out).mono ?_); rintro e w' ⟨rfl, ⟨nd, rfl⟩⟩))
          go_ret
          exact ⟨Xe, Xi⟩
         ·replace c66 := Bool.eq_false_iff.mpr c66
          subst c66
          (first | rw [if_neg (show ¬ (false = true) by decide)] at H | skip)
          obtain rfl := Option.some.inj H
          obtain ⟨hcz68_0, hcz68_1, hcz68_2, hcz68_3, hcz68_4⟩ := Xc5 BK156
          go_wp2_with (first | ((with_reducible refine gate_callee (f := 57) rfl ?_); refine goesL_ (some 27) rfl rfl Tryd.func57 (by kernel_rfl) rfl #[.int .i64 a0_1, .int .i64 1, .int .i64 999999] rfl (by (try simp only [List.map_toArray, List.map_cons, List.map_nil]); first | done | rfl | (simp only [List.length_drop, List.length_take]; rfl)) ?_; (with_reducible refine (impl_within.calls a0_1 1 999999 true _ A61.out).mono ?_); rintro e w' ⟨rfl, ⟨nd, rfl⟩⟩; refine ⟨_, rfl, ?_⟩) | (go_at_call 57; (with_reducible refine (impl_within.calls a0_2 0 20 true _ A63.out).mono ?_); rintro e w' ⟨rfl, ⟨nd, rfl⟩⟩) | (go_at_call 57; (with_reducible refine (impl_within.calls a0_3 0 0 false _ A65.out).mono ?_); rintro e w' ⟨rfl, ⟨nd, rfl⟩⟩))
          go_ret
          exact ⟨Xe, Xi⟩
        ·replace c64 := Bool.eq_false_iff.mpr c64
         subst c64
         (first | rw [if_neg (show ¬ (false = true) by decide)] at H | skip)
         obtain rfl := Option.some.inj H
         obtain ⟨hcz69_0, hcz69_1, hcz69_2, hcz69_3, hcz69_4⟩ := Xc5 BK156
         go_wp2_with (first | ((with_reducible refine gate_callee (f := 57) rfl ?_); refine goesL_ (some 27) rfl rfl Tryd.func57 (by kernel_rfl) rfl #[.int .i64 a0_1, .int .i64 1, .int .i64 999999] rfl (by (try simp only [List.map_toArray, List.map_cons, List.map_nil]); first | done | rfl | (simp only [List.length_drop, List.length_take]; rfl)) ?_; (with_reducible refine (impl_within.calls a0_1 1 999999 true _ A61.out).mono ?_); rintro e w' ⟨rfl, ⟨nd, rfl⟩⟩; refine ⟨_, rfl, ?_⟩) | (go_at_call 57; (with_reducible refine (impl_within.calls a0_2 0 20 false _ A63.out).mono ?_); rintro e w' ⟨rfl, ⟨nd, rfl⟩⟩))
         go_ret
         exact ⟨Xe, Xi⟩
       ·replace c62 := Bool.eq_false_iff.mpr c62
        subst c62
        (first | rw [if_neg (show ¬ (false = true) by decide)] at H | skip)
        obtain rfl := Option.some.inj H
        obtain ⟨hcz70_0, hcz70_1, hcz70_2, hcz70_3, hcz70_4⟩ := Xc5 BK156
        go_wp2_with (first | ((with_reducible refine gate_callee (f := 57) rfl ?_); refine goesL_ (some 27) rfl rfl Tryd.func57 (by kernel_rfl) rfl #[.int .i64 a0_1, .int .i64 1, .int .i64 999999] rfl (by (try simp only [List.map_toArray, List.map_cons, List.map_nil]); first | done | rfl | (simp only [List.length_drop, List.length_take]; rfl)) ?_; (with_reducible refine (impl_within.calls a0_1 1 999999 false _ A61.out).mono ?_); rintro e w' ⟨rfl, ⟨nd, rfl⟩⟩; refine ⟨_, rfl, ?_⟩))
        go_ret
        exact ⟨Xe, Xi⟩
      ·have c60b0 : (a0_0 == 8) = false := beq_eq_false_iff_ne.mpr c60
       have c60b1 : (a0_0 != 8) = true := bne_iff_ne.mpr c60
       have HC71 := Aside0.mk H
       clear H
       go_upto_if 21 with (fail)
       go_cut [21] (fun v21 wc => ∃ (kq : Nat) (x21_70 : Bool), v21 = .bool x21_70 ∧ Aside0 (impl_EditOK.j0 kq 0 0 0 0 x21_70 a0_0 a0_1 a0_2 a0_3 a0_4 = some r) ∧ Aside0 (kq ≤ k) ∧ Aside0 (wc.heap[gb156]? = some (.cells #[.int .i64 a0_0, .int .i64 a0_1, .int .i64 a0_2, .int .i64 a0_3, .string a0_4] 27 (0, 0))) ∧ Aside0 (Below w.heap.size w wc))
       case first =>
        have H := HC71.out
        clear HC71
        obtain ⟨c72, H⟩ | ⟨c72, H⟩ := Xiu H
        ·have c72b0 : (a0_0 == 2) = true := beq_iff_eq.mpr c72
         have c72b1 : (a0_0 != 2) = false := bne_eq_false_iff_eq.mpr c72
         clear c72
         (first | rw [c72b0] | (simp only [i64_w, i32_w]; rw [c72b0]) | skip)
         have H' := Aside0.mk H
         clear H
         go_wp2
         go_meet
         case rel => exact ⟨_, ((a0_0 == 2)), Xr, H', Xko, BK156, ⟨Xi⟩⟩
        ·have c72b0 : (a0_0 == 2) = false := beq_eq_false_iff_ne.mpr c72
         have c72b1 : (a0_0 != 2) = true := bne_iff_ne.mpr c72
         (first | rw [c72b0] | (simp only [i64_w, i32_w]; rw [c72b0]) | skip)
         obtain ⟨c73, H⟩ | ⟨c73, H⟩ := Xiu H
         ·have c73b0 : (a0_0 == 7) = true := beq_iff_eq.mpr c73
          have c73b1 : (a0_0 != 7) = false := bne_eq_false_iff_eq.mpr c73
          clear c73
          have H' := Aside0.mk H
          clear H
          go_wp2
          go_meet
          case rel => exact ⟨_, ((a0_0 == 7)), Xr, H', Xko, BK156, ⟨Xi⟩⟩
         ·have c73b0 : (a0_0 == 7) = false := beq_eq_false_iff_ne.mpr c73
          have c73b1 : (a0_0 != 7) = true := bne_iff_ne.mpr c73
          have H' := Aside0.mk H
          clear H
          go_wp2
          go_meet
          case rel => exact ⟨_, ((a0_0 == 9)), Xr, H', Xko, BK156, ⟨Xi⟩⟩
       case rest =>
        clear HC71
        (try clear c5); (try clear c5b0); (try clear c5b1); (try clear c16); (try clear c16b0); (try clear c16b1); (try clear c27); (try clear c27b0); (try clear c27b1); (try clear c38); (try clear c38b0); (try clear c38b1); (try clear c49); (try clear c49b0); (try clear c49b1); (try clear c60); (try clear c60b0); (try clear c60b1)
        obtain ⟨kq, x21_70, rfl, HA, HJ70, BK156, HB⟩ := hcut
        cases kq with
        | zero => cases HA.out
        | succ kj70 =>
         have H := HA.out
         clear HA
         simp only [impl_EditOK.j0] at H
         by_cases c74 : x21_70 = true
         ·subst c74
          (first | rw [if_pos rfl] at H | skip)
          obtain ⟨t175, A75, H⟩ := Xbi H
          (try dsimp only at H)
          by_cases c76 : t175 = true
          ·subst c76
           (first | rw [if_pos rfl] at H | skip)
           obtain ⟨t176, A77, H⟩ := Xbi H
           (try dsimp only at H)
           by_cases c78 : t176 = true
           ·subst c78
            (first | rw [if_pos rfl] at H | skip)
            obtain ⟨t177, A79, H⟩ := Xbi H
            (try dsimp only at H)
            by_cases c80 : t177 = true
            ·subst c80
             (first | rw [if_pos rfl] at H | skip)
             obtain rfl := Option.some.inj H
             obtain ⟨hcz81_0, hcz81_1, hcz81_2, hcz81_3, hcz81_4⟩ := Xc5 BK156
             go_wp2_with (first | ((with_reducible refine gate_callee (f := 57) rfl ?_); refine goesL_ (some 27) rfl rfl Tryd.func57 (by kernel_rfl) rfl #[.int .i64 a0_1, .int .i64 1, .int .i64 999999] rfl (by (try simp only [List.map_toArray, List.map_cons, List.map_nil]); first | done | rfl | (simp only [List.length_drop, List.length_take]; rfl)) ?_; (with_reducible refine (impl_within.calls a0_1 1 999999 true _ A75.out).mono ?_); rintro e w' ⟨rfl, ⟨nd, rfl⟩⟩; refine ⟨_, rfl, ?_⟩) | (go_at_call 57; (with_reducible refine (impl_within.calls a0_2 0 0 true _ A77.out).mono ?_); rintro e w' ⟨rfl, ⟨nd, rfl⟩⟩) | (go_at_call 57; (with_reducible refine (impl_within.calls a0_3 0 0 true _ A79.out).mono ?_); rintro e w' ⟨rfl, ⟨nd, rfl⟩⟩))
             go_ret
             exact ⟨Xe, Xi⟩
            ·replace c80 := Bool.eq_false_iff.mpr c80
             subst c80
             (first | rw [if_neg (show ¬ (false = true) by decide)] at H | skip)
             obtain rfl := Option.some.inj H
             obtain ⟨hcz82_0, hcz82_1, hcz82_2, hcz82_3, hcz82_4⟩ := Xc5 BK156
             go_wp2_with (first | ((with_reducible refine gate_callee (f := 57) rfl ?_); refine goesL_ (some 27) rfl rfl Tryd.func57 (by kernel_rfl) rfl #[.int .i64 a0_1, .int .i64 1, .int .i64 999999] rfl (by (try simp only [List.map_toArray, List.map_cons, List.map_nil]); first | done | rfl | (simp only [List.length_drop, List.length_take]; rfl)) ?_; (with_reducible refine (impl_within.calls a0_1 1 999999 true _ A75.out).mono ?_); rintro e w' ⟨rfl, ⟨nd, rfl⟩⟩; refine ⟨_, rfl, ?_⟩) | (go_at_call 57; (with_reducible refine (impl_within.calls a0_2 0 0 true _ A77.out).mono ?_); rintro e w' ⟨rfl, ⟨nd, rfl⟩⟩) | (go_at_call 57; (with_reducible refine (impl_within.calls a0_3 0 0 false _ A79.out).mono ?_); rintro e w' ⟨rfl, ⟨nd, rfl⟩⟩))
             go_ret
             exact ⟨Xe, Xi⟩
           ·replace c78 := Bool.eq_false_iff.mpr c78
            subst c78
            (first | rw [if_neg (show ¬ (false = true) by decide)] at H | skip)
            obtain rfl := Option.some.inj H
            obtain ⟨hcz83_0, hcz83_1, hcz83_2, hcz83_3, hcz83_4⟩ := Xc5 BK156
            go_wp2_with (first | ((with_reducible refine gate_callee (f := 57) rfl ?_); refine goesL_ (some 27) rfl rfl Tryd.func57 (by kernel_rfl) rfl #[.int .i64 a0_1, .int .i64 1, .int .i64 999999] rfl (by (try simp only [List.map_toArray, List.map_cons, List.map_nil]); first | done | rfl | (simp only [List.length_drop, List.length_take]; rfl)) ?_; (with_reducible refine (impl_within.calls a0_1 1 999999 true _ A75.out).mono ?_); rintro e w' ⟨rfl, ⟨nd, rfl⟩⟩; refine ⟨_, rfl, ?_⟩) | (go_at_call 57; (with_reducible refine (impl_within.calls a0_2 0 0 false _ A77.out).mono ?_); rintro e w' ⟨rfl, ⟨nd, rfl⟩⟩))
            go_ret
            exact ⟨Xe, Xi⟩
          ·replace c76 := Bool.eq_false_iff.mpr c76
           subst c76
           (first | rw [if_neg (show ¬ (false = true) by decide)] at H | skip)
           obtain rfl := Option.some.inj H
           obtain ⟨hcz84_0, hcz84_1, hcz84_2, hcz84_3, hcz84_4⟩ := Xc5 BK156
           go_wp2_with (first | ((with_reducible refine gate_callee (f := 57) rfl ?_); refine goesL_ (some 27) rfl rfl Tryd.func57 (by kernel_rfl) rfl #[.int .i64 a0_1, .int .i64 1, .int .i64 999999] rfl (by (try simp only [List.map_toArray, List.map_cons, List.map_nil]); first | done | rfl | (simp only [List.length_drop, List.length_take]; rfl)) ?_; (with_reducible refine (impl_within.calls a0_1 1 999999 false _ A75.out).mono ?_); rintro e w' ⟨rfl, ⟨nd, rfl⟩⟩; refine ⟨_, rfl, ?_⟩))
           go_ret
           exact ⟨Xe, Xi⟩
         ·replace c74 := Bool.eq_false_iff.mpr c74
          subst c74
          (first | rw [if_neg (show ¬ (false = true) by decide)] at H | skip)
          obtain rfl := Option.some.inj H
          go_wp2
          go_ret
          exact ⟨Xe, Xi⟩

/-! ### impl_editWords: function 69 -/
def impl_editWords.f  : Option (List ByteArray) := some (([(⟨#[]⟩ : ByteArray), (⟨#[105, 110, 115, 101, 114, 116]⟩ : ByteArray), (⟨#[100, 101, 108, 101, 116, 101]⟩ : ByteArray), (⟨#[116, 101, 120, 116]⟩ : ByteArray), (⟨#[97, 116, 116, 114]⟩ : ByteArray), (⟨#[109, 111, 118, 101]⟩ : ByteArray), (⟨#[119, 114, 97, 112]⟩ : ByteArray), (⟨#[108, 105, 102, 116]⟩ : ByteArray), (⟨#[115, 112, 108, 105, 116]⟩ : ByteArray), (⟨#[106, 111, 105, 110]⟩ : ByteArray)] : List ByteArray))
set_option maxHeartbeats 8000000 in
set_option maxRecDepth 100000 in
theorem impl_editWords.calls  (r : List ByteArray) (w : World) (h : impl_editWords.f  = some r) :
  Calls Tryd.prog 69 #[] w fun e w' => ∃ v0_ : Value, e = .returned (v0_) ∧ Kd.R Kd.string 9 w' w.heap.size (fun _ => True) v0_ r ∧ Below w.heap.size w w' := by
 have HB := Aside0.mk (Below.refl w.heap.size w)
 have H : (some (([(⟨#[]⟩ : ByteArray), (⟨#[105, 110, 115, 101, 114, 116]⟩ : ByteArray), (⟨#[100, 101, 108, 101, 116, 101]⟩ : ByteArray), (⟨#[116, 101, 120, 116]⟩ : ByteArray), (⟨#[97, 116, 116, 114]⟩ : ByteArray), (⟨#[109, 111, 118, 101]⟩ : ByteArray), (⟨#[119, 114, 97, 112]⟩ : ByteArray), (⟨#[108, 105, 102, 116]⟩ : ByteArray), (⟨#[115, 112, 108, 105, 116]⟩ : ByteArray), (⟨#[106, 111, 105, 110]⟩ : ByteArray)] : List ByteArray))) = some r := h
 clear h
 obtain ⟨y178, hy178⟩ : ∃ y_ : List ByteArray, y_ = (([(⟨#[]⟩ : ByteArray), (⟨#[105, 110, 115, 101, 114, 116]⟩ : ByteArray), (⟨#[100, 101, 108, 101, 116, 101]⟩ : ByteArray), (⟨#[116, 101, 120, 116]⟩ : ByteArray), (⟨#[97, 116, 116, 114]⟩ : ByteArray), (⟨#[109, 111, 118, 101]⟩ : ByteArray), (⟨#[119, 114, 97, 112]⟩ : ByteArray), (⟨#[108, 105, 102, 116]⟩ : ByteArray), (⟨#[115, 112, 108, 105, 116]⟩ : ByteArray), (⟨#[106, 111, 105, 110]⟩ : ByteArray)] : List ByteArray)) := ⟨_, rfl⟩
 replace H : (some y178) = some r := by first | (rw [hy178]; with_reducible exact H) | (have H2_ := (Option.bind_some _ _).symm.trans H; rw [hy178]; with_reducible exact H2_) | (have H2_ := (Option.bind_some _ _).symm.trans H; with_reducible exact H2_) | with_reducible exact H | (rw [hy178]; exact H) | exact H
 have Ny178 := Aside0.mk hy178
 clear hy178
 obtain rfl := Option.some.inj H
 go_enter Tryd.func69, Tryd.ntmps69
 go_wp2_with (first | ((with_reducible refine gate_dst (N := 1) rfl ?_); refine Kd.R_lit Kd.string _ 9 ?hg (N := 1) ?hd (xs := ([(⟨#[]⟩ : ByteArray), (⟨#[105, 110, 115, 101, 114, 116]⟩ : ByteArray), (⟨#[100, 101, 108, 101, 116, 101]⟩ : ByteArray), (⟨#[116, 101, 120, 116]⟩ : ByteArray), (⟨#[97, 116, 116, 114]⟩ : ByteArray), (⟨#[109, 111, 118, 101]⟩ : ByteArray), (⟨#[119, 114, 97, 112]⟩ : ByteArray), (⟨#[108, 105, 102, 116]⟩ : ByteArray), (⟨#[115, 112, 108, 105, 116]⟩ : ByteArray), (⟨#[106, 111, 105, 110]⟩ : ByteArray)] : List ByteArray)) (inner := [.string (⟨#[]⟩ : ByteArray), .string (⟨#[105, 110, 115, 101, 114, 116]⟩ : ByteArray), .string (⟨#[100, 101, 108, 101, 116, 101]⟩ : ByteArray), .string (⟨#[116, 101, 120, 116]⟩ : ByteArray), .string (⟨#[97, 116, 116, 114]⟩ : ByteArray), .string (⟨#[109, 111, 118, 101]⟩ : ByteArray), .string (⟨#[119, 114, 97, 112]⟩ : ByteArray), .string (⟨#[108, 105, 102, 116]⟩ : ByteArray), .string (⟨#[115, 112, 108, 105, 116]⟩ : ByteArray), .string (⟨#[106, 111, 105, 110]⟩ : ByteArray)]) (ok := fun _ => True) (okp := fun _ => True) ?hr ?hp (fun _ hk => hk) trivial (Below.refl _ _) (Nat.le_refl _) (by simp) ?_; (case hd => rfl); (case hg => rfl); (case hr => first | (go_simp; done) | (go_simp; rfl)); (case hp => exact (Reps.one (show Kd.M Kd.string _ _ _ (⟨#[]⟩ : ByteArray) [.string (⟨#[]⟩ : ByteArray)] from rfl) (Reps.one (show Kd.M Kd.string _ _ _ (⟨#[105, 110, 115, 101, 114, 116]⟩ : ByteArray) [.string (⟨#[105, 110, 115, 101, 114, 116]⟩ : ByteArray)] from rfl) (Reps.one (show Kd.M Kd.string _ _ _ (⟨#[100, 101, 108, 101, 116, 101]⟩ : ByteArray) [.string (⟨#[100, 101, 108, 101, 116, 101]⟩ : ByteArray)] from rfl) (Reps.one (show Kd.M Kd.string _ _ _ (⟨#[116, 101, 120, 116]⟩ : ByteArray) [.string (⟨#[116, 101, 120, 116]⟩ : ByteArray)] from rfl) (Reps.one (show Kd.M Kd.string _ _ _ (⟨#[97, 116, 116, 114]⟩ : ByteArray) [.string (⟨#[97, 116, 116, 114]⟩ : ByteArray)] from rfl) (Reps.one (show Kd.M Kd.string _ _ _ (⟨#[109, 111, 118, 101]⟩ : ByteArray) [.string (⟨#[109, 111, 118, 101]⟩ : ByteArray)] from rfl) (Reps.one (show Kd.M Kd.string _ _ _ (⟨#[119, 114, 97, 112]⟩ : ByteArray) [.string (⟨#[119, 114, 97, 112]⟩ : ByteArray)] from rfl) (Reps.one (show Kd.M Kd.string _ _ _ (⟨#[108, 105, 102, 116]⟩ : ByteArray) [.string (⟨#[108, 105, 102, 116]⟩ : ByteArray)] from rfl) (Reps.one (show Kd.M Kd.string _ _ _ (⟨#[115, 112, 108, 105, 116]⟩ : ByteArray) [.string (⟨#[115, 112, 108, 105, 116]⟩ : ByteArray)] from rfl) (Reps.one (show Kd.M Kd.string _ _ _ (⟨#[106, 111, 105, 110]⟩ : ByteArray) [.string (⟨#[106, 111, 105, 110]⟩ : ByteArray)] from rfl) (Reps.none _ _)))))))))))); intro v179 w1 ho2 hb hg_ hnew_; clear hg_ hnew_; (first | rw [← Ny178.out] at ho2 | (simp only [Int.reduceToNat] at ho2; rw [← Ny178.out] at ho2)); have HO180 := Aside0.mk (Kd.R_lower ho2 (below_size Xi)); replace HB := Aside0.mk (below_step Xi hb); clear hb ho2))
 go_ret
 exact ⟨_, Xe, Xq HO180, Xi⟩

end Go.Proofs.YtomlmcimlojmoaaDoor.XA
