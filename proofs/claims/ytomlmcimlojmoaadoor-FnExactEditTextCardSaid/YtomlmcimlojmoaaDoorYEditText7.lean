/- Contracts of the program's functions: each Go function that is named below comes to what its Lean function says. Written by xprint.py (a program of this session's, over the kit's print). Conditions: each contract's own premises. -/
import Derived.Test.YtomlmcimlojmoaaDoorYEditText0
import Derived.Test.YtomlmcimlojmoaaDoorYEditText1
import Derived.Test.YtomlmcimlojmoaaDoorYEditText3
import Derived.Test.YtomlmcimlojmoaaDoorYEditText6
namespace Go.Proofs.YtomlmcimlojmoaaDoor.XA
open Go.RowKit Go.Proofs.YtomlmcimlojmoaaDoorW.PrintWords Go.Proofs.YtomlmcimlojmoaaDoorW.PrintLast Go.Proofs.YtomlmcimlojmoaaDoorW.PrintMore XW
attribute [local go_sem] max2_int min2_int max_two min_two max_three min_three max_four min_four   -- for this text's walks alone
set_option linter.unusedVariables false
set_option linter.unusedSimpArgs false

/-! ### laws_FnExactEditText: function 3 -/
def laws_FnExactEditText.f (k : Nat) (a0_0 : Int) (a0_1 : Int) (a0_2 : Int) (a0_3 : Int) (a0_4 : ByteArray) : Option (Bool) := (laws_szEdit.f a0_0 a0_1 a0_2 a0_3 a0_4 1048576).bind fun t204 => (if t204 < 0 then (some true) else ((laws_toEdit.f a0_0 a0_1 a0_2 a0_3 a0_4).bind fun bt205 => ((spec_EditText.f k bt205.1 bt205.2.1 bt205.2.2.1 bt205.2.2.2.1 bt205.2.2.2.2).bind fun bt210 => ((laws_toEdit.f a0_0 a0_1 a0_2 a0_3 a0_4).bind fun bt212 => ((impl_EditText.f k bt212.1 bt212.2.1 bt212.2.2.1 bt212.2.2.2.1 bt212.2.2.2.2).bind fun bt217 => (if bt217.1.toList = bt210.1.toList then (if bt217.2 = bt210.2 then (some true) else (some false)) else (some false)))))))
set_option maxHeartbeats 8000000 in
set_option maxRecDepth 100000 in
theorem laws_FnExactEditText.calls (k : Nat) (a0_0 : Int) (a0_1 : Int) (a0_2 : Int) (a0_3 : Int) (a0_4 : ByteArray) (r : Bool) (w : World) (hr_ : r = true) (h : laws_FnExactEditText.f k a0_0 a0_1 a0_2 a0_3 a0_4 = some r) (htab : Tab w := by exact Tab.below htab Xi) :
  Calls Tryd.prog 3 #[.agg #[.int .i64 a0_0, .int .i64 a0_1, .int .i64 a0_2, .int .i64 a0_3, .string a0_4]] w fun e w' => e = .returned (.bool r) ∧ Below w.heap.size w w' := by
 subst hr_
 have hu23 := Tryd.underlying23
 have HB := Aside0.mk (Below.refl w.heap.size w)
 have H : ((laws_szEdit.f a0_0 a0_1 a0_2 a0_3 a0_4 1048576).bind fun t204 => (if t204 < 0 then (some true) else ((laws_toEdit.f a0_0 a0_1 a0_2 a0_3 a0_4).bind fun bt205 => ((spec_EditText.f k bt205.1 bt205.2.1 bt205.2.2.1 bt205.2.2.2.1 bt205.2.2.2.2).bind fun bt210 => ((laws_toEdit.f a0_0 a0_1 a0_2 a0_3 a0_4).bind fun bt212 => ((impl_EditText.f k bt212.1 bt212.2.1 bt212.2.2.1 bt212.2.2.2.1 bt212.2.2.2.2).bind fun bt217 => (if bt217.1.toList = bt210.1.toList then (if bt217.2 = bt210.2 then (some true) else (some false)) else (some false)))))))) = some true := h
 clear h
 obtain ⟨t204, A2, H⟩ := Xbi H
 (try dsimp only at H)
 have HC3 := Aside0.mk H
 clear H
 go_enter Tryd.func3, Tryd.ntmps3
 go_upto_if 12 with (first | ((with_reducible refine gate_dst (N := 1) rfl ?_); refine Xbox 1 #[.int .i64 a0_0, .int .i64 a0_1, .int .i64 a0_2, .int .i64 a0_3, .string a0_4] 23 ?_; intro gb203 hg w4 hbox hb; have BK203 := Aside0.mk (hbox); have GE203 := Xge hg Xi; replace HB := Aside0.mk (below_step Xi hb); clear hb hbox hg; obtain ⟨hcz5_0, hcz5_1, hcz5_2, hcz5_3, hcz5_4⟩ := Xc5 BK203) | ((with_reducible refine gate_callee (f := 8) rfl ?_); refine goesL_ (some 10) rfl rfl Tryd.func8 (by kernel_rfl) rfl #[.agg #[.int .i64 a0_0, .int .i64 a0_1, .int .i64 a0_2, .int .i64 a0_3, .string a0_4], .int .i64 1048576] rfl (by (try simp only [List.map_toArray, List.map_cons, List.map_nil]); first | done | rfl | (simp only [List.length_drop, List.length_take]; rfl)) ?_; (with_reducible refine (laws_szEdit.calls a0_0 a0_1 a0_2 a0_3 a0_4 1048576 t204 _ A2.out).mono ?_); rintro e w6 ⟨rfl, hb⟩; refine ⟨_, rfl, ?_⟩; replace BK203 := Xbb BK203 hb; replace HB := Aside0.mk (below_step Xi hb); clear hb))
 have H := HC3.out
 clear HC3
 obtain ⟨c7b0, H⟩ | ⟨c7b0, H⟩ := Xit H
 ·(first | rw [c7b0] | (simp only [i64_w, i32_w]; rw [c7b0]) | skip)
  go_wp2
  go_ret
  exact ⟨Xe, Xi⟩
 ·(first | rw [c7b0] | (simp only [i64_w, i32_w]; rw [c7b0]) | skip)
  replace H := Option.bind_eq_some_iff.mp H
  obtain ⟨⟨t205, t206, t207, t208, t209⟩, A80, H⟩ := H
  (try dsimp only at H)
  have A8 := Aside0.mk A80
  clear A80
  replace H := Option.bind_eq_some_iff.mp H
  obtain ⟨⟨t210, t211⟩, A90, H⟩ := H
  (try dsimp only at H)
  have A9 := Aside0.mk A90
  clear A90
  replace H := Option.bind_eq_some_iff.mp H
  obtain ⟨⟨t212, t213, t214, t215, t216⟩, A100, H⟩ := H
  (try dsimp only at H)
  have A10 := Aside0.mk A100
  clear A100
  replace H := Option.bind_eq_some_iff.mp H
  obtain ⟨⟨t217, t218⟩, A110, H⟩ := H
  (try dsimp only at H)
  have A11 := Aside0.mk A110
  clear A110
  have HC12 := Aside0.mk H
  clear H
  obtain ⟨hcz13_0, hcz13_1, hcz13_2, hcz13_3, hcz13_4⟩ := Xc5 BK203
  go_upto_region 7 with (first | ((with_reducible refine gate_callee (f := 10) rfl ?_); refine goesL_ (some 15) rfl rfl Tryd.func10 (by kernel_rfl) rfl #[.agg #[.int .i64 a0_0, .int .i64 a0_1, .int .i64 a0_2, .int .i64 a0_3, .string a0_4]] rfl (by (try simp only [List.map_toArray, List.map_cons, List.map_nil]); first | done | rfl | (simp only [List.length_drop, List.length_take]; rfl)) ?_; (with_reducible refine (laws_toEdit.calls a0_0 a0_1 a0_2 a0_3 a0_4 t205 t206 t207 t208 t209 _ A8.out).mono ?_); rintro e w14 ⟨rfl, hb⟩; refine ⟨_, rfl, ?_⟩; replace BK203 := Xbb BK203 hb; replace HB := Aside0.mk (below_step Xi hb); clear hb) | ((with_reducible refine gate_callee (f := 9) rfl ?_); refine goesL_ (some 16) rfl rfl Tryd.func9 (by kernel_rfl) rfl #[.agg #[.int .i64 t205, .int .i64 t206, .int .i64 t207, .int .i64 t208, .string t209]] rfl (by (try simp only [List.map_toArray, List.map_cons, List.map_nil]); first | done | rfl | (simp only [List.length_drop, List.length_take]; rfl)) ?_; (with_reducible refine (spec_EditText.calls k t205 t206 t207 t208 t209 t210 t211 _ A9.out).mono ?_); rintro e w15 ⟨rfl, hb⟩; refine ⟨_, rfl, ?_⟩; replace BK203 := Xbb BK203 hb; replace HB := Aside0.mk (below_step Xi hb); clear hb; obtain ⟨hcz16_0, hcz16_1, hcz16_2, hcz16_3, hcz16_4⟩ := Xc5 BK203) | ((with_reducible refine gate_callee (f := 10) rfl ?_); refine goesL_ (some 21) rfl rfl Tryd.func10 (by kernel_rfl) rfl #[.agg #[.int .i64 a0_0, .int .i64 a0_1, .int .i64 a0_2, .int .i64 a0_3, .string a0_4]] rfl (by (try simp only [List.map_toArray, List.map_cons, List.map_nil]); first | done | rfl | (simp only [List.length_drop, List.length_take]; rfl)) ?_; (with_reducible refine (laws_toEdit.calls a0_0 a0_1 a0_2 a0_3 a0_4 t212 t213 t214 t215 t216 _ A10.out).mono ?_); rintro e w17 ⟨rfl, hb⟩; refine ⟨_, rfl, ?_⟩; replace BK203 := Xbb BK203 hb; replace HB := Aside0.mk (below_step Xi hb); clear hb) | ((with_reducible refine gate_callee (f := 11) rfl ?_); refine goesL_ (some 22) rfl rfl Tryd.func11 (by kernel_rfl) rfl #[.agg #[.int .i64 t212, .int .i64 t213, .int .i64 t214, .int .i64 t215, .string t216]] rfl (by (try simp only [List.map_toArray, List.map_cons, List.map_nil]); first | done | rfl | (simp only [List.length_drop, List.length_take]; rfl)) ?_; (with_reducible refine (impl_EditText.calls k t212 t213 t214 t215 t216 t217 t218 _ A11.out).mono ?_); rintro e w18 ⟨rfl, hb⟩; refine ⟨_, rfl, ?_⟩; replace BK203 := Xbb BK203 hb; replace HB := Aside0.mk (below_step Xi hb); clear hb))
  have H := HC12.out
  clear HC12
  obtain ⟨c19, H⟩ | ⟨c19, H⟩ := Xiu H
  ·have c19b0 : (t217.toList == t210.toList) = true := beq_iff_eq.mpr c19
   have c19b1 : (t217.toList != t210.toList) = false := bne_eq_false_iff_eq.mpr c19
   clear c19
   obtain ⟨c20, H⟩ | ⟨c20, H⟩ := Xiu H
   ·have c20b0 : (t218 == t211) = true := beq_iff_eq.mpr c20
    have c20b1 : (t218 != t211) = false := bne_eq_false_iff_eq.mpr c20
    clear c20
    go_wp2
    go_ret
    exact ⟨Xe, Xi⟩
   ·have c20b0 : (t218 == t211) = false := beq_eq_false_iff_ne.mpr c20
    have c20b1 : (t218 != t211) = true := bne_iff_ne.mpr c20
    cases H
  ·have c19b0 : (t217.toList == t210.toList) = false := beq_eq_false_iff_ne.mpr c19
   have c19b1 : (t217.toList != t210.toList) = true := bne_iff_ne.mpr c19
   cases H

end Go.Proofs.YtomlmcimlojmoaaDoor.XA
