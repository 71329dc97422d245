/- Contracts of the program's functions: each Go function that is named below comes to what its Lean function says. Written by xprint.py (a program of this session's, over the kit's print). Conditions: each contract's own premises. -/
import Derived.Test.YtpdhccdmbdbdpaaYCheckNode0
import Derived.Test.YtpdhccdmbdbdpaaYCheckNode3
import Derived.Test.YtpdhccdmbdbdpaaYCheckNode6
namespace Go.Proofs.Ytpdhccdmbdbdpaa.XA
open Go.RowKit Go.Proofs.YtpdhccdmbdbdpaaW.PrintWords Go.Proofs.YtpdhccdmbdbdpaaW.PrintLast Go.Proofs.YtpdhccdmbdbdpaaW.PrintMore XW
attribute [local go_sem] max2_int min2_int max_two min_two max_three min_three max_four min_four   -- for this text's walks alone
set_option linter.unusedVariables false
set_option linter.unusedSimpArgs false

/-! ### spec_l00Word: function 132 -/
mutual
def spec_l00Word.j0 : Nat → ByteArray → Bool → Option (Bool)
 | 0, _, _ => none
 | k + 1, x0, x17 => if x17 = true then (some false) else (spec_l00Word.l0 k x0 1)
def spec_l00Word.l0 : Nat → ByteArray → Int → Option (Bool)
 | 0, _, _ => none
 | k + 1, x0, x3 => if x3 < (x0.size : Int) then (if 0 ≤ x3 then ((spec_l00Letter.f (bt x0 x3)).bind fun t203 => (if t203 = true then (spec_l00Word.l0 k x0 (wrap64 (x3 + 1))) else ((spec_l00Digit.f (bt x0 x3)).bind fun t204 => (if t204 = true then (spec_l00Word.l0 k x0 (wrap64 (x3 + 1))) else (some false))))) else (none)) else (some true)
end
def spec_l00Word.f (k : Nat) (a0 : ByteArray) : Option (Bool) := if (a0.size : Int) < 1 then (spec_l00Word.j0 k a0 true) else (if (a0.size : Int) > 12 then (spec_l00Word.j0 k a0 true) else (if 0 < (a0.size : Int) then ((spec_l00Letter.f (bt a0 0)).bind fun t202 => (spec_l00Word.j0 k a0 (!t202))) else (none)))
theorem spec_l00Word.mono_l : ∀ k, (∀ y0 y1, LeO (spec_l00Word.j0 k y0 y1) (spec_l00Word.j0 (k + 1) y0 y1)) ∧ (∀ y0 y1, LeO (spec_l00Word.l0 k y0 y1) (spec_l00Word.l0 (k + 1) y0 y1))
 | 0 => ⟨fun _ _ r h => by simp [spec_l00Word.j0] at h, fun _ _ r h => by simp [spec_l00Word.l0] at h⟩
 | k + 1 => by
  obtain ⟨ih0, ih1⟩ := spec_l00Word.mono_l k
  refine ⟨?_, ?_⟩
  ·intro y0 y1
   unfold spec_l00Word.j0
   repeat' first | (with_reducible first | exact ih0 _ _ | exact ih1 _ _ | exact LeO.refl _ | exact LeO.none _ | refine LeO.ite ?_ ?_ | refine LeO.bind ?_ (fun _ => ?_)) | exact ih0 _ _ | exact ih1 _ _ | exact LeO.none _ | refine LeO.ite ?_ ?_ | refine LeO.bind ?_ (fun _ => ?_)
  ·intro y0 y1
   unfold spec_l00Word.l0
   repeat' first | (with_reducible first | exact ih0 _ _ | exact ih1 _ _ | exact LeO.refl _ | exact LeO.none _ | refine LeO.ite ?_ ?_ | refine LeO.bind ?_ (fun _ => ?_)) | exact ih0 _ _ | exact ih1 _ _ | exact LeO.none _ | refine LeO.ite ?_ ?_ | refine LeO.bind ?_ (fun _ => ?_)
theorem spec_l00Word.mono : ∀ a0 k, LeO (spec_l00Word.f k a0) (spec_l00Word.f (k + 1) a0) := by
 intro a0 k
 obtain ⟨ih0, ih1⟩ := spec_l00Word.mono_l k
 unfold spec_l00Word.f
 repeat' first | (with_reducible first | exact ih0 _ _ | exact ih1 _ _ | exact LeO.refl _ | exact LeO.none _ | refine LeO.ite ?_ ?_ | refine LeO.bind ?_ (fun _ => ?_)) | exact ih0 _ _ | exact ih1 _ _ | exact LeO.none _ | refine LeO.ite ?_ ?_ | refine LeO.bind ?_ (fun _ => ?_)
set_option maxHeartbeats 8000000 in
set_option maxRecDepth 100000 in
theorem spec_l00Word.calls (k : Nat) (a0 : ByteArray) (r : Bool) (w : World) (h : spec_l00Word.f k a0 = some r) :
  Calls Try.prog 132 #[.string a0] w fun e w' => e = .returned (.bool r) ∧ Drawn0 w w' := by
 have H : (if (a0.size : Int) < 1 then (spec_l00Word.j0 k a0 true) else (if (a0.size : Int) > 12 then (spec_l00Word.j0 k a0 true) else (if 0 < (a0.size : Int) then ((spec_l00Letter.f (bt a0 0)).bind fun t202 => (spec_l00Word.j0 k a0 (!t202))) else (none)))) = some r := h
 clear h
 have HC2 := Aside0.mk H
 clear H
 go_enter Try.func132, Try.ntmps132
 go_upto_region 1 with (fail)
 go_cut [17] (fun v17 wc => ∃ (kq : Nat) (x17_1 : Bool), v17 = .bool x17_1 ∧ Aside0 (spec_l00Word.j0 kq a0 x17_1 = some r) ∧ Aside0 (kq ≤ k) ∧ Drawn0 w wc)
 case first =>
  have H := HC2.out
  clear HC2
  obtain ⟨c3, H⟩ | ⟨c3, H⟩ := Xiu H
  ·have c3b0 : decide ((a0.size : Int) < 1) = true := decide_eq_true c3
   have c3b1 : decide (a0.size < 1) = true := decide_eq_true (by omega)
   clear c3
   (first | rw [c3b0] | (simp only [i64_w, i32_w]; rw [c3b0]) | skip)
   have H' := Aside0.mk H
   clear H
   go_wp2
   go_meet
   case rel => exact ⟨_, (true), Xr, H', Xko, by repeat (first | exact Drawn0.refl _ | apply Drawn0.step)⟩
  ·have c3b0 : decide ((a0.size : Int) < 1) = false := decide_eq_false c3
   have c3b1 : decide (a0.size < 1) = false := decide_eq_false (by omega)
   clear c3
   (first | rw [c3b0] | (simp only [i64_w, i32_w]; rw [c3b0]) | skip)
   obtain ⟨c4, H⟩ | ⟨c4, H⟩ := Xiu H
   ·have c4b0 : decide (12 < (a0.size : Int)) = true := decide_eq_true c4
    have c4b1 : decide (12 < a0.size) = true := decide_eq_true (by omega)
    clear c4
    have H' := Aside0.mk H
    clear H
    go_wp2
    go_meet
    case rel => exact ⟨_, (true), Xr, H', Xko, by repeat (first | exact Drawn0.refl _ | apply Drawn0.step)⟩
   ·have c4b0 : decide (12 < (a0.size : Int)) = false := decide_eq_false c4
    have c4b1 : decide (12 < a0.size) = false := decide_eq_false (by omega)
    clear c4
    obtain ⟨c5, H⟩ := Xif H
    have c5b0 : decide (0 < (a0.size : Int)) = true := decide_eq_true c5
    have c5b1 : decide (0 < a0.size) = true := decide_eq_true (by omega)
    clear c5
    obtain ⟨t202, A7, H⟩ := Xbi H
    (try dsimp only at H)
    have H' := Aside0.mk H
    clear H
    have p6 : 0 ≤ (0 : Int) := (by omega)
    have q6 : 0 < a0.size := (by have : (0 : Int) < (a0.size : Int) := of_decide_eq_true Xa; omega)
    have hx6 : ∀ h : 0 < a0.size, ((a0[0]'h).toNat : Int) = bt a0 0 := bt_at a0 0
    clear p6
    have qi6 : (0 < (a0.size : Int)) = True := eq_true (of_decide_eq_true Xa)
    replace q6 := eq_true q6
    go_wp2_with (first | (go_at_call 150; (with_reducible refine (spec_l00Letter.calls (bt a0 0) t202 _ A7.out).mono ?_); rintro e w' ⟨rfl, ⟨nd, rfl⟩⟩))
    go_meet
    case rel => exact ⟨_, (!t202), Xr, H', Xko, by repeat (first | exact Drawn0.refl _ | apply Drawn0.step)⟩
 case rest =>
  clear HC2
  obtain ⟨kq, x17_1, rfl, HA, HJ1, ⟨mc1, rfl⟩⟩ := hcut
  cases kq with
  | zero => cases HA.out
  | succ kj1 =>
   have H := HA.out
   clear HA
   simp only [spec_l00Word.j0] at H
   by_cases c8 : x17_1 = true
   ·subst c8
    (first | rw [if_pos rfl] at H | skip)
    obtain rfl := Option.some.inj H
    go_wp2
    go_ret
    exact ⟨Xr, Xdr⟩
   ·replace c8 := Bool.eq_false_iff.mpr c8
    subst c8
    (first | rw [if_neg (show ¬ (false = true) by decide)] at H | skip)
    have H' := Aside0.mk H
    clear H
    go_wp2
    go_loopg [3] kj1 (fun kq v3 w' => ∃ (x3_2 : Int), v3 = .int .i64 x3_2 ∧ Aside0 (spec_l00Word.l0 kq a0 x3_2 = some r) ∧ Aside0 (kq ≤ kj1) ∧ Drawn0 w w')
    case atStart => exact ⟨(1), Xr, H', Xkr, by repeat (first | exact Drawn0.refl _ | apply Drawn0.step)⟩
    case round =>
     clear H'
     (try clear c8)
     obtain ⟨x3_2, rfl, HA, HK2, ⟨m2, rfl⟩⟩ := hrel
     cases gk with
     | zero => cases HA.out
     | succ k2 =>
      have H := HA.out
      clear HA
      simp only [spec_l00Word.l0] at H
      obtain ⟨c9b0, H⟩ | ⟨c9b0, H⟩ := Xit H
      ·obtain ⟨c10b0, H⟩ := Xid H
       obtain ⟨t203, A12, H⟩ := Xbi H
       (try dsimp only at H)
       by_cases c13 : t203 = true
       ·subst c13
        (first | rw [if_pos rfl] at H | skip)
        have H' := Aside0.mk H
        clear H
        have p11 : 0 ≤ (x3_2 : Int) := of_decide_eq_true Xa
        have q11 : x3_2 < (a0.size : Int) := of_decide_eq_true Xa
        have hx11 := bt_at a0 x3_2
        replace p11 := eq_true p11
        replace q11 := eq_true q11
        go_wp2_with (first | ((with_reducible refine gate_callee (f := 150) rfl ?_); refine Xgo 27 Try.func150 #[.int .u8 (bt a0 x3_2)] ?_; (with_reducible refine (spec_l00Letter.calls (bt a0 x3_2) true _ A12.out).mono ?_); rintro e w' ⟨rfl, ⟨nd, rfl⟩⟩; refine ⟨_, rfl, ?_⟩))
        go_roundg k2
        case measure => have := HJ1.out; have := HK2.out; omega
        case rel => exact ⟨(wrap64 (x3_2 + 1)), Xr, H', ⟨by have := HJ1.out; have := HK2.out; omega⟩, by repeat (first | exact Drawn0.refl _ | apply Drawn0.step)⟩
       ·replace c13 := Bool.eq_false_iff.mpr c13
        subst c13
        (first | rw [if_neg (show ¬ (false = true) by decide)] at H | skip)
        obtain ⟨t204, A15, H⟩ := Xbi H
        (try dsimp only at H)
        have HC16 := Aside0.mk H
        clear H
        have p11 : 0 ≤ (x3_2 : Int) := of_decide_eq_true Xa
        have q11 : x3_2 < (a0.size : Int) := of_decide_eq_true Xa
        have hx11 := bt_at a0 x3_2
        replace p11 := eq_true p11
        replace q11 := eq_true q11
        go_upto_if 35 with (first | ((with_reducible refine gate_callee (f := 150) rfl ?_); refine Xgo 27 Try.func150 #[.int .u8 (bt a0 x3_2)] ?_; (with_reducible refine (spec_l00Letter.calls (bt a0 x3_2) false _ A12.out).mono ?_); rintro e w' ⟨rfl, ⟨nd, rfl⟩⟩; refine ⟨_, rfl, ?_⟩; have p14 : 0 ≤ (x3_2 : Int) := of_decide_eq_true Xa; have q14 : x3_2 < (a0.size : Int) := of_decide_eq_true Xa; have hx14 := bt_at a0 x3_2; replace p14 := eq_true p14; replace q14 := eq_true q14) | (go_at_call 151; (with_reducible refine (spec_l00Digit.calls (bt a0 x3_2) t204 _ A15.out).mono ?_); rintro e w' ⟨rfl, ⟨nd, rfl⟩⟩))
        have H := HC16.out
        clear HC16
        by_cases c17 : t204 = true
        ·subst c17
         (first | rw [if_pos rfl] at H | skip)
         have H' := Aside0.mk H
         clear H
         go_wp2
         go_roundg k2
         case measure => have := HJ1.out; have := HK2.out; omega
         case rel => exact ⟨(wrap64 (x3_2 + 1)), Xr, H', ⟨by have := HJ1.out; have := HK2.out; omega⟩, by repeat (first | exact Drawn0.refl _ | apply Drawn0.step)⟩
        ·replace c17 := Bool.eq_false_iff.mpr c17
         subst c17
         (first | rw [if_neg (show ¬ (false = true) by decide)] at H | skip)
         obtain rfl := Option.some.inj H
         go_wp2
         go_ret
         exact ⟨Xr, Xdr⟩
      ·obtain rfl := Option.some.inj H
       go_wp2
       go_ret
       exact ⟨Xr, Xdr⟩

/-! ### spec_l03Many: function 152 -/
def spec_l03Many.f (a0 : Int) : Option (Bool) := (spec_l01In.f a0 0 3).bind fun t205 => (some t205)
set_option maxHeartbeats 8000000 in
set_option maxRecDepth 100000 in
theorem spec_l03Many.calls (a0 : Int) (r : Bool) (w : World) (h : spec_l03Many.f a0 = some r) :
  Calls Try.prog 152 #[.int .i64 a0] w fun e w' => e = .returned (.bool r) ∧ Drawn0 w w' := by
 have H : ((spec_l01In.f a0 0 3).bind fun t205 => (some t205)) = some r := h
 clear h
 obtain ⟨t205, A2, H⟩ := Xbi H
 (try dsimp only at H)
 obtain rfl := Option.some.inj H
 go_enter Try.func152, Try.ntmps152
 go_wp2_with (first | ((with_reducible refine gate_callee (f := 84) rfl ?_); refine Xgo 4 Try.func84 #[.int .i64 a0, .int .i64 0, .int .i64 3] ?_; (with_reducible refine (spec_l01In.calls a0 0 3 t205 _ A2.out).mono ?_); rintro e w' ⟨rfl, ⟨nd, rfl⟩⟩; refine ⟨_, rfl, ?_⟩))
 go_ret
 exact ⟨Xr, Xdr⟩

/-! ### spec_l03Term: function 133 -/
mutual
def spec_l03Term.j0 : Nat → Int → Bool → List Int → Int → Option (Bool)
 | 0, _, _, _, _ => none
 | k + 1, x1, x22, x207000, x207001 => if x22 = true then (some false) else (spec_l03Term.l0 k x1 0 x207000 x207001)
def spec_l03Term.l0 : Nat → Int → Int → List Int → Int → Option (Bool)
 | 0, _, _, _, _ => none
 | k + 1, x1, x5, x207000, x207001 => if x5 < (x207000.length : Int) then (if 0 ≤ x5 then ((spec_l01In.f (rd x207000 x5) 1 x1).bind fun t209 => (if t209 = true then (if x5 > 0 then (if 0 ≤ (wrap64 (x5 - 1)) then (if (wrap64 (x5 - 1)) < (x207000.length : Int) then (if (rd x207000 x5) ≤ (rd x207000 (wrap64 (x5 - 1))) then (some false) else (spec_l03Term.l0 k x1 (wrap64 (x5 + 1)) x207000 x207001)) else (none)) else (none)) else (spec_l03Term.l0 k x1 (wrap64 (x5 + 1)) x207000 x207001)) else (some false))) else (none)) else (some true)
end
def spec_l03Term.f (k : Nat) (l0_0 : List Int) (a0_1 : Int) (a1 : Int) : Option (Bool) := if (l0_0.length : Int) = 0 then (spec_l03Term.j0 k a1 true l0_0 a0_1) else (if (l0_0.length : Int) > a1 then (spec_l03Term.j0 k a1 true l0_0 a0_1) else ((spec_l03Many.f a0_1).bind fun t207 => (spec_l03Term.j0 k a1 (!t207) l0_0 a0_1)))
set_option maxHeartbeats 8000000 in
set_option maxRecDepth 100000 in
theorem spec_l03Term.calls (k : Nat) (A0_0 : Option Addr) (c0_0 : Nat) (l0_0 : List Int) (a0_1 : Int) (a1 : Int) (r : Bool) (w : World) (hr0_0 : Kd.C (Kd.int .i64) w A0_0 l0_0.length l0_0) (hc0_0 : l0_0.length ≤ c0_0) (h : spec_l03Term.f k l0_0 a0_1 a1 = some r) :
  Calls Try.prog 133 #[.agg #[.slice A0_0 l0_0.length c0_0, .int .i64 a0_1], .int .i64 a1] w fun e w' => e = .returned (.bool r) ∧ Below w.heap.size w w' := by
 have hu135 := Try.underlying135
 have HR0_0 := Aside0.mk hr0_0
 have HC0_0 := Aside0.mk hc0_0
 clear hr0_0 hc0_0
 have HB := Aside0.mk (Below.refl w.heap.size w)
 have H : (if (l0_0.length : Int) = 0 then (spec_l03Term.j0 k a1 true l0_0 a0_1) else (if (l0_0.length : Int) > a1 then (spec_l03Term.j0 k a1 true l0_0 a0_1) else ((spec_l03Many.f a0_1).bind fun t207 => (spec_l03Term.j0 k a1 (!t207) l0_0 a0_1)))) = some r := h
 clear h
 have HC3 := Aside0.mk H
 clear H
 go_enter Try.func133, Try.ntmps133
 go_upto_region 1 with (first | ((with_reducible refine gate_dst (N := 2) rfl ?_); (try (refine gate_guard (by rfl) ?_; dsimp only)); refine Xbox 2 #[.slice A0_0 l0_0.length c0_0, .int .i64 a0_1] 135 ?_; intro gb206 hg w4 hbox hb; have BK206 := Aside0.mk (hbox); have GE206 := Xge hg Xi; have GW206 := GE206; replace HB := Aside0.mk (below_step Xi hb); clear hb hbox hg))
 repeat (go_quiet (first | ((with_reducible refine gate_dst (N := 2) rfl ?_); (try (refine gate_guard (by rfl) ?_; dsimp only)); refine Xbox 2 #[.slice A0_0 l0_0.length c0_0, .int .i64 a0_1] 135 ?_; intro gb206 hg w4 hbox hb; have BK206 := Aside0.mk (hbox); have GE206 := Xge hg Xi; have GW206 := GE206; replace HB := Aside0.mk (below_step Xi hb); clear hb hbox hg)); go_upto_region 1 with (first | ((with_reducible refine gate_dst (N := 2) rfl ?_); (try (refine gate_guard (by rfl) ?_; dsimp only)); refine Xbox 2 #[.slice A0_0 l0_0.length c0_0, .int .i64 a0_1] 135 ?_; intro gb206 hg w4 hbox hb; have BK206 := Aside0.mk (hbox); have GE206 := Xge hg Xi; have GW206 := GE206; replace HB := Aside0.mk (below_step Xi hb); clear hb hbox hg)))
 (try simp only [XW.q0, XW.q1, XW.q2])
 go_cut [22] (fun v22 wc => ∃ (kq : Nat) (x22_2 : Bool), v22 = .bool x22_2 ∧ Aside0 (spec_l03Term.j0 kq a1 x22_2 l0_0 a0_1 = some r) ∧ Aside0 (kq ≤ k) ∧ Aside0 (wc.heap[gb206]? = some (.cells #[(.slice A0_0 l0_0.length c0_0), .int .i64 a0_1] 135 (0, 0))) ∧ Aside0 (Below w.heap.size w wc))
 case first =>
  have H := HC3.out
  clear HC3
  obtain ⟨c5, H⟩ | ⟨c5, H⟩ := Xiu H
  ·have c5b0 : ((l0_0.length : Int) == 0) = true := beq_iff_eq.mpr c5
   have c5b1 : ((l0_0.length : Int) != 0) = false := bne_eq_false_iff_eq.mpr c5
   clear c5
   (first | rw [c5b0] | (simp only [i64_w, i32_w]; rw [c5b0]) | skip)
   have H' := Aside0.mk H
   clear H
   obtain ⟨hcz6_0, hcz6_1⟩ := Xc2 BK206
   go_wp2
   repeat (go_quiet (fail); try go_wp2)
   go_meet
   case rel => exact ⟨_, (true), Xr, H', Xko, BK206, ⟨Xi⟩⟩
  ·have c5b0 : ((l0_0.length : Int) == 0) = false := beq_eq_false_iff_ne.mpr c5
   have c5b1 : ((l0_0.length : Int) != 0) = true := bne_iff_ne.mpr c5
   have c5b2 : ¬ (l0_0 = []) := fun h_ => c5 (by rw [h_]; rfl)
   (first | rw [c5b0] | (simp only [i64_w, i32_w]; rw [c5b0]) | skip)
   obtain ⟨c7, H⟩ | ⟨c7, H⟩ := Xiu H
   ·have c7b0 : decide (a1 < (l0_0.length : Int)) = true := decide_eq_true c7
    clear c7
    have H' := Aside0.mk H
    clear H
    obtain ⟨hcz8_0, hcz8_1⟩ := Xc2 BK206
    go_wp2
    repeat (go_quiet (fail); try go_wp2)
    go_meet
    case rel => exact ⟨_, (true), Xr, H', Xko, BK206, ⟨Xi⟩⟩
   ·have c7b0 : decide (a1 < (l0_0.length : Int)) = false := decide_eq_false c7
    clear c7
    obtain ⟨t207, A9, H⟩ := Xbi H
    (try dsimp only at H)
    have H' := Aside0.mk H
    clear H
    obtain ⟨hcz10_0, hcz10_1⟩ := Xc2 BK206
    go_wp2_with (first | (go_at_call 152; (with_reducible refine (spec_l03Many.calls a0_1 t207 _ A9.out).mono ?_); rintro e w' ⟨rfl, ⟨nd, rfl⟩⟩; (try exact Xdd)))
    repeat (go_quiet (first | (go_at_call 152; (with_reducible refine (spec_l03Many.calls a0_1 t207 _ A9.out).mono ?_); rintro e w' ⟨rfl, ⟨nd, rfl⟩⟩; (try exact Xdd))); try go_wp2_with (first | (go_at_call 152; (with_reducible refine (spec_l03Many.calls a0_1 t207 _ A9.out).mono ?_); rintro e w' ⟨rfl, ⟨nd, rfl⟩⟩; (try exact Xdd))))
    go_meet
    case rel => exact ⟨_, (!t207), Xr, H', Xko, BK206, ⟨Xi⟩⟩
 case rest =>
  clear HC3
  obtain ⟨kq, x22_2, rfl, HA, HJ2, BK206, HB⟩ := hcut
  cases kq with
  | zero => cases HA.out
  | succ kj2 =>
   have H := HA.out
   clear HA
   simp only [spec_l03Term.j0] at H
   by_cases c11 : x22_2 = true
   ·subst c11
    (first | rw [if_pos rfl] at H | skip)
    obtain rfl := Option.some.inj H
    go_wp2
    repeat (go_quiet (fail); try go_wp2)
    go_ret
    exact ⟨Xe, Xi⟩
   ·replace c11 := Bool.eq_false_iff.mpr c11
    subst c11
    (first | rw [if_neg (show ¬ (false = true) by decide)] at H | skip)
    have H' := Aside0.mk H
    clear H
    go_wp2
    repeat (go_quiet (fail); try go_wp2)
    go_loopg [5] kj2 (fun kq v5 w' => ∃ (x5_2 : Int), v5 = .int .i64 x5_2 ∧ Aside0 (spec_l03Term.l0 kq a1 x5_2 l0_0 a0_1 = some r) ∧ Aside0 (kq ≤ kj2) ∧ Aside0 (w'.heap[gb206]? = some (.cells #[(.slice A0_0 l0_0.length c0_0), .int .i64 a0_1] 135 (0, 0))) ∧ Aside0 (Below w.heap.size w w'))
    case atStart => exact ⟨(0), Xr, H', Xkr, BK206, ⟨Xi⟩⟩
    case round =>
     clear H'
     (try clear c11)
     obtain ⟨x5_2, rfl, HA, HK2, BK206, HB⟩ := hrel
     cases gk with
     | zero => cases HA.out
     | succ k2 =>
      have H := HA.out
      clear HA
      simp only [spec_l03Term.l0] at H
      obtain ⟨c12b0, H⟩ | ⟨c12b0, H⟩ := Xit H
      ·obtain ⟨c13b0, H⟩ := Xid H
       obtain ⟨t209, A14, H⟩ := Xbi H
       (try dsimp only at H)
       by_cases c15 : t209 = true
       ·subst c15
        (first | rw [if_pos rfl] at H | skip)
        obtain ⟨c16, H⟩ | ⟨c16, H⟩ := Xiu H
        ·have c16b0 : decide (0 < x5_2) = true := decide_eq_true c16
         clear c16
         obtain ⟨ji17, hji17⟩ : ∃ j_ : Int, (wrap64 (x5_2 - 1)) = j_ := ⟨_, rfl⟩
         replace H : (if 0 ≤ (ji17) then (if (ji17) < (l0_0.length : Int) then (if (rd l0_0 x5_2) ≤ (rd l0_0 (ji17)) then (some false) else (spec_l03Term.l0 k2 a1 (wrap64 (x5_2 + 1)) l0_0 a0_1)) else (none)) else (none)) = some r := by first | (rw [hji17] at H; exact H) | (simp only [hji17] at H ⊢; exact H)
         (try rw [hji17] at A14)
         have hji17w : (IntKind.i64.wrap (x5_2 - 1)) = ji17 := (i64_w _).trans hji17
         obtain ⟨c18b0, H⟩ := Xid H
         obtain ⟨c19b0, H⟩ := Xid H
         have HC20 := Aside0.mk H
         clear H
         obtain ⟨hcz21_0, hcz21_1⟩ := Xc2 BK206
         have p208 : 0 ≤ (x5_2 : Int) := of_decide_eq_true Xa
         have q208 : x5_2 < (l0_0.length : Int) := of_decide_eq_true Xa
         obtain ⟨ad208, e208, hx208_0⟩ := Kd.at_int HR0_0.out x5_2 p208 q208
         cases e208
         replace hx208_0 := Xm HB hx208_0
         replace p208 := eq_true p208
         replace q208 := eq_true q208
         go_upto_if 55 with (first | (go_at_call 84; (with_reducible refine (spec_l01In.calls (rd l0_0 x5_2) 1 a1 true _ A14.out).mono ?_); rintro e w' ⟨rfl, ⟨nd, rfl⟩⟩; (try exact Xdd); have p210 : 0 ≤ (x5_2 : Int) := of_decide_eq_true Xa; have q210 : x5_2 < (l0_0.length : Int) := of_decide_eq_true Xa; obtain ⟨ad210, e210, hx210_0⟩ := Kd.at_int HR0_0.out x5_2 p210 q210; obtain rfl : ad208 = ad210 := (by injection e210); replace hx210_0 := Xm HB hx210_0; replace p210 := eq_true p210; replace q210 := eq_true q210; have p211 : 0 ≤ ((ji17) : Int) := of_decide_eq_true Xa; have q211 : (ji17) < (l0_0.length : Int) := of_decide_eq_true Xa; obtain ⟨ad211, e211, hx211_0⟩ := Kd.at_int HR0_0.out (ji17) p211 q211; obtain rfl : ad208 = ad211 := (by injection e211); replace hx211_0 := Xm HB hx211_0; replace p211 := eq_true p211; replace q211 := eq_true q211))
         repeat (go_quiet (first | (go_at_call 84; (with_reducible refine (spec_l01In.calls (rd l0_0 x5_2) 1 a1 true _ A14.out).mono ?_); rintro e w' ⟨rfl, ⟨nd, rfl⟩⟩; (try exact Xdd); have p210 : 0 ≤ (x5_2 : Int) := of_decide_eq_true Xa; have q210 : x5_2 < (l0_0.length : Int) := of_decide_eq_true Xa; obtain ⟨ad210, e210, hx210_0⟩ := Kd.at_int HR0_0.out x5_2 p210 q210; obtain rfl : ad208 = ad210 := (by injection e210); replace hx210_0 := Xm HB hx210_0; replace p210 := eq_true p210; replace q210 := eq_true q210; have p211 : 0 ≤ ((ji17) : Int) := of_decide_eq_true Xa; have q211 : (ji17) < (l0_0.length : Int) := of_decide_eq_true Xa; obtain ⟨ad211, e211, hx211_0⟩ := Kd.at_int HR0_0.out (ji17) p211 q211; obtain rfl : ad208 = ad211 := (by injection e211); replace hx211_0 := Xm HB hx211_0; replace p211 := eq_true p211; replace q211 := eq_true q211)); go_upto_if 55 with (first | (go_at_call 84; (with_reducible refine (spec_l01In.calls (rd l0_0 x5_2) 1 a1 true _ A14.out).mono ?_); rintro e w' ⟨rfl, ⟨nd, rfl⟩⟩; (try exact Xdd); have p210 : 0 ≤ (x5_2 : Int) := of_decide_eq_true Xa; have q210 : x5_2 < (l0_0.length : Int) := of_decide_eq_true Xa; obtain ⟨ad210, e210, hx210_0⟩ := Kd.at_int HR0_0.out x5_2 p210 q210; obtain rfl : ad208 = ad210 := (by injection e210); replace hx210_0 := Xm HB hx210_0; replace p210 := eq_true p210; replace q210 := eq_true q210; have p211 : 0 ≤ ((ji17) : Int) := of_decide_eq_true Xa; have q211 : (ji17) < (l0_0.length : Int) := of_decide_eq_true Xa; obtain ⟨ad211, e211, hx211_0⟩ := Kd.at_int HR0_0.out (ji17) p211 q211; obtain rfl : ad208 = ad211 := (by injection e211); replace hx211_0 := Xm HB hx211_0; replace p211 := eq_true p211; replace q211 := eq_true q211)))
         have H := HC20.out
         clear HC20
         obtain ⟨c22b0, H⟩ | ⟨c22b0, H⟩ := Xit H
         ·(first | rw [c22b0] | (simp only [i64_w, i32_w]; rw [c22b0]) | skip)
          obtain rfl := Option.some.inj H
          go_wp2
          repeat (go_quiet (fail); try go_wp2)
          go_ret
          exact ⟨by first | rfl | (simp [errW_none, errW_some] <;> rfl) | (simp only [← hji17]; first | rfl | (simp [errW_none, errW_some] <;> rfl)) | (simp [*, errW_none, errW_some] <;> rfl), Xi⟩
         ·(first | rw [c22b0] | (simp only [i64_w, i32_w]; rw [c22b0]) | skip)
          have H' := Aside0.mk H
          clear H
          go_wp2
          repeat (go_quiet (fail); try go_wp2)
          go_roundg k2
          case measure => have := HJ2.out; have := HK2.out; omega
          case rel => exact ⟨(wrap64 (x5_2 + 1)), Xr, H', ⟨by have := HJ2.out; have := HK2.out; omega⟩, BK206, ⟨Xi⟩⟩
        ·have c16b0 : decide (0 < x5_2) = false := decide_eq_false c16
         clear c16
         have H' := Aside0.mk H
         clear H
         obtain ⟨hcz23_0, hcz23_1⟩ := Xc2 BK206
         have p208 : 0 ≤ (x5_2 : Int) := of_decide_eq_true Xa
         have q208 : x5_2 < (l0_0.length : Int) := of_decide_eq_true Xa
         obtain ⟨ad208, e208, hx208_0⟩ := Kd.at_int HR0_0.out x5_2 p208 q208
         cases e208
         replace hx208_0 := Xm HB hx208_0
         replace p208 := eq_true p208
         replace q208 := eq_true q208
         go_wp2_with (first | (go_at_call 84; (with_reducible refine (spec_l01In.calls (rd l0_0 x5_2) 1 a1 true _ A14.out).mono ?_); rintro e w' ⟨rfl, ⟨nd, rfl⟩⟩; (try exact Xdd)))
         repeat (go_quiet (first | (go_at_call 84; (with_reducible refine (spec_l01In.calls (rd l0_0 x5_2) 1 a1 true _ A14.out).mono ?_); rintro e w' ⟨rfl, ⟨nd, rfl⟩⟩; (try exact Xdd))); try go_wp2_with (first | (go_at_call 84; (with_reducible refine (spec_l01In.calls (rd l0_0 x5_2) 1 a1 true _ A14.out).mono ?_); rintro e w' ⟨rfl, ⟨nd, rfl⟩⟩; (try exact Xdd))))
         go_roundg k2
         case measure => have := HJ2.out; have := HK2.out; omega
         case rel => exact ⟨(wrap64 (x5_2 + 1)), Xr, H', ⟨by have := HJ2.out; have := HK2.out; omega⟩, BK206, ⟨Xi⟩⟩
       ·replace c15 := Bool.eq_false_iff.mpr c15
        subst c15
        (first | rw [if_neg (show ¬ (false = true) by decide)] at H | skip)
        obtain rfl := Option.some.inj H
        obtain ⟨hcz24_0, hcz24_1⟩ := Xc2 BK206
        have p208 : 0 ≤ (x5_2 : Int) := of_decide_eq_true Xa
        have q208 : x5_2 < (l0_0.length : Int) := of_decide_eq_true Xa
        obtain ⟨ad208, e208, hx208_0⟩ := Kd.at_int HR0_0.out x5_2 p208 q208
        cases e208
        replace hx208_0 := Xm HB hx208_0
        replace p208 := eq_true p208
        replace q208 := eq_true q208
        go_wp2_with (first | (go_at_call 84; (with_reducible refine (spec_l01In.calls (rd l0_0 x5_2) 1 a1 false _ A14.out).mono ?_); rintro e w' ⟨rfl, ⟨nd, rfl⟩⟩; (try exact Xdd)))
        repeat (go_quiet (first | (go_at_call 84; (with_reducible refine (spec_l01In.calls (rd l0_0 x5_2) 1 a1 false _ A14.out).mono ?_); rintro e w' ⟨rfl, ⟨nd, rfl⟩⟩; (try exact Xdd))); try go_wp2_with (first | (go_at_call 84; (with_reducible refine (spec_l01In.calls (rd l0_0 x5_2) 1 a1 false _ A14.out).mono ?_); rintro e w' ⟨rfl, ⟨nd, rfl⟩⟩; (try exact Xdd))))
        go_ret
        exact ⟨Xe, Xi⟩
      ·obtain rfl := Option.some.inj H
       obtain ⟨hcz25_0, hcz25_1⟩ := Xc2 BK206
       go_wp2
       repeat (go_quiet (fail); try go_wp2)
       go_ret
       exact ⟨Xe, Xi⟩

/-! ### spec_l03Rule: function 113 -/
mutual
def spec_l03Rule.j0 : Nat → Int → Bool → ByteArray → Bool → List (S135) → Option (Bool)
 | 0, _, _, _, _, _ => none
 | k + 1, x1, x30, x213000, x213001, x213002 => if x30 = true then (some false) else (spec_l03Rule.l0 k x1 0 x213000 x213001 x213002)
def spec_l03Rule.l0 : Nat → Int → Int → ByteArray → Bool → List (S135) → Option (Bool)
 | 0, _, _, _, _, _ => none
 | k + 1, x1, x5, x213000, x213001, x213002 => if x5 < (x213002.length : Int) then (if 0 ≤ x5 then ((spec_l03Term.f k ((rd_T135 x213002 x5).f0) ((rd_T135 x213002 x5).f1) x1).bind fun t215 => (if t215 = true then (spec_l03Rule.l0 k x1 (wrap64 (x5 + 1)) x213000 x213001 x213002) else (some false))) else (none)) else (some true)
end
def spec_l03Rule.f (k : Nat) (a0_0 : ByteArray) (a0_1 : Bool) (l0_2 : List (S135)) (a1 : Int) : Option (Bool) := (spec_l00Word.f k a0_0).bind fun t213 => (if t213 = true then (if a0_0.toList = ([116, 101, 120, 116] : List UInt8) then (spec_l03Rule.j0 k a1 true a0_0 a0_1 l0_2) else (if (l0_2.length : Int) > 4 then (spec_l03Rule.j0 k a1 true a0_0 a0_1 l0_2) else (if a0_1 = true then (spec_l03Rule.j0 k a1 (decide ((l0_2.length : Int) > 0)) a0_0 a0_1 l0_2) else (spec_l03Rule.j0 k a1 false a0_0 a0_1 l0_2)))) else (spec_l03Rule.j0 k a1 true a0_0 a0_1 l0_2))
set_option maxHeartbeats 8000000 in
set_option maxRecDepth 100000 in
theorem spec_l03Rule.calls (k : Nat) (a0_0 : ByteArray) (a0_1 : Bool) (A0_2 : Option Addr) (c0_2 : Nat) (l0_2 : List (S135)) (a1 : Int) (r : Bool) (w : World) (hr0_2 : Kd.C k135 w A0_2 l0_2.length l0_2) (hc0_2 : l0_2.length ≤ c0_2) (h : spec_l03Rule.f k a0_0 a0_1 l0_2 a1 = some r) :
  Calls Try.prog 113 #[.agg #[.string a0_0, .bool a0_1, .slice A0_2 l0_2.length c0_2], .int .i64 a1] w fun e w' => e = .returned (.bool r) ∧ Below w.heap.size w w' := by
 have hu95 := Try.underlying95
 have hu135 := Try.underlying135
 have HR0_2 := Aside0.mk hr0_2
 have HC0_2 := Aside0.mk hc0_2
 clear hr0_2 hc0_2
 have HB := Aside0.mk (Below.refl w.heap.size w)
 have H : ((spec_l00Word.f k a0_0).bind fun t213 => (if t213 = true then (if a0_0.toList = ([116, 101, 120, 116] : List UInt8) then (spec_l03Rule.j0 k a1 true a0_0 a0_1 l0_2) else (if (l0_2.length : Int) > 4 then (spec_l03Rule.j0 k a1 true a0_0 a0_1 l0_2) else (if a0_1 = true then (spec_l03Rule.j0 k a1 (decide ((l0_2.length : Int) > 0)) a0_0 a0_1 l0_2) else (spec_l03Rule.j0 k a1 false a0_0 a0_1 l0_2)))) else (spec_l03Rule.j0 k a1 true a0_0 a0_1 l0_2))) = some r := h
 clear h
 have HC3 := Aside0.mk H
 clear H
 go_enter Try.func113, Try.ntmps113
 go_upto_region 1 with (first | ((with_reducible refine gate_dst (N := 2) rfl ?_); (try (refine gate_guard (by rfl) ?_; dsimp only)); refine Xbox 2 #[.string a0_0, .bool a0_1, .slice A0_2 l0_2.length c0_2] 95 ?_; intro gb212 hg w4 hbox hb; have BK212 := Aside0.mk (hbox); have GE212 := Xge hg Xi; replace HB := Aside0.mk (below_step Xi hb); clear hb hbox hg))
 (try simp only [XW.q0, XW.q1, XW.q2])
 go_cut [30] (fun v30 wc => ∃ (kq : Nat) (x30_2 : Bool), v30 = .bool x30_2 ∧ Aside0 (spec_l03Rule.j0 kq a1 x30_2 a0_0 a0_1 l0_2 = some r) ∧ Aside0 (kq ≤ k) ∧ Aside0 (wc.heap[gb212]? = some (.cells #[.string a0_0, .bool a0_1, (.slice A0_2 l0_2.length c0_2)] 95 (0, 0))) ∧ Aside0 (Below w.heap.size w wc))
 case first =>
  have H := HC3.out
  clear HC3
  obtain ⟨t213, A5, H⟩ := Xbi H
  (try dsimp only at H)
  by_cases c6 : t213 = true
  ·subst c6
   (first | rw [if_pos rfl] at H | skip)
   obtain ⟨c7, H⟩ | ⟨c7, H⟩ := Xiu H
   ·have c7b0 : (a0_0.toList == ([116, 101, 120, 116] : List UInt8)) = true := beq_iff_eq.mpr c7
    have c7b1 : (a0_0.toList != ([116, 101, 120, 116] : List UInt8)) = false := bne_eq_false_iff_eq.mpr c7
    clear c7
    (first | rw [c7b0] | (simp only [i64_w, i32_w]; rw [c7b0]) | skip)
    have H' := Aside0.mk H
    clear H
    obtain ⟨hcz8_0, hcz8_1, hcz8_2⟩ := Xc3 BK212
    go_wp2_with (first | ((with_reducible refine gate_callee (f := 132) rfl ?_); refine Xgo 8 Try.func132 #[.string a0_0] ?_; (with_reducible refine (spec_l00Word.calls k a0_0 true _ A5.out).mono ?_); rintro e w' ⟨rfl, ⟨nd, rfl⟩⟩; refine ⟨_, rfl, ?_⟩))
    go_meet
    case rel => exact ⟨_, (true), Xr, H', Xko, BK212, ⟨Xi⟩⟩
   ·have c7b0 : (a0_0.toList == ([116, 101, 120, 116] : List UInt8)) = false := beq_eq_false_iff_ne.mpr c7
    have c7b1 : (a0_0.toList != ([116, 101, 120, 116] : List UInt8)) = true := bne_iff_ne.mpr c7
    (first | rw [c7b0] | (simp only [i64_w, i32_w]; rw [c7b0]) | skip)
    obtain ⟨c9, H⟩ | ⟨c9, H⟩ := Xiu H
    ·have c9b0 : decide (4 < (l0_2.length : Int)) = true := decide_eq_true c9
     have c9b1 : decide (4 < l0_2.length) = true := decide_eq_true (by omega)
     clear c9
     have H' := Aside0.mk H
     clear H
     obtain ⟨hcz10_0, hcz10_1, hcz10_2⟩ := Xc3 BK212
     go_wp2_with (first | ((with_reducible refine gate_callee (f := 132) rfl ?_); refine Xgo 8 Try.func132 #[.string a0_0] ?_; (with_reducible refine (spec_l00Word.calls k a0_0 true _ A5.out).mono ?_); rintro e w' ⟨rfl, ⟨nd, rfl⟩⟩; refine ⟨_, rfl, ?_⟩))
     go_meet
     case rel => exact ⟨_, (true), Xr, H', Xko, BK212, ⟨Xi⟩⟩
    ·have c9b0 : decide (4 < (l0_2.length : Int)) = false := decide_eq_false c9
     have c9b1 : decide (4 < l0_2.length) = false := decide_eq_false (by omega)
     clear c9
     by_cases c11 : a0_1 = true
     ·subst c11
      (first | rw [if_pos rfl] at H | skip)
      have H' := Aside0.mk H
      clear H
      obtain ⟨hcz12_0, hcz12_1, hcz12_2⟩ := Xc3 BK212
      go_wp2_with (first | ((with_reducible refine gate_callee (f := 132) rfl ?_); refine Xgo 8 Try.func132 #[.string a0_0] ?_; (with_reducible refine (spec_l00Word.calls k a0_0 true _ A5.out).mono ?_); rintro e w' ⟨rfl, ⟨nd, rfl⟩⟩; refine ⟨_, rfl, ?_⟩))
      go_meet
      case rel => exact ⟨_, (decide ((l0_2.length : Int) > 0)), Xr, H', Xko, BK212, ⟨Xi⟩⟩
     ·replace c11 := Bool.eq_false_iff.mpr c11
      subst c11
      (first | rw [if_neg (show ¬ (false = true) by decide)] at H | skip)
      have H' := Aside0.mk H
      clear H
      obtain ⟨hcz13_0, hcz13_1, hcz13_2⟩ := Xc3 BK212
      go_wp2_with (first | ((with_reducible refine gate_callee (f := 132) rfl ?_); refine Xgo 8 Try.func132 #[.string a0_0] ?_; (with_reducible refine (spec_l00Word.calls k a0_0 true _ A5.out).mono ?_); rintro e w' ⟨rfl, ⟨nd, rfl⟩⟩; refine ⟨_, rfl, ?_⟩))
      go_meet
      case rel => exact ⟨_, (false), Xr, H', Xko, BK212, ⟨Xi⟩⟩
  ·replace c6 := Bool.eq_false_iff.mpr c6
   subst c6
   (first | rw [if_neg (show ¬ (false = true) by decide)] at H | skip)
   have H' := Aside0.mk H
   clear H
   obtain ⟨hcz14_0, hcz14_1, hcz14_2⟩ := Xc3 BK212
   go_wp2_with (first | ((with_reducible refine gate_callee (f := 132) rfl ?_); refine Xgo 8 Try.func132 #[.string a0_0] ?_; (with_reducible refine (spec_l00Word.calls k a0_0 false _ A5.out).mono ?_); rintro e w' ⟨rfl, ⟨nd, rfl⟩⟩; refine ⟨_, rfl, ?_⟩))
   go_meet
   case rel => exact ⟨_, (true), Xr, H', Xko, BK212, ⟨Xi⟩⟩
 case rest =>
  clear HC3
  obtain ⟨kq, x30_2, rfl, HA, HJ2, BK212, HB⟩ := hcut
  cases kq with
  | zero => cases HA.out
  | succ kj2 =>
   have H := HA.out
   clear HA
   simp only [spec_l03Rule.j0] at H
   by_cases c15 : x30_2 = true
   ·subst c15
    (first | rw [if_pos rfl] at H | skip)
    obtain rfl := Option.some.inj H
    go_wp2
    go_ret
    exact ⟨Xe, Xi⟩
   ·replace c15 := Bool.eq_false_iff.mpr c15
    subst c15
    (first | rw [if_neg (show ¬ (false = true) by decide)] at H | skip)
    have H' := Aside0.mk H
    clear H
    go_wp2
    go_loopg [5] kj2 (fun kq v5 w' => ∃ (x5_2 : Int), v5 = .int .i64 x5_2 ∧ Aside0 (spec_l03Rule.l0 kq a1 x5_2 a0_0 a0_1 l0_2 = some r) ∧ Aside0 (kq ≤ kj2) ∧ Aside0 (w'.heap[gb212]? = some (.cells #[.string a0_0, .bool a0_1, (.slice A0_2 l0_2.length c0_2)] 95 (0, 0))) ∧ Aside0 (Below w.heap.size w w'))
    case atStart => exact ⟨(0), Xr, H', Xkr, BK212, ⟨Xi⟩⟩
    case round =>
     clear H'
     (try clear c15)
     obtain ⟨x5_2, rfl, HA, HK2, BK212, HB⟩ := hrel
     cases gk with
     | zero => cases HA.out
     | succ k2 =>
      have H := HA.out
      clear HA
      simp only [spec_l03Rule.l0] at H
      obtain ⟨c16b0, H⟩ | ⟨c16b0, H⟩ := Xit H
      ·obtain ⟨c17b0, H⟩ := Xid H
       obtain ⟨t215, A18, H⟩ := Xbi H
       (try dsimp only at H)
       have HC19 := Aside0.mk H
       clear H
       obtain ⟨hcz20_0, hcz20_1, hcz20_2⟩ := Xc3 BK212
       obtain ⟨ad214, A214_0, c214_0, e214, p214, q214, hx214_0, hx214_1, HC214_0, HR214_0⟩ := at_B135 HR0_2 x5_2 Xa Xa HB
       cases e214
       go_upto_if 45 with (first | ((with_reducible refine gate_callee (f := 133) rfl ?_); refine Xgo 44 Try.func133 #[.agg #[.slice A214_0 ((rd_T135 l0_2 x5_2).f0).length c214_0, .int .i64 ((rd_T135 l0_2 x5_2).f1)], .int .i64 a1] ?_; (with_reducible refine (spec_l03Term.calls k2 _ _ ((rd_T135 l0_2 x5_2).f0) ((rd_T135 l0_2 x5_2).f1) a1 t215 _ ?side1 ?side2 A18.out).mono ?_); (case side1 => exact Xc HR214_0); (case side2 => exact HC214_0.out); rintro e w21 ⟨rfl, hb⟩; refine ⟨_, rfl, ?_⟩; replace BK212 := Xbb BK212 hb; replace HB := Aside0.mk (below_step Xi hb); clear hb))
       have H := HC19.out
       clear HC19
       by_cases c22 : t215 = true
       ·subst c22
        (first | rw [if_pos rfl] at H | skip)
        have H' := Aside0.mk H
        clear H
        go_wp2
        go_roundg k2
        case measure => have := HJ2.out; have := HK2.out; omega
        case rel => exact ⟨(wrap64 (x5_2 + 1)), Xr, H', ⟨by have := HJ2.out; have := HK2.out; omega⟩, BK212, ⟨Xi⟩⟩
       ·replace c22 := Bool.eq_false_iff.mpr c22
        subst c22
        (first | rw [if_neg (show ¬ (false = true) by decide)] at H | skip)
        obtain rfl := Option.some.inj H
        go_wp2
        go_ret
        exact ⟨Xe, Xi⟩
      ·obtain rfl := Option.some.inj H
       obtain ⟨hcz23_0, hcz23_1, hcz23_2⟩ := Xc3 BK212
       go_wp2
       go_ret
       exact ⟨Xe, Xi⟩

end Go.Proofs.Ytpdhccdmbdbdpaa.XA
