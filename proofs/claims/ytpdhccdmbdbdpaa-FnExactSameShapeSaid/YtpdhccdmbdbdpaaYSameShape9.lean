/- Contracts of the program's functions: each Go function that is named below comes to what its Lean function says. Written by xprint.py (a program of this session's, over the kit's print). Conditions: each contract's own premises. -/
import Derived.Test.YtpdhccdmbdbdpaaYSameShape0
import Derived.Test.YtpdhccdmbdbdpaaYSameShapeFind
namespace Go.Proofs.Ytpdhccdmbdbdpaa.XA
open Go.RowKit Go.Proofs.YtpdhccdmbdbdpaaW.PrintWords Go.Proofs.YtpdhccdmbdbdpaaW.PrintLast Go.Proofs.YtpdhccdmbdbdpaaW.PrintMore XW
attribute [local go_sem] max2_int min2_int max_two min_two max_three min_three max_four min_four   -- for this text's walks alone
set_option linter.unusedVariables false
set_option linter.unusedSimpArgs false

/-! ### impl_Doc_hasShape: function 54 -/
mutual
def impl_Doc_hasShape.j0 : Nat → Int → Int → Bool → Int → Int → List (S43) → Int → Int → List (S43) → Option (Bool)
 | 0, _, _, _, _, _, _, _, _, _ => none
 | k + 1, x9, x10, x62, x1000, x1001, x1002, x3000, x3001, x3002 => if x62 = true then (some false) else (if 0 ≤ x9 then (if x9 < (x1002.length : Int) then (impl_Doc_hasShape.l0 k x10 ((rd_T43 x1002 x9).f4) (((rd_T43 x1002 x9).f4).length : Int) 0 x1000 x1001 x1002 x3000 x3001 x3002) else (none)) else (none))
def impl_Doc_hasShape.l0 : Nat → Int → List Int → Int → Int → Int → Int → List (S43) → Int → Int → List (S43) → Option (Bool)
 | 0, _, _, _, _, _, _, _, _, _, _ => none
 | k + 1, x10, x66, x67, x68, x1000, x1001, x1002, x3000, x3001, x3002 => if x68 < x67 then (if 0 ≤ x68 then (if x68 < (x66.length : Int) then (if 0 ≤ x10 then (if x10 < (x3002.length : Int) then (if x68 < (((rd_T43 x3002 x10).f4).length : Int) then ((impl_Doc_hasShape.f k x1000 x1001 x1002 (rd x66 x68) x3000 x3001 x3002 (rd ((rd_T43 x3002 x10).f4) x68)).bind fun t257 => (if t257 = true then (impl_Doc_hasShape.l0 k x10 x66 x67 (wrap64 (x68 + 1)) x1000 x1001 x1002 x3000 x3001 x3002) else (some false))) else (none)) else (none)) else (none)) else (none)) else (none)) else (some true)
def impl_Doc_hasShape.f : Nat → Int → Int → List (S43) → Int → Int → Int → List (S43) → Int → Option (Bool)
 | 0, _, _, _, _, _, _, _, _ => none
 | k + 1, a0_0, a0_1, l0_2, a1, a2_0, a2_1, l2_2, a3 => (impl_Doc_find.f k a0_0 a0_1 l0_2 a1).bind fun t241 => (if t241 < 0 then ((impl_Doc_find.f k a2_0 a2_1 l2_2 a3).bind fun t242 => (if t242 < 0 then (none) else (none))) else ((impl_Doc_find.f k a2_0 a2_1 l2_2 a3).bind fun t243 => (if t243 < 0 then (if 0 ≤ t241 then (if t241 < (l0_2.length : Int) then (none) else (none)) else (none)) else (if 0 ≤ t241 then (if t241 < (l0_2.length : Int) then (if 0 ≤ t243 then (if t243 < (l2_2.length : Int) then (if ((rd_T43 l0_2 t241).f1) = ((rd_T43 l2_2 t243).f1) then (if ((rd_T43 l0_2 t241).f2) = ((rd_T43 l2_2 t243).f2) then (if ((rd_T43 l0_2 t241).f3).toList = ((rd_T43 l2_2 t243).f3).toList then (impl_Doc_hasShape.j0 k t241 t243 ((((rd_T43 l0_2 t241).f4).length : Int) != (((rd_T43 l2_2 t243).f4).length : Int)) a0_0 a0_1 l0_2 a2_0 a2_1 l2_2) else (impl_Doc_hasShape.j0 k t241 t243 true a0_0 a0_1 l0_2 a2_0 a2_1 l2_2)) else (impl_Doc_hasShape.j0 k t241 t243 true a0_0 a0_1 l0_2 a2_0 a2_1 l2_2)) else (impl_Doc_hasShape.j0 k t241 t243 true a0_0 a0_1 l0_2 a2_0 a2_1 l2_2)) else (none)) else (none)) else (none)) else (none)))))
end
set_option maxHeartbeats 8000000 in
set_option maxRecDepth 100000 in
theorem impl_Doc_hasShape.calls (k : Nat) : ∀ (g0_ : Nat) (a0_0 : Int) (a0_1 : Int) (A0_2 : Option Addr) (c0_2 : Nat) (l0_2 : List (S43)) (a1 : Int) (g2_ : Nat) (a2_0 : Int) (a2_1 : Int) (A2_2 : Option Addr) (c2_2 : Nat) (l2_2 : List (S43)) (a3 : Int) (r : Bool) (w : World) (hg0_ : w.heap[g0_]? = some (.cells #[.int .i64 a0_0, .int .i64 a0_1, .slice A0_2 l0_2.length c0_2] 29 (0, 0))) (hr0_2 : Kd.C k43 w A0_2 l0_2.length l0_2) (hc0_2 : l0_2.length ≤ c0_2) (hg2_ : w.heap[g2_]? = some (.cells #[.int .i64 a2_0, .int .i64 a2_1, .slice A2_2 l2_2.length c2_2] 29 (0, 0))) (hr2_2 : Kd.C k43 w A2_2 l2_2.length l2_2) (hc2_2 : l2_2.length ≤ c2_2) (h : impl_Doc_hasShape.f k a0_0 a0_1 l0_2 a1 a2_0 a2_1 l2_2 a3 = some r),
  Calls Try.prog 54 #[.pointer (some ⟨g0_, 0, none⟩), .int .i64 a1, .pointer (some ⟨g2_, 0, none⟩), .int .i64 a3] w fun e w' => e = .returned (.bool r) ∧ Below w.heap.size w w' := by
 induction k using Nat.strongRecOn with
 | _ k ih =>
 intro g0_ a0_0 a0_1 A0_2 c0_2 l0_2 a1 g2_ a2_0 a2_1 A2_2 c2_2 l2_2 a3 r w hg0_ hr0_2 hc0_2 hg2_ hr2_2 hc2_2 h
 cases k with
 | zero => exact absurd h (by simp [impl_Doc_hasShape.f])
 | succ k =>
 simp only [impl_Doc_hasShape.f] at h
 have HR0_2 := Aside0.mk hr0_2
 have HC0_2 := Aside0.mk hc0_2
 clear hr0_2 hc0_2
 have HR2_2 := Aside0.mk hr2_2
 have HC2_2 := Aside0.mk hc2_2
 clear hr2_2 hc2_2
 have BK0 := Aside0.mk hg0_
 clear hg0_
 have BK2 := Aside0.mk hg2_
 clear hg2_
 have HB := Aside0.mk (Below.refl w.heap.size w)
 have H : ((impl_Doc_find.f k a0_0 a0_1 l0_2 a1).bind fun t241 => (if t241 < 0 then ((impl_Doc_find.f k a2_0 a2_1 l2_2 a3).bind fun t242 => (if t242 < 0 then (none) else (none))) else ((impl_Doc_find.f k a2_0 a2_1 l2_2 a3).bind fun t243 => (if t243 < 0 then (if 0 ≤ t241 then (if t241 < (l0_2.length : Int) then (none) else (none)) else (none)) else (if 0 ≤ t241 then (if t241 < (l0_2.length : Int) then (if 0 ≤ t243 then (if t243 < (l2_2.length : Int) then (if ((rd_T43 l0_2 t241).f1) = ((rd_T43 l2_2 t243).f1) then (if ((rd_T43 l0_2 t241).f2) = ((rd_T43 l2_2 t243).f2) then (if ((rd_T43 l0_2 t241).f3).toList = ((rd_T43 l2_2 t243).f3).toList then (impl_Doc_hasShape.j0 k t241 t243 ((((rd_T43 l0_2 t241).f4).length : Int) != (((rd_T43 l2_2 t243).f4).length : Int)) a0_0 a0_1 l0_2 a2_0 a2_1 l2_2) else (impl_Doc_hasShape.j0 k t241 t243 true a0_0 a0_1 l0_2 a2_0 a2_1 l2_2)) else (impl_Doc_hasShape.j0 k t241 t243 true a0_0 a0_1 l0_2 a2_0 a2_1 l2_2)) else (impl_Doc_hasShape.j0 k t241 t243 true a0_0 a0_1 l0_2 a2_0 a2_1 l2_2)) else (none)) else (none)) else (none)) else (none)))))) = some r := h
 clear h
 obtain ⟨t241, A5, H⟩ := Xbi H
 (try dsimp only at H)
 obtain ⟨c6b0, H⟩ | ⟨c6b0, H⟩ := Xit H
 ·obtain ⟨t242, A7, H⟩ := Xbi H
  (try dsimp only at H)
  obtain ⟨c8b0, H⟩ | ⟨c8b0, H⟩ := Xit H
  ·exact absurd H (by simp)
  ·exact absurd H (by simp)
 ·obtain ⟨t243, A9, H⟩ := Xbi H
  (try dsimp only at H)
  obtain ⟨c10b0, H⟩ | ⟨c10b0, H⟩ := Xit H
  ·obtain ⟨c11b0, H⟩ := Xid H
   obtain ⟨c12b0, H⟩ := Xid H
   exact absurd H (by simp)
  ·have HC13 := Aside0.mk H
   clear H
   go_enter Try.func54, Try.ntmps54
   go_upto_region 2 with (first | (go_at_call 70; (with_reducible refine (impl_Doc_find.calls k g0_ a0_0 a0_1 A0_2 c0_2 l0_2 a1 t241 _ ?side1 ?side2 ?side3 A5.out).mono ?_); (case side1 => exact BK0.out); (case side2 => repeat (first | exact HR0_2.out | (with_reducible first | refine Kd.C_alloc ?_ _ | refine Kd.C_drewN ?_ _ | refine Kd.C_drew ?_))); (case side3 => exact HC0_2.out); rintro e w14 ⟨pF, rfl, hpn, hps, hb⟩; obtain ⟨adf15, hae, rfl⟩ := hps (Int.not_lt.mp (of_decide_eq_false Xa)); clear hpn; cases hae; replace BK0 := Xbb BK0 hb; replace BK2 := Xbb BK2 hb; replace HB := Aside0.mk (below_step Xi hb); clear hb) | (go_at_call 70; (with_reducible refine (impl_Doc_find.calls k g2_ a2_0 a2_1 A2_2 c2_2 l2_2 a3 t243 _ ?side1 ?side2 ?side3 A9.out).mono ?_); (case side1 => exact BK2.out); (case side2 => exact Xc HR2_2); (case side3 => exact HC2_2.out); rintro e w16 ⟨pF, rfl, hpn, hps, hb⟩; obtain ⟨adf17, hae, rfl⟩ := hps (Int.not_lt.mp (of_decide_eq_false Xa)); clear hpn; cases hae; replace BK0 := Xbb BK0 hb; replace BK2 := Xbb BK2 hb; replace HB := Aside0.mk (below_step Xi hb); clear hb))
   repeat (go_quiet (first | (go_at_call 70; (with_reducible refine (impl_Doc_find.calls k g0_ a0_0 a0_1 A0_2 c0_2 l0_2 a1 t241 _ ?side1 ?side2 ?side3 A5.out).mono ?_); (case side1 => exact BK0.out); (case side2 => repeat (first | exact HR0_2.out | (with_reducible first | refine Kd.C_alloc ?_ _ | refine Kd.C_drewN ?_ _ | refine Kd.C_drew ?_))); (case side3 => exact HC0_2.out); rintro e w14 ⟨pF, rfl, hpn, hps, hb⟩; obtain ⟨adf15, hae, rfl⟩ := hps (Int.not_lt.mp (of_decide_eq_false Xa)); clear hpn; cases hae; replace BK0 := Xbb BK0 hb; replace BK2 := Xbb BK2 hb; replace HB := Aside0.mk (below_step Xi hb); clear hb) | (go_at_call 70; (with_reducible refine (impl_Doc_find.calls k g2_ a2_0 a2_1 A2_2 c2_2 l2_2 a3 t243 _ ?side1 ?side2 ?side3 A9.out).mono ?_); (case side1 => exact BK2.out); (case side2 => exact Xc HR2_2); (case side3 => exact HC2_2.out); rintro e w16 ⟨pF, rfl, hpn, hps, hb⟩; obtain ⟨adf17, hae, rfl⟩ := hps (Int.not_lt.mp (of_decide_eq_false Xa)); clear hpn; cases hae; replace BK0 := Xbb BK0 hb; replace BK2 := Xbb BK2 hb; replace HB := Aside0.mk (below_step Xi hb); clear hb)); go_upto_region 2 with (first | (go_at_call 70; (with_reducible refine (impl_Doc_find.calls k g0_ a0_0 a0_1 A0_2 c0_2 l0_2 a1 t241 _ ?side1 ?side2 ?side3 A5.out).mono ?_); (case side1 => exact BK0.out); (case side2 => repeat (first | exact HR0_2.out | (with_reducible first | refine Kd.C_alloc ?_ _ | refine Kd.C_drewN ?_ _ | refine Kd.C_drew ?_))); (case side3 => exact HC0_2.out); rintro e w14 ⟨pF, rfl, hpn, hps, hb⟩; obtain ⟨adf15, hae, rfl⟩ := hps (Int.not_lt.mp (of_decide_eq_false Xa)); clear hpn; cases hae; replace BK0 := Xbb BK0 hb; replace BK2 := Xbb BK2 hb; replace HB := Aside0.mk (below_step Xi hb); clear hb) | (go_at_call 70; (with_reducible refine (impl_Doc_find.calls k g2_ a2_0 a2_1 A2_2 c2_2 l2_2 a3 t243 _ ?side1 ?side2 ?side3 A9.out).mono ?_); (case side1 => exact BK2.out); (case side2 => exact Xc HR2_2); (case side3 => exact HC2_2.out); rintro e w16 ⟨pF, rfl, hpn, hps, hb⟩; obtain ⟨adf17, hae, rfl⟩ := hps (Int.not_lt.mp (of_decide_eq_false Xa)); clear hpn; cases hae; replace BK0 := Xbb BK0 hb; replace BK2 := Xbb BK2 hb; replace HB := Aside0.mk (below_step Xi hb); clear hb)))
   (try simp only [XW.q0, XW.q1, XW.q2])
   go_cut [62] (fun v62 wc => ∃ (kq : Nat) (x62_12 : Bool), v62 = .bool x62_12 ∧ Aside0 (impl_Doc_hasShape.j0 kq t241 t243 x62_12 a0_0 a0_1 l0_2 a2_0 a2_1 l2_2 = some r) ∧ Aside0 (kq ≤ k) ∧ Aside0 (wc.heap[g0_]? = some (.cells #[.int .i64 a0_0, .int .i64 a0_1, (.slice (some adf15) l0_2.length c0_2)] 29 (0, 0))) ∧ Aside0 (wc.heap[g2_]? = some (.cells #[.int .i64 a2_0, .int .i64 a2_1, (.slice (some adf17) l2_2.length c2_2)] 29 (0, 0))) ∧ Aside0 (Below w.heap.size w wc))
   case first =>
    have H := HC13.out
    clear HC13
    obtain ⟨c18b0, H⟩ := Xid H
    (first | rw [c18b0] | (simp only [i64_w, i32_w]; rw [c18b0]) | skip)
    obtain ⟨c19b0, H⟩ := Xid H
    obtain ⟨c20b0, H⟩ := Xid H
    obtain ⟨c21b0, H⟩ := Xid H
    obtain ⟨c22, H⟩ | ⟨c22, H⟩ := Xiu H
    ·have c22b0 : (((rd_T43 l0_2 t241).f1) == ((rd_T43 l2_2 t243).f1)) = true := beq_iff_eq.mpr c22
     have c22b1 : (((rd_T43 l0_2 t241).f1) != ((rd_T43 l2_2 t243).f1)) = false := bne_eq_false_iff_eq.mpr c22
     clear c22
     obtain ⟨c23, H⟩ | ⟨c23, H⟩ := Xiu H
     ·have c23b0 : (((rd_T43 l0_2 t241).f2) == ((rd_T43 l2_2 t243).f2)) = true := beq_iff_eq.mpr c23
      have c23b1 : (((rd_T43 l0_2 t241).f2) != ((rd_T43 l2_2 t243).f2)) = false := bne_eq_false_iff_eq.mpr c23
      clear c23
      obtain ⟨c24, H⟩ | ⟨c24, H⟩ := Xiu H
      ·have c24b0 : (((rd_T43 l0_2 t241).f3).toList == ((rd_T43 l2_2 t243).f3).toList) = true := beq_iff_eq.mpr c24
       have c24b1 : (((rd_T43 l0_2 t241).f3).toList != ((rd_T43 l2_2 t243).f3).toList) = false := bne_eq_false_iff_eq.mpr c24
       clear c24
       have H' := Aside0.mk H
       clear H
       obtain ⟨ad245, A245_4, c245_4, e245, p245, q245, hx245_0, hx245_1, hx245_2, hx245_3, hx245_4, HC245_4, HR245_4⟩ := at_B43 HR0_2 t241 Xa Xa HB
       obtain rfl : adf15 = ad245 := (by injection e245)
       obtain ⟨ad246, A246_4, c246_4, e246, p246, q246, hx246_0, hx246_1, hx246_2, hx246_3, hx246_4, HC246_4, HR246_4⟩ := at_B43 HR2_2 t243 Xa Xa HB
       obtain rfl : adf17 = ad246 := (by injection e246)
       obtain ⟨ad247, A247_4, c247_4, e247, p247, q247, hx247_0, hx247_1, hx247_2, hx247_3, hx247_4, HC247_4, HR247_4⟩ := at_B43 HR0_2 t241 Xa Xa HB
       obtain rfl : adf15 = ad247 := (by injection e247)
       have ea_ := Option.some.inj (hx245_4.symm.trans hx247_4)
       injection ea_ with ea_ en_ ec_
       subst ea_
       subst ec_
       clear en_
       obtain ⟨ad248, A248_4, c248_4, e248, p248, q248, hx248_0, hx248_1, hx248_2, hx248_3, hx248_4, HC248_4, HR248_4⟩ := at_B43 HR2_2 t243 Xa Xa HB
       obtain rfl : adf17 = ad248 := (by injection e248)
       have ea_ := Option.some.inj (hx246_4.symm.trans hx248_4)
       injection ea_ with ea_ en_ ec_
       subst ea_
       subst ec_
       clear en_
       obtain ⟨ad249, A249_4, c249_4, e249, p249, q249, hx249_0, hx249_1, hx249_2, hx249_3, hx249_4, HC249_4, HR249_4⟩ := at_B43 HR0_2 t241 Xa Xa HB
       obtain rfl : adf15 = ad249 := (by injection e249)
       have ea_ := Option.some.inj (hx245_4.symm.trans hx249_4)
       injection ea_ with ea_ en_ ec_
       subst ea_
       subst ec_
       clear en_
       obtain ⟨ad250, A250_4, c250_4, e250, p250, q250, hx250_0, hx250_1, hx250_2, hx250_3, hx250_4, HC250_4, HR250_4⟩ := at_B43 HR2_2 t243 Xa Xa HB
       obtain rfl : adf17 = ad250 := (by injection e250)
       have ea_ := Option.some.inj (hx246_4.symm.trans hx250_4)
       injection ea_ with ea_ en_ ec_
       subst ea_
       subst ec_
       clear en_
       obtain ⟨ad251, A251_4, c251_4, e251, p251, q251, hx251_0, hx251_1, hx251_2, hx251_3, hx251_4, HC251_4, HR251_4⟩ := at_B43 HR0_2 t241 Xa Xa HB
       obtain rfl : adf15 = ad251 := (by injection e251)
       have ea_ := Option.some.inj (hx245_4.symm.trans hx251_4)
       injection ea_ with ea_ en_ ec_
       subst ea_
       subst ec_
       clear en_
       obtain ⟨ad252, A252_4, c252_4, e252, p252, q252, hx252_0, hx252_1, hx252_2, hx252_3, hx252_4, HC252_4, HR252_4⟩ := at_B43 HR2_2 t243 Xa Xa HB
       obtain rfl : adf17 = ad252 := (by injection e252)
       have ea_ := Option.some.inj (hx246_4.symm.trans hx252_4)
       injection ea_ with ea_ en_ ec_
       subst ea_
       subst ec_
       clear en_
       go_wp2
       repeat (go_quiet (fail); try go_wp2)
       go_meet
       case rel => exact ⟨_, (((((rd_T43 l0_2 t241).f4).length : Int) != (((rd_T43 l2_2 t243).f4).length : Int))), Xr, H', Xko, BK0, BK2, ⟨Xi⟩⟩
      ·have c24b0 : (((rd_T43 l0_2 t241).f3).toList == ((rd_T43 l2_2 t243).f3).toList) = false := beq_eq_false_iff_ne.mpr c24
       have c24b1 : (((rd_T43 l0_2 t241).f3).toList != ((rd_T43 l2_2 t243).f3).toList) = true := bne_iff_ne.mpr c24
       have H' := Aside0.mk H
       clear H
       obtain ⟨ad245, A245_4, c245_4, e245, p245, q245, hx245_0, hx245_1, hx245_2, hx245_3, hx245_4, HC245_4, HR245_4⟩ := at_B43 HR0_2 t241 Xa Xa HB
       obtain rfl : adf15 = ad245 := (by injection e245)
       obtain ⟨ad246, A246_4, c246_4, e246, p246, q246, hx246_0, hx246_1, hx246_2, hx246_3, hx246_4, HC246_4, HR246_4⟩ := at_B43 HR2_2 t243 Xa Xa HB
       obtain rfl : adf17 = ad246 := (by injection e246)
       obtain ⟨ad247, A247_4, c247_4, e247, p247, q247, hx247_0, hx247_1, hx247_2, hx247_3, hx247_4, HC247_4, HR247_4⟩ := at_B43 HR0_2 t241 Xa Xa HB
       obtain rfl : adf15 = ad247 := (by injection e247)
       have ea_ := Option.some.inj (hx245_4.symm.trans hx247_4)
       injection ea_ with ea_ en_ ec_
       subst ea_
       subst ec_
       clear en_
       obtain ⟨ad248, A248_4, c248_4, e248, p248, q248, hx248_0, hx248_1, hx248_2, hx248_3, hx248_4, HC248_4, HR248_4⟩ := at_B43 HR2_2 t243 Xa Xa HB
       obtain rfl : adf17 = ad248 := (by injection e248)
       have ea_ := Option.some.inj (hx246_4.symm.trans hx248_4)
       injection ea_ with ea_ en_ ec_
       subst ea_
       subst ec_
       clear en_
       obtain ⟨ad249, A249_4, c249_4, e249, p249, q249, hx249_0, hx249_1, hx249_2, hx249_3, hx249_4, HC249_4, HR249_4⟩ := at_B43 HR0_2 t241 Xa Xa HB
       obtain rfl : adf15 = ad249 := (by injection e249)
       have ea_ := Option.some.inj (hx245_4.symm.trans hx249_4)
       injection ea_ with ea_ en_ ec_
       subst ea_
       subst ec_
       clear en_
       obtain ⟨ad250, A250_4, c250_4, e250, p250, q250, hx250_0, hx250_1, hx250_2, hx250_3, hx250_4, HC250_4, HR250_4⟩ := at_B43 HR2_2 t243 Xa Xa HB
       obtain rfl : adf17 = ad250 := (by injection e250)
       have ea_ := Option.some.inj (hx246_4.symm.trans hx250_4)
       injection ea_ with ea_ en_ ec_
       subst ea_
       subst ec_
       clear en_
       go_wp2
       repeat (go_quiet (fail); try go_wp2)
       go_meet
       case rel => exact ⟨_, (true), Xr, H', Xko, BK0, BK2, ⟨Xi⟩⟩
     ·have c23b0 : (((rd_T43 l0_2 t241).f2) == ((rd_T43 l2_2 t243).f2)) = false := beq_eq_false_iff_ne.mpr c23
      have c23b1 : (((rd_T43 l0_2 t241).f2) != ((rd_T43 l2_2 t243).f2)) = true := bne_iff_ne.mpr c23
      have H' := Aside0.mk H
      clear H
      obtain ⟨ad245, A245_4, c245_4, e245, p245, q245, hx245_0, hx245_1, hx245_2, hx245_3, hx245_4, HC245_4, HR245_4⟩ := at_B43 HR0_2 t241 Xa Xa HB
      obtain rfl : adf15 = ad245 := (by injection e245)
      obtain ⟨ad246, A246_4, c246_4, e246, p246, q246, hx246_0, hx246_1, hx246_2, hx246_3, hx246_4, HC246_4, HR246_4⟩ := at_B43 HR2_2 t243 Xa Xa HB
      obtain rfl : adf17 = ad246 := (by injection e246)
      obtain ⟨ad247, A247_4, c247_4, e247, p247, q247, hx247_0, hx247_1, hx247_2, hx247_3, hx247_4, HC247_4, HR247_4⟩ := at_B43 HR0_2 t241 Xa Xa HB
      obtain rfl : adf15 = ad247 := (by injection e247)
      have ea_ := Option.some.inj (hx245_4.symm.trans hx247_4)
      injection ea_ with ea_ en_ ec_
      subst ea_
      subst ec_
      clear en_
      obtain ⟨ad248, A248_4, c248_4, e248, p248, q248, hx248_0, hx248_1, hx248_2, hx248_3, hx248_4, HC248_4, HR248_4⟩ := at_B43 HR2_2 t243 Xa Xa HB
      obtain rfl : adf17 = ad248 := (by injection e248)
      have ea_ := Option.some.inj (hx246_4.symm.trans hx248_4)
      injection ea_ with ea_ en_ ec_
      subst ea_
      subst ec_
      clear en_
      go_wp2
      repeat (go_quiet (fail); try go_wp2)
      go_meet
      case rel => exact ⟨_, (true), Xr, H', Xko, BK0, BK2, ⟨Xi⟩⟩
    ·have c22b0 : (((rd_T43 l0_2 t241).f1) == ((rd_T43 l2_2 t243).f1)) = false := beq_eq_false_iff_ne.mpr c22
     have c22b1 : (((rd_T43 l0_2 t241).f1) != ((rd_T43 l2_2 t243).f1)) = true := bne_iff_ne.mpr c22
     have H' := Aside0.mk H
     clear H
     obtain ⟨ad245, A245_4, c245_4, e245, p245, q245, hx245_0, hx245_1, hx245_2, hx245_3, hx245_4, HC245_4, HR245_4⟩ := at_B43 HR0_2 t241 Xa Xa HB
     obtain rfl : adf15 = ad245 := (by injection e245)
     obtain ⟨ad246, A246_4, c246_4, e246, p246, q246, hx246_0, hx246_1, hx246_2, hx246_3, hx246_4, HC246_4, HR246_4⟩ := at_B43 HR2_2 t243 Xa Xa HB
     obtain rfl : adf17 = ad246 := (by injection e246)
     go_wp2
     repeat (go_quiet (fail); try go_wp2)
     go_meet
     case rel => exact ⟨_, (true), Xr, H', Xko, BK0, BK2, ⟨Xi⟩⟩
   case rest =>
    clear HC13
    (try clear c6); (try clear c6b0); (try clear c10); (try clear c10b0)
    obtain ⟨kq, x62_12, rfl, HA, HJ12, BK0, BK2, HB⟩ := hcut
    cases kq with
    | zero => cases HA.out
    | succ kj12 =>
     have H := HA.out
     clear HA
     simp only [impl_Doc_hasShape.j0] at H
     by_cases c25 : x62_12 = true
     ·subst c25
      (first | rw [if_pos rfl] at H | skip)
      obtain rfl := Option.some.inj H
      go_wp2
      repeat (go_quiet (fail); try go_wp2)
      go_ret
      exact ⟨Xe, Xi⟩
     ·replace c25 := Bool.eq_false_iff.mpr c25
      subst c25
      (first | rw [if_neg (show ¬ (false = true) by decide)] at H | skip)
      obtain ⟨c26, H⟩ | ⟨c26, H⟩ := Xiu H
      ·have c26b0 : decide (0 ≤ t241) = true := decide_eq_true c26
       clear c26
       obtain ⟨c27b0, H⟩ := Xid H
       have H' := Aside0.mk H
       clear H
       obtain ⟨ad253, A253_4, c253_4, e253, p253, q253, hx253_0, hx253_1, hx253_2, hx253_3, hx253_4, HC253_4, HR253_4⟩ := at_B43 HR0_2 t241 Xa Xa HB
       obtain rfl : adf15 = ad253 := (by injection e253)
       go_wp2
       repeat (go_quiet (fail); try go_wp2)
       go_loopg [68] kj12 (fun kq v68 w' => ∃ (x68_2 : Int), v68 = .int .i64 x68_2 ∧ Aside0 (impl_Doc_hasShape.l0 kq t243 ((rd_T43 l0_2 t241).f4) (((rd_T43 l0_2 t241).f4).length : Int) x68_2 a0_0 a0_1 l0_2 a2_0 a2_1 l2_2 = some r) ∧ Aside0 (kq ≤ kj12) ∧ Aside0 (w'.heap[g0_]? = some (.cells #[.int .i64 a0_0, .int .i64 a0_1, (.slice (some adf15) l0_2.length c0_2)] 29 (0, 0))) ∧ Aside0 (w'.heap[g2_]? = some (.cells #[.int .i64 a2_0, .int .i64 a2_1, (.slice (some adf17) l2_2.length c2_2)] 29 (0, 0))) ∧ Aside0 (Below w.heap.size w w'))
       case atStart => exact ⟨(0), Xr, H', Xkr, BK0, BK2, ⟨Xi⟩⟩
       case round =>
        clear H'
        (try clear c6); (try clear c6b0); (try clear c10); (try clear c10b0); (try clear c25); (try clear c26); (try clear c26b0); (try clear c27); (try clear c27b0); (try clear hx253_0); (try clear hx253_1); (try clear hx253_2); (try clear hx253_3); (try clear hx253_4); (try clear p253); (try clear q253)
        obtain ⟨x68_2, rfl, HA, HK2, BK0, BK2, HB⟩ := hrel
        cases gk with
        | zero => cases HA.out
        | succ k2 =>
         have H := HA.out
         clear HA
         simp only [impl_Doc_hasShape.l0] at H
         obtain ⟨c28b0, H⟩ | ⟨c28b0, H⟩ := Xit H
         ·obtain ⟨c29b0, H⟩ := Xid H
          obtain ⟨c30b0, H⟩ := Xid H
          obtain ⟨c31b0, H⟩ := Xid H
          obtain ⟨c32b0, H⟩ := Xid H
          obtain ⟨c33b0, H⟩ := Xid H
          obtain ⟨t257, A34, H⟩ := Xbi H
          (try dsimp only at H)
          have HC35 := Aside0.mk H
          clear H
          have p254 : 0 ≤ (x68_2 : Int) := of_decide_eq_true Xa
          have q254 : x68_2 < (((rd_T43 l0_2 t241).f4).length : Int) := of_decide_eq_true Xa
          obtain ⟨ad254, e254, hx254_0⟩ := Kd.at_int HR253_4.out x68_2 p254 q254
          cases e254
          replace hx254_0 := Xm HB hx254_0
          replace p254 := eq_true p254
          replace q254 := eq_true q254
          obtain ⟨ad255, A255_4, c255_4, e255, p255, q255, hx255_0, hx255_1, hx255_2, hx255_3, hx255_4, HC255_4, HR255_4⟩ := at_B43 HR2_2 t243 Xa Xa HB
          obtain rfl : adf17 = ad255 := (by injection e255)
          have p256 : 0 ≤ (x68_2 : Int) := of_decide_eq_true Xa
          have q256 : x68_2 < (((rd_T43 l2_2 t243).f4).length : Int) := of_decide_eq_true Xa
          obtain ⟨ad256, e256, hx256_0⟩ := Kd.at_int HR255_4.out x68_2 p256 q256
          cases e256
          replace hx256_0 := Xm HB hx256_0
          replace p256 := eq_true p256
          replace q256 := eq_true q256
          go_upto_if 84 with (first | (go_at_call 54; (with_reducible refine (ih k2 (by have := HJ12.out; have := HK2.out; omega) g0_ a0_0 a0_1 (some adf15) c0_2 l0_2 (rd ((rd_T43 l0_2 t241).f4) x68_2) g2_ a2_0 a2_1 (some adf17) c2_2 l2_2 (rd ((rd_T43 l2_2 t243).f4) x68_2) t257 _ ?side1 ?side2 ?side3 ?side4 ?side5 ?side6 A34.out).mono ?_); (case side1 => exact BK0.out); (case side2 => exact Xc HR0_2); (case side3 => exact HC0_2.out); (case side4 => exact BK2.out); (case side5 => exact Xc HR2_2); (case side6 => exact HC2_2.out); rintro e w36 ⟨rfl, hb⟩; replace BK0 := Xbb BK0 hb; replace BK2 := Xbb BK2 hb; replace HB := Aside0.mk (below_step Xi hb); clear hb))
          repeat (go_quiet (first | (go_at_call 54; (with_reducible refine (ih k2 (by have := HJ12.out; have := HK2.out; omega) g0_ a0_0 a0_1 (some adf15) c0_2 l0_2 (rd ((rd_T43 l0_2 t241).f4) x68_2) g2_ a2_0 a2_1 (some adf17) c2_2 l2_2 (rd ((rd_T43 l2_2 t243).f4) x68_2) t257 _ ?side1 ?side2 ?side3 ?side4 ?side5 ?side6 A34.out).mono ?_); (case side1 => exact BK0.out); (case side2 => exact Xc HR0_2); (case side3 => exact HC0_2.out); (case side4 => exact BK2.out); (case side5 => exact Xc HR2_2); (case side6 => exact HC2_2.out); rintro e w36 ⟨rfl, hb⟩; replace BK0 := Xbb BK0 hb; replace BK2 := Xbb BK2 hb; replace HB := Aside0.mk (below_step Xi hb); clear hb)); go_upto_if 84 with (first | (go_at_call 54; (with_reducible refine (ih k2 (by have := HJ12.out; have := HK2.out; omega) g0_ a0_0 a0_1 (some adf15) c0_2 l0_2 (rd ((rd_T43 l0_2 t241).f4) x68_2) g2_ a2_0 a2_1 (some adf17) c2_2 l2_2 (rd ((rd_T43 l2_2 t243).f4) x68_2) t257 _ ?side1 ?side2 ?side3 ?side4 ?side5 ?side6 A34.out).mono ?_); (case side1 => exact BK0.out); (case side2 => exact Xc HR0_2); (case side3 => exact HC0_2.out); (case side4 => exact BK2.out); (case side5 => exact Xc HR2_2); (case side6 => exact HC2_2.out); rintro e w36 ⟨rfl, hb⟩; replace BK0 := Xbb BK0 hb; replace BK2 := Xbb BK2 hb; replace HB := Aside0.mk (below_step Xi hb); clear hb)))
          have H := HC35.out
          clear HC35
          by_cases c37 : t257 = true
          ·subst c37
           (first | rw [if_pos rfl] at H | skip)
           have H' := Aside0.mk H
           clear H
           go_wp2
           repeat (go_quiet (fail); try go_wp2)
           go_roundg k2
           case measure => have := HJ12.out; have := HK2.out; omega
           case rel => exact ⟨(wrap64 (x68_2 + 1)), Xr, H', ⟨by have := HJ12.out; have := HK2.out; omega⟩, BK0, BK2, ⟨Xi⟩⟩
          ·replace c37 := Bool.eq_false_iff.mpr c37
           subst c37
           (first | rw [if_neg (show ¬ (false = true) by decide)] at H | skip)
           obtain rfl := Option.some.inj H
           go_wp2
           repeat (go_quiet (fail); try go_wp2)
           go_ret
           exact ⟨Xe, Xi⟩
         ·obtain rfl := Option.some.inj H
          go_wp2
          repeat (go_quiet (fail); try go_wp2)
          go_ret
          exact ⟨Xe, Xi⟩
      ·exact absurd H (by simp)

end Go.Proofs.Ytpdhccdmbdbdpaa.XA
