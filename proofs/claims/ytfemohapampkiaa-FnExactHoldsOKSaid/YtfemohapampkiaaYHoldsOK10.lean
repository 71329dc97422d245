/- Contracts of the program's functions: each Go function that is named below comes to what its Lean function says. Written by xprint.py (a program of this session's, over the kit's print). Conditions: each contract's own premises. -/
import Derived.Test.YtfemohapampkiaaYHoldsOK0
import Derived.Test.YtfemohapampkiaaYHoldsOK8
import Derived.Test.YtfemohapampkiaaYHoldsOK9
import Derived.Test.YtfemohapampkiaaMap
namespace Go.Proofs.Ytfemohapampkiaa.XA
open Go.RowKit Go.Proofs.YtfemohapampkiaaW.PrintWords Go.Proofs.YtfemohapampkiaaW.PrintLast Go.Proofs.YtfemohapampkiaaW.PrintMore
attribute [local go_sem] max2_int min2_int max_two min_two max_three min_three max_four min_four   -- for this text's walks alone
set_option linter.unusedVariables false
set_option linter.unusedSimpArgs false

/-! ### impl_DocOK: function 16 -/
mutual
def impl_DocOK.j0 : Nat → Bool → Int → Int → List (S88) → Option (Bool)
 | 0, _, _, _, _ => none
 | k + 1, x20, x244000, x244001, x244002 => if x20 = true then (some false) else (impl_DocOK.l0 k x244002 (x244002.length : Int) 0 x244000 x244001 x244002)
def impl_DocOK.l0 : Nat → List (S88) → Int → Int → Int → Int → List (S88) → Option (Bool)
 | 0, _, _, _, _, _, _ => none
 | k + 1, x22, x23, x24, x244000, x244001, x244002 => if x24 < x23 then (if 0 ≤ x24 then (if x24 < (x22.length : Int) then ((impl_within.f ((rd_T88 x22 x24).f0) 1 (wrap64 (x244001 - 1))).bind fun t248 => (if t248 = true then (if x24 > 0 then (if 0 ≤ (wrap64 (x24 - 1)) then (if (wrap64 (x24 - 1)) < (x244002.length : Int) then (if ((rd_T88 x244002 (wrap64 (x24 - 1))).f0) ≥ ((rd_T88 x22 x24).f0) then (impl_DocOK.j2 k x22 x23 x24 true x244000 x244001 x244002) else ((impl_within.f ((rd_T88 x22 x24).f1) 1 8).bind fun t250 => (if t250 = true then ((impl_within.f ((rd_T88 x22 x24).f2) 0 99).bind fun t251 => (if t251 = true then (if (((rd_T88 x22 x24).f3).size : Int) > 20 then (impl_DocOK.j2 k x22 x23 x24 true x244000 x244001 x244002) else (impl_DocOK.j2 k x22 x23 x24 (decide ((((rd_T88 x22 x24).f4).length : Int) > 12)) x244000 x244001 x244002)) else (impl_DocOK.j2 k x22 x23 x24 true x244000 x244001 x244002))) else (impl_DocOK.j2 k x22 x23 x24 true x244000 x244001 x244002)))) else (none)) else (none)) else ((impl_within.f ((rd_T88 x22 x24).f1) 1 8).bind fun t252 => (if t252 = true then ((impl_within.f ((rd_T88 x22 x24).f2) 0 99).bind fun t253 => (if t253 = true then (if (((rd_T88 x22 x24).f3).size : Int) > 20 then (impl_DocOK.j2 k x22 x23 x24 true x244000 x244001 x244002) else (impl_DocOK.j2 k x22 x23 x24 (decide ((((rd_T88 x22 x24).f4).length : Int) > 12)) x244000 x244001 x244002)) else (impl_DocOK.j2 k x22 x23 x24 true x244000 x244001 x244002))) else (impl_DocOK.j2 k x22 x23 x24 true x244000 x244001 x244002)))) else (impl_DocOK.j2 k x22 x23 x24 true x244000 x244001 x244002))) else (none)) else (none)) else (impl_DocOK.l1 k x244002 (x244002.length : Int) 0 x244000 x244001 x244002 ([] : List (Int × Bool)))
def impl_DocOK.j2 : Nat → List (S88) → Int → Int → Bool → Int → Int → List (S88) → Option (Bool)
 | 0, _, _, _, _, _, _, _ => none
 | k + 1, x22, x23, x24, x75, x244000, x244001, x244002 => if x75 = true then (some false) else (impl_DocOK.l0 k x22 x23 (wrap64 (x24 + 1)) x244000 x244001 x244002)
def impl_DocOK.l1 : Nat → List (S88) → Int → Int → Int → Int → List (S88) → List (Int × Bool) → Option (Bool)
 | 0, _, _, _, _, _, _, _ => none
 | k + 1, x79, x80, x81, x244000, x244001, x244002, x255000 => if x81 < x80 then (if 0 ≤ x81 then (if x81 < (x79.length : Int) then (impl_DocOK.l2 k x79 x80 x81 ((rd_T88 x79 x81).f4) (((rd_T88 x79 x81).f4).length : Int) 0 x244000 x244001 x244002 x255000) else (none)) else (none)) else ((impl_Doc_has.f k x244000 x244001 x244002 x244000).bind fun t259 => (if t259 = true then (if (x255000.length : Int) = (wrap64 ((x244002.length : Int) - 1)) then ((impl_Doc_isDeep.f k x244000 x244001 x244002).bind fun t260 => (impl_DocOK.j6 k t260 x244000 x244001 x244002)) else (impl_DocOK.j6 k true x244000 x244001 x244002)) else (impl_DocOK.j6 k true x244000 x244001 x244002)))
def impl_DocOK.l2 : Nat → List (S88) → Int → Int → List Int → Int → Int → Int → Int → List (S88) → List (Int × Bool) → Option (Bool)
 | 0, _, _, _, _, _, _, _, _, _, _ => none
 | k + 1, x79, x80, x81, x86, x87, x88, x244000, x244001, x244002, x255000 => if x88 < x87 then (if 0 ≤ x88 then (if x88 < (x86.length : Int) then (if XM.get false x255000 (rd x86 x88) = true then (impl_DocOK.j5 k (rd x86 x88) x79 x80 x81 x86 x87 x88 true x244000 x244001 x244002 x255000) else (if (rd x86 x88) = x244000 then (impl_DocOK.j5 k (rd x86 x88) x79 x80 x81 x86 x87 x88 true x244000 x244001 x244002 x255000) else ((impl_Doc_has.f k x244000 x244001 x244002 (rd x86 x88)).bind fun t258 => (impl_DocOK.j5 k (rd x86 x88) x79 x80 x81 x86 x87 x88 (!t258) x244000 x244001 x244002 x255000)))) else (none)) else (none)) else (impl_DocOK.l1 k x79 x80 (wrap64 (x81 + 1)) x244000 x244001 x244002 x255000)
def impl_DocOK.j5 : Nat → Int → List (S88) → Int → Int → List Int → Int → Int → Bool → Int → Int → List (S88) → List (Int × Bool) → Option (Bool)
 | 0, _, _, _, _, _, _, _, _, _, _, _, _ => none
 | k + 1, x9, x79, x80, x81, x86, x87, x88, x105, x244000, x244001, x244002, x255000 => if x105 = true then (some false) else (impl_DocOK.l2 k x79 x80 x81 x86 x87 (wrap64 (x88 + 1)) x244000 x244001 x244002 (XM.put x255000 x9 true))
def impl_DocOK.j6 : Nat → Bool → Int → Int → List (S88) → Option (Bool)
 | 0, _, _, _, _ => none
 | k + 1, x125, x244000, x244001, x244002 => if x125 = true then (some false) else ((impl_Doc_order.f k x244000 x244001 x244002 ([] : List Int) x244000).bind fun t261 => (some ((t261.length : Int) == (x244002.length : Int))))
end
def impl_DocOK.f (k : Nat) (a0_0 : Int) (a0_1 : Int) (l0_2 : List (S88)) : Option (Bool) := (impl_within.f (l0_2.length : Int) 1 40).bind fun t244 => (if t244 = true then ((impl_within.f a0_1 2 999999).bind fun t245 => (impl_DocOK.j0 k (!t245) a0_0 a0_1 l0_2)) else (impl_DocOK.j0 k true a0_0 a0_1 l0_2))
theorem impl_DocOK.mono_l : ∀ k, (∀ y0 y1 y2 y3, LeO (impl_DocOK.j0 k y0 y1 y2 y3) (impl_DocOK.j0 (k + 1) y0 y1 y2 y3)) ∧ (∀ y0 y1 y2 y3 y4 y5, LeO (impl_DocOK.l0 k y0 y1 y2 y3 y4 y5) (impl_DocOK.l0 (k + 1) y0 y1 y2 y3 y4 y5)) ∧ (∀ y0 y1 y2 y3 y4 y5 y6, LeO (impl_DocOK.j2 k y0 y1 y2 y3 y4 y5 y6) (impl_DocOK.j2 (k + 1) y0 y1 y2 y3 y4 y5 y6)) ∧ (∀ y0 y1 y2 y3 y4 y5 y6, LeO (impl_DocOK.l1 k y0 y1 y2 y3 y4 y5 y6) (impl_DocOK.l1 (k + 1) y0 y1 y2 y3 y4 y5 y6)) ∧ (∀ y0 y1 y2 y3 y4 y5 y6 y7 y8 y9, LeO (impl_DocOK.l2 k y0 y1 y2 y3 y4 y5 y6 y7 y8 y9) (impl_DocOK.l2 (k + 1) y0 y1 y2 y3 y4 y5 y6 y7 y8 y9)) ∧ (∀ y0 y1 y2 y3 y4 y5 y6 y7 y8 y9 y10 y11, LeO (impl_DocOK.j5 k y0 y1 y2 y3 y4 y5 y6 y7 y8 y9 y10 y11) (impl_DocOK.j5 (k + 1) y0 y1 y2 y3 y4 y5 y6 y7 y8 y9 y10 y11)) ∧ (∀ y0 y1 y2 y3, LeO (impl_DocOK.j6 k y0 y1 y2 y3) (impl_DocOK.j6 (k + 1) y0 y1 y2 y3))
 | 0 => ⟨fun _ _ _ _ r h => by simp [impl_DocOK.j0] at h, fun _ _ _ _ _ _ r h => by simp [impl_DocOK.l0] at h, fun _ _ _ _ _ _ _ r h => by simp [impl_DocOK.j2] at h, fun _ _ _ _ _ _ _ r h => by simp [impl_DocOK.l1] at h, fun _ _ _ _ _ _ _ _ _ _ r h => by simp [impl_DocOK.l2] at h, fun _ _ _ _ _ _ _ _ _ _ _ _ r h => by simp [impl_DocOK.j5] at h, fun _ _ _ _ r h => by simp [impl_DocOK.j6] at h⟩
 | k + 1 => by
  obtain ⟨ih0, ih1, ih2, ih3, ih4, ih5, ih6⟩ := impl_DocOK.mono_l k
  refine ⟨?_, ?_, ?_, ?_, ?_, ?_, ?_⟩
  ·intro y0 y1 y2 y3
   unfold impl_DocOK.j0
   repeat' first
   | (with_reducible exact ih0 _ _ _ _)
   | (with_reducible exact ih1 _ _ _ _ _ _)
   | (with_reducible exact ih2 _ _ _ _ _ _ _)
   | (with_reducible exact ih3 _ _ _ _ _ _ _)
   | (with_reducible exact ih4 _ _ _ _ _ _ _ _ _ _)
   | (with_reducible exact ih5 _ _ _ _ _ _ _ _ _ _ _ _)
   | (with_reducible exact ih6 _ _ _ _)
   | (with_reducible exact impl_Doc_has.mono _ _ _ _ _)
   | (with_reducible exact impl_Doc_isDeep.mono _ _ _ _)
   | (with_reducible exact impl_Doc_order.mono _ _ _ _ _ _)
   | (with_reducible exact LeO.refl _)
   | (with_reducible exact LeO.none _)
   | (with_reducible refine LeO.ite ?_ ?_)
   | (with_reducible refine LeO.bind ?_ (fun _ => ?_))
   | exact ih0 _ _ _ _
   | exact ih1 _ _ _ _ _ _
   | exact ih2 _ _ _ _ _ _ _
   | exact ih3 _ _ _ _ _ _ _
   | exact ih4 _ _ _ _ _ _ _ _ _ _
   | exact ih5 _ _ _ _ _ _ _ _ _ _ _ _
   | exact ih6 _ _ _ _
   | exact impl_Doc_has.mono _ _ _ _ _
   | exact impl_Doc_isDeep.mono _ _ _ _
   | exact impl_Doc_order.mono _ _ _ _ _ _
   | exact LeO.none _
   | refine LeO.ite ?_ ?_
   | refine LeO.bind ?_ (fun _ => ?_)
  ·intro y0 y1 y2 y3 y4 y5
   unfold impl_DocOK.l0
   repeat' first
   | (with_reducible exact ih0 _ _ _ _)
   | (with_reducible exact ih1 _ _ _ _ _ _)
   | (with_reducible exact ih2 _ _ _ _ _ _ _)
   | (with_reducible exact ih3 _ _ _ _ _ _ _)
   | (with_reducible exact ih4 _ _ _ _ _ _ _ _ _ _)
   | (with_reducible exact ih5 _ _ _ _ _ _ _ _ _ _ _ _)
   | (with_reducible exact ih6 _ _ _ _)
   | (with_reducible exact impl_Doc_has.mono _ _ _ _ _)
   | (with_reducible exact impl_Doc_isDeep.mono _ _ _ _)
   | (with_reducible exact impl_Doc_order.mono _ _ _ _ _ _)
   | (with_reducible exact LeO.refl _)
   | (with_reducible exact LeO.none _)
   | (with_reducible refine LeO.ite ?_ ?_)
   | (with_reducible refine LeO.bind ?_ (fun _ => ?_))
   | exact ih0 _ _ _ _
   | exact ih1 _ _ _ _ _ _
   | exact ih2 _ _ _ _ _ _ _
   | exact ih3 _ _ _ _ _ _ _
   | exact ih4 _ _ _ _ _ _ _ _ _ _
   | exact ih5 _ _ _ _ _ _ _ _ _ _ _ _
   | exact ih6 _ _ _ _
   | exact impl_Doc_has.mono _ _ _ _ _
   | exact impl_Doc_isDeep.mono _ _ _ _
   | exact impl_Doc_order.mono _ _ _ _ _ _
   | exact LeO.none _
   | refine LeO.ite ?_ ?_
   | refine LeO.bind ?_ (fun _ => ?_)
  ·intro y0 y1 y2 y3 y4 y5 y6
   unfold impl_DocOK.j2
   repeat' first
   | (with_reducible exact ih0 _ _ _ _)
   | (with_reducible exact ih1 _ _ _ _ _ _)
   | (with_reducible exact ih2 _ _ _ _ _ _ _)
   | (with_reducible exact ih3 _ _ _ _ _ _ _)
   | (with_reducible exact ih4 _ _ _ _ _ _ _ _ _ _)
   | (with_reducible exact ih5 _ _ _ _ _ _ _ _ _ _ _ _)
   | (with_reducible exact ih6 _ _ _ _)
   | (with_reducible exact impl_Doc_has.mono _ _ _ _ _)
   | (with_reducible exact impl_Doc_isDeep.mono _ _ _ _)
   | (with_reducible exact impl_Doc_order.mono _ _ _ _ _ _)
   | (with_reducible exact LeO.refl _)
   | (with_reducible exact LeO.none _)
   | (with_reducible refine LeO.ite ?_ ?_)
   | (with_reducible refine LeO.bind ?_ (fun _ => ?_))
   | exact ih0 _ _ _ _
   | exact ih1 _ _ _ _ _ _
   | exact ih2 _ _ _ _ _ _ _
   | exact ih3 _ _ _ _ _ _ _
   | exact ih4 _ _ _ _ _ _ _ _ _ _
   | exact ih5 _ _ _ _ _ _ _ _ _ _ _ _
   | exact ih6 _ _ _ _
   | exact impl_Doc_has.mono _ _ _ _ _
   | exact impl_Doc_isDeep.mono _ _ _ _
   | exact impl_Doc_order.mono _ _ _ _ _ _
   | exact LeO.none _
   | refine LeO.ite ?_ ?_
   | refine LeO.bind ?_ (fun _ => ?_)
  ·intro y0 y1 y2 y3 y4 y5 y6
   unfold impl_DocOK.l1
   repeat' first
   | (with_reducible exact ih0 _ _ _ _)
   | (with_reducible exact ih1 _ _ _ _ _ _)
   | (with_reducible exact ih2 _ _ _ _ _ _ _)
   | (with_reducible exact ih3 _ _ _ _ _ _ _)
   | (with_reducible exact ih4 _ _ _ _ _ _ _ _ _ _)
   | (with_reducible exact ih5 _ _ _ _ _ _ _ _ _ _ _ _)
   | (with_reducible exact ih6 _ _ _ _)
   | (with_reducible exact impl_Doc_has.mono _ _ _ _ _)
   | (with_reducible exact impl_Doc_isDeep.mono _ _ _ _)
   | (with_reducible exact impl_Doc_order.mono _ _ _ _ _ _)
   | (with_reducible exact LeO.refl _)
   | (with_reducible exact LeO.none _)
   | (with_reducible refine LeO.ite ?_ ?_)
   | (with_reducible refine LeO.bind ?_ (fun _ => ?_))
   | exact ih0 _ _ _ _
   | exact ih1 _ _ _ _ _ _
   | exact ih2 _ _ _ _ _ _ _
   | exact ih3 _ _ _ _ _ _ _
   | exact ih4 _ _ _ _ _ _ _ _ _ _
   | exact ih5 _ _ _ _ _ _ _ _ _ _ _ _
   | exact ih6 _ _ _ _
   | exact impl_Doc_has.mono _ _ _ _ _
   | exact impl_Doc_isDeep.mono _ _ _ _
   | exact impl_Doc_order.mono _ _ _ _ _ _
   | exact LeO.none _
   | refine LeO.ite ?_ ?_
   | refine LeO.bind ?_ (fun _ => ?_)
  ·intro y0 y1 y2 y3 y4 y5 y6 y7 y8 y9
   unfold impl_DocOK.l2
   repeat' first
   | (with_reducible exact ih0 _ _ _ _)
   | (with_reducible exact ih1 _ _ _ _ _ _)
   | (with_reducible exact ih2 _ _ _ _ _ _ _)
   | (with_reducible exact ih3 _ _ _ _ _ _ _)
   | (with_reducible exact ih4 _ _ _ _ _ _ _ _ _ _)
   | (with_reducible exact ih5 _ _ _ _ _ _ _ _ _ _ _ _)
   | (with_reducible exact ih6 _ _ _ _)
   | (with_reducible exact impl_Doc_has.mono _ _ _ _ _)
   | (with_reducible exact impl_Doc_isDeep.mono _ _ _ _)
   | (with_reducible exact impl_Doc_order.mono _ _ _ _ _ _)
   | (with_reducible exact LeO.refl _)
   | (with_reducible exact LeO.none _)
   | (with_reducible refine LeO.ite ?_ ?_)
   | (with_reducible refine LeO.bind ?_ (fun _ => ?_))
   | exact ih0 _ _ _ _
   | exact ih1 _ _ _ _ _ _
   | exact ih2 _ _ _ _ _ _ _
   | exact ih3 _ _ _ _ _ _ _
   | exact ih4 _ _ _ _ _ _ _ _ _ _
   | exact ih5 _ _ _ _ _ _ _ _ _ _ _ _
   | exact ih6 _ _ _ _
   | exact impl_Doc_has.mono _ _ _ _ _
   | exact impl_Doc_isDeep.mono _ _ _ _
   | exact impl_Doc_order.mono _ _ _ _ _ _
   | exact LeO.none _
   | refine LeO.ite ?_ ?_
   | refine LeO.bind ?_ (fun _ => ?_)
  ·intro y0 y1 y2 y3 y4 y5 y6 y7 y8 y9 y10 y11
   unfold impl_DocOK.j5
   repeat' first
   | (with_reducible exact ih0 _ _ _ _)
   | (with_reducible exact ih1 _ _ _ _ _ _)
   | (with_reducible exact ih2 _ _ _ _ _ _ _)
   | (with_reducible exact ih3 _ _ _ _ _ _ _)
   | (with_reducible exact ih4 _ _ _ _ _ _ _ _ _ _)
   | (with_reducible exact ih5 _ _ _ _ _ _ _ _ _ _ _ _)
   | (with_reducible exact ih6 _ _ _ _)
   | (with_reducible exact impl_Doc_has.mono _ _ _ _ _)
   | (with_reducible exact impl_Doc_isDeep.mono _ _ _ _)
   | (with_reducible exact impl_Doc_order.mono _ _ _ _ _ _)
   | (with_reducible exact LeO.refl _)
   | (with_reducible exact LeO.none _)
   | (with_reducible refine LeO.ite ?_ ?_)
   | (with_reducible refine LeO.bind ?_ (fun _ => ?_))
   | exact ih0 _ _ _ _
   | exact ih1 _ _ _ _ _ _
   | exact ih2 _ _ _ _ _ _ _
   | exact ih3 _ _ _ _ _ _ _
   | exact ih4 _ _ _ _ _ _ _ _ _ _
   | exact ih5 _ _ _ _ _ _ _ _ _ _ _ _
   | exact ih6 _ _ _ _
   | exact impl_Doc_has.mono _ _ _ _ _
   | exact impl_Doc_isDeep.mono _ _ _ _
   | exact impl_Doc_order.mono _ _ _ _ _ _
   | exact LeO.none _
   | refine LeO.ite ?_ ?_
   | refine LeO.bind ?_ (fun _ => ?_)
  ·intro y0 y1 y2 y3
   unfold impl_DocOK.j6
   repeat' first
   | (with_reducible exact ih0 _ _ _ _)
   | (with_reducible exact ih1 _ _ _ _ _ _)
   | (with_reducible exact ih2 _ _ _ _ _ _ _)
   | (with_reducible exact ih3 _ _ _ _ _ _ _)
   | (with_reducible exact ih4 _ _ _ _ _ _ _ _ _ _)
   | (with_reducible exact ih5 _ _ _ _ _ _ _ _ _ _ _ _)
   | (with_reducible exact ih6 _ _ _ _)
   | (with_reducible exact impl_Doc_has.mono _ _ _ _ _)
   | (with_reducible exact impl_Doc_isDeep.mono _ _ _ _)
   | (with_reducible exact impl_Doc_order.mono _ _ _ _ _ _)
   | (with_reducible exact LeO.refl _)
   | (with_reducible exact LeO.none _)
   | (with_reducible refine LeO.ite ?_ ?_)
   | (with_reducible refine LeO.bind ?_ (fun _ => ?_))
   | exact ih0 _ _ _ _
   | exact ih1 _ _ _ _ _ _
   | exact ih2 _ _ _ _ _ _ _
   | exact ih3 _ _ _ _ _ _ _
   | exact ih4 _ _ _ _ _ _ _ _ _ _
   | exact ih5 _ _ _ _ _ _ _ _ _ _ _ _
   | exact ih6 _ _ _ _
   | exact impl_Doc_has.mono _ _ _ _ _
   | exact impl_Doc_isDeep.mono _ _ _ _
   | exact impl_Doc_order.mono _ _ _ _ _ _
   | exact LeO.none _
   | refine LeO.ite ?_ ?_
   | refine LeO.bind ?_ (fun _ => ?_)
theorem impl_DocOK.mono : ∀ a0 a1 a2 k, LeO (impl_DocOK.f k a0 a1 a2) (impl_DocOK.f (k + 1) a0 a1 a2) := by
 intro a0 a1 a2 k
 obtain ⟨ih0, ih1, ih2, ih3, ih4, ih5, ih6⟩ := impl_DocOK.mono_l k
 unfold impl_DocOK.f
 repeat' first
   | (with_reducible exact ih0 _ _ _ _)
   | (with_reducible exact ih1 _ _ _ _ _ _)
   | (with_reducible exact ih2 _ _ _ _ _ _ _)
   | (with_reducible exact ih3 _ _ _ _ _ _ _)
   | (with_reducible exact ih4 _ _ _ _ _ _ _ _ _ _)
   | (with_reducible exact ih5 _ _ _ _ _ _ _ _ _ _ _ _)
   | (with_reducible exact ih6 _ _ _ _)
   | (with_reducible exact impl_Doc_has.mono _ _ _ _ _)
   | (with_reducible exact impl_Doc_isDeep.mono _ _ _ _)
   | (with_reducible exact impl_Doc_order.mono _ _ _ _ _ _)
   | (with_reducible exact LeO.refl _)
   | (with_reducible exact LeO.none _)
   | (with_reducible refine LeO.ite ?_ ?_)
   | (with_reducible refine LeO.bind ?_ (fun _ => ?_))
   | exact ih0 _ _ _ _
   | exact ih1 _ _ _ _ _ _
   | exact ih2 _ _ _ _ _ _ _
   | exact ih3 _ _ _ _ _ _ _
   | exact ih4 _ _ _ _ _ _ _ _ _ _
   | exact ih5 _ _ _ _ _ _ _ _ _ _ _ _
   | exact ih6 _ _ _ _
   | exact impl_Doc_has.mono _ _ _ _ _
   | exact impl_Doc_isDeep.mono _ _ _ _
   | exact impl_Doc_order.mono _ _ _ _ _ _
   | exact LeO.none _
   | refine LeO.ite ?_ ?_
   | refine LeO.bind ?_ (fun _ => ?_)
def impl_DocOK.T23 : Bool × List (List Nat × List Nat) := (true, [([], []), ([0], [0]), ([1], [1]), ([2], [2]), ([], []), ([4], [4]), ([5], [5]), ([3, 6], [3, 6]), ([7, 2, 0, 1, 2, 3, 4, 5, 6, 7], [7])])
def impl_DocOK.B23 : List Nat := [0, 1, 3, 7, 0, 16, 48, 127, 255]
theorem impl_DocOK.tab23 : rtab .any (opsOf Try.f16 23) = impl_DocOK.T23 := by kernel_rfl
theorem impl_DocOK.bits23 : waitsOk impl_DocOK.T23.2 impl_DocOK.B23 = true := by kernel_rfl
set_option maxHeartbeats 8000000 in
set_option maxRecDepth 100000 in
theorem impl_DocOK.calls (k : Nat) (a0_0 : Int) (a0_1 : Int) (A0_2 : Option Addr) (c0_2 : Nat) (l0_2 : List (S88)) (r : Bool) (w : World) (hr0_2 : Kd.C k88 w A0_2 l0_2.length l0_2) (hc0_2 : l0_2.length ≤ c0_2) (h : impl_DocOK.f k a0_0 a0_1 l0_2 = some r) :
  Calls Try.prog 16 #[.agg #[.int .i64 a0_0, .int .i64 a0_1, .slice A0_2 l0_2.length c0_2]] w fun e w' => e = .returned (.bool r) ∧ Below w.heap.size w w' := by
 have hu29 := Try.underlying29
 have hu88 := Try.underlying88
 have HR0_2 := Aside0.mk hr0_2
 have HC0_2 := Aside0.mk hc0_2
 clear hr0_2 hc0_2
 have HB := Aside0.mk (Below.refl w.heap.size w)
 have H : ((impl_within.f (l0_2.length : Int) 1 40).bind fun t244 => (if t244 = true then ((impl_within.f a0_1 2 999999).bind fun t245 => (impl_DocOK.j0 k (!t245) a0_0 a0_1 l0_2)) else (impl_DocOK.j0 k true a0_0 a0_1 l0_2))) = some r := h
 clear h
 have HC2 := Aside0.mk H
 clear H
 go_enter Try.func16, Try.ntmps16
 go_upto_region 1 with (first | ((with_reducible refine gate_dst (N := 1) rfl ?_); (try (refine gate_guard (by rfl) ?_; dsimp only)); refine box_event ?hg (N := 1) ?hd (cs := #[.int .i64 a0_0, .int .i64 a0_1, .slice A0_2 l0_2.length c0_2]) (t := 29) ?hr ?_; (case hd => rfl); (case hg => rfl); (case hr => first | (go_simp; done) | (go_simp; rfl)); intro gb243 hg w3 hbox hb; have BK243 := Aside0.mk (hbox); have GW243 := Aside0.mk ((by rw [hg]; exact (below_size (by repeat first | (with_reducible first | exact HB.out | apply XW.bN | apply XW.bD) | exact HB.out)) : w.heap.size ≤ gb243)); have GE243 := Aside0.mk ((by rw [hg]; exact (below_size (by repeat first | (with_reducible first | exact HB.out | apply XW.bN | apply XW.bD) | exact HB.out)) : w.heap.size ≤ gb243)); replace HB := Aside0.mk (below_step (by repeat first | (with_reducible first | exact HB.out | apply XW.bN | apply XW.bD) | exact HB.out) hb); clear hb hbox hg))
 (try simp only [XW.q0, XW.q1, XW.q2])
 go_cut [20] (fun v20 wc => ∃ (kq : Nat) (x20_1 : Bool), v20 = .bool x20_1 ∧ Aside0 (impl_DocOK.j0 kq x20_1 a0_0 a0_1 l0_2 = some r) ∧ Aside0 (kq ≤ k) ∧ Aside0 (wc.heap[gb243]? = some (.cells #[.int .i64 a0_0, .int .i64 a0_1, (.slice A0_2 l0_2.length c0_2)] 29 (0, 0))) ∧ Aside0 (Below w.heap.size w wc))
 case first =>
  have H := HC2.out
  clear HC2
  replace H := Option.bind_eq_some_iff.mp H
  obtain ⟨t244, A40, H⟩ := H
  (try dsimp only at H)
  have A4 := Aside0.mk A40
  clear A40
  by_cases c5 : t244 = true
  ·subst c5
   (first | rw [if_pos rfl] at H | skip)
   replace H := Option.bind_eq_some_iff.mp H
   obtain ⟨t245, A60, H⟩ := H
   (try dsimp only at H)
   have A6 := Aside0.mk A60
   clear A60
   have H' := Aside0.mk H
   clear H
   have hcz7_0 := (blk_cell BK243.out 0).trans XW.i0
   have hcz7_1 := (blk_cell BK243.out 1).trans XW.i1
   have hcz7_2 := (blk_cell BK243.out 2).trans XW.i2
   have hfz7_0 := blk_frozen BK243.out 0
   have hfz7_1 := blk_frozen BK243.out 1
   have hfz7_2 := blk_frozen BK243.out 2
   go_wp2_with (first | ((with_reducible refine gate_callee (f := 60) rfl ?_); refine goesL_ (some 13) rfl rfl Try.func60 (by kernel_rfl) rfl #[.int .i64 (l0_2.length : Int), .int .i64 1, .int .i64 40] rfl (by (try simp only [List.map_toArray, List.map_cons, List.map_nil]); first | done | rfl | (simp only [List.length_drop, List.length_take]; rfl)) ?_; (with_reducible refine (impl_within.calls (l0_2.length : Int) 1 40 true _ A4.out).mono ?_); rintro e w' ⟨rfl, ⟨nd, rfl⟩⟩; refine ⟨_, rfl, ?_⟩) | (go_at_call 60; (with_reducible refine (impl_within.calls a0_1 2 999999 t245 _ A6.out).mono ?_); rintro e w' ⟨rfl, ⟨nd, rfl⟩⟩; (try first | exact ⟨rfl, _, World.drewN_drewN _ _ _⟩ | exact ⟨rfl, _, Eq.trans (World.drewN_drewN _ _ _) (congrArg (World.drewN _) (Nat.add_assoc _ _ _))⟩)))
   go_meet
   case rel => exact ⟨_, (!t245), (by first | rfl | (simp; done) | (simp [*]; done)), H', ⟨by first | omega | exact Nat.le_refl _⟩, ⟨by exact BK243.out⟩, ⟨by repeat first | (with_reducible first | exact HB.out | apply XW.bN | apply XW.bD) | exact HB.out⟩⟩
  ·replace c5 := Bool.eq_false_iff.mpr c5
   subst c5
   (first | rw [if_neg (show ¬ (false = true) by decide)] at H | skip)
   have H' := Aside0.mk H
   clear H
   have hcz8_0 := (blk_cell BK243.out 0).trans XW.i0
   have hcz8_1 := (blk_cell BK243.out 1).trans XW.i1
   have hcz8_2 := (blk_cell BK243.out 2).trans XW.i2
   have hfz8_0 := blk_frozen BK243.out 0
   have hfz8_1 := blk_frozen BK243.out 1
   have hfz8_2 := blk_frozen BK243.out 2
   go_wp2_with (first | ((with_reducible refine gate_callee (f := 60) rfl ?_); refine goesL_ (some 13) rfl rfl Try.func60 (by kernel_rfl) rfl #[.int .i64 (l0_2.length : Int), .int .i64 1, .int .i64 40] rfl (by (try simp only [List.map_toArray, List.map_cons, List.map_nil]); first | done | rfl | (simp only [List.length_drop, List.length_take]; rfl)) ?_; (with_reducible refine (impl_within.calls (l0_2.length : Int) 1 40 false _ A4.out).mono ?_); rintro e w' ⟨rfl, ⟨nd, rfl⟩⟩; refine ⟨_, rfl, ?_⟩))
   go_meet
   case rel => exact ⟨_, (true), (by first | rfl | (simp; done) | (simp [*]; done)), H', ⟨by first | omega | exact Nat.le_refl _⟩, ⟨by exact BK243.out⟩, ⟨by repeat first | (with_reducible first | exact HB.out | apply XW.bN | apply XW.bD) | exact HB.out⟩⟩
 case rest =>
  clear HC2
  obtain ⟨kq, x20_1, rfl, HA, HJ1, BK243, HB⟩ := hcut
  cases kq with
  | zero => exact absurd HA.out (by simp [impl_DocOK.j0])
  | succ kj1 =>
   have H := HA.out
   clear HA
   simp only [impl_DocOK.j0] at H
   by_cases c9 : x20_1 = true
   ·subst c9
    (first | rw [if_pos rfl] at H | skip)
    obtain rfl := Option.some.inj H
    go_wp2
    go_ret
    exact ⟨by first | rfl | (simp [errW_none, errW_some] <;> rfl) | (simp [*, errW_none, errW_some] <;> rfl), by repeat first | (with_reducible first | exact HB.out | apply XW.bN | apply XW.bD) | exact HB.out⟩
   ·replace c9 := Bool.eq_false_iff.mpr c9
    subst c9
    (first | rw [if_neg (show ¬ (false = true) by decide)] at H | skip)
    have H' := Aside0.mk H
    clear H
    have hcz10_0 := (blk_cell BK243.out 0).trans XW.i0
    have hcz10_1 := (blk_cell BK243.out 1).trans XW.i1
    have hcz10_2 := (blk_cell BK243.out 2).trans XW.i2
    have hfz10_0 := blk_frozen BK243.out 0
    have hfz10_1 := blk_frozen BK243.out 1
    have hfz10_2 := blk_frozen BK243.out 2
    go_wp2
    go_loopg [24] kj1 (fun kq v24 w' => ∃ (x24_2 : Int), v24 = .int .i64 x24_2 ∧ Aside0 (impl_DocOK.l0 kq l0_2 (l0_2.length : Int) x24_2 a0_0 a0_1 l0_2 = some r) ∧ Aside0 (kq ≤ kj1) ∧ Aside0 (w'.heap[gb243]? = some (.cells #[.int .i64 a0_0, .int .i64 a0_1, (.slice A0_2 l0_2.length c0_2)] 29 (0, 0))) ∧ Aside0 (Below w.heap.size w w'))
    case atStart => exact ⟨(0), (by first | rfl | (simp; done) | (simp [*]; done)), H', ⟨Nat.le_refl _⟩, ⟨by exact BK243.out⟩, ⟨by repeat first | (with_reducible first | exact HB.out | apply XW.bN | apply XW.bD) | exact HB.out⟩⟩
    case round =>
     clear H'
     (try clear c9); (try clear hcz10_0); (try clear hcz10_1); (try clear hcz10_2); (try clear hfz10_0); (try clear hfz10_1); (try clear hfz10_2)
     obtain ⟨x24_2, rfl, HA, HK2, BK243, HB⟩ := hrel
     cases gk with
     | zero => exact absurd HA.out (by simp [impl_DocOK.l0])
     | succ k2 =>
      have H := HA.out
      clear HA
      simp only [impl_DocOK.l0] at H
      by_cases c11 : x24_2 < (l0_2.length : Int)
      ·rw [if_pos c11] at H
       have c11b0 : decide (x24_2 < (l0_2.length : Int)) = true := decide_eq_true c11
       clear c11
       by_cases c12 : 0 ≤ x24_2
       ·rw [if_pos c12] at H
        have c12b0 : decide (0 ≤ x24_2) = true := decide_eq_true c12
        clear c12
        by_cases c13 : x24_2 < (l0_2.length : Int)
        ·rw [if_pos c13] at H
         have c13b0 : decide (x24_2 < (l0_2.length : Int)) = true := decide_eq_true c13
         clear c13
         have HC14 := Aside0.mk H
         clear H
         have p246 : 0 ≤ (x24_2 : Int) := of_decide_eq_true (by first | (with_reducible assumption) | assumption)
         have q246 : x24_2 < (l0_2.length : Int) := of_decide_eq_true (by first | (with_reducible assumption) | assumption)
         obtain ⟨ad246, A246_4, c246_4, e246, hx246_0, hx246_1, hx246_2, hx246_3, hx246_4, hl246_4, hi246_4⟩ := at_T88 HR0_2.out x24_2 p246 q246
         cases e246
         replace hx246_0 := (HB.out.cell (World.block_lt_of_cell? w _ hx246_0)).trans hx246_0
         replace hx246_1 := (HB.out.cell (World.block_lt_of_cell? w _ hx246_1)).trans hx246_1
         replace hx246_2 := (HB.out.cell (World.block_lt_of_cell? w _ hx246_2)).trans hx246_2
         replace hx246_3 := (HB.out.cell (World.block_lt_of_cell? w _ hx246_3)).trans hx246_3
         replace hx246_4 := (HB.out.cell (World.block_lt_of_cell? w _ hx246_4)).trans hx246_4
         have HR246_4 := Aside0.mk hi246_4
         have HC246_4 := Aside0.mk hl246_4
         clear hi246_4 hl246_4
         replace p246 := eq_true p246
         replace q246 := eq_true q246
         go_upto_region 6 with (first | ((with_reducible refine gate_dst (N := 4) rfl ?_); (try (refine gate_guard (by rfl) ?_; dsimp only)); refine box_event ?hg (N := 4) ?hd (cs := #[.int .i64 0, .int .i64 0, .int .i64 0, .string (⟨#[]⟩ : ByteArray), .slice none 0 0]) (t := 88) ?hr ?_; (case hd => rfl); (case hg => rfl); (case hr => first | (go_simp; done) | (go_simp; rfl)); intro gb247 hg w15 hbox hb; have BK247 := Aside0.mk (hbox); have GW247 := Aside0.mk ((by rw [hg]; exact (below_size (by repeat first | (with_reducible first | exact HB.out | apply XW.bN | apply XW.bD) | exact HB.out)) : w.heap.size ≤ gb247)); have GE247 := Aside0.mk ((by rw [hg]; exact (below_size (by repeat first | (with_reducible first | exact HB.out | apply XW.bN | apply XW.bD) | exact HB.out)) : w.heap.size ≤ gb247)); replace HB := Aside0.mk (below_step (by repeat first | (with_reducible first | exact HB.out | apply XW.bN | apply XW.bD) | exact HB.out) hb); have NB243_247 := Aside0.mk ((by rw [hg]; exact Nat.ne_of_lt (blk_lt (g := gb243) (o := .cells #[.int .i64 a0_0, .int .i64 a0_1, .slice (some ad246) l0_2.length c0_2] 29 (0, 0)) (by exact BK243.out)) : gb243 ≠ gb247)); have NB247_243 := Aside0.mk ((by rw [hg]; exact Nat.ne_of_gt (blk_lt (g := gb243) (o := .cells #[.int .i64 a0_0, .int .i64 a0_1, .slice (some ad246) l0_2.length c0_2] 29 (0, 0)) (by exact BK243.out)) : gb247 ≠ gb243)); replace BK243 := Aside0.mk (blk_below (g := gb243) (o := .cells #[.int .i64 a0_0, .int .i64 a0_1, .slice (some ad246) l0_2.length c0_2] 29 (0, 0)) (by exact BK243.out) hb); clear hb hbox hg; have hnb16 := NB247_243.out; have hnc16 := NB243_247.out; have hcz17_0 := (blk_cell BK247.out 0).trans XW.i0; have hcz17_1 := (blk_cell BK247.out 1).trans XW.i1; have hcz17_2 := (blk_cell BK247.out 2).trans XW.i2; have hcz17_3 := (blk_cell BK247.out 3).trans XW.i3; have hcz17_4 := (blk_cell BK247.out 4).trans XW.i4; have hfz17_0 := blk_frozen BK247.out 0; have hfz17_1 := blk_frozen BK247.out 1; have hfz17_2 := blk_frozen BK247.out 2; have hfz17_3 := blk_frozen BK247.out 3; have hfz17_4 := blk_frozen BK247.out 4) | ((with_reducible refine gate_store (t := 88) (p := 4) rfl ?_); refine store_event (t := 88) (p := 4) (v := ?vo_w18) (w1 := (((((w15.setCell ⟨gb247, 0, none⟩ (.int .i64 ((rd_T88 l0_2 x24_2).f0))).setCell ⟨gb247, 1, none⟩ (.int .i64 ((rd_T88 l0_2 x24_2).f1))).setCell ⟨gb247, 2, none⟩ (.int .i64 ((rd_T88 l0_2 x24_2).f2))).setCell ⟨gb247, 3, none⟩ (.string ((rd_T88 l0_2 x24_2).f3))).setCell ⟨gb247, 4, none⟩ (.slice A246_4 ((rd_T88 l0_2 x24_2).f4).length c246_4))) ?hg ?ho ?hn ?hr ?_; (case ho => rfl); (case hg => rfl); (case hn => rfl); (case hr => first | (go_simp; done) | (go_simp; rfl)); intro w18 hw; have n0_ : Aside0 (w18.heap[gb243]? = some (.cells #[.int .i64 a0_0, .int .i64 a0_1, .slice (some ad246) l0_2.length c0_2] 29 (0, 0))) := ⟨(by rw [hw]; exact (by (with_reducible repeat (first | refine blk_drewN ?_ _ | refine blk_drew ?_ | refine blk_alloc ?_ _)); refine blk_far ?_ NB243_247.out _; (with_reducible repeat (first | refine blk_drewN ?_ _ | refine blk_drew ?_ | refine blk_alloc ?_ _)); refine blk_far ?_ NB243_247.out _; (with_reducible repeat (first | refine blk_drewN ?_ _ | refine blk_drew ?_ | refine blk_alloc ?_ _)); refine blk_far ?_ NB243_247.out _; (with_reducible repeat (first | refine blk_drewN ?_ _ | refine blk_drew ?_ | refine blk_alloc ?_ _)); refine blk_far ?_ NB243_247.out _; (with_reducible repeat (first | refine blk_drewN ?_ _ | refine blk_drew ?_ | refine blk_alloc ?_ _)); refine blk_far ?_ NB243_247.out _; (with_reducible repeat (first | refine blk_drewN ?_ _ | refine blk_drew ?_ | refine blk_alloc ?_ _)); exact BK243.out))⟩; have n1_ : Aside0 (w18.heap[gb247]? = some (.cells #[.int .i64 ((rd_T88 l0_2 x24_2).f0), .int .i64 ((rd_T88 l0_2 x24_2).f1), .int .i64 ((rd_T88 l0_2 x24_2).f2), .string ((rd_T88 l0_2 x24_2).f3), .slice A246_4 ((rd_T88 l0_2 x24_2).f4).length c246_4] 88 (0, 0))) := ⟨(by rw [hw]; exact (by (with_reducible repeat (first | refine blk_drewN ?_ _ | refine blk_drew ?_ | refine blk_alloc ?_ _)); refine blk_put (cs := #[.int .i64 ((rd_T88 l0_2 x24_2).f0), .int .i64 ((rd_T88 l0_2 x24_2).f1), .int .i64 ((rd_T88 l0_2 x24_2).f2), .string ((rd_T88 l0_2 x24_2).f3), .slice none 0 0]) ?_ 4 _ rfl; (with_reducible repeat (first | refine blk_drewN ?_ _ | refine blk_drew ?_ | refine blk_alloc ?_ _)); refine blk_put (cs := #[.int .i64 ((rd_T88 l0_2 x24_2).f0), .int .i64 ((rd_T88 l0_2 x24_2).f1), .int .i64 ((rd_T88 l0_2 x24_2).f2), .string (⟨#[]⟩ : ByteArray), .slice none 0 0]) ?_ 3 _ rfl; (with_reducible repeat (first | refine blk_drewN ?_ _ | refine blk_drew ?_ | refine blk_alloc ?_ _)); refine blk_put (cs := #[.int .i64 ((rd_T88 l0_2 x24_2).f0), .int .i64 ((rd_T88 l0_2 x24_2).f1), .int .i64 0, .string (⟨#[]⟩ : ByteArray), .slice none 0 0]) ?_ 2 _ rfl; (with_reducible repeat (first | refine blk_drewN ?_ _ | refine blk_drew ?_ | refine blk_alloc ?_ _)); refine blk_put (cs := #[.int .i64 ((rd_T88 l0_2 x24_2).f0), .int .i64 0, .int .i64 0, .string (⟨#[]⟩ : ByteArray), .slice none 0 0]) ?_ 1 _ rfl; (with_reducible repeat (first | refine blk_drewN ?_ _ | refine blk_drew ?_ | refine blk_alloc ?_ _)); refine blk_put (cs := #[.int .i64 0, .int .i64 0, .int .i64 0, .string (⟨#[]⟩ : ByteArray), .slice none 0 0]) ?_ 0 _ rfl; (with_reducible repeat (first | refine blk_drewN ?_ _ | refine blk_drew ?_ | refine blk_alloc ?_ _)); exact BK247.out))⟩; have n2_ : Aside0 (Below w.heap.size w w18) := ⟨(by rw [hw]; exact (by repeat first | (with_reducible first | exact HB.out | apply XW.bN | apply XW.bD | refine below_set ?_ GE243.out | refine below_set ?_ GE247.out) | exact HB.out))⟩; clear hw; clear BK243; clear BK247; clear HB; have BK243 := n0_; have BK247 := n1_; have HB := n2_; clear n0_ n1_ n2_))
         (try simp only [XW.q0, XW.q1, XW.q2])
         go_cut [75] (fun v75 wc => ∃ (kq : Nat) (x75_13 : Bool), v75 = .bool x75_13 ∧ Aside0 (impl_DocOK.j2 kq l0_2 (l0_2.length : Int) x24_2 x75_13 a0_0 a0_1 l0_2 = some r) ∧ Aside0 (kq ≤ k2) ∧ Aside0 (wc.heap[gb243]? = some (.cells #[.int .i64 a0_0, .int .i64 a0_1, (.slice (some ad246) l0_2.length c0_2)] 29 (0, 0))) ∧ Aside0 (wc.heap[gb247]? = some (.cells #[.int .i64 ((rd_T88 l0_2 x24_2).f0), .int .i64 ((rd_T88 l0_2 x24_2).f1), .int .i64 ((rd_T88 l0_2 x24_2).f2), .string ((rd_T88 l0_2 x24_2).f3), (.slice A246_4 ((rd_T88 l0_2 x24_2).f4).length c246_4)] 88 (0, 0))) ∧ Aside0 (Below w.heap.size w wc))
         case first =>
          have H := HC14.out
          clear HC14
          replace H := Option.bind_eq_some_iff.mp H
          obtain ⟨t248, A190, H⟩ := H
          (try dsimp only at H)
          have A19 := Aside0.mk A190
          clear A190
          by_cases c20 : t248 = true
          ·subst c20
           (first | rw [if_pos rfl] at H | skip)
           by_cases c21 : x24_2 > 0
           ·rw [if_pos c21] at H
            have c21b0 : decide (0 < x24_2) = true := decide_eq_true c21
            clear c21
            (first | rw [c21b0] | (simp only [i64_w, i32_w]; rw [c21b0]) | skip)
            obtain ⟨ji22, hji22⟩ : ∃ j_ : Int, (wrap64 (x24_2 - 1)) = j_ := ⟨_, rfl⟩
            replace H : (if 0 ≤ (ji22) then (if (ji22) < (l0_2.length : Int) then (if ((rd_T88 l0_2 (ji22)).f0) ≥ ((rd_T88 l0_2 x24_2).f0) then (impl_DocOK.j2 k2 l0_2 (l0_2.length : Int) x24_2 true a0_0 a0_1 l0_2) else ((impl_within.f ((rd_T88 l0_2 x24_2).f1) 1 8).bind fun t250 => (if t250 = true then ((impl_within.f ((rd_T88 l0_2 x24_2).f2) 0 99).bind fun t251 => (if t251 = true then (if (((rd_T88 l0_2 x24_2).f3).size : Int) > 20 then (impl_DocOK.j2 k2 l0_2 (l0_2.length : Int) x24_2 true a0_0 a0_1 l0_2) else (impl_DocOK.j2 k2 l0_2 (l0_2.length : Int) x24_2 (decide ((((rd_T88 l0_2 x24_2).f4).length : Int) > 12)) a0_0 a0_1 l0_2)) else (impl_DocOK.j2 k2 l0_2 (l0_2.length : Int) x24_2 true a0_0 a0_1 l0_2))) else (impl_DocOK.j2 k2 l0_2 (l0_2.length : Int) x24_2 true a0_0 a0_1 l0_2)))) else (none)) else (none)) = some r := by first | (rw [hji22] at H; exact H) | (simp only [hji22] at H ⊢; exact H)
            (try rw [hji22] at A19)
            have hji22w : (IntKind.i64.wrap (x24_2 - 1)) = ji22 := (i64_w _).trans hji22
            by_cases c23 : 0 ≤ (ji22)
            ·rw [if_pos c23] at H
             have c23b0 : decide (0 ≤ (ji22)) = true := decide_eq_true c23
             clear c23
             by_cases c24 : (ji22) < (l0_2.length : Int)
             ·rw [if_pos c24] at H
              have c24b0 : decide ((ji22) < (l0_2.length : Int)) = true := decide_eq_true c24
              clear c24
              by_cases c25 : ((rd_T88 l0_2 (ji22)).f0) ≥ ((rd_T88 l0_2 x24_2).f0)
              ·rw [if_pos c25] at H
               have c25b0 : decide (((rd_T88 l0_2 x24_2).f0) ≤ ((rd_T88 l0_2 (ji22)).f0)) = true := decide_eq_true c25
               clear c25
               have H' := Aside0.mk H
               clear H
               have hnb26 := NB247_243.out
               have hnc26 := NB243_247.out
               have hcz27_0 := (blk_cell BK247.out 0).trans XW.i0
               have hcz27_1 := (blk_cell BK247.out 1).trans XW.i1
               have hcz27_2 := (blk_cell BK247.out 2).trans XW.i2
               have hcz27_3 := (blk_cell BK247.out 3).trans XW.i3
               have hcz27_4 := (blk_cell BK247.out 4).trans XW.i4
               have hfz27_0 := blk_frozen BK247.out 0
               have hfz27_1 := blk_frozen BK247.out 1
               have hfz27_2 := blk_frozen BK247.out 2
               have hfz27_3 := blk_frozen BK247.out 3
               have hfz27_4 := blk_frozen BK247.out 4
               have hcz28_0 := (blk_cell BK243.out 0).trans XW.i0
               have hcz28_1 := (blk_cell BK243.out 1).trans XW.i1
               have hcz28_2 := (blk_cell BK243.out 2).trans XW.i2
               have hfz28_0 := blk_frozen BK243.out 0
               have hfz28_1 := blk_frozen BK243.out 1
               have hfz28_2 := blk_frozen BK243.out 2
               have p249 : 0 ≤ ((ji22) : Int) := of_decide_eq_true (by first | (with_reducible assumption) | assumption)
               have q249 : (ji22) < (l0_2.length : Int) := of_decide_eq_true (by first | (with_reducible assumption) | assumption)
               obtain ⟨ad249, A249_4, c249_4, e249, hx249_0, hx249_1, hx249_2, hx249_3, hx249_4, hl249_4, hi249_4⟩ := at_T88 HR0_2.out (ji22) p249 q249
               obtain rfl : ad246 = ad249 := (by injection e249)
               replace hx249_0 := (HB.out.cell (World.block_lt_of_cell? w _ hx249_0)).trans hx249_0
               replace hx249_1 := (HB.out.cell (World.block_lt_of_cell? w _ hx249_1)).trans hx249_1
               replace hx249_2 := (HB.out.cell (World.block_lt_of_cell? w _ hx249_2)).trans hx249_2
               replace hx249_3 := (HB.out.cell (World.block_lt_of_cell? w _ hx249_3)).trans hx249_3
               replace hx249_4 := (HB.out.cell (World.block_lt_of_cell? w _ hx249_4)).trans hx249_4
               have HR249_4 := Aside0.mk hi249_4
               have HC249_4 := Aside0.mk hl249_4
               clear hi249_4 hl249_4
               replace p249 := eq_true p249
               replace q249 := eq_true q249
               (try go_wp2)
               repeat (go_quiet (first | (go_at_call 60; (with_reducible refine (impl_within.calls ((rd_T88 l0_2 x24_2).f0) 1 (wrap64 (a0_1 - 1)) true _ A19.out).mono ?_); rintro e w' ⟨rfl, ⟨nd, rfl⟩⟩; (try first | exact ⟨rfl, _, World.drewN_drewN _ _ _⟩ | exact ⟨rfl, _, Eq.trans (World.drewN_drewN _ _ _) (congrArg (World.drewN _) (Nat.add_assoc _ _ _))⟩))); try go_wp2)
               go_meet
               case rel => exact ⟨_, (true), (by first | rfl | (simp; done) | (simp [*]; done)), H', ⟨by have := HJ1.out; have := HK2.out; first | omega | exact Nat.le_refl _⟩, ⟨by exact BK243.out⟩, ⟨by exact BK247.out⟩, ⟨by repeat first | (with_reducible first | exact HB.out | apply XW.bN | apply XW.bD) | exact HB.out⟩⟩
              ·rw [if_neg c25] at H
               have c25b0 : decide (((rd_T88 l0_2 x24_2).f0) ≤ ((rd_T88 l0_2 (ji22)).f0)) = false := decide_eq_false c25
               clear c25
               replace H := Option.bind_eq_some_iff.mp H
               obtain ⟨t250, A290, H⟩ := H
               (try dsimp only at H)
               have A29 := Aside0.mk A290
               clear A290
               by_cases c30 : t250 = true
               ·subst c30
                (first | rw [if_pos rfl] at H | skip)
                replace H := Option.bind_eq_some_iff.mp H
                obtain ⟨t251, A310, H⟩ := H
                (try dsimp only at H)
                have A31 := Aside0.mk A310
                clear A310
                by_cases c32 : t251 = true
                ·subst c32
                 (first | rw [if_pos rfl] at H | skip)
                 by_cases c33 : (((rd_T88 l0_2 x24_2).f3).size : Int) > 20
                 ·rw [if_pos c33] at H
                  have c33b0 : decide (20 < (((rd_T88 l0_2 x24_2).f3).size : Int)) = true := decide_eq_true c33
                  have c33b1 : decide (20 < ((rd_T88 l0_2 x24_2).f3).size) = true := decide_eq_true (by omega)
                  clear c33
                  have H' := Aside0.mk H
                  clear H
                  have hnb34 := NB247_243.out
                  have hnc34 := NB243_247.out
                  have hcz35_0 := (blk_cell BK247.out 0).trans XW.i0
                  have hcz35_1 := (blk_cell BK247.out 1).trans XW.i1
                  have hcz35_2 := (blk_cell BK247.out 2).trans XW.i2
                  have hcz35_3 := (blk_cell BK247.out 3).trans XW.i3
                  have hcz35_4 := (blk_cell BK247.out 4).trans XW.i4
                  have hfz35_0 := blk_frozen BK247.out 0
                  have hfz35_1 := blk_frozen BK247.out 1
                  have hfz35_2 := blk_frozen BK247.out 2
                  have hfz35_3 := blk_frozen BK247.out 3
                  have hfz35_4 := blk_frozen BK247.out 4
                  have hcz36_0 := (blk_cell BK243.out 0).trans XW.i0
                  have hcz36_1 := (blk_cell BK243.out 1).trans XW.i1
                  have hcz36_2 := (blk_cell BK243.out 2).trans XW.i2
                  have hfz36_0 := blk_frozen BK243.out 0
                  have hfz36_1 := blk_frozen BK243.out 1
                  have hfz36_2 := blk_frozen BK243.out 2
                  have p249 : 0 ≤ ((ji22) : Int) := of_decide_eq_true (by first | (with_reducible assumption) | assumption)
                  have q249 : (ji22) < (l0_2.length : Int) := of_decide_eq_true (by first | (with_reducible assumption) | assumption)
                  obtain ⟨ad249, A249_4, c249_4, e249, hx249_0, hx249_1, hx249_2, hx249_3, hx249_4, hl249_4, hi249_4⟩ := at_T88 HR0_2.out (ji22) p249 q249
                  obtain rfl : ad246 = ad249 := (by injection e249)
                  replace hx249_0 := (HB.out.cell (World.block_lt_of_cell? w _ hx249_0)).trans hx249_0
                  replace hx249_1 := (HB.out.cell (World.block_lt_of_cell? w _ hx249_1)).trans hx249_1
                  replace hx249_2 := (HB.out.cell (World.block_lt_of_cell? w _ hx249_2)).trans hx249_2
                  replace hx249_3 := (HB.out.cell (World.block_lt_of_cell? w _ hx249_3)).trans hx249_3
                  replace hx249_4 := (HB.out.cell (World.block_lt_of_cell? w _ hx249_4)).trans hx249_4
                  have HR249_4 := Aside0.mk hi249_4
                  have HC249_4 := Aside0.mk hl249_4
                  clear hi249_4 hl249_4
                  replace p249 := eq_true p249
                  replace q249 := eq_true q249
                  (try go_wp2)
                  repeat (go_quiet (first | (go_at_call 60; (with_reducible refine (impl_within.calls ((rd_T88 l0_2 x24_2).f0) 1 (wrap64 (a0_1 - 1)) true _ A19.out).mono ?_); rintro e w' ⟨rfl, ⟨nd, rfl⟩⟩; (try first | exact ⟨rfl, _, World.drewN_drewN _ _ _⟩ | exact ⟨rfl, _, Eq.trans (World.drewN_drewN _ _ _) (congrArg (World.drewN _) (Nat.add_assoc _ _ _))⟩)) | (go_at_call 60; (with_reducible refine (impl_within.calls ((rd_T88 l0_2 x24_2).f1) 1 8 true _ A29.out).mono ?_); rintro e w' ⟨rfl, ⟨nd, rfl⟩⟩; (try first | exact ⟨rfl, _, World.drewN_drewN _ _ _⟩ | exact ⟨rfl, _, Eq.trans (World.drewN_drewN _ _ _) (congrArg (World.drewN _) (Nat.add_assoc _ _ _))⟩)) | (go_at_call 60; (with_reducible refine (impl_within.calls ((rd_T88 l0_2 x24_2).f2) 0 99 true _ A31.out).mono ?_); rintro e w' ⟨rfl, ⟨nd, rfl⟩⟩; (try first | exact ⟨rfl, _, World.drewN_drewN _ _ _⟩ | exact ⟨rfl, _, Eq.trans (World.drewN_drewN _ _ _) (congrArg (World.drewN _) (Nat.add_assoc _ _ _))⟩))); try go_wp2)
                  go_meet
                  case rel => exact ⟨_, (true), (by first | rfl | (simp; done) | (simp [*]; done)), H', ⟨by have := HJ1.out; have := HK2.out; first | omega | exact Nat.le_refl _⟩, ⟨by exact BK243.out⟩, ⟨by exact BK247.out⟩, ⟨by repeat first | (with_reducible first | exact HB.out | apply XW.bN | apply XW.bD) | exact HB.out⟩⟩
                 ·rw [if_neg c33] at H
                  have c33b0 : decide (20 < (((rd_T88 l0_2 x24_2).f3).size : Int)) = false := decide_eq_false c33
                  have c33b1 : decide (20 < ((rd_T88 l0_2 x24_2).f3).size) = false := decide_eq_false (by omega)
                  clear c33
                  have H' := Aside0.mk H
                  clear H
                  have hnb37 := NB247_243.out
                  have hnc37 := NB243_247.out
                  have hcz38_0 := (blk_cell BK247.out 0).trans XW.i0
                  have hcz38_1 := (blk_cell BK247.out 1).trans XW.i1
                  have hcz38_2 := (blk_cell BK247.out 2).trans XW.i2
                  have hcz38_3 := (blk_cell BK247.out 3).trans XW.i3
                  have hcz38_4 := (blk_cell BK247.out 4).trans XW.i4
                  have hfz38_0 := blk_frozen BK247.out 0
                  have hfz38_1 := blk_frozen BK247.out 1
                  have hfz38_2 := blk_frozen BK247.out 2
                  have hfz38_3 := blk_frozen BK247.out 3
                  have hfz38_4 := blk_frozen BK247.out 4
                  have hcz39_0 := (blk_cell BK243.out 0).trans XW.i0
                  have hcz39_1 := (blk_cell BK243.out 1).trans XW.i1
                  have hcz39_2 := (blk_cell BK243.out 2).trans XW.i2
                  have hfz39_0 := blk_frozen BK243.out 0
                  have hfz39_1 := blk_frozen BK243.out 1
                  have hfz39_2 := blk_frozen BK243.out 2
                  have p249 : 0 ≤ ((ji22) : Int) := of_decide_eq_true (by first | (with_reducible assumption) | assumption)
                  have q249 : (ji22) < (l0_2.length : Int) := of_decide_eq_true (by first | (with_reducible assumption) | assumption)
                  obtain ⟨ad249, A249_4, c249_4, e249, hx249_0, hx249_1, hx249_2, hx249_3, hx249_4, hl249_4, hi249_4⟩ := at_T88 HR0_2.out (ji22) p249 q249
                  obtain rfl : ad246 = ad249 := (by injection e249)
                  replace hx249_0 := (HB.out.cell (World.block_lt_of_cell? w _ hx249_0)).trans hx249_0
                  replace hx249_1 := (HB.out.cell (World.block_lt_of_cell? w _ hx249_1)).trans hx249_1
                  replace hx249_2 := (HB.out.cell (World.block_lt_of_cell? w _ hx249_2)).trans hx249_2
                  replace hx249_3 := (HB.out.cell (World.block_lt_of_cell? w _ hx249_3)).trans hx249_3
                  replace hx249_4 := (HB.out.cell (World.block_lt_of_cell? w _ hx249_4)).trans hx249_4
                  have HR249_4 := Aside0.mk hi249_4
                  have HC249_4 := Aside0.mk hl249_4
                  clear hi249_4 hl249_4
                  replace p249 := eq_true p249
                  replace q249 := eq_true q249
                  (try go_wp2)
                  repeat (go_quiet (first | (go_at_call 60; (with_reducible refine (impl_within.calls ((rd_T88 l0_2 x24_2).f0) 1 (wrap64 (a0_1 - 1)) true _ A19.out).mono ?_); rintro e w' ⟨rfl, ⟨nd, rfl⟩⟩; (try first | exact ⟨rfl, _, World.drewN_drewN _ _ _⟩ | exact ⟨rfl, _, Eq.trans (World.drewN_drewN _ _ _) (congrArg (World.drewN _) (Nat.add_assoc _ _ _))⟩)) | (go_at_call 60; (with_reducible refine (impl_within.calls ((rd_T88 l0_2 x24_2).f1) 1 8 true _ A29.out).mono ?_); rintro e w' ⟨rfl, ⟨nd, rfl⟩⟩; (try first | exact ⟨rfl, _, World.drewN_drewN _ _ _⟩ | exact ⟨rfl, _, Eq.trans (World.drewN_drewN _ _ _) (congrArg (World.drewN _) (Nat.add_assoc _ _ _))⟩)) | (go_at_call 60; (with_reducible refine (impl_within.calls ((rd_T88 l0_2 x24_2).f2) 0 99 true _ A31.out).mono ?_); rintro e w' ⟨rfl, ⟨nd, rfl⟩⟩; (try first | exact ⟨rfl, _, World.drewN_drewN _ _ _⟩ | exact ⟨rfl, _, Eq.trans (World.drewN_drewN _ _ _) (congrArg (World.drewN _) (Nat.add_assoc _ _ _))⟩))); try go_wp2)
                  go_meet
                  case rel => exact ⟨_, (decide ((((rd_T88 l0_2 x24_2).f4).length : Int) > 12)), (by first | rfl | (simp; done) | (simp [*]; done)), H', ⟨by have := HJ1.out; have := HK2.out; first | omega | exact Nat.le_refl _⟩, ⟨by exact BK243.out⟩, ⟨by exact BK247.out⟩, ⟨by repeat first | (with_reducible first | exact HB.out | apply XW.bN | apply XW.bD) | exact HB.out⟩⟩
                ·replace c32 := Bool.eq_false_iff.mpr c32
                 subst c32
                 (first | rw [if_neg (show ¬ (false = true) by decide)] at H | skip)
                 have H' := Aside0.mk H
                 clear H
                 have hnb40 := NB247_243.out
                 have hnc40 := NB243_247.out
                 have hcz41_0 := (blk_cell BK247.out 0).trans XW.i0
                 have hcz41_1 := (blk_cell BK247.out 1).trans XW.i1
                 have hcz41_2 := (blk_cell BK247.out 2).trans XW.i2
                 have hcz41_3 := (blk_cell BK247.out 3).trans XW.i3
                 have hcz41_4 := (blk_cell BK247.out 4).trans XW.i4
                 have hfz41_0 := blk_frozen BK247.out 0
                 have hfz41_1 := blk_frozen BK247.out 1
                 have hfz41_2 := blk_frozen BK247.out 2
                 have hfz41_3 := blk_frozen BK247.out 3
                 have hfz41_4 := blk_frozen BK247.out 4
                 have hcz42_0 := (blk_cell BK243.out 0).trans XW.i0
                 have hcz42_1 := (blk_cell BK243.out 1).trans XW.i1
                 have hcz42_2 := (blk_cell BK243.out 2).trans XW.i2
                 have hfz42_0 := blk_frozen BK243.out 0
                 have hfz42_1 := blk_frozen BK243.out 1
                 have hfz42_2 := blk_frozen BK243.out 2
                 have p249 : 0 ≤ ((ji22) : Int) := of_decide_eq_true (by first | (with_reducible assumption) | assumption)
                 have q249 : (ji22) < (l0_2.length : Int) := of_decide_eq_true (by first | (with_reducible assumption) | assumption)
                 obtain ⟨ad249, A249_4, c249_4, e249, hx249_0, hx249_1, hx249_2, hx249_3, hx249_4, hl249_4, hi249_4⟩ := at_T88 HR0_2.out (ji22) p249 q249
                 obtain rfl : ad246 = ad249 := (by injection e249)
                 replace hx249_0 := (HB.out.cell (World.block_lt_of_cell? w _ hx249_0)).trans hx249_0
                 replace hx249_1 := (HB.out.cell (World.block_lt_of_cell? w _ hx249_1)).trans hx249_1
                 replace hx249_2 := (HB.out.cell (World.block_lt_of_cell? w _ hx249_2)).trans hx249_2
                 replace hx249_3 := (HB.out.cell (World.block_lt_of_cell? w _ hx249_3)).trans hx249_3
                 replace hx249_4 := (HB.out.cell (World.block_lt_of_cell? w _ hx249_4)).trans hx249_4
                 have HR249_4 := Aside0.mk hi249_4
                 have HC249_4 := Aside0.mk hl249_4
                 clear hi249_4 hl249_4
                 replace p249 := eq_true p249
                 replace q249 := eq_true q249
                 (try go_wp2)
                 repeat (go_quiet (first | (go_at_call 60; (with_reducible refine (impl_within.calls ((rd_T88 l0_2 x24_2).f0) 1 (wrap64 (a0_1 - 1)) true _ A19.out).mono ?_); rintro e w' ⟨rfl, ⟨nd, rfl⟩⟩; (try first | exact ⟨rfl, _, World.drewN_drewN _ _ _⟩ | exact ⟨rfl, _, Eq.trans (World.drewN_drewN _ _ _) (congrArg (World.drewN _) (Nat.add_assoc _ _ _))⟩)) | (go_at_call 60; (with_reducible refine (impl_within.calls ((rd_T88 l0_2 x24_2).f1) 1 8 true _ A29.out).mono ?_); rintro e w' ⟨rfl, ⟨nd, rfl⟩⟩; (try first | exact ⟨rfl, _, World.drewN_drewN _ _ _⟩ | exact ⟨rfl, _, Eq.trans (World.drewN_drewN _ _ _) (congrArg (World.drewN _) (Nat.add_assoc _ _ _))⟩)) | (go_at_call 60; (with_reducible refine (impl_within.calls ((rd_T88 l0_2 x24_2).f2) 0 99 false _ A31.out).mono ?_); rintro e w' ⟨rfl, ⟨nd, rfl⟩⟩; (try first | exact ⟨rfl, _, World.drewN_drewN _ _ _⟩ | exact ⟨rfl, _, Eq.trans (World.drewN_drewN _ _ _) (congrArg (World.drewN _) (Nat.add_assoc _ _ _))⟩))); try go_wp2)
                 go_meet
                 case rel => exact ⟨_, (true), (by first | rfl | (simp; done) | (simp [*]; done)), H', ⟨by have := HJ1.out; have := HK2.out; first | omega | exact Nat.le_refl _⟩, ⟨by exact BK243.out⟩, ⟨by exact BK247.out⟩, ⟨by repeat first | (with_reducible first | exact HB.out | apply XW.bN | apply XW.bD) | exact HB.out⟩⟩
               ·replace c30 := Bool.eq_false_iff.mpr c30
                subst c30
                (first | rw [if_neg (show ¬ (false = true) by decide)] at H | skip)
                have H' := Aside0.mk H
                clear H
                have hnb43 := NB247_243.out
                have hnc43 := NB243_247.out
                have hcz44_0 := (blk_cell BK247.out 0).trans XW.i0
                have hcz44_1 := (blk_cell BK247.out 1).trans XW.i1
                have hcz44_2 := (blk_cell BK247.out 2).trans XW.i2
                have hcz44_3 := (blk_cell BK247.out 3).trans XW.i3
                have hcz44_4 := (blk_cell BK247.out 4).trans XW.i4
                have hfz44_0 := blk_frozen BK247.out 0
                have hfz44_1 := blk_frozen BK247.out 1
                have hfz44_2 := blk_frozen BK247.out 2
                have hfz44_3 := blk_frozen BK247.out 3
                have hfz44_4 := blk_frozen BK247.out 4
                have hcz45_0 := (blk_cell BK243.out 0).trans XW.i0
                have hcz45_1 := (blk_cell BK243.out 1).trans XW.i1
                have hcz45_2 := (blk_cell BK243.out 2).trans XW.i2
                have hfz45_0 := blk_frozen BK243.out 0
                have hfz45_1 := blk_frozen BK243.out 1
                have hfz45_2 := blk_frozen BK243.out 2
                have p249 : 0 ≤ ((ji22) : Int) := of_decide_eq_true (by first | (with_reducible assumption) | assumption)
                have q249 : (ji22) < (l0_2.length : Int) := of_decide_eq_true (by first | (with_reducible assumption) | assumption)
                obtain ⟨ad249, A249_4, c249_4, e249, hx249_0, hx249_1, hx249_2, hx249_3, hx249_4, hl249_4, hi249_4⟩ := at_T88 HR0_2.out (ji22) p249 q249
                obtain rfl : ad246 = ad249 := (by injection e249)
                replace hx249_0 := (HB.out.cell (World.block_lt_of_cell? w _ hx249_0)).trans hx249_0
                replace hx249_1 := (HB.out.cell (World.block_lt_of_cell? w _ hx249_1)).trans hx249_1
                replace hx249_2 := (HB.out.cell (World.block_lt_of_cell? w _ hx249_2)).trans hx249_2
                replace hx249_3 := (HB.out.cell (World.block_lt_of_cell? w _ hx249_3)).trans hx249_3
                replace hx249_4 := (HB.out.cell (World.block_lt_of_cell? w _ hx249_4)).trans hx249_4
                have HR249_4 := Aside0.mk hi249_4
                have HC249_4 := Aside0.mk hl249_4
                clear hi249_4 hl249_4
                replace p249 := eq_true p249
                replace q249 := eq_true q249
                (try go_wp2)
                repeat (go_quiet (first | (go_at_call 60; (with_reducible refine (impl_within.calls ((rd_T88 l0_2 x24_2).f0) 1 (wrap64 (a0_1 - 1)) true _ A19.out).mono ?_); rintro e w' ⟨rfl, ⟨nd, rfl⟩⟩; (try first | exact ⟨rfl, _, World.drewN_drewN _ _ _⟩ | exact ⟨rfl, _, Eq.trans (World.drewN_drewN _ _ _) (congrArg (World.drewN _) (Nat.add_assoc _ _ _))⟩)) | (go_at_call 60; (with_reducible refine (impl_within.calls ((rd_T88 l0_2 x24_2).f1) 1 8 false _ A29.out).mono ?_); rintro e w' ⟨rfl, ⟨nd, rfl⟩⟩; (try first | exact ⟨rfl, _, World.drewN_drewN _ _ _⟩ | exact ⟨rfl, _, Eq.trans (World.drewN_drewN _ _ _) (congrArg (World.drewN _) (Nat.add_assoc _ _ _))⟩))); try go_wp2)
                go_meet
                case rel => exact ⟨_, (true), (by first | rfl | (simp; done) | (simp [*]; done)), H', ⟨by have := HJ1.out; have := HK2.out; first | omega | exact Nat.le_refl _⟩, ⟨by exact BK243.out⟩, ⟨by exact BK247.out⟩, ⟨by repeat first | (with_reducible first | exact HB.out | apply XW.bN | apply XW.bD) | exact HB.out⟩⟩
             ·rw [if_neg c24] at H
              exact absurd H (by simp)
            ·rw [if_neg c23] at H
             exact absurd H (by simp)
           ·rw [if_neg c21] at H
            have c21b0 : decide (0 < x24_2) = false := decide_eq_false c21
            clear c21
            (first | rw [c21b0] | (simp only [i64_w, i32_w]; rw [c21b0]) | skip)
            replace H := Option.bind_eq_some_iff.mp H
            obtain ⟨t252, A460, H⟩ := H
            (try dsimp only at H)
            have A46 := Aside0.mk A460
            clear A460
            by_cases c47 : t252 = true
            ·subst c47
             (first | rw [if_pos rfl] at H | skip)
             replace H := Option.bind_eq_some_iff.mp H
             obtain ⟨t253, A480, H⟩ := H
             (try dsimp only at H)
             have A48 := Aside0.mk A480
             clear A480
             by_cases c49 : t253 = true
             ·subst c49
              (first | rw [if_pos rfl] at H | skip)
              by_cases c50 : (((rd_T88 l0_2 x24_2).f3).size : Int) > 20
              ·rw [if_pos c50] at H
               have c50b0 : decide (20 < (((rd_T88 l0_2 x24_2).f3).size : Int)) = true := decide_eq_true c50
               have c50b1 : decide (20 < ((rd_T88 l0_2 x24_2).f3).size) = true := decide_eq_true (by omega)
               clear c50
               have H' := Aside0.mk H
               clear H
               have hnb51 := NB247_243.out
               have hnc51 := NB243_247.out
               have hcz52_0 := (blk_cell BK247.out 0).trans XW.i0
               have hcz52_1 := (blk_cell BK247.out 1).trans XW.i1
               have hcz52_2 := (blk_cell BK247.out 2).trans XW.i2
               have hcz52_3 := (blk_cell BK247.out 3).trans XW.i3
               have hcz52_4 := (blk_cell BK247.out 4).trans XW.i4
               have hfz52_0 := blk_frozen BK247.out 0
               have hfz52_1 := blk_frozen BK247.out 1
               have hfz52_2 := blk_frozen BK247.out 2
               have hfz52_3 := blk_frozen BK247.out 3
               have hfz52_4 := blk_frozen BK247.out 4
               have hcz53_0 := (blk_cell BK243.out 0).trans XW.i0
               have hcz53_1 := (blk_cell BK243.out 1).trans XW.i1
               have hcz53_2 := (blk_cell BK243.out 2).trans XW.i2
               have hfz53_0 := blk_frozen BK243.out 0
               have hfz53_1 := blk_frozen BK243.out 1
               have hfz53_2 := blk_frozen BK243.out 2
               (try go_wp2)
               repeat (go_quiet (first | (go_at_call 60; (with_reducible refine (impl_within.calls ((rd_T88 l0_2 x24_2).f0) 1 (wrap64 (a0_1 - 1)) true _ A19.out).mono ?_); rintro e w' ⟨rfl, ⟨nd, rfl⟩⟩; (try first | exact ⟨rfl, _, World.drewN_drewN _ _ _⟩ | exact ⟨rfl, _, Eq.trans (World.drewN_drewN _ _ _) (congrArg (World.drewN _) (Nat.add_assoc _ _ _))⟩)) | (go_at_call 60; (with_reducible refine (impl_within.calls ((rd_T88 l0_2 x24_2).f1) 1 8 true _ A46.out).mono ?_); rintro e w' ⟨rfl, ⟨nd, rfl⟩⟩; (try first | exact ⟨rfl, _, World.drewN_drewN _ _ _⟩ | exact ⟨rfl, _, Eq.trans (World.drewN_drewN _ _ _) (congrArg (World.drewN _) (Nat.add_assoc _ _ _))⟩)) | (go_at_call 60; (with_reducible refine (impl_within.calls ((rd_T88 l0_2 x24_2).f2) 0 99 true _ A48.out).mono ?_); rintro e w' ⟨rfl, ⟨nd, rfl⟩⟩; (try first | exact ⟨rfl, _, World.drewN_drewN _ _ _⟩ | exact ⟨rfl, _, Eq.trans (World.drewN_drewN _ _ _) (congrArg (World.drewN _) (Nat.add_assoc _ _ _))⟩))); try go_wp2)
               go_meet
               case rel => exact ⟨_, (true), (by first | rfl | (simp; done) | (simp [*]; done)), H', ⟨by have := HJ1.out; have := HK2.out; first | omega | exact Nat.le_refl _⟩, ⟨by exact BK243.out⟩, ⟨by exact BK247.out⟩, ⟨by repeat first | (with_reducible first | exact HB.out | apply XW.bN | apply XW.bD) | exact HB.out⟩⟩
              ·rw [if_neg c50] at H
               have c50b0 : decide (20 < (((rd_T88 l0_2 x24_2).f3).size : Int)) = false := decide_eq_false c50
               have c50b1 : decide (20 < ((rd_T88 l0_2 x24_2).f3).size) = false := decide_eq_false (by omega)
               clear c50
               have H' := Aside0.mk H
               clear H
               have hnb54 := NB247_243.out
               have hnc54 := NB243_247.out
               have hcz55_0 := (blk_cell BK247.out 0).trans XW.i0
               have hcz55_1 := (blk_cell BK247.out 1).trans XW.i1
               have hcz55_2 := (blk_cell BK247.out 2).trans XW.i2
               have hcz55_3 := (blk_cell BK247.out 3).trans XW.i3
               have hcz55_4 := (blk_cell BK247.out 4).trans XW.i4
               have hfz55_0 := blk_frozen BK247.out 0
               have hfz55_1 := blk_frozen BK247.out 1
               have hfz55_2 := blk_frozen BK247.out 2
               have hfz55_3 := blk_frozen BK247.out 3
               have hfz55_4 := blk_frozen BK247.out 4
               have hcz56_0 := (blk_cell BK243.out 0).trans XW.i0
               have hcz56_1 := (blk_cell BK243.out 1).trans XW.i1
               have hcz56_2 := (blk_cell BK243.out 2).trans XW.i2
               have hfz56_0 := blk_frozen BK243.out 0
               have hfz56_1 := blk_frozen BK243.out 1
               have hfz56_2 := blk_frozen BK243.out 2
               (try go_wp2)
               repeat (go_quiet (first | (go_at_call 60; (with_reducible refine (impl_within.calls ((rd_T88 l0_2 x24_2).f0) 1 (wrap64 (a0_1 - 1)) true _ A19.out).mono ?_); rintro e w' ⟨rfl, ⟨nd, rfl⟩⟩; (try first | exact ⟨rfl, _, World.drewN_drewN _ _ _⟩ | exact ⟨rfl, _, Eq.trans (World.drewN_drewN _ _ _) (congrArg (World.drewN _) (Nat.add_assoc _ _ _))⟩)) | (go_at_call 60; (with_reducible refine (impl_within.calls ((rd_T88 l0_2 x24_2).f1) 1 8 true _ A46.out).mono ?_); rintro e w' ⟨rfl, ⟨nd, rfl⟩⟩; (try first | exact ⟨rfl, _, World.drewN_drewN _ _ _⟩ | exact ⟨rfl, _, Eq.trans (World.drewN_drewN _ _ _) (congrArg (World.drewN _) (Nat.add_assoc _ _ _))⟩)) | (go_at_call 60; (with_reducible refine (impl_within.calls ((rd_T88 l0_2 x24_2).f2) 0 99 true _ A48.out).mono ?_); rintro e w' ⟨rfl, ⟨nd, rfl⟩⟩; (try first | exact ⟨rfl, _, World.drewN_drewN _ _ _⟩ | exact ⟨rfl, _, Eq.trans (World.drewN_drewN _ _ _) (congrArg (World.drewN _) (Nat.add_assoc _ _ _))⟩))); try go_wp2)
               go_meet
               case rel => exact ⟨_, (decide ((((rd_T88 l0_2 x24_2).f4).length : Int) > 12)), (by first | rfl | (simp; done) | (simp [*]; done)), H', ⟨by have := HJ1.out; have := HK2.out; first | omega | exact Nat.le_refl _⟩, ⟨by exact BK243.out⟩, ⟨by exact BK247.out⟩, ⟨by repeat first | (with_reducible first | exact HB.out | apply XW.bN | apply XW.bD) | exact HB.out⟩⟩
             ·replace c49 := Bool.eq_false_iff.mpr c49
              subst c49
              (first | rw [if_neg (show ¬ (false = true) by decide)] at H | skip)
              have H' := Aside0.mk H
              clear H
              have hnb57 := NB247_243.out
              have hnc57 := NB243_247.out
              have hcz58_0 := (blk_cell BK247.out 0).trans XW.i0
              have hcz58_1 := (blk_cell BK247.out 1).trans XW.i1
              have hcz58_2 := (blk_cell BK247.out 2).trans XW.i2
              have hcz58_3 := (blk_cell BK247.out 3).trans XW.i3
              have hcz58_4 := (blk_cell BK247.out 4).trans XW.i4
              have hfz58_0 := blk_frozen BK247.out 0
              have hfz58_1 := blk_frozen BK247.out 1
              have hfz58_2 := blk_frozen BK247.out 2
              have hfz58_3 := blk_frozen BK247.out 3
              have hfz58_4 := blk_frozen BK247.out 4
              have hcz59_0 := (blk_cell BK243.out 0).trans XW.i0
              have hcz59_1 := (blk_cell BK243.out 1).trans XW.i1
              have hcz59_2 := (blk_cell BK243.out 2).trans XW.i2
              have hfz59_0 := blk_frozen BK243.out 0
              have hfz59_1 := blk_frozen BK243.out 1
              have hfz59_2 := blk_frozen BK243.out 2
              (try go_wp2)
              repeat (go_quiet (first | (go_at_call 60; (with_reducible refine (impl_within.calls ((rd_T88 l0_2 x24_2).f0) 1 (wrap64 (a0_1 - 1)) true _ A19.out).mono ?_); rintro e w' ⟨rfl, ⟨nd, rfl⟩⟩; (try first | exact ⟨rfl, _, World.drewN_drewN _ _ _⟩ | exact ⟨rfl, _, Eq.trans (World.drewN_drewN _ _ _) (congrArg (World.drewN _) (Nat.add_assoc _ _ _))⟩)) | (go_at_call 60; (with_reducible refine (impl_within.calls ((rd_T88 l0_2 x24_2).f1) 1 8 true _ A46.out).mono ?_); rintro e w' ⟨rfl, ⟨nd, rfl⟩⟩; (try first | exact ⟨rfl, _, World.drewN_drewN _ _ _⟩ | exact ⟨rfl, _, Eq.trans (World.drewN_drewN _ _ _) (congrArg (World.drewN _) (Nat.add_assoc _ _ _))⟩)) | (go_at_call 60; (with_reducible refine (impl_within.calls ((rd_T88 l0_2 x24_2).f2) 0 99 false _ A48.out).mono ?_); rintro e w' ⟨rfl, ⟨nd, rfl⟩⟩; (try first | exact ⟨rfl, _, World.drewN_drewN _ _ _⟩ | exact ⟨rfl, _, Eq.trans (World.drewN_drewN _ _ _) (congrArg (World.drewN _) (Nat.add_assoc _ _ _))⟩))); try go_wp2)
              go_meet
              case rel => exact ⟨_, (true), (by first | rfl | (simp; done) | (simp [*]; done)), H', ⟨by have := HJ1.out; have := HK2.out; first | omega | exact Nat.le_refl _⟩, ⟨by exact BK243.out⟩, ⟨by exact BK247.out⟩, ⟨by repeat first | (with_reducible first | exact HB.out | apply XW.bN | apply XW.bD) | exact HB.out⟩⟩
            ·replace c47 := Bool.eq_false_iff.mpr c47
             subst c47
             (first | rw [if_neg (show ¬ (false = true) by decide)] at H | skip)
             have H' := Aside0.mk H
             clear H
             have hnb60 := NB247_243.out
             have hnc60 := NB243_247.out
             have hcz61_0 := (blk_cell BK247.out 0).trans XW.i0
             have hcz61_1 := (blk_cell BK247.out 1).trans XW.i1
             have hcz61_2 := (blk_cell BK247.out 2).trans XW.i2
             have hcz61_3 := (blk_cell BK247.out 3).trans XW.i3
             have hcz61_4 := (blk_cell BK247.out 4).trans XW.i4
             have hfz61_0 := blk_frozen BK247.out 0
             have hfz61_1 := blk_frozen BK247.out 1
             have hfz61_2 := blk_frozen BK247.out 2
             have hfz61_3 := blk_frozen BK247.out 3
             have hfz61_4 := blk_frozen BK247.out 4
             have hcz62_0 := (blk_cell BK243.out 0).trans XW.i0
             have hcz62_1 := (blk_cell BK243.out 1).trans XW.i1
             have hcz62_2 := (blk_cell BK243.out 2).trans XW.i2
             have hfz62_0 := blk_frozen BK243.out 0
             have hfz62_1 := blk_frozen BK243.out 1
             have hfz62_2 := blk_frozen BK243.out 2
             (try go_wp2)
             repeat (go_quiet (first | (go_at_call 60; (with_reducible refine (impl_within.calls ((rd_T88 l0_2 x24_2).f0) 1 (wrap64 (a0_1 - 1)) true _ A19.out).mono ?_); rintro e w' ⟨rfl, ⟨nd, rfl⟩⟩; (try first | exact ⟨rfl, _, World.drewN_drewN _ _ _⟩ | exact ⟨rfl, _, Eq.trans (World.drewN_drewN _ _ _) (congrArg (World.drewN _) (Nat.add_assoc _ _ _))⟩)) | (go_at_call 60; (with_reducible refine (impl_within.calls ((rd_T88 l0_2 x24_2).f1) 1 8 false _ A46.out).mono ?_); rintro e w' ⟨rfl, ⟨nd, rfl⟩⟩; (try first | exact ⟨rfl, _, World.drewN_drewN _ _ _⟩ | exact ⟨rfl, _, Eq.trans (World.drewN_drewN _ _ _) (congrArg (World.drewN _) (Nat.add_assoc _ _ _))⟩))); try go_wp2)
             go_meet
             case rel => exact ⟨_, (true), (by first | rfl | (simp; done) | (simp [*]; done)), H', ⟨by have := HJ1.out; have := HK2.out; first | omega | exact Nat.le_refl _⟩, ⟨by exact BK243.out⟩, ⟨by exact BK247.out⟩, ⟨by repeat first | (with_reducible first | exact HB.out | apply XW.bN | apply XW.bD) | exact HB.out⟩⟩
          ·replace c20 := Bool.eq_false_iff.mpr c20
           subst c20
           (first | rw [if_neg (show ¬ (false = true) by decide)] at H | skip)
           have H' := Aside0.mk H
           clear H
           have hnb63 := NB247_243.out
           have hnc63 := NB243_247.out
           have hcz64_0 := (blk_cell BK247.out 0).trans XW.i0
           have hcz64_1 := (blk_cell BK247.out 1).trans XW.i1
           have hcz64_2 := (blk_cell BK247.out 2).trans XW.i2
           have hcz64_3 := (blk_cell BK247.out 3).trans XW.i3
           have hcz64_4 := (blk_cell BK247.out 4).trans XW.i4
           have hfz64_0 := blk_frozen BK247.out 0
           have hfz64_1 := blk_frozen BK247.out 1
           have hfz64_2 := blk_frozen BK247.out 2
           have hfz64_3 := blk_frozen BK247.out 3
           have hfz64_4 := blk_frozen BK247.out 4
           have hcz65_0 := (blk_cell BK243.out 0).trans XW.i0
           have hcz65_1 := (blk_cell BK243.out 1).trans XW.i1
           have hcz65_2 := (blk_cell BK243.out 2).trans XW.i2
           have hfz65_0 := blk_frozen BK243.out 0
           have hfz65_1 := blk_frozen BK243.out 1
           have hfz65_2 := blk_frozen BK243.out 2
           (try go_wp2)
           repeat (go_quiet (first | (go_at_call 60; (with_reducible refine (impl_within.calls ((rd_T88 l0_2 x24_2).f0) 1 (wrap64 (a0_1 - 1)) false _ A19.out).mono ?_); rintro e w' ⟨rfl, ⟨nd, rfl⟩⟩; (try first | exact ⟨rfl, _, World.drewN_drewN _ _ _⟩ | exact ⟨rfl, _, Eq.trans (World.drewN_drewN _ _ _) (congrArg (World.drewN _) (Nat.add_assoc _ _ _))⟩))); try go_wp2)
           go_meet
           case rel => exact ⟨_, (true), (by first | rfl | (simp; done) | (simp [*]; done)), H', ⟨by have := HJ1.out; have := HK2.out; first | omega | exact Nat.le_refl _⟩, ⟨by exact BK243.out⟩, ⟨by exact BK247.out⟩, ⟨by repeat first | (with_reducible first | exact HB.out | apply XW.bN | apply XW.bD) | exact HB.out⟩⟩
         case rest =>
          clear HC14
          (try clear c9); (try clear c11); (try clear c11b0); (try clear c12); (try clear c12b0); (try clear c13); (try clear c13b0); (try clear hcz10_0); (try clear hcz10_1); (try clear hcz10_2); (try clear hcz17_0); (try clear hcz17_1); (try clear hcz17_2); (try clear hcz17_3); (try clear hcz17_4); (try clear hfz10_0); (try clear hfz10_1); (try clear hfz10_2); (try clear hfz17_0); (try clear hfz17_1); (try clear hfz17_2); (try clear hfz17_3); (try clear hfz17_4); (try clear hx246_0); (try clear hx246_1); (try clear hx246_2); (try clear hx246_3); (try clear hx246_4); (try clear p246); (try clear q246)
          obtain ⟨kq, x75_13, rfl, HA, HJ13, BK243, BK247, HB⟩ := hcut
          cases kq with
          | zero => exact absurd HA.out (by simp [impl_DocOK.j2])
          | succ kj13 =>
           have H := HA.out
           clear HA
           simp only [impl_DocOK.j2] at H
           by_cases c66 : x75_13 = true
           ·subst c66
            (first | rw [if_pos rfl] at H | skip)
            obtain rfl := Option.some.inj H
            go_wp2
            go_ret
            exact ⟨by first | rfl | (simp [errW_none, errW_some] <;> rfl) | (simp [*, errW_none, errW_some] <;> rfl), by repeat first | (with_reducible first | exact HB.out | apply XW.bN | apply XW.bD) | exact HB.out⟩
           ·replace c66 := Bool.eq_false_iff.mpr c66
            subst c66
            (first | rw [if_neg (show ¬ (false = true) by decide)] at H | skip)
            have H' := Aside0.mk H
            clear H
            go_wp2
            go_roundg kj13
            case measure => have := HJ1.out; have := HK2.out; have := HJ13.out; omega
            case rel => exact ⟨(wrap64 (x24_2 + 1)), (by first | rfl | (simp; done) | (simp [*]; done)), H', ⟨by have := HJ1.out; have := HK2.out; have := HJ13.out; omega⟩, ⟨by exact BK243.out⟩, ⟨by repeat first | (with_reducible first | exact HB.out | apply XW.bN | apply XW.bD) | exact HB.out⟩⟩
        ·rw [if_neg c13] at H
         exact absurd H (by simp)
       ·rw [if_neg c12] at H
        exact absurd H (by simp)
      ·rw [if_neg c11] at H
       have c11b0 : decide (x24_2 < (l0_2.length : Int)) = false := decide_eq_false c11
       clear c11
       have H' := Aside0.mk H
       clear H
       go_wp2_with (first | ((with_reducible refine gate_dst (N := 77) rfl ?_); (try (refine gate_guard (by rfl) ?_; dsimp only)); refine XM.make_event Value.bool ?hg (N := 77) ?hd 89 ?hr ?_; (case hd => rfl); (case hg => rfl); (case hr => rfl); intro gb254 hg w67 hbox hb; have BK254 := Aside0.mk (hbox); have GW254 := Aside0.mk ((by rw [hg]; exact (below_size (by repeat first | (with_reducible first | exact HB.out | apply XW.bN | apply XW.bD) | exact HB.out)) : w.heap.size ≤ gb254)); have GE254 := Aside0.mk ((by rw [hg]; exact (below_size (by repeat first | (with_reducible first | exact HB.out | apply XW.bN | apply XW.bD) | exact HB.out)) : w.heap.size ≤ gb254)); replace HB := Aside0.mk (below_step (by repeat first | (with_reducible first | exact HB.out | apply XW.bN | apply XW.bD) | exact HB.out) hb); have NB243_254 := Aside0.mk ((by rw [hg]; exact Nat.ne_of_lt (blk_lt (g := gb243) (o := .cells #[.int .i64 a0_0, .int .i64 a0_1, .slice A0_2 l0_2.length c0_2] 29 (0, 0)) (by exact BK243.out)) : gb243 ≠ gb254)); have NB254_243 := Aside0.mk ((by rw [hg]; exact Nat.ne_of_gt (blk_lt (g := gb243) (o := .cells #[.int .i64 a0_0, .int .i64 a0_1, .slice A0_2 l0_2.length c0_2] 29 (0, 0)) (by exact BK243.out)) : gb254 ≠ gb243)); replace BK243 := Aside0.mk (blk_below (g := gb243) (o := .cells #[.int .i64 a0_0, .int .i64 a0_1, .slice A0_2 l0_2.length c0_2] 29 (0, 0)) (by exact BK243.out) hb); clear hb hbox hg; have hnb68 := NB243_254.out; have hnc68 := NB254_243.out; have hcz69_0 := (blk_cell BK243.out 0).trans XW.i0; have hcz69_1 := (blk_cell BK243.out 1).trans XW.i1; have hcz69_2 := (blk_cell BK243.out 2).trans XW.i2; have hfz69_0 := blk_frozen BK243.out 0; have hfz69_1 := blk_frozen BK243.out 1; have hfz69_2 := blk_frozen BK243.out 2))
       go_loopg [81] k2 (fun kq v81 w' => ∃ (x81_3 : Int) (x255000_3 : List (Int × Bool)), v81 = .int .i64 x81_3 ∧ Aside0 (impl_DocOK.l1 kq l0_2 (l0_2.length : Int) x81_3 a0_0 a0_1 l0_2 x255000_3 = some r) ∧ Aside0 (kq ≤ k2) ∧ Aside0 (w'.heap[gb243]? = some (.cells #[.int .i64 a0_0, .int .i64 a0_1, (.slice A0_2 l0_2.length c0_2)] 29 (0, 0))) ∧ Aside0 (w'.heap[gb254]? = some (XM.mapObj Value.bool x255000_3)) ∧ Aside0 (Below w.heap.size w w'))
       case atStart => exact ⟨(0), (([] : List (Int × Bool))), (by first | rfl | (simp; done) | (simp [*]; done)), H', ⟨Nat.le_refl _⟩, ⟨by exact BK243.out⟩, ⟨by exact BK254.out⟩, ⟨by repeat first | (with_reducible first | exact HB.out | apply XW.bN | apply XW.bD) | exact HB.out⟩⟩
       case round =>
        clear H'
        (try clear c9); (try clear c11); (try clear c11b0); (try clear hcz10_0); (try clear hcz10_1); (try clear hcz10_2); (try clear hcz69_0); (try clear hcz69_1); (try clear hcz69_2); (try clear hfz10_0); (try clear hfz10_1); (try clear hfz10_2); (try clear hfz69_0); (try clear hfz69_1); (try clear hfz69_2)
        obtain ⟨x81_3, x255000_3, rfl, HA, HK3, BK243, BK254, HB⟩ := hrel
        cases gk with
        | zero => exact absurd HA.out (by simp [impl_DocOK.l1])
        | succ k3 =>
         have H := HA.out
         clear HA
         simp only [impl_DocOK.l1] at H
         by_cases c70 : x81_3 < (l0_2.length : Int)
         ·rw [if_pos c70] at H
          have c70b0 : decide (x81_3 < (l0_2.length : Int)) = true := decide_eq_true c70
          clear c70
          by_cases c71 : 0 ≤ x81_3
          ·rw [if_pos c71] at H
           have c71b0 : decide (0 ≤ x81_3) = true := decide_eq_true c71
           clear c71
           by_cases c72 : x81_3 < (l0_2.length : Int)
           ·rw [if_pos c72] at H
            have c72b0 : decide (x81_3 < (l0_2.length : Int)) = true := decide_eq_true c72
            clear c72
            have H' := Aside0.mk H
            clear H
            have p255 : 0 ≤ (x81_3 : Int) := of_decide_eq_true (by first | (with_reducible assumption) | assumption)
            have q255 : x81_3 < (l0_2.length : Int) := of_decide_eq_true (by first | (with_reducible assumption) | assumption)
            obtain ⟨ad255, A255_4, c255_4, e255, hx255_0, hx255_1, hx255_2, hx255_3, hx255_4, hl255_4, hi255_4⟩ := at_T88 HR0_2.out x81_3 p255 q255
            cases e255
            replace hx255_0 := (HB.out.cell (World.block_lt_of_cell? w _ hx255_0)).trans hx255_0
            replace hx255_1 := (HB.out.cell (World.block_lt_of_cell? w _ hx255_1)).trans hx255_1
            replace hx255_2 := (HB.out.cell (World.block_lt_of_cell? w _ hx255_2)).trans hx255_2
            replace hx255_3 := (HB.out.cell (World.block_lt_of_cell? w _ hx255_3)).trans hx255_3
            replace hx255_4 := (HB.out.cell (World.block_lt_of_cell? w _ hx255_4)).trans hx255_4
            have HR255_4 := Aside0.mk hi255_4
            have HC255_4 := Aside0.mk hl255_4
            clear hi255_4 hl255_4
            replace p255 := eq_true p255
            replace q255 := eq_true q255
            go_wp2_with (first | ((with_reducible refine gate_dst (N := 7) rfl ?_); (try (refine gate_guard (by rfl) ?_; dsimp only)); refine box_event ?hg (N := 7) ?hd (cs := #[.int .i64 0, .int .i64 0, .int .i64 0, .string (⟨#[]⟩ : ByteArray), .slice none 0 0]) (t := 88) ?hr ?_; (case hd => rfl); (case hg => rfl); (case hr => first | (go_simp; done) | (go_simp; rfl)); intro gb256 hg w73 hbox hb; have BK256 := Aside0.mk (hbox); have GW256 := Aside0.mk ((by rw [hg]; exact (below_size (by repeat first | (with_reducible first | exact HB.out | apply XW.bN | apply XW.bD) | exact HB.out)) : w.heap.size ≤ gb256)); have GE256 := Aside0.mk ((by rw [hg]; exact (below_size (by repeat first | (with_reducible first | exact HB.out | apply XW.bN | apply XW.bD) | exact HB.out)) : w.heap.size ≤ gb256)); replace HB := Aside0.mk (below_step (by repeat first | (with_reducible first | exact HB.out | apply XW.bN | apply XW.bD) | exact HB.out) hb); have NB243_256 := Aside0.mk ((by rw [hg]; exact Nat.ne_of_lt (blk_lt (g := gb243) (o := .cells #[.int .i64 a0_0, .int .i64 a0_1, .slice (some ad255) l0_2.length c0_2] 29 (0, 0)) (by exact BK243.out)) : gb243 ≠ gb256)); have NB256_243 := Aside0.mk ((by rw [hg]; exact Nat.ne_of_gt (blk_lt (g := gb243) (o := .cells #[.int .i64 a0_0, .int .i64 a0_1, .slice (some ad255) l0_2.length c0_2] 29 (0, 0)) (by exact BK243.out)) : gb256 ≠ gb243)); replace BK243 := Aside0.mk (blk_below (g := gb243) (o := .cells #[.int .i64 a0_0, .int .i64 a0_1, .slice (some ad255) l0_2.length c0_2] 29 (0, 0)) (by exact BK243.out) hb); have NB254_256 := Aside0.mk ((by rw [hg]; exact Nat.ne_of_lt (blk_lt (g := gb254) (o := XM.mapObj Value.bool x255000_3) (by exact BK254.out)) : gb254 ≠ gb256)); have NB256_254 := Aside0.mk ((by rw [hg]; exact Nat.ne_of_gt (blk_lt (g := gb254) (o := XM.mapObj Value.bool x255000_3) (by exact BK254.out)) : gb256 ≠ gb254)); replace BK254 := Aside0.mk (blk_below (g := gb254) (o := XM.mapObj Value.bool x255000_3) (by exact BK254.out) hb); clear hb hbox hg; have hnb74 := NB256_243.out; have hnc74 := NB243_256.out; have hnb75 := NB256_254.out; have hnc75 := NB254_256.out; have hcz76_0 := (blk_cell BK256.out 0).trans XW.i0; have hcz76_1 := (blk_cell BK256.out 1).trans XW.i1; have hcz76_2 := (blk_cell BK256.out 2).trans XW.i2; have hcz76_3 := (blk_cell BK256.out 3).trans XW.i3; have hcz76_4 := (blk_cell BK256.out 4).trans XW.i4; have hfz76_0 := blk_frozen BK256.out 0; have hfz76_1 := blk_frozen BK256.out 1; have hfz76_2 := blk_frozen BK256.out 2; have hfz76_3 := blk_frozen BK256.out 3; have hfz76_4 := blk_frozen BK256.out 4) | ((with_reducible refine gate_store (t := 88) (p := 7) rfl ?_); refine store_event (t := 88) (p := 7) (v := ?vo_w77) (w1 := (((((w73.setCell ⟨gb256, 0, none⟩ (.int .i64 ((rd_T88 l0_2 x81_3).f0))).setCell ⟨gb256, 1, none⟩ (.int .i64 ((rd_T88 l0_2 x81_3).f1))).setCell ⟨gb256, 2, none⟩ (.int .i64 ((rd_T88 l0_2 x81_3).f2))).setCell ⟨gb256, 3, none⟩ (.string ((rd_T88 l0_2 x81_3).f3))).setCell ⟨gb256, 4, none⟩ (.slice A255_4 ((rd_T88 l0_2 x81_3).f4).length c255_4))) ?hg ?ho ?hn ?hr ?_; (case ho => rfl); (case hg => rfl); (case hn => rfl); (case hr => first | (go_simp; done) | (go_simp; rfl)); intro w77 hw; have n0_ : Aside0 (w77.heap[gb243]? = some (.cells #[.int .i64 a0_0, .int .i64 a0_1, .slice (some ad255) l0_2.length c0_2] 29 (0, 0))) := ⟨(by rw [hw]; exact (by (with_reducible repeat (first | refine blk_drewN ?_ _ | refine blk_drew ?_ | refine blk_alloc ?_ _)); refine blk_far ?_ NB243_256.out _; (with_reducible repeat (first | refine blk_drewN ?_ _ | refine blk_drew ?_ | refine blk_alloc ?_ _)); refine blk_far ?_ NB243_256.out _; (with_reducible repeat (first | refine blk_drewN ?_ _ | refine blk_drew ?_ | refine blk_alloc ?_ _)); refine blk_far ?_ NB243_256.out _; (with_reducible repeat (first | refine blk_drewN ?_ _ | refine blk_drew ?_ | refine blk_alloc ?_ _)); refine blk_far ?_ NB243_256.out _; (with_reducible repeat (first | refine blk_drewN ?_ _ | refine blk_drew ?_ | refine blk_alloc ?_ _)); refine blk_far ?_ NB243_256.out _; (with_reducible repeat (first | refine blk_drewN ?_ _ | refine blk_drew ?_ | refine blk_alloc ?_ _)); exact BK243.out))⟩; have n1_ : Aside0 (w77.heap[gb254]? = some (XM.mapObj Value.bool x255000_3)) := ⟨(by rw [hw]; exact (by (with_reducible repeat (first | refine blk_drewN ?_ _ | refine blk_drew ?_ | refine blk_alloc ?_ _)); refine XM.blk_far ?_ NB254_256.out _; (with_reducible repeat (first | refine blk_drewN ?_ _ | refine blk_drew ?_ | refine blk_alloc ?_ _)); refine XM.blk_far ?_ NB254_256.out _; (with_reducible repeat (first | refine blk_drewN ?_ _ | refine blk_drew ?_ | refine blk_alloc ?_ _)); refine XM.blk_far ?_ NB254_256.out _; (with_reducible repeat (first | refine blk_drewN ?_ _ | refine blk_drew ?_ | refine blk_alloc ?_ _)); refine XM.blk_far ?_ NB254_256.out _; (with_reducible repeat (first | refine blk_drewN ?_ _ | refine blk_drew ?_ | refine blk_alloc ?_ _)); refine XM.blk_far ?_ NB254_256.out _; (with_reducible repeat (first | refine blk_drewN ?_ _ | refine blk_drew ?_ | refine blk_alloc ?_ _)); exact BK254.out))⟩; have n2_ : Aside0 (w77.heap[gb256]? = some (.cells #[.int .i64 ((rd_T88 l0_2 x81_3).f0), .int .i64 ((rd_T88 l0_2 x81_3).f1), .int .i64 ((rd_T88 l0_2 x81_3).f2), .string ((rd_T88 l0_2 x81_3).f3), .slice A255_4 ((rd_T88 l0_2 x81_3).f4).length c255_4] 88 (0, 0))) := ⟨(by rw [hw]; exact (by (with_reducible repeat (first | refine blk_drewN ?_ _ | refine blk_drew ?_ | refine blk_alloc ?_ _)); refine blk_put (cs := #[.int .i64 ((rd_T88 l0_2 x81_3).f0), .int .i64 ((rd_T88 l0_2 x81_3).f1), .int .i64 ((rd_T88 l0_2 x81_3).f2), .string ((rd_T88 l0_2 x81_3).f3), .slice none 0 0]) ?_ 4 _ rfl; (with_reducible repeat (first | refine blk_drewN ?_ _ | refine blk_drew ?_ | refine blk_alloc ?_ _)); refine blk_put (cs := #[.int .i64 ((rd_T88 l0_2 x81_3).f0), .int .i64 ((rd_T88 l0_2 x81_3).f1), .int .i64 ((rd_T88 l0_2 x81_3).f2), .string (⟨#[]⟩ : ByteArray), .slice none 0 0]) ?_ 3 _ rfl; (with_reducible repeat (first | refine blk_drewN ?_ _ | refine blk_drew ?_ | refine blk_alloc ?_ _)); refine blk_put (cs := #[.int .i64 ((rd_T88 l0_2 x81_3).f0), .int .i64 ((rd_T88 l0_2 x81_3).f1), .int .i64 0, .string (⟨#[]⟩ : ByteArray), .slice none 0 0]) ?_ 2 _ rfl; (with_reducible repeat (first | refine blk_drewN ?_ _ | refine blk_drew ?_ | refine blk_alloc ?_ _)); refine blk_put (cs := #[.int .i64 ((rd_T88 l0_2 x81_3).f0), .int .i64 0, .int .i64 0, .string (⟨#[]⟩ : ByteArray), .slice none 0 0]) ?_ 1 _ rfl; (with_reducible repeat (first | refine blk_drewN ?_ _ | refine blk_drew ?_ | refine blk_alloc ?_ _)); refine blk_put (cs := #[.int .i64 0, .int .i64 0, .int .i64 0, .string (⟨#[]⟩ : ByteArray), .slice none 0 0]) ?_ 0 _ rfl; (with_reducible repeat (first | refine blk_drewN ?_ _ | refine blk_drew ?_ | refine blk_alloc ?_ _)); exact BK256.out))⟩; have n3_ : Aside0 (Below w.heap.size w w77) := ⟨(by rw [hw]; exact (by repeat first | (with_reducible first | exact HB.out | apply XW.bN | apply XW.bD | refine below_set ?_ GE243.out | refine below_set ?_ GE254.out | refine below_set ?_ GE256.out) | exact HB.out))⟩; clear hw; clear BK243; clear BK254; clear BK256; clear HB; have BK243 := n0_; have BK254 := n1_; have BK256 := n2_; have HB := n3_; clear n0_ n1_ n2_ n3_; have hcz78_0 := (blk_cell BK256.out 0).trans XW.i0; have hcz78_1 := (blk_cell BK256.out 1).trans XW.i1; have hcz78_2 := (blk_cell BK256.out 2).trans XW.i2; have hcz78_3 := (blk_cell BK256.out 3).trans XW.i3; have hcz78_4 := (blk_cell BK256.out 4).trans XW.i4; have hfz78_0 := blk_frozen BK256.out 0; have hfz78_1 := blk_frozen BK256.out 1; have hfz78_2 := blk_frozen BK256.out 2; have hfz78_3 := blk_frozen BK256.out 3; have hfz78_4 := blk_frozen BK256.out 4))
            go_loopg [88] k3 (fun kq v88 w' => ∃ (x88_4 : Int) (x255000_4 : List (Int × Bool)), v88 = .int .i64 x88_4 ∧ Aside0 (impl_DocOK.l2 kq l0_2 (l0_2.length : Int) x81_3 ((rd_T88 l0_2 x81_3).f4) (((rd_T88 l0_2 x81_3).f4).length : Int) x88_4 a0_0 a0_1 l0_2 x255000_4 = some r) ∧ Aside0 (kq ≤ k3) ∧ Aside0 (w'.heap[gb243]? = some (.cells #[.int .i64 a0_0, .int .i64 a0_1, (.slice (some ad255) l0_2.length c0_2)] 29 (0, 0))) ∧ Aside0 (w'.heap[gb254]? = some (XM.mapObj Value.bool x255000_4)) ∧ Aside0 (w'.heap[gb256]? = some (.cells #[.int .i64 ((rd_T88 l0_2 x81_3).f0), .int .i64 ((rd_T88 l0_2 x81_3).f1), .int .i64 ((rd_T88 l0_2 x81_3).f2), .string ((rd_T88 l0_2 x81_3).f3), (.slice A255_4 ((rd_T88 l0_2 x81_3).f4).length c255_4)] 88 (0, 0))) ∧ Aside0 (Below w.heap.size w w'))
            case atStart => exact ⟨(0), (x255000_3), (by first | rfl | (simp; done) | (simp [*]; done)), H', ⟨Nat.le_refl _⟩, ⟨by exact BK243.out⟩, ⟨by exact BK254.out⟩, ⟨by exact BK256.out⟩, ⟨by repeat first | (with_reducible first | exact HB.out | apply XW.bN | apply XW.bD) | exact HB.out⟩⟩
            case round =>
             clear H'
             (try clear c9); (try clear c11); (try clear c11b0); (try clear c70); (try clear c70b0); (try clear c71); (try clear c71b0); (try clear c72); (try clear c72b0); (try clear hcz10_0); (try clear hcz10_1); (try clear hcz10_2); (try clear hcz69_0); (try clear hcz69_1); (try clear hcz69_2); (try clear hcz76_0); (try clear hcz76_1); (try clear hcz76_2); (try clear hcz76_3); (try clear hcz76_4); (try clear hcz78_0); (try clear hcz78_1); (try clear hcz78_2); (try clear hcz78_3); (try clear hcz78_4); (try clear hfz10_0); (try clear hfz10_1); (try clear hfz10_2); (try clear hfz69_0); (try clear hfz69_1); (try clear hfz69_2); (try clear hfz76_0); (try clear hfz76_1); (try clear hfz76_2); (try clear hfz76_3); (try clear hfz76_4); (try clear hfz78_0); (try clear hfz78_1); (try clear hfz78_2); (try clear hfz78_3); (try clear hfz78_4); (try clear hx255_0); (try clear hx255_1); (try clear hx255_2); (try clear hx255_3); (try clear hx255_4); (try clear p255); (try clear q255)
             obtain ⟨x88_4, x255000_4, rfl, HA, HK4, BK243, BK254, BK256, HB⟩ := hrel
             cases gk with
             | zero => exact absurd HA.out (by simp [impl_DocOK.l2])
             | succ k4 =>
              have H := HA.out
              clear HA
              simp only [impl_DocOK.l2] at H
              by_cases c79 : x88_4 < (((rd_T88 l0_2 x81_3).f4).length : Int)
              ·rw [if_pos c79] at H
               have c79b0 : decide (x88_4 < (((rd_T88 l0_2 x81_3).f4).length : Int)) = true := decide_eq_true c79
               clear c79
               by_cases c80 : 0 ≤ x88_4
               ·rw [if_pos c80] at H
                have c80b0 : decide (0 ≤ x88_4) = true := decide_eq_true c80
                clear c80
                by_cases c81 : x88_4 < (((rd_T88 l0_2 x81_3).f4).length : Int)
                ·rw [if_pos c81] at H
                 have c81b0 : decide (x88_4 < (((rd_T88 l0_2 x81_3).f4).length : Int)) = true := decide_eq_true c81
                 clear c81
                 have HC82 := Aside0.mk H
                 clear H
                 have p257 : 0 ≤ (x88_4 : Int) := of_decide_eq_true (by first | (with_reducible assumption) | assumption)
                 have q257 : x88_4 < (((rd_T88 l0_2 x81_3).f4).length : Int) := of_decide_eq_true (by first | (with_reducible assumption) | assumption)
                 obtain ⟨ad257, e257, hx257_0⟩ := Kd.at_int HR255_4.out x88_4 p257 q257
                 cases e257
                 replace hx257_0 := (HB.out.cell (World.block_lt_of_cell? w _ hx257_0)).trans hx257_0
                 replace p257 := eq_true p257
                 replace q257 := eq_true q257
                 go_upto_region 16 with (fail)
                 go_cut [105] (fun v105 wc => ∃ (kq : Nat) (x105_81 : Bool), v105 = .bool x105_81 ∧ Aside0 (impl_DocOK.j5 kq (rd ((rd_T88 l0_2 x81_3).f4) x88_4) l0_2 (l0_2.length : Int) x81_3 ((rd_T88 l0_2 x81_3).f4) (((rd_T88 l0_2 x81_3).f4).length : Int) x88_4 x105_81 a0_0 a0_1 l0_2 x255000_4 = some r) ∧ Aside0 (kq ≤ k4) ∧ Aside0 (wc.heap[gb243]? = some (.cells #[.int .i64 a0_0, .int .i64 a0_1, (.slice (some ad255) l0_2.length c0_2)] 29 (0, 0))) ∧ Aside0 (wc.heap[gb254]? = some (XM.mapObj Value.bool x255000_4)) ∧ Aside0 (wc.heap[gb256]? = some (.cells #[.int .i64 ((rd_T88 l0_2 x81_3).f0), .int .i64 ((rd_T88 l0_2 x81_3).f1), .int .i64 ((rd_T88 l0_2 x81_3).f2), .string ((rd_T88 l0_2 x81_3).f3), (.slice (some ad257) ((rd_T88 l0_2 x81_3).f4).length c255_4)] 88 (0, 0))) ∧ Aside0 (Below w.heap.size w wc))
                 case first =>
                  have H := HC82.out
                  clear HC82
                  by_cases c83 : XM.get false x255000_4 (rd ((rd_T88 l0_2 x81_3).f4) x88_4) = true
                  ·rw [if_pos c83] at H
                   have c83b0 : XM.get false x255000_4 (rd ((rd_T88 l0_2 x81_3).f4) x88_4) = true := c83
                   clear c83
                   (first | rw [c83b0] | (simp only [i64_w, i32_w]; rw [c83b0]) | skip)
                   have H' := Aside0.mk H
                   clear H
                   go_wp2_with (first | ((with_reducible refine gate_dst (N := 94) rfl ?_); (try (refine gate_guard (by rfl) ?_; dsimp only)); refine XM.lookup_event (enc := Value.bool) rfl (N := 94) rfl 89 _ _ rfl false (rd ((rd_T88 l0_2 x81_3).f4) x88_4) (g := gb254) (xs := x255000_4) rfl rfl (by first | (exact BK254.out)) Try.underlying89 Try.underlying3 (by first | rfl | (go_simp; done) | (go_simp; rfl)) ?_))
                   go_meet
                   case rel => exact ⟨_, (true), (by first | rfl | (simp; done) | (simp [*]; done)), H', ⟨by have := HJ1.out; have := HK2.out; have := HK3.out; have := HK4.out; first | omega | exact Nat.le_refl _⟩, ⟨by exact BK243.out⟩, ⟨by exact BK254.out⟩, ⟨by exact BK256.out⟩, ⟨by repeat first | (with_reducible first | exact HB.out | apply XW.bN | apply XW.bD) | exact HB.out⟩⟩
                  ·rw [if_neg c83] at H
                   have c83b0 : XM.get false x255000_4 (rd ((rd_T88 l0_2 x81_3).f4) x88_4) = false := by simpa using c83
                   clear c83
                   (first | rw [c83b0] | (simp only [i64_w, i32_w]; rw [c83b0]) | skip)
                   by_cases c84 : (rd ((rd_T88 l0_2 x81_3).f4) x88_4) = a0_0
                   ·rw [if_pos c84] at H
                    have c84b0 : ((rd ((rd_T88 l0_2 x81_3).f4) x88_4) == a0_0) = true := beq_iff_eq.mpr c84
                    have c84b1 : ((rd ((rd_T88 l0_2 x81_3).f4) x88_4) != a0_0) = false := bne_eq_false_iff_eq.mpr c84
                    clear c84
                    have H' := Aside0.mk H
                    clear H
                    have hnb85 := NB243_254.out
                    have hnc85 := NB254_243.out
                    have hnb86 := NB243_256.out
                    have hnc86 := NB256_243.out
                    have hcz87_0 := (blk_cell BK243.out 0).trans XW.i0
                    have hcz87_1 := (blk_cell BK243.out 1).trans XW.i1
                    have hcz87_2 := (blk_cell BK243.out 2).trans XW.i2
                    have hfz87_0 := blk_frozen BK243.out 0
                    have hfz87_1 := blk_frozen BK243.out 1
                    have hfz87_2 := blk_frozen BK243.out 2
                    go_wp2_with (first | ((with_reducible refine gate_dst (N := 94) rfl ?_); (try (refine gate_guard (by rfl) ?_; dsimp only)); refine XM.lookup_event (enc := Value.bool) rfl (N := 94) rfl 89 _ _ rfl false (rd ((rd_T88 l0_2 x81_3).f4) x88_4) (g := gb254) (xs := x255000_4) rfl rfl (by first | (exact BK254.out)) Try.underlying89 Try.underlying3 (by first | rfl | (go_simp; done) | (go_simp; rfl)) ?_))
                    go_meet
                    case rel => exact ⟨_, (true), (by first | rfl | (simp; done) | (simp [*]; done)), H', ⟨by have := HJ1.out; have := HK2.out; have := HK3.out; have := HK4.out; first | omega | exact Nat.le_refl _⟩, ⟨by exact BK243.out⟩, ⟨by exact BK254.out⟩, ⟨by exact BK256.out⟩, ⟨by repeat first | (with_reducible first | exact HB.out | apply XW.bN | apply XW.bD) | exact HB.out⟩⟩
                   ·rw [if_neg c84] at H
                    have c84b0 : ((rd ((rd_T88 l0_2 x81_3).f4) x88_4) == a0_0) = false := beq_eq_false_iff_ne.mpr c84
                    have c84b1 : ((rd ((rd_T88 l0_2 x81_3).f4) x88_4) != a0_0) = true := bne_iff_ne.mpr c84
                    replace H := Option.bind_eq_some_iff.mp H
                    obtain ⟨t258, A880, H⟩ := H
                    (try dsimp only at H)
                    have A88 := Aside0.mk A880
                    clear A880
                    have H' := Aside0.mk H
                    clear H
                    have hnb89 := NB243_254.out
                    have hnc89 := NB254_243.out
                    have hnb90 := NB243_256.out
                    have hnc90 := NB256_243.out
                    have hcz91_0 := (blk_cell BK243.out 0).trans XW.i0
                    have hcz91_1 := (blk_cell BK243.out 1).trans XW.i1
                    have hcz91_2 := (blk_cell BK243.out 2).trans XW.i2
                    have hfz91_0 := blk_frozen BK243.out 0
                    have hfz91_1 := blk_frozen BK243.out 1
                    have hfz91_2 := blk_frozen BK243.out 2
                    go_wp2_with (first | ((with_reducible refine gate_dst (N := 94) rfl ?_); (try (refine gate_guard (by rfl) ?_; dsimp only)); refine XM.lookup_event (enc := Value.bool) rfl (N := 94) rfl 89 _ _ rfl false (rd ((rd_T88 l0_2 x81_3).f4) x88_4) (g := gb254) (xs := x255000_4) rfl rfl (by first | (exact BK254.out)) Try.underlying89 Try.underlying3 (by first | rfl | (go_simp; done) | (go_simp; rfl)) ?_) | (go_at_call 61; (with_reducible refine (impl_Doc_has.calls k4 gb243 a0_0 a0_1 (some ad255) c0_2 l0_2 (rd ((rd_T88 l0_2 x81_3).f4) x88_4) t258 _ ?side1 ?side2 ?side3 A88.out).mono ?_); (case side1 => exact (by exact BK243.out)); (case side2 => repeat (first | exact (Kd.C_below HR0_2.out HB.out) | (with_reducible first | refine Kd.C_alloc ?_ _ | refine Kd.C_drewN ?_ _ | refine Kd.C_drew ?_))); (case side3 => exact HC0_2.out); rintro e w92 ⟨rfl, hb⟩; replace BK243 := Aside0.mk (blk_below (g := gb243) (o := .cells #[.int .i64 a0_0, .int .i64 a0_1, .slice (some ad255) l0_2.length c0_2] 29 (0, 0)) (by exact BK243.out) hb); replace BK254 := Aside0.mk (blk_below (g := gb254) (o := XM.mapObj Value.bool x255000_4) (by exact BK254.out) hb); replace BK256 := Aside0.mk (blk_below (g := gb256) (o := .cells #[.int .i64 ((rd_T88 l0_2 x81_3).f0), .int .i64 ((rd_T88 l0_2 x81_3).f1), .int .i64 ((rd_T88 l0_2 x81_3).f2), .string ((rd_T88 l0_2 x81_3).f3), .slice (some ad257) ((rd_T88 l0_2 x81_3).f4).length c255_4] 88 (0, 0)) (by exact BK256.out) hb); replace HB := Aside0.mk (below_step (by repeat first | (with_reducible first | exact HB.out | apply XW.bN | apply XW.bD) | exact HB.out) hb); (try clear hb); (try clear hb2); (try clear hk); (try clear hi)))
                    go_meet
                    case rel => exact ⟨_, (!t258), (by first | rfl | (simp; done) | (simp [*]; done)), H', ⟨by have := HJ1.out; have := HK2.out; have := HK3.out; have := HK4.out; first | omega | exact Nat.le_refl _⟩, ⟨by exact BK243.out⟩, ⟨by exact BK254.out⟩, ⟨by exact BK256.out⟩, ⟨by repeat first | (with_reducible first | exact HB.out | apply XW.bN | apply XW.bD) | exact HB.out⟩⟩
                 case rest =>
                  clear HC82
                  (try clear c9); (try clear c11); (try clear c11b0); (try clear c70); (try clear c70b0); (try clear c71); (try clear c71b0); (try clear c72); (try clear c72b0); (try clear c79); (try clear c79b0); (try clear c80); (try clear c80b0); (try clear c81); (try clear c81b0); (try clear hcz10_0); (try clear hcz10_1); (try clear hcz10_2); (try clear hcz69_0); (try clear hcz69_1); (try clear hcz69_2); (try clear hcz76_0); (try clear hcz76_1); (try clear hcz76_2); (try clear hcz76_3); (try clear hcz76_4); (try clear hcz78_0); (try clear hcz78_1); (try clear hcz78_2); (try clear hcz78_3); (try clear hcz78_4); (try clear hfz10_0); (try clear hfz10_1); (try clear hfz10_2); (try clear hfz69_0); (try clear hfz69_1); (try clear hfz69_2); (try clear hfz76_0); (try clear hfz76_1); (try clear hfz76_2); (try clear hfz76_3); (try clear hfz76_4); (try clear hfz78_0); (try clear hfz78_1); (try clear hfz78_2); (try clear hfz78_3); (try clear hfz78_4); (try clear hx255_0); (try clear hx255_1); (try clear hx255_2); (try clear hx255_3); (try clear hx255_4); (try clear hx257_0); (try clear p255); (try clear p257); (try clear q255); (try clear q257)
                  obtain ⟨kq, x105_81, rfl, HA, HJ81, BK243, BK254, BK256, HB⟩ := hcut
                  cases kq with
                  | zero => exact absurd HA.out (by simp [impl_DocOK.j5])
                  | succ kj81 =>
                   have H := HA.out
                   clear HA
                   simp only [impl_DocOK.j5] at H
                   by_cases c93 : x105_81 = true
                   ·subst c93
                    (first | rw [if_pos rfl] at H | skip)
                    obtain rfl := Option.some.inj H
                    go_wp2
                    go_ret
                    exact ⟨by first | rfl | (simp [errW_none, errW_some] <;> rfl) | (simp [*, errW_none, errW_some] <;> rfl), by repeat first | (with_reducible first | exact HB.out | apply XW.bN | apply XW.bD) | exact HB.out⟩
                   ·replace c93 := Bool.eq_false_iff.mpr c93
                    subst c93
                    (first | rw [if_neg (show ¬ (false = true) by decide)] at H | skip)
                    have H' := Aside0.mk H
                    clear H
                    go_wp2_with (first | ((with_reducible refine XM.gate_update (t := 89) rfl ?_); refine XM.update_event (enc := Value.bool) rfl rfl 89 _ _ _ rfl (rd ((rd_T88 l0_2 x81_3).f4) x88_4) true (g := gb254) (xs := x255000_4) rfl rfl rfl (by first | (exact BK254.out)) Try.underlying89 Try.underlying3 ?_; intro w94 hbox hg; replace BK243 := Aside0.mk (blk_grown (g := gb243) (o := .cells #[.int .i64 a0_0, .int .i64 a0_1, .slice (some ad255) l0_2.length c0_2] 29 (0, 0)) (by exact BK243.out) hg (fun e_ => NB243_254.out (Option.some.inj e_))); replace BK254 := Aside0.mk (hbox); replace BK256 := Aside0.mk (blk_grown (g := gb256) (o := .cells #[.int .i64 ((rd_T88 l0_2 x81_3).f0), .int .i64 ((rd_T88 l0_2 x81_3).f1), .int .i64 ((rd_T88 l0_2 x81_3).f2), .string ((rd_T88 l0_2 x81_3).f3), .slice (some ad257) ((rd_T88 l0_2 x81_3).f4).length c255_4] 88 (0, 0)) (by exact BK256.out) hg (fun e_ => NB256_254.out (Option.some.inj e_))); replace HB := Aside0.mk (Below.grown (by repeat first | (with_reducible first | exact HB.out | apply XW.bN | apply XW.bD) | exact HB.out) hg HB.out.size (fun k_ e_ => Option.some.inj e_ ▸ GE254.out)); clear hbox hg))
                    go_roundg kj81
                    case measure => have := HJ1.out; have := HK2.out; have := HK3.out; have := HK4.out; have := HJ81.out; omega
                    case rel => exact ⟨(wrap64 (x88_4 + 1)), (XM.put x255000_4 (rd ((rd_T88 l0_2 x81_3).f4) x88_4) true), (by first | rfl | (simp; done) | (simp [*]; done)), H', ⟨by have := HJ1.out; have := HK2.out; have := HK3.out; have := HK4.out; have := HJ81.out; omega⟩, ⟨by exact BK243.out⟩, ⟨by exact BK254.out⟩, ⟨by exact BK256.out⟩, ⟨by repeat first | (with_reducible first | exact HB.out | apply XW.bN | apply XW.bD) | exact HB.out⟩⟩
                ·rw [if_neg c81] at H
                 exact absurd H (by simp)
               ·rw [if_neg c80] at H
                exact absurd H (by simp)
              ·rw [if_neg c79] at H
               have c79b0 : decide (x88_4 < (((rd_T88 l0_2 x81_3).f4).length : Int)) = false := decide_eq_false c79
               clear c79
               have H' := Aside0.mk H
               clear H
               go_wp2
               go_roundg k4
               case measure => have := HJ1.out; have := HK2.out; have := HK3.out; have := HK4.out; omega
               case rel => exact ⟨(wrap64 (x81_3 + 1)), (x255000_4), (by first | rfl | (simp; done) | (simp [*]; done)), H', ⟨by have := HJ1.out; have := HK2.out; have := HK3.out; have := HK4.out; omega⟩, ⟨by exact BK243.out⟩, ⟨by exact BK254.out⟩, ⟨by repeat first | (with_reducible first | exact HB.out | apply XW.bN | apply XW.bD) | exact HB.out⟩⟩
           ·rw [if_neg c72] at H
            exact absurd H (by simp)
          ·rw [if_neg c71] at H
           exact absurd H (by simp)
         ·rw [if_neg c70] at H
          have c70b0 : decide (x81_3 < (l0_2.length : Int)) = false := decide_eq_false c70
          clear c70
          have HC95 := Aside0.mk H
          clear H
          go_upto_region 21 with (fail)
          go_cut [125] (fun v125 wc => ∃ (kq : Nat) (x125_94 : Bool), v125 = .bool x125_94 ∧ Aside0 (impl_DocOK.j6 kq x125_94 a0_0 a0_1 l0_2 = some r) ∧ Aside0 (kq ≤ k3) ∧ Aside0 (wc.heap[gb243]? = some (.cells #[.int .i64 a0_0, .int .i64 a0_1, (.slice A0_2 l0_2.length c0_2)] 29 (0, 0))) ∧ Aside0 (wc.heap[gb254]? = some (XM.mapObj Value.bool x255000_3)) ∧ Aside0 (Below w.heap.size w wc))
          case first =>
           have H := HC95.out
           clear HC95
           replace H := Option.bind_eq_some_iff.mp H
           obtain ⟨t259, A960, H⟩ := H
           (try dsimp only at H)
           have A96 := Aside0.mk A960
           clear A960
           by_cases c97 : t259 = true
           ·subst c97
            (first | rw [if_pos rfl] at H | skip)
            by_cases c98 : (x255000_3.length : Int) = (wrap64 ((l0_2.length : Int) - 1))
            ·rw [if_pos c98] at H
             have c98b0 : ((x255000_3.length : Int) == (wrap64 ((l0_2.length : Int) - 1))) = true := beq_iff_eq.mpr c98
             have c98b1 : ((x255000_3.length : Int) != (wrap64 ((l0_2.length : Int) - 1))) = false := bne_eq_false_iff_eq.mpr c98
             clear c98
             (first | rw [c98b0] | (simp only [i64_w, i32_w]; rw [c98b0]) | skip)
             replace H := Option.bind_eq_some_iff.mp H
             obtain ⟨t260, A990, H⟩ := H
             (try dsimp only at H)
             have A99 := Aside0.mk A990
             clear A990
             have H' := Aside0.mk H
             clear H
             have hnb100 := NB243_254.out
             have hnc100 := NB254_243.out
             have hcz101_0 := (blk_cell BK243.out 0).trans XW.i0
             have hcz101_1 := (blk_cell BK243.out 1).trans XW.i1
             have hcz101_2 := (blk_cell BK243.out 2).trans XW.i2
             have hfz101_0 := blk_frozen BK243.out 0
             have hfz101_1 := blk_frozen BK243.out 1
             have hfz101_2 := blk_frozen BK243.out 2
             go_wp2_with (first | ((with_reducible refine gate_callee (f := 61) rfl ?_); refine goesL_ (some 112) rfl rfl Try.func61 (by kernel_rfl) rfl #[.pointer (some ⟨gb243, 0, none⟩), .int .i64 a0_0] rfl (by (try simp only [List.map_toArray, List.map_cons, List.map_nil]); first | done | rfl | (simp only [List.length_drop, List.length_take]; rfl)) ?_; (with_reducible refine (impl_Doc_has.calls k3 gb243 a0_0 a0_1 A0_2 c0_2 l0_2 a0_0 true _ ?side1 ?side2 ?side3 A96.out).mono ?_); (case side1 => exact (by exact BK243.out)); (case side2 => repeat (first | exact (Kd.C_below HR0_2.out HB.out) | (with_reducible first | refine Kd.C_alloc ?_ _ | refine Kd.C_drewN ?_ _ | refine Kd.C_drew ?_))); (case side3 => exact HC0_2.out); rintro e w102 ⟨rfl, hb⟩; refine ⟨_, rfl, ?_⟩; replace BK243 := Aside0.mk (blk_below (g := gb243) (o := .cells #[.int .i64 a0_0, .int .i64 a0_1, .slice A0_2 l0_2.length c0_2] 29 (0, 0)) (by exact BK243.out) hb); replace BK254 := Aside0.mk (blk_below (g := gb254) (o := XM.mapObj Value.bool x255000_3) (by exact BK254.out) hb); replace HB := Aside0.mk (below_step (by repeat first | (with_reducible first | exact HB.out | apply XW.bN | apply XW.bD) | exact HB.out) hb); (try clear hb); (try clear hb2); (try clear hk); (try clear hi); have hcz103_0 := (blk_cell BK243.out 0).trans XW.i0; have hcz103_1 := (blk_cell BK243.out 1).trans XW.i1; have hcz103_2 := (blk_cell BK243.out 2).trans XW.i2; have hfz103_0 := blk_frozen BK243.out 0; have hfz103_1 := blk_frozen BK243.out 1; have hfz103_2 := blk_frozen BK243.out 2) | ((with_reducible refine gate_dst (N := 116) rfl ?_); (try (refine gate_guard (by rfl) ?_; dsimp only)); refine XM.len_event (enc := Value.bool) rfl (N := 116) rfl 89 _ rfl (g := gb254) (xs := x255000_3) rfl (by first | (exact BK254.out)) Try.underlying89 ?_) | (go_at_call 62; (with_reducible refine (impl_Doc_isDeep.calls k3 gb243 a0_0 a0_1 A0_2 c0_2 l0_2 t260 _ ?side1 ?side2 ?side3 A99.out).mono ?_); (case side1 => exact (by exact BK243.out)); (case side2 => repeat (first | exact (Kd.C_below HR0_2.out HB.out) | (with_reducible first | refine Kd.C_alloc ?_ _ | refine Kd.C_drewN ?_ _ | refine Kd.C_drew ?_))); (case side3 => exact HC0_2.out); rintro e w104 ⟨rfl, hb⟩; replace BK243 := Aside0.mk (blk_below (g := gb243) (o := .cells #[.int .i64 a0_0, .int .i64 a0_1, .slice A0_2 l0_2.length c0_2] 29 (0, 0)) (by exact BK243.out) hb); replace BK254 := Aside0.mk (blk_below (g := gb254) (o := XM.mapObj Value.bool x255000_3) (by exact BK254.out) hb); replace HB := Aside0.mk (below_step (by repeat first | (with_reducible first | exact HB.out | apply XW.bN | apply XW.bD) | exact HB.out) hb); (try clear hb); (try clear hb2); (try clear hk); (try clear hi)))
             go_meet
             case rel => exact ⟨_, (t260), (by first | rfl | (simp; done) | (simp [*]; done)), H', ⟨by have := HJ1.out; have := HK2.out; have := HK3.out; first | omega | exact Nat.le_refl _⟩, ⟨by exact BK243.out⟩, ⟨by exact BK254.out⟩, ⟨by repeat first | (with_reducible first | exact HB.out | apply XW.bN | apply XW.bD) | exact HB.out⟩⟩
            ·rw [if_neg c98] at H
             have c98b0 : ((x255000_3.length : Int) == (wrap64 ((l0_2.length : Int) - 1))) = false := beq_eq_false_iff_ne.mpr c98
             have c98b1 : ((x255000_3.length : Int) != (wrap64 ((l0_2.length : Int) - 1))) = true := bne_iff_ne.mpr c98
             (first | rw [c98b0] | (simp only [i64_w, i32_w]; rw [c98b0]) | skip)
             have H' := Aside0.mk H
             clear H
             have hnb105 := NB243_254.out
             have hnc105 := NB254_243.out
             have hcz106_0 := (blk_cell BK243.out 0).trans XW.i0
             have hcz106_1 := (blk_cell BK243.out 1).trans XW.i1
             have hcz106_2 := (blk_cell BK243.out 2).trans XW.i2
             have hfz106_0 := blk_frozen BK243.out 0
             have hfz106_1 := blk_frozen BK243.out 1
             have hfz106_2 := blk_frozen BK243.out 2
             go_wp2_with (first | ((with_reducible refine gate_callee (f := 61) rfl ?_); refine goesL_ (some 112) rfl rfl Try.func61 (by kernel_rfl) rfl #[.pointer (some ⟨gb243, 0, none⟩), .int .i64 a0_0] rfl (by (try simp only [List.map_toArray, List.map_cons, List.map_nil]); first | done | rfl | (simp only [List.length_drop, List.length_take]; rfl)) ?_; (with_reducible refine (impl_Doc_has.calls k3 gb243 a0_0 a0_1 A0_2 c0_2 l0_2 a0_0 true _ ?side1 ?side2 ?side3 A96.out).mono ?_); (case side1 => exact (by exact BK243.out)); (case side2 => repeat (first | exact (Kd.C_below HR0_2.out HB.out) | (with_reducible first | refine Kd.C_alloc ?_ _ | refine Kd.C_drewN ?_ _ | refine Kd.C_drew ?_))); (case side3 => exact HC0_2.out); rintro e w107 ⟨rfl, hb⟩; refine ⟨_, rfl, ?_⟩; replace BK243 := Aside0.mk (blk_below (g := gb243) (o := .cells #[.int .i64 a0_0, .int .i64 a0_1, .slice A0_2 l0_2.length c0_2] 29 (0, 0)) (by exact BK243.out) hb); replace BK254 := Aside0.mk (blk_below (g := gb254) (o := XM.mapObj Value.bool x255000_3) (by exact BK254.out) hb); replace HB := Aside0.mk (below_step (by repeat first | (with_reducible first | exact HB.out | apply XW.bN | apply XW.bD) | exact HB.out) hb); (try clear hb); (try clear hb2); (try clear hk); (try clear hi); have hcz108_0 := (blk_cell BK243.out 0).trans XW.i0; have hcz108_1 := (blk_cell BK243.out 1).trans XW.i1; have hcz108_2 := (blk_cell BK243.out 2).trans XW.i2; have hfz108_0 := blk_frozen BK243.out 0; have hfz108_1 := blk_frozen BK243.out 1; have hfz108_2 := blk_frozen BK243.out 2) | ((with_reducible refine gate_dst (N := 116) rfl ?_); (try (refine gate_guard (by rfl) ?_; dsimp only)); refine XM.len_event (enc := Value.bool) rfl (N := 116) rfl 89 _ rfl (g := gb254) (xs := x255000_3) rfl (by first | (exact BK254.out)) Try.underlying89 ?_))
             go_meet
             case rel => exact ⟨_, (true), (by first | rfl | (simp; done) | (simp [*]; done)), H', ⟨by have := HJ1.out; have := HK2.out; have := HK3.out; first | omega | exact Nat.le_refl _⟩, ⟨by exact BK243.out⟩, ⟨by exact BK254.out⟩, ⟨by repeat first | (with_reducible first | exact HB.out | apply XW.bN | apply XW.bD) | exact HB.out⟩⟩
           ·replace c97 := Bool.eq_false_iff.mpr c97
            subst c97
            (first | rw [if_neg (show ¬ (false = true) by decide)] at H | skip)
            have H' := Aside0.mk H
            clear H
            have hnb109 := NB243_254.out
            have hnc109 := NB254_243.out
            have hcz110_0 := (blk_cell BK243.out 0).trans XW.i0
            have hcz110_1 := (blk_cell BK243.out 1).trans XW.i1
            have hcz110_2 := (blk_cell BK243.out 2).trans XW.i2
            have hfz110_0 := blk_frozen BK243.out 0
            have hfz110_1 := blk_frozen BK243.out 1
            have hfz110_2 := blk_frozen BK243.out 2
            go_wp2_with (first | ((with_reducible refine gate_callee (f := 61) rfl ?_); refine goesL_ (some 112) rfl rfl Try.func61 (by kernel_rfl) rfl #[.pointer (some ⟨gb243, 0, none⟩), .int .i64 a0_0] rfl (by (try simp only [List.map_toArray, List.map_cons, List.map_nil]); first | done | rfl | (simp only [List.length_drop, List.length_take]; rfl)) ?_; (with_reducible refine (impl_Doc_has.calls k3 gb243 a0_0 a0_1 A0_2 c0_2 l0_2 a0_0 false _ ?side1 ?side2 ?side3 A96.out).mono ?_); (case side1 => exact (by exact BK243.out)); (case side2 => repeat (first | exact (Kd.C_below HR0_2.out HB.out) | (with_reducible first | refine Kd.C_alloc ?_ _ | refine Kd.C_drewN ?_ _ | refine Kd.C_drew ?_))); (case side3 => exact HC0_2.out); rintro e w111 ⟨rfl, hb⟩; refine ⟨_, rfl, ?_⟩; replace BK243 := Aside0.mk (blk_below (g := gb243) (o := .cells #[.int .i64 a0_0, .int .i64 a0_1, .slice A0_2 l0_2.length c0_2] 29 (0, 0)) (by exact BK243.out) hb); replace BK254 := Aside0.mk (blk_below (g := gb254) (o := XM.mapObj Value.bool x255000_3) (by exact BK254.out) hb); replace HB := Aside0.mk (below_step (by repeat first | (with_reducible first | exact HB.out | apply XW.bN | apply XW.bD) | exact HB.out) hb); (try clear hb); (try clear hb2); (try clear hk); (try clear hi)))
            go_meet
            case rel => exact ⟨_, (true), (by first | rfl | (simp; done) | (simp [*]; done)), H', ⟨by have := HJ1.out; have := HK2.out; have := HK3.out; first | omega | exact Nat.le_refl _⟩, ⟨by exact BK243.out⟩, ⟨by exact BK254.out⟩, ⟨by repeat first | (with_reducible first | exact HB.out | apply XW.bN | apply XW.bD) | exact HB.out⟩⟩
          case rest =>
           clear HC95
           (try clear c9); (try clear c11); (try clear c11b0); (try clear c70); (try clear c70b0); (try clear hcz10_0); (try clear hcz10_1); (try clear hcz10_2); (try clear hcz69_0); (try clear hcz69_1); (try clear hcz69_2); (try clear hfz10_0); (try clear hfz10_1); (try clear hfz10_2); (try clear hfz69_0); (try clear hfz69_1); (try clear hfz69_2)
           obtain ⟨kq, x125_94, rfl, HA, HJ94, BK243, BK254, HB⟩ := hcut
           cases kq with
           | zero => exact absurd HA.out (by simp [impl_DocOK.j6])
           | succ kj94 =>
            have H := HA.out
            clear HA
            simp only [impl_DocOK.j6] at H
            by_cases c112 : x125_94 = true
            ·subst c112
             (first | rw [if_pos rfl] at H | skip)
             obtain rfl := Option.some.inj H
             go_wp2
             go_ret
             exact ⟨by first | rfl | (simp [errW_none, errW_some] <;> rfl) | (simp [*, errW_none, errW_some] <;> rfl), by repeat first | (with_reducible first | exact HB.out | apply XW.bN | apply XW.bD) | exact HB.out⟩
            ·replace c112 := Bool.eq_false_iff.mpr c112
             subst c112
             (first | rw [if_neg (show ¬ (false = true) by decide)] at H | skip)
             replace H := Option.bind_eq_some_iff.mp H
             obtain ⟨t261, A1130, H⟩ := H
             (try dsimp only at H)
             have A113 := Aside0.mk A1130
             clear A1130
             obtain rfl := Option.some.inj H
             try go_wp2_with (fail)
             replace BK243 := Aside0.mk (blk_drew BK243.out)
             replace BK254 := Aside0.mk (blk_drew BK254.out)
             replace HB := Aside0.mk (below_drew1 HB.out)
             refine start_ (n := 9) (S := fun w' => w'.cell? ⟨gb243, 0, none⟩ = some (.int .i64 a0_0) ∧ w'.cell? ⟨gb243, 1, none⟩ = some (.int .i64 a0_1) ∧ w'.cell? ⟨gb243, 2, none⟩ = some (.slice A0_2 l0_2.length c0_2)) (ds := []) #[false, false, false, false, false, false, false, false, false] (by kernel_rfl) rfl rfl ⟨(blk_cell BK243.out 0).trans rfl, (blk_cell BK243.out 1).trans rfl, (blk_cell BK243.out 2).trans rfl⟩ (fun hHeld => ?_); refine with_tabW impl_DocOK.tab23 impl_DocOK.bits23 (fun HT_ HW_ => ?_)
             generalize wc.drew = w114 at BK243 BK254 HB hHeld ⊢
             refine pure_ (i := 0) (N := some 126) (v := ?_) (a' := ?_) (XW.bs 9 1) rfl rfl (any_of HT_.out (by kernel_rfl)) (fun _ _ _ h => h) (Or.inl ⟨by rfl, ?_⟩) ?_ ?_
             rotate_left
             ·intro w'
              go_simp
              with_reducible rfl
             rotate_left
             ·simp only [XW.q0, XW.q1, XW.q2, i64_w, i32_w]
              rfl
             refine pure_ (i := 4) (N := some 130) (v := ?_) (a' := ?_) (XW.bs 9 17) rfl rfl (any_of HT_.out (by kernel_rfl)) (fun _ _ _ h => h) (Or.inl ⟨by rfl, ?_⟩) ?_ ?_
             rotate_left
             ·intro w'
              go_simp
              with_reducible rfl
             rotate_left
             ·simp only [XW.q0, XW.q1, XW.q2, i64_w, i32_w]
              rfl
             refine take_ (i := 1) (N := some 127) (v := ?_) (a' := ?_) (XW.bs 9 19) rfl rfl (take_ofW HT_.out HW_.out (by kernel_rfl)) (fun _ _ _ h => h) (Or.inl ⟨by rfl, ?_⟩) hHeld ?_ ?_
             rotate_left
             ·rintro w' ⟨s0, s1, s2⟩
              go_simp
              with_reducible rfl
             rotate_left
             ·simp only [XW.q0, XW.q1, XW.q2, i64_w, i32_w]
              rfl
             refine take_ (i := 5) (N := some 131) (v := ?_) (a' := ?_) (XW.bs 9 51) rfl rfl (take_ofW HT_.out HW_.out (by kernel_rfl)) (fun _ _ _ h => h) (Or.inl ⟨by rfl, ?_⟩) hHeld ?_ ?_
             rotate_left
             ·rintro w' ⟨s0, s1, s2⟩
              go_simp
              with_reducible rfl
             rotate_left
             ·simp only [XW.q0, XW.q1, XW.q2, i64_w, i32_w]
              rfl
             refine pure_ (i := 6) (N := some 132) (v := ?_) (a' := ?_) (XW.bs 9 115) rfl rfl (any_of HT_.out (by kernel_rfl)) (fun _ _ _ h => h) (Or.inl ⟨by rfl, ?_⟩) ?_ ?_
             rotate_left
             ·intro w'
              go_simp
              with_reducible rfl
             rotate_left
             ·simp only [XW.q0, XW.q1, XW.q2, i64_w, i32_w]
              rfl
             refine one_ (i := 2) (N := some 128) (XW.bs 9 119) rfl rfl (one_of HT_.out (by kernel_rfl)) (by decide) (fun K hK => ?_)
             refine goes_ Try.func63 (by kernel_rfl) rfl #[.pointer (some ⟨gb243, 0, none⟩), .slice none 0 0, .int .i64 a0_0] (by rfl) rfl rfl (by (try simp only [List.map_toArray, List.map_cons, List.map_nil]); first | done | rfl | (simp only [List.length_drop, List.length_take]; rfl)) ?_
             refine (impl_Doc_order.calls kj94 gb243 a0_0 a0_1 A0_2 c0_2 l0_2 (fun k_ => some k_ = (.slice none 0 0 : Value).ownBlock) (.slice none 0 0) ([] : List Int) a0_0 t261 w _ ?side1 ?side2 ?side3 ?side4 ?side5 A113.out).mono ?_
             (case side1 => repeat first | (with_reducible first | exact HB.out | apply XW.bN | apply XW.bD) | exact HB.out)
             (case side2 => exact (by exact BK243.out))
             (case side3 => exact Kd.C_kept_came k88_heap HR0_2.out (by repeat first | (with_reducible first | exact HB.out | apply XW.bN | apply XW.bD) | exact HB.out) (fun k_ hs_ => (fun e_ => by simp [Value.ownBlock] at e_) hs_))
             (case side4 => exact HC0_2.out)
             (case side5 => exact Kd.R_nil _ _ _ _ _)
             rintro e w115 ⟨v262, rfl, ho0, hb, hkp⟩
             refine ⟨_, rfl, ?_⟩
             replace BK243 := Aside0.mk (blk_kept (by exact BK243.out) hkp (fun hs_ => (fun e_ => by simp [Value.ownBlock] at e_) hs_))
             replace BK254 := Aside0.mk (blk_kept (by exact BK254.out) hkp (fun hs_ => (fun e_ => by simp [Value.ownBlock] at e_) hs_))
             have HO263 := Aside0.mk (Kd.R_mono (ok' := fun k_ => True) ho0 (fun k_ hk_ => trivial))
             replace HB := Aside0.mk (hb)
             (try clear hb)
             (try clear hkp)
             (try clear ho0)
             obtain ⟨Ao116, co116, eo116⟩ := Kd.R_slice HO263.out
             (first | subst eo116 | (injection eo116 with f1_ f2_ f3_; have f4_ := f1_.symm; have f5_ := f3_.symm; clear f1_ f2_ f3_; subst f4_; subst f5_))
             refine hK.out _ _ ⟨(blk_cell BK243.out 0).trans rfl, (blk_cell BK243.out 1).trans rfl, (blk_cell BK243.out 2).trans rfl⟩ (fun hHeld => ?_)
             clear hK K
             refine norm_ (a' := ?_) ?_ ?_
             rotate_left
             ·show Act.put _ (some 128) _ = _
              simp only [XW.q0, XW.q1, XW.q2, i64_w, i32_w]
              rfl
             refine pure_ (i := 3) (N := some 129) (v := ?_) (a' := ?_) (XW.bs 9 127) rfl rfl (any_of HT_.out (by kernel_rfl)) (fun _ _ _ h => h) (Or.inl ⟨by rfl, ?_⟩) ?_ ?_
             rotate_left
             ·intro w'
              go_simp
              with_reducible rfl
             rotate_left
             ·simp only [XW.q0, XW.q1, XW.q2, i64_w, i32_w]
              rfl
             refine pure_ (i := 7) (N := some 133) (v := ?_) (a' := ?_) (XW.bs 9 255) rfl rfl (any_of HT_.out (by kernel_rfl)) (fun _ _ _ h => h) (Or.inl ⟨by rfl, ?_⟩) ?_ ?_
             rotate_left
             ·intro w'
              go_simp
              with_reducible rfl
             rotate_left
             ·simp only [XW.q0, XW.q1, XW.q2, i64_w, i32_w]
              rfl
             refine pure_ (i := 8) (N := some 2) (v := ?_) (a' := ?_) (XW.bs 9 511) rfl rfl (any_of HT_.out (by kernel_rfl)) (fun _ _ _ h => h) (Or.inl ⟨by rfl, ?_⟩) ?_ ?_
             rotate_left
             ·intro w'
              go_simp
              with_reducible rfl
             rotate_left
             ·simp only [XW.q0, XW.q1, XW.q2, i64_w, i32_w]
              rfl
             refine done_ (done_of HT_.out (by kernel_rfl)) ?_
             try go_wp2_with (fail)
             go_ret
             exact ⟨by first | rfl | (simp [errW_none, errW_some] <;> rfl) | (simp [*, errW_none, errW_some] <;> rfl), by repeat first | (with_reducible first | exact HB.out | apply XW.bN | apply XW.bD) | exact HB.out⟩

end Go.Proofs.Ytfemohapampkiaa.XA
